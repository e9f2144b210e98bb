/-
  No cell of these rows narrows 'for every input' (looked for: loops, veiled, ifaces, maps, wideKeys, modest, calm, conditions, laid).
  DERIVED. THE GIVEN ROWS OF THIS SEAT. 10 by the template 'for every input the law returns true; each argument reads behind the call as it read before'; 0 by the template 'total and deterministic' (their statements: YtgmdoapedhppmaaTotals.lean).
  GIVEN WITH THE SEED: the statements are not yours to turn. If you find one false, say at which input.
  Laid BY PROGRAM, IN A SANDBOX (cutbox-rows.mjs): the forced cells as the released guide's own fill.sh prints them over the translation 9a6d250f74a10611… (all of the seat's roots in one cut). By AI agents, Wed Nov 11 2026. No macro, syntax, notation, axiom, sorry.
-/
import Derived.Test.YtgmdoapedhppmaaChecked
import GoSem.Claim
import GoSem.ClaimJoined
import GoSem.ClaimMapViews
import Derived.JoinedTies
import Derived.KernelRfl
namespace Go.Proofs.Ytgmdoapedhppmaa
/- THE CELL 'sum', in the pinned program and in every row, IS THE sha256 OF THE DUMP (.gsa) THAT YtgmdoapedhppmaaProg.lean LOADS. Nothing in Lean hashes anything: it is a label: what it is worth is what the hold of that sum in a sandbox is worth. -/
noncomputable def Try.pinned : Pinned := { name := "ytgmdoapedhppmaa", sum := "9a6d250f74a106117a290ff1dc95c65c73829eb5aa34545ee9525c35910b1ff2", checked := Try.checked }
namespace Rows
def none {H : Type} : Left H := { results := [], args := [] }

/-- 'tidemarklaw04.CodecWrites': WHATEVER THE INPUT: true; the input reads as it did. -/
def codecWritesSpec : ChangeSpec := { name := "codecWrites", fn := fun _ => fun
  | [d1, d2, d3, d4] => { results := [.lit (.bool true)], args := [d1, d2, d3, d4] }
  | _ => none }
def codecWritesRow : OpenClaim := { program := "ytgmdoapedhppmaa", sum := "9a6d250f74a106117a290ff1dc95c65c73829eb5aa34545ee9525c35910b1ff2", func := "tidemark/tidemarklaw04.CodecWrites", spec := "codecWrites", unfollowed := true, recurses := true, apart := false }
def CodecWritesSaid : Prop := codecWritesRow.holds Try.pinned (OpenSpec.ofChange codecWritesSpec)

/-- ITS FALSE NEIGHBOUR: 'it returns false'. Refute it at one input. -/
def codecWritesWrong : ChangeSpec := { name := "codecWrites", fn := fun _ => fun
  | [d1, d2, d3, d4] => { results := [.lit (.bool false)], args := [d1, d2, d3, d4] }
  | _ => none }
def CodecWritesWrongFalsely : Prop := codecWritesRow.holds Try.pinned (OpenSpec.ofChange codecWritesWrong)

/-- 'tidemarklaw04.CodecOrder': WHATEVER THE INPUT: true; the input reads as it did. -/
def codecOrderSpec : ChangeSpec := { name := "codecOrder", fn := fun _ => fun
  | [d1, d2, d3] => { results := [.lit (.bool true)], args := [d1, d2, d3] }
  | _ => none }
def codecOrderRow : OpenClaim := { program := "ytgmdoapedhppmaa", sum := "9a6d250f74a106117a290ff1dc95c65c73829eb5aa34545ee9525c35910b1ff2", func := "tidemark/tidemarklaw04.CodecOrder", spec := "codecOrder", unfollowed := true, recurses := true, apart := false }
def CodecOrderSaid : Prop := codecOrderRow.holds Try.pinned (OpenSpec.ofChange codecOrderSpec)

/-- ITS FALSE NEIGHBOUR: 'it returns false'. Refute it at one input. -/
def codecOrderWrong : ChangeSpec := { name := "codecOrder", fn := fun _ => fun
  | [d1, d2, d3] => { results := [.lit (.bool false)], args := [d1, d2, d3] }
  | _ => none }
def CodecOrderWrongFalsely : Prop := codecOrderRow.holds Try.pinned (OpenSpec.ofChange codecOrderWrong)

/-- 'tidemarklaw04.CodecChanged': WHATEVER THE INPUT: true; the input reads as it did. -/
def codecChangedSpec : ChangeSpec := { name := "codecChanged", fn := fun _ => fun
  | [d1, d2] => { results := [.lit (.bool true)], args := [d1, d2] }
  | _ => none }
def codecChangedRow : OpenClaim := { program := "ytgmdoapedhppmaa", sum := "9a6d250f74a106117a290ff1dc95c65c73829eb5aa34545ee9525c35910b1ff2", func := "tidemark/tidemarklaw04.CodecChanged", spec := "codecChanged", unfollowed := true, recurses := true, apart := false }
def CodecChangedSaid : Prop := codecChangedRow.holds Try.pinned (OpenSpec.ofChange codecChangedSpec)

/-- ITS FALSE NEIGHBOUR: 'it returns false'. Refute it at one input. -/
def codecChangedWrong : ChangeSpec := { name := "codecChanged", fn := fun _ => fun
  | [d1, d2] => { results := [.lit (.bool false)], args := [d1, d2] }
  | _ => none }
def CodecChangedWrongFalsely : Prop := codecChangedRow.holds Try.pinned (OpenSpec.ofChange codecChangedWrong)

/-- 'tidemarklaw04.CodecShorter': WHATEVER THE INPUT: true; the input reads as it did. -/
def codecShorterSpec : ChangeSpec := { name := "codecShorter", fn := fun _ => fun
  | [d] => { results := [.lit (.bool true)], args := [d] }
  | _ => none }
def codecShorterRow : OpenClaim := { program := "ytgmdoapedhppmaa", sum := "9a6d250f74a106117a290ff1dc95c65c73829eb5aa34545ee9525c35910b1ff2", func := "tidemark/tidemarklaw04.CodecShorter", spec := "codecShorter", unfollowed := true, recurses := true, apart := false }
def CodecShorterSaid : Prop := codecShorterRow.holds Try.pinned (OpenSpec.ofChange codecShorterSpec)

/-- ITS FALSE NEIGHBOUR: 'it returns false'. Refute it at one input. -/
def codecShorterWrong : ChangeSpec := { name := "codecShorter", fn := fun _ => fun
  | [d] => { results := [.lit (.bool false)], args := [d] }
  | _ => none }
def CodecShorterWrongFalsely : Prop := codecShorterRow.holds Try.pinned (OpenSpec.ofChange codecShorterWrong)

/-- 'tidemarklaw04.CodecUnlike': WHATEVER THE INPUT: true; the input reads as it did. -/
def codecUnlikeSpec : ChangeSpec := { name := "codecUnlike", fn := fun _ => fun
  | [d1, d2, d3, d4] => { results := [.lit (.bool true)], args := [d1, d2, d3, d4] }
  | _ => none }
def codecUnlikeRow : OpenClaim := { program := "ytgmdoapedhppmaa", sum := "9a6d250f74a106117a290ff1dc95c65c73829eb5aa34545ee9525c35910b1ff2", func := "tidemark/tidemarklaw04.CodecUnlike", spec := "codecUnlike", unfollowed := true, recurses := true, apart := false }
def CodecUnlikeSaid : Prop := codecUnlikeRow.holds Try.pinned (OpenSpec.ofChange codecUnlikeSpec)

/-- ITS FALSE NEIGHBOUR: 'it returns false'. Refute it at one input. -/
def codecUnlikeWrong : ChangeSpec := { name := "codecUnlike", fn := fun _ => fun
  | [d1, d2, d3, d4] => { results := [.lit (.bool false)], args := [d1, d2, d3, d4] }
  | _ => none }
def CodecUnlikeWrongFalsely : Prop := codecUnlikeRow.holds Try.pinned (OpenSpec.ofChange codecUnlikeWrong)

/-- 'tidemarklaw04.CodecParts': WHATEVER THE INPUT: true; the input reads as it did. -/
def codecPartsSpec : ChangeSpec := { name := "codecParts", fn := fun _ => fun
  | [d1, d2] => { results := [.lit (.bool true)], args := [d1, d2] }
  | _ => none }
def codecPartsRow : OpenClaim := { program := "ytgmdoapedhppmaa", sum := "9a6d250f74a106117a290ff1dc95c65c73829eb5aa34545ee9525c35910b1ff2", func := "tidemark/tidemarklaw04.CodecParts", spec := "codecParts", unfollowed := true, recurses := true, apart := false }
def CodecPartsSaid : Prop := codecPartsRow.holds Try.pinned (OpenSpec.ofChange codecPartsSpec)

/-- ITS FALSE NEIGHBOUR: 'it returns false'. Refute it at one input. -/
def codecPartsWrong : ChangeSpec := { name := "codecParts", fn := fun _ => fun
  | [d1, d2] => { results := [.lit (.bool false)], args := [d1, d2] }
  | _ => none }
def CodecPartsWrongFalsely : Prop := codecPartsRow.holds Try.pinned (OpenSpec.ofChange codecPartsWrong)

/-- 'tidemarklaw04.CodecMost': WHATEVER THE INPUT: true; the input reads as it did. -/
def codecMostSpec : ChangeSpec := { name := "codecMost", fn := fun _ => fun
  | [d] => { results := [.lit (.bool true)], args := [d] }
  | _ => none }
def codecMostRow : OpenClaim := { program := "ytgmdoapedhppmaa", sum := "9a6d250f74a106117a290ff1dc95c65c73829eb5aa34545ee9525c35910b1ff2", func := "tidemark/tidemarklaw04.CodecMost", spec := "codecMost", unfollowed := true, recurses := true, apart := false }
def CodecMostSaid : Prop := codecMostRow.holds Try.pinned (OpenSpec.ofChange codecMostSpec)

/-- ITS FALSE NEIGHBOUR: 'it returns false'. Refute it at one input. -/
def codecMostWrong : ChangeSpec := { name := "codecMost", fn := fun _ => fun
  | [d] => { results := [.lit (.bool false)], args := [d] }
  | _ => none }
def CodecMostWrongFalsely : Prop := codecMostRow.holds Try.pinned (OpenSpec.ofChange codecMostWrong)

/-- 'tidemarklaw04.CodecReads': WHATEVER THE INPUT: true; the input reads as it did. -/
def codecReadsSpec : ChangeSpec := { name := "codecReads", fn := fun _ => fun
  | [d] => { results := [.lit (.bool true)], args := [d] }
  | _ => none }
def codecReadsRow : OpenClaim := { program := "ytgmdoapedhppmaa", sum := "9a6d250f74a106117a290ff1dc95c65c73829eb5aa34545ee9525c35910b1ff2", func := "tidemark/tidemarklaw04.CodecReads", spec := "codecReads", unfollowed := true, recurses := true, apart := false }
def CodecReadsSaid : Prop := codecReadsRow.holds Try.pinned (OpenSpec.ofChange codecReadsSpec)

/-- ITS FALSE NEIGHBOUR: 'it returns false'. Refute it at one input. -/
def codecReadsWrong : ChangeSpec := { name := "codecReads", fn := fun _ => fun
  | [d] => { results := [.lit (.bool false)], args := [d] }
  | _ => none }
def CodecReadsWrongFalsely : Prop := codecReadsRow.holds Try.pinned (OpenSpec.ofChange codecReadsWrong)

/-- 'tidemarklaw04.CodecBack': WHATEVER THE INPUT: true; the input reads as it did. -/
def codecBackSpec : ChangeSpec := { name := "codecBack", fn := fun _ => fun
  | [d1, d2, d3, d4, d5] => { results := [.lit (.bool true)], args := [d1, d2, d3, d4, d5] }
  | _ => none }
def codecBackRow : OpenClaim := { program := "ytgmdoapedhppmaa", sum := "9a6d250f74a106117a290ff1dc95c65c73829eb5aa34545ee9525c35910b1ff2", func := "tidemark/tidemarklaw04.CodecBack", spec := "codecBack", unfollowed := true, recurses := true, apart := false }
def CodecBackSaid : Prop := codecBackRow.holds Try.pinned (OpenSpec.ofChange codecBackSpec)

/-- ITS FALSE NEIGHBOUR: 'it returns false'. Refute it at one input. -/
def codecBackWrong : ChangeSpec := { name := "codecBack", fn := fun _ => fun
  | [d1, d2, d3, d4, d5] => { results := [.lit (.bool false)], args := [d1, d2, d3, d4, d5] }
  | _ => none }
def CodecBackWrongFalsely : Prop := codecBackRow.holds Try.pinned (OpenSpec.ofChange codecBackWrong)

/-- 'tidemarklaw04.CodecTwo': WHATEVER THE INPUT: true; the input reads as it did. -/
def codecTwoSpec : ChangeSpec := { name := "codecTwo", fn := fun _ => fun
  | [d1, d2, d3, d4] => { results := [.lit (.bool true)], args := [d1, d2, d3, d4] }
  | _ => none }
def codecTwoRow : OpenClaim := { program := "ytgmdoapedhppmaa", sum := "9a6d250f74a106117a290ff1dc95c65c73829eb5aa34545ee9525c35910b1ff2", func := "tidemark/tidemarklaw04.CodecTwo", spec := "codecTwo", unfollowed := true, recurses := true, apart := false }
def CodecTwoSaid : Prop := codecTwoRow.holds Try.pinned (OpenSpec.ofChange codecTwoSpec)

/-- ITS FALSE NEIGHBOUR: 'it returns false'. Refute it at one input. -/
def codecTwoWrong : ChangeSpec := { name := "codecTwo", fn := fun _ => fun
  | [d1, d2, d3, d4] => { results := [.lit (.bool false)], args := [d1, d2, d3, d4] }
  | _ => none }
def CodecTwoWrongFalsely : Prop := codecTwoRow.holds Try.pinned (OpenSpec.ofChange codecTwoWrong)

/- THE SECOND FORM. 'bulk': how many values and letters a reading holds, each counted each time it is reached (what is shared counts as often as it is met; a slice's spare places count too). A statement '..UptoSaid' is the law's where the arguments, and the package variables that the reading takes, are together of bulk at most 1048576: NARROWER than '..Said'. Prove '..Said' where nothing that the law and all that it calls make is longer than what came in: it says more and counts as full. Else prove '..UptoSaid'. A law counts once. -/
mutual
def uptoBulk {H : Type} : DataW H → Nat
  | .lit (.string bytes) => bytes.length + 1
  | .lit _ => 1
  | .nil => 1
  | .ptr d => uptoBulk d + 1
  | .slice elems spare => uptoBulkAll elems + uptoBulkAll spare + 1
  | .agg parts => uptoBulkAll parts + 1
  | .iface _ d => uptoBulk d + 1
  | .map entries => uptoBulkEntries entries + 1
  | .held _ => 1
def uptoBulkAll {H : Type} : List (DataW H) → Nat
  | [] => 0
  | d :: r => uptoBulk d + uptoBulkAll r
def uptoBulkEntries {H : Type} : List (Lit × DataW H) → Nat
  | [] => 0
  | x :: r => uptoBulkEntry x + uptoBulkEntries r
def uptoBulkEntry {H : Type} : Lit × DataW H → Nat
  | (.string bytes, d) => bytes.length + uptoBulk d + 1
  | (_, d) => uptoBulk d + 1
 end
def uptoSmall : (H : Type) → List (DataW H) → Bool := fun _ ds => decide (uptoBulkAll ds ≤ 1048576)
def OpenSpec.upto (s : _root_.Go.ChangeSpec) : _root_.Go.OpenSpec := { _root_.Go.OpenSpec.ofChange s with cond := some uptoSmall }

/-- 'tidemarklaw04.CodecWrites', WHERE WHAT IT READS IS OF BULK AT MOST 1048576: true; the input reads as it did. -/
def codecWritesUptoRow : OpenClaim := { program := "ytgmdoapedhppmaa", sum := "9a6d250f74a106117a290ff1dc95c65c73829eb5aa34545ee9525c35910b1ff2", func := "tidemark/tidemarklaw04.CodecWrites", spec := "codecWrites", unfollowed := true, recurses := true, apart := false, narrowed := true }
def CodecWritesUptoSaid : Prop := codecWritesUptoRow.holds Try.pinned (OpenSpec.upto codecWritesSpec)

/-- 'tidemarklaw04.CodecOrder', WHERE WHAT IT READS IS OF BULK AT MOST 1048576: true; the input reads as it did. -/
def codecOrderUptoRow : OpenClaim := { program := "ytgmdoapedhppmaa", sum := "9a6d250f74a106117a290ff1dc95c65c73829eb5aa34545ee9525c35910b1ff2", func := "tidemark/tidemarklaw04.CodecOrder", spec := "codecOrder", unfollowed := true, recurses := true, apart := false, narrowed := true }
def CodecOrderUptoSaid : Prop := codecOrderUptoRow.holds Try.pinned (OpenSpec.upto codecOrderSpec)

/-- 'tidemarklaw04.CodecChanged', WHERE WHAT IT READS IS OF BULK AT MOST 1048576: true; the input reads as it did. -/
def codecChangedUptoRow : OpenClaim := { program := "ytgmdoapedhppmaa", sum := "9a6d250f74a106117a290ff1dc95c65c73829eb5aa34545ee9525c35910b1ff2", func := "tidemark/tidemarklaw04.CodecChanged", spec := "codecChanged", unfollowed := true, recurses := true, apart := false, narrowed := true }
def CodecChangedUptoSaid : Prop := codecChangedUptoRow.holds Try.pinned (OpenSpec.upto codecChangedSpec)

/-- 'tidemarklaw04.CodecShorter', WHERE WHAT IT READS IS OF BULK AT MOST 1048576: true; the input reads as it did. -/
def codecShorterUptoRow : OpenClaim := { program := "ytgmdoapedhppmaa", sum := "9a6d250f74a106117a290ff1dc95c65c73829eb5aa34545ee9525c35910b1ff2", func := "tidemark/tidemarklaw04.CodecShorter", spec := "codecShorter", unfollowed := true, recurses := true, apart := false, narrowed := true }
def CodecShorterUptoSaid : Prop := codecShorterUptoRow.holds Try.pinned (OpenSpec.upto codecShorterSpec)

/-- 'tidemarklaw04.CodecUnlike', WHERE WHAT IT READS IS OF BULK AT MOST 1048576: true; the input reads as it did. -/
def codecUnlikeUptoRow : OpenClaim := { program := "ytgmdoapedhppmaa", sum := "9a6d250f74a106117a290ff1dc95c65c73829eb5aa34545ee9525c35910b1ff2", func := "tidemark/tidemarklaw04.CodecUnlike", spec := "codecUnlike", unfollowed := true, recurses := true, apart := false, narrowed := true }
def CodecUnlikeUptoSaid : Prop := codecUnlikeUptoRow.holds Try.pinned (OpenSpec.upto codecUnlikeSpec)

/-- 'tidemarklaw04.CodecParts', WHERE WHAT IT READS IS OF BULK AT MOST 1048576: true; the input reads as it did. -/
def codecPartsUptoRow : OpenClaim := { program := "ytgmdoapedhppmaa", sum := "9a6d250f74a106117a290ff1dc95c65c73829eb5aa34545ee9525c35910b1ff2", func := "tidemark/tidemarklaw04.CodecParts", spec := "codecParts", unfollowed := true, recurses := true, apart := false, narrowed := true }
def CodecPartsUptoSaid : Prop := codecPartsUptoRow.holds Try.pinned (OpenSpec.upto codecPartsSpec)

/-- 'tidemarklaw04.CodecMost', WHERE WHAT IT READS IS OF BULK AT MOST 1048576: true; the input reads as it did. -/
def codecMostUptoRow : OpenClaim := { program := "ytgmdoapedhppmaa", sum := "9a6d250f74a106117a290ff1dc95c65c73829eb5aa34545ee9525c35910b1ff2", func := "tidemark/tidemarklaw04.CodecMost", spec := "codecMost", unfollowed := true, recurses := true, apart := false, narrowed := true }
def CodecMostUptoSaid : Prop := codecMostUptoRow.holds Try.pinned (OpenSpec.upto codecMostSpec)

/-- 'tidemarklaw04.CodecReads', WHERE WHAT IT READS IS OF BULK AT MOST 1048576: true; the input reads as it did. -/
def codecReadsUptoRow : OpenClaim := { program := "ytgmdoapedhppmaa", sum := "9a6d250f74a106117a290ff1dc95c65c73829eb5aa34545ee9525c35910b1ff2", func := "tidemark/tidemarklaw04.CodecReads", spec := "codecReads", unfollowed := true, recurses := true, apart := false, narrowed := true }
def CodecReadsUptoSaid : Prop := codecReadsUptoRow.holds Try.pinned (OpenSpec.upto codecReadsSpec)

/-- 'tidemarklaw04.CodecBack', WHERE WHAT IT READS IS OF BULK AT MOST 1048576: true; the input reads as it did. -/
def codecBackUptoRow : OpenClaim := { program := "ytgmdoapedhppmaa", sum := "9a6d250f74a106117a290ff1dc95c65c73829eb5aa34545ee9525c35910b1ff2", func := "tidemark/tidemarklaw04.CodecBack", spec := "codecBack", unfollowed := true, recurses := true, apart := false, narrowed := true }
def CodecBackUptoSaid : Prop := codecBackUptoRow.holds Try.pinned (OpenSpec.upto codecBackSpec)

/-- 'tidemarklaw04.CodecTwo', WHERE WHAT IT READS IS OF BULK AT MOST 1048576: true; the input reads as it did. -/
def codecTwoUptoRow : OpenClaim := { program := "ytgmdoapedhppmaa", sum := "9a6d250f74a106117a290ff1dc95c65c73829eb5aa34545ee9525c35910b1ff2", func := "tidemark/tidemarklaw04.CodecTwo", spec := "codecTwo", unfollowed := true, recurses := true, apart := false, narrowed := true }
def CodecTwoUptoSaid : Prop := codecTwoUptoRow.holds Try.pinned (OpenSpec.upto codecTwoSpec)

end Rows
end Go.Proofs.Ytgmdoapedhppmaa
