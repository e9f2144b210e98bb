/-
  No cell of these rows narrows 'for every input' (looked for: loops, veiled, ifaces, maps, wideKeys, modest, calm, conditions, laid).
  DERIVED. THE GIVEN ROWS OF THIS SEAT. 8 by the template 'for every input the law returns true; each argument reads behind the call as it read before'; 0 by the template 'total and deterministic' (their statements: YtemgidhelpacaaaTotals.lean).
  GIVEN WITH THE SEED: the statements are not yours to turn. If you find one false, say at which input.
  Laid BY PROGRAM, IN A SANDBOX (cutbox-rows.mjs): the forced cells as the released guide's own fill.sh prints them over the translation 3e0f3391872f6696… (all of the seat's roots in one cut). By AI agents, Wed Nov 11 2026. No macro, syntax, notation, axiom, sorry.
-/
import Derived.Test.YtemgidhelpacaaaChecked
import GoSem.Claim
import GoSem.ClaimJoined
import GoSem.ClaimMapViews
import Derived.JoinedTies
import Derived.KernelRfl
namespace Go.Proofs.Ytemgidhelpacaaa
/- THE CELL 'sum', in the pinned program and in every row, IS THE sha256 OF THE DUMP (.gsa) THAT YtemgidhelpacaaaProg.lean LOADS. Nothing in Lean hashes anything: it is a label: what it is worth is what the hold of that sum in a sandbox is worth. -/
noncomputable def Try.pinned : Pinned := { name := "ytemgidhelpacaaa", sum := "3e0f3391872f6696983d94a485a12210b03742f8ef1eefaba38066a9ef222c03", checked := Try.checked }
namespace Rows
def none {H : Type} : Left H := { results := [], args := [] }

/-- 'tidemarklaw01.ShiftNear': WHATEVER THE INPUT: true; the input reads as it did. -/
def shiftNearSpec : ChangeSpec := { name := "shiftNear", fn := fun _ => fun
  | [d1, d2] => { results := [.lit (.bool true)], args := [d1, d2] }
  | _ => none }
def shiftNearRow : OpenClaim := { program := "ytemgidhelpacaaa", sum := "3e0f3391872f6696983d94a485a12210b03742f8ef1eefaba38066a9ef222c03", func := "tidemark/tidemarklaw01.ShiftNear", spec := "shiftNear", apart := false }
def ShiftNearSaid : Prop := shiftNearRow.holds Try.pinned (OpenSpec.ofChange shiftNearSpec)

/-- ITS FALSE NEIGHBOUR: 'it returns false'. Refute it at one input. -/
def shiftNearWrong : ChangeSpec := { name := "shiftNear", fn := fun _ => fun
  | [d1, d2] => { results := [.lit (.bool false)], args := [d1, d2] }
  | _ => none }
def ShiftNearWrongFalsely : Prop := shiftNearRow.holds Try.pinned (OpenSpec.ofChange shiftNearWrong)

/-- 'tidemarklaw01.ShiftBetween': WHATEVER THE INPUT: true; the input reads as it did. -/
def shiftBetweenSpec : ChangeSpec := { name := "shiftBetween", fn := fun _ => fun
  | [d1, d2, d3] => { results := [.lit (.bool true)], args := [d1, d2, d3] }
  | _ => none }
def shiftBetweenRow : OpenClaim := { program := "ytemgidhelpacaaa", sum := "3e0f3391872f6696983d94a485a12210b03742f8ef1eefaba38066a9ef222c03", func := "tidemark/tidemarklaw01.ShiftBetween", spec := "shiftBetween", apart := false }
def ShiftBetweenSaid : Prop := shiftBetweenRow.holds Try.pinned (OpenSpec.ofChange shiftBetweenSpec)

/-- ITS FALSE NEIGHBOUR: 'it returns false'. Refute it at one input. -/
def shiftBetweenWrong : ChangeSpec := { name := "shiftBetween", fn := fun _ => fun
  | [d1, d2, d3] => { results := [.lit (.bool false)], args := [d1, d2, d3] }
  | _ => none }
def ShiftBetweenWrongFalsely : Prop := shiftBetweenRow.holds Try.pinned (OpenSpec.ofChange shiftBetweenWrong)

/-- 'tidemarklaw01.ShiftLonger': WHATEVER THE INPUT: true; the input reads as it did. -/
def shiftLongerSpec : ChangeSpec := { name := "shiftLonger", fn := fun _ => fun
  | [d1, d2] => { results := [.lit (.bool true)], args := [d1, d2] }
  | _ => none }
def shiftLongerRow : OpenClaim := { program := "ytemgidhelpacaaa", sum := "3e0f3391872f6696983d94a485a12210b03742f8ef1eefaba38066a9ef222c03", func := "tidemark/tidemarklaw01.ShiftLonger", spec := "shiftLonger", apart := false }
def ShiftLongerSaid : Prop := shiftLongerRow.holds Try.pinned (OpenSpec.ofChange shiftLongerSpec)

/-- ITS FALSE NEIGHBOUR: 'it returns false'. Refute it at one input. -/
def shiftLongerWrong : ChangeSpec := { name := "shiftLonger", fn := fun _ => fun
  | [d1, d2] => { results := [.lit (.bool false)], args := [d1, d2] }
  | _ => none }
def ShiftLongerWrongFalsely : Prop := shiftLongerRow.holds Try.pinned (OpenSpec.ofChange shiftLongerWrong)

/-- 'tidemarklaw01.ShiftPacks': WHATEVER THE INPUT: true; the input reads as it did. -/
def shiftPacksSpec : ChangeSpec := { name := "shiftPacks", fn := fun _ => fun
  | [d1, d2, d3, d4, d5] => { results := [.lit (.bool true)], args := [d1, d2, d3, d4, d5] }
  | _ => none }
def shiftPacksRow : OpenClaim := { program := "ytemgidhelpacaaa", sum := "3e0f3391872f6696983d94a485a12210b03742f8ef1eefaba38066a9ef222c03", func := "tidemark/tidemarklaw01.ShiftPacks", spec := "shiftPacks", apart := false }
def ShiftPacksSaid : Prop := shiftPacksRow.holds Try.pinned (OpenSpec.ofChange shiftPacksSpec)

/-- ITS FALSE NEIGHBOUR: 'it returns false'. Refute it at one input. -/
def shiftPacksWrong : ChangeSpec := { name := "shiftPacks", fn := fun _ => fun
  | [d1, d2, d3, d4, d5] => { results := [.lit (.bool false)], args := [d1, d2, d3, d4, d5] }
  | _ => none }
def ShiftPacksWrongFalsely : Prop := shiftPacksRow.holds Try.pinned (OpenSpec.ofChange shiftPacksWrong)

/-- 'tidemarklaw01.ShiftRooms': WHATEVER THE INPUT: true; the input reads as it did. -/
def shiftRoomsSpec : ChangeSpec := { name := "shiftRooms", fn := fun _ => fun
  | [d1, d2, d3] => { results := [.lit (.bool true)], args := [d1, d2, d3] }
  | _ => none }
def shiftRoomsRow : OpenClaim := { program := "ytemgidhelpacaaa", sum := "3e0f3391872f6696983d94a485a12210b03742f8ef1eefaba38066a9ef222c03", func := "tidemark/tidemarklaw01.ShiftRooms", spec := "shiftRooms", apart := false }
def ShiftRoomsSaid : Prop := shiftRoomsRow.holds Try.pinned (OpenSpec.ofChange shiftRoomsSpec)

/-- ITS FALSE NEIGHBOUR: 'it returns false'. Refute it at one input. -/
def shiftRoomsWrong : ChangeSpec := { name := "shiftRooms", fn := fun _ => fun
  | [d1, d2, d3] => { results := [.lit (.bool false)], args := [d1, d2, d3] }
  | _ => none }
def ShiftRoomsWrongFalsely : Prop := shiftRoomsRow.holds Try.pinned (OpenSpec.ofChange shiftRoomsWrong)

/-- 'tidemarklaw01.ShiftBytes': WHATEVER THE INPUT: true; the input reads as it did. -/
def shiftBytesSpec : ChangeSpec := { name := "shiftBytes", fn := fun _ => fun
  | [d1, d2, d3] => { results := [.lit (.bool true)], args := [d1, d2, d3] }
  | _ => none }
def shiftBytesRow : OpenClaim := { program := "ytemgidhelpacaaa", sum := "3e0f3391872f6696983d94a485a12210b03742f8ef1eefaba38066a9ef222c03", func := "tidemark/tidemarklaw01.ShiftBytes", spec := "shiftBytes", recurses := true, apart := false }
def ShiftBytesSaid : Prop := shiftBytesRow.holds Try.pinned (OpenSpec.ofChange shiftBytesSpec)

/-- ITS FALSE NEIGHBOUR: 'it returns false'. Refute it at one input. -/
def shiftBytesWrong : ChangeSpec := { name := "shiftBytes", fn := fun _ => fun
  | [d1, d2, d3] => { results := [.lit (.bool false)], args := [d1, d2, d3] }
  | _ => none }
def ShiftBytesWrongFalsely : Prop := shiftBytesRow.holds Try.pinned (OpenSpec.ofChange shiftBytesWrong)

/-- 'tidemarklaw01.ShiftBack': WHATEVER THE INPUT: true; the input reads as it did. -/
def shiftBackSpec : ChangeSpec := { name := "shiftBack", fn := fun _ => fun
  | [d1, d2, d3] => { results := [.lit (.bool true)], args := [d1, d2, d3] }
  | _ => none }
def shiftBackRow : OpenClaim := { program := "ytemgidhelpacaaa", sum := "3e0f3391872f6696983d94a485a12210b03742f8ef1eefaba38066a9ef222c03", func := "tidemark/tidemarklaw01.ShiftBack", spec := "shiftBack", apart := false }
def ShiftBackSaid : Prop := shiftBackRow.holds Try.pinned (OpenSpec.ofChange shiftBackSpec)

/-- ITS FALSE NEIGHBOUR: 'it returns false'. Refute it at one input. -/
def shiftBackWrong : ChangeSpec := { name := "shiftBack", fn := fun _ => fun
  | [d1, d2, d3] => { results := [.lit (.bool false)], args := [d1, d2, d3] }
  | _ => none }
def ShiftBackWrongFalsely : Prop := shiftBackRow.holds Try.pinned (OpenSpec.ofChange shiftBackWrong)

/-- 'tidemarklaw01.ShiftMany': WHATEVER THE INPUT: true; the input reads as it did. -/
def shiftManySpec : ChangeSpec := { name := "shiftMany", fn := fun _ => fun
  | [d] => { results := [.lit (.bool true)], args := [d] }
  | _ => none }
def shiftManyRow : OpenClaim := { program := "ytemgidhelpacaaa", sum := "3e0f3391872f6696983d94a485a12210b03742f8ef1eefaba38066a9ef222c03", func := "tidemark/tidemarklaw01.ShiftMany", spec := "shiftMany", apart := false }
def ShiftManySaid : Prop := shiftManyRow.holds Try.pinned (OpenSpec.ofChange shiftManySpec)

/-- ITS FALSE NEIGHBOUR: 'it returns false'. Refute it at one input. -/
def shiftManyWrong : ChangeSpec := { name := "shiftMany", fn := fun _ => fun
  | [d] => { results := [.lit (.bool false)], args := [d] }
  | _ => none }
def ShiftManyWrongFalsely : Prop := shiftManyRow.holds Try.pinned (OpenSpec.ofChange shiftManyWrong)

/- THE SECOND FORM. 'bulk': how many values and letters a reading holds, each counted each time it is reached (what is shared counts as often as it is met; a slice's spare places count too). A statement '..UptoSaid' is the law's where the arguments, and the package variables that the reading takes, are together of bulk at most 1048576: NARROWER than '..Said'. Prove '..Said' where nothing that the law and all that it calls make is longer than what came in: it says more and counts as full. Else prove '..UptoSaid'. A law counts once. -/
mutual
def uptoBulk {H : Type} : DataW H → Nat
  | .lit (.string bytes) => bytes.length + 1
  | .lit _ => 1
  | .nil => 1
  | .ptr d => uptoBulk d + 1
  | .slice elems spare => uptoBulkAll elems + uptoBulkAll spare + 1
  | .agg parts => uptoBulkAll parts + 1
  | .iface _ d => uptoBulk d + 1
  | .map entries => uptoBulkEntries entries + 1
  | .held _ => 1
def uptoBulkAll {H : Type} : List (DataW H) → Nat
  | [] => 0
  | d :: r => uptoBulk d + uptoBulkAll r
def uptoBulkEntries {H : Type} : List (Lit × DataW H) → Nat
  | [] => 0
  | x :: r => uptoBulkEntry x + uptoBulkEntries r
def uptoBulkEntry {H : Type} : Lit × DataW H → Nat
  | (.string bytes, d) => bytes.length + uptoBulk d + 1
  | (_, d) => uptoBulk d + 1
 end
def uptoSmall : (H : Type) → List (DataW H) → Bool := fun _ ds => decide (uptoBulkAll ds ≤ 1048576)
def OpenSpec.upto (s : _root_.Go.ChangeSpec) : _root_.Go.OpenSpec := { _root_.Go.OpenSpec.ofChange s with cond := some uptoSmall }

/-- 'tidemarklaw01.ShiftNear', WHERE WHAT IT READS IS OF BULK AT MOST 1048576: true; the input reads as it did. -/
def shiftNearUptoRow : OpenClaim := { program := "ytemgidhelpacaaa", sum := "3e0f3391872f6696983d94a485a12210b03742f8ef1eefaba38066a9ef222c03", func := "tidemark/tidemarklaw01.ShiftNear", spec := "shiftNear", apart := false, narrowed := true }
def ShiftNearUptoSaid : Prop := shiftNearUptoRow.holds Try.pinned (OpenSpec.upto shiftNearSpec)

/-- 'tidemarklaw01.ShiftBetween', WHERE WHAT IT READS IS OF BULK AT MOST 1048576: true; the input reads as it did. -/
def shiftBetweenUptoRow : OpenClaim := { program := "ytemgidhelpacaaa", sum := "3e0f3391872f6696983d94a485a12210b03742f8ef1eefaba38066a9ef222c03", func := "tidemark/tidemarklaw01.ShiftBetween", spec := "shiftBetween", apart := false, narrowed := true }
def ShiftBetweenUptoSaid : Prop := shiftBetweenUptoRow.holds Try.pinned (OpenSpec.upto shiftBetweenSpec)

/-- 'tidemarklaw01.ShiftLonger', WHERE WHAT IT READS IS OF BULK AT MOST 1048576: true; the input reads as it did. -/
def shiftLongerUptoRow : OpenClaim := { program := "ytemgidhelpacaaa", sum := "3e0f3391872f6696983d94a485a12210b03742f8ef1eefaba38066a9ef222c03", func := "tidemark/tidemarklaw01.ShiftLonger", spec := "shiftLonger", apart := false, narrowed := true }
def ShiftLongerUptoSaid : Prop := shiftLongerUptoRow.holds Try.pinned (OpenSpec.upto shiftLongerSpec)

/-- 'tidemarklaw01.ShiftPacks', WHERE WHAT IT READS IS OF BULK AT MOST 1048576: true; the input reads as it did. -/
def shiftPacksUptoRow : OpenClaim := { program := "ytemgidhelpacaaa", sum := "3e0f3391872f6696983d94a485a12210b03742f8ef1eefaba38066a9ef222c03", func := "tidemark/tidemarklaw01.ShiftPacks", spec := "shiftPacks", apart := false, narrowed := true }
def ShiftPacksUptoSaid : Prop := shiftPacksUptoRow.holds Try.pinned (OpenSpec.upto shiftPacksSpec)

/-- 'tidemarklaw01.ShiftRooms', WHERE WHAT IT READS IS OF BULK AT MOST 1048576: true; the input reads as it did. -/
def shiftRoomsUptoRow : OpenClaim := { program := "ytemgidhelpacaaa", sum := "3e0f3391872f6696983d94a485a12210b03742f8ef1eefaba38066a9ef222c03", func := "tidemark/tidemarklaw01.ShiftRooms", spec := "shiftRooms", apart := false, narrowed := true }
def ShiftRoomsUptoSaid : Prop := shiftRoomsUptoRow.holds Try.pinned (OpenSpec.upto shiftRoomsSpec)

/-- 'tidemarklaw01.ShiftBytes', WHERE WHAT IT READS IS OF BULK AT MOST 1048576: true; the input reads as it did. -/
def shiftBytesUptoRow : OpenClaim := { program := "ytemgidhelpacaaa", sum := "3e0f3391872f6696983d94a485a12210b03742f8ef1eefaba38066a9ef222c03", func := "tidemark/tidemarklaw01.ShiftBytes", spec := "shiftBytes", recurses := true, apart := false, narrowed := true }
def ShiftBytesUptoSaid : Prop := shiftBytesUptoRow.holds Try.pinned (OpenSpec.upto shiftBytesSpec)

/-- 'tidemarklaw01.ShiftBack', WHERE WHAT IT READS IS OF BULK AT MOST 1048576: true; the input reads as it did. -/
def shiftBackUptoRow : OpenClaim := { program := "ytemgidhelpacaaa", sum := "3e0f3391872f6696983d94a485a12210b03742f8ef1eefaba38066a9ef222c03", func := "tidemark/tidemarklaw01.ShiftBack", spec := "shiftBack", apart := false, narrowed := true }
def ShiftBackUptoSaid : Prop := shiftBackUptoRow.holds Try.pinned (OpenSpec.upto shiftBackSpec)

/-- 'tidemarklaw01.ShiftMany', WHERE WHAT IT READS IS OF BULK AT MOST 1048576: true; the input reads as it did. -/
def shiftManyUptoRow : OpenClaim := { program := "ytemgidhelpacaaa", sum := "3e0f3391872f6696983d94a485a12210b03742f8ef1eefaba38066a9ef222c03", func := "tidemark/tidemarklaw01.ShiftMany", spec := "shiftMany", apart := false, narrowed := true }
def ShiftManyUptoSaid : Prop := shiftManyUptoRow.holds Try.pinned (OpenSpec.upto shiftManySpec)

end Rows
end Go.Proofs.Ytemgidhelpacaaa
