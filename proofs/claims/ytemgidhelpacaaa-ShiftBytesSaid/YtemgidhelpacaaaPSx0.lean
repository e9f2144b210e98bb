/- Proofs that functions of the program come to what plain Lean functions say; made by wip/drive.py. -/
import Derived.Test.YtemgidhelpacaaaProg
import Derived.Below
import Derived.Deep.Draws
import Derived.Deep.AppendLies
import Derived.Maps.AppendAt
import Derived.OwnWalk
import Derived.Laws.BytesArg
import Derived.Laws.MakeOwn
import Derived.Laws.OwnMore
import Derived.Deep.OwnRows
import Derived.Tactics
import Derived.Lib.ConvBytes
import Derived.Laws.Slices
import Derived.WalkKit
import Derived.KernelRfl
import Derived.RowKit3
import Derived.Deep.LoopGhost
import Derived.Deep.QuietTactic
import Derived.BigQuiet
import Derived.WideLaws
import Derived.Deep.DeepCutAuto
import Derived.Deep.CutBlock
import Derived.Deep.RegionHeld3
import Derived.Laws.Rows
import Derived.Lib.AppendStr
import Derived.ArgAppend
import Derived.Laws.IdiomCopy
import Derived.OrdersHeld
import Derived.Laws.BitsLemmas
import Derived.RowKit
import Derived.Test.YtemgidhelpacaaaWWords
import Derived.Test.YtemgidhelpacaaaWLast
import Derived.Test.YtemgidhelpacaaaWTab
import Derived.Test.YtemgidhelpacaaaWFour
import Derived.Test.YtemgidhelpacaaaWQPut
import Derived.Test.YtemgidhelpacaaaWApart
import Derived.Test.YtemgidhelpacaaaWArr
import Derived.Test.YtemgidhelpacaaaWZeros
import Derived.Test.YtemgidhelpacaaaWFoot
import Derived.Test.YtemgidhelpacaaaWKept
import Derived.Test.YtemgidhelpacaaaWShare
import Derived.Test.YtemgidhelpacaaaWN
import Derived.Test.YtemgidhelpacaaaWFootNe
import Derived.Test.YtemgidhelpacaaaWAt
import Derived.Test.YtemgidhelpacaaaWEqStruct
import Derived.Test.YtemgidhelpacaaaWRepsOne
import Derived.Test.YtemgidhelpacaaaWInv
import Derived.Test.YtemgidhelpacaaaWInvWords
import Derived.Test.YtemgidhelpacaaaWGuard
import Derived.Test.YtemgidhelpacaaaWNEv
import Derived.Test.YtemgidhelpacaaaWMore
namespace Go.Proofs.Ytemgidhelpacaaa.PS
open Go.RowKit Go.Proofs.YtemgidhelpacaaaW.PrintWords Go.Proofs.YtemgidhelpacaaaW.PrintLast Go.Proofs.YtemgidhelpacaaaW.PrintMore
attribute [local go_sem] max2_int min2_int max_two min_two max_three min_three max_four min_four   -- for this text's walks alone
set_option linter.unusedVariables false
set_option linter.unusedSimpArgs false



def errW : Option Int → Value
  | none => .nilIface
  | some c => .iface 0 (.int .i64 c)
theorem errW_none : errW none = .nilIface := rfl
theorem errW_some (c : Int) : errW (some c) = .iface 0 (.int .i64 c) := rfl

theorem len_to {α : Type} {R : α → List Value → Prop} {size : Nat} {w : World} {A : Option Addr} {n n' : Nat} {ps : List α} (h : n' = n) (hc : ReadsRow R size w A n' ps) : ReadsRow R size w A n ps := h ▸ hc
theorem info5 : (Try.prog.info? 5).map (fun i => (i.zero, i.size, i.bytes)) = some (some (.int .u8 0), 1, 1) := by kernel_rfl
theorem info23 : (Try.prog.info? 23).map (fun i => (i.zero, i.size, i.bytes)) = some (some (.int .u64 0), 1, 8) := by kernel_rfl
-- the values' own types

end Go.Proofs.Ytemgidhelpacaaa.PS
