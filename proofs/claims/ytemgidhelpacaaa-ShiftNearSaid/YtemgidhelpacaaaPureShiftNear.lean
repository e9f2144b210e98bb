/- The pure statement of ShiftNear: Zig counts from 0 on, by turns above and below, for any two numbers of kind int64. -/
import Derived.Test.YtemgidhelpacaaaPSx3
import Derived.Test.YtemgidhelpacaaaShow
namespace Go.Proofs.Ytemgidhelpacaaa.Pure
open Go.RowKit Go.Proofs.Ytemgidhelpacaaa.PS Go.Proofs.YtemgidhelpacaaaW.PrintWords Go.Proofs.YtemgidhelpacaaaW.PrintLast Go.Proofs.Ytemgidhelpacaaa.B

theorem near_core (k : Nat) (x y : Int) (hx0 : 0 ≤ x) (hx1 : x ≤ 9223372036854775807) (hy0 : 0 ≤ y) (hy1 : y ≤ 9223372036854775807) :
    tidemarklaw01_ShiftNear.j1 (k + 1) x y true = some true := by
  have zx : zig x = 2 * x := by unfold zig; rw [if_neg (by omega)]
  have zy : zig y = 2 * y := by unfold zig; rw [if_neg (by omega)]
  have zx' : zig (-x - 1) = 2 * x + 1 := by unfold zig; rw [if_pos (by omega)]; omega
  have zy' : zig (-y - 1) = 2 * y + 1 := by unfold zig; rw [if_pos (by omega)]; omega
  have wx : wrap64 (wrap64 (-x) - 1) = -x - 1 := by rw [wrap64_id (-x) (by omega) (by omega), wrap64_id _ (by omega) (by omega)]
  have wy : wrap64 (wrap64 (-y) - 1) = -y - 1 := by rw [wrap64_id (-y) (by omega) (by omega), wrap64_id _ (by omega) (by omega)]
  simp only [tidemarklaw01_ShiftNear.j1]
  rw [wx, wy, zig_f x (by omega) hx1, zig_f y (by omega) hy1, zig_f (-x - 1) (by omega) (by omega), zig_f (-y - 1) (by omega) (by omega), zx, zy, zx', zy']
  simp only [Option.bind_some]
  have e1 : IntKind.u64.wrap (2 * IntKind.u64.wrap x) = 2 * x := by rw [IntKind.wrap_u64, IntKind.wrap_u64]; omega
  have e2 : IntKind.u64.wrap (2 * x + 1) = 2 * x + 1 := by rw [IntKind.wrap_u64]; omega
  rw [zag_f (2 * x) (by omega) (by omega), zag_f (2 * x + 1) (by omega) (by omega)]
  have z1 : zag (2 * x) = x := by unfold zag; rw [if_pos (by omega)]; omega
  have z2 : zag (2 * x + 1) = -x - 1 := by unfold zag; rw [if_neg (by omega)]; omega
  rw [e1, e2, z1, z2]
  simp only [Option.bind_some, if_true]
  rw [show decide (2 * x + 1 < 2 * y) = decide (x < y) from decide_eq_decide.2 (by omega), show decide (2 * x < 2 * y) = decide (x < y) from decide_eq_decide.2 (by omega),
    show decide (2 * x + 1 < 2 * y + 1) = decide (x < y) from decide_eq_decide.2 (by omega)]
  simp
theorem near_j0 (k : Nat) (x y : Int) (hx0 : 0 ≤ x) (hx1 : x ≤ 9223372036854775807) (hy0 : -9223372036854775808 ≤ y) (hy1 : y ≤ 9223372036854775807) :
    tidemarklaw01_ShiftNear.j0 (k + 2) x y true = some true := by
  simp only [tidemarklaw01_ShiftNear.j0]
  by_cases h : y < 0
  · rw [if_pos h, wrap64_id (y + 1) (by omega) (by omega), wrap64_id _ (by omega) (by omega)]
    exact near_core k x _ hx0 hx1 (by omega) (by omega)
  · rw [if_neg h]; exact near_core k x _ hx0 hx1 (by omega) (by omega)
theorem ShiftNear : tidemarklaw01_ShiftNear.Pure := by
  intro a0 a1 w0 w1
  have h0 := i64_at a0 w0
  have h1 := i64_at a1 w1
  refine ⟨20, ?_⟩
  unfold tidemarklaw01_ShiftNear.f
  rw [shown_at 20 (by decide)]; simp only [Option.bind_some]
  by_cases h : a0 < 0
  · rw [if_pos h, wrap64_id (a0 + 1) (by omega) (by omega), wrap64_id _ (by omega) (by omega)]
    exact near_j0 18 _ a1 (by omega) (by omega) h1.1 h1.2
  · rw [if_neg h]; exact near_j0 18 _ a1 (by omega) (by omega) h1.1 h1.2
end Go.Proofs.Ytemgidhelpacaaa.Pure
