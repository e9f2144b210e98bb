/- Proofs that functions of the program come to what plain Lean functions say; made by wip/drive.py. -/
import Derived.Test.YtemgidhelpacaaaPSx0
namespace Go.Proofs.Ytemgidhelpacaaa.PS
open Go.RowKit Go.Proofs.YtemgidhelpacaaaW.PrintWords Go.Proofs.YtemgidhelpacaaaW.PrintLast Go.Proofs.YtemgidhelpacaaaW.PrintMore
attribute [local go_sem] max2_int min2_int max_two min_two max_three min_three max_four min_four   -- for this text's walks alone
set_option linter.unusedVariables false
set_option linter.unusedSimpArgs false

/-! ### tidemarkref01_Pack: function 16 -/
def tidemarkref01_Pack.f (a0 : Int) (a1 : Int) (a2 : Int) : Option (Int × Int) := if a2 ≥ 16777216 then (some (0, 1)) else (some (IntKind.u64.wrap ((IntKind.u64.wrap ((IntKind.u64.wrap ((IntKind.u64.wrap ((IntKind.u64.wrap (a0)) * 16777216)) + (IntKind.u64.wrap (a2)))) * 256)) + (IntKind.u64.wrap (a1))), 0))
set_option maxHeartbeats 8000000 in
set_option maxRecDepth 100000 in
theorem tidemarkref01_Pack.calls (a0 : Int) (a1 : Int) (a2 : Int) (r1 : Int) (r2 : Int) (w : World) (h : tidemarkref01_Pack.f a0 a1 a2 = some (r1, r2)) :
    Calls Try.prog 16 #[.int .u32 a0, .int .u8 a1, .int .u32 a2] w fun e w' => e = .returned (.tuple #[.int .u64 r1, .int .i64 r2]) ∧ Drawn0 w w' := by
  have H : (if a2 ≥ 16777216 then (some (0, 1)) else (some (IntKind.u64.wrap ((IntKind.u64.wrap ((IntKind.u64.wrap ((IntKind.u64.wrap ((IntKind.u64.wrap (a0)) * 16777216)) + (IntKind.u64.wrap (a2)))) * 256)) + (IntKind.u64.wrap (a1))), 0))) = some (r1, r2) := h
  clear h
  by_cases c4 : a2 ≥ 16777216
  · rw [if_pos c4] at H
    have c4b0 : decide (16777216 ≤ a2) = true := decide_eq_true c4
    clear c4
    simp only [Option.some.injEq, Prod.mk.injEq] at H
    obtain ⟨rfl, rfl⟩ := H
    go_enter Try.func16, Try.ntmps16
    go_wp2
    go_ret2
    exact ⟨by first | rfl | (simp; done) | (simp [*]; done), by repeat (first | exact Drawn0.refl _ | apply Drawn0.step)⟩
  · rw [if_neg c4] at H
    have c4b0 : decide (16777216 ≤ a2) = false := decide_eq_false c4
    clear c4
    simp only [Option.some.injEq, Prod.mk.injEq] at H
    obtain ⟨rfl, rfl⟩ := H
    go_enter Try.func16, Try.ntmps16
    go_wp2
    go_ret2
    exact ⟨by first | rfl | (simp; done) | (simp [*]; done), by repeat (first | exact Drawn0.refl _ | apply Drawn0.step)⟩

/-! ### shift_Unpack: function 17 -/
def shift_Unpack.f (a0 : Int) : Option (Int × Int × Int) := some ((a0 / 4294967296) % 4294967296, (a0) % 256, ((a0) % 4294967296) / 256)
set_option maxHeartbeats 8000000 in
set_option maxRecDepth 100000 in
theorem shift_Unpack.calls (a0 : Int) (r1 : Int) (r2 : Int) (r3 : Int) (w : World) (h : shift_Unpack.f a0 = some (r1, r2, r3)) :
    Calls Try.prog 17 #[.int .u64 a0] w fun e w' => e = .returned (.tuple #[.int .u32 r1, .int .u8 r2, .int .u32 r3]) ∧ Drawn0 w w' := by
  have H : (some ((a0 / 4294967296) % 4294967296, (a0) % 256, ((a0) % 4294967296) / 256)) = some (r1, r2, r3) := h
  clear h
  simp only [Option.some.injEq, Prod.mk.injEq] at H
  obtain ⟨rfl, rfl, rfl⟩ := H
  go_enter Try.func17, Try.ntmps17
  go_wp2
  go_ret3
  exact ⟨by first | rfl | (simp; done) | (simp [*]; done), by repeat (first | exact Drawn0.refl _ | apply Drawn0.step)⟩

/-! ### tidemarkref01_Epoch: function 18 -/
def tidemarkref01_Epoch.f (a0 : Int) : Option (Int) := some ((IntKind.u64.wrap (Int.tdiv a0 4294967296)) % 4294967296)
set_option maxHeartbeats 8000000 in
set_option maxRecDepth 100000 in
theorem tidemarkref01_Epoch.calls (a0 : Int) (r : Int) (w : World) (h : tidemarkref01_Epoch.f a0 = some r) :
    Calls Try.prog 18 #[.int .u64 a0] w fun e w' => e = .returned (.int .u32 r) ∧ Drawn0 w w' := by
  have H : (some ((IntKind.u64.wrap (Int.tdiv a0 4294967296)) % 4294967296)) = some r := h
  clear h
  obtain rfl := Option.some.inj H
  go_enter Try.func18, Try.ntmps18
  go_wp2
  go_ret
  exact ⟨by first | rfl | (simp; done) | (simp [*]; done), by repeat (first | exact Drawn0.refl _ | apply Drawn0.step)⟩

/-! ### tidemarkref01_Worker: function 19 -/
def tidemarkref01_Worker.f (a0 : Int) : Option (Int) := some ((Int.tmod a0 256) % 256)
set_option maxHeartbeats 8000000 in
set_option maxRecDepth 100000 in
theorem tidemarkref01_Worker.calls (a0 : Int) (r : Int) (w : World) (h : tidemarkref01_Worker.f a0 = some r) :
    Calls Try.prog 19 #[.int .u64 a0] w fun e w' => e = .returned (.int .u8 r) ∧ Drawn0 w w' := by
  have H : (some ((Int.tmod a0 256) % 256)) = some r := h
  clear h
  obtain rfl := Option.some.inj H
  go_enter Try.func19, Try.ntmps19
  go_wp2
  go_ret
  exact ⟨by first | rfl | (simp; done) | (simp [*]; done), by repeat (first | exact Drawn0.refl _ | apply Drawn0.step)⟩

/-! ### tidemarkref01_Seq: function 20 -/
def tidemarkref01_Seq.f (a0 : Int) : Option (Int) := some ((Int.tmod (IntKind.u64.wrap (Int.tdiv a0 256)) 16777216) % 4294967296)
set_option maxHeartbeats 8000000 in
set_option maxRecDepth 100000 in
theorem tidemarkref01_Seq.calls (a0 : Int) (r : Int) (w : World) (h : tidemarkref01_Seq.f a0 = some r) :
    Calls Try.prog 20 #[.int .u64 a0] w fun e w' => e = .returned (.int .u32 r) ∧ Drawn0 w w' := by
  have H : (some ((Int.tmod (IntKind.u64.wrap (Int.tdiv a0 256)) 16777216) % 4294967296)) = some r := h
  clear h
  obtain rfl := Option.some.inj H
  go_enter Try.func20, Try.ntmps20
  go_wp2
  go_ret
  exact ⟨by first | rfl | (simp; done) | (simp [*]; done), by repeat (first | exact Drawn0.refl _ | apply Drawn0.step)⟩

end Go.Proofs.Ytemgidhelpacaaa.PS
