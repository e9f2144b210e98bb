/- Proofs that functions of the program come to what plain Lean functions say; made by wip/drive.py. -/
import Derived.Test.YtemgidhelpacaaaPSx0
import Derived.Test.YtemgidhelpacaaaPSx1
import Derived.Test.YtemgidhelpacaaaPSx2
namespace Go.Proofs.Ytemgidhelpacaaa.PS
open Go.RowKit Go.Proofs.YtemgidhelpacaaaW.PrintWords Go.Proofs.YtemgidhelpacaaaW.PrintLast Go.Proofs.YtemgidhelpacaaaW.PrintMore
attribute [local go_sem] max2_int min2_int max_two min_two max_three min_three max_four min_four   -- for this text's walks alone
set_option linter.unusedVariables false
set_option linter.unusedSimpArgs false

/-! ### tidemarklaw01_ShiftNear: function 3 -/
mutual
def tidemarklaw01_ShiftNear.j0 : Nat → Int → Int → Bool → Option (Bool)
  | 0, _, _, _ => none
  | k + 1, x0, x1, x5 => if x1 < 0 then (tidemarklaw01_ShiftNear.j1 k x0 (wrap64 (-(wrap64 (x1 + 1)))) x5) else (tidemarklaw01_ShiftNear.j1 k x0 x1 x5)
def tidemarklaw01_ShiftNear.j1 : Nat → Int → Int → Bool → Option (Bool)
  | 0, _, _, _ => none
  | k + 1, x0, x1, x5 => (shift_Zig.f x0).bind fun t128 => ((shift_Zig.f (wrap64 ((wrap64 (-x0)) - 1))).bind fun t129 => ((shift_Zig.f x1).bind fun t130 => ((shift_Zig.f (wrap64 ((wrap64 (-x1)) - 1))).bind fun t131 => (if x5 = true then (if t128 = (IntKind.u64.wrap (2 * (IntKind.u64.wrap (x0)))) then (if t129 = (IntKind.u64.wrap (t128 + 1)) then (if ((decide (x0 < x1)) == (decide (t129 < t130))) = true then (if ((decide (x0 < x1)) == (decide (t128 < t130))) = true then (if ((decide (x0 < x1)) == (decide (t129 < t131))) = true then ((shift_Zag.f t128).bind fun t132 => (if t132 = x0 then ((shift_Zag.f t129).bind fun t133 => (some (t133 == (wrap64 ((wrap64 (-x0)) - 1))))) else (some false))) else (some false)) else (some false)) else (some false)) else (some false)) else (some false)) else (some false)))))
end
def tidemarklaw01_ShiftNear.f (k : Nat) (a0 : Int) (a1 : Int) : Option (Bool) := (tidemarklaw01_shown.f k).bind fun t127 => (if a0 < 0 then (tidemarklaw01_ShiftNear.j0 k (wrap64 (-(wrap64 (a0 + 1)))) a1 t127) else (tidemarklaw01_ShiftNear.j0 k a0 a1 t127))
theorem tidemarklaw01_ShiftNear.mono_l : ∀ k, (∀ y0 y1 y2, LeO (tidemarklaw01_ShiftNear.j0 k y0 y1 y2) (tidemarklaw01_ShiftNear.j0 (k + 1) y0 y1 y2)) ∧ (∀ y0 y1 y2, LeO (tidemarklaw01_ShiftNear.j1 k y0 y1 y2) (tidemarklaw01_ShiftNear.j1 (k + 1) y0 y1 y2))
  | 0 => ⟨fun _ _ _ r h => by simp [tidemarklaw01_ShiftNear.j0] at h, fun _ _ _ r h => by simp [tidemarklaw01_ShiftNear.j1] at h⟩
  | k + 1 => by
    obtain ⟨ih0, ih1⟩ := tidemarklaw01_ShiftNear.mono_l k
    refine ⟨?_, ?_⟩
    · intro y0 y1 y2
      unfold tidemarklaw01_ShiftNear.j0
      repeat' first
      | (with_reducible exact ih0 _ _ _)
      | (with_reducible exact ih1 _ _ _)
      | (with_reducible exact tidemarklaw01_shown.mono _)
      | (with_reducible exact LeO.refl _)
      | (with_reducible exact LeO.none _)
      | (with_reducible refine LeO.ite ?_ ?_)
      | (with_reducible refine LeO.bind ?_ (fun _ => ?_))
      | exact ih0 _ _ _
      | exact ih1 _ _ _
      | exact tidemarklaw01_shown.mono _
      | exact LeO.none _
      | refine LeO.ite ?_ ?_
      | refine LeO.bind ?_ (fun _ => ?_)
    · intro y0 y1 y2
      unfold tidemarklaw01_ShiftNear.j1
      repeat' first
      | (with_reducible exact ih0 _ _ _)
      | (with_reducible exact ih1 _ _ _)
      | (with_reducible exact tidemarklaw01_shown.mono _)
      | (with_reducible exact LeO.refl _)
      | (with_reducible exact LeO.none _)
      | (with_reducible refine LeO.ite ?_ ?_)
      | (with_reducible refine LeO.bind ?_ (fun _ => ?_))
      | exact ih0 _ _ _
      | exact ih1 _ _ _
      | exact tidemarklaw01_shown.mono _
      | exact LeO.none _
      | refine LeO.ite ?_ ?_
      | refine LeO.bind ?_ (fun _ => ?_)
theorem tidemarklaw01_ShiftNear.mono : ∀ a0 a1 k, LeO (tidemarklaw01_ShiftNear.f k a0 a1) (tidemarklaw01_ShiftNear.f (k + 1) a0 a1) := by
  intro a0 a1 k
  obtain ⟨ih0, ih1⟩ := tidemarklaw01_ShiftNear.mono_l k
  unfold tidemarklaw01_ShiftNear.f
  repeat' first
      | (with_reducible exact ih0 _ _ _)
      | (with_reducible exact ih1 _ _ _)
      | (with_reducible exact tidemarklaw01_shown.mono _)
      | (with_reducible exact LeO.refl _)
      | (with_reducible exact LeO.none _)
      | (with_reducible refine LeO.ite ?_ ?_)
      | (with_reducible refine LeO.bind ?_ (fun _ => ?_))
      | exact ih0 _ _ _
      | exact ih1 _ _ _
      | exact tidemarklaw01_shown.mono _
      | exact LeO.none _
      | refine LeO.ite ?_ ?_
      | refine LeO.bind ?_ (fun _ => ?_)
set_option maxHeartbeats 8000000 in
set_option maxRecDepth 100000 in
theorem tidemarklaw01_ShiftNear.calls (k : Nat) (a0 : Int) (a1 : Int) (r : Bool) (w : World) (hrt : r = true) (h : tidemarklaw01_ShiftNear.f k a0 a1 = some r) :
    Calls Try.prog 3 #[.int .i64 a0, .int .i64 a1] w fun e w' => e = .returned (.bool r) ∧ Below w.heap.size w w' := by
  have HRT := Aside0.mk hrt
  clear hrt
  have HB := Aside0.mk (Below.refl w.heap.size w)
  have H : ((tidemarklaw01_shown.f k).bind fun t127 => (if a0 < 0 then (tidemarklaw01_ShiftNear.j0 k (wrap64 (-(wrap64 (a0 + 1)))) a1 t127) else (tidemarklaw01_ShiftNear.j0 k a0 a1 t127))) = some r := h
  clear h
  replace H := Option.bind_eq_some_iff.mp H
  obtain ⟨t127, A30, H⟩ := H
  replace H : (if a0 < 0 then (tidemarklaw01_ShiftNear.j0 k (wrap64 (-(wrap64 (a0 + 1)))) a1 t127) else (tidemarklaw01_ShiftNear.j0 k a0 a1 t127)) = some r := H
  have A3 := Aside0.mk A30
  clear A30
  have HC4 := Aside0.mk H
  clear H
  go_enter Try.func3, Try.ntmps3
  go_upto_if 12 with (first | ((with_reducible refine gate_callee (f := 11) rfl ?_); refine goesL_ (some 10) rfl rfl Try.func11 (by kernel_rfl) rfl #[] rfl (by (try simp only [List.map_toArray, List.map_cons, List.map_nil]); first | done | rfl | (simp only [List.length_drop, List.length_take]; rfl)) ?_; (with_reducible refine (tidemarklaw01_shown.calls k  t127 _ A3.out).mono ?_); rintro e w5 ⟨rfl, hb⟩; refine ⟨_, rfl, ?_⟩; have n0_ := Aside0.mk (below_step (by repeat (first | (with_reducible first | exact HB.out | apply below_alloc | apply pw_below_drewN | apply below_drew1) | exact HB.out)) hb); clear HB; have HB := n0_; clear n0_; (try clear hb); (try clear hb2); (try clear hk); (try clear hi)))
  (try simp only [Act.put, List.setIfInBounds_toArray, List.set_cons_zero, List.set_cons_succ])
  go_cut [0] (fun v0 wc => ∃ (kq : Nat) (x0_3 : Int), v0 = .int .i64 x0_3 ∧ Aside0 (tidemarklaw01_ShiftNear.j0 kq x0_3 a1 t127 = some r) ∧ Aside0 (kq ≤ k) ∧ Aside0 (Below w.heap.size w wc))
  case first =>
    have H := HC4.out
    clear HC4
    by_cases c6 : a0 < 0
    · rw [if_pos c6] at H
      have c6b0 : decide (a0 < 0) = true := decide_eq_true c6
      clear c6
      (first | rw [c6b0] | (simp only [i64_w, i32_w]; rw [c6b0]) | skip)
      have H' := Aside0.mk H
      clear H
      go_wp2
      go_meet
      case rel => exact ⟨_, (wrap64 (-(wrap64 (a0 + 1)))), (by first | rfl | (simp; done) | (simp [*]; done)), H', ⟨by first | omega | exact Nat.le_refl _⟩, ⟨by repeat (first | (with_reducible first | exact HB.out | apply below_alloc | apply pw_below_drewN | apply below_drew1) | exact HB.out)⟩⟩
    · rw [if_neg c6] at H
      have c6b0 : decide (a0 < 0) = false := decide_eq_false c6
      clear c6
      (first | rw [c6b0] | (simp only [i64_w, i32_w]; rw [c6b0]) | skip)
      have H' := Aside0.mk H
      clear H
      go_wp2
      go_meet
      case rel => exact ⟨_, (a0), (by first | rfl | (simp; done) | (simp [*]; done)), H', ⟨by first | omega | exact Nat.le_refl _⟩, ⟨by repeat (first | (with_reducible first | exact HB.out | apply below_alloc | apply pw_below_drewN | apply below_drew1) | exact HB.out)⟩⟩
  case rest =>
    clear HC4
    try clear c1
    try clear p2
    try clear c3
    try clear c6
    try clear c6b0
    try clear p6
    obtain ⟨kq, x0_3, rfl, HA, HJ3, HB⟩ := hcut
    cases kq with
    | zero => exact absurd HA.out (by simp [tidemarklaw01_ShiftNear.j0])
    | succ kj3 =>
      have H := HA.out
      clear HA
      simp only [tidemarklaw01_ShiftNear.j0] at H
      have HC7 := Aside0.mk H
      clear H
      go_upto_if 17 with (fail)
      go_cut [1] (fun v1 wc => ∃ (kq : Nat) (x1_6 : Int), v1 = .int .i64 x1_6 ∧ Aside0 (tidemarklaw01_ShiftNear.j1 kq x0_3 x1_6 t127 = some r) ∧ Aside0 (kq ≤ kj3) ∧ Aside0 (Below w.heap.size w wc))
      case first =>
        have H := HC7.out
        clear HC7
        by_cases c8 : a1 < 0
        · rw [if_pos c8] at H
          have c8b0 : decide (a1 < 0) = true := decide_eq_true c8
          clear c8
          (first | rw [c8b0] | (simp only [i64_w, i32_w]; rw [c8b0]) | skip)
          have H' := Aside0.mk H
          clear H
          go_wp2
          go_meet
          case rel => exact ⟨_, (wrap64 (-(wrap64 (a1 + 1)))), (by first | rfl | (simp; done) | (simp [*]; done)), H', ⟨by have := HJ3.out; first | omega | exact Nat.le_refl _⟩, ⟨by repeat (first | (with_reducible first | exact HB.out | apply below_alloc | apply pw_below_drewN | apply below_drew1) | exact HB.out)⟩⟩
        · rw [if_neg c8] at H
          have c8b0 : decide (a1 < 0) = false := decide_eq_false c8
          clear c8
          (first | rw [c8b0] | (simp only [i64_w, i32_w]; rw [c8b0]) | skip)
          have H' := Aside0.mk H
          clear H
          go_wp2
          go_meet
          case rel => exact ⟨_, (a1), (by first | rfl | (simp; done) | (simp [*]; done)), H', ⟨by have := HJ3.out; first | omega | exact Nat.le_refl _⟩, ⟨by repeat (first | (with_reducible first | exact HB.out | apply below_alloc | apply pw_below_drewN | apply below_drew1) | exact HB.out)⟩⟩
      case rest =>
        clear HC7
        try clear c1
        try clear p2
        try clear c3
        try clear c6
        try clear c6b0
        try clear p6
        try clear c8
        try clear c8b0
        try clear p2
        try clear p6
        obtain ⟨kq, x1_6, rfl, HA, HJ6, HB⟩ := hcut
        cases kq with
        | zero => exact absurd HA.out (by simp [tidemarklaw01_ShiftNear.j1])
        | succ kj6 =>
          have H := HA.out
          clear HA
          simp only [tidemarklaw01_ShiftNear.j1] at H
          replace H := Option.bind_eq_some_iff.mp H
          obtain ⟨t128, A90, H⟩ := H
          replace H : ((shift_Zig.f (wrap64 ((wrap64 (-x0_3)) - 1))).bind fun t129 => ((shift_Zig.f x1_6).bind fun t130 => ((shift_Zig.f (wrap64 ((wrap64 (-x1_6)) - 1))).bind fun t131 => (if t127 = true then (if t128 = (IntKind.u64.wrap (2 * (IntKind.u64.wrap (x0_3)))) then (if t129 = (IntKind.u64.wrap (t128 + 1)) then (if ((decide (x0_3 < x1_6)) == (decide (t129 < t130))) = true then (if ((decide (x0_3 < x1_6)) == (decide (t128 < t130))) = true then (if ((decide (x0_3 < x1_6)) == (decide (t129 < t131))) = true then ((shift_Zag.f t128).bind fun t132 => (if t132 = x0_3 then ((shift_Zag.f t129).bind fun t133 => (some (t133 == (wrap64 ((wrap64 (-x0_3)) - 1))))) else (some false))) else (some false)) else (some false)) else (some false)) else (some false)) else (some false)) else (some false))))) = some r := H
          have A9 := Aside0.mk A90
          clear A90
          replace H := Option.bind_eq_some_iff.mp H
          obtain ⟨t129, A100, H⟩ := H
          replace H : ((shift_Zig.f x1_6).bind fun t130 => ((shift_Zig.f (wrap64 ((wrap64 (-x1_6)) - 1))).bind fun t131 => (if t127 = true then (if t128 = (IntKind.u64.wrap (2 * (IntKind.u64.wrap (x0_3)))) then (if t129 = (IntKind.u64.wrap (t128 + 1)) then (if ((decide (x0_3 < x1_6)) == (decide (t129 < t130))) = true then (if ((decide (x0_3 < x1_6)) == (decide (t128 < t130))) = true then (if ((decide (x0_3 < x1_6)) == (decide (t129 < t131))) = true then ((shift_Zag.f t128).bind fun t132 => (if t132 = x0_3 then ((shift_Zag.f t129).bind fun t133 => (some (t133 == (wrap64 ((wrap64 (-x0_3)) - 1))))) else (some false))) else (some false)) else (some false)) else (some false)) else (some false)) else (some false)) else (some false)))) = some r := H
          have A10 := Aside0.mk A100
          clear A100
          replace H := Option.bind_eq_some_iff.mp H
          obtain ⟨t130, A110, H⟩ := H
          replace H : ((shift_Zig.f (wrap64 ((wrap64 (-x1_6)) - 1))).bind fun t131 => (if t127 = true then (if t128 = (IntKind.u64.wrap (2 * (IntKind.u64.wrap (x0_3)))) then (if t129 = (IntKind.u64.wrap (t128 + 1)) then (if ((decide (x0_3 < x1_6)) == (decide (t129 < t130))) = true then (if ((decide (x0_3 < x1_6)) == (decide (t128 < t130))) = true then (if ((decide (x0_3 < x1_6)) == (decide (t129 < t131))) = true then ((shift_Zag.f t128).bind fun t132 => (if t132 = x0_3 then ((shift_Zag.f t129).bind fun t133 => (some (t133 == (wrap64 ((wrap64 (-x0_3)) - 1))))) else (some false))) else (some false)) else (some false)) else (some false)) else (some false)) else (some false)) else (some false))) = some r := H
          have A11 := Aside0.mk A110
          clear A110
          replace H := Option.bind_eq_some_iff.mp H
          obtain ⟨t131, A120, H⟩ := H
          replace H : (if t127 = true then (if t128 = (IntKind.u64.wrap (2 * (IntKind.u64.wrap (x0_3)))) then (if t129 = (IntKind.u64.wrap (t128 + 1)) then (if ((decide (x0_3 < x1_6)) == (decide (t129 < t130))) = true then (if ((decide (x0_3 < x1_6)) == (decide (t128 < t130))) = true then (if ((decide (x0_3 < x1_6)) == (decide (t129 < t131))) = true then ((shift_Zag.f t128).bind fun t132 => (if t132 = x0_3 then ((shift_Zag.f t129).bind fun t133 => (some (t133 == (wrap64 ((wrap64 (-x0_3)) - 1))))) else (some false))) else (some false)) else (some false)) else (some false)) else (some false)) else (some false)) else (some false)) = some r := H
          have A12 := Aside0.mk A120
          clear A120
          by_cases c13 : t127 = true
          · subst c13
            have H1 : (if t128 = (IntKind.u64.wrap (2 * (IntKind.u64.wrap (x0_3)))) then (if t129 = (IntKind.u64.wrap (t128 + 1)) then (if ((decide (x0_3 < x1_6)) == (decide (t129 < t130))) = true then (if ((decide (x0_3 < x1_6)) == (decide (t128 < t130))) = true then (if ((decide (x0_3 < x1_6)) == (decide (t129 < t131))) = true then ((shift_Zag.f t128).bind fun t132 => (if t132 = x0_3 then ((shift_Zag.f t129).bind fun t133 => (some (t133 == (wrap64 ((wrap64 (-x0_3)) - 1))))) else (some false))) else (some false)) else (some false)) else (some false)) else (some false)) else (some false)) = some r := by rw [if_pos rfl] at H; exact H
            clear H
            have H := H1
            clear H1
            by_cases c14 : t128 = (IntKind.u64.wrap (2 * (IntKind.u64.wrap (x0_3))))
            · rw [if_pos c14] at H
              have c14b0 : (t128 == (IntKind.u64.wrap (2 * (IntKind.u64.wrap (x0_3))))) = true := beq_iff_eq.mpr c14
              have c14b1 : (t128 != (IntKind.u64.wrap (2 * (IntKind.u64.wrap (x0_3))))) = false := bne_eq_false_iff_eq.mpr c14
              clear c14
              by_cases c15 : t129 = (IntKind.u64.wrap (t128 + 1))
              · rw [if_pos c15] at H
                have c15b0 : (t129 == (IntKind.u64.wrap (t128 + 1))) = true := beq_iff_eq.mpr c15
                have c15b1 : (t129 != (IntKind.u64.wrap (t128 + 1))) = false := bne_eq_false_iff_eq.mpr c15
                clear c15
                by_cases c16 : ((decide (x0_3 < x1_6)) == (decide (t129 < t130))) = true
                · rw [if_pos c16] at H
                  have c16b0 : ((decide (x0_3 < x1_6)) == (decide (t129 < t130))) = true := c16
                  (try (have c16b1 : decide ((decide (x0_3 < x1_6)) = (decide (t129 < t130))) = true := by simpa using c16))
                  (try (have c16b2 : ((decide (x0_3 < x1_6)) == (decide (t129 < t130))) = true := by simpa using c16))
                  clear c16
                  by_cases c17 : ((decide (x0_3 < x1_6)) == (decide (t128 < t130))) = true
                  · rw [if_pos c17] at H
                    have c17b0 : ((decide (x0_3 < x1_6)) == (decide (t128 < t130))) = true := c17
                    (try (have c17b1 : decide ((decide (x0_3 < x1_6)) = (decide (t128 < t130))) = true := by simpa using c17))
                    (try (have c17b2 : ((decide (x0_3 < x1_6)) == (decide (t128 < t130))) = true := by simpa using c17))
                    clear c17
                    by_cases c18 : ((decide (x0_3 < x1_6)) == (decide (t129 < t131))) = true
                    · rw [if_pos c18] at H
                      have c18b0 : ((decide (x0_3 < x1_6)) == (decide (t129 < t131))) = true := c18
                      (try (have c18b1 : decide ((decide (x0_3 < x1_6)) = (decide (t129 < t131))) = true := by simpa using c18))
                      (try (have c18b2 : ((decide (x0_3 < x1_6)) == (decide (t129 < t131))) = true := by simpa using c18))
                      clear c18
                      replace H := Option.bind_eq_some_iff.mp H
                      obtain ⟨t132, A190, H⟩ := H
                      replace H : (if t132 = x0_3 then ((shift_Zag.f t129).bind fun t133 => (some (t133 == (wrap64 ((wrap64 (-x0_3)) - 1))))) else (some false)) = some r := H
                      have A19 := Aside0.mk A190
                      clear A190
                      by_cases c20 : t132 = x0_3
                      · rw [if_pos c20] at H
                        have c20b0 : (t132 == x0_3) = true := beq_iff_eq.mpr c20
                        have c20b1 : (t132 != x0_3) = false := bne_eq_false_iff_eq.mpr c20
                        clear c20
                        replace H := Option.bind_eq_some_iff.mp H
                        obtain ⟨t133, A210, H⟩ := H
                        replace H : (some (t133 == (wrap64 ((wrap64 (-x0_3)) - 1)))) = some r := H
                        have A21 := Aside0.mk A210
                        clear A210
                        obtain rfl := Option.some.inj H
                        go_wp2_with (first | ((with_reducible refine gate_callee (f := 12) rfl ?_); refine goesL_ (some 22) rfl rfl Try.func12 (by kernel_rfl) rfl #[.int .i64 x0_3] rfl (by (try simp only [List.map_toArray, List.map_cons, List.map_nil]); first | done | rfl | (simp only [List.length_drop, List.length_take]; rfl)) ?_; (with_reducible refine (shift_Zig.calls x0_3 t128 _ A9.out).mono ?_); rintro e w' ⟨rfl, ⟨nd, rfl⟩⟩; refine ⟨_, rfl, ?_⟩) | ((with_reducible refine gate_callee (f := 12) rfl ?_); refine goesL_ (some 26) rfl rfl Try.func12 (by kernel_rfl) rfl #[.int .i64 (wrap64 ((wrap64 (-x0_3)) - 1))] rfl (by (try simp only [List.map_toArray, List.map_cons, List.map_nil]); first | done | rfl | (simp only [List.length_drop, List.length_take]; rfl)) ?_; (with_reducible refine (shift_Zig.calls (wrap64 ((wrap64 (-x0_3)) - 1)) t129 _ A10.out).mono ?_); rintro e w' ⟨rfl, ⟨nd, rfl⟩⟩; refine ⟨_, rfl, ?_⟩) | ((with_reducible refine gate_callee (f := 12) rfl ?_); refine goesL_ (some 28) rfl rfl Try.func12 (by kernel_rfl) rfl #[.int .i64 x1_6] rfl (by (try simp only [List.map_toArray, List.map_cons, List.map_nil]); first | done | rfl | (simp only [List.length_drop, List.length_take]; rfl)) ?_; (with_reducible refine (shift_Zig.calls x1_6 t130 _ A11.out).mono ?_); rintro e w' ⟨rfl, ⟨nd, rfl⟩⟩; refine ⟨_, rfl, ?_⟩) | ((with_reducible refine gate_callee (f := 12) rfl ?_); refine goesL_ (some 32) rfl rfl Try.func12 (by kernel_rfl) rfl #[.int .i64 (wrap64 ((wrap64 (-x1_6)) - 1))] rfl (by (try simp only [List.map_toArray, List.map_cons, List.map_nil]); first | done | rfl | (simp only [List.length_drop, List.length_take]; rfl)) ?_; (with_reducible refine (shift_Zig.calls (wrap64 ((wrap64 (-x1_6)) - 1)) t131 _ A12.out).mono ?_); rintro e w' ⟨rfl, ⟨nd, rfl⟩⟩; refine ⟨_, rfl, ?_⟩) | (go_at_call 13; (with_reducible refine (shift_Zag.calls t128 t132 _ A19.out).mono ?_); rintro e w' ⟨rfl, ⟨nd, rfl⟩⟩) | (go_at_call 13; (with_reducible refine (shift_Zag.calls t129 t133 _ A21.out).mono ?_); rintro e w' ⟨rfl, ⟨nd, rfl⟩⟩))
                        go_ret
                        exact ⟨by first | rfl | (simp [errW_none, errW_some] <;> rfl) | (simp [*, errW_none, errW_some] <;> rfl), by repeat (first | (with_reducible first | exact HB.out | apply below_alloc | apply pw_below_drewN | apply below_drew1) | exact HB.out)⟩
                      · rw [if_neg c20] at H
                        have c20b0 : (t132 == x0_3) = false := beq_eq_false_iff_ne.mpr c20
                        have c20b1 : (t132 != x0_3) = true := bne_iff_ne.mpr c20
                        exact absurd ((Option.some.inj H).trans HRT.out) (by decide)
                    · rw [if_neg c18] at H
                      have c18b0 : ((decide (x0_3 < x1_6)) == (decide (t129 < t131))) = false := by simpa using c18
                      (try (have c18b1 : decide ((decide (x0_3 < x1_6)) = (decide (t129 < t131))) = false := by simpa using c18))
                      (try (have c18b2 : ((decide (x0_3 < x1_6)) == (decide (t129 < t131))) = false := by simpa using c18))
                      (try (have c18b3 : ¬ ((decide (x0_3 < x1_6)) = (decide (t129 < t131))) := by simpa using c18))
                      clear c18
                      exact absurd ((Option.some.inj H).trans HRT.out) (by decide)
                  · rw [if_neg c17] at H
                    have c17b0 : ((decide (x0_3 < x1_6)) == (decide (t128 < t130))) = false := by simpa using c17
                    (try (have c17b1 : decide ((decide (x0_3 < x1_6)) = (decide (t128 < t130))) = false := by simpa using c17))
                    (try (have c17b2 : ((decide (x0_3 < x1_6)) == (decide (t128 < t130))) = false := by simpa using c17))
                    (try (have c17b3 : ¬ ((decide (x0_3 < x1_6)) = (decide (t128 < t130))) := by simpa using c17))
                    clear c17
                    exact absurd ((Option.some.inj H).trans HRT.out) (by decide)
                · rw [if_neg c16] at H
                  have c16b0 : ((decide (x0_3 < x1_6)) == (decide (t129 < t130))) = false := by simpa using c16
                  (try (have c16b1 : decide ((decide (x0_3 < x1_6)) = (decide (t129 < t130))) = false := by simpa using c16))
                  (try (have c16b2 : ((decide (x0_3 < x1_6)) == (decide (t129 < t130))) = false := by simpa using c16))
                  (try (have c16b3 : ¬ ((decide (x0_3 < x1_6)) = (decide (t129 < t130))) := by simpa using c16))
                  clear c16
                  exact absurd ((Option.some.inj H).trans HRT.out) (by decide)
              · rw [if_neg c15] at H
                have c15b0 : (t129 == (IntKind.u64.wrap (t128 + 1))) = false := beq_eq_false_iff_ne.mpr c15
                have c15b1 : (t129 != (IntKind.u64.wrap (t128 + 1))) = true := bne_iff_ne.mpr c15
                exact absurd ((Option.some.inj H).trans HRT.out) (by decide)
            · rw [if_neg c14] at H
              have c14b0 : (t128 == (IntKind.u64.wrap (2 * (IntKind.u64.wrap (x0_3))))) = false := beq_eq_false_iff_ne.mpr c14
              have c14b1 : (t128 != (IntKind.u64.wrap (2 * (IntKind.u64.wrap (x0_3))))) = true := bne_iff_ne.mpr c14
              exact absurd ((Option.some.inj H).trans HRT.out) (by decide)
          · replace c13 := Bool.eq_false_iff.mpr c13
            subst c13
            have H1 : (some false) = some r := by rw [if_neg (show ¬ (false = true) by decide)] at H; exact H
            clear H
            have H := H1
            clear H1
            exact absurd ((Option.some.inj H).trans HRT.out) (by decide)

/-- THE ONE PURE STATEMENT of tidemarklaw01_ShiftNear: yours. -/
def tidemarklaw01_ShiftNear.Pure : Prop := ∀ (a0 : Int) (a1 : Int), (Lit.int .i64 a0).wf = true → (Lit.int .i64 a1).wf = true → ∃ k, tidemarklaw01_ShiftNear.f k a0 a1 = some true
theorem tidemarklaw01_ShiftNear.walk (P : tidemarklaw01_ShiftNear.Pure) (a0 : Int) (a1 : Int) (w : World) (w0 : (Lit.int .i64 a0).wf = true) (w1 : (Lit.int .i64 a1).wf = true) :
    Calls Try.prog 3 #[.int .i64 a0, .int .i64 a1] w fun e w' => e = .returned (.bool true) ∧ Below w.heap.size w w' := by
  obtain ⟨k, h⟩ := P a0 a1 w0 w1
  refine (tidemarklaw01_ShiftNear.calls k a0 a1 true w rfl h).mono ?_
  rintro e w' ⟨rfl, hd⟩
  exact ⟨rfl, hd⟩

end Go.Proofs.Ytemgidhelpacaaa.PS
