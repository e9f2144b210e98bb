/- Proofs that functions of the program come to what plain Lean functions say; made by wip/drive.py. -/
import Derived.Test.YtemgidhelpacaaaPSx0
import Derived.Test.YtemgidhelpacaaaPSx1
import Derived.Test.YtemgidhelpacaaaPSx2
namespace Go.Proofs.Ytemgidhelpacaaa.PS
open Go.RowKit Go.Proofs.YtemgidhelpacaaaW.PrintWords Go.Proofs.YtemgidhelpacaaaW.PrintLast Go.Proofs.YtemgidhelpacaaaW.PrintMore
attribute [local go_sem] max2_int min2_int max_two min_two max_three min_three max_four min_four   -- for this text's walks alone
set_option linter.unusedVariables false
set_option linter.unusedSimpArgs false

/-! ### tidemarklaw01_ShiftBetween: function 4 -/
mutual
def tidemarklaw01_ShiftBetween.j0 : Nat → Int → Int → Int → Bool → Int → Bool → Option (Bool)
  | 0, _, _, _, _, _, _ => none
  | k + 1, x0, x1, x2, x7, x8, x34 => if x34 = true then (some false) else (if ((x2 + 1) % 4294967296) < 16777216 then ((shift_Pack.f x0 x1 ((x2 + 1) % 4294967296)).bind fun bt137 => (if bt137.2 = 0 then (if (IntKind.u64.wrap (bt137.1 - x8)) = 256 then (tidemarklaw01_ShiftBetween.j1 k x0 x1 x2 x7 x8) else (some false)) else (some false))) else ((shift_Pack.f x0 x1 ((x2 + 1) % 4294967296)).bind fun bt139 => (if bt139.2 = 1 then (tidemarklaw01_ShiftBetween.j1 k x0 x1 x2 x7 x8) else (some false))))
def tidemarklaw01_ShiftBetween.j1 : Nat → Int → Int → Int → Bool → Int → Option (Bool)
  | 0, _, _, _, _, _ => none
  | k + 1, x0, x1, x2, x7, x8 => if x1 < 255 then ((shift_Pack.f x0 ((x1 + 1) % 256) x2).bind fun bt141 => (if bt141.2 = 0 then (if (IntKind.u64.wrap (bt141.1 - x8)) = 1 then (some x7) else (some false)) else (some false))) else (some x7)
end
def tidemarklaw01_ShiftBetween.f (k : Nat) (a0 : Int) (a1 : Int) (a2 : Int) : Option (Bool) := (tidemarklaw01_shown.f k).bind fun t134 => ((shift_Pack.f a0 a1 (Go.bits .and .u32 a2 16777215)).bind fun bt135 => (if bt135.2 = 0 then (tidemarklaw01_ShiftBetween.j0 k a0 a1 (Go.bits .and .u32 a2 16777215) t134 bt135.1 ((bt135.1 / 4294967296) != (IntKind.u64.wrap (a0)))) else (tidemarklaw01_ShiftBetween.j0 k a0 a1 (Go.bits .and .u32 a2 16777215) t134 bt135.1 true)))
theorem tidemarklaw01_ShiftBetween.mono_l : ∀ k, (∀ y0 y1 y2 y3 y4 y5, LeO (tidemarklaw01_ShiftBetween.j0 k y0 y1 y2 y3 y4 y5) (tidemarklaw01_ShiftBetween.j0 (k + 1) y0 y1 y2 y3 y4 y5)) ∧ (∀ y0 y1 y2 y3 y4, LeO (tidemarklaw01_ShiftBetween.j1 k y0 y1 y2 y3 y4) (tidemarklaw01_ShiftBetween.j1 (k + 1) y0 y1 y2 y3 y4))
  | 0 => ⟨fun _ _ _ _ _ _ r h => by simp [tidemarklaw01_ShiftBetween.j0] at h, fun _ _ _ _ _ r h => by simp [tidemarklaw01_ShiftBetween.j1] at h⟩
  | k + 1 => by
    obtain ⟨ih0, ih1⟩ := tidemarklaw01_ShiftBetween.mono_l k
    refine ⟨?_, ?_⟩
    · intro y0 y1 y2 y3 y4 y5
      unfold tidemarklaw01_ShiftBetween.j0
      repeat' first
      | (with_reducible exact ih0 _ _ _ _ _ _)
      | (with_reducible exact ih1 _ _ _ _ _)
      | (with_reducible exact tidemarklaw01_shown.mono _)
      | (with_reducible exact LeO.refl _)
      | (with_reducible exact LeO.none _)
      | (with_reducible refine LeO.ite ?_ ?_)
      | (with_reducible refine LeO.bind ?_ (fun _ => ?_))
      | exact ih0 _ _ _ _ _ _
      | exact ih1 _ _ _ _ _
      | exact tidemarklaw01_shown.mono _
      | exact LeO.none _
      | refine LeO.ite ?_ ?_
      | refine LeO.bind ?_ (fun _ => ?_)
    · intro y0 y1 y2 y3 y4
      unfold tidemarklaw01_ShiftBetween.j1
      repeat' first
      | (with_reducible exact ih0 _ _ _ _ _ _)
      | (with_reducible exact ih1 _ _ _ _ _)
      | (with_reducible exact tidemarklaw01_shown.mono _)
      | (with_reducible exact LeO.refl _)
      | (with_reducible exact LeO.none _)
      | (with_reducible refine LeO.ite ?_ ?_)
      | (with_reducible refine LeO.bind ?_ (fun _ => ?_))
      | exact ih0 _ _ _ _ _ _
      | exact ih1 _ _ _ _ _
      | exact tidemarklaw01_shown.mono _
      | exact LeO.none _
      | refine LeO.ite ?_ ?_
      | refine LeO.bind ?_ (fun _ => ?_)
theorem tidemarklaw01_ShiftBetween.mono : ∀ a0 a1 a2 k, LeO (tidemarklaw01_ShiftBetween.f k a0 a1 a2) (tidemarklaw01_ShiftBetween.f (k + 1) a0 a1 a2) := by
  intro a0 a1 a2 k
  obtain ⟨ih0, ih1⟩ := tidemarklaw01_ShiftBetween.mono_l k
  unfold tidemarklaw01_ShiftBetween.f
  repeat' first
      | (with_reducible exact ih0 _ _ _ _ _ _)
      | (with_reducible exact ih1 _ _ _ _ _)
      | (with_reducible exact tidemarklaw01_shown.mono _)
      | (with_reducible exact LeO.refl _)
      | (with_reducible exact LeO.none _)
      | (with_reducible refine LeO.ite ?_ ?_)
      | (with_reducible refine LeO.bind ?_ (fun _ => ?_))
      | exact ih0 _ _ _ _ _ _
      | exact ih1 _ _ _ _ _
      | exact tidemarklaw01_shown.mono _
      | exact LeO.none _
      | refine LeO.ite ?_ ?_
      | refine LeO.bind ?_ (fun _ => ?_)
set_option maxHeartbeats 8000000 in
set_option maxRecDepth 100000 in
theorem tidemarklaw01_ShiftBetween.calls (k : Nat) (a0 : Int) (a1 : Int) (a2 : Int) (r : Bool) (w : World) (hrt : r = true) (h : tidemarklaw01_ShiftBetween.f k a0 a1 a2 = some r) :
    Calls Try.prog 4 #[.int .u32 a0, .int .u8 a1, .int .u32 a2] w fun e w' => e = .returned (.bool r) ∧ Below w.heap.size w w' := by
  have HRT := Aside0.mk hrt
  clear hrt
  have HB := Aside0.mk (Below.refl w.heap.size w)
  have H : ((tidemarklaw01_shown.f k).bind fun t134 => ((shift_Pack.f a0 a1 (Go.bits .and .u32 a2 16777215)).bind fun bt135 => (if bt135.2 = 0 then (tidemarklaw01_ShiftBetween.j0 k a0 a1 (Go.bits .and .u32 a2 16777215) t134 bt135.1 ((bt135.1 / 4294967296) != (IntKind.u64.wrap (a0)))) else (tidemarklaw01_ShiftBetween.j0 k a0 a1 (Go.bits .and .u32 a2 16777215) t134 bt135.1 true)))) = some r := h
  clear h
  replace H := Option.bind_eq_some_iff.mp H
  obtain ⟨t134, A40, H⟩ := H
  replace H : ((shift_Pack.f a0 a1 (Go.bits .and .u32 a2 16777215)).bind fun bt135 => (if bt135.2 = 0 then (tidemarklaw01_ShiftBetween.j0 k a0 a1 (Go.bits .and .u32 a2 16777215) t134 bt135.1 ((bt135.1 / 4294967296) != (IntKind.u64.wrap (a0)))) else (tidemarklaw01_ShiftBetween.j0 k a0 a1 (Go.bits .and .u32 a2 16777215) t134 bt135.1 true))) = some r := H
  have A4 := Aside0.mk A40
  clear A40
  replace H := Option.bind_eq_some_iff.mp H
  obtain ⟨⟨t135, t136⟩, A50, H⟩ := H
  replace H : (if t136 = 0 then (tidemarklaw01_ShiftBetween.j0 k a0 a1 (Go.bits .and .u32 a2 16777215) t134 t135 ((t135 / 4294967296) != (IntKind.u64.wrap (a0)))) else (tidemarklaw01_ShiftBetween.j0 k a0 a1 (Go.bits .and .u32 a2 16777215) t134 t135 true)) = some r := H
  have A5 := Aside0.mk A50
  clear A50
  have HC6 := Aside0.mk H
  clear H
  go_enter Try.func4, Try.ntmps4
  go_upto_region 4 with (first | ((with_reducible refine gate_callee (f := 11) rfl ?_); refine goesL_ (some 16) rfl rfl Try.func11 (by kernel_rfl) rfl #[] rfl (by (try simp only [List.map_toArray, List.map_cons, List.map_nil]); first | done | rfl | (simp only [List.length_drop, List.length_take]; rfl)) ?_; (with_reducible refine (tidemarklaw01_shown.calls k  t134 _ A4.out).mono ?_); rintro e w7 ⟨rfl, hb⟩; refine ⟨_, rfl, ?_⟩; have n0_ := Aside0.mk (below_step (by repeat (first | (with_reducible first | exact HB.out | apply below_alloc | apply pw_below_drewN | apply below_drew1) | exact HB.out)) hb); clear HB; have HB := n0_; clear n0_; (try clear hb); (try clear hb2); (try clear hk); (try clear hi)) | ((with_reducible refine gate_callee (f := 14) rfl ?_); refine goesL_ (some 23) rfl rfl Try.func14 (by kernel_rfl) rfl #[.int .u32 a0, .int .u8 a1, .int .u32 (Go.bits .and .u32 a2 16777215)] rfl (by (try simp only [List.map_toArray, List.map_cons, List.map_nil]); first | done | rfl | (simp only [List.length_drop, List.length_take]; rfl)) ?_; (with_reducible refine (shift_Pack.calls a0 a1 (Go.bits .and .u32 a2 16777215) t135 t136 _ A5.out).mono ?_); rintro e w' ⟨rfl, ⟨nd, rfl⟩⟩; refine ⟨_, rfl, ?_⟩))
  (try simp only [Act.put, List.setIfInBounds_toArray, List.set_cons_zero, List.set_cons_succ])
  go_cut [34] (fun v34 wc => ∃ (kq : Nat) (x34_5 : Bool), v34 = .bool x34_5 ∧ Aside0 (tidemarklaw01_ShiftBetween.j0 kq a0 a1 (Go.bits .and .u32 a2 16777215) t134 t135 x34_5 = some r) ∧ Aside0 (kq ≤ k) ∧ Aside0 (Below w.heap.size w wc))
  case first =>
    have H := HC6.out
    clear HC6
    by_cases c8 : t136 = 0
    · rw [if_pos c8] at H
      have c8b0 : (t136 == 0) = true := beq_iff_eq.mpr c8
      have c8b1 : (t136 != 0) = false := bne_eq_false_iff_eq.mpr c8
      clear c8
      (first | rw [c8b0] | (simp only [i64_w, i32_w]; rw [c8b0]) | skip)
      have H' := Aside0.mk H
      clear H
      go_wp2
      go_meet
      case rel => exact ⟨_, (((t135 / 4294967296) != (IntKind.u64.wrap (a0)))), (by first | rfl | (simp; done) | (simp [*]; done)), H', ⟨by first | omega | exact Nat.le_refl _⟩, ⟨by repeat (first | (with_reducible first | exact HB.out | apply below_alloc | apply pw_below_drewN | apply below_drew1) | exact HB.out)⟩⟩
    · rw [if_neg c8] at H
      have c8b0 : (t136 == 0) = false := beq_eq_false_iff_ne.mpr c8
      have c8b1 : (t136 != 0) = true := bne_iff_ne.mpr c8
      (first | rw [c8b0] | (simp only [i64_w, i32_w]; rw [c8b0]) | skip)
      have H' := Aside0.mk H
      clear H
      go_wp2
      go_meet
      case rel => exact ⟨_, (true), (by first | rfl | (simp; done) | (simp [*]; done)), H', ⟨by first | omega | exact Nat.le_refl _⟩, ⟨by repeat (first | (with_reducible first | exact HB.out | apply below_alloc | apply pw_below_drewN | apply below_drew1) | exact HB.out)⟩⟩
  case rest =>
    clear HC6
    try clear c1
    try clear p2
    try clear c4
    try clear c8
    try clear c8b0
    try clear c8b1
    obtain ⟨kq, x34_5, rfl, HA, HJ5, HB⟩ := hcut
    cases kq with
    | zero => exact absurd HA.out (by simp [tidemarklaw01_ShiftBetween.j0])
    | succ kj5 =>
      have H := HA.out
      clear HA
      simp only [tidemarklaw01_ShiftBetween.j0] at H
      by_cases c9 : x34_5 = true
      · subst c9
        have H1 : (some false) = some r := by rw [if_pos rfl] at H; exact H
        clear H
        have H := H1
        clear H1
        exact absurd ((Option.some.inj H).trans HRT.out) (by decide)
      · replace c9 := Bool.eq_false_iff.mpr c9
        subst c9
        have H1 : (if (((Go.bits .and .u32 a2 16777215) + 1) % 4294967296) < 16777216 then ((shift_Pack.f a0 a1 (((Go.bits .and .u32 a2 16777215) + 1) % 4294967296)).bind fun bt137 => (if bt137.2 = 0 then (if (IntKind.u64.wrap (bt137.1 - t135)) = 256 then (tidemarklaw01_ShiftBetween.j1 kj5 a0 a1 (Go.bits .and .u32 a2 16777215) t134 t135) else (some false)) else (some false))) else ((shift_Pack.f a0 a1 (((Go.bits .and .u32 a2 16777215) + 1) % 4294967296)).bind fun bt139 => (if bt139.2 = 1 then (tidemarklaw01_ShiftBetween.j1 kj5 a0 a1 (Go.bits .and .u32 a2 16777215) t134 t135) else (some false)))) = some r := by rw [if_neg (show ¬ (false = true) by decide)] at H; exact H
        clear H
        have H := H1
        clear H1
        have HC10 := Aside0.mk H
        clear H
        go_upto_if 37 with (fail)
        go_cut [] (fun wc => ∃ (kq : Nat), Aside0 (tidemarklaw01_ShiftBetween.j1 kq a0 a1 (Go.bits .and .u32 a2 16777215) t134 t135 = some r) ∧ Aside0 (kq ≤ kj5) ∧ Aside0 (Below w.heap.size w wc))
        case first =>
          have H := HC10.out
          clear HC10
          by_cases c11 : (((Go.bits .and .u32 a2 16777215) + 1) % 4294967296) < 16777216
          · rw [if_pos c11] at H
            have c11b0 : decide ((((Go.bits .and .u32 a2 16777215) + 1) % 4294967296) < 16777216) = true := decide_eq_true c11
            clear c11
            (first | rw [c11b0] | (simp only [i64_w, i32_w]; rw [c11b0]) | skip)
            replace H := Option.bind_eq_some_iff.mp H
            obtain ⟨⟨t137, t138⟩, A120, H⟩ := H
            replace H : (if t138 = 0 then (if (IntKind.u64.wrap (t137 - t135)) = 256 then (tidemarklaw01_ShiftBetween.j1 kj5 a0 a1 (Go.bits .and .u32 a2 16777215) t134 t135) else (some false)) else (some false)) = some r := H
            have A12 := Aside0.mk A120
            clear A120
            by_cases c13 : t138 = 0
            · rw [if_pos c13] at H
              have c13b0 : (t138 == 0) = true := beq_iff_eq.mpr c13
              have c13b1 : (t138 != 0) = false := bne_eq_false_iff_eq.mpr c13
              clear c13
              by_cases c14 : (IntKind.u64.wrap (t137 - t135)) = 256
              · rw [if_pos c14] at H
                have c14b0 : ((IntKind.u64.wrap (t137 - t135)) == 256) = true := beq_iff_eq.mpr c14
                have c14b1 : ((IntKind.u64.wrap (t137 - t135)) != 256) = false := bne_eq_false_iff_eq.mpr c14
                clear c14
                have H' := Aside0.mk H
                clear H
                go_wp2_with (first | ((with_reducible refine gate_callee (f := 14) rfl ?_); refine goesL_ (some 43) rfl rfl Try.func14 (by kernel_rfl) rfl #[.int .u32 a0, .int .u8 a1, .int .u32 (((Go.bits .and .u32 a2 16777215) + 1) % 4294967296)] rfl (by (try simp only [List.map_toArray, List.map_cons, List.map_nil]); first | done | rfl | (simp only [List.length_drop, List.length_take]; rfl)) ?_; (with_reducible refine (shift_Pack.calls a0 a1 (((Go.bits .and .u32 a2 16777215) + 1) % 4294967296) t137 t138 _ A12.out).mono ?_); rintro e w' ⟨rfl, ⟨nd, rfl⟩⟩; refine ⟨_, rfl, ?_⟩))
                go_meet
                case rel => exact ⟨_, H', ⟨by have := HJ5.out; first | omega | exact Nat.le_refl _⟩, ⟨by repeat (first | (with_reducible first | exact HB.out | apply below_alloc | apply pw_below_drewN | apply below_drew1) | exact HB.out)⟩⟩
              · rw [if_neg c14] at H
                have c14b0 : ((IntKind.u64.wrap (t137 - t135)) == 256) = false := beq_eq_false_iff_ne.mpr c14
                have c14b1 : ((IntKind.u64.wrap (t137 - t135)) != 256) = true := bne_iff_ne.mpr c14
                exact absurd ((Option.some.inj H).trans HRT.out) (by decide)
            · rw [if_neg c13] at H
              have c13b0 : (t138 == 0) = false := beq_eq_false_iff_ne.mpr c13
              have c13b1 : (t138 != 0) = true := bne_iff_ne.mpr c13
              exact absurd ((Option.some.inj H).trans HRT.out) (by decide)
          · rw [if_neg c11] at H
            have c11b0 : decide ((((Go.bits .and .u32 a2 16777215) + 1) % 4294967296) < 16777216) = false := decide_eq_false c11
            clear c11
            (first | rw [c11b0] | (simp only [i64_w, i32_w]; rw [c11b0]) | skip)
            replace H := Option.bind_eq_some_iff.mp H
            obtain ⟨⟨t139, t140⟩, A150, H⟩ := H
            replace H : (if t140 = 1 then (tidemarklaw01_ShiftBetween.j1 kj5 a0 a1 (Go.bits .and .u32 a2 16777215) t134 t135) else (some false)) = some r := H
            have A15 := Aside0.mk A150
            clear A150
            by_cases c16 : t140 = 1
            · rw [if_pos c16] at H
              have c16b0 : (t140 == 1) = true := beq_iff_eq.mpr c16
              have c16b1 : (t140 != 1) = false := bne_eq_false_iff_eq.mpr c16
              clear c16
              have H' := Aside0.mk H
              clear H
              go_wp2_with (first | ((with_reducible refine gate_callee (f := 14) rfl ?_); refine goesL_ (some 59) rfl rfl Try.func14 (by kernel_rfl) rfl #[.int .u32 a0, .int .u8 a1, .int .u32 (((Go.bits .and .u32 a2 16777215) + 1) % 4294967296)] rfl (by (try simp only [List.map_toArray, List.map_cons, List.map_nil]); first | done | rfl | (simp only [List.length_drop, List.length_take]; rfl)) ?_; (with_reducible refine (shift_Pack.calls a0 a1 (((Go.bits .and .u32 a2 16777215) + 1) % 4294967296) t139 t140 _ A15.out).mono ?_); rintro e w' ⟨rfl, ⟨nd, rfl⟩⟩; refine ⟨_, rfl, ?_⟩))
              go_meet
              case rel => exact ⟨_, H', ⟨by have := HJ5.out; first | omega | exact Nat.le_refl _⟩, ⟨by repeat (first | (with_reducible first | exact HB.out | apply below_alloc | apply pw_below_drewN | apply below_drew1) | exact HB.out)⟩⟩
            · rw [if_neg c16] at H
              have c16b0 : (t140 == 1) = false := beq_eq_false_iff_ne.mpr c16
              have c16b1 : (t140 != 1) = true := bne_iff_ne.mpr c16
              exact absurd ((Option.some.inj H).trans HRT.out) (by decide)
        case rest =>
          clear HC10
          try clear c1
          try clear p2
          try clear c4
          try clear c8
          try clear c8b0
          try clear c8b1
          try clear c9
          try clear c11
          try clear c11b0
          try clear c13
          try clear c13b0
          try clear c13b1
          try clear c14
          try clear c14b0
          try clear c14b1
          try clear c16
          try clear c16b0
          try clear c16b1
          try clear p2
          obtain ⟨kq, HA, HJ9, HB⟩ := hcut
          cases kq with
          | zero => exact absurd HA.out (by simp [tidemarklaw01_ShiftBetween.j1])
          | succ kj9 =>
            have H := HA.out
            clear HA
            simp only [tidemarklaw01_ShiftBetween.j1] at H
            by_cases c17 : a1 < 255
            · rw [if_pos c17] at H
              have c17b0 : decide (a1 < 255) = true := decide_eq_true c17
              clear c17
              replace H := Option.bind_eq_some_iff.mp H
              obtain ⟨⟨t141, t142⟩, A180, H⟩ := H
              replace H : (if t142 = 0 then (if (IntKind.u64.wrap (t141 - t135)) = 1 then (some t134) else (some false)) else (some false)) = some r := H
              have A18 := Aside0.mk A180
              clear A180
              by_cases c19 : t142 = 0
              · rw [if_pos c19] at H
                have c19b0 : (t142 == 0) = true := beq_iff_eq.mpr c19
                have c19b1 : (t142 != 0) = false := bne_eq_false_iff_eq.mpr c19
                clear c19
                by_cases c20 : (IntKind.u64.wrap (t141 - t135)) = 1
                · rw [if_pos c20] at H
                  have c20b0 : ((IntKind.u64.wrap (t141 - t135)) == 1) = true := beq_iff_eq.mpr c20
                  have c20b1 : ((IntKind.u64.wrap (t141 - t135)) != 1) = false := bne_eq_false_iff_eq.mpr c20
                  clear c20
                  obtain rfl := Option.some.inj H
                  go_wp2_with (first | ((with_reducible refine gate_callee (f := 14) rfl ?_); refine goesL_ (some 71) rfl rfl Try.func14 (by kernel_rfl) rfl #[.int .u32 a0, .int .u8 ((a1 + 1) % 256), .int .u32 (Go.bits .and .u32 a2 16777215)] rfl (by (try simp only [List.map_toArray, List.map_cons, List.map_nil]); first | done | rfl | (simp only [List.length_drop, List.length_take]; rfl)) ?_; (with_reducible refine (shift_Pack.calls a0 ((a1 + 1) % 256) (Go.bits .and .u32 a2 16777215) t141 t142 _ A18.out).mono ?_); rintro e w' ⟨rfl, ⟨nd, rfl⟩⟩; refine ⟨_, rfl, ?_⟩))
                  go_ret
                  exact ⟨by first | rfl | (simp [errW_none, errW_some] <;> rfl) | (simp [*, errW_none, errW_some] <;> rfl), by repeat (first | (with_reducible first | exact HB.out | apply below_alloc | apply pw_below_drewN | apply below_drew1) | exact HB.out)⟩
                · rw [if_neg c20] at H
                  have c20b0 : ((IntKind.u64.wrap (t141 - t135)) == 1) = false := beq_eq_false_iff_ne.mpr c20
                  have c20b1 : ((IntKind.u64.wrap (t141 - t135)) != 1) = true := bne_iff_ne.mpr c20
                  exact absurd ((Option.some.inj H).trans HRT.out) (by decide)
              · rw [if_neg c19] at H
                have c19b0 : (t142 == 0) = false := beq_eq_false_iff_ne.mpr c19
                have c19b1 : (t142 != 0) = true := bne_iff_ne.mpr c19
                exact absurd ((Option.some.inj H).trans HRT.out) (by decide)
            · rw [if_neg c17] at H
              have c17b0 : decide (a1 < 255) = false := decide_eq_false c17
              clear c17
              obtain rfl := Option.some.inj H
              go_wp2
              go_ret
              exact ⟨by first | rfl | (simp [errW_none, errW_some] <;> rfl) | (simp [*, errW_none, errW_some] <;> rfl), by repeat (first | (with_reducible first | exact HB.out | apply below_alloc | apply pw_below_drewN | apply below_drew1) | exact HB.out)⟩

/-- THE ONE PURE STATEMENT of tidemarklaw01_ShiftBetween: yours. -/
def tidemarklaw01_ShiftBetween.Pure : Prop := ∀ (a0 : Int) (a1 : Int) (a2 : Int), (Lit.int .u32 a0).wf = true → (Lit.int .u8 a1).wf = true → (Lit.int .u32 a2).wf = true → ∃ k, tidemarklaw01_ShiftBetween.f k a0 a1 a2 = some true
theorem tidemarklaw01_ShiftBetween.walk (P : tidemarklaw01_ShiftBetween.Pure) (a0 : Int) (a1 : Int) (a2 : Int) (w : World) (w0 : (Lit.int .u32 a0).wf = true) (w1 : (Lit.int .u8 a1).wf = true) (w2 : (Lit.int .u32 a2).wf = true) :
    Calls Try.prog 4 #[.int .u32 a0, .int .u8 a1, .int .u32 a2] w fun e w' => e = .returned (.bool true) ∧ Below w.heap.size w w' := by
  obtain ⟨k, h⟩ := P a0 a1 a2 w0 w1 w2
  refine (tidemarklaw01_ShiftBetween.calls k a0 a1 a2 true w rfl h).mono ?_
  rintro e w' ⟨rfl, hd⟩
  exact ⟨rfl, hd⟩

end Go.Proofs.Ytemgidhelpacaaa.PS
