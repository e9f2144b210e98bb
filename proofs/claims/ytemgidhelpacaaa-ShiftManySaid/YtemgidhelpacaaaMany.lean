/- ShiftMany's call comes to what a plain Lean function says; made by wip/drive.py, turned by wip/shift/many.py. -/
import Derived.Test.YtemgidhelpacaaaPSx0
import Derived.Test.YtemgidhelpacaaaPSx1
import Derived.Test.YtemgidhelpacaaaPSx2
import Derived.Test.YtemgidhelpacaaaPSx8
import Derived.Test.YtemgidhelpacaaaPSx11
namespace Go.Proofs.Ytemgidhelpacaaa.PS
open Go.RowKit Go.Proofs.YtemgidhelpacaaaW.PrintWords Go.Proofs.YtemgidhelpacaaaW.PrintLast Go.Proofs.YtemgidhelpacaaaW.PrintMore
attribute [local go_sem] max2_int min2_int max_two min_two max_three min_three max_four min_four   -- for this text's walks alone
set_option linter.unusedVariables false
set_option linter.unusedSimpArgs false

/-! ### tidemarklaw01_ShiftMany: function 10 -/
mutual
def tidemarklaw01_ShiftMany.l0 : Nat → List Int → Bool → List Int → Int → Option (Bool)
  | 0, _, _, _, _ => none
  | k + 1, x0, x3, x4, x5 => if x5 < (x0.length : Int) then (if 0 ≤ x5 then ((shift_PutUint.f k x4 (rd x0 x5)).bind fun t315 => ((shift_PutInt.f k t315 (wrap64 (rd x0 x5))).bind fun t319 => (tidemarklaw01_ShiftMany.l0 k x0 x3 t319 (wrap64 (x5 + 1))))) else (none)) else (tidemarklaw01_ShiftMany.l1 k x0 x3 x4 0)
def tidemarklaw01_ShiftMany.l1 : Nat → List Int → Bool → List Int → Int → Option (Bool)
  | 0, _, _, _, _ => none
  | k + 1, x0, x3, x4, x6 => if x6 < (x0.length : Int) then ((shift_GetUint.f k x4).bind fun bt322 => (if 0 ≤ x6 then (if bt322.1 = (rd x0 x6) then (if bt322.2.2 = 0 then (tidemarklaw01_ShiftMany.j2 k x0 x3 x4 x6 bt322.2.1 (decide (bt322.2.1 > (x4.length : Int)))) else (tidemarklaw01_ShiftMany.j2 k x0 x3 x4 x6 bt322.2.1 true)) else (tidemarklaw01_ShiftMany.j2 k x0 x3 x4 x6 bt322.2.1 true)) else (none))) else (if x3 = true then (some ((x4.length : Int) == 0)) else (some false))
def tidemarklaw01_ShiftMany.j2 : Nat → List Int → Bool → List Int → Int → Int → Bool → Option (Bool)
  | 0, _, _, _, _, _, _ => none
  | k + 1, x0, x3, x4, x6, x8, x62 => if x62 = true then (some false) else (if 0 ≤ x8 then (if x8 ≤ (x4.length : Int) then ((some (x4.drop (x8 : Int).toNat : List Int)).bind fun y326 => ((shift_GetInt.f k y326).bind fun bt329 => (if 0 ≤ x6 then (if x6 < (x0.length : Int) then (if bt329.1 = (wrap64 (rd x0 x6)) then (if bt329.2.2 = 0 then (if bt329.2.1 > (y326.length : Int) then (some false) else (if 0 ≤ bt329.2.1 then (if bt329.2.1 ≤ (y326.length : Int) then (tidemarklaw01_ShiftMany.l1 k x0 x3 (y326.drop (bt329.2.1 : Int).toNat) (wrap64 (x6 + 1))) else (none)) else (none))) else (some false)) else (some false)) else (none)) else (none)))) else (none)) else (none))
end
def tidemarklaw01_ShiftMany.f (k : Nat) (l0 : List Int) : Option (Bool) := (tidemarklaw01_shown.f k).bind fun t312 => (if 0 ≤ (mn (l0.length : Int) 60) then (if (mn (l0.length : Int) 60) ≤ (l0.length : Int) then (tidemarklaw01_ShiftMany.l0 k (l0.take ((mn (l0.length : Int) 60) : Int).toNat) t312 ([] : List Int) 0) else (none)) else (none))
theorem tidemarklaw01_ShiftMany.mono_l : ∀ k, (∀ y0 y1 y2 y3, LeO (tidemarklaw01_ShiftMany.l0 k y0 y1 y2 y3) (tidemarklaw01_ShiftMany.l0 (k + 1) y0 y1 y2 y3)) ∧ (∀ y0 y1 y2 y3, LeO (tidemarklaw01_ShiftMany.l1 k y0 y1 y2 y3) (tidemarklaw01_ShiftMany.l1 (k + 1) y0 y1 y2 y3)) ∧ (∀ y0 y1 y2 y3 y4 y5, LeO (tidemarklaw01_ShiftMany.j2 k y0 y1 y2 y3 y4 y5) (tidemarklaw01_ShiftMany.j2 (k + 1) y0 y1 y2 y3 y4 y5))
  | 0 => ⟨fun _ _ _ _ r h => by simp [tidemarklaw01_ShiftMany.l0] at h, fun _ _ _ _ r h => by simp [tidemarklaw01_ShiftMany.l1] at h, fun _ _ _ _ _ _ r h => by simp [tidemarklaw01_ShiftMany.j2] at h⟩
  | k + 1 => by
    obtain ⟨ih0, ih1, ih2⟩ := tidemarklaw01_ShiftMany.mono_l k
    refine ⟨?_, ?_, ?_⟩
    · intro y0 y1 y2 y3
      unfold tidemarklaw01_ShiftMany.l0
      repeat' first
      | (with_reducible exact ih0 _ _ _ _)
      | (with_reducible exact ih1 _ _ _ _)
      | (with_reducible exact ih2 _ _ _ _ _ _)
      | (with_reducible exact shift_GetInt.mono _ _)
      | (with_reducible exact shift_GetUint.mono _ _)
      | (with_reducible exact shift_PutInt.mono _ _ _)
      | (with_reducible exact shift_PutUint.mono _ _ _)
      | (with_reducible exact tidemarklaw01_shown.mono _)
      | (with_reducible exact LeO.refl _)
      | (with_reducible exact LeO.none _)
      | (with_reducible refine LeO.ite ?_ ?_)
      | (with_reducible refine LeO.bind ?_ (fun _ => ?_))
      | exact ih0 _ _ _ _
      | exact ih1 _ _ _ _
      | exact ih2 _ _ _ _ _ _
      | exact shift_GetInt.mono _ _
      | exact shift_GetUint.mono _ _
      | exact shift_PutInt.mono _ _ _
      | exact shift_PutUint.mono _ _ _
      | exact tidemarklaw01_shown.mono _
      | exact LeO.none _
      | refine LeO.ite ?_ ?_
      | refine LeO.bind ?_ (fun _ => ?_)
    · intro y0 y1 y2 y3
      unfold tidemarklaw01_ShiftMany.l1
      repeat' first
      | (with_reducible exact ih0 _ _ _ _)
      | (with_reducible exact ih1 _ _ _ _)
      | (with_reducible exact ih2 _ _ _ _ _ _)
      | (with_reducible exact shift_GetInt.mono _ _)
      | (with_reducible exact shift_GetUint.mono _ _)
      | (with_reducible exact shift_PutInt.mono _ _ _)
      | (with_reducible exact shift_PutUint.mono _ _ _)
      | (with_reducible exact tidemarklaw01_shown.mono _)
      | (with_reducible exact LeO.refl _)
      | (with_reducible exact LeO.none _)
      | (with_reducible refine LeO.ite ?_ ?_)
      | (with_reducible refine LeO.bind ?_ (fun _ => ?_))
      | exact ih0 _ _ _ _
      | exact ih1 _ _ _ _
      | exact ih2 _ _ _ _ _ _
      | exact shift_GetInt.mono _ _
      | exact shift_GetUint.mono _ _
      | exact shift_PutInt.mono _ _ _
      | exact shift_PutUint.mono _ _ _
      | exact tidemarklaw01_shown.mono _
      | exact LeO.none _
      | refine LeO.ite ?_ ?_
      | refine LeO.bind ?_ (fun _ => ?_)
    · intro y0 y1 y2 y3 y4 y5
      unfold tidemarklaw01_ShiftMany.j2
      repeat' first
      | (with_reducible exact ih0 _ _ _ _)
      | (with_reducible exact ih1 _ _ _ _)
      | (with_reducible exact ih2 _ _ _ _ _ _)
      | (with_reducible exact shift_GetInt.mono _ _)
      | (with_reducible exact shift_GetUint.mono _ _)
      | (with_reducible exact shift_PutInt.mono _ _ _)
      | (with_reducible exact shift_PutUint.mono _ _ _)
      | (with_reducible exact tidemarklaw01_shown.mono _)
      | (with_reducible exact LeO.refl _)
      | (with_reducible exact LeO.none _)
      | (with_reducible refine LeO.ite ?_ ?_)
      | (with_reducible refine LeO.bind ?_ (fun _ => ?_))
      | exact ih0 _ _ _ _
      | exact ih1 _ _ _ _
      | exact ih2 _ _ _ _ _ _
      | exact shift_GetInt.mono _ _
      | exact shift_GetUint.mono _ _
      | exact shift_PutInt.mono _ _ _
      | exact shift_PutUint.mono _ _ _
      | exact tidemarklaw01_shown.mono _
      | exact LeO.none _
      | refine LeO.ite ?_ ?_
      | refine LeO.bind ?_ (fun _ => ?_)
theorem tidemarklaw01_ShiftMany.mono : ∀ a0 k, LeO (tidemarklaw01_ShiftMany.f k a0) (tidemarklaw01_ShiftMany.f (k + 1) a0) := by
  intro a0 k
  obtain ⟨ih0, ih1, ih2⟩ := tidemarklaw01_ShiftMany.mono_l k
  unfold tidemarklaw01_ShiftMany.f
  repeat' first
      | (with_reducible exact ih0 _ _ _ _)
      | (with_reducible exact ih1 _ _ _ _)
      | (with_reducible exact ih2 _ _ _ _ _ _)
      | (with_reducible exact shift_GetInt.mono _ _)
      | (with_reducible exact shift_GetUint.mono _ _)
      | (with_reducible exact shift_PutInt.mono _ _ _)
      | (with_reducible exact shift_PutUint.mono _ _ _)
      | (with_reducible exact tidemarklaw01_shown.mono _)
      | (with_reducible exact LeO.refl _)
      | (with_reducible exact LeO.none _)
      | (with_reducible refine LeO.ite ?_ ?_)
      | (with_reducible refine LeO.bind ?_ (fun _ => ?_))
      | exact ih0 _ _ _ _
      | exact ih1 _ _ _ _
      | exact ih2 _ _ _ _ _ _
      | exact shift_GetInt.mono _ _
      | exact shift_GetUint.mono _ _
      | exact shift_PutInt.mono _ _ _
      | exact shift_PutUint.mono _ _ _
      | exact tidemarklaw01_shown.mono _
      | exact LeO.none _
      | refine LeO.ite ?_ ?_
      | refine LeO.bind ?_ (fun _ => ?_)
def tidemarklaw01_ShiftMany.T7 : Bool × List (List Nat × List Nat) := (true, [([], []), ([], []), ([], []), ([1, 2], [1, 2]), ([3], [3]), ([0, 4], [0, 4]), ([], []), ([], []), ([6, 7], [6, 7]), ([8], [8]), ([9], [9]), ([5, 10, 5], [5, 10]), ([11, 11, 0, 1, 2, 3, 4, 5, 6, 7, 8, 9, 10, 11], [0, 11])])
def tidemarklaw01_ShiftMany.B7 : List Nat := [0, 0, 0, 6, 14, 31, 0, 0, 192, 448, 960, 2047, 4095]
theorem tidemarklaw01_ShiftMany.tab7 : rtab .any (opsOf Try.f10 7) = tidemarklaw01_ShiftMany.T7 := by kernel_rfl
theorem tidemarklaw01_ShiftMany.bits7 : waitsOk tidemarklaw01_ShiftMany.T7.2 tidemarklaw01_ShiftMany.B7 = true := by kernel_rfl
set_option maxHeartbeats 8000000 in
set_option maxRecDepth 100000 in
theorem tidemarklaw01_ShiftMany.calls (k : Nat) (A0 : Option Addr) (c0 : Nat) (l0 : List Int) (r : Bool) (w : World) (hr0 : Kd.C (Kd.int .u64) w A0 l0.length l0) (hc0 : l0.length ≤ c0) (hrt : r = true) (h : tidemarklaw01_ShiftMany.f k l0 = some r) :
    Calls Try.prog 10 #[.slice A0 l0.length c0] w fun e w' => e = .returned (.bool r) ∧ Below w.heap.size w w' := by
  have HRT := Aside0.mk hrt
  clear hrt
  have HR0 := Aside0.mk hr0
  have HC0 := Aside0.mk hc0
  clear hr0 hc0
  have HB := Aside0.mk (Below.refl w.heap.size w)
  have H : ((tidemarklaw01_shown.f k).bind fun t312 => (if 0 ≤ (mn (l0.length : Int) 60) then (if (mn (l0.length : Int) 60) ≤ (l0.length : Int) then (tidemarklaw01_ShiftMany.l0 k (l0.take ((mn (l0.length : Int) 60) : Int).toNat) t312 ([] : List Int) 0) else (none)) else (none))) = some r := h
  clear h
  replace H := Option.bind_eq_some_iff.mp H
  obtain ⟨t312, A20, H⟩ := H
  replace H : (if 0 ≤ (mn (l0.length : Int) 60) then (if (mn (l0.length : Int) 60) ≤ (l0.length : Int) then (tidemarklaw01_ShiftMany.l0 k (l0.take ((mn (l0.length : Int) 60) : Int).toNat) t312 ([] : List Int) 0) else (none)) else (none)) = some r := H
  have A2 := Aside0.mk A20
  clear A20
  obtain ⟨ji3, hji3⟩ : ∃ j_ : Int, (mn (l0.length : Int) 60) = j_ := ⟨_, rfl⟩
  replace H : (if 0 ≤ (ji3) then (if (ji3) ≤ (l0.length : Int) then (tidemarklaw01_ShiftMany.l0 k (l0.take ((ji3) : Int).toNat) t312 ([] : List Int) 0) else (none)) else (none)) = some r := by first | (rw [hji3] at H; exact H) | (simp only [hji3] at H ⊢; exact H)
  (try rw [hji3] at A2)
  (try (have hji3h : ji3 ≤ 60 := by (rw [← hji3]; unfold mn; (repeat' split) <;> omega)))
  (try (have hji3g : ji3 ≤ 64 := by omega))
  (try (have hji3l : 0 ≤ ji3 := by (rw [← hji3]; unfold mn; (repeat' split) <;> omega)))
  (try (have hji3m : 0 ≤ ji3 := by omega))
  have hji3_ : (if 60 < (l0.length : Int) then 60 else (l0.length : Int)) = ji3 := hji3
  by_cases c4 : 0 ≤ (ji3)
  · rw [if_pos c4] at H
    have c4b0 := eq_true c4
    have c4b1 : decide (0 ≤ (ji3)) = true := decide_eq_true c4
    clear c4
    by_cases c5 : (ji3) ≤ (l0.length : Int)
    · rw [if_pos c5] at H
      have c5b0 := eq_true c5
      have c5b1 : decide ((ji3) ≤ (l0.length : Int)) = true := decide_eq_true c5
      clear c5
      obtain ⟨z7, hz7⟩ : ∃ z_ : List Int, (l0.take ((ji3) : Int).toNat) = z_ := ⟨_, rfl⟩
      rw [hz7] at H
      have NZ7 := Aside0.mk hz7
      clear hz7
      have H' := Aside0.mk H
      clear H
      go_enter Try.func10, Try.ntmps10
      go_wp2_with (first | ((with_reducible refine gate_callee (f := 11) rfl ?_); refine goesL_ (some 11) rfl rfl Try.func11 (by kernel_rfl) rfl #[] rfl (by (try simp only [List.map_toArray, List.map_cons, List.map_nil]); first | done | rfl | (simp only [List.length_drop, List.length_take]; rfl)) ?_; (with_reducible refine (tidemarklaw01_shown.calls k  t312 _ A2.out).mono ?_); rintro e w6 ⟨rfl, hb⟩; refine ⟨_, rfl, ?_⟩; have n0_ := Aside0.mk (below_step (by repeat (first | (with_reducible first | exact HB.out | apply below_alloc | apply pw_below_drewN | apply below_drew1) | exact HB.out)) hb); clear HB; have HB := n0_; clear n0_; (try clear hb); (try clear hb2); (try clear hk); (try clear hi); obtain ⟨i07, hi07, _, hsz7, _⟩ := info_parts info23; obtain ⟨hcut7, hA7, hC7⟩ := print_take_of (P := Try.prog) (Value.int .u64) 0 57 23 .i64 Try.underlying57 hi07 hsz7 A0 c0 l0 (ji3) (of_decide_eq_true (by first | (with_reducible assumption) | assumption)) (of_decide_eq_true (by first | (with_reducible assumption) | assumption)) HC0.out; rw [NZ7.out] at hcut7 hA7 hC7; have HR313 := Aside0.mk (Kd.C_of_reads (h1 := fun _ => rfl) (hA7 _ (Kd.reads_of_C HR0.out))); have HC313 := Aside0.mk hC7; clear hA7 hC7 hi07 hsz7))
      go_loopg [4, 5] k (fun kq v4 v5 w' => ∃ (x4_1 : List Int) (x5_1 : Int), v5 = .int .i64 x5_1 ∧ Aside0 (tidemarklaw01_ShiftMany.l0 kq z7 t312 x4_1 x5_1 = some r) ∧ Aside0 (kq ≤ k) ∧ Aside0 (Kd.R (Kd.int .u8) 5 w' w.heap.size (fun _ => True) v4 x4_1) ∧ Aside0 (Below w.heap.size w w'))
      case atStart => exact ⟨(([] : List Int)), (0), (by first | rfl | (simp; done) | (simp [*]; done)), H', ⟨Nat.le_refl _⟩, ⟨by first | exact Kd.R_nil _ _ _ _ _ | exact Kd.N_nil _ _ _ _ _ | exact Kd.V_nil _ _ _ _ _ | exact Kd.Q_nil _ _ _ _ _ | exact Kd.S_nil _ _ _ _ _⟩, ⟨by repeat (first | (with_reducible first | exact HB.out | apply below_alloc | apply pw_below_drewN | apply below_drew1) | exact HB.out)⟩⟩
      case round =>
        clear H'
        try clear c1
        try clear p2
        try clear c4
        try clear c4b0
        try clear c4b1
        try clear c5
        try clear c5b0
        try clear c5b1
        obtain ⟨x4_1, x5_1, rfl, HA, HK1, HO_4, HB⟩ := hrel
        cases gk with
        | zero => exact absurd HA.out (by simp [tidemarklaw01_ShiftMany.l0])
        | succ k1 =>
          have H := HA.out
          clear HA
          simp only [tidemarklaw01_ShiftMany.l0] at H
          by_cases c8 : x5_1 < (z7.length : Int)
          · rw [if_pos c8] at H
            have c8b0 : decide (x5_1 < (z7.length : Int)) = true := decide_eq_true c8
            clear c8
            by_cases c9 : 0 ≤ x5_1
            · rw [if_pos c9] at H
              have c9b0 : decide (0 ≤ x5_1) = true := decide_eq_true c9
              clear c9
              replace H := Option.bind_eq_some_iff.mp H
              obtain ⟨t315, A100, H⟩ := H
              replace H : ((shift_PutInt.f k1 t315 (wrap64 (rd z7 x5_1))).bind fun t319 => (tidemarklaw01_ShiftMany.l0 k1 z7 t312 t319 (wrap64 (x5_1 + 1)))) = some r := H
              have A10 := Aside0.mk A100
              clear A100
              replace H := Option.bind_eq_some_iff.mp H
              obtain ⟨t319, A110, H⟩ := H
              replace H : (tidemarklaw01_ShiftMany.l0 k1 z7 t312 t319 (wrap64 (x5_1 + 1))) = some r := H
              have A11 := Aside0.mk A110
              clear A110
              have H' := Aside0.mk H
              clear H
              try go_wp2
              have n0_ := Aside0.mk (Kd.R_drew HO_4.out)
              have n1_ := Aside0.mk (below_drew1 HB.out)
              clear HO_4
              clear HB
              have HO_4 := n0_
              have HB := n1_
              clear n0_ n1_
              have p314 : 0 ≤ (x5_1 : Int) := of_decide_eq_true (by first | (with_reducible assumption) | assumption)
              have q314 : x5_1 < (z7.length : Int) := of_decide_eq_true (by first | (with_reducible assumption) | assumption)
              obtain ⟨ad314, e314, hx314_0⟩ := Kd.at_int HR313.out x5_1 p314 q314
              have hw314_0 := hx314_0
              cases e314
              replace hx314_0 := (HB.out.cell (World.block_lt_of_cell? w _ hx314_0)).trans hx314_0
              replace p314 := eq_true p314
              replace q314 := eq_true q314
              have p318 : 0 ≤ (x5_1 : Int) := of_decide_eq_true (by first | (with_reducible assumption) | assumption)
              have q318 : x5_1 < (z7.length : Int) := of_decide_eq_true (by first | (with_reducible assumption) | assumption)
              obtain ⟨ad318, e318, hx318_0⟩ := Kd.at_int HR313.out x5_1 p318 q318
              have hw318_0 := hx318_0
              obtain rfl : ad314 = ad318 := (by injection e318)
              replace hx318_0 := (HB.out.cell (World.block_lt_of_cell? w _ hx318_0)).trans hx318_0
              replace p318 := eq_true p318
              replace q318 := eq_true q318
              obtain ⟨Ao13, co13, eo13⟩ := Kd.R_slice HO_4.out
              (first | subst eo13 | (injection eo13 with f1_ f2_ f3_; have f4_ := f1_.symm; have f5_ := f3_.symm; clear f1_ f2_ f3_; subst f4_; subst f5_))
              refine start_ (n := 13) (S := fun w' => w'.cell? (ad314.add (x5_1).toNat) = some (.int .u64 (rd z7 x5_1)) ∧ w'.cell? (ad314.add (x5_1).toNat) = some (.int .u64 (rd z7 x5_1))) (ds := []) #[false, false, false, false, false, false, false, false, false, false, false, false, false] (by kernel_rfl) rfl rfl ⟨((HB.out.cell (World.block_lt_of_cell? w _ hw314_0)).trans hw314_0), ((HB.out.cell (World.block_lt_of_cell? w _ hw318_0)).trans hw318_0)⟩ (fun hHeld => ?_); refine with_tabW tidemarklaw01_ShiftMany.tab7 tidemarklaw01_ShiftMany.bits7 (fun HT_ HW_ => ?_)
              generalize wr.drew = w12 at HO_4 HB hx314_0 hx318_0 hHeld ⊢
              refine pure_ (i := 0) (N := some 23) (v := ?_) (a' := ?_) #[true, false, false, false, false, false, false, false, false, false, false, false, false] rfl rfl (any_of HT_.out (by kernel_rfl)) (fun _ _ _ h => h) (Or.inl ⟨by rfl, ?_⟩) ?_ ?_
              rotate_left
              · intro w'
                go_simp
                with_reducible rfl
              rotate_left
              · simp only [Act.put, List.setIfInBounds_toArray, List.set_cons_zero, List.set_cons_succ, i64_w, i32_w]
                rfl
              refine pure_ (i := 1) (N := some 24) (v := ?_) (a' := ?_) #[true, true, false, false, false, false, false, false, false, false, false, false, false] rfl rfl (any_of HT_.out (by kernel_rfl)) (fun _ _ _ h => h) (Or.inl ⟨by rfl, ?_⟩) ?_ ?_
              rotate_left
              · intro w'
                go_simp
                with_reducible rfl
              rotate_left
              · simp only [Act.put, List.setIfInBounds_toArray, List.set_cons_zero, List.set_cons_succ, i64_w, i32_w]
                rfl
              refine pure_ (i := 2) (N := some 25) (v := ?_) (a' := ?_) #[true, true, true, false, false, false, false, false, false, false, false, false, false] rfl rfl (any_of HT_.out (by kernel_rfl)) (fun _ _ _ h => h) (Or.inl ⟨by rfl, ?_⟩) ?_ ?_
              rotate_left
              · intro w'
                go_simp
                with_reducible rfl
              rotate_left
              · simp only [Act.put, List.setIfInBounds_toArray, List.set_cons_zero, List.set_cons_succ, i64_w, i32_w]
                rfl
              refine pure_ (i := 3) (N := some 26) (v := ?_) (a' := ?_) #[true, true, true, true, false, false, false, false, false, false, false, false, false] rfl rfl (any_of HT_.out (by kernel_rfl)) (fun _ _ _ h => h) (Or.inl ⟨by rfl, ?_⟩) ?_ ?_
              rotate_left
              · intro w'
                go_simp
                with_reducible rfl
              rotate_left
              · simp only [Act.put, List.setIfInBounds_toArray, List.set_cons_zero, List.set_cons_succ, i64_w, i32_w]
                rfl
              refine pure_ (i := 6) (N := some 29) (v := ?_) (a' := ?_) #[true, true, true, true, false, false, true, false, false, false, false, false, false] rfl rfl (any_of HT_.out (by kernel_rfl)) (fun _ _ _ h => h) (Or.inl ⟨by rfl, ?_⟩) ?_ ?_
              rotate_left
              · intro w'
                go_simp
                with_reducible rfl
              rotate_left
              · simp only [Act.put, List.setIfInBounds_toArray, List.set_cons_zero, List.set_cons_succ, i64_w, i32_w]
                rfl
              refine pure_ (i := 7) (N := some 30) (v := ?_) (a' := ?_) #[true, true, true, true, false, false, true, true, false, false, false, false, false] rfl rfl (any_of HT_.out (by kernel_rfl)) (fun _ _ _ h => h) (Or.inl ⟨by rfl, ?_⟩) ?_ ?_
              rotate_left
              · intro w'
                go_simp
                with_reducible rfl
              rotate_left
              · simp only [Act.put, List.setIfInBounds_toArray, List.set_cons_zero, List.set_cons_succ, i64_w, i32_w]
                rfl
              refine pure_ (i := 8) (N := some 31) (v := ?_) (a' := ?_) #[true, true, true, true, false, false, true, true, true, false, false, false, false] rfl rfl (any_of HT_.out (by kernel_rfl)) (fun _ _ _ h => h) (Or.inl ⟨by rfl, ?_⟩) ?_ ?_
              rotate_left
              · intro w'
                go_simp
                with_reducible rfl
              rotate_left
              · simp only [Act.put, List.setIfInBounds_toArray, List.set_cons_zero, List.set_cons_succ, i64_w, i32_w]
                rfl
              refine take_ (i := 4) (N := some 27) (v := ?_) (a' := ?_) #[true, true, true, true, true, false, true, true, true, false, false, false, false] rfl rfl (take_ofW HT_.out HW_.out (by kernel_rfl)) (fun _ _ _ h => h) (Or.inl ⟨by rfl, ?_⟩) hHeld ?_ ?_
              rotate_left
              · rintro w' ⟨s0, s1⟩
                go_simp
                with_reducible rfl
              rotate_left
              · simp only [Act.put, List.setIfInBounds_toArray, List.set_cons_zero, List.set_cons_succ, i64_w, i32_w]
                rfl
              refine take_ (i := 9) (N := some 32) (v := ?_) (a' := ?_) #[true, true, true, true, true, false, true, true, true, true, false, false, false] rfl rfl (take_ofW HT_.out HW_.out (by kernel_rfl)) (fun _ _ _ h => h) (Or.inl ⟨by rfl, ?_⟩) hHeld ?_ ?_
              rotate_left
              · rintro w' ⟨s0, s1⟩
                go_simp
                with_reducible rfl
              rotate_left
              · simp only [Act.put, List.setIfInBounds_toArray, List.set_cons_zero, List.set_cons_succ, i64_w, i32_w]
                rfl
              refine pure_ (i := 10) (N := some 33) (v := ?_) (a' := ?_) #[true, true, true, true, true, false, true, true, true, true, true, false, false] rfl rfl (any_of HT_.out (by kernel_rfl)) (fun _ _ _ h => h) (Or.inl ⟨by rfl, ?_⟩) ?_ ?_
              rotate_left
              · intro w'
                go_simp
                with_reducible rfl
              rotate_left
              · simp only [Act.put, List.setIfInBounds_toArray, List.set_cons_zero, List.set_cons_succ, i64_w, i32_w]
                rfl
              refine one_ (i := 5) (N := some 28) #[true, true, true, true, true, true, true, true, true, true, true, false, false] rfl rfl (one_of HT_.out (by kernel_rfl)) (by decide) (fun K hK => ?_)
              refine goes_ Try.func25 (by kernel_rfl) rfl #[.slice Ao13 x4_1.length co13, .int .u64 (rd z7 x5_1)] (by rfl) rfl rfl (by (try simp only [List.map_toArray, List.map_cons, List.map_nil]); first | done | (simp only [hji3]; rfl) | rfl | (simp only [List.length_drop, List.length_take]; rfl)) ?_
              with_reducible refine (shift_PutUint.calls k1 (fun k_ => some k_ = (.slice Ao13 x4_1.length co13 : Value).ownBlock) (.slice Ao13 x4_1.length co13) x4_1 (rd z7 x5_1) t315 w _ ?side1 ?side2 A10.out).mono ?_
              (case side1 => repeat (first | (with_reducible first | exact HB.out | apply below_alloc | apply pw_below_drewN | apply below_drew1) | exact HB.out))
              (case side2 => exact Kd.R_tight rfl HO_4.out)
              rintro e w14 ⟨v316, rfl, ho0, hb, hkp⟩
              refine ⟨_, rfl, ?_⟩
              have n0_ := Aside0.mk (Kd.R_mono (ok' := fun k_ => True) ho0 (fun k_ hk_ => trivial))
              have n1_ := Aside0.mk (hb)
              clear HB
              clear HO_4
              have HO317 := n0_
              have HB := n1_
              clear n0_ n1_
              (try clear hb)
              (try clear hkp)
              (try clear ho0)
              obtain ⟨Ao15, co15, eo15⟩ := Kd.R_slice HO317.out
              (first | subst eo15 | (injection eo15 with f1_ f2_ f3_; have f4_ := f1_.symm; have f5_ := f3_.symm; clear f1_ f2_ f3_; subst f4_; subst f5_))
              refine hK.out _ _ ⟨((HB.out.cell (World.block_lt_of_cell? w _ hw314_0)).trans hw314_0), ((HB.out.cell (World.block_lt_of_cell? w _ hw318_0)).trans hw318_0)⟩ (fun hHeld => ?_)
              clear hK K
              refine norm_ (a' := ?_) ?_ ?_
              rotate_left
              · show Act.put _ (some 28) _ = _
                simp only [Act.put, List.setIfInBounds_toArray, List.set_cons_zero, List.set_cons_succ, i64_w, i32_w]
                rfl
              refine one_ (i := 11) (N := some 34) #[true, true, true, true, true, true, true, true, true, true, true, true, false] rfl rfl (one_of HT_.out (by kernel_rfl)) (by decide) (fun K hK => ?_)
              refine goes_ Try.func24 (by kernel_rfl) rfl #[.slice Ao15 t315.length co15, .int .i64 (wrap64 (rd z7 x5_1))] (by rfl) rfl rfl (by (try simp only [List.map_toArray, List.map_cons, List.map_nil]); first | done | (simp only [hji3]; rfl) | rfl | (simp only [List.length_drop, List.length_take]; rfl)) ?_
              with_reducible refine (shift_PutInt.calls k1 (fun k_ => some k_ = (.slice Ao15 t315.length co15 : Value).ownBlock) (.slice Ao15 t315.length co15) t315 (wrap64 (rd z7 x5_1)) t319 w _ ?side1 ?side2 A11.out).mono ?_
              (case side1 => repeat (first | (with_reducible first | exact HB.out | apply below_alloc | apply pw_below_drewN | apply below_drew1) | exact HB.out))
              (case side2 => exact Kd.R_tight rfl HO317.out)
              rintro e w16 ⟨v320, rfl, ho0, hb, hkp⟩
              refine ⟨_, rfl, ?_⟩
              have n0_ := Aside0.mk (Kd.R_mono (ok' := fun k_ => True) ho0 (fun k_ hk_ => trivial))
              have n1_ := Aside0.mk (hb)
              clear HB
              clear HO317
              have HO321 := n0_
              have HB := n1_
              clear n0_ n1_
              (try clear hb)
              (try clear hkp)
              (try clear ho0)
              refine hK.out _ _ ⟨((HB.out.cell (World.block_lt_of_cell? w _ hw314_0)).trans hw314_0), ((HB.out.cell (World.block_lt_of_cell? w _ hw318_0)).trans hw318_0)⟩ (fun hHeld => ?_)
              clear hK K
              refine norm_ (a' := ?_) ?_ ?_
              rotate_left
              · show Act.put _ (some 34) _ = _
                simp only [Act.put, List.setIfInBounds_toArray, List.set_cons_zero, List.set_cons_succ, i64_w, i32_w]
                rfl
              refine pure_ (i := 12) (N := some 4) (v := ?_) (a' := ?_) #[true, true, true, true, true, true, true, true, true, true, true, true, true] rfl rfl (any_of HT_.out (by kernel_rfl)) (fun _ _ _ h => h) (Or.inl ⟨by rfl, ?_⟩) ?_ ?_
              rotate_left
              · intro w'
                go_simp
                with_reducible rfl
              rotate_left
              · simp only [Act.put, List.setIfInBounds_toArray, List.set_cons_zero, List.set_cons_succ, i64_w, i32_w]
                rfl
              refine done_ (done_of HT_.out (by kernel_rfl)) ?_
              try go_wp2
              go_roundg k1
              case measure => have := HK1.out; omega
              case rel => exact ⟨(t319), (wrap64 (x5_1 + 1)), (by first | rfl | (simp; done) | (simp [*]; done)), H', ⟨by have := HK1.out; omega⟩, ⟨by (with_reducible repeat (first | apply Kd.R_alloc | apply Kd.R_drewN | apply Kd.R_drew)); exact HO321.out⟩, ⟨by repeat (first | (with_reducible first | exact HB.out | apply below_alloc | apply pw_below_drewN | apply below_drew1) | exact HB.out)⟩⟩
            · rw [if_neg c9] at H
              exact absurd H (by simp)
          · rw [if_neg c8] at H
            have c8b0 : decide (x5_1 < (z7.length : Int)) = false := decide_eq_false c8
            clear c8
            have H' := Aside0.mk H
            clear H
            go_wp2
            go_loopg [4, 6] k1 (fun kq v4 v6 w' => ∃ (x4_2 : List Int) (x6_2 : Int), v6 = .int .i64 x6_2 ∧ Aside0 (tidemarklaw01_ShiftMany.l1 kq z7 t312 x4_2 x6_2 = some r) ∧ Aside0 (kq ≤ k1) ∧ Aside0 (Kd.Q (Kd.int .u8) 5 w' w.heap.size (fun _ => True) v4 x4_2) ∧ Aside0 (Below w.heap.size w w'))
            case atStart => exact ⟨(x4_1), (0), (by first | rfl | (simp; done) | (simp [*]; done)), H', ⟨Nat.le_refl _⟩, ⟨Kd.Q_of_R (by (with_reducible repeat (first | apply Kd.R_alloc | apply Kd.R_drewN | apply Kd.R_drew)); exact HO_4.out)⟩, ⟨by repeat (first | (with_reducible first | exact HB.out | apply below_alloc | apply pw_below_drewN | apply below_drew1) | exact HB.out)⟩⟩
            case round =>
              clear H'
              try clear c1
              try clear c2
              try clear p2
              try clear p3
              try clear q3
              try clear hx3
              try clear c4
              try clear c4b0
              try clear c4b1
              try clear c5
              try clear c5b0
              try clear c5b1
              try clear p6
              try clear c8
              try clear c8b0
              try clear c9
              try clear c9b0
              try clear c10
              try clear c11
              try clear hx314_0
              try clear hx318_0
              try clear p2
              try clear p314
              try clear p318
              try clear q314
              try clear q318
              obtain ⟨x4_2, x6_2, rfl, HA, HK2, HO_4, HB⟩ := hrel
              cases gk with
              | zero => exact absurd HA.out (by simp [tidemarklaw01_ShiftMany.l1])
              | succ k2 =>
                have H := HA.out
                clear HA
                simp only [tidemarklaw01_ShiftMany.l1] at H
                by_cases c17 : x6_2 < (z7.length : Int)
                · rw [if_pos c17] at H
                  have c17b0 : decide (x6_2 < (z7.length : Int)) = true := decide_eq_true c17
                  clear c17
                  replace H := Option.bind_eq_some_iff.mp H
                  obtain ⟨⟨t322, t323, t324⟩, A180, H⟩ := H
                  replace H : (if 0 ≤ x6_2 then (if t322 = (rd z7 x6_2) then (if t324 = 0 then (tidemarklaw01_ShiftMany.j2 k2 z7 t312 x4_2 x6_2 t323 (decide (t323 > (x4_2.length : Int)))) else (tidemarklaw01_ShiftMany.j2 k2 z7 t312 x4_2 x6_2 t323 true)) else (tidemarklaw01_ShiftMany.j2 k2 z7 t312 x4_2 x6_2 t323 true)) else (none)) = some r := H
                  have A18 := Aside0.mk A180
                  clear A180
                  have HC19 := Aside0.mk H
                  clear H
                  obtain ⟨Ao20, co20, eo20, _⟩ := Kd.Q_slice HO_4.out
                  subst eo20
                  go_upto_region 12 with (first | ((with_reducible refine gate_callee (f := 15) rfl ?_); refine goesL_ (some 43) rfl rfl Try.func15 (by kernel_rfl) rfl #[.slice Ao20 x4_2.length co20] rfl (by (try simp only [List.map_toArray, List.map_cons, List.map_nil]); first | done | rfl | (simp only [List.length_drop, List.length_take]; rfl)) ?_; (with_reducible refine (shift_GetUint.calls k2 _ _ x4_2 t322 t323 t324 _ ?side1 ?side2 A18.out).mono ?_); (case side1 => repeat (first | exact (Kd.Q_reads' HO_4.out).2.2 | (with_reducible refine Kd.C_alloc ?_ _) | (with_reducible refine Kd.C_drewN ?_ _) | (with_reducible refine Kd.C_drew ?_))); (case side2 => exact (Kd.Q_reads' HO_4.out).2.1); rintro e w' ⟨rfl, ⟨nd, rfl⟩⟩; refine ⟨_, rfl, ?_⟩))
                  (try simp only [Act.put, List.setIfInBounds_toArray, List.set_cons_zero, List.set_cons_succ])
                  go_cut [62] (fun v62 wc => ∃ (kq : Nat) (x62_18 : Bool), v62 = .bool x62_18 ∧ Aside0 (tidemarklaw01_ShiftMany.j2 kq z7 t312 x4_2 x6_2 t323 x62_18 = some r) ∧ Aside0 (kq ≤ k2) ∧ Aside0 (Kd.Q (Kd.int .u8) 5 wc w.heap.size (fun _ => True) (.slice Ao20 x4_2.length co20) x4_2) ∧ Aside0 (Below w.heap.size w wc))
                  case first =>
                    have H := HC19.out
                    clear HC19
                    by_cases c21 : 0 ≤ x6_2
                    · rw [if_pos c21] at H
                      have c21b0 : decide (0 ≤ x6_2) = true := decide_eq_true c21
                      clear c21
                      (first | rw [c21b0] | (simp only [i64_w, i32_w]; rw [c21b0]) | skip)
                      by_cases c22 : t322 = (rd z7 x6_2)
                      · rw [if_pos c22] at H
                        have c22b0 : (t322 == (rd z7 x6_2)) = true := beq_iff_eq.mpr c22
                        have c22b1 : (t322 != (rd z7 x6_2)) = false := bne_eq_false_iff_eq.mpr c22
                        clear c22
                        by_cases c23 : t324 = 0
                        · rw [if_pos c23] at H
                          have c23b0 : (t324 == 0) = true := beq_iff_eq.mpr c23
                          have c23b1 : (t324 != 0) = false := bne_eq_false_iff_eq.mpr c23
                          clear c23
                          have H' := Aside0.mk H
                          clear H
                          have p325 : 0 ≤ (x6_2 : Int) := of_decide_eq_true (by first | (with_reducible assumption) | assumption)
                          have q325 : x6_2 < (z7.length : Int) := of_decide_eq_true (by first | (with_reducible assumption) | assumption)
                          obtain ⟨ad325, e325, hx325_0⟩ := Kd.at_int HR313.out x6_2 p325 q325
                          cases e325
                          replace hx325_0 := (HB.out.cell (World.block_lt_of_cell? w _ hx325_0)).trans hx325_0
                          replace p325 := eq_true p325
                          replace q325 := eq_true q325
                          go_wp2
                          go_meet
                          case rel => exact ⟨_, (decide (t323 > (x4_2.length : Int))), (by first | rfl | (simp; done) | (simp [*]; done)), H', ⟨by have := HK1.out; have := HK2.out; first | omega | exact Nat.le_refl _⟩, ⟨by (with_reducible repeat (first | apply Kd.Q_alloc | apply Kd.Q_drewN | apply Kd.Q_drew)); exact HO_4.out⟩, ⟨by repeat (first | (with_reducible first | exact HB.out | apply below_alloc | apply pw_below_drewN | apply below_drew1) | exact HB.out)⟩⟩
                        · rw [if_neg c23] at H
                          have c23b0 : (t324 == 0) = false := beq_eq_false_iff_ne.mpr c23
                          have c23b1 : (t324 != 0) = true := bne_iff_ne.mpr c23
                          have H' := Aside0.mk H
                          clear H
                          have p325 : 0 ≤ (x6_2 : Int) := of_decide_eq_true (by first | (with_reducible assumption) | assumption)
                          have q325 : x6_2 < (z7.length : Int) := of_decide_eq_true (by first | (with_reducible assumption) | assumption)
                          obtain ⟨ad325, e325, hx325_0⟩ := Kd.at_int HR313.out x6_2 p325 q325
                          cases e325
                          replace hx325_0 := (HB.out.cell (World.block_lt_of_cell? w _ hx325_0)).trans hx325_0
                          replace p325 := eq_true p325
                          replace q325 := eq_true q325
                          go_wp2
                          go_meet
                          case rel => exact ⟨_, (true), (by first | rfl | (simp; done) | (simp [*]; done)), H', ⟨by have := HK1.out; have := HK2.out; first | omega | exact Nat.le_refl _⟩, ⟨by (with_reducible repeat (first | apply Kd.Q_alloc | apply Kd.Q_drewN | apply Kd.Q_drew)); exact HO_4.out⟩, ⟨by repeat (first | (with_reducible first | exact HB.out | apply below_alloc | apply pw_below_drewN | apply below_drew1) | exact HB.out)⟩⟩
                      · rw [if_neg c22] at H
                        have c22b0 : (t322 == (rd z7 x6_2)) = false := beq_eq_false_iff_ne.mpr c22
                        have c22b1 : (t322 != (rd z7 x6_2)) = true := bne_iff_ne.mpr c22
                        have H' := Aside0.mk H
                        clear H
                        have p325 : 0 ≤ (x6_2 : Int) := of_decide_eq_true (by first | (with_reducible assumption) | assumption)
                        have q325 : x6_2 < (z7.length : Int) := of_decide_eq_true (by first | (with_reducible assumption) | assumption)
                        obtain ⟨ad325, e325, hx325_0⟩ := Kd.at_int HR313.out x6_2 p325 q325
                        cases e325
                        replace hx325_0 := (HB.out.cell (World.block_lt_of_cell? w _ hx325_0)).trans hx325_0
                        replace p325 := eq_true p325
                        replace q325 := eq_true q325
                        go_wp2
                        go_meet
                        case rel => exact ⟨_, (true), (by first | rfl | (simp; done) | (simp [*]; done)), H', ⟨by have := HK1.out; have := HK2.out; first | omega | exact Nat.le_refl _⟩, ⟨by (with_reducible repeat (first | apply Kd.Q_alloc | apply Kd.Q_drewN | apply Kd.Q_drew)); exact HO_4.out⟩, ⟨by repeat (first | (with_reducible first | exact HB.out | apply below_alloc | apply pw_below_drewN | apply below_drew1) | exact HB.out)⟩⟩
                    · rw [if_neg c21] at H
                      exact absurd H (by simp)
                  case rest =>
                    clear HC19
                    try clear c1
                    try clear c2
                    try clear p2
                    try clear p3
                    try clear q3
                    try clear hx3
                    try clear c4
                    try clear c4b0
                    try clear c4b1
                    try clear c5
                    try clear c5b0
                    try clear c5b1
                    try clear p6
                    try clear c8
                    try clear c8b0
                    try clear c9
                    try clear c9b0
                    try clear c10
                    try clear c11
                    try clear c15
                    try clear c17
                    try clear c17b0
                    try clear c21
                    try clear c21b0
                    try clear c22
                    try clear c22b0
                    try clear c22b1
                    try clear c23
                    try clear c23b0
                    try clear c23b1
                    try clear hx314_0
                    try clear hx318_0
                    try clear hx325_0
                    try clear p2
                    try clear p3
                    try clear p314
                    try clear p318
                    try clear p325
                    try clear p6
                    try clear q3
                    try clear q314
                    try clear q318
                    try clear q325
                    obtain ⟨kq, x62_18, rfl, HA, HJ18, HO_4, HB⟩ := hcut
                    cases kq with
                    | zero => exact absurd HA.out (by simp [tidemarklaw01_ShiftMany.j2])
                    | succ kj18 =>
                      have H := HA.out
                      clear HA
                      simp only [tidemarklaw01_ShiftMany.j2] at H
                      by_cases c24 : x62_18 = true
                      · subst c24
                        have H1 : (some false) = some r := by rw [if_pos rfl] at H; exact H
                        clear H
                        have H := H1
                        clear H1
                        exact absurd ((Option.some.inj H).trans HRT.out) (by decide)
                      · replace c24 := Bool.eq_false_iff.mpr c24
                        subst c24
                        have H1 : (if 0 ≤ t323 then (if t323 ≤ (x4_2.length : Int) then ((some (x4_2.drop (t323 : Int).toNat : List Int)).bind fun y326 => ((shift_GetInt.f kj18 y326).bind fun bt329 => (if 0 ≤ x6_2 then (if x6_2 < (z7.length : Int) then (if bt329.1 = (wrap64 (rd z7 x6_2)) then (if bt329.2.2 = 0 then (if bt329.2.1 > (y326.length : Int) then (some false) else (if 0 ≤ bt329.2.1 then (if bt329.2.1 ≤ (y326.length : Int) then (tidemarklaw01_ShiftMany.l1 kj18 z7 t312 (y326.drop (bt329.2.1 : Int).toNat) (wrap64 (x6_2 + 1))) else (none)) else (none))) else (some false)) else (some false)) else (none)) else (none)))) else (none)) else (none)) = some r := by rw [if_neg (show ¬ (false = true) by decide)] at H; exact H
                        clear H
                        have H := H1
                        clear H1
                        by_cases c25 : 0 ≤ t323
                        · rw [if_pos c25] at H
                          have c25b0 := eq_true c25
                          have c25b1 : decide (0 ≤ t323) = true := decide_eq_true c25
                          clear c25
                          by_cases c26 : t323 ≤ (x4_2.length : Int)
                          · rw [if_pos c26] at H
                            have c26b0 := eq_true c26
                            have c26b1 : decide (t323 ≤ (x4_2.length : Int)) = true := decide_eq_true c26
                            clear c26
                            obtain ⟨y326, hy326⟩ : ∃ y_ : List Int, y_ = (x4_2.drop (t323 : Int).toNat) := ⟨_, rfl⟩
                            replace H : ((shift_GetInt.f kj18 y326).bind fun bt329 => (if 0 ≤ x6_2 then (if x6_2 < (z7.length : Int) then (if bt329.1 = (wrap64 (rd z7 x6_2)) then (if bt329.2.2 = 0 then (if bt329.2.1 > (y326.length : Int) then (some false) else (if 0 ≤ bt329.2.1 then (if bt329.2.1 ≤ (y326.length : Int) then (tidemarklaw01_ShiftMany.l1 kj18 z7 t312 (y326.drop (bt329.2.1 : Int).toNat) (wrap64 (x6_2 + 1))) else (none)) else (none))) else (some false)) else (some false)) else (none)) else (none))) = some r := by first | (rw [hy326]; with_reducible exact H) | (have H2_ := (Option.bind_some _ _).symm.trans H; rw [hy326]; with_reducible exact H2_) | (have H2_ := (Option.bind_some _ _).symm.trans H; with_reducible exact H2_) | with_reducible exact H | (rw [hy326]; exact H) | exact H
                            have Ny326 := Aside0.mk hy326
                            clear hy326
                            replace H := Option.bind_eq_some_iff.mp H
                            obtain ⟨⟨t329, t330, t331⟩, A270, H⟩ := H
                            replace H : (if 0 ≤ x6_2 then (if x6_2 < (z7.length : Int) then (if t329 = (wrap64 (rd z7 x6_2)) then (if t331 = 0 then (if t330 > (y326.length : Int) then (some false) else (if 0 ≤ t330 then (if t330 ≤ (y326.length : Int) then (tidemarklaw01_ShiftMany.l1 kj18 z7 t312 (y326.drop (t330 : Int).toNat) (wrap64 (x6_2 + 1))) else (none)) else (none))) else (some false)) else (some false)) else (none)) else (none)) = some r := H
                            have A27 := Aside0.mk A270
                            clear A270
                            by_cases c28 : 0 ≤ x6_2
                            · rw [if_pos c28] at H
                              have c28b0 : decide (0 ≤ x6_2) = true := decide_eq_true c28
                              clear c28
                              by_cases c29 : x6_2 < (z7.length : Int)
                              · rw [if_pos c29] at H
                                have c29b0 : decide (x6_2 < (z7.length : Int)) = true := decide_eq_true c29
                                clear c29
                                by_cases c30 : t329 = (wrap64 (rd z7 x6_2))
                                · rw [if_pos c30] at H
                                  have c30b0 : (t329 == (wrap64 (rd z7 x6_2))) = true := beq_iff_eq.mpr c30
                                  have c30b1 : (t329 != (wrap64 (rd z7 x6_2))) = false := bne_eq_false_iff_eq.mpr c30
                                  clear c30
                                  by_cases c31 : t331 = 0
                                  · rw [if_pos c31] at H
                                    have c31b0 : (t331 == 0) = true := beq_iff_eq.mpr c31
                                    have c31b1 : (t331 != 0) = false := bne_eq_false_iff_eq.mpr c31
                                    clear c31
                                    by_cases c32 : t330 > (y326.length : Int)
                                    · rw [if_pos c32] at H
                                      have c32b0 : decide ((y326.length : Int) < t330) = true := decide_eq_true c32
                                      clear c32
                                      exact absurd ((Option.some.inj H).trans HRT.out) (by decide)
                                    · rw [if_neg c32] at H
                                      have c32b0 : decide ((y326.length : Int) < t330) = false := decide_eq_false c32
                                      clear c32
                                      by_cases c33 : 0 ≤ t330
                                      · rw [if_pos c33] at H
                                        have c33b0 := eq_true c33
                                        have c33b1 : decide (0 ≤ t330) = true := decide_eq_true c33
                                        clear c33
                                        by_cases c34 : t330 ≤ (y326.length : Int)
                                        · rw [if_pos c34] at H
                                          have c34b0 := eq_true c34
                                          have c34b1 : decide (t330 ≤ (y326.length : Int)) = true := decide_eq_true c34
                                          clear c34
                                          obtain ⟨y333, hy333⟩ : ∃ y_ : List Int, y_ = (y326.drop (t330 : Int).toNat) := ⟨_, rfl⟩
                                          replace H : (tidemarklaw01_ShiftMany.l1 kj18 z7 t312 y333 (wrap64 (x6_2 + 1))) = some r := by first | (rw [hy333]; with_reducible exact H) | (have H2_ := (Option.bind_some _ _).symm.trans H; rw [hy333]; with_reducible exact H2_) | (have H2_ := (Option.bind_some _ _).symm.trans H; with_reducible exact H2_) | with_reducible exact H | (rw [hy333]; exact H) | exact H
                                          have Ny333 := Aside0.mk hy333
                                          clear hy333
                                          have H' := Aside0.mk H
                                          clear H
                                          have q35 : (t323 : Int) ≤ ((x4_2.length : Int) : Int) := of_decide_eq_true (by first | (with_reducible assumption) | assumption)
                                          obtain ⟨i035, hi035, _, hsz35, _⟩ := info_parts info5
                                          have hcut35 := cut_from (P := Try.prog) 33 5 .i64 Try.underlying33 hi035 1 hsz35 Ao20 x4_2.length co20 t323 (of_decide_eq_true (by first | (with_reducible assumption) | assumption)) q35
                                          have hr35 := Kd.Q_drop (k := (t323 : Int).toNat) HO_4.out (by omega)
                                          obtain ⟨A35, hA35⟩ : ∃ A1, A1 = (if co20 = (t323 : Int).toNat then Ao20 else (Ao20 : Option Addr).map (·.add ((t323 : Int).toNat * 1))) := ⟨_, rfl⟩
                                          obtain ⟨c35, hc35⟩ : ∃ c1, c1 = co20 - (t323 : Int).toNat := ⟨_, rfl⟩
                                          have hy35 : y326.length = x4_2.length - (t323 : Int).toNat := (by rw [Ny326.out, List.length_drop])
                                          rw [← Ny326.out] at hr35
                                          rw [← hy35, ← hA35, ← hc35] at hcut35
                                          replace hr35 : Kd.Q (Kd.int .u8) 5 wc w.heap.size (fun _ => True) (.slice A35 y326.length c35) y326 := (by rw [hA35, hc35, hy35]; exact hr35)
                                          have HE35 : Aside0 ((Value.slice A35 y326.length c35).ownBlock = (.slice Ao20 x4_2.length co20 : Value).ownBlock) := ⟨by rw [hA35]; split <;> (cases (Ao20 : Option Addr) <;> first | rfl | (simp only [Option.map, Value.ownBlock, Addr.add]; split <;> rfl))⟩
                                          clear hy35 hi035 hsz35 HO_4 hA35 hc35
                                          have HO328 := Aside0.mk hr35
                                          clear hr35
                                          replace q35 := eq_true q35
                                          go_wp2_with (first | ((with_reducible refine gate_callee (f := 27) rfl ?_); refine goesL_ (some 68) rfl rfl Try.func27 (by kernel_rfl) rfl #[.slice A35 y326.length c35] rfl (by (try simp only [List.map_toArray, List.map_cons, List.map_nil]); first | done | rfl | (simp only [List.length_drop, List.length_take]; rfl)) ?_; (with_reducible refine (shift_GetInt.calls kj18 _ _ y326 t329 t330 t331 _ ?side1 ?side2 A27.out).mono ?_); (case side1 => repeat (first | exact (Kd.Q_reads' HO328.out).2.2 | (with_reducible refine Kd.C_alloc ?_ _) | (with_reducible refine Kd.C_drewN ?_ _) | (with_reducible refine Kd.C_drew ?_))); (case side2 => exact (Kd.Q_reads' HO328.out).2.1); rintro e w' ⟨rfl, ⟨nd, rfl⟩⟩; refine ⟨_, rfl, ?_⟩; have p332 : 0 ≤ (x6_2 : Int) := of_decide_eq_true (by first | (with_reducible assumption) | assumption); have q332 : x6_2 < (z7.length : Int) := of_decide_eq_true (by first | (with_reducible assumption) | assumption); obtain ⟨ad332, e332, hx332_0⟩ := Kd.at_int HR313.out x6_2 p332 q332; cases e332; replace hx332_0 := (HB.out.cell (World.block_lt_of_cell? w _ hx332_0)).trans hx332_0; replace p332 := eq_true p332; replace q332 := eq_true q332; have q36 : (t330 : Int) ≤ ((y326.length : Int) : Int) := of_decide_eq_true (by first | (with_reducible assumption) | assumption); obtain ⟨i036, hi036, _, hsz36, _⟩ := info_parts info5; have hcut36 := cut_from (P := Try.prog) 33 5 .i64 Try.underlying33 hi036 1 hsz36 A35 y326.length c35 t330 (of_decide_eq_true (by first | (with_reducible assumption) | assumption)) q36; have hr36 := Kd.Q_drop (k := (t330 : Int).toNat) HO328.out (by omega); obtain ⟨A36, hA36⟩ : ∃ A1, A1 = (if c35 = (t330 : Int).toNat then A35 else (A35 : Option Addr).map (·.add ((t330 : Int).toNat * 1))) := ⟨_, rfl⟩; obtain ⟨c36, hc36⟩ : ∃ c1, c1 = c35 - (t330 : Int).toNat := ⟨_, rfl⟩; have hy36 : y333.length = y326.length - (t330 : Int).toNat := (by rw [Ny333.out, List.length_drop]); rw [← Ny333.out] at hr36; rw [← hy36, ← hA36, ← hc36] at hcut36; replace hr36 : Kd.Q (Kd.int .u8) 5 wc w.heap.size (fun _ => True) (.slice A36 y333.length c36) y333 := (by rw [hA36, hc36, hy36]; exact hr36); have HE36 : Aside0 ((Value.slice A36 y333.length c36).ownBlock = (.slice A35 y326.length c35 : Value).ownBlock) := ⟨by rw [hA36]; split <;> (cases (A35 : Option Addr) <;> first | rfl | (simp only [Option.map, Value.ownBlock, Addr.add]; split <;> rfl))⟩; clear hy36 hi036 hsz36 HO328 hA36 hc36; have HO335 := Aside0.mk hr36; clear hr36; replace q36 := eq_true q36))
                                          go_roundg kj18
                                          case measure => have := HK1.out; have := HK2.out; have := HJ18.out; omega
                                          case rel => exact ⟨(y333), (wrap64 (x6_2 + 1)), (by first | rfl | (simp; done) | (simp [*]; done)), H', ⟨by have := HK1.out; have := HK2.out; have := HJ18.out; omega⟩, ⟨by (with_reducible repeat (first | apply Kd.Q_alloc | apply Kd.Q_drewN | apply Kd.Q_drew)); exact HO335.out⟩, ⟨by repeat (first | (with_reducible first | exact HB.out | apply below_alloc | apply pw_below_drewN | apply below_drew1) | exact HB.out)⟩⟩
                                        · rw [if_neg c34] at H
                                          exact absurd H (by simp)
                                      · rw [if_neg c33] at H
                                        exact absurd H (by simp)
                                  · rw [if_neg c31] at H
                                    have c31b0 : (t331 == 0) = false := beq_eq_false_iff_ne.mpr c31
                                    have c31b1 : (t331 != 0) = true := bne_iff_ne.mpr c31
                                    exact absurd ((Option.some.inj H).trans HRT.out) (by decide)
                                · rw [if_neg c30] at H
                                  have c30b0 : (t329 == (wrap64 (rd z7 x6_2))) = false := beq_eq_false_iff_ne.mpr c30
                                  have c30b1 : (t329 != (wrap64 (rd z7 x6_2))) = true := bne_iff_ne.mpr c30
                                  exact absurd ((Option.some.inj H).trans HRT.out) (by decide)
                              · rw [if_neg c29] at H
                                exact absurd H (by simp)
                            · rw [if_neg c28] at H
                              exact absurd H (by simp)
                          · rw [if_neg c26] at H
                            exact absurd H (by simp)
                        · rw [if_neg c25] at H
                          exact absurd H (by simp)
                · rw [if_neg c17] at H
                  have c17b0 : decide (x6_2 < (z7.length : Int)) = false := decide_eq_false c17
                  clear c17
                  by_cases c37 : t312 = true
                  · subst c37
                    have H1 : (some ((x4_2.length : Int) == 0)) = some r := by rw [if_pos rfl] at H; exact H
                    clear H
                    have H := H1
                    clear H1
                    obtain rfl := Option.some.inj H
                    obtain ⟨Ao38, co38, eo38, _⟩ := Kd.Q_slice HO_4.out
                    subst eo38
                    go_wp2
                    go_ret
                    exact ⟨by first | rfl | (simp [errW_none, errW_some] <;> rfl) | (simp only [← hji3]; first | rfl | (simp [errW_none, errW_some] <;> rfl)) | (simp [*, errW_none, errW_some] <;> rfl), by repeat (first | (with_reducible first | exact HB.out | apply below_alloc | apply pw_below_drewN | apply below_drew1) | exact HB.out)⟩
                  · replace c37 := Bool.eq_false_iff.mpr c37
                    subst c37
                    have H1 : (some false) = some r := by rw [if_neg (show ¬ (false = true) by decide)] at H; exact H
                    clear H
                    have H := H1
                    clear H1
                    exact absurd ((Option.some.inj H).trans HRT.out) (by decide)
    · rw [if_neg c5] at H
      exact absurd H (by simp)
  · rw [if_neg c4] at H
    exact absurd H (by simp)

/-- THE ONE PURE STATEMENT of tidemarklaw01_ShiftMany: yours. -/
def tidemarklaw01_ShiftMany.Pure : Prop := ∀ (l0 : List Int), l0.length ≤ maxLen → l0.length * 8 ≤ 140737488351232 → (∀ x ∈ l0, (Lit.int .u64 x).wf = true) → ∃ k, tidemarklaw01_ShiftMany.f k l0 = some true
theorem tidemarklaw01_ShiftMany.walk (P : tidemarklaw01_ShiftMany.Pure) (a0 : Option Addr) (len0 cap0 : Nat) (z0 : List Int) (w : World) (w0 : (a0 = none ∧ len0 = 0 ∧ cap0 = 0 ∧ z0 = []) ∨ ∃ x, a0 = some x ∧ len0 ≤ cap0 ∧ cap0 ≤ maxLen ∧ z0.length = cap0 ∧ (∀ i, i < z0.length → w.cell? (x.add i) = some (.int .u64 (z0.getD i 0))) ∧ ∀ n ∈ z0, (Lit.int .u64 n).wf = true) (y0 : len0 * 8 ≤ 140737488351232) :
    Calls Try.prog 10 #[.slice a0 len0 cap0] w fun e w' => e = .returned (.bool true) ∧ Below w.heap.size w w' := by
  obtain ⟨l0, rfl, hr0, hm0, hw0, hc0⟩ := ReadsInt.ofRowC w0
  obtain ⟨k, h⟩ := P l0 hm0 y0 hw0
  refine (tidemarklaw01_ShiftMany.calls k _ _ l0 true w (Kd.C_of_reads (d := (0 : Int)) (h1 := fun _ => rfl) hr0) hc0 rfl h).mono ?_
  rintro e w' ⟨rfl, hd⟩
  exact ⟨rfl, hd⟩

end Go.Proofs.Ytemgidhelpacaaa.PS
