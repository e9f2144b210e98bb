/- Texts of this session in one: PCx10, PCx15, PCx72, HRead, HKey, HWhole, HDecode0, HDecode1, HRows, HBits. Plain functions, and that the program's come to them. -/
import Derived.WalkSmall
import Derived.Recover
import Derived.Test.YtgmdoapedhppmaaWMore
import Derived.PlainAid
import Derived.Laws.BitsLemmas
import Derived.Test.YtgmdoapedhppmaaBCodecParts0

/- Proofs that functions of the program come to what plain Lean functions say; made by wip/drive.py. -/
namespace Go.Proofs.Ytgmdoapedhppmaa.PC
set_option linter.unusedVariables false
set_option linter.unusedSimpArgs false
open Go.RowKit Go.Proofs.YtgmdoapedhppmaaW.PrintWords Go.Proofs.YtgmdoapedhppmaaW.PrintLast Go.Proofs.YtgmdoapedhppmaaW.PrintMore
attribute [local go_sem] max2_int min2_int max_two min_two max_three min_three max_four min_four   -- for this text's walks alone
set_option linter.unusedVariables false
set_option linter.unusedSimpArgs false

/-! ### codec_Encode: function 16 -/
mutual
def codec_Encode.l0 : Nat → List Int → List (S47) → Int → Int → Option (List Int × Int)
  | 0, _, _, _, _ => none
  | k + 1, x5, x26, x27, x28 => if x28 < x27 then (if 0 ≤ x28 then (if x28 < (x26.length : Int) then ((shift_PutUint.f k x5 (Go.bits .and .u64 ((rd_T47 x26 x28).f0) 4294967295)).bind fun t123 => ((shift_PutUint.f k t123 (IntKind.u64.wrap ((((rd_T47 x26 x28).f1).length : Int)))).bind fun t126 => (codec_Encode.l1 k t126 x26 x27 x28 ((rd_T47 x26 x28).f1) (((rd_T47 x26 x28).f1).length : Int) 0))) else (none)) else (none)) else (some (x5, 0))
def codec_Encode.l1 : Nat → List Int → List (S47) → Int → Int → List (S50) → Int → Int → Option (List Int × Int)
  | 0, _, _, _, _, _, _, _ => none
  | k + 1, x5, x26, x27, x28, x44, x45, x46 => if x46 < x45 then (if 0 ≤ x46 then (if x46 < (x44.length : Int) then (if x5.length < 140737488355328 then ((codec_text.f k (x5 ++ [(rd_T50 x44 x46).f0.f0]) ((rd_T50 x44 x46).f0.f1)).bind fun t134 => (if (rd_T50 x44 x46).f1 = true then (if t134.length < 140737488355328 then (codec_Encode.l1 k (t134 ++ [0]) x26 x27 x28 x44 x45 (wrap64 (x46 + 1))) else (none)) else ((shift_PutUint.f k t134 (IntKind.u64.wrap ((IntKind.u64.wrap ((((rd_T50 x44 x46).f2).size : Int))) + 1))).bind fun t140 => (if t140.length + ((rd_T50 x44 x46).f2).size < 140737488355328 then (codec_Encode.l1 k (t140 ++ bytesOf ((rd_T50 x44 x46).f2)) x26 x27 x28 x44 x45 (wrap64 (x46 + 1))) else (none))))) else (none)) else (none)) else (none)) else (codec_Encode.l0 k x5 x26 x27 (wrap64 (x28 + 1)))
end
def codec_Encode.f (k : Nat) (a0_0 : Int) (l0_1 : List (S47)) : Option (List Int × Int) := (codec_Right.f a0_0 l0_1).bind fun t114 => (if t114 = 0 then ((shift_PutUint.f k ([] : List Int) (IntKind.u64.wrap (a0_0))).bind fun t115 => ((shift_PutUint.f k t115 (IntKind.u64.wrap ((l0_1.length : Int)))).bind fun t118 => (codec_Encode.l0 k t118 l0_1 (l0_1.length : Int) 0))) else (some (([] : List Int), t114)))
theorem codec_Encode.mono_l : ∀ k, (∀ y0 y1 y2 y3, LeO (codec_Encode.l0 k y0 y1 y2 y3) (codec_Encode.l0 (k + 1) y0 y1 y2 y3)) ∧ (∀ y0 y1 y2 y3 y4 y5 y6, LeO (codec_Encode.l1 k y0 y1 y2 y3 y4 y5 y6) (codec_Encode.l1 (k + 1) y0 y1 y2 y3 y4 y5 y6))
  | 0 => ⟨fun _ _ _ _ r h => by simp [codec_Encode.l0] at h, fun _ _ _ _ _ _ _ r h => by simp [codec_Encode.l1] at h⟩
  | k + 1 => by
    obtain ⟨ih0, ih1⟩ := codec_Encode.mono_l k
    refine ⟨?_, ?_⟩
    · intro y0 y1 y2 y3
      unfold codec_Encode.l0
      repeat' first
      | (with_reducible exact ih0 _ _ _ _)
      | (with_reducible exact ih1 _ _ _ _ _ _ _)
      | (with_reducible exact codec_text.mono _ _ _)
      | (with_reducible exact shift_PutUint.mono _ _ _)
      | (with_reducible exact LeO.refl _)
      | (with_reducible exact LeO.none _)
      | (with_reducible refine LeO.ite ?_ ?_)
      | (with_reducible refine LeO.bind ?_ (fun _ => ?_))
      | exact ih0 _ _ _ _
      | exact ih1 _ _ _ _ _ _ _
      | exact codec_text.mono _ _ _
      | exact shift_PutUint.mono _ _ _
      | exact LeO.none _
      | refine LeO.ite ?_ ?_
      | refine LeO.bind ?_ (fun _ => ?_)
    · intro y0 y1 y2 y3 y4 y5 y6
      unfold codec_Encode.l1
      repeat' first
      | (with_reducible exact ih0 _ _ _ _)
      | (with_reducible exact ih1 _ _ _ _ _ _ _)
      | (with_reducible exact codec_text.mono _ _ _)
      | (with_reducible exact shift_PutUint.mono _ _ _)
      | (with_reducible exact LeO.refl _)
      | (with_reducible exact LeO.none _)
      | (with_reducible refine LeO.ite ?_ ?_)
      | (with_reducible refine LeO.bind ?_ (fun _ => ?_))
      | exact ih0 _ _ _ _
      | exact ih1 _ _ _ _ _ _ _
      | exact codec_text.mono _ _ _
      | exact shift_PutUint.mono _ _ _
      | exact LeO.none _
      | refine LeO.ite ?_ ?_
      | refine LeO.bind ?_ (fun _ => ?_)
theorem codec_Encode.mono : ∀ a0 a1 k, LeO (codec_Encode.f k a0 a1) (codec_Encode.f (k + 1) a0 a1) := by
  intro a0 a1 k
  obtain ⟨ih0, ih1⟩ := codec_Encode.mono_l k
  unfold codec_Encode.f
  repeat' first
      | (with_reducible exact ih0 _ _ _ _)
      | (with_reducible exact ih1 _ _ _ _ _ _ _)
      | (with_reducible exact codec_text.mono _ _ _)
      | (with_reducible exact shift_PutUint.mono _ _ _)
      | (with_reducible exact LeO.refl _)
      | (with_reducible exact LeO.none _)
      | (with_reducible refine LeO.ite ?_ ?_)
      | (with_reducible refine LeO.bind ?_ (fun _ => ?_))
      | exact ih0 _ _ _ _
      | exact ih1 _ _ _ _ _ _ _
      | exact codec_text.mono _ _ _
      | exact shift_PutUint.mono _ _ _
      | exact LeO.none _
      | refine LeO.ite ?_ ?_
      | refine LeO.bind ?_ (fun _ => ?_)
def codec_Encode.T14 : Bool × List (List Nat × List Nat) := (true, [([], []), ([], []), ([1], [1]), ([2], [2]), ([3], [3]), ([0, 4], [0, 4]), ([], []), ([6], [6]), ([7], [7]), ([5, 8, 5], [5, 8]), ([9, 9, 0, 1, 2, 3, 4, 5, 6, 7, 8, 9], [0, 9])])
def codec_Encode.B14 : List Nat := [0, 0, 2, 6, 14, 31, 0, 64, 192, 511, 1023]
theorem codec_Encode.tab14 : rtab .any (opsOf Try.f16 14) = codec_Encode.T14 := by kernel_rfl
theorem codec_Encode.bits14 : waitsOk codec_Encode.T14.2 codec_Encode.B14 = true := by kernel_rfl
def codec_Encode.T17 : Bool × List (List Nat × List Nat) := (true, [([], []), ([], []), ([1], [1]), ([2], [2]), ([3], [3]), ([4], [4]), ([0, 5], [0, 5]), ([], []), ([7], [7]), ([6, 8, 6], [6, 8]), ([9, 9, 0, 1, 2, 3, 4, 5, 6, 7, 8, 9], [0, 9])])
def codec_Encode.B17 : List Nat := [0, 0, 2, 6, 14, 30, 63, 0, 128, 511, 1023]
theorem codec_Encode.tab17 : rtab .any (opsOf Try.f16 17) = codec_Encode.T17 := by kernel_rfl
theorem codec_Encode.bits17 : waitsOk codec_Encode.T17.2 codec_Encode.B17 = true := by kernel_rfl
set_option maxHeartbeats 8000000 in
set_option maxRecDepth 100000 in
theorem codec_Encode.calls (k : Nat) (a0_0 : Int) (A0_1 : Option Addr) (c0_1 : Nat) (l0_1 : List (S47)) (r1 : List Int) (r2 : Int) (w : World) (hr0_1 : Kd.C k47 w A0_1 l0_1.length l0_1) (hc0_1 : l0_1.length ≤ c0_1) (h : codec_Encode.f k a0_0 l0_1 = some (r1, r2)) :
    Calls Try.prog 16 #[.agg #[.int .u32 a0_0, .slice A0_1 l0_1.length c0_1]] w fun e w' => ∃ v0_ : Value, e = .returned (.tuple #[v0_, .int .i64 r2]) ∧ Kd.R (Kd.int .u8) 5 w' w.heap.size (fun _ => True) v0_ r1 ∧ Below w.heap.size w w' := by
  have hu25 := Try.underlying25
  have hu47 := Try.underlying47
  have hu50 := Try.underlying50
  have HR0_1 := Aside0.mk hr0_1
  have HC0_1 := Aside0.mk hc0_1
  clear hr0_1 hc0_1
  have HB := Aside0.mk (Below.refl w.heap.size w)
  have H : ((codec_Right.f a0_0 l0_1).bind fun t114 => (if t114 = 0 then ((shift_PutUint.f k ([] : List Int) (IntKind.u64.wrap (a0_0))).bind fun t115 => ((shift_PutUint.f k t115 (IntKind.u64.wrap ((l0_1.length : Int)))).bind fun t118 => (codec_Encode.l0 k t118 l0_1 (l0_1.length : Int) 0))) else (some (([] : List Int), t114)))) = some (r1, r2) := h
  clear h
  replace H := Option.bind_eq_some_iff.mp H
  obtain ⟨t114, A20, H⟩ := H
  replace H : (if t114 = 0 then ((shift_PutUint.f k ([] : List Int) (IntKind.u64.wrap (a0_0))).bind fun t115 => ((shift_PutUint.f k t115 (IntKind.u64.wrap ((l0_1.length : Int)))).bind fun t118 => (codec_Encode.l0 k t118 l0_1 (l0_1.length : Int) 0))) else (some (([] : List Int), t114))) = some (r1, r2) := H
  have A2 := Aside0.mk A20
  clear A20
  by_cases c3 : t114 = 0
  · rw [if_pos c3] at H
    have c3b0 : (t114 == 0) = true := beq_iff_eq.mpr c3
    have c3b1 : (t114 != 0) = false := bne_eq_false_iff_eq.mpr c3
    clear c3
    replace H := Option.bind_eq_some_iff.mp H
    obtain ⟨t115, A40, H⟩ := H
    replace H : ((shift_PutUint.f k t115 (IntKind.u64.wrap ((l0_1.length : Int)))).bind fun t118 => (codec_Encode.l0 k t118 l0_1 (l0_1.length : Int) 0)) = some (r1, r2) := H
    have A4 := Aside0.mk A40
    clear A40
    replace H := Option.bind_eq_some_iff.mp H
    obtain ⟨t118, A50, H⟩ := H
    replace H : (codec_Encode.l0 k t118 l0_1 (l0_1.length : Int) 0) = some (r1, r2) := H
    have A5 := Aside0.mk A50
    clear A50
    have H' := Aside0.mk H
    clear H
    go_enter Try.func16, Try.ntmps16
    go_wp2_with (first | ((with_reducible refine gate_dst (N := 1) rfl ?_); refine box_event ?hg (N := 1) ?hd (cs := #[.int .u32 a0_0, .slice A0_1 l0_1.length c0_1]) (t := 25) ?hr ?_; (case hd => rfl); (case hg => rfl); (case hr => first | (go_simp; done) | (go_simp; rfl)); intro gb113 hg w6 hbox hb; have n0_ := Aside0.mk (below_step (by repeat (first | (with_reducible first | exact HB.out | apply below_alloc | apply pw_below_drewN | apply below_drew1) | exact HB.out)) hb); have n1_ := Aside0.mk (hbox); have n2_ := Aside0.mk ((by rw [hg]; exact (below_size (by repeat (first | (with_reducible first | exact HB.out | apply below_alloc | apply pw_below_drewN | apply below_drew1) | exact HB.out))) : w.heap.size ≤ gb113)); have n3_ := Aside0.mk ((by rw [hg]; exact (below_size (by repeat (first | (with_reducible first | exact HB.out | apply below_alloc | apply pw_below_drewN | apply below_drew1) | exact HB.out))) : w.heap.size ≤ gb113)); clear HB; have HB := n0_; have BK113 := n1_; have GW113 := n2_; have GE113 := n3_; clear n0_ n1_ n2_ n3_; clear hb hbox hg; have hcz7_0 : w6.cell? ⟨gb113, 0, none⟩ = some (.int .u32 a0_0) := (blk_cell BK113.out 0).trans rfl; have hcz7_1 : w6.cell? ⟨gb113, 1, none⟩ = some (.slice A0_1 l0_1.length c0_1) := (blk_cell BK113.out 1).trans rfl; have hfz7_0 := blk_frozen BK113.out 0; have hfz7_1 := blk_frozen BK113.out 1) | ((with_reducible refine gate_callee (f := 20) rfl ?_); refine goesL_ (some 11) rfl rfl Try.func20 (by kernel_rfl) rfl #[.agg #[.int .u32 a0_0, .slice A0_1 l0_1.length c0_1]] rfl (by (try simp only [List.map_toArray, List.map_cons, List.map_nil]); first | done | rfl | (simp only [List.length_drop, List.length_take]; rfl) | (rw [IntKind.wrap_u64, Int.emod_eq_of_lt (by omega) (by omega)]; rfl)) ?_; (with_reducible refine (codec_Right.calls a0_0 _ _ l0_1 t114 _ ?side1 ?side2 A2.out).mono ?_); (case side1 => repeat (first | exact (Kd.C_below HR0_1.out HB.out) | (with_reducible refine Kd.C_alloc ?_ _) | (with_reducible refine Kd.C_drewN ?_ _) | (with_reducible refine Kd.C_drew ?_))); (case side2 => exact HC0_1.out); rintro e w8 ⟨rfl, hb⟩; refine ⟨_, rfl, ?_⟩; have n0_ := Aside0.mk (blk_below (g := gb113) (o := .cells #[.int .u32 a0_0, .slice A0_1 l0_1.length c0_1] 25 (0, 0)) (by (with_reducible repeat (first | refine blk_drewN ?_ _ | refine blk_drew ?_ | refine blk_alloc ?_ _)); exact BK113.out) hb); have n1_ := Aside0.mk (below_step (by repeat (first | (with_reducible first | exact HB.out | apply below_alloc | apply pw_below_drewN | apply below_drew1 | refine below_set ?_ GE113.out) | exact HB.out)) hb); clear BK113; clear HB; have BK113 := n0_; have HB := n1_; clear n0_ n1_; (try clear hb); (try clear hb2); (try clear hk); (try clear hi); have hcz9_0 : w8.cell? ⟨gb113, 0, none⟩ = some (.int .u32 a0_0) := (blk_cell BK113.out 0).trans rfl; have hcz9_1 : w8.cell? ⟨gb113, 1, none⟩ = some (.slice A0_1 l0_1.length c0_1) := (blk_cell BK113.out 1).trans rfl; have hfz9_0 := blk_frozen BK113.out 0; have hfz9_1 := blk_frozen BK113.out 1) | ((with_reducible refine gate_callee (f := 32) rfl ?_); refine goesL_ (some 18) rfl rfl Try.func32 (by kernel_rfl) rfl #[.slice none 0 0, .int .u64 (IntKind.u64.wrap (a0_0))] rfl (by (try simp only [List.map_toArray, List.map_cons, List.map_nil]); first | done | rfl | (simp only [List.length_drop, List.length_take]; rfl) | (rw [IntKind.wrap_u64, Int.emod_eq_of_lt (by omega) (by omega)]; rfl)) ?_; (refine (shift_PutUint.calls k (fun k_ => some k_ = (.slice none 0 0 : Value).ownBlock) (.slice none 0 0) ([] : List Int) (IntKind.u64.wrap (a0_0)) t115 w _ ?side1 ?side2 A4.out).mono ?_); (case side1 => repeat (first | (with_reducible first | exact HB.out | apply below_alloc | apply pw_below_drewN | apply below_drew1 | refine below_set ?_ GE113.out) | exact HB.out)); (case side2 => exact Kd.R_nil _ _ _ _ _); rintro e w10 ⟨v116, rfl, ho0, hb, hkp⟩; refine ⟨_, rfl, ?_⟩; have n0_ := Aside0.mk (blk_kept (by (with_reducible repeat (first | refine blk_drewN ?_ _ | refine blk_drew ?_ | refine blk_alloc ?_ _)); exact BK113.out) hkp (fun hs_ => (fun e_ => by simp [Value.ownBlock] at e_) hs_)); have n1_ := Aside0.mk (Kd.R_mono (ok' := fun k_ => True) ho0 (fun k_ hk_ => trivial)); have n2_ := Aside0.mk (hb); clear BK113; clear HB; have BK113 := n0_; have HO117 := n1_; have HB := n2_; clear n0_ n1_ n2_; (try clear hb); (try clear hkp); (try clear ho0); have hcz11_0 : w10.cell? ⟨gb113, 0, none⟩ = some (.int .u32 a0_0) := (blk_cell BK113.out 0).trans rfl; have hcz11_1 : w10.cell? ⟨gb113, 1, none⟩ = some (.slice A0_1 l0_1.length c0_1) := (blk_cell BK113.out 1).trans rfl; have hfz11_0 := blk_frozen BK113.out 0; have hfz11_1 := blk_frozen BK113.out 1; obtain ⟨Ao12, co12, eo12⟩ := Kd.R_slice HO117.out; subst eo12) | ((with_reducible refine gate_callee (f := 32) rfl ?_); refine goesL_ (some 24) rfl rfl Try.func32 (by kernel_rfl) rfl #[.slice Ao12 t115.length co12, .int .u64 (IntKind.u64.wrap ((l0_1.length : Int)))] rfl (by (try simp only [List.map_toArray, List.map_cons, List.map_nil]); first | done | rfl | (simp only [List.length_drop, List.length_take]; rfl) | (rw [IntKind.wrap_u64, Int.emod_eq_of_lt (by omega) (by omega)]; rfl)) ?_; (with_reducible refine (shift_PutUint.calls k (fun k_ => some k_ = (.slice Ao12 t115.length co12 : Value).ownBlock) (.slice Ao12 t115.length co12) t115 (IntKind.u64.wrap ((l0_1.length : Int))) t118 w _ ?side1 ?side2 A5.out).mono ?_); (case side1 => repeat (first | (with_reducible first | exact HB.out | apply below_alloc | apply pw_below_drewN | apply below_drew1 | refine below_set ?_ GE113.out) | exact HB.out)); (case side2 => exact Kd.R_tight rfl HO117.out); rintro e w13 ⟨v119, rfl, ho0, hb, hkp⟩; refine ⟨_, rfl, ?_⟩; have n0_ := Aside0.mk (blk_kept (by (with_reducible repeat (first | refine blk_drewN ?_ _ | refine blk_drew ?_ | refine blk_alloc ?_ _)); exact BK113.out) hkp (fun hs_ => (fun e_ => (Kd.R_ne HO117.out BK113.out (by decide)) e_) hs_)); have n1_ := Aside0.mk (Kd.R_mono (ok' := fun k_ => True) ho0 (fun k_ hk_ => trivial)); have n2_ := Aside0.mk (hb); clear BK113; clear HB; clear HO117; have BK113 := n0_; have HO120 := n1_; have HB := n2_; clear n0_ n1_ n2_; (try clear hb); (try clear hkp); (try clear ho0); have hcz14_0 : w13.cell? ⟨gb113, 0, none⟩ = some (.int .u32 a0_0) := (blk_cell BK113.out 0).trans rfl; have hcz14_1 : w13.cell? ⟨gb113, 1, none⟩ = some (.slice A0_1 l0_1.length c0_1) := (blk_cell BK113.out 1).trans rfl; have hfz14_0 := blk_frozen BK113.out 0; have hfz14_1 := blk_frozen BK113.out 1))
    go_loopg [5, 28] k (fun kq v5 v28 w' => ∃ (x5_1 : List Int) (x28_1 : Int), v28 = .int .i64 x28_1 ∧ Aside0 (codec_Encode.l0 kq x5_1 l0_1 (l0_1.length : Int) x28_1 = some (r1, r2)) ∧ Aside0 (kq ≤ k) ∧ Aside0 (Kd.R (Kd.int .u8) 5 w' w.heap.size (fun _ => True) v5 x5_1) ∧ Aside0 (w'.heap[gb113]? = some (.cells #[.int .u32 a0_0, (.slice A0_1 l0_1.length c0_1)] 25 (0, 0))) ∧ Aside0 (Below w.heap.size w w'))
    case atStart => exact ⟨(t118), (0), (by first | rfl | (simp; done) | (simp [*]; done)), H', ⟨Nat.le_refl _⟩, ⟨by (with_reducible repeat (first | apply Kd.R_alloc | apply Kd.R_drewN | apply Kd.R_drew)); exact HO120.out⟩, ⟨by (with_reducible repeat (first | refine blk_drewN ?_ _ | refine blk_drew ?_ | refine blk_alloc ?_ _)); exact BK113.out⟩, ⟨by repeat (first | (with_reducible first | exact HB.out | apply below_alloc | apply pw_below_drewN | apply below_drew1 | refine below_set ?_ GE113.out) | exact HB.out)⟩⟩
    case round =>
      clear H'
      try clear c1
      try clear c2
      try clear p2
      try clear c3
      try clear c3b0
      try clear c3b1
      try clear hcz11_0
      try clear hcz11_1
      try clear hcz14_0
      try clear hcz14_1
      try clear hcz7_0
      try clear hcz7_1
      try clear hcz9_0
      try clear hcz9_1
      try clear hfz11_0
      try clear hfz11_1
      try clear hfz14_0
      try clear hfz14_1
      try clear hfz7_0
      try clear hfz7_1
      try clear hfz9_0
      try clear hfz9_1
      obtain ⟨x5_1, x28_1, rfl, HA, HK1, HO_5, BK113, HB⟩ := hrel
      cases gk with
      | zero => exact absurd HA.out (by simp [codec_Encode.l0])
      | succ k1 =>
        have H := HA.out
        clear HA
        simp only [codec_Encode.l0] at H
        by_cases c15 : x28_1 < (l0_1.length : Int)
        · rw [if_pos c15] at H
          have c15b0 : decide (x28_1 < (l0_1.length : Int)) = true := decide_eq_true c15
          clear c15
          by_cases c16 : 0 ≤ x28_1
          · rw [if_pos c16] at H
            have c16b0 : decide (0 ≤ x28_1) = true := decide_eq_true c16
            clear c16
            by_cases c17 : x28_1 < (l0_1.length : Int)
            · rw [if_pos c17] at H
              have c17b0 : decide (x28_1 < (l0_1.length : Int)) = true := decide_eq_true c17
              clear c17
              replace H := Option.bind_eq_some_iff.mp H
              obtain ⟨t123, A180, H⟩ := H
              replace H : ((shift_PutUint.f k1 t123 (IntKind.u64.wrap ((((rd_T47 l0_1 x28_1).f1).length : Int)))).bind fun t126 => (codec_Encode.l1 k1 t126 l0_1 (l0_1.length : Int) x28_1 ((rd_T47 l0_1 x28_1).f1) (((rd_T47 l0_1 x28_1).f1).length : Int) 0)) = some (r1, r2) := H
              have A18 := Aside0.mk A180
              clear A180
              replace H := Option.bind_eq_some_iff.mp H
              obtain ⟨t126, A190, H⟩ := H
              replace H : (codec_Encode.l1 k1 t126 l0_1 (l0_1.length : Int) x28_1 ((rd_T47 l0_1 x28_1).f1) (((rd_T47 l0_1 x28_1).f1).length : Int) 0) = some (r1, r2) := H
              have A19 := Aside0.mk A190
              clear A190
              have H' := Aside0.mk H
              clear H
              have p121 : 0 ≤ (x28_1 : Int) := of_decide_eq_true (by first | (with_reducible assumption) | assumption)
              have q121 : x28_1 < (l0_1.length : Int) := of_decide_eq_true (by first | (with_reducible assumption) | assumption)
              obtain ⟨ad121, A121_1, c121_1, e121, hx121_0, hx121_1, hl121_1, hi121_1⟩ := at_T47 HR0_1.out x28_1 p121 q121
              cases e121
              replace hx121_0 := (HB.out.cell (World.block_lt_of_cell? w _ hx121_0)).trans hx121_0
              replace hx121_1 := (HB.out.cell (World.block_lt_of_cell? w _ hx121_1)).trans hx121_1
              have HR121_1 := Aside0.mk hi121_1
              have HC121_1 := Aside0.mk hl121_1
              clear hi121_1 hl121_1
              replace p121 := eq_true p121
              replace q121 := eq_true q121
              go_wp2_with (first | ((with_reducible refine gate_dst (N := 7) rfl ?_); refine box_event ?hg (N := 7) ?hd (cs := #[.int .u64 0, .slice none 0 0]) (t := 47) ?hr ?_; (case hd => rfl); (case hg => rfl); (case hr => first | (go_simp; done) | (go_simp; rfl)); intro gb122 hg w20 hbox hb; have n0_ := Aside0.mk (Kd.R_below (by (with_reducible repeat (first | apply Kd.R_alloc | apply Kd.R_drewN | apply Kd.R_drew)); exact HO_5.out) hb); have n1_ := Aside0.mk (blk_below (g := gb113) (o := .cells #[.int .u32 a0_0, .slice (some ad121) l0_1.length c0_1] 25 (0, 0)) (by (with_reducible repeat (first | refine blk_drewN ?_ _ | refine blk_drew ?_ | refine blk_alloc ?_ _)); exact BK113.out) hb); have n2_ := Aside0.mk (below_step (by repeat (first | (with_reducible first | exact HB.out | apply below_alloc | apply pw_below_drewN | apply below_drew1 | refine below_set ?_ GE113.out) | exact HB.out)) hb); have n3_ := Aside0.mk (hbox); have n4_ := Aside0.mk ((by rw [hg]; exact (below_size (by repeat (first | (with_reducible first | exact HB.out | apply below_alloc | apply pw_below_drewN | apply below_drew1 | refine below_set ?_ GE113.out) | exact HB.out))) : w.heap.size ≤ gb122)); have n5_ := Aside0.mk ((by rw [hg]; exact (below_size (by repeat (first | (with_reducible first | exact HB.out | apply below_alloc | apply pw_below_drewN | apply below_drew1 | refine below_set ?_ GE113.out) | exact HB.out))) : w.heap.size ≤ gb122)); have n6_ := Aside0.mk ((by rw [hg]; exact Nat.ne_of_lt (blk_lt (g := gb113) (o := .cells #[.int .u32 a0_0, .slice (some ad121) l0_1.length c0_1] 25 (0, 0)) (by (with_reducible repeat (first | refine blk_drewN ?_ _ | refine blk_drew ?_ | refine blk_alloc ?_ _)); exact BK113.out)) : gb113 ≠ gb122)); have n7_ := Aside0.mk ((by rw [hg]; exact Nat.ne_of_gt (blk_lt (g := gb113) (o := .cells #[.int .u32 a0_0, .slice (some ad121) l0_1.length c0_1] 25 (0, 0)) (by (with_reducible repeat (first | refine blk_drewN ?_ _ | refine blk_drew ?_ | refine blk_alloc ?_ _)); exact BK113.out)) : gb122 ≠ gb113)); clear HO_5; clear BK113; clear HB; have HO_5 := n0_; have BK113 := n1_; have HB := n2_; have BK122 := n3_; have GW122 := n4_; have GE122 := n5_; have NB113_122 := n6_; have NB122_113 := n7_; clear n0_ n1_ n2_ n3_ n4_ n5_ n6_ n7_; clear hb hbox hg; have hnb21 := NB122_113.out; have hnc21 := NB113_122.out; have hcz22_0 : w20.cell? ⟨gb122, 0, none⟩ = some (.int .u64 0) := (blk_cell BK122.out 0).trans rfl; have hcz22_1 : w20.cell? ⟨gb122, 1, none⟩ = some (.slice none 0 0) := (blk_cell BK122.out 1).trans rfl; have hfz22_0 := blk_frozen BK122.out 0; have hfz22_1 := blk_frozen BK122.out 1) | ((with_reducible refine gate_store (t := 47) (p := 7) rfl ?_); refine store_event (t := 47) (p := 7) (v := ?vo_w23) (w1 := ((w20.setCell ⟨gb122, 0, none⟩ (.int .u64 ((rd_T47 l0_1 x28_1).f0))).setCell ⟨gb122, 1, none⟩ (.slice A121_1 ((rd_T47 l0_1 x28_1).f1).length c121_1))) ?hg ?ho ?hn ?hr ?_; (case ho => rfl); (case hg => rfl); (case hn => rfl); (case hr => first | (go_simp; done) | (go_simp; rfl)); intro w23 hw; have n0_ : Aside0 (Kd.R (Kd.int .u8) 5 w23 w.heap.size (fun _ => True) u5 x5_1) := ⟨(by rw [hw]; exact (by (with_reducible repeat (first | apply Kd.R_alloc | apply Kd.R_drewN | apply Kd.R_drew)); exact Kd.R_mono (Kd.R_far (p := ⟨gb122, 1, none⟩) (Kd.R_far (p := ⟨gb122, 0, none⟩) (Kd.R_types HO_5.out BK122.out (by decide)) (fun _ hk => hk.2) (.int .u64 ((rd_T47 l0_1 x28_1).f0))) (fun _ hk => hk.2) (.slice A121_1 ((rd_T47 l0_1 x28_1).f1).length c121_1)) (fun _ hk => trivial)))⟩; have n1_ : Aside0 (w23.heap[gb113]? = some (.cells #[.int .u32 a0_0, .slice (some ad121) l0_1.length c0_1] 25 (0, 0))) := ⟨(by rw [hw]; exact (by (with_reducible repeat (first | refine blk_drewN ?_ _ | refine blk_drew ?_ | refine blk_alloc ?_ _)); refine blk_far ?_ NB113_122.out _; (with_reducible repeat (first | refine blk_drewN ?_ _ | refine blk_drew ?_ | refine blk_alloc ?_ _)); refine blk_far ?_ NB113_122.out _; (with_reducible repeat (first | refine blk_drewN ?_ _ | refine blk_drew ?_ | refine blk_alloc ?_ _)); exact BK113.out))⟩; have n2_ : Aside0 (w23.heap[gb122]? = some (.cells #[.int .u64 ((rd_T47 l0_1 x28_1).f0), .slice A121_1 ((rd_T47 l0_1 x28_1).f1).length c121_1] 47 (0, 0))) := ⟨(by rw [hw]; exact (by (with_reducible repeat (first | refine blk_drewN ?_ _ | refine blk_drew ?_ | refine blk_alloc ?_ _)); refine blk_put (cs := #[.int .u64 ((rd_T47 l0_1 x28_1).f0), .slice none 0 0]) ?_ 1 _ rfl; (with_reducible repeat (first | refine blk_drewN ?_ _ | refine blk_drew ?_ | refine blk_alloc ?_ _)); refine blk_put (cs := #[.int .u64 0, .slice none 0 0]) ?_ 0 _ rfl; (with_reducible repeat (first | refine blk_drewN ?_ _ | refine blk_drew ?_ | refine blk_alloc ?_ _)); exact BK122.out))⟩; have n3_ : Aside0 (Below w.heap.size w w23) := ⟨(by rw [hw]; exact (by repeat (first | (with_reducible first | exact HB.out | apply below_alloc | apply pw_below_drewN | apply below_drew1 | refine below_set ?_ GE113.out | refine below_set ?_ GE122.out) | exact HB.out)))⟩; clear hw; clear HO_5; clear BK113; clear BK122; clear HB; have HO_5 := n0_; have BK113 := n1_; have BK122 := n2_; have HB := n3_; clear n0_ n1_ n2_ n3_; have hcz24_0 : w23.cell? ⟨gb122, 0, none⟩ = some (.int .u64 ((rd_T47 l0_1 x28_1).f0)) := (blk_cell BK122.out 0).trans rfl; have hcz24_1 : w23.cell? ⟨gb122, 1, none⟩ = some (.slice A121_1 ((rd_T47 l0_1 x28_1).f1).length c121_1) := (blk_cell BK122.out 1).trans rfl; have hfz24_0 := blk_frozen BK122.out 0; have hfz24_1 := blk_frozen BK122.out 1; obtain ⟨Ao25, co25, eo25⟩ := Kd.R_slice HO_5.out; subst eo25) | ((with_reducible refine gate_callee (f := 32) rfl ?_); refine goesL_ (some 36) rfl rfl Try.func32 (by kernel_rfl) rfl #[.slice Ao25 x5_1.length co25, .int .u64 (Go.bits .and .u64 ((rd_T47 l0_1 x28_1).f0) 4294967295)] rfl (by (try simp only [List.map_toArray, List.map_cons, List.map_nil]); first | done | rfl | (simp only [List.length_drop, List.length_take]; rfl) | (rw [IntKind.wrap_u64, Int.emod_eq_of_lt (by omega) (by omega)]; rfl)) ?_; (with_reducible refine (shift_PutUint.calls k1 (fun k_ => some k_ = (.slice Ao25 x5_1.length co25 : Value).ownBlock) (.slice Ao25 x5_1.length co25) x5_1 (Go.bits .and .u64 ((rd_T47 l0_1 x28_1).f0) 4294967295) t123 w _ ?side1 ?side2 A18.out).mono ?_); (case side1 => repeat (first | (with_reducible first | exact HB.out | apply below_alloc | apply pw_below_drewN | apply below_drew1 | refine below_set ?_ GE113.out | refine below_set ?_ GE122.out) | exact HB.out)); (case side2 => exact Kd.R_tight rfl HO_5.out); rintro e w26 ⟨v124, rfl, ho0, hb, hkp⟩; refine ⟨_, rfl, ?_⟩; have n0_ := Aside0.mk (blk_kept (by (with_reducible repeat (first | refine blk_drewN ?_ _ | refine blk_drew ?_ | refine blk_alloc ?_ _)); exact BK113.out) hkp (fun hs_ => (fun e_ => (Kd.R_ne HO_5.out BK113.out (by decide)) e_) hs_)); have n1_ := Aside0.mk (blk_kept (by (with_reducible repeat (first | refine blk_drewN ?_ _ | refine blk_drew ?_ | refine blk_alloc ?_ _)); exact BK122.out) hkp (fun hs_ => (fun e_ => (Kd.R_ne HO_5.out BK122.out (by decide)) e_) hs_)); have n2_ := Aside0.mk (Kd.R_mono (ok' := fun k_ => True) ho0 (fun k_ hk_ => trivial)); have n3_ := Aside0.mk (hb); clear BK113; clear BK122; clear HB; clear HO_5; have BK113 := n0_; have BK122 := n1_; have HO125 := n2_; have HB := n3_; clear n0_ n1_ n2_ n3_; (try clear hb); (try clear hkp); (try clear ho0); have hcz27_0 : w26.cell? ⟨gb122, 0, none⟩ = some (.int .u64 ((rd_T47 l0_1 x28_1).f0)) := (blk_cell BK122.out 0).trans rfl; have hcz27_1 : w26.cell? ⟨gb122, 1, none⟩ = some (.slice A121_1 ((rd_T47 l0_1 x28_1).f1).length c121_1) := (blk_cell BK122.out 1).trans rfl; have hfz27_0 := blk_frozen BK122.out 0; have hfz27_1 := blk_frozen BK122.out 1; obtain ⟨Ao28, co28, eo28⟩ := Kd.R_slice HO125.out; subst eo28) | ((with_reducible refine gate_callee (f := 32) rfl ?_); refine goesL_ (some 42) rfl rfl Try.func32 (by kernel_rfl) rfl #[.slice Ao28 t123.length co28, .int .u64 (IntKind.u64.wrap ((((rd_T47 l0_1 x28_1).f1).length : Int)))] rfl (by (try simp only [List.map_toArray, List.map_cons, List.map_nil]); first | done | rfl | (simp only [List.length_drop, List.length_take]; rfl) | (rw [IntKind.wrap_u64, Int.emod_eq_of_lt (by omega) (by omega)]; rfl)) ?_; (with_reducible refine (shift_PutUint.calls k1 (fun k_ => some k_ = (.slice Ao28 t123.length co28 : Value).ownBlock) (.slice Ao28 t123.length co28) t123 (IntKind.u64.wrap ((((rd_T47 l0_1 x28_1).f1).length : Int))) t126 w _ ?side1 ?side2 A19.out).mono ?_); (case side1 => repeat (first | (with_reducible first | exact HB.out | apply below_alloc | apply pw_below_drewN | apply below_drew1 | refine below_set ?_ GE113.out | refine below_set ?_ GE122.out) | exact HB.out)); (case side2 => exact Kd.R_tight rfl HO125.out); rintro e w29 ⟨v127, rfl, ho0, hb, hkp⟩; refine ⟨_, rfl, ?_⟩; have n0_ := Aside0.mk (blk_kept (by (with_reducible repeat (first | refine blk_drewN ?_ _ | refine blk_drew ?_ | refine blk_alloc ?_ _)); exact BK113.out) hkp (fun hs_ => (fun e_ => (Kd.R_ne HO125.out BK113.out (by decide)) e_) hs_)); have n1_ := Aside0.mk (blk_kept (by (with_reducible repeat (first | refine blk_drewN ?_ _ | refine blk_drew ?_ | refine blk_alloc ?_ _)); exact BK122.out) hkp (fun hs_ => (fun e_ => (Kd.R_ne HO125.out BK122.out (by decide)) e_) hs_)); have n2_ := Aside0.mk (Kd.R_mono (ok' := fun k_ => True) ho0 (fun k_ hk_ => trivial)); have n3_ := Aside0.mk (hb); clear BK113; clear BK122; clear HB; clear HO125; have BK113 := n0_; have BK122 := n1_; have HO128 := n2_; have HB := n3_; clear n0_ n1_ n2_ n3_; (try clear hb); (try clear hkp); (try clear ho0); have hcz30_0 : w29.cell? ⟨gb122, 0, none⟩ = some (.int .u64 ((rd_T47 l0_1 x28_1).f0)) := (blk_cell BK122.out 0).trans rfl; have hcz30_1 : w29.cell? ⟨gb122, 1, none⟩ = some (.slice A121_1 ((rd_T47 l0_1 x28_1).f1).length c121_1) := (blk_cell BK122.out 1).trans rfl; have hfz30_0 := blk_frozen BK122.out 0; have hfz30_1 := blk_frozen BK122.out 1))
              go_loopg [5, 46] k1 (fun kq v5 v46 w' => ∃ (x5_2 : List Int) (x46_2 : Int), v46 = .int .i64 x46_2 ∧ Aside0 (codec_Encode.l1 kq x5_2 l0_1 (l0_1.length : Int) x28_1 ((rd_T47 l0_1 x28_1).f1) (((rd_T47 l0_1 x28_1).f1).length : Int) x46_2 = some (r1, r2)) ∧ Aside0 (kq ≤ k1) ∧ Aside0 (Kd.R (Kd.int .u8) 5 w' w.heap.size (fun _ => True) v5 x5_2) ∧ Aside0 (w'.heap[gb113]? = some (.cells #[.int .u32 a0_0, (.slice (some ad121) l0_1.length c0_1)] 25 (0, 0))) ∧ Aside0 (w'.heap[gb122]? = some (.cells #[.int .u64 ((rd_T47 l0_1 x28_1).f0), (.slice A121_1 ((rd_T47 l0_1 x28_1).f1).length c121_1)] 47 (0, 0))) ∧ Aside0 (Below w.heap.size w w'))
              case atStart => exact ⟨(t126), (0), (by first | rfl | (simp; done) | (simp [*]; done)), H', ⟨Nat.le_refl _⟩, ⟨by (with_reducible repeat (first | apply Kd.R_alloc | apply Kd.R_drewN | apply Kd.R_drew)); exact HO128.out⟩, ⟨by (with_reducible repeat (first | refine blk_drewN ?_ _ | refine blk_drew ?_ | refine blk_alloc ?_ _)); exact BK113.out⟩, ⟨by (with_reducible repeat (first | refine blk_drewN ?_ _ | refine blk_drew ?_ | refine blk_alloc ?_ _)); exact BK122.out⟩, ⟨by repeat (first | (with_reducible first | exact HB.out | apply below_alloc | apply pw_below_drewN | apply below_drew1 | refine below_set ?_ GE113.out | refine below_set ?_ GE122.out) | exact HB.out)⟩⟩
              case round =>
                clear H'
                try clear c1
                try clear p1
                try clear q1
                try clear hx1
                try clear c2
                try clear p2
                try clear c3
                try clear c3b0
                try clear c3b1
                try clear c12
                try clear p12
                try clear q12
                try clear hx12
                try clear c15
                try clear c15b0
                try clear c16
                try clear c16b0
                try clear c17
                try clear c17b0
                try clear c20
                try clear c21
                try clear hcz11_0
                try clear hcz11_1
                try clear hcz14_0
                try clear hcz14_1
                try clear hcz22_0
                try clear hcz22_1
                try clear hcz24_0
                try clear hcz24_1
                try clear hcz27_0
                try clear hcz27_1
                try clear hcz30_0
                try clear hcz30_1
                try clear hcz7_0
                try clear hcz7_1
                try clear hcz9_0
                try clear hcz9_1
                try clear hfz11_0
                try clear hfz11_1
                try clear hfz14_0
                try clear hfz14_1
                try clear hfz22_0
                try clear hfz22_1
                try clear hfz24_0
                try clear hfz24_1
                try clear hfz27_0
                try clear hfz27_1
                try clear hfz30_0
                try clear hfz30_1
                try clear hfz7_0
                try clear hfz7_1
                try clear hfz9_0
                try clear hfz9_1
                try clear hx121_0
                try clear hx121_1
                try clear p121
                try clear p2
                try clear q121
                obtain ⟨x5_2, x46_2, rfl, HA, HK2, HO_5, BK113, BK122, HB⟩ := hrel
                cases gk with
                | zero => exact absurd HA.out (by simp [codec_Encode.l1])
                | succ k2 =>
                  have H := HA.out
                  clear HA
                  simp only [codec_Encode.l1] at H
                  by_cases c31 : x46_2 < (((rd_T47 l0_1 x28_1).f1).length : Int)
                  · rw [if_pos c31] at H
                    have c31b0 : decide (x46_2 < (((rd_T47 l0_1 x28_1).f1).length : Int)) = true := decide_eq_true c31
                    clear c31
                    by_cases c32 : 0 ≤ x46_2
                    · rw [if_pos c32] at H
                      have c32b0 : decide (0 ≤ x46_2) = true := decide_eq_true c32
                      clear c32
                      by_cases c33 : x46_2 < (((rd_T47 l0_1 x28_1).f1).length : Int)
                      · rw [if_pos c33] at H
                        have c33b0 : decide (x46_2 < (((rd_T47 l0_1 x28_1).f1).length : Int)) = true := decide_eq_true c33
                        clear c33
                        by_cases c34 : x5_2.length < 140737488355328
                        · rw [if_pos c34] at H
                          have LMc34 := Aside0.mk c34
                          clear c34
                          obtain ⟨y131, hy131⟩ : ∃ y_ : List Int, y_ = (x5_2 ++ [(rd_T50 ((rd_T47 l0_1 x28_1).f1) x46_2).f0.f0]) := ⟨_, rfl⟩
                          replace H : ((codec_text.f k2 y131 ((rd_T50 ((rd_T47 l0_1 x28_1).f1) x46_2).f0.f1)).bind fun t134 => (if (rd_T50 ((rd_T47 l0_1 x28_1).f1) x46_2).f1 = true then (if t134.length < 140737488355328 then (codec_Encode.l1 k2 (t134 ++ [0]) l0_1 (l0_1.length : Int) x28_1 ((rd_T47 l0_1 x28_1).f1) (((rd_T47 l0_1 x28_1).f1).length : Int) (wrap64 (x46_2 + 1))) else (none)) else ((shift_PutUint.f k2 t134 (IntKind.u64.wrap ((IntKind.u64.wrap ((((rd_T50 ((rd_T47 l0_1 x28_1).f1) x46_2).f2).size : Int))) + 1))).bind fun t140 => (if t140.length + ((rd_T50 ((rd_T47 l0_1 x28_1).f1) x46_2).f2).size < 140737488355328 then (codec_Encode.l1 k2 (t140 ++ bytesOf ((rd_T50 ((rd_T47 l0_1 x28_1).f1) x46_2).f2)) l0_1 (l0_1.length : Int) x28_1 ((rd_T47 l0_1 x28_1).f1) (((rd_T47 l0_1 x28_1).f1).length : Int) (wrap64 (x46_2 + 1))) else (none))))) = some (r1, r2) := by first | (rw [hy131]; with_reducible exact H) | (have H2_ := (Option.bind_some _ _).symm.trans H; rw [hy131]; with_reducible exact H2_) | (have H2_ := (Option.bind_some _ _).symm.trans H; with_reducible exact H2_) | with_reducible exact H | (rw [hy131]; exact H) | exact H
                          have Ny131 := Aside0.mk hy131
                          clear hy131
                          replace H := Option.bind_eq_some_iff.mp H
                          obtain ⟨t134, A350, H⟩ := H
                          replace H : (if (rd_T50 ((rd_T47 l0_1 x28_1).f1) x46_2).f1 = true then (if t134.length < 140737488355328 then (codec_Encode.l1 k2 (t134 ++ [0]) l0_1 (l0_1.length : Int) x28_1 ((rd_T47 l0_1 x28_1).f1) (((rd_T47 l0_1 x28_1).f1).length : Int) (wrap64 (x46_2 + 1))) else (none)) else ((shift_PutUint.f k2 t134 (IntKind.u64.wrap ((IntKind.u64.wrap ((((rd_T50 ((rd_T47 l0_1 x28_1).f1) x46_2).f2).size : Int))) + 1))).bind fun t140 => (if t140.length + ((rd_T50 ((rd_T47 l0_1 x28_1).f1) x46_2).f2).size < 140737488355328 then (codec_Encode.l1 k2 (t140 ++ bytesOf ((rd_T50 ((rd_T47 l0_1 x28_1).f1) x46_2).f2)) l0_1 (l0_1.length : Int) x28_1 ((rd_T47 l0_1 x28_1).f1) (((rd_T47 l0_1 x28_1).f1).length : Int) (wrap64 (x46_2 + 1))) else (none)))) = some (r1, r2) := H
                          have A35 := Aside0.mk A350
                          clear A350
                          obtain ⟨bq36, hbq36⟩ : ∃ b_ : Bool, b_ = ((rd_T50 ((rd_T47 l0_1 x28_1).f1) x46_2).f1) := ⟨_, rfl⟩
                          replace H : (if bq36 = true then (if t134.length < 140737488355328 then (codec_Encode.l1 k2 (t134 ++ [0]) l0_1 (l0_1.length : Int) x28_1 ((rd_T47 l0_1 x28_1).f1) (((rd_T47 l0_1 x28_1).f1).length : Int) (wrap64 (x46_2 + 1))) else (none)) else ((shift_PutUint.f k2 t134 (IntKind.u64.wrap ((IntKind.u64.wrap ((((rd_T50 ((rd_T47 l0_1 x28_1).f1) x46_2).f2).size : Int))) + 1))).bind fun t140 => (if t140.length + ((rd_T50 ((rd_T47 l0_1 x28_1).f1) x46_2).f2).size < 140737488355328 then (codec_Encode.l1 k2 (t140 ++ bytesOf ((rd_T50 ((rd_T47 l0_1 x28_1).f1) x46_2).f2)) l0_1 (l0_1.length : Int) x28_1 ((rd_T47 l0_1 x28_1).f1) (((rd_T47 l0_1 x28_1).f1).length : Int) (wrap64 (x46_2 + 1))) else (none)))) = some (r1, r2) := by rw [← hbq36] at H; exact H
                          have Nbq36 := Aside0.mk hbq36
                          clear hbq36
                          by_cases c37 : bq36 = true
                          · subst c37
                            have H1 : (if t134.length < 140737488355328 then (codec_Encode.l1 k2 (t134 ++ [0]) l0_1 (l0_1.length : Int) x28_1 ((rd_T47 l0_1 x28_1).f1) (((rd_T47 l0_1 x28_1).f1).length : Int) (wrap64 (x46_2 + 1))) else (none)) = some (r1, r2) := by rw [if_pos rfl] at H; exact H
                            clear H
                            have H := H1
                            clear H1
                            by_cases c38 : t134.length < 140737488355328
                            · rw [if_pos c38] at H
                              have LMc38 := Aside0.mk c38
                              clear c38
                              obtain ⟨y137, hy137⟩ : ∃ y_ : List Int, y_ = (t134 ++ [0]) := ⟨_, rfl⟩
                              replace H : (codec_Encode.l1 k2 y137 l0_1 (l0_1.length : Int) x28_1 ((rd_T47 l0_1 x28_1).f1) (((rd_T47 l0_1 x28_1).f1).length : Int) (wrap64 (x46_2 + 1))) = some (r1, r2) := by first | (rw [hy137]; with_reducible exact H) | (have H2_ := (Option.bind_some _ _).symm.trans H; rw [hy137]; with_reducible exact H2_) | (have H2_ := (Option.bind_some _ _).symm.trans H; with_reducible exact H2_) | with_reducible exact H | (rw [hy137]; exact H) | exact H
                              have Ny137 := Aside0.mk hy137
                              clear hy137
                              have H' := Aside0.mk H
                              clear H
                              have p129 : 0 ≤ (x46_2 : Int) := of_decide_eq_true (by first | (with_reducible assumption) | assumption)
                              have q129 : x46_2 < (((rd_T47 l0_1 x28_1).f1).length : Int) := of_decide_eq_true (by first | (with_reducible assumption) | assumption)
                              obtain ⟨ad129, e129, hx129_0, hx129_1, hx129_2, hx129_3⟩ := at_T50 HR121_1.out x46_2 p129 q129
                              (try rw [← Nbq36.out] at hx129_2)
                              cases e129
                              replace hx129_0 := (HB.out.cell (World.block_lt_of_cell? w _ hx129_0)).trans hx129_0
                              replace hx129_1 := (HB.out.cell (World.block_lt_of_cell? w _ hx129_1)).trans hx129_1
                              replace hx129_2 := (HB.out.cell (World.block_lt_of_cell? w _ hx129_2)).trans hx129_2
                              replace hx129_3 := (HB.out.cell (World.block_lt_of_cell? w _ hx129_3)).trans hx129_3
                              replace p129 := eq_true p129
                              replace q129 := eq_true q129
                              try go_wp2_with (first | ((with_reducible refine gate_dst (N := 9) rfl ?_); refine box_event ?hg (N := 9) ?hd (cs := #[.int .u8 0, .string (⟨#[]⟩ : ByteArray), .bool false, .string (⟨#[]⟩ : ByteArray)]) (t := 50) ?hr ?_; (case hd => rfl); (case hg => rfl); (case hr => first | (go_simp; done) | (go_simp; rfl)); intro gb130 hg w39 hbox hb; have n0_ := Aside0.mk (Kd.R_below (by (with_reducible repeat (first | apply Kd.R_alloc | apply Kd.R_drewN | apply Kd.R_drew)); exact HO_5.out) hb); have n1_ := Aside0.mk (blk_below (g := gb113) (o := .cells #[.int .u32 a0_0, .slice (some ad121) l0_1.length c0_1] 25 (0, 0)) (by (with_reducible repeat (first | refine blk_drewN ?_ _ | refine blk_drew ?_ | refine blk_alloc ?_ _)); exact BK113.out) hb); have n2_ := Aside0.mk (blk_below (g := gb122) (o := .cells #[.int .u64 ((rd_T47 l0_1 x28_1).f0), .slice (some ad129) ((rd_T47 l0_1 x28_1).f1).length c121_1] 47 (0, 0)) (by (with_reducible repeat (first | refine blk_drewN ?_ _ | refine blk_drew ?_ | refine blk_alloc ?_ _)); exact BK122.out) hb); have n3_ := Aside0.mk (below_step (by repeat (first | (with_reducible first | exact HB.out | apply below_alloc | apply pw_below_drewN | apply below_drew1 | refine below_set ?_ GE113.out | refine below_set ?_ GE122.out) | exact HB.out)) hb); have n4_ := Aside0.mk (hbox); have n5_ := Aside0.mk ((by rw [hg]; exact (below_size (by repeat (first | (with_reducible first | exact HB.out | apply below_alloc | apply pw_below_drewN | apply below_drew1 | refine below_set ?_ GE113.out | refine below_set ?_ GE122.out) | exact HB.out))) : w.heap.size ≤ gb130)); have n6_ := Aside0.mk ((by rw [hg]; exact (below_size (by repeat (first | (with_reducible first | exact HB.out | apply below_alloc | apply pw_below_drewN | apply below_drew1 | refine below_set ?_ GE113.out | refine below_set ?_ GE122.out) | exact HB.out))) : w.heap.size ≤ gb130)); have n7_ := Aside0.mk ((by rw [hg]; exact Nat.ne_of_lt (blk_lt (g := gb113) (o := .cells #[.int .u32 a0_0, .slice (some ad121) l0_1.length c0_1] 25 (0, 0)) (by (with_reducible repeat (first | refine blk_drewN ?_ _ | refine blk_drew ?_ | refine blk_alloc ?_ _)); exact BK113.out)) : gb113 ≠ gb130)); have n8_ := Aside0.mk ((by rw [hg]; exact Nat.ne_of_gt (blk_lt (g := gb113) (o := .cells #[.int .u32 a0_0, .slice (some ad121) l0_1.length c0_1] 25 (0, 0)) (by (with_reducible repeat (first | refine blk_drewN ?_ _ | refine blk_drew ?_ | refine blk_alloc ?_ _)); exact BK113.out)) : gb130 ≠ gb113)); have n9_ := Aside0.mk ((by rw [hg]; exact Nat.ne_of_lt (blk_lt (g := gb122) (o := .cells #[.int .u64 ((rd_T47 l0_1 x28_1).f0), .slice (some ad129) ((rd_T47 l0_1 x28_1).f1).length c121_1] 47 (0, 0)) (by (with_reducible repeat (first | refine blk_drewN ?_ _ | refine blk_drew ?_ | refine blk_alloc ?_ _)); exact BK122.out)) : gb122 ≠ gb130)); have n10_ := Aside0.mk ((by rw [hg]; exact Nat.ne_of_gt (blk_lt (g := gb122) (o := .cells #[.int .u64 ((rd_T47 l0_1 x28_1).f0), .slice (some ad129) ((rd_T47 l0_1 x28_1).f1).length c121_1] 47 (0, 0)) (by (with_reducible repeat (first | refine blk_drewN ?_ _ | refine blk_drew ?_ | refine blk_alloc ?_ _)); exact BK122.out)) : gb130 ≠ gb122)); clear HO_5; clear BK113; clear BK122; clear HB; have HO_5 := n0_; have BK113 := n1_; have BK122 := n2_; have HB := n3_; have BK130 := n4_; have GW130 := n5_; have GE130 := n6_; have NB113_130 := n7_; have NB130_113 := n8_; have NB122_130 := n9_; have NB130_122 := n10_; clear n0_ n1_ n2_ n3_ n4_ n5_ n6_ n7_ n8_ n9_ n10_; clear hb hbox hg; have hnb40 := NB130_113.out; have hnc40 := NB113_130.out; have hnb41 := NB130_122.out; have hnc41 := NB122_130.out; have hcz42_0 : w39.cell? ⟨gb130, 0, none⟩ = some (.int .u8 0) := (blk_cell BK130.out 0).trans rfl; have hcz42_1 : w39.cell? ⟨gb130, 1, none⟩ = some (.string (⟨#[]⟩ : ByteArray)) := (blk_cell BK130.out 1).trans rfl; have hcz42_2 : w39.cell? ⟨gb130, 2, none⟩ = some (.bool false) := (blk_cell BK130.out 2).trans rfl; have hcz42_3 : w39.cell? ⟨gb130, 3, none⟩ = some (.string (⟨#[]⟩ : ByteArray)) := (blk_cell BK130.out 3).trans rfl; have hfz42_0 := blk_frozen BK130.out 0; have hfz42_1 := blk_frozen BK130.out 1; have hfz42_2 := blk_frozen BK130.out 2; have hfz42_3 := blk_frozen BK130.out 3))
                              have n0_ : Aside0 (Kd.R (Kd.int .u8) 5 ((((w39.setCell ⟨gb130, 0, none⟩ (.int .u8 ((rd_T50 ((rd_T47 l0_1 x28_1).f1) x46_2).f0.f0))).setCell ⟨gb130, 1, none⟩ (.string ((rd_T50 ((rd_T47 l0_1 x28_1).f1) x46_2).f0.f1))).setCell ⟨gb130, 2, none⟩ (.bool true)).setCell ⟨gb130, 3, none⟩ (.string ((rd_T50 ((rd_T47 l0_1 x28_1).f1) x46_2).f2))) w.heap.size (fun _ => True) u5 x5_2) := ⟨by (with_reducible repeat (first | apply Kd.R_alloc | apply Kd.R_drewN | apply Kd.R_drew)); exact Kd.R_mono (Kd.R_far (p := ⟨gb130, 3, none⟩) (Kd.R_far (p := ⟨gb130, 2, none⟩) (Kd.R_far (p := ⟨gb130, 1, none⟩) (Kd.R_far (p := ⟨gb130, 0, none⟩) (Kd.R_types HO_5.out BK130.out (by decide)) (fun _ hk => hk.2) (.int .u8 ((rd_T50 ((rd_T47 l0_1 x28_1).f1) x46_2).f0.f0))) (fun _ hk => hk.2) (.string ((rd_T50 ((rd_T47 l0_1 x28_1).f1) x46_2).f0.f1))) (fun _ hk => hk.2) (.bool true)) (fun _ hk => hk.2) (.string ((rd_T50 ((rd_T47 l0_1 x28_1).f1) x46_2).f2))) (fun _ hk => trivial)⟩
                              have n1_ : Aside0 (((((w39.setCell ⟨gb130, 0, none⟩ (.int .u8 ((rd_T50 ((rd_T47 l0_1 x28_1).f1) x46_2).f0.f0))).setCell ⟨gb130, 1, none⟩ (.string ((rd_T50 ((rd_T47 l0_1 x28_1).f1) x46_2).f0.f1))).setCell ⟨gb130, 2, none⟩ (.bool true)).setCell ⟨gb130, 3, none⟩ (.string ((rd_T50 ((rd_T47 l0_1 x28_1).f1) x46_2).f2))).heap[gb113]? = some (.cells #[.int .u32 a0_0, .slice (some ad121) l0_1.length c0_1] 25 (0, 0))) := ⟨by (with_reducible repeat (first | refine blk_drewN ?_ _ | refine blk_drew ?_ | refine blk_alloc ?_ _)); refine blk_far ?_ NB113_130.out _; (with_reducible repeat (first | refine blk_drewN ?_ _ | refine blk_drew ?_ | refine blk_alloc ?_ _)); refine blk_far ?_ NB113_130.out _; (with_reducible repeat (first | refine blk_drewN ?_ _ | refine blk_drew ?_ | refine blk_alloc ?_ _)); refine blk_far ?_ NB113_130.out _; (with_reducible repeat (first | refine blk_drewN ?_ _ | refine blk_drew ?_ | refine blk_alloc ?_ _)); refine blk_far ?_ NB113_130.out _; (with_reducible repeat (first | refine blk_drewN ?_ _ | refine blk_drew ?_ | refine blk_alloc ?_ _)); exact BK113.out⟩
                              have n2_ : Aside0 (((((w39.setCell ⟨gb130, 0, none⟩ (.int .u8 ((rd_T50 ((rd_T47 l0_1 x28_1).f1) x46_2).f0.f0))).setCell ⟨gb130, 1, none⟩ (.string ((rd_T50 ((rd_T47 l0_1 x28_1).f1) x46_2).f0.f1))).setCell ⟨gb130, 2, none⟩ (.bool true)).setCell ⟨gb130, 3, none⟩ (.string ((rd_T50 ((rd_T47 l0_1 x28_1).f1) x46_2).f2))).heap[gb122]? = some (.cells #[.int .u64 ((rd_T47 l0_1 x28_1).f0), .slice (some ad129) ((rd_T47 l0_1 x28_1).f1).length c121_1] 47 (0, 0))) := ⟨by (with_reducible repeat (first | refine blk_drewN ?_ _ | refine blk_drew ?_ | refine blk_alloc ?_ _)); refine blk_far ?_ NB122_130.out _; (with_reducible repeat (first | refine blk_drewN ?_ _ | refine blk_drew ?_ | refine blk_alloc ?_ _)); refine blk_far ?_ NB122_130.out _; (with_reducible repeat (first | refine blk_drewN ?_ _ | refine blk_drew ?_ | refine blk_alloc ?_ _)); refine blk_far ?_ NB122_130.out _; (with_reducible repeat (first | refine blk_drewN ?_ _ | refine blk_drew ?_ | refine blk_alloc ?_ _)); refine blk_far ?_ NB122_130.out _; (with_reducible repeat (first | refine blk_drewN ?_ _ | refine blk_drew ?_ | refine blk_alloc ?_ _)); exact BK122.out⟩
                              have n3_ : Aside0 (((((w39.setCell ⟨gb130, 0, none⟩ (.int .u8 ((rd_T50 ((rd_T47 l0_1 x28_1).f1) x46_2).f0.f0))).setCell ⟨gb130, 1, none⟩ (.string ((rd_T50 ((rd_T47 l0_1 x28_1).f1) x46_2).f0.f1))).setCell ⟨gb130, 2, none⟩ (.bool true)).setCell ⟨gb130, 3, none⟩ (.string ((rd_T50 ((rd_T47 l0_1 x28_1).f1) x46_2).f2))).heap[gb130]? = some (.cells #[.int .u8 ((rd_T50 ((rd_T47 l0_1 x28_1).f1) x46_2).f0.f0), .string ((rd_T50 ((rd_T47 l0_1 x28_1).f1) x46_2).f0.f1), .bool true, .string ((rd_T50 ((rd_T47 l0_1 x28_1).f1) x46_2).f2)] 50 (0, 0))) := ⟨by (with_reducible repeat (first | refine blk_drewN ?_ _ | refine blk_drew ?_ | refine blk_alloc ?_ _)); refine blk_put (cs := #[.int .u8 ((rd_T50 ((rd_T47 l0_1 x28_1).f1) x46_2).f0.f0), .string ((rd_T50 ((rd_T47 l0_1 x28_1).f1) x46_2).f0.f1), .bool true, .string (⟨#[]⟩ : ByteArray)]) ?_ 3 _ rfl; (with_reducible repeat (first | refine blk_drewN ?_ _ | refine blk_drew ?_ | refine blk_alloc ?_ _)); refine blk_put (cs := #[.int .u8 ((rd_T50 ((rd_T47 l0_1 x28_1).f1) x46_2).f0.f0), .string ((rd_T50 ((rd_T47 l0_1 x28_1).f1) x46_2).f0.f1), .bool false, .string (⟨#[]⟩ : ByteArray)]) ?_ 2 _ rfl; (with_reducible repeat (first | refine blk_drewN ?_ _ | refine blk_drew ?_ | refine blk_alloc ?_ _)); refine blk_put (cs := #[.int .u8 ((rd_T50 ((rd_T47 l0_1 x28_1).f1) x46_2).f0.f0), .string (⟨#[]⟩ : ByteArray), .bool false, .string (⟨#[]⟩ : ByteArray)]) ?_ 1 _ rfl; (with_reducible repeat (first | refine blk_drewN ?_ _ | refine blk_drew ?_ | refine blk_alloc ?_ _)); refine blk_put (cs := #[.int .u8 0, .string (⟨#[]⟩ : ByteArray), .bool false, .string (⟨#[]⟩ : ByteArray)]) ?_ 0 _ rfl; (with_reducible repeat (first | refine blk_drewN ?_ _ | refine blk_drew ?_ | refine blk_alloc ?_ _)); exact BK130.out⟩
                              have n4_ : Aside0 (Below w.heap.size w ((((w39.setCell ⟨gb130, 0, none⟩ (.int .u8 ((rd_T50 ((rd_T47 l0_1 x28_1).f1) x46_2).f0.f0))).setCell ⟨gb130, 1, none⟩ (.string ((rd_T50 ((rd_T47 l0_1 x28_1).f1) x46_2).f0.f1))).setCell ⟨gb130, 2, none⟩ (.bool true)).setCell ⟨gb130, 3, none⟩ (.string ((rd_T50 ((rd_T47 l0_1 x28_1).f1) x46_2).f2)))) := ⟨by repeat (first | (with_reducible first | exact HB.out | apply below_alloc | apply pw_below_drewN | apply below_drew1 | refine below_set ?_ GE113.out | refine below_set ?_ GE122.out | refine below_set ?_ GE130.out) | exact HB.out)⟩
                              (try clear HO_5)
                              (try clear BK113)
                              (try clear BK122)
                              (try clear BK130)
                              (try clear HB)
                              generalize ((((w39.setCell ⟨gb130, 0, none⟩ (.int .u8 ((rd_T50 ((rd_T47 l0_1 x28_1).f1) x46_2).f0.f0))).setCell ⟨gb130, 1, none⟩ (.string ((rd_T50 ((rd_T47 l0_1 x28_1).f1) x46_2).f0.f1))).setCell ⟨gb130, 2, none⟩ (.bool true)).setCell ⟨gb130, 3, none⟩ (.string ((rd_T50 ((rd_T47 l0_1 x28_1).f1) x46_2).f2))) = w43 at n0_ n1_ n2_ n3_ n4_ ⊢
                              have HO_5 := n0_
                              have BK113 := n1_
                              have BK122 := n2_
                              have BK130 := n3_
                              have HB := n4_
                              clear n0_ n1_ n2_ n3_ n4_
                              have n0_ := Aside0.mk (Kd.R_drew HO_5.out)
                              have n1_ := Aside0.mk (blk_drew BK113.out)
                              have n2_ := Aside0.mk (blk_drew BK122.out)
                              have n3_ := Aside0.mk (blk_drew BK130.out)
                              have n4_ := Aside0.mk (below_drew1 HB.out)
                              clear HO_5
                              clear BK113
                              clear BK122
                              clear BK130
                              clear HB
                              have HO_5 := n0_
                              have BK113 := n1_
                              have BK122 := n2_
                              have BK130 := n3_
                              have HB := n4_
                              clear n0_ n1_ n2_ n3_ n4_
                              refine start_ (n := 11) (S := fun w' => w'.cell? ⟨gb130, 0, none⟩ = some (.int .u8 ((rd_T50 ((rd_T47 l0_1 x28_1).f1) x46_2).f0.f0)) ∧ w'.cell? ⟨gb130, 1, none⟩ = some (.string ((rd_T50 ((rd_T47 l0_1 x28_1).f1) x46_2).f0.f1)) ∧ w'.cell? ⟨gb130, 2, none⟩ = some (.bool true) ∧ w'.cell? ⟨gb130, 3, none⟩ = some (.string ((rd_T50 ((rd_T47 l0_1 x28_1).f1) x46_2).f2))) (ds := []) #[false, false, false, false, false, false, false, false, false, false, false] (by kernel_rfl) rfl rfl ⟨(blk_cell BK130.out 0).trans rfl, (blk_cell BK130.out 1).trans rfl, (blk_cell BK130.out 2).trans rfl, (blk_cell BK130.out 3).trans rfl⟩ (fun hHeld => ?_); refine with_tabW codec_Encode.tab14 codec_Encode.bits14 (fun HT_ HW_ => ?_)
                              generalize w43.drew = w44 at HO_5 BK113 BK122 BK130 HB hHeld ⊢
                              refine pure_ (i := 0) (N := some 50) (v := ?_) (a' := ?_) #[true, false, false, false, false, false, false, false, false, false, false] rfl rfl (any_of HT_.out (by kernel_rfl)) (fun _ _ _ h => h) (Or.inl ⟨by rfl, ?_⟩) ?_ ?_
                              rotate_left
                              · intro w'
                                go_simp
                                with_reducible rfl
                              rotate_left
                              · simp only [Act.put, List.setIfInBounds_toArray, List.set_cons_zero, List.set_cons_succ, i64_w, i32_w]
                                rfl
                              refine pure_ (i := 1) (N := some 51) (v := ?_) (a' := ?_) #[true, true, false, false, false, false, false, false, false, false, false] rfl rfl (any_of HT_.out (by kernel_rfl)) (fun _ _ _ h => h) (Or.inl ⟨by rfl, ?_⟩) ?_ ?_
                              rotate_left
                              · intro w'
                                go_simp
                                with_reducible rfl
                              rotate_left
                              · simp only [Act.put, List.setIfInBounds_toArray, List.set_cons_zero, List.set_cons_succ, i64_w, i32_w]
                                rfl
                              refine pure_ (i := 2) (N := some 52) (v := ?_) (a' := ?_) #[true, true, true, false, false, false, false, false, false, false, false] rfl rfl (any_of HT_.out (by kernel_rfl)) (fun _ _ _ h => h) (Or.inl ⟨by rfl, ?_⟩) ?_ ?_
                              rotate_left
                              · intro w'
                                go_simp
                                with_reducible rfl
                              rotate_left
                              · simp only [Act.put, List.setIfInBounds_toArray, List.set_cons_zero, List.set_cons_succ, i64_w, i32_w]
                                rfl
                              refine pure_ (i := 6) (N := some 56) (v := ?_) (a' := ?_) #[true, true, true, false, false, false, true, false, false, false, false] rfl rfl (any_of HT_.out (by kernel_rfl)) (fun _ _ _ h => h) (Or.inl ⟨by rfl, ?_⟩) ?_ ?_
                              rotate_left
                              · intro w'
                                go_simp
                                with_reducible rfl
                              rotate_left
                              · simp only [Act.put, List.setIfInBounds_toArray, List.set_cons_zero, List.set_cons_succ, i64_w, i32_w]
                                rfl
                              refine pure_ (i := 7) (N := some 57) (v := ?_) (a' := ?_) #[true, true, true, false, false, false, true, true, false, false, false] rfl rfl (any_of HT_.out (by kernel_rfl)) (fun _ _ _ h => h) (Or.inl ⟨by rfl, ?_⟩) ?_ ?_
                              rotate_left
                              · intro w'
                                go_simp
                                with_reducible rfl
                              rotate_left
                              · simp only [Act.put, List.setIfInBounds_toArray, List.set_cons_zero, List.set_cons_succ, i64_w, i32_w]
                                rfl
                              refine take_ (i := 3) (N := some 53) (v := ?_) (a' := ?_) #[true, true, true, true, false, false, true, true, false, false, false] rfl rfl (take_ofW HT_.out HW_.out (by kernel_rfl)) (fun _ _ _ h => h) (Or.inl ⟨by rfl, ?_⟩) hHeld ?_ ?_
                              rotate_left
                              · rintro w' ⟨s0, s1, s2, s3⟩
                                go_simp
                                with_reducible rfl
                              rotate_left
                              · simp only [Act.put, List.setIfInBounds_toArray, List.set_cons_zero, List.set_cons_succ, i64_w, i32_w]
                                rfl
                              refine take_ (i := 8) (N := some 58) (v := ?_) (a' := ?_) #[true, true, true, true, false, false, true, true, true, false, false] rfl rfl (take_ofW HT_.out HW_.out (by kernel_rfl)) (fun _ _ _ h => h) (Or.inl ⟨by rfl, ?_⟩) hHeld ?_ ?_
                              rotate_left
                              · rintro w' ⟨s0, s1, s2, s3⟩
                                go_simp
                                with_reducible rfl
                              rotate_left
                              · simp only [Act.put, List.setIfInBounds_toArray, List.set_cons_zero, List.set_cons_succ, i64_w, i32_w]
                                rfl
                              refine one_ (i := 4) (N := some 54) #[true, true, true, true, true, false, true, true, true, false, false] rfl rfl (one_of HT_.out (by kernel_rfl)) (by decide) (fun K hK => ?_)
                              refine value_ (w1 := ?_) (v := ?_) (by rfl) rfl ?_ ?_
                              rotate_left 2
                              · go_simp
                                constructor
                                · rfl
                                · rfl
                              refine hK.out _ _ ⟨(blk_cell (blk_alloc BK130.out _) 0).trans rfl, (blk_cell (blk_alloc BK130.out _) 1).trans rfl, (blk_cell (blk_alloc BK130.out _) 2).trans rfl, (blk_cell (blk_alloc BK130.out _) 3).trans rfl⟩ (fun hHeld => ?_)
                              clear hK K
                              refine norm_ (a' := ?_) ?_ ?_
                              rotate_left
                              · show Act.put _ (some 54) _ = _
                                simp only [Act.put, List.setIfInBounds_toArray, List.set_cons_zero, List.set_cons_succ, i64_w, i32_w]
                                rfl
                              refine one_ (i := 5) (N := some 55) #[true, true, true, true, true, true, true, true, true, false, false] rfl rfl (one_of HT_.out (by kernel_rfl)) (by decide) (fun K hK => ?_)
                              refine Kd.R_append_step (Kd.int .u8) (w0 := w) w.heap.size (by rfl) (.tmp 50) (.tmp 54) 32 5 (.int .u8 0) 1 rfl Try.underlying32 info5 rfl (by decide) (by omega) u5 x5_2 ((rd_T50 ((rd_T47 l0_1 x28_1).f1) x46_2).f0.f0) [.int .u8 ((rd_T50 ((rd_T47 l0_1 x28_1).f1) x46_2).f0.f0)] (fun _ => True) (fun _ => False) rfl rfl ?aP (fun _ hk => hk.elim) ?aF ?aO ?aB ?aS ?aL ?_
                              (case aP => exact rfl)
                              (case aB => exact (by repeat (first | (with_reducible first | exact HB.out | apply below_alloc | apply pw_below_drewN | apply below_drew1 | refine below_set ?_ GE113.out | refine below_set ?_ GE122.out | refine below_set ?_ GE130.out) | exact HB.out)))
                              (case aF => exact (fun _ _ => trivial))
                              (case aO => exact (by (with_reducible repeat (first | apply Kd.R_alloc | apply Kd.R_drewN | apply Kd.R_drew)); exact HO_5.out))
                              (case aS => exact (below_size (by repeat (first | (with_reducible first | exact HB.out | apply below_alloc | apply pw_below_drewN | apply below_drew1 | refine below_set ?_ GE113.out | refine below_set ?_ GE122.out | refine below_set ?_ GE130.out) | exact HB.out))))
                              (case aL => have := LMc34.out; omega)
                              intro v132 w45 ho hb hg hat
                              rw [← Ny131.out] at ho
                              have n0_ := Aside0.mk (blk_grown (g := gb113) (o := .cells #[.int .u32 a0_0, .slice (some ad121) l0_1.length c0_1] 25 (0, 0)) (by (with_reducible repeat (first | refine blk_drewN ?_ _ | refine blk_drew ?_ | refine blk_alloc ?_ _)); exact BK113.out) hg (Kd.R_ne HO_5.out BK113.out (by decide)))
                              have n1_ := Aside0.mk (blk_grown (g := gb122) (o := .cells #[.int .u64 ((rd_T47 l0_1 x28_1).f0), .slice (some ad129) ((rd_T47 l0_1 x28_1).f1).length c121_1] 47 (0, 0)) (by (with_reducible repeat (first | refine blk_drewN ?_ _ | refine blk_drew ?_ | refine blk_alloc ?_ _)); exact BK122.out) hg (Kd.R_ne HO_5.out BK122.out (by decide)))
                              have n2_ := Aside0.mk (blk_grown (g := gb130) (o := .cells #[.int .u8 ((rd_T50 ((rd_T47 l0_1 x28_1).f1) x46_2).f0.f0), .string ((rd_T50 ((rd_T47 l0_1 x28_1).f1) x46_2).f0.f1), .bool true, .string ((rd_T50 ((rd_T47 l0_1 x28_1).f1) x46_2).f2)] 50 (0, 0)) (by (with_reducible repeat (first | refine blk_drewN ?_ _ | refine blk_drew ?_ | refine blk_alloc ?_ _)); exact BK130.out) hg (Kd.R_ne HO_5.out BK130.out (by decide)))
                              have n3_ := Aside0.mk (hb)
                              have n4_ := Aside0.mk (ho)
                              clear BK113
                              clear BK122
                              clear BK130
                              clear HB
                              clear HO_5
                              have BK113 := n0_
                              have BK122 := n1_
                              have BK130 := n2_
                              have HB := n3_
                              have HO133 := n4_
                              clear n0_ n1_ n2_ n3_ n4_
                              clear ho hb hg hat
                              obtain ⟨Ao46, co46, eo46⟩ := Kd.R_slice HO133.out
                              (first | subst eo46 | (injection eo46 with f1_ f2_ f3_; have f4_ := f1_.symm; have f5_ := f3_.symm; clear f1_ f2_ f3_; subst f4_; subst f5_))
                              refine hK.out _ _ ⟨(blk_cell BK130.out 0).trans rfl, (blk_cell BK130.out 1).trans rfl, (blk_cell BK130.out 2).trans rfl, (blk_cell BK130.out 3).trans rfl⟩ (fun hHeld => ?_)
                              clear hK K
                              refine norm_ (a' := ?_) ?_ ?_
                              rotate_left
                              · show Act.put _ (some 55) _ = _
                                simp only [Act.put, List.setIfInBounds_toArray, List.set_cons_zero, List.set_cons_succ, i64_w, i32_w]
                                rfl
                              refine one_ (i := 9) (N := some 59) #[true, true, true, true, true, true, true, true, true, true, false] rfl rfl (one_of HT_.out (by kernel_rfl)) (by decide) (fun K hK => ?_)
                              refine goes_ Try.func33 (by kernel_rfl) rfl #[.slice Ao46 y131.length co46, .string ((rd_T50 ((rd_T47 l0_1 x28_1).f1) x46_2).f0.f1)] (by rfl) rfl rfl (by (try simp only [List.map_toArray, List.map_cons, List.map_nil]); first | done | rfl | (simp only [List.length_drop, List.length_take]; rfl) | (rw [IntKind.wrap_u64, Int.emod_eq_of_lt (by omega) (by omega)]; rfl)) ?_
                              with_reducible refine (codec_text.calls k2 (fun k_ => some k_ = (.slice Ao46 y131.length co46 : Value).ownBlock) (.slice Ao46 y131.length co46) y131 ((rd_T50 ((rd_T47 l0_1 x28_1).f1) x46_2).f0.f1) t134 w _ ?side1 ?side2 A35.out).mono ?_
                              (case side1 => repeat (first | (with_reducible first | exact HB.out | apply below_alloc | apply pw_below_drewN | apply below_drew1 | refine below_set ?_ GE113.out | refine below_set ?_ GE122.out | refine below_set ?_ GE130.out) | exact HB.out))
                              (case side2 => exact Kd.R_tight rfl HO133.out)
                              rintro e w47 ⟨v135, rfl, ho0, hb, hkp⟩
                              refine ⟨_, rfl, ?_⟩
                              have n0_ := Aside0.mk (blk_kept (by (with_reducible repeat (first | refine blk_drewN ?_ _ | refine blk_drew ?_ | refine blk_alloc ?_ _)); exact BK113.out) hkp (fun hs_ => (fun e_ => (Kd.R_ne HO133.out BK113.out (by decide)) e_) hs_))
                              have n1_ := Aside0.mk (blk_kept (by (with_reducible repeat (first | refine blk_drewN ?_ _ | refine blk_drew ?_ | refine blk_alloc ?_ _)); exact BK122.out) hkp (fun hs_ => (fun e_ => (Kd.R_ne HO133.out BK122.out (by decide)) e_) hs_))
                              have n2_ := Aside0.mk (blk_kept (by (with_reducible repeat (first | refine blk_drewN ?_ _ | refine blk_drew ?_ | refine blk_alloc ?_ _)); exact BK130.out) hkp (fun hs_ => (fun e_ => (Kd.R_ne HO133.out BK130.out (by decide)) e_) hs_))
                              have n3_ := Aside0.mk (Kd.R_mono (ok' := fun k_ => True) ho0 (fun k_ hk_ => trivial))
                              have n4_ := Aside0.mk (hb)
                              clear BK113
                              clear BK122
                              clear BK130
                              clear HB
                              clear HO133
                              have BK113 := n0_
                              have BK122 := n1_
                              have BK130 := n2_
                              have HO136 := n3_
                              have HB := n4_
                              clear n0_ n1_ n2_ n3_ n4_
                              (try clear hb)
                              (try clear hkp)
                              (try clear ho0)
                              refine hK.out _ _ ⟨(blk_cell BK130.out 0).trans rfl, (blk_cell BK130.out 1).trans rfl, (blk_cell BK130.out 2).trans rfl, (blk_cell BK130.out 3).trans rfl⟩ (fun hHeld => ?_)
                              clear hK K
                              refine norm_ (a' := ?_) ?_ ?_
                              rotate_left
                              · show Act.put _ (some 59) _ = _
                                simp only [Act.put, List.setIfInBounds_toArray, List.set_cons_zero, List.set_cons_succ, i64_w, i32_w]
                                rfl
                              refine pure_ (i := 10) (N := some 5) (v := ?_) (a' := ?_) #[true, true, true, true, true, true, true, true, true, true, true] rfl rfl (any_of HT_.out (by kernel_rfl)) (fun _ _ _ h => h) (Or.inl ⟨by rfl, ?_⟩) ?_ ?_
                              rotate_left
                              · intro w'
                                go_simp
                                with_reducible rfl
                              rotate_left
                              · simp only [Act.put, List.setIfInBounds_toArray, List.set_cons_zero, List.set_cons_succ, i64_w, i32_w]
                                rfl
                              refine done_ (done_of HT_.out (by kernel_rfl)) ?_
                              have hcz48_0 : w47.cell? ⟨gb130, 0, none⟩ = some (.int .u8 ((rd_T50 ((rd_T47 l0_1 x28_1).f1) x46_2).f0.f0)) := (blk_cell BK130.out 0).trans rfl
                              have hcz48_1 : w47.cell? ⟨gb130, 1, none⟩ = some (.string ((rd_T50 ((rd_T47 l0_1 x28_1).f1) x46_2).f0.f1)) := (blk_cell BK130.out 1).trans rfl
                              have hcz48_2 : w47.cell? ⟨gb130, 2, none⟩ = some (.bool true) := (blk_cell BK130.out 2).trans rfl
                              have hcz48_3 : w47.cell? ⟨gb130, 3, none⟩ = some (.string ((rd_T50 ((rd_T47 l0_1 x28_1).f1) x46_2).f2)) := (blk_cell BK130.out 3).trans rfl
                              have hfz48_0 := blk_frozen BK130.out 0
                              have hfz48_1 := blk_frozen BK130.out 1
                              have hfz48_2 := blk_frozen BK130.out 2
                              have hfz48_3 := blk_frozen BK130.out 3
                              try go_wp2_with (first | ((with_reducible refine gate_builtin (b := .append) (xs := #[.tmp 62, .tmp 63]) rfl ?_); at_builtin; refine Kd.R_append (Kd.int .u8) (w0 := w) w.heap.size rfl (.tmp 62) (.tmp 63) 32 5 (.int .u8 0) 1 rfl Try.underlying32 info5 rfl (by decide) (by omega) v135 t134 0 [.int .u8 0] (fun _ => True) (fun _ => False) rfl rfl ?aP (fun _ hk => hk.elim) ?aF ?aO ?aB ?aS ?aL ?_; (case aP => exact rfl); (case aB => exact (by repeat (first | (with_reducible first | exact HB.out | apply below_alloc | apply pw_below_drewN | apply below_drew1 | refine below_set ?_ GE113.out | refine below_set ?_ GE122.out | refine below_set ?_ GE130.out) | exact HB.out))); (case aF => exact (fun _ _ => trivial)); (case aO => exact (by (with_reducible repeat (first | apply Kd.R_alloc | apply Kd.R_drewN | apply Kd.R_drew)); exact HO136.out)); (case aS => exact (below_size (by repeat (first | (with_reducible first | exact HB.out | apply below_alloc | apply pw_below_drewN | apply below_drew1 | refine below_set ?_ GE113.out | refine below_set ?_ GE122.out | refine below_set ?_ GE130.out) | exact HB.out)))); (case aL => have := LMc38.out; omega); intro v138 w49 ho hb hg hat; rw [← Ny137.out] at ho; have n0_ := Aside0.mk (blk_grown (g := gb113) (o := .cells #[.int .u32 a0_0, .slice (some ad121) l0_1.length c0_1] 25 (0, 0)) (by (with_reducible repeat (first | refine blk_drewN ?_ _ | refine blk_drew ?_ | refine blk_alloc ?_ _)); exact BK113.out) hg (Kd.R_ne HO136.out BK113.out (by decide))); have n1_ := Aside0.mk (blk_grown (g := gb122) (o := .cells #[.int .u64 ((rd_T47 l0_1 x28_1).f0), .slice (some ad129) ((rd_T47 l0_1 x28_1).f1).length c121_1] 47 (0, 0)) (by (with_reducible repeat (first | refine blk_drewN ?_ _ | refine blk_drew ?_ | refine blk_alloc ?_ _)); exact BK122.out) hg (Kd.R_ne HO136.out BK122.out (by decide))); have n2_ := Aside0.mk (blk_grown (g := gb130) (o := .cells #[.int .u8 ((rd_T50 ((rd_T47 l0_1 x28_1).f1) x46_2).f0.f0), .string ((rd_T50 ((rd_T47 l0_1 x28_1).f1) x46_2).f0.f1), .bool true, .string ((rd_T50 ((rd_T47 l0_1 x28_1).f1) x46_2).f2)] 50 (0, 0)) (by (with_reducible repeat (first | refine blk_drewN ?_ _ | refine blk_drew ?_ | refine blk_alloc ?_ _)); exact BK130.out) hg (Kd.R_ne HO136.out BK130.out (by decide))); have n3_ := Aside0.mk (hb); have n4_ := Aside0.mk (ho); clear BK113; clear BK122; clear BK130; clear HB; clear HO136; have BK113 := n0_; have BK122 := n1_; have BK130 := n2_; have HB := n3_; have HO139 := n4_; clear n0_ n1_ n2_ n3_ n4_; clear ho hb hg hat))
                              go_roundg k2
                              case measure => have := HK1.out; have := HK2.out; omega
                              case rel => exact ⟨(y137), (wrap64 (x46_2 + 1)), (by first | rfl | (simp; done) | (simp [*]; done)), H', ⟨by have := HK1.out; have := HK2.out; omega⟩, ⟨by (with_reducible repeat (first | apply Kd.R_alloc | apply Kd.R_drewN | apply Kd.R_drew)); exact HO139.out⟩, ⟨by (with_reducible repeat (first | refine blk_drewN ?_ _ | refine blk_drew ?_ | refine blk_alloc ?_ _)); exact BK113.out⟩, ⟨by (with_reducible repeat (first | refine blk_drewN ?_ _ | refine blk_drew ?_ | refine blk_alloc ?_ _)); exact BK122.out⟩, ⟨by repeat (first | (with_reducible first | exact HB.out | apply below_alloc | apply pw_below_drewN | apply below_drew1 | refine below_set ?_ GE113.out | refine below_set ?_ GE122.out | refine below_set ?_ GE130.out) | exact HB.out)⟩⟩
                            · rw [if_neg c38] at H
                              exact absurd H (by simp)
                          · replace c37 := Bool.eq_false_iff.mpr c37
                            subst c37
                            have H1 : ((shift_PutUint.f k2 t134 (IntKind.u64.wrap ((IntKind.u64.wrap ((((rd_T50 ((rd_T47 l0_1 x28_1).f1) x46_2).f2).size : Int))) + 1))).bind fun t140 => (if t140.length + ((rd_T50 ((rd_T47 l0_1 x28_1).f1) x46_2).f2).size < 140737488355328 then (codec_Encode.l1 k2 (t140 ++ bytesOf ((rd_T50 ((rd_T47 l0_1 x28_1).f1) x46_2).f2)) l0_1 (l0_1.length : Int) x28_1 ((rd_T47 l0_1 x28_1).f1) (((rd_T47 l0_1 x28_1).f1).length : Int) (wrap64 (x46_2 + 1))) else (none))) = some (r1, r2) := by rw [if_neg (show ¬ (false = true) by decide)] at H; exact H
                            clear H
                            have H := H1
                            clear H1
                            replace H := Option.bind_eq_some_iff.mp H
                            obtain ⟨t140, A500, H⟩ := H
                            replace H : (if t140.length + ((rd_T50 ((rd_T47 l0_1 x28_1).f1) x46_2).f2).size < 140737488355328 then (codec_Encode.l1 k2 (t140 ++ bytesOf ((rd_T50 ((rd_T47 l0_1 x28_1).f1) x46_2).f2)) l0_1 (l0_1.length : Int) x28_1 ((rd_T47 l0_1 x28_1).f1) (((rd_T47 l0_1 x28_1).f1).length : Int) (wrap64 (x46_2 + 1))) else (none)) = some (r1, r2) := H
                            have A50 := Aside0.mk A500
                            clear A500
                            by_cases c51 : t140.length + ((rd_T50 ((rd_T47 l0_1 x28_1).f1) x46_2).f2).size < 140737488355328
                            · rw [if_pos c51] at H
                              have LMc51 := Aside0.mk c51
                              clear c51
                              obtain ⟨y143, hy143⟩ : ∃ y_ : List Int, y_ = (t140 ++ bytesOf ((rd_T50 ((rd_T47 l0_1 x28_1).f1) x46_2).f2)) := ⟨_, rfl⟩
                              replace H : (codec_Encode.l1 k2 y143 l0_1 (l0_1.length : Int) x28_1 ((rd_T47 l0_1 x28_1).f1) (((rd_T47 l0_1 x28_1).f1).length : Int) (wrap64 (x46_2 + 1))) = some (r1, r2) := by first | (rw [hy143]; with_reducible exact H) | (have H2_ := (Option.bind_some _ _).symm.trans H; rw [hy143]; with_reducible exact H2_) | (have H2_ := (Option.bind_some _ _).symm.trans H; with_reducible exact H2_) | with_reducible exact H | (rw [hy143]; exact H) | exact H
                              have Ny143 := Aside0.mk hy143
                              clear hy143
                              have H' := Aside0.mk H
                              clear H
                              have p129 : 0 ≤ (x46_2 : Int) := of_decide_eq_true (by first | (with_reducible assumption) | assumption)
                              have q129 : x46_2 < (((rd_T47 l0_1 x28_1).f1).length : Int) := of_decide_eq_true (by first | (with_reducible assumption) | assumption)
                              obtain ⟨ad129, e129, hx129_0, hx129_1, hx129_2, hx129_3⟩ := at_T50 HR121_1.out x46_2 p129 q129
                              (try rw [← Nbq36.out] at hx129_2)
                              cases e129
                              replace hx129_0 := (HB.out.cell (World.block_lt_of_cell? w _ hx129_0)).trans hx129_0
                              replace hx129_1 := (HB.out.cell (World.block_lt_of_cell? w _ hx129_1)).trans hx129_1
                              replace hx129_2 := (HB.out.cell (World.block_lt_of_cell? w _ hx129_2)).trans hx129_2
                              replace hx129_3 := (HB.out.cell (World.block_lt_of_cell? w _ hx129_3)).trans hx129_3
                              replace p129 := eq_true p129
                              replace q129 := eq_true q129
                              try go_wp2_with (first | ((with_reducible refine gate_dst (N := 9) rfl ?_); refine box_event ?hg (N := 9) ?hd (cs := #[.int .u8 0, .string (⟨#[]⟩ : ByteArray), .bool false, .string (⟨#[]⟩ : ByteArray)]) (t := 50) ?hr ?_; (case hd => rfl); (case hg => rfl); (case hr => first | (go_simp; done) | (go_simp; rfl)); intro gb130 hg w52 hbox hb; have n0_ := Aside0.mk (Kd.R_below (by (with_reducible repeat (first | apply Kd.R_alloc | apply Kd.R_drewN | apply Kd.R_drew)); exact HO_5.out) hb); have n1_ := Aside0.mk (blk_below (g := gb113) (o := .cells #[.int .u32 a0_0, .slice (some ad121) l0_1.length c0_1] 25 (0, 0)) (by (with_reducible repeat (first | refine blk_drewN ?_ _ | refine blk_drew ?_ | refine blk_alloc ?_ _)); exact BK113.out) hb); have n2_ := Aside0.mk (blk_below (g := gb122) (o := .cells #[.int .u64 ((rd_T47 l0_1 x28_1).f0), .slice (some ad129) ((rd_T47 l0_1 x28_1).f1).length c121_1] 47 (0, 0)) (by (with_reducible repeat (first | refine blk_drewN ?_ _ | refine blk_drew ?_ | refine blk_alloc ?_ _)); exact BK122.out) hb); have n3_ := Aside0.mk (below_step (by repeat (first | (with_reducible first | exact HB.out | apply below_alloc | apply pw_below_drewN | apply below_drew1 | refine below_set ?_ GE113.out | refine below_set ?_ GE122.out) | exact HB.out)) hb); have n4_ := Aside0.mk (hbox); have n5_ := Aside0.mk ((by rw [hg]; exact (below_size (by repeat (first | (with_reducible first | exact HB.out | apply below_alloc | apply pw_below_drewN | apply below_drew1 | refine below_set ?_ GE113.out | refine below_set ?_ GE122.out) | exact HB.out))) : w.heap.size ≤ gb130)); have n6_ := Aside0.mk ((by rw [hg]; exact (below_size (by repeat (first | (with_reducible first | exact HB.out | apply below_alloc | apply pw_below_drewN | apply below_drew1 | refine below_set ?_ GE113.out | refine below_set ?_ GE122.out) | exact HB.out))) : w.heap.size ≤ gb130)); have n7_ := Aside0.mk ((by rw [hg]; exact Nat.ne_of_lt (blk_lt (g := gb113) (o := .cells #[.int .u32 a0_0, .slice (some ad121) l0_1.length c0_1] 25 (0, 0)) (by (with_reducible repeat (first | refine blk_drewN ?_ _ | refine blk_drew ?_ | refine blk_alloc ?_ _)); exact BK113.out)) : gb113 ≠ gb130)); have n8_ := Aside0.mk ((by rw [hg]; exact Nat.ne_of_gt (blk_lt (g := gb113) (o := .cells #[.int .u32 a0_0, .slice (some ad121) l0_1.length c0_1] 25 (0, 0)) (by (with_reducible repeat (first | refine blk_drewN ?_ _ | refine blk_drew ?_ | refine blk_alloc ?_ _)); exact BK113.out)) : gb130 ≠ gb113)); have n9_ := Aside0.mk ((by rw [hg]; exact Nat.ne_of_lt (blk_lt (g := gb122) (o := .cells #[.int .u64 ((rd_T47 l0_1 x28_1).f0), .slice (some ad129) ((rd_T47 l0_1 x28_1).f1).length c121_1] 47 (0, 0)) (by (with_reducible repeat (first | refine blk_drewN ?_ _ | refine blk_drew ?_ | refine blk_alloc ?_ _)); exact BK122.out)) : gb122 ≠ gb130)); have n10_ := Aside0.mk ((by rw [hg]; exact Nat.ne_of_gt (blk_lt (g := gb122) (o := .cells #[.int .u64 ((rd_T47 l0_1 x28_1).f0), .slice (some ad129) ((rd_T47 l0_1 x28_1).f1).length c121_1] 47 (0, 0)) (by (with_reducible repeat (first | refine blk_drewN ?_ _ | refine blk_drew ?_ | refine blk_alloc ?_ _)); exact BK122.out)) : gb130 ≠ gb122)); clear HO_5; clear BK113; clear BK122; clear HB; have HO_5 := n0_; have BK113 := n1_; have BK122 := n2_; have HB := n3_; have BK130 := n4_; have GW130 := n5_; have GE130 := n6_; have NB113_130 := n7_; have NB130_113 := n8_; have NB122_130 := n9_; have NB130_122 := n10_; clear n0_ n1_ n2_ n3_ n4_ n5_ n6_ n7_ n8_ n9_ n10_; clear hb hbox hg; have hnb53 := NB130_113.out; have hnc53 := NB113_130.out; have hnb54 := NB130_122.out; have hnc54 := NB122_130.out; have hcz55_0 : w52.cell? ⟨gb130, 0, none⟩ = some (.int .u8 0) := (blk_cell BK130.out 0).trans rfl; have hcz55_1 : w52.cell? ⟨gb130, 1, none⟩ = some (.string (⟨#[]⟩ : ByteArray)) := (blk_cell BK130.out 1).trans rfl; have hcz55_2 : w52.cell? ⟨gb130, 2, none⟩ = some (.bool false) := (blk_cell BK130.out 2).trans rfl; have hcz55_3 : w52.cell? ⟨gb130, 3, none⟩ = some (.string (⟨#[]⟩ : ByteArray)) := (blk_cell BK130.out 3).trans rfl; have hfz55_0 := blk_frozen BK130.out 0; have hfz55_1 := blk_frozen BK130.out 1; have hfz55_2 := blk_frozen BK130.out 2; have hfz55_3 := blk_frozen BK130.out 3))
                              have n0_ : Aside0 (Kd.R (Kd.int .u8) 5 ((((w52.setCell ⟨gb130, 0, none⟩ (.int .u8 ((rd_T50 ((rd_T47 l0_1 x28_1).f1) x46_2).f0.f0))).setCell ⟨gb130, 1, none⟩ (.string ((rd_T50 ((rd_T47 l0_1 x28_1).f1) x46_2).f0.f1))).setCell ⟨gb130, 2, none⟩ (.bool false)).setCell ⟨gb130, 3, none⟩ (.string ((rd_T50 ((rd_T47 l0_1 x28_1).f1) x46_2).f2))) w.heap.size (fun _ => True) u5 x5_2) := ⟨by (with_reducible repeat (first | apply Kd.R_alloc | apply Kd.R_drewN | apply Kd.R_drew)); exact Kd.R_mono (Kd.R_far (p := ⟨gb130, 3, none⟩) (Kd.R_far (p := ⟨gb130, 2, none⟩) (Kd.R_far (p := ⟨gb130, 1, none⟩) (Kd.R_far (p := ⟨gb130, 0, none⟩) (Kd.R_types HO_5.out BK130.out (by decide)) (fun _ hk => hk.2) (.int .u8 ((rd_T50 ((rd_T47 l0_1 x28_1).f1) x46_2).f0.f0))) (fun _ hk => hk.2) (.string ((rd_T50 ((rd_T47 l0_1 x28_1).f1) x46_2).f0.f1))) (fun _ hk => hk.2) (.bool false)) (fun _ hk => hk.2) (.string ((rd_T50 ((rd_T47 l0_1 x28_1).f1) x46_2).f2))) (fun _ hk => trivial)⟩
                              have n1_ : Aside0 (((((w52.setCell ⟨gb130, 0, none⟩ (.int .u8 ((rd_T50 ((rd_T47 l0_1 x28_1).f1) x46_2).f0.f0))).setCell ⟨gb130, 1, none⟩ (.string ((rd_T50 ((rd_T47 l0_1 x28_1).f1) x46_2).f0.f1))).setCell ⟨gb130, 2, none⟩ (.bool false)).setCell ⟨gb130, 3, none⟩ (.string ((rd_T50 ((rd_T47 l0_1 x28_1).f1) x46_2).f2))).heap[gb113]? = some (.cells #[.int .u32 a0_0, .slice (some ad121) l0_1.length c0_1] 25 (0, 0))) := ⟨by (with_reducible repeat (first | refine blk_drewN ?_ _ | refine blk_drew ?_ | refine blk_alloc ?_ _)); refine blk_far ?_ NB113_130.out _; (with_reducible repeat (first | refine blk_drewN ?_ _ | refine blk_drew ?_ | refine blk_alloc ?_ _)); refine blk_far ?_ NB113_130.out _; (with_reducible repeat (first | refine blk_drewN ?_ _ | refine blk_drew ?_ | refine blk_alloc ?_ _)); refine blk_far ?_ NB113_130.out _; (with_reducible repeat (first | refine blk_drewN ?_ _ | refine blk_drew ?_ | refine blk_alloc ?_ _)); refine blk_far ?_ NB113_130.out _; (with_reducible repeat (first | refine blk_drewN ?_ _ | refine blk_drew ?_ | refine blk_alloc ?_ _)); exact BK113.out⟩
                              have n2_ : Aside0 (((((w52.setCell ⟨gb130, 0, none⟩ (.int .u8 ((rd_T50 ((rd_T47 l0_1 x28_1).f1) x46_2).f0.f0))).setCell ⟨gb130, 1, none⟩ (.string ((rd_T50 ((rd_T47 l0_1 x28_1).f1) x46_2).f0.f1))).setCell ⟨gb130, 2, none⟩ (.bool false)).setCell ⟨gb130, 3, none⟩ (.string ((rd_T50 ((rd_T47 l0_1 x28_1).f1) x46_2).f2))).heap[gb122]? = some (.cells #[.int .u64 ((rd_T47 l0_1 x28_1).f0), .slice (some ad129) ((rd_T47 l0_1 x28_1).f1).length c121_1] 47 (0, 0))) := ⟨by (with_reducible repeat (first | refine blk_drewN ?_ _ | refine blk_drew ?_ | refine blk_alloc ?_ _)); refine blk_far ?_ NB122_130.out _; (with_reducible repeat (first | refine blk_drewN ?_ _ | refine blk_drew ?_ | refine blk_alloc ?_ _)); refine blk_far ?_ NB122_130.out _; (with_reducible repeat (first | refine blk_drewN ?_ _ | refine blk_drew ?_ | refine blk_alloc ?_ _)); refine blk_far ?_ NB122_130.out _; (with_reducible repeat (first | refine blk_drewN ?_ _ | refine blk_drew ?_ | refine blk_alloc ?_ _)); refine blk_far ?_ NB122_130.out _; (with_reducible repeat (first | refine blk_drewN ?_ _ | refine blk_drew ?_ | refine blk_alloc ?_ _)); exact BK122.out⟩
                              have n3_ : Aside0 (((((w52.setCell ⟨gb130, 0, none⟩ (.int .u8 ((rd_T50 ((rd_T47 l0_1 x28_1).f1) x46_2).f0.f0))).setCell ⟨gb130, 1, none⟩ (.string ((rd_T50 ((rd_T47 l0_1 x28_1).f1) x46_2).f0.f1))).setCell ⟨gb130, 2, none⟩ (.bool false)).setCell ⟨gb130, 3, none⟩ (.string ((rd_T50 ((rd_T47 l0_1 x28_1).f1) x46_2).f2))).heap[gb130]? = some (.cells #[.int .u8 ((rd_T50 ((rd_T47 l0_1 x28_1).f1) x46_2).f0.f0), .string ((rd_T50 ((rd_T47 l0_1 x28_1).f1) x46_2).f0.f1), .bool false, .string ((rd_T50 ((rd_T47 l0_1 x28_1).f1) x46_2).f2)] 50 (0, 0))) := ⟨by (with_reducible repeat (first | refine blk_drewN ?_ _ | refine blk_drew ?_ | refine blk_alloc ?_ _)); refine blk_put (cs := #[.int .u8 ((rd_T50 ((rd_T47 l0_1 x28_1).f1) x46_2).f0.f0), .string ((rd_T50 ((rd_T47 l0_1 x28_1).f1) x46_2).f0.f1), .bool false, .string (⟨#[]⟩ : ByteArray)]) ?_ 3 _ rfl; (with_reducible repeat (first | refine blk_drewN ?_ _ | refine blk_drew ?_ | refine blk_alloc ?_ _)); refine blk_put (cs := #[.int .u8 ((rd_T50 ((rd_T47 l0_1 x28_1).f1) x46_2).f0.f0), .string ((rd_T50 ((rd_T47 l0_1 x28_1).f1) x46_2).f0.f1), .bool false, .string (⟨#[]⟩ : ByteArray)]) ?_ 2 _ rfl; (with_reducible repeat (first | refine blk_drewN ?_ _ | refine blk_drew ?_ | refine blk_alloc ?_ _)); refine blk_put (cs := #[.int .u8 ((rd_T50 ((rd_T47 l0_1 x28_1).f1) x46_2).f0.f0), .string (⟨#[]⟩ : ByteArray), .bool false, .string (⟨#[]⟩ : ByteArray)]) ?_ 1 _ rfl; (with_reducible repeat (first | refine blk_drewN ?_ _ | refine blk_drew ?_ | refine blk_alloc ?_ _)); refine blk_put (cs := #[.int .u8 0, .string (⟨#[]⟩ : ByteArray), .bool false, .string (⟨#[]⟩ : ByteArray)]) ?_ 0 _ rfl; (with_reducible repeat (first | refine blk_drewN ?_ _ | refine blk_drew ?_ | refine blk_alloc ?_ _)); exact BK130.out⟩
                              have n4_ : Aside0 (Below w.heap.size w ((((w52.setCell ⟨gb130, 0, none⟩ (.int .u8 ((rd_T50 ((rd_T47 l0_1 x28_1).f1) x46_2).f0.f0))).setCell ⟨gb130, 1, none⟩ (.string ((rd_T50 ((rd_T47 l0_1 x28_1).f1) x46_2).f0.f1))).setCell ⟨gb130, 2, none⟩ (.bool false)).setCell ⟨gb130, 3, none⟩ (.string ((rd_T50 ((rd_T47 l0_1 x28_1).f1) x46_2).f2)))) := ⟨by repeat (first | (with_reducible first | exact HB.out | apply below_alloc | apply pw_below_drewN | apply below_drew1 | refine below_set ?_ GE113.out | refine below_set ?_ GE122.out | refine below_set ?_ GE130.out) | exact HB.out)⟩
                              (try clear HO_5)
                              (try clear BK113)
                              (try clear BK122)
                              (try clear BK130)
                              (try clear HB)
                              generalize ((((w52.setCell ⟨gb130, 0, none⟩ (.int .u8 ((rd_T50 ((rd_T47 l0_1 x28_1).f1) x46_2).f0.f0))).setCell ⟨gb130, 1, none⟩ (.string ((rd_T50 ((rd_T47 l0_1 x28_1).f1) x46_2).f0.f1))).setCell ⟨gb130, 2, none⟩ (.bool false)).setCell ⟨gb130, 3, none⟩ (.string ((rd_T50 ((rd_T47 l0_1 x28_1).f1) x46_2).f2))) = w56 at n0_ n1_ n2_ n3_ n4_ ⊢
                              have HO_5 := n0_
                              have BK113 := n1_
                              have BK122 := n2_
                              have BK130 := n3_
                              have HB := n4_
                              clear n0_ n1_ n2_ n3_ n4_
                              have n0_ := Aside0.mk (Kd.R_drew HO_5.out)
                              have n1_ := Aside0.mk (blk_drew BK113.out)
                              have n2_ := Aside0.mk (blk_drew BK122.out)
                              have n3_ := Aside0.mk (blk_drew BK130.out)
                              have n4_ := Aside0.mk (below_drew1 HB.out)
                              clear HO_5
                              clear BK113
                              clear BK122
                              clear BK130
                              clear HB
                              have HO_5 := n0_
                              have BK113 := n1_
                              have BK122 := n2_
                              have BK130 := n3_
                              have HB := n4_
                              clear n0_ n1_ n2_ n3_ n4_
                              refine start_ (n := 11) (S := fun w' => w'.cell? ⟨gb130, 0, none⟩ = some (.int .u8 ((rd_T50 ((rd_T47 l0_1 x28_1).f1) x46_2).f0.f0)) ∧ w'.cell? ⟨gb130, 1, none⟩ = some (.string ((rd_T50 ((rd_T47 l0_1 x28_1).f1) x46_2).f0.f1)) ∧ w'.cell? ⟨gb130, 2, none⟩ = some (.bool false) ∧ w'.cell? ⟨gb130, 3, none⟩ = some (.string ((rd_T50 ((rd_T47 l0_1 x28_1).f1) x46_2).f2))) (ds := []) #[false, false, false, false, false, false, false, false, false, false, false] (by kernel_rfl) rfl rfl ⟨(blk_cell BK130.out 0).trans rfl, (blk_cell BK130.out 1).trans rfl, (blk_cell BK130.out 2).trans rfl, (blk_cell BK130.out 3).trans rfl⟩ (fun hHeld => ?_); refine with_tabW codec_Encode.tab14 codec_Encode.bits14 (fun HT_ HW_ => ?_)
                              generalize w56.drew = w57 at HO_5 BK113 BK122 BK130 HB hHeld ⊢
                              refine pure_ (i := 0) (N := some 50) (v := ?_) (a' := ?_) #[true, false, false, false, false, false, false, false, false, false, false] rfl rfl (any_of HT_.out (by kernel_rfl)) (fun _ _ _ h => h) (Or.inl ⟨by rfl, ?_⟩) ?_ ?_
                              rotate_left
                              · intro w'
                                go_simp
                                with_reducible rfl
                              rotate_left
                              · simp only [Act.put, List.setIfInBounds_toArray, List.set_cons_zero, List.set_cons_succ, i64_w, i32_w]
                                rfl
                              refine pure_ (i := 1) (N := some 51) (v := ?_) (a' := ?_) #[true, true, false, false, false, false, false, false, false, false, false] rfl rfl (any_of HT_.out (by kernel_rfl)) (fun _ _ _ h => h) (Or.inl ⟨by rfl, ?_⟩) ?_ ?_
                              rotate_left
                              · intro w'
                                go_simp
                                with_reducible rfl
                              rotate_left
                              · simp only [Act.put, List.setIfInBounds_toArray, List.set_cons_zero, List.set_cons_succ, i64_w, i32_w]
                                rfl
                              refine pure_ (i := 2) (N := some 52) (v := ?_) (a' := ?_) #[true, true, true, false, false, false, false, false, false, false, false] rfl rfl (any_of HT_.out (by kernel_rfl)) (fun _ _ _ h => h) (Or.inl ⟨by rfl, ?_⟩) ?_ ?_
                              rotate_left
                              · intro w'
                                go_simp
                                with_reducible rfl
                              rotate_left
                              · simp only [Act.put, List.setIfInBounds_toArray, List.set_cons_zero, List.set_cons_succ, i64_w, i32_w]
                                rfl
                              refine pure_ (i := 6) (N := some 56) (v := ?_) (a' := ?_) #[true, true, true, false, false, false, true, false, false, false, false] rfl rfl (any_of HT_.out (by kernel_rfl)) (fun _ _ _ h => h) (Or.inl ⟨by rfl, ?_⟩) ?_ ?_
                              rotate_left
                              · intro w'
                                go_simp
                                with_reducible rfl
                              rotate_left
                              · simp only [Act.put, List.setIfInBounds_toArray, List.set_cons_zero, List.set_cons_succ, i64_w, i32_w]
                                rfl
                              refine pure_ (i := 7) (N := some 57) (v := ?_) (a' := ?_) #[true, true, true, false, false, false, true, true, false, false, false] rfl rfl (any_of HT_.out (by kernel_rfl)) (fun _ _ _ h => h) (Or.inl ⟨by rfl, ?_⟩) ?_ ?_
                              rotate_left
                              · intro w'
                                go_simp
                                with_reducible rfl
                              rotate_left
                              · simp only [Act.put, List.setIfInBounds_toArray, List.set_cons_zero, List.set_cons_succ, i64_w, i32_w]
                                rfl
                              refine take_ (i := 3) (N := some 53) (v := ?_) (a' := ?_) #[true, true, true, true, false, false, true, true, false, false, false] rfl rfl (take_ofW HT_.out HW_.out (by kernel_rfl)) (fun _ _ _ h => h) (Or.inl ⟨by rfl, ?_⟩) hHeld ?_ ?_
                              rotate_left
                              · rintro w' ⟨s0, s1, s2, s3⟩
                                go_simp
                                with_reducible rfl
                              rotate_left
                              · simp only [Act.put, List.setIfInBounds_toArray, List.set_cons_zero, List.set_cons_succ, i64_w, i32_w]
                                rfl
                              refine take_ (i := 8) (N := some 58) (v := ?_) (a' := ?_) #[true, true, true, true, false, false, true, true, true, false, false] rfl rfl (take_ofW HT_.out HW_.out (by kernel_rfl)) (fun _ _ _ h => h) (Or.inl ⟨by rfl, ?_⟩) hHeld ?_ ?_
                              rotate_left
                              · rintro w' ⟨s0, s1, s2, s3⟩
                                go_simp
                                with_reducible rfl
                              rotate_left
                              · simp only [Act.put, List.setIfInBounds_toArray, List.set_cons_zero, List.set_cons_succ, i64_w, i32_w]
                                rfl
                              refine one_ (i := 4) (N := some 54) #[true, true, true, true, true, false, true, true, true, false, false] rfl rfl (one_of HT_.out (by kernel_rfl)) (by decide) (fun K hK => ?_)
                              refine value_ (w1 := ?_) (v := ?_) (by rfl) rfl ?_ ?_
                              rotate_left 2
                              · go_simp
                                constructor
                                · rfl
                                · rfl
                              refine hK.out _ _ ⟨(blk_cell (blk_alloc BK130.out _) 0).trans rfl, (blk_cell (blk_alloc BK130.out _) 1).trans rfl, (blk_cell (blk_alloc BK130.out _) 2).trans rfl, (blk_cell (blk_alloc BK130.out _) 3).trans rfl⟩ (fun hHeld => ?_)
                              clear hK K
                              refine norm_ (a' := ?_) ?_ ?_
                              rotate_left
                              · show Act.put _ (some 54) _ = _
                                simp only [Act.put, List.setIfInBounds_toArray, List.set_cons_zero, List.set_cons_succ, i64_w, i32_w]
                                rfl
                              refine one_ (i := 5) (N := some 55) #[true, true, true, true, true, true, true, true, true, false, false] rfl rfl (one_of HT_.out (by kernel_rfl)) (by decide) (fun K hK => ?_)
                              refine Kd.R_append_step (Kd.int .u8) (w0 := w) w.heap.size (by rfl) (.tmp 50) (.tmp 54) 32 5 (.int .u8 0) 1 rfl Try.underlying32 info5 rfl (by decide) (by omega) u5 x5_2 ((rd_T50 ((rd_T47 l0_1 x28_1).f1) x46_2).f0.f0) [.int .u8 ((rd_T50 ((rd_T47 l0_1 x28_1).f1) x46_2).f0.f0)] (fun _ => True) (fun _ => False) rfl rfl ?aP (fun _ hk => hk.elim) ?aF ?aO ?aB ?aS ?aL ?_
                              (case aP => exact rfl)
                              (case aB => exact (by repeat (first | (with_reducible first | exact HB.out | apply below_alloc | apply pw_below_drewN | apply below_drew1 | refine below_set ?_ GE113.out | refine below_set ?_ GE122.out | refine below_set ?_ GE130.out) | exact HB.out)))
                              (case aF => exact (fun _ _ => trivial))
                              (case aO => exact (by (with_reducible repeat (first | apply Kd.R_alloc | apply Kd.R_drewN | apply Kd.R_drew)); exact HO_5.out))
                              (case aS => exact (below_size (by repeat (first | (with_reducible first | exact HB.out | apply below_alloc | apply pw_below_drewN | apply below_drew1 | refine below_set ?_ GE113.out | refine below_set ?_ GE122.out | refine below_set ?_ GE130.out) | exact HB.out))))
                              (case aL => have := LMc34.out; omega)
                              intro v132 w58 ho hb hg hat
                              rw [← Ny131.out] at ho
                              have n0_ := Aside0.mk (blk_grown (g := gb113) (o := .cells #[.int .u32 a0_0, .slice (some ad121) l0_1.length c0_1] 25 (0, 0)) (by (with_reducible repeat (first | refine blk_drewN ?_ _ | refine blk_drew ?_ | refine blk_alloc ?_ _)); exact BK113.out) hg (Kd.R_ne HO_5.out BK113.out (by decide)))
                              have n1_ := Aside0.mk (blk_grown (g := gb122) (o := .cells #[.int .u64 ((rd_T47 l0_1 x28_1).f0), .slice (some ad129) ((rd_T47 l0_1 x28_1).f1).length c121_1] 47 (0, 0)) (by (with_reducible repeat (first | refine blk_drewN ?_ _ | refine blk_drew ?_ | refine blk_alloc ?_ _)); exact BK122.out) hg (Kd.R_ne HO_5.out BK122.out (by decide)))
                              have n2_ := Aside0.mk (blk_grown (g := gb130) (o := .cells #[.int .u8 ((rd_T50 ((rd_T47 l0_1 x28_1).f1) x46_2).f0.f0), .string ((rd_T50 ((rd_T47 l0_1 x28_1).f1) x46_2).f0.f1), .bool false, .string ((rd_T50 ((rd_T47 l0_1 x28_1).f1) x46_2).f2)] 50 (0, 0)) (by (with_reducible repeat (first | refine blk_drewN ?_ _ | refine blk_drew ?_ | refine blk_alloc ?_ _)); exact BK130.out) hg (Kd.R_ne HO_5.out BK130.out (by decide)))
                              have n3_ := Aside0.mk (hb)
                              have n4_ := Aside0.mk (ho)
                              clear BK113
                              clear BK122
                              clear BK130
                              clear HB
                              clear HO_5
                              have BK113 := n0_
                              have BK122 := n1_
                              have BK130 := n2_
                              have HB := n3_
                              have HO133 := n4_
                              clear n0_ n1_ n2_ n3_ n4_
                              clear ho hb hg hat
                              obtain ⟨Ao59, co59, eo59⟩ := Kd.R_slice HO133.out
                              (first | subst eo59 | (injection eo59 with f1_ f2_ f3_; have f4_ := f1_.symm; have f5_ := f3_.symm; clear f1_ f2_ f3_; subst f4_; subst f5_))
                              refine hK.out _ _ ⟨(blk_cell BK130.out 0).trans rfl, (blk_cell BK130.out 1).trans rfl, (blk_cell BK130.out 2).trans rfl, (blk_cell BK130.out 3).trans rfl⟩ (fun hHeld => ?_)
                              clear hK K
                              refine norm_ (a' := ?_) ?_ ?_
                              rotate_left
                              · show Act.put _ (some 55) _ = _
                                simp only [Act.put, List.setIfInBounds_toArray, List.set_cons_zero, List.set_cons_succ, i64_w, i32_w]
                                rfl
                              refine one_ (i := 9) (N := some 59) #[true, true, true, true, true, true, true, true, true, true, false] rfl rfl (one_of HT_.out (by kernel_rfl)) (by decide) (fun K hK => ?_)
                              refine goes_ Try.func33 (by kernel_rfl) rfl #[.slice Ao59 y131.length co59, .string ((rd_T50 ((rd_T47 l0_1 x28_1).f1) x46_2).f0.f1)] (by rfl) rfl rfl (by (try simp only [List.map_toArray, List.map_cons, List.map_nil]); first | done | rfl | (simp only [List.length_drop, List.length_take]; rfl) | (rw [IntKind.wrap_u64, Int.emod_eq_of_lt (by omega) (by omega)]; rfl)) ?_
                              with_reducible refine (codec_text.calls k2 (fun k_ => some k_ = (.slice Ao59 y131.length co59 : Value).ownBlock) (.slice Ao59 y131.length co59) y131 ((rd_T50 ((rd_T47 l0_1 x28_1).f1) x46_2).f0.f1) t134 w _ ?side1 ?side2 A35.out).mono ?_
                              (case side1 => repeat (first | (with_reducible first | exact HB.out | apply below_alloc | apply pw_below_drewN | apply below_drew1 | refine below_set ?_ GE113.out | refine below_set ?_ GE122.out | refine below_set ?_ GE130.out) | exact HB.out))
                              (case side2 => exact Kd.R_tight rfl HO133.out)
                              rintro e w60 ⟨v135, rfl, ho0, hb, hkp⟩
                              refine ⟨_, rfl, ?_⟩
                              have n0_ := Aside0.mk (blk_kept (by (with_reducible repeat (first | refine blk_drewN ?_ _ | refine blk_drew ?_ | refine blk_alloc ?_ _)); exact BK113.out) hkp (fun hs_ => (fun e_ => (Kd.R_ne HO133.out BK113.out (by decide)) e_) hs_))
                              have n1_ := Aside0.mk (blk_kept (by (with_reducible repeat (first | refine blk_drewN ?_ _ | refine blk_drew ?_ | refine blk_alloc ?_ _)); exact BK122.out) hkp (fun hs_ => (fun e_ => (Kd.R_ne HO133.out BK122.out (by decide)) e_) hs_))
                              have n2_ := Aside0.mk (blk_kept (by (with_reducible repeat (first | refine blk_drewN ?_ _ | refine blk_drew ?_ | refine blk_alloc ?_ _)); exact BK130.out) hkp (fun hs_ => (fun e_ => (Kd.R_ne HO133.out BK130.out (by decide)) e_) hs_))
                              have n3_ := Aside0.mk (Kd.R_mono (ok' := fun k_ => True) ho0 (fun k_ hk_ => trivial))
                              have n4_ := Aside0.mk (hb)
                              clear BK113
                              clear BK122
                              clear BK130
                              clear HB
                              clear HO133
                              have BK113 := n0_
                              have BK122 := n1_
                              have BK130 := n2_
                              have HO136 := n3_
                              have HB := n4_
                              clear n0_ n1_ n2_ n3_ n4_
                              (try clear hb)
                              (try clear hkp)
                              (try clear ho0)
                              refine hK.out _ _ ⟨(blk_cell BK130.out 0).trans rfl, (blk_cell BK130.out 1).trans rfl, (blk_cell BK130.out 2).trans rfl, (blk_cell BK130.out 3).trans rfl⟩ (fun hHeld => ?_)
                              clear hK K
                              refine norm_ (a' := ?_) ?_ ?_
                              rotate_left
                              · show Act.put _ (some 59) _ = _
                                simp only [Act.put, List.setIfInBounds_toArray, List.set_cons_zero, List.set_cons_succ, i64_w, i32_w]
                                rfl
                              refine pure_ (i := 10) (N := some 5) (v := ?_) (a' := ?_) #[true, true, true, true, true, true, true, true, true, true, true] rfl rfl (any_of HT_.out (by kernel_rfl)) (fun _ _ _ h => h) (Or.inl ⟨by rfl, ?_⟩) ?_ ?_
                              rotate_left
                              · intro w'
                                go_simp
                                with_reducible rfl
                              rotate_left
                              · simp only [Act.put, List.setIfInBounds_toArray, List.set_cons_zero, List.set_cons_succ, i64_w, i32_w]
                                rfl
                              refine done_ (done_of HT_.out (by kernel_rfl)) ?_
                              have hcz61_0 : w60.cell? ⟨gb130, 0, none⟩ = some (.int .u8 ((rd_T50 ((rd_T47 l0_1 x28_1).f1) x46_2).f0.f0)) := (blk_cell BK130.out 0).trans rfl
                              have hcz61_1 : w60.cell? ⟨gb130, 1, none⟩ = some (.string ((rd_T50 ((rd_T47 l0_1 x28_1).f1) x46_2).f0.f1)) := (blk_cell BK130.out 1).trans rfl
                              have hcz61_2 : w60.cell? ⟨gb130, 2, none⟩ = some (.bool false) := (blk_cell BK130.out 2).trans rfl
                              have hcz61_3 : w60.cell? ⟨gb130, 3, none⟩ = some (.string ((rd_T50 ((rd_T47 l0_1 x28_1).f1) x46_2).f2)) := (blk_cell BK130.out 3).trans rfl
                              have hfz61_0 := blk_frozen BK130.out 0
                              have hfz61_1 := blk_frozen BK130.out 1
                              have hfz61_2 := blk_frozen BK130.out 2
                              have hfz61_3 := blk_frozen BK130.out 3
                              try go_wp2
                              have n0_ := Aside0.mk (Kd.R_drew HO136.out)
                              have n1_ := Aside0.mk (blk_drew BK113.out)
                              have n2_ := Aside0.mk (blk_drew BK122.out)
                              have n3_ := Aside0.mk (blk_drew BK130.out)
                              have n4_ := Aside0.mk (below_drew1 HB.out)
                              clear HO136
                              clear BK113
                              clear BK122
                              clear BK130
                              clear HB
                              have HO136 := n0_
                              have BK113 := n1_
                              have BK122 := n2_
                              have BK130 := n3_
                              have HB := n4_
                              clear n0_ n1_ n2_ n3_ n4_
                              obtain ⟨Ao63, co63, eo63⟩ := Kd.R_slice HO136.out
                              (first | subst eo63 | (injection eo63 with f1_ f2_ f3_; have f4_ := f1_.symm; have f5_ := f3_.symm; clear f1_ f2_ f3_; subst f4_; subst f5_))
                              refine start_ (n := 11) (S := fun w' => w'.cell? ⟨gb130, 0, none⟩ = some (.int .u8 ((rd_T50 ((rd_T47 l0_1 x28_1).f1) x46_2).f0.f0)) ∧ w'.cell? ⟨gb130, 1, none⟩ = some (.string ((rd_T50 ((rd_T47 l0_1 x28_1).f1) x46_2).f0.f1)) ∧ w'.cell? ⟨gb130, 2, none⟩ = some (.bool false) ∧ w'.cell? ⟨gb130, 3, none⟩ = some (.string ((rd_T50 ((rd_T47 l0_1 x28_1).f1) x46_2).f2))) (ds := []) #[false, false, false, false, false, false, false, false, false, false, false] (by kernel_rfl) rfl rfl ⟨(blk_cell BK130.out 0).trans rfl, (blk_cell BK130.out 1).trans rfl, (blk_cell BK130.out 2).trans rfl, (blk_cell BK130.out 3).trans rfl⟩ (fun hHeld => ?_); refine with_tabW codec_Encode.tab17 codec_Encode.bits17 (fun HT_ HW_ => ?_)
                              generalize w60.drew = w62 at HO136 BK113 BK122 BK130 HB hHeld ⊢
                              refine pure_ (i := 0) (N := some 65) (v := ?_) (a' := ?_) #[true, false, false, false, false, false, false, false, false, false, false] rfl rfl (any_of HT_.out (by kernel_rfl)) (fun _ _ _ h => h) (Or.inl ⟨by rfl, ?_⟩) ?_ ?_
                              rotate_left
                              · intro w'
                                go_simp
                                with_reducible rfl
                              rotate_left
                              · simp only [Act.put, List.setIfInBounds_toArray, List.set_cons_zero, List.set_cons_succ, i64_w, i32_w]
                                rfl
                              refine pure_ (i := 1) (N := some 66) (v := ?_) (a' := ?_) #[true, true, false, false, false, false, false, false, false, false, false] rfl rfl (any_of HT_.out (by kernel_rfl)) (fun _ _ _ h => h) (Or.inl ⟨by rfl, ?_⟩) ?_ ?_
                              rotate_left
                              · intro w'
                                go_simp
                                with_reducible rfl
                              rotate_left
                              · simp only [Act.put, List.setIfInBounds_toArray, List.set_cons_zero, List.set_cons_succ, i64_w, i32_w]
                                rfl
                              refine pure_ (i := 7) (N := some 72) (v := ?_) (a' := ?_) #[true, true, false, false, false, false, false, true, false, false, false] rfl rfl (any_of HT_.out (by kernel_rfl)) (fun _ _ _ h => h) (Or.inl ⟨by rfl, ?_⟩) ?_ ?_
                              rotate_left
                              · intro w'
                                go_simp
                                with_reducible rfl
                              rotate_left
                              · simp only [Act.put, List.setIfInBounds_toArray, List.set_cons_zero, List.set_cons_succ, i64_w, i32_w]
                                rfl
                              refine take_ (i := 2) (N := some 67) (v := ?_) (a' := ?_) #[true, true, true, false, false, false, false, true, false, false, false] rfl rfl (take_ofW HT_.out HW_.out (by kernel_rfl)) (fun _ _ _ h => h) (Or.inl ⟨by rfl, ?_⟩) hHeld ?_ ?_
                              rotate_left
                              · rintro w' ⟨s0, s1, s2, s3⟩
                                go_simp
                                with_reducible rfl
                              rotate_left
                              · simp only [Act.put, List.setIfInBounds_toArray, List.set_cons_zero, List.set_cons_succ, i64_w, i32_w]
                                rfl
                              refine pure_ (i := 3) (N := some 68) (v := ?_) (a' := ?_) #[true, true, true, true, false, false, false, true, false, false, false] rfl rfl (any_of HT_.out (by kernel_rfl)) (fun _ _ _ h => h) (Or.inl ⟨by rfl, ?_⟩) ?_ ?_
                              rotate_left
                              · intro w'
                                go_simp
                                with_reducible rfl
                              rotate_left
                              · simp only [Act.put, List.setIfInBounds_toArray, List.set_cons_zero, List.set_cons_succ, i64_w, i32_w]
                                rfl
                              refine pure_ (i := 4) (N := some 69) (v := ?_) (a' := ?_) #[true, true, true, true, true, false, false, true, false, false, false] rfl rfl (any_of HT_.out (by kernel_rfl)) (fun _ _ _ h => h) (Or.inl ⟨by rfl, ?_⟩) ?_ ?_
                              rotate_left
                              · intro w'
                                go_simp
                                with_reducible rfl
                              rotate_left
                              · simp only [Act.put, List.setIfInBounds_toArray, List.set_cons_zero, List.set_cons_succ, i64_w, i32_w]
                                rfl
                              refine pure_ (i := 5) (N := some 70) (v := ?_) (a' := ?_) #[true, true, true, true, true, true, false, true, false, false, false] rfl rfl (any_of HT_.out (by kernel_rfl)) (fun _ _ _ h => h) (Or.inl ⟨by rfl, ?_⟩) ?_ ?_
                              rotate_left
                              · intro w'
                                go_simp
                                with_reducible rfl
                              rotate_left
                              · simp only [Act.put, List.setIfInBounds_toArray, List.set_cons_zero, List.set_cons_succ, i64_w, i32_w]
                                rfl
                              refine take_ (i := 8) (N := some 73) (v := ?_) (a' := ?_) #[true, true, true, true, true, true, false, true, true, false, false] rfl rfl (take_ofW HT_.out HW_.out (by kernel_rfl)) (fun _ _ _ h => h) (Or.inl ⟨by rfl, ?_⟩) hHeld ?_ ?_
                              rotate_left
                              · rintro w' ⟨s0, s1, s2, s3⟩
                                go_simp
                                with_reducible rfl
                              rotate_left
                              · simp only [Act.put, List.setIfInBounds_toArray, List.set_cons_zero, List.set_cons_succ, i64_w, i32_w]
                                rfl
                              refine one_ (i := 6) (N := some 71) #[true, true, true, true, true, true, true, true, true, false, false] rfl rfl (one_of HT_.out (by kernel_rfl)) (by decide) (fun K hK => ?_)
                              refine goes_ Try.func32 (by kernel_rfl) rfl #[.slice Ao63 t134.length co63, .int .u64 (IntKind.u64.wrap ((IntKind.u64.wrap ((((rd_T50 ((rd_T47 l0_1 x28_1).f1) x46_2).f2).size : Int))) + 1))] (by rfl) rfl rfl (by (try simp only [List.map_toArray, List.map_cons, List.map_nil]); first | done | rfl | (simp only [List.length_drop, List.length_take]; rfl) | (rw [IntKind.wrap_u64, Int.emod_eq_of_lt (by omega) (by omega)]; rfl)) ?_
                              with_reducible refine (shift_PutUint.calls k2 (fun k_ => some k_ = (.slice Ao63 t134.length co63 : Value).ownBlock) (.slice Ao63 t134.length co63) t134 (IntKind.u64.wrap ((IntKind.u64.wrap ((((rd_T50 ((rd_T47 l0_1 x28_1).f1) x46_2).f2).size : Int))) + 1)) t140 w _ ?side1 ?side2 A50.out).mono ?_
                              (case side1 => repeat (first | (with_reducible first | exact HB.out | apply below_alloc | apply pw_below_drewN | apply below_drew1 | refine below_set ?_ GE113.out | refine below_set ?_ GE122.out | refine below_set ?_ GE130.out) | exact HB.out))
                              (case side2 => exact Kd.R_tight rfl HO136.out)
                              rintro e w64 ⟨v141, rfl, ho0, hb, hkp⟩
                              refine ⟨_, rfl, ?_⟩
                              have n0_ := Aside0.mk (blk_kept (by (with_reducible repeat (first | refine blk_drewN ?_ _ | refine blk_drew ?_ | refine blk_alloc ?_ _)); exact BK113.out) hkp (fun hs_ => (fun e_ => (Kd.R_ne HO136.out BK113.out (by decide)) e_) hs_))
                              have n1_ := Aside0.mk (blk_kept (by (with_reducible repeat (first | refine blk_drewN ?_ _ | refine blk_drew ?_ | refine blk_alloc ?_ _)); exact BK122.out) hkp (fun hs_ => (fun e_ => (Kd.R_ne HO136.out BK122.out (by decide)) e_) hs_))
                              have n2_ := Aside0.mk (blk_kept (by (with_reducible repeat (first | refine blk_drewN ?_ _ | refine blk_drew ?_ | refine blk_alloc ?_ _)); exact BK130.out) hkp (fun hs_ => (fun e_ => (Kd.R_ne HO136.out BK130.out (by decide)) e_) hs_))
                              have n3_ := Aside0.mk (Kd.R_mono (ok' := fun k_ => True) ho0 (fun k_ hk_ => trivial))
                              have n4_ := Aside0.mk (hb)
                              clear BK113
                              clear BK122
                              clear BK130
                              clear HB
                              clear HO136
                              have BK113 := n0_
                              have BK122 := n1_
                              have BK130 := n2_
                              have HO142 := n3_
                              have HB := n4_
                              clear n0_ n1_ n2_ n3_ n4_
                              (try clear hb)
                              (try clear hkp)
                              (try clear ho0)
                              refine hK.out _ _ ⟨(blk_cell BK130.out 0).trans rfl, (blk_cell BK130.out 1).trans rfl, (blk_cell BK130.out 2).trans rfl, (blk_cell BK130.out 3).trans rfl⟩ (fun hHeld => ?_)
                              clear hK K
                              refine norm_ (a' := ?_) ?_ ?_
                              rotate_left
                              · show Act.put _ (some 71) _ = _
                                simp only [Act.put, List.setIfInBounds_toArray, List.set_cons_zero, List.set_cons_succ, i64_w, i32_w]
                                rfl
                              refine one_ (i := 9) (N := some 74) #[true, true, true, true, true, true, true, true, true, true, false] rfl rfl (one_of HT_.out (by kernel_rfl)) (by decide) (fun K hK => ?_)
                              refine R_append_str_step (w0 := w) w.heap.size (by rfl) (.tmp 71) _ 32 9 5 rfl Try.underlying32 Try.underlying9 info5 v141 t140 ((rd_T50 ((rd_T47 l0_1 x28_1).f1) x46_2).f2) (fun _ => True) rfl rfl ?aO ?aB ?aS ?aL ?aF ?_
                              (case aB => exact (by repeat (first | (with_reducible first | exact HB.out | apply below_alloc | apply pw_below_drewN | apply below_drew1 | refine below_set ?_ GE113.out | refine below_set ?_ GE122.out | refine below_set ?_ GE130.out) | exact HB.out)))
                              (case aF => exact (fun _ _ => trivial))
                              (case aO => exact (by (with_reducible repeat (first | apply Kd.R_alloc | apply Kd.R_drewN | apply Kd.R_drew)); exact HO142.out))
                              (case aS => exact (below_size (by repeat (first | (with_reducible first | exact HB.out | apply below_alloc | apply pw_below_drewN | apply below_drew1 | refine below_set ?_ GE113.out | refine below_set ?_ GE122.out | refine below_set ?_ GE130.out) | exact HB.out))))
                              (case aL => have := LMc51.out; omega)
                              intro v144 w65 ho hb hg hat
                              rw [← Ny143.out] at ho
                              change Kd.R (Kd.int .u8) 5 w65 w.heap.size (fun _ => True) v144 y143 at ho
                              have n0_ := Aside0.mk (blk_grown (g := gb113) (o := .cells #[.int .u32 a0_0, .slice (some ad121) l0_1.length c0_1] 25 (0, 0)) (by (with_reducible repeat (first | refine blk_drewN ?_ _ | refine blk_drew ?_ | refine blk_alloc ?_ _)); exact BK113.out) hg (Kd.R_ne HO142.out BK113.out (by decide)))
                              have n1_ := Aside0.mk (blk_grown (g := gb122) (o := .cells #[.int .u64 ((rd_T47 l0_1 x28_1).f0), .slice (some ad129) ((rd_T47 l0_1 x28_1).f1).length c121_1] 47 (0, 0)) (by (with_reducible repeat (first | refine blk_drewN ?_ _ | refine blk_drew ?_ | refine blk_alloc ?_ _)); exact BK122.out) hg (Kd.R_ne HO142.out BK122.out (by decide)))
                              have n2_ := Aside0.mk (blk_grown (g := gb130) (o := .cells #[.int .u8 ((rd_T50 ((rd_T47 l0_1 x28_1).f1) x46_2).f0.f0), .string ((rd_T50 ((rd_T47 l0_1 x28_1).f1) x46_2).f0.f1), .bool false, .string ((rd_T50 ((rd_T47 l0_1 x28_1).f1) x46_2).f2)] 50 (0, 0)) (by (with_reducible repeat (first | refine blk_drewN ?_ _ | refine blk_drew ?_ | refine blk_alloc ?_ _)); exact BK130.out) hg (Kd.R_ne HO142.out BK130.out (by decide)))
                              have n3_ := Aside0.mk (hb)
                              have n4_ := Aside0.mk (ho)
                              clear BK113
                              clear BK122
                              clear BK130
                              clear HB
                              clear HO142
                              have BK113 := n0_
                              have BK122 := n1_
                              have BK130 := n2_
                              have HB := n3_
                              have HO145 := n4_
                              clear n0_ n1_ n2_ n3_ n4_
                              clear ho hb hg hat
                              refine hK.out _ _ ⟨(blk_cell BK130.out 0).trans rfl, (blk_cell BK130.out 1).trans rfl, (blk_cell BK130.out 2).trans rfl, (blk_cell BK130.out 3).trans rfl⟩ (fun hHeld => ?_)
                              clear hK K
                              refine norm_ (a' := ?_) ?_ ?_
                              rotate_left
                              · show Act.put _ (some 74) _ = _
                                simp only [Act.put, List.setIfInBounds_toArray, List.set_cons_zero, List.set_cons_succ, i64_w, i32_w]
                                rfl
                              refine pure_ (i := 10) (N := some 5) (v := ?_) (a' := ?_) #[true, true, true, true, true, true, true, true, true, true, true] rfl rfl (any_of HT_.out (by kernel_rfl)) (fun _ _ _ h => h) (Or.inl ⟨by rfl, ?_⟩) ?_ ?_
                              rotate_left
                              · intro w'
                                go_simp
                                with_reducible rfl
                              rotate_left
                              · simp only [Act.put, List.setIfInBounds_toArray, List.set_cons_zero, List.set_cons_succ, i64_w, i32_w]
                                rfl
                              refine done_ (done_of HT_.out (by kernel_rfl)) ?_
                              try go_wp2
                              go_roundg k2
                              case measure => have := HK1.out; have := HK2.out; omega
                              case rel => exact ⟨(y143), (wrap64 (x46_2 + 1)), (by first | rfl | (simp; done) | (simp [*]; done)), H', ⟨by have := HK1.out; have := HK2.out; omega⟩, ⟨by (with_reducible repeat (first | apply Kd.R_alloc | apply Kd.R_drewN | apply Kd.R_drew)); exact HO145.out⟩, ⟨by (with_reducible repeat (first | refine blk_drewN ?_ _ | refine blk_drew ?_ | refine blk_alloc ?_ _)); exact BK113.out⟩, ⟨by (with_reducible repeat (first | refine blk_drewN ?_ _ | refine blk_drew ?_ | refine blk_alloc ?_ _)); exact BK122.out⟩, ⟨by repeat (first | (with_reducible first | exact HB.out | apply below_alloc | apply pw_below_drewN | apply below_drew1 | refine below_set ?_ GE113.out | refine below_set ?_ GE122.out | refine below_set ?_ GE130.out) | exact HB.out)⟩⟩
                            · rw [if_neg c51] at H
                              exact absurd H (by simp)
                        · rw [if_neg c34] at H
                          exact absurd H (by simp)
                      · rw [if_neg c33] at H
                        exact absurd H (by simp)
                    · rw [if_neg c32] at H
                      exact absurd H (by simp)
                  · rw [if_neg c31] at H
                    have c31b0 : decide (x46_2 < (((rd_T47 l0_1 x28_1).f1).length : Int)) = false := decide_eq_false c31
                    clear c31
                    have H' := Aside0.mk H
                    clear H
                    go_wp2
                    go_roundg k2
                    case measure => have := HK1.out; have := HK2.out; omega
                    case rel => exact ⟨(x5_2), (wrap64 (x28_1 + 1)), (by first | rfl | (simp; done) | (simp [*]; done)), H', ⟨by have := HK1.out; have := HK2.out; omega⟩, ⟨by (with_reducible repeat (first | apply Kd.R_alloc | apply Kd.R_drewN | apply Kd.R_drew)); exact HO_5.out⟩, ⟨by (with_reducible repeat (first | refine blk_drewN ?_ _ | refine blk_drew ?_ | refine blk_alloc ?_ _)); exact BK113.out⟩, ⟨by repeat (first | (with_reducible first | exact HB.out | apply below_alloc | apply pw_below_drewN | apply below_drew1 | refine below_set ?_ GE113.out | refine below_set ?_ GE122.out) | exact HB.out)⟩⟩
            · rw [if_neg c17] at H
              exact absurd H (by simp)
          · rw [if_neg c16] at H
            exact absurd H (by simp)
        · rw [if_neg c15] at H
          have c15b0 : decide (x28_1 < (l0_1.length : Int)) = false := decide_eq_false c15
          clear c15
          simp only [Option.some.injEq, Prod.mk.injEq] at H
          obtain ⟨rfl, rfl⟩ := H
          go_wp2
          go_ret2
          exact ⟨_, by first | rfl | (simp [errW_none, errW_some] <;> rfl) | (simp [*, errW_none, errW_some] <;> rfl), by (with_reducible repeat (first | apply Kd.R_alloc | apply Kd.R_drewN | apply Kd.R_drew)); exact HO_5.out, by repeat (first | (with_reducible first | exact HB.out | apply below_alloc | apply pw_below_drewN | apply below_drew1 | refine below_set ?_ GE113.out) | exact HB.out)⟩
  · rw [if_neg c3] at H
    have c3b0 : (t114 == 0) = false := beq_eq_false_iff_ne.mpr c3
    have c3b1 : (t114 != 0) = true := bne_iff_ne.mpr c3
    simp only [Option.some.injEq, Prod.mk.injEq] at H
    obtain ⟨rfl, rfl⟩ := H
    go_enter Try.func16, Try.ntmps16
    go_wp2_with (first | ((with_reducible refine gate_dst (N := 1) rfl ?_); refine box_event ?hg (N := 1) ?hd (cs := #[.int .u32 a0_0, .slice A0_1 l0_1.length c0_1]) (t := 25) ?hr ?_; (case hd => rfl); (case hg => rfl); (case hr => first | (go_simp; done) | (go_simp; rfl)); intro gb113 hg w66 hbox hb; have n0_ := Aside0.mk (below_step (by repeat (first | (with_reducible first | exact HB.out | apply below_alloc | apply pw_below_drewN | apply below_drew1) | exact HB.out)) hb); have n1_ := Aside0.mk (hbox); have n2_ := Aside0.mk ((by rw [hg]; exact (below_size (by repeat (first | (with_reducible first | exact HB.out | apply below_alloc | apply pw_below_drewN | apply below_drew1) | exact HB.out))) : w.heap.size ≤ gb113)); have n3_ := Aside0.mk ((by rw [hg]; exact (below_size (by repeat (first | (with_reducible first | exact HB.out | apply below_alloc | apply pw_below_drewN | apply below_drew1) | exact HB.out))) : w.heap.size ≤ gb113)); clear HB; have HB := n0_; have BK113 := n1_; have GW113 := n2_; have GE113 := n3_; clear n0_ n1_ n2_ n3_; clear hb hbox hg; have hcz67_0 : w66.cell? ⟨gb113, 0, none⟩ = some (.int .u32 a0_0) := (blk_cell BK113.out 0).trans rfl; have hcz67_1 : w66.cell? ⟨gb113, 1, none⟩ = some (.slice A0_1 l0_1.length c0_1) := (blk_cell BK113.out 1).trans rfl; have hfz67_0 := blk_frozen BK113.out 0; have hfz67_1 := blk_frozen BK113.out 1) | ((with_reducible refine gate_callee (f := 20) rfl ?_); refine goesL_ (some 11) rfl rfl Try.func20 (by kernel_rfl) rfl #[.agg #[.int .u32 a0_0, .slice A0_1 l0_1.length c0_1]] rfl (by (try simp only [List.map_toArray, List.map_cons, List.map_nil]); first | done | rfl | (simp only [List.length_drop, List.length_take]; rfl) | (rw [IntKind.wrap_u64, Int.emod_eq_of_lt (by omega) (by omega)]; rfl)) ?_; (with_reducible refine (codec_Right.calls a0_0 _ _ l0_1 t114 _ ?side1 ?side2 A2.out).mono ?_); (case side1 => repeat (first | exact (Kd.C_below HR0_1.out HB.out) | (with_reducible refine Kd.C_alloc ?_ _) | (with_reducible refine Kd.C_drewN ?_ _) | (with_reducible refine Kd.C_drew ?_))); (case side2 => exact HC0_1.out); rintro e w68 ⟨rfl, hb⟩; refine ⟨_, rfl, ?_⟩; have n0_ := Aside0.mk (blk_below (g := gb113) (o := .cells #[.int .u32 a0_0, .slice A0_1 l0_1.length c0_1] 25 (0, 0)) (by (with_reducible repeat (first | refine blk_drewN ?_ _ | refine blk_drew ?_ | refine blk_alloc ?_ _)); exact BK113.out) hb); have n1_ := Aside0.mk (below_step (by repeat (first | (with_reducible first | exact HB.out | apply below_alloc | apply pw_below_drewN | apply below_drew1 | refine below_set ?_ GE113.out) | exact HB.out)) hb); clear BK113; clear HB; have BK113 := n0_; have HB := n1_; clear n0_ n1_; (try clear hb); (try clear hb2); (try clear hk); (try clear hi)))
    go_ret2
    exact ⟨_, by first | rfl | (simp [errW_none, errW_some] <;> rfl) | (simp [*, errW_none, errW_some] <;> rfl), by first | exact Kd.R_nil _ _ _ _ _ | exact Kd.N_nil _ _ _ _ _ | exact Kd.V_nil _ _ _ _ _ | exact Kd.Q_nil _ _ _ _ _ | exact Kd.S_nil _ _ _ _ _, by repeat (first | (with_reducible first | exact HB.out | apply below_alloc | apply pw_below_drewN | apply below_drew1 | refine below_set ?_ GE113.out) | exact HB.out)⟩

end Go.Proofs.Ytgmdoapedhppmaa.PC

/- Proofs that functions of the program come to what plain Lean functions say; made by wip/drive.py. -/
namespace Go.Proofs.Ytgmdoapedhppmaa.PC
set_option linter.unusedVariables false
set_option linter.unusedSimpArgs false
open Go.RowKit Go.Proofs.YtgmdoapedhppmaaW.PrintWords Go.Proofs.YtgmdoapedhppmaaW.PrintLast Go.Proofs.YtgmdoapedhppmaaW.PrintMore
attribute [local go_sem] max2_int min2_int max_two min_two max_three min_three max_four min_four   -- for this text's walks alone
set_option linter.unusedVariables false
set_option linter.unusedSimpArgs false

/-! ### codec_EncodeRows: function 17 -/
def codec_EncodeRows.l0 : Nat → List Int → List (S57) → Int → Int → Option (List Int × Int)
  | 0, _, _, _, _ => none
  | k + 1, x5, x17, x18, x19 => if x19 < x18 then (if 0 ≤ x19 then (if x19 < (x17.length : Int) then (if x5.length < 140737488355328 then ((codec_text.f k (x5 ++ [(rd_T57 x17 x19).f0.f0]) ((rd_T57 x17 x19).f0.f1)).bind fun t155 => ((codec_text.f k t155 ((rd_T57 x17 x19).f1)).bind fun t158 => (codec_EncodeRows.l0 k t158 x17 x18 (wrap64 (x19 + 1))))) else (none)) else (none)) else (none)) else (some (x5, 0))
def codec_EncodeRows.f (k : Nat) (l0 : List (S57)) : Option (List Int × Int) := (codec_RightRows.f l0).bind fun t146 => (if t146 = 0 then ((shift_PutUint.f k ([] : List Int) (IntKind.u64.wrap ((l0.length : Int)))).bind fun t147 => (codec_EncodeRows.l0 k t147 l0 (l0.length : Int) 0)) else (some (([] : List Int), t146)))
theorem codec_EncodeRows.mono_l : ∀ k, (∀ y0 y1 y2 y3, LeO (codec_EncodeRows.l0 k y0 y1 y2 y3) (codec_EncodeRows.l0 (k + 1) y0 y1 y2 y3))
  | 0 => fun _ _ _ _ r h => by simp [codec_EncodeRows.l0] at h
  | k + 1 => by
    have ih0 := codec_EncodeRows.mono_l k
    · intro y0 y1 y2 y3
      unfold codec_EncodeRows.l0
      repeat' first
      | (with_reducible exact ih0 _ _ _ _)
      | (with_reducible exact codec_text.mono _ _ _)
      | (with_reducible exact shift_PutUint.mono _ _ _)
      | (with_reducible exact LeO.refl _)
      | (with_reducible exact LeO.none _)
      | (with_reducible refine LeO.ite ?_ ?_)
      | (with_reducible refine LeO.bind ?_ (fun _ => ?_))
      | exact ih0 _ _ _ _
      | exact codec_text.mono _ _ _
      | exact shift_PutUint.mono _ _ _
      | exact LeO.none _
      | refine LeO.ite ?_ ?_
      | refine LeO.bind ?_ (fun _ => ?_)
theorem codec_EncodeRows.mono : ∀ a0 k, LeO (codec_EncodeRows.f k a0) (codec_EncodeRows.f (k + 1) a0) := by
  intro a0 k
  have ih0 := codec_EncodeRows.mono_l k
  unfold codec_EncodeRows.f
  repeat' first
      | (with_reducible exact ih0 _ _ _ _)
      | (with_reducible exact codec_text.mono _ _ _)
      | (with_reducible exact shift_PutUint.mono _ _ _)
      | (with_reducible exact LeO.refl _)
      | (with_reducible exact LeO.none _)
      | (with_reducible refine LeO.ite ?_ ?_)
      | (with_reducible refine LeO.bind ?_ (fun _ => ?_))
      | exact ih0 _ _ _ _
      | exact codec_text.mono _ _ _
      | exact shift_PutUint.mono _ _ _
      | exact LeO.none _
      | refine LeO.ite ?_ ?_
      | refine LeO.bind ?_ (fun _ => ?_)
def codec_EncodeRows.T8 : Bool × List (List Nat × List Nat) := (true, [([], []), ([], []), ([1], [1]), ([2], [2]), ([3], [3]), ([0, 4], [0, 4]), ([], []), ([6], [6]), ([7], [7]), ([5, 8, 5], [5, 8]), ([], []), ([10], [10]), ([9, 11, 9], [9, 11]), ([12, 12, 0, 1, 2, 3, 4, 5, 6, 7, 8, 9, 10, 11, 12], [0, 12])])
def codec_EncodeRows.B8 : List Nat := [0, 0, 2, 6, 14, 31, 0, 64, 192, 511, 0, 1024, 4095, 8191]
theorem codec_EncodeRows.tab8 : rtab .any (opsOf Try.f17 8) = codec_EncodeRows.T8 := by kernel_rfl
theorem codec_EncodeRows.bits8 : waitsOk codec_EncodeRows.T8.2 codec_EncodeRows.B8 = true := by kernel_rfl
set_option maxHeartbeats 8000000 in
set_option maxRecDepth 100000 in
theorem codec_EncodeRows.calls (k : Nat) (A0 : Option Addr) (c0 : Nat) (l0 : List (S57)) (r1 : List Int) (r2 : Int) (w : World) (hr0 : Kd.C k57 w A0 l0.length l0) (hc0 : l0.length ≤ c0) (h : codec_EncodeRows.f k l0 = some (r1, r2)) :
    Calls Try.prog 17 #[.slice A0 l0.length c0] w fun e w' => ∃ v0_ : Value, e = .returned (.tuple #[v0_, .int .i64 r2]) ∧ Kd.R (Kd.int .u8) 5 w' w.heap.size (fun _ => True) v0_ r1 ∧ Below w.heap.size w w' := by
  have hu57 := Try.underlying57
  have HR0 := Aside0.mk hr0
  have HC0 := Aside0.mk hc0
  clear hr0 hc0
  have HB := Aside0.mk (Below.refl w.heap.size w)
  have H : ((codec_RightRows.f l0).bind fun t146 => (if t146 = 0 then ((shift_PutUint.f k ([] : List Int) (IntKind.u64.wrap ((l0.length : Int)))).bind fun t147 => (codec_EncodeRows.l0 k t147 l0 (l0.length : Int) 0)) else (some (([] : List Int), t146)))) = some (r1, r2) := h
  clear h
  replace H := Option.bind_eq_some_iff.mp H
  obtain ⟨t146, A20, H⟩ := H
  replace H : (if t146 = 0 then ((shift_PutUint.f k ([] : List Int) (IntKind.u64.wrap ((l0.length : Int)))).bind fun t147 => (codec_EncodeRows.l0 k t147 l0 (l0.length : Int) 0)) else (some (([] : List Int), t146))) = some (r1, r2) := H
  have A2 := Aside0.mk A20
  clear A20
  by_cases c3 : t146 = 0
  · rw [if_pos c3] at H
    have c3b0 : (t146 == 0) = true := beq_iff_eq.mpr c3
    have c3b1 : (t146 != 0) = false := bne_eq_false_iff_eq.mpr c3
    clear c3
    replace H := Option.bind_eq_some_iff.mp H
    obtain ⟨t147, A40, H⟩ := H
    replace H : (codec_EncodeRows.l0 k t147 l0 (l0.length : Int) 0) = some (r1, r2) := H
    have A4 := Aside0.mk A40
    clear A40
    have H' := Aside0.mk H
    clear H
    go_enter Try.func17, Try.ntmps17
    go_wp2_with (first | ((with_reducible refine gate_callee (f := 21) rfl ?_); refine goesL_ (some 9) rfl rfl Try.func21 (by kernel_rfl) rfl #[.slice A0 l0.length c0] rfl (by (try simp only [List.map_toArray, List.map_cons, List.map_nil]); first | done | rfl | (simp only [List.length_drop, List.length_take]; rfl) | (rw [IntKind.wrap_u64, Int.emod_eq_of_lt (by omega) (by omega)]; rfl)) ?_; (with_reducible refine (codec_RightRows.calls _ _ l0 t146 _ ?side1 ?side2 A2.out).mono ?_); (case side1 => repeat (first | exact HR0.out | (with_reducible refine Kd.C_alloc ?_ _) | (with_reducible refine Kd.C_drewN ?_ _) | (with_reducible refine Kd.C_drew ?_))); (case side2 => exact HC0.out); rintro e w5 ⟨rfl, hb⟩; refine ⟨_, rfl, ?_⟩; have n0_ := Aside0.mk (below_step (by repeat (first | (with_reducible first | exact HB.out | apply below_alloc | apply pw_below_drewN | apply below_drew1) | exact HB.out)) hb); clear HB; have HB := n0_; clear n0_; (try clear hb); (try clear hb2); (try clear hk); (try clear hi)) | ((with_reducible refine gate_callee (f := 32) rfl ?_); refine goesL_ (some 16) rfl rfl Try.func32 (by kernel_rfl) rfl #[.slice none 0 0, .int .u64 (IntKind.u64.wrap ((l0.length : Int)))] rfl (by (try simp only [List.map_toArray, List.map_cons, List.map_nil]); first | done | rfl | (simp only [List.length_drop, List.length_take]; rfl) | (rw [IntKind.wrap_u64, Int.emod_eq_of_lt (by omega) (by omega)]; rfl)) ?_; (refine (shift_PutUint.calls k (fun k_ => some k_ = (.slice none 0 0 : Value).ownBlock) (.slice none 0 0) ([] : List Int) (IntKind.u64.wrap ((l0.length : Int))) t147 w _ ?side1 ?side2 A4.out).mono ?_); (case side1 => repeat (first | (with_reducible first | exact HB.out | apply below_alloc | apply pw_below_drewN | apply below_drew1) | exact HB.out)); (case side2 => exact Kd.R_nil _ _ _ _ _); rintro e w6 ⟨v148, rfl, ho0, hb, hkp⟩; refine ⟨_, rfl, ?_⟩; have n0_ := Aside0.mk (Kd.R_mono (ok' := fun k_ => True) ho0 (fun k_ hk_ => trivial)); have n1_ := Aside0.mk (hb); clear HB; have HO149 := n0_; have HB := n1_; clear n0_ n1_; (try clear hb); (try clear hkp); (try clear ho0)))
    go_loopg [5, 19] k (fun kq v5 v19 w' => ∃ (x5_1 : List Int) (x19_1 : Int), v19 = .int .i64 x19_1 ∧ Aside0 (codec_EncodeRows.l0 kq x5_1 l0 (l0.length : Int) x19_1 = some (r1, r2)) ∧ Aside0 (kq ≤ k) ∧ Aside0 (Kd.R (Kd.int .u8) 5 w' w.heap.size (fun _ => True) v5 x5_1) ∧ Aside0 (Below w.heap.size w w'))
    case atStart => exact ⟨(t147), (0), (by first | rfl | (simp; done) | (simp [*]; done)), H', ⟨Nat.le_refl _⟩, ⟨by (with_reducible repeat (first | apply Kd.R_alloc | apply Kd.R_drewN | apply Kd.R_drew)); exact HO149.out⟩, ⟨by repeat (first | (with_reducible first | exact HB.out | apply below_alloc | apply pw_below_drewN | apply below_drew1) | exact HB.out)⟩⟩
    case round =>
      clear H'
      try clear c1
      try clear c2
      try clear p2
      try clear c3
      try clear c3b0
      try clear c3b1
      obtain ⟨x5_1, x19_1, rfl, HA, HK1, HO_5, HB⟩ := hrel
      cases gk with
      | zero => exact absurd HA.out (by simp [codec_EncodeRows.l0])
      | succ k1 =>
        have H := HA.out
        clear HA
        simp only [codec_EncodeRows.l0] at H
        by_cases c7 : x19_1 < (l0.length : Int)
        · rw [if_pos c7] at H
          have c7b0 : decide (x19_1 < (l0.length : Int)) = true := decide_eq_true c7
          clear c7
          by_cases c8 : 0 ≤ x19_1
          · rw [if_pos c8] at H
            have c8b0 : decide (0 ≤ x19_1) = true := decide_eq_true c8
            clear c8
            by_cases c9 : x19_1 < (l0.length : Int)
            · rw [if_pos c9] at H
              have c9b0 : decide (x19_1 < (l0.length : Int)) = true := decide_eq_true c9
              clear c9
              by_cases c10 : x5_1.length < 140737488355328
              · rw [if_pos c10] at H
                have LMc10 := Aside0.mk c10
                clear c10
                obtain ⟨y152, hy152⟩ : ∃ y_ : List Int, y_ = (x5_1 ++ [(rd_T57 l0 x19_1).f0.f0]) := ⟨_, rfl⟩
                replace H : ((codec_text.f k1 y152 ((rd_T57 l0 x19_1).f0.f1)).bind fun t155 => ((codec_text.f k1 t155 ((rd_T57 l0 x19_1).f1)).bind fun t158 => (codec_EncodeRows.l0 k1 t158 l0 (l0.length : Int) (wrap64 (x19_1 + 1))))) = some (r1, r2) := by first | (rw [hy152]; with_reducible exact H) | (have H2_ := (Option.bind_some _ _).symm.trans H; rw [hy152]; with_reducible exact H2_) | (have H2_ := (Option.bind_some _ _).symm.trans H; with_reducible exact H2_) | with_reducible exact H | (rw [hy152]; exact H) | exact H
                have Ny152 := Aside0.mk hy152
                clear hy152
                replace H := Option.bind_eq_some_iff.mp H
                obtain ⟨t155, A110, H⟩ := H
                replace H : ((codec_text.f k1 t155 ((rd_T57 l0 x19_1).f1)).bind fun t158 => (codec_EncodeRows.l0 k1 t158 l0 (l0.length : Int) (wrap64 (x19_1 + 1)))) = some (r1, r2) := H
                have A11 := Aside0.mk A110
                clear A110
                replace H := Option.bind_eq_some_iff.mp H
                obtain ⟨t158, A120, H⟩ := H
                replace H : (codec_EncodeRows.l0 k1 t158 l0 (l0.length : Int) (wrap64 (x19_1 + 1))) = some (r1, r2) := H
                have A12 := Aside0.mk A120
                clear A120
                have H' := Aside0.mk H
                clear H
                have p150 : 0 ≤ (x19_1 : Int) := of_decide_eq_true (by first | (with_reducible assumption) | assumption)
                have q150 : x19_1 < (l0.length : Int) := of_decide_eq_true (by first | (with_reducible assumption) | assumption)
                obtain ⟨ad150, e150, hx150_0, hx150_1, hx150_2⟩ := at_T57 HR0.out x19_1 p150 q150
                cases e150
                replace hx150_0 := (HB.out.cell (World.block_lt_of_cell? w _ hx150_0)).trans hx150_0
                replace hx150_1 := (HB.out.cell (World.block_lt_of_cell? w _ hx150_1)).trans hx150_1
                replace hx150_2 := (HB.out.cell (World.block_lt_of_cell? w _ hx150_2)).trans hx150_2
                replace p150 := eq_true p150
                replace q150 := eq_true q150
                try go_wp2_with (first | ((with_reducible refine gate_dst (N := 7) rfl ?_); refine box_event ?hg (N := 7) ?hd (cs := #[.int .u8 0, .string (⟨#[]⟩ : ByteArray), .string (⟨#[]⟩ : ByteArray)]) (t := 57) ?hr ?_; (case hd => rfl); (case hg => rfl); (case hr => first | (go_simp; done) | (go_simp; rfl)); intro gb151 hg w13 hbox hb; have n0_ := Aside0.mk (Kd.R_below (by (with_reducible repeat (first | apply Kd.R_alloc | apply Kd.R_drewN | apply Kd.R_drew)); exact HO_5.out) hb); have n1_ := Aside0.mk (below_step (by repeat (first | (with_reducible first | exact HB.out | apply below_alloc | apply pw_below_drewN | apply below_drew1) | exact HB.out)) hb); have n2_ := Aside0.mk (hbox); have n3_ := Aside0.mk ((by rw [hg]; exact (below_size (by repeat (first | (with_reducible first | exact HB.out | apply below_alloc | apply pw_below_drewN | apply below_drew1) | exact HB.out))) : w.heap.size ≤ gb151)); have n4_ := Aside0.mk ((by rw [hg]; exact (below_size (by repeat (first | (with_reducible first | exact HB.out | apply below_alloc | apply pw_below_drewN | apply below_drew1) | exact HB.out))) : w.heap.size ≤ gb151)); clear HO_5; clear HB; have HO_5 := n0_; have HB := n1_; have BK151 := n2_; have GW151 := n3_; have GE151 := n4_; clear n0_ n1_ n2_ n3_ n4_; clear hb hbox hg; have hcz14_0 : w13.cell? ⟨gb151, 0, none⟩ = some (.int .u8 0) := (blk_cell BK151.out 0).trans rfl; have hcz14_1 : w13.cell? ⟨gb151, 1, none⟩ = some (.string (⟨#[]⟩ : ByteArray)) := (blk_cell BK151.out 1).trans rfl; have hcz14_2 : w13.cell? ⟨gb151, 2, none⟩ = some (.string (⟨#[]⟩ : ByteArray)) := (blk_cell BK151.out 2).trans rfl; have hfz14_0 := blk_frozen BK151.out 0; have hfz14_1 := blk_frozen BK151.out 1; have hfz14_2 := blk_frozen BK151.out 2))
                have n0_ : Aside0 (Kd.R (Kd.int .u8) 5 (((w13.setCell ⟨gb151, 0, none⟩ (.int .u8 ((rd_T57 l0 x19_1).f0.f0))).setCell ⟨gb151, 1, none⟩ (.string ((rd_T57 l0 x19_1).f0.f1))).setCell ⟨gb151, 2, none⟩ (.string ((rd_T57 l0 x19_1).f1))) w.heap.size (fun _ => True) u5 x5_1) := ⟨by (with_reducible repeat (first | apply Kd.R_alloc | apply Kd.R_drewN | apply Kd.R_drew)); exact Kd.R_mono (Kd.R_far (p := ⟨gb151, 2, none⟩) (Kd.R_far (p := ⟨gb151, 1, none⟩) (Kd.R_far (p := ⟨gb151, 0, none⟩) (Kd.R_types HO_5.out BK151.out (by decide)) (fun _ hk => hk.2) (.int .u8 ((rd_T57 l0 x19_1).f0.f0))) (fun _ hk => hk.2) (.string ((rd_T57 l0 x19_1).f0.f1))) (fun _ hk => hk.2) (.string ((rd_T57 l0 x19_1).f1))) (fun _ hk => trivial)⟩
                have n1_ : Aside0 ((((w13.setCell ⟨gb151, 0, none⟩ (.int .u8 ((rd_T57 l0 x19_1).f0.f0))).setCell ⟨gb151, 1, none⟩ (.string ((rd_T57 l0 x19_1).f0.f1))).setCell ⟨gb151, 2, none⟩ (.string ((rd_T57 l0 x19_1).f1))).heap[gb151]? = some (.cells #[.int .u8 ((rd_T57 l0 x19_1).f0.f0), .string ((rd_T57 l0 x19_1).f0.f1), .string ((rd_T57 l0 x19_1).f1)] 57 (0, 0))) := ⟨by (with_reducible repeat (first | refine blk_drewN ?_ _ | refine blk_drew ?_ | refine blk_alloc ?_ _)); refine blk_put (cs := #[.int .u8 ((rd_T57 l0 x19_1).f0.f0), .string ((rd_T57 l0 x19_1).f0.f1), .string (⟨#[]⟩ : ByteArray)]) ?_ 2 _ rfl; (with_reducible repeat (first | refine blk_drewN ?_ _ | refine blk_drew ?_ | refine blk_alloc ?_ _)); refine blk_put (cs := #[.int .u8 ((rd_T57 l0 x19_1).f0.f0), .string (⟨#[]⟩ : ByteArray), .string (⟨#[]⟩ : ByteArray)]) ?_ 1 _ rfl; (with_reducible repeat (first | refine blk_drewN ?_ _ | refine blk_drew ?_ | refine blk_alloc ?_ _)); refine blk_put (cs := #[.int .u8 0, .string (⟨#[]⟩ : ByteArray), .string (⟨#[]⟩ : ByteArray)]) ?_ 0 _ rfl; (with_reducible repeat (first | refine blk_drewN ?_ _ | refine blk_drew ?_ | refine blk_alloc ?_ _)); exact BK151.out⟩
                have n2_ : Aside0 (Below w.heap.size w (((w13.setCell ⟨gb151, 0, none⟩ (.int .u8 ((rd_T57 l0 x19_1).f0.f0))).setCell ⟨gb151, 1, none⟩ (.string ((rd_T57 l0 x19_1).f0.f1))).setCell ⟨gb151, 2, none⟩ (.string ((rd_T57 l0 x19_1).f1)))) := ⟨by repeat (first | (with_reducible first | exact HB.out | apply below_alloc | apply pw_below_drewN | apply below_drew1 | refine below_set ?_ GE151.out) | exact HB.out)⟩
                (try clear HO_5)
                (try clear BK151)
                (try clear HB)
                generalize (((w13.setCell ⟨gb151, 0, none⟩ (.int .u8 ((rd_T57 l0 x19_1).f0.f0))).setCell ⟨gb151, 1, none⟩ (.string ((rd_T57 l0 x19_1).f0.f1))).setCell ⟨gb151, 2, none⟩ (.string ((rd_T57 l0 x19_1).f1))) = w15 at n0_ n1_ n2_ ⊢
                have HO_5 := n0_
                have BK151 := n1_
                have HB := n2_
                clear n0_ n1_ n2_
                have n0_ := Aside0.mk (Kd.R_drew HO_5.out)
                have n1_ := Aside0.mk (blk_drew BK151.out)
                have n2_ := Aside0.mk (below_drew1 HB.out)
                clear HO_5
                clear BK151
                clear HB
                have HO_5 := n0_
                have BK151 := n1_
                have HB := n2_
                clear n0_ n1_ n2_
                refine start_ (n := 14) (S := fun w' => w'.cell? ⟨gb151, 0, none⟩ = some (.int .u8 ((rd_T57 l0 x19_1).f0.f0)) ∧ w'.cell? ⟨gb151, 1, none⟩ = some (.string ((rd_T57 l0 x19_1).f0.f1)) ∧ w'.cell? ⟨gb151, 2, none⟩ = some (.string ((rd_T57 l0 x19_1).f1))) (ds := []) #[false, false, false, false, false, false, false, false, false, false, false, false, false, false] (by kernel_rfl) rfl rfl ⟨(blk_cell BK151.out 0).trans rfl, (blk_cell BK151.out 1).trans rfl, (blk_cell BK151.out 2).trans rfl⟩ (fun hHeld => ?_); refine with_tabW codec_EncodeRows.tab8 codec_EncodeRows.bits8 (fun HT_ HW_ => ?_)
                generalize w15.drew = w16 at HO_5 BK151 HB hHeld ⊢
                refine pure_ (i := 0) (N := some 23) (v := ?_) (a' := ?_) #[true, false, false, false, false, false, false, false, false, false, false, false, false, false] rfl rfl (any_of HT_.out (by kernel_rfl)) (fun _ _ _ h => h) (Or.inl ⟨by rfl, ?_⟩) ?_ ?_
                rotate_left
                · intro w'
                  go_simp
                  with_reducible rfl
                rotate_left
                · simp only [Act.put, List.setIfInBounds_toArray, List.set_cons_zero, List.set_cons_succ, i64_w, i32_w]
                  rfl
                refine pure_ (i := 1) (N := some 24) (v := ?_) (a' := ?_) #[true, true, false, false, false, false, false, false, false, false, false, false, false, false] rfl rfl (any_of HT_.out (by kernel_rfl)) (fun _ _ _ h => h) (Or.inl ⟨by rfl, ?_⟩) ?_ ?_
                rotate_left
                · intro w'
                  go_simp
                  with_reducible rfl
                rotate_left
                · simp only [Act.put, List.setIfInBounds_toArray, List.set_cons_zero, List.set_cons_succ, i64_w, i32_w]
                  rfl
                refine pure_ (i := 2) (N := some 25) (v := ?_) (a' := ?_) #[true, true, true, false, false, false, false, false, false, false, false, false, false, false] rfl rfl (any_of HT_.out (by kernel_rfl)) (fun _ _ _ h => h) (Or.inl ⟨by rfl, ?_⟩) ?_ ?_
                rotate_left
                · intro w'
                  go_simp
                  with_reducible rfl
                rotate_left
                · simp only [Act.put, List.setIfInBounds_toArray, List.set_cons_zero, List.set_cons_succ, i64_w, i32_w]
                  rfl
                refine pure_ (i := 6) (N := some 29) (v := ?_) (a' := ?_) #[true, true, true, false, false, false, true, false, false, false, false, false, false, false] rfl rfl (any_of HT_.out (by kernel_rfl)) (fun _ _ _ h => h) (Or.inl ⟨by rfl, ?_⟩) ?_ ?_
                rotate_left
                · intro w'
                  go_simp
                  with_reducible rfl
                rotate_left
                · simp only [Act.put, List.setIfInBounds_toArray, List.set_cons_zero, List.set_cons_succ, i64_w, i32_w]
                  rfl
                refine pure_ (i := 7) (N := some 30) (v := ?_) (a' := ?_) #[true, true, true, false, false, false, true, true, false, false, false, false, false, false] rfl rfl (any_of HT_.out (by kernel_rfl)) (fun _ _ _ h => h) (Or.inl ⟨by rfl, ?_⟩) ?_ ?_
                rotate_left
                · intro w'
                  go_simp
                  with_reducible rfl
                rotate_left
                · simp only [Act.put, List.setIfInBounds_toArray, List.set_cons_zero, List.set_cons_succ, i64_w, i32_w]
                  rfl
                refine pure_ (i := 10) (N := some 33) (v := ?_) (a' := ?_) #[true, true, true, false, false, false, true, true, false, false, true, false, false, false] rfl rfl (any_of HT_.out (by kernel_rfl)) (fun _ _ _ h => h) (Or.inl ⟨by rfl, ?_⟩) ?_ ?_
                rotate_left
                · intro w'
                  go_simp
                  with_reducible rfl
                rotate_left
                · simp only [Act.put, List.setIfInBounds_toArray, List.set_cons_zero, List.set_cons_succ, i64_w, i32_w]
                  rfl
                refine take_ (i := 3) (N := some 26) (v := ?_) (a' := ?_) #[true, true, true, true, false, false, true, true, false, false, true, false, false, false] rfl rfl (take_ofW HT_.out HW_.out (by kernel_rfl)) (fun _ _ _ h => h) (Or.inl ⟨by rfl, ?_⟩) hHeld ?_ ?_
                rotate_left
                · rintro w' ⟨s0, s1, s2⟩
                  go_simp
                  with_reducible rfl
                rotate_left
                · simp only [Act.put, List.setIfInBounds_toArray, List.set_cons_zero, List.set_cons_succ, i64_w, i32_w]
                  rfl
                refine take_ (i := 8) (N := some 31) (v := ?_) (a' := ?_) #[true, true, true, true, false, false, true, true, true, false, true, false, false, false] rfl rfl (take_ofW HT_.out HW_.out (by kernel_rfl)) (fun _ _ _ h => h) (Or.inl ⟨by rfl, ?_⟩) hHeld ?_ ?_
                rotate_left
                · rintro w' ⟨s0, s1, s2⟩
                  go_simp
                  with_reducible rfl
                rotate_left
                · simp only [Act.put, List.setIfInBounds_toArray, List.set_cons_zero, List.set_cons_succ, i64_w, i32_w]
                  rfl
                refine take_ (i := 11) (N := some 34) (v := ?_) (a' := ?_) #[true, true, true, true, false, false, true, true, true, false, true, true, false, false] rfl rfl (take_ofW HT_.out HW_.out (by kernel_rfl)) (fun _ _ _ h => h) (Or.inl ⟨by rfl, ?_⟩) hHeld ?_ ?_
                rotate_left
                · rintro w' ⟨s0, s1, s2⟩
                  go_simp
                  with_reducible rfl
                rotate_left
                · simp only [Act.put, List.setIfInBounds_toArray, List.set_cons_zero, List.set_cons_succ, i64_w, i32_w]
                  rfl
                refine one_ (i := 4) (N := some 27) #[true, true, true, true, true, false, true, true, true, false, true, true, false, false] rfl rfl (one_of HT_.out (by kernel_rfl)) (by decide) (fun K hK => ?_)
                refine value_ (w1 := ?_) (v := ?_) (by rfl) rfl ?_ ?_
                rotate_left 2
                · go_simp
                  constructor
                  · rfl
                  · rfl
                refine hK.out _ _ ⟨(blk_cell (blk_alloc BK151.out _) 0).trans rfl, (blk_cell (blk_alloc BK151.out _) 1).trans rfl, (blk_cell (blk_alloc BK151.out _) 2).trans rfl⟩ (fun hHeld => ?_)
                clear hK K
                refine norm_ (a' := ?_) ?_ ?_
                rotate_left
                · show Act.put _ (some 27) _ = _
                  simp only [Act.put, List.setIfInBounds_toArray, List.set_cons_zero, List.set_cons_succ, i64_w, i32_w]
                  rfl
                refine one_ (i := 5) (N := some 28) #[true, true, true, true, true, true, true, true, true, false, true, true, false, false] rfl rfl (one_of HT_.out (by kernel_rfl)) (by decide) (fun K hK => ?_)
                refine Kd.R_append_step (Kd.int .u8) (w0 := w) w.heap.size (by rfl) (.tmp 23) (.tmp 27) 32 5 (.int .u8 0) 1 rfl Try.underlying32 info5 rfl (by decide) (by omega) u5 x5_1 ((rd_T57 l0 x19_1).f0.f0) [.int .u8 ((rd_T57 l0 x19_1).f0.f0)] (fun _ => True) (fun _ => False) rfl rfl ?aP (fun _ hk => hk.elim) ?aF ?aO ?aB ?aS ?aL ?_
                (case aP => exact rfl)
                (case aB => exact (by repeat (first | (with_reducible first | exact HB.out | apply below_alloc | apply pw_below_drewN | apply below_drew1 | refine below_set ?_ GE151.out) | exact HB.out)))
                (case aF => exact (fun _ _ => trivial))
                (case aO => exact (by (with_reducible repeat (first | apply Kd.R_alloc | apply Kd.R_drewN | apply Kd.R_drew)); exact HO_5.out))
                (case aS => exact (below_size (by repeat (first | (with_reducible first | exact HB.out | apply below_alloc | apply pw_below_drewN | apply below_drew1 | refine below_set ?_ GE151.out) | exact HB.out))))
                (case aL => have := LMc10.out; omega)
                intro v153 w17 ho hb hg hat
                rw [← Ny152.out] at ho
                have n0_ := Aside0.mk (blk_grown (g := gb151) (o := .cells #[.int .u8 ((rd_T57 l0 x19_1).f0.f0), .string ((rd_T57 l0 x19_1).f0.f1), .string ((rd_T57 l0 x19_1).f1)] 57 (0, 0)) (by (with_reducible repeat (first | refine blk_drewN ?_ _ | refine blk_drew ?_ | refine blk_alloc ?_ _)); exact BK151.out) hg (Kd.R_ne HO_5.out BK151.out (by decide)))
                have n1_ := Aside0.mk (hb)
                have n2_ := Aside0.mk (ho)
                clear BK151
                clear HB
                clear HO_5
                have BK151 := n0_
                have HB := n1_
                have HO154 := n2_
                clear n0_ n1_ n2_
                clear ho hb hg hat
                obtain ⟨Ao18, co18, eo18⟩ := Kd.R_slice HO154.out
                (first | subst eo18 | (injection eo18 with f1_ f2_ f3_; have f4_ := f1_.symm; have f5_ := f3_.symm; clear f1_ f2_ f3_; subst f4_; subst f5_))
                refine hK.out _ _ ⟨(blk_cell BK151.out 0).trans rfl, (blk_cell BK151.out 1).trans rfl, (blk_cell BK151.out 2).trans rfl⟩ (fun hHeld => ?_)
                clear hK K
                refine norm_ (a' := ?_) ?_ ?_
                rotate_left
                · show Act.put _ (some 28) _ = _
                  simp only [Act.put, List.setIfInBounds_toArray, List.set_cons_zero, List.set_cons_succ, i64_w, i32_w]
                  rfl
                refine one_ (i := 9) (N := some 32) #[true, true, true, true, true, true, true, true, true, true, true, true, false, false] rfl rfl (one_of HT_.out (by kernel_rfl)) (by decide) (fun K hK => ?_)
                refine goes_ Try.func33 (by kernel_rfl) rfl #[.slice Ao18 y152.length co18, .string ((rd_T57 l0 x19_1).f0.f1)] (by rfl) rfl rfl (by (try simp only [List.map_toArray, List.map_cons, List.map_nil]); first | done | rfl | (simp only [List.length_drop, List.length_take]; rfl) | (rw [IntKind.wrap_u64, Int.emod_eq_of_lt (by omega) (by omega)]; rfl)) ?_
                with_reducible refine (codec_text.calls k1 (fun k_ => some k_ = (.slice Ao18 y152.length co18 : Value).ownBlock) (.slice Ao18 y152.length co18) y152 ((rd_T57 l0 x19_1).f0.f1) t155 w _ ?side1 ?side2 A11.out).mono ?_
                (case side1 => repeat (first | (with_reducible first | exact HB.out | apply below_alloc | apply pw_below_drewN | apply below_drew1 | refine below_set ?_ GE151.out) | exact HB.out))
                (case side2 => exact Kd.R_tight rfl HO154.out)
                rintro e w19 ⟨v156, rfl, ho0, hb, hkp⟩
                refine ⟨_, rfl, ?_⟩
                have n0_ := Aside0.mk (blk_kept (by (with_reducible repeat (first | refine blk_drewN ?_ _ | refine blk_drew ?_ | refine blk_alloc ?_ _)); exact BK151.out) hkp (fun hs_ => (fun e_ => (Kd.R_ne HO154.out BK151.out (by decide)) e_) hs_))
                have n1_ := Aside0.mk (Kd.R_mono (ok' := fun k_ => True) ho0 (fun k_ hk_ => trivial))
                have n2_ := Aside0.mk (hb)
                clear BK151
                clear HB
                clear HO154
                have BK151 := n0_
                have HO157 := n1_
                have HB := n2_
                clear n0_ n1_ n2_
                (try clear hb)
                (try clear hkp)
                (try clear ho0)
                obtain ⟨Ao20, co20, eo20⟩ := Kd.R_slice HO157.out
                (first | subst eo20 | (injection eo20 with f1_ f2_ f3_; have f4_ := f1_.symm; have f5_ := f3_.symm; clear f1_ f2_ f3_; subst f4_; subst f5_))
                refine hK.out _ _ ⟨(blk_cell BK151.out 0).trans rfl, (blk_cell BK151.out 1).trans rfl, (blk_cell BK151.out 2).trans rfl⟩ (fun hHeld => ?_)
                clear hK K
                refine norm_ (a' := ?_) ?_ ?_
                rotate_left
                · show Act.put _ (some 32) _ = _
                  simp only [Act.put, List.setIfInBounds_toArray, List.set_cons_zero, List.set_cons_succ, i64_w, i32_w]
                  rfl
                refine one_ (i := 12) (N := some 35) #[true, true, true, true, true, true, true, true, true, true, true, true, true, false] rfl rfl (one_of HT_.out (by kernel_rfl)) (by decide) (fun K hK => ?_)
                refine goes_ Try.func33 (by kernel_rfl) rfl #[.slice Ao20 t155.length co20, .string ((rd_T57 l0 x19_1).f1)] (by rfl) rfl rfl (by (try simp only [List.map_toArray, List.map_cons, List.map_nil]); first | done | rfl | (simp only [List.length_drop, List.length_take]; rfl) | (rw [IntKind.wrap_u64, Int.emod_eq_of_lt (by omega) (by omega)]; rfl)) ?_
                with_reducible refine (codec_text.calls k1 (fun k_ => some k_ = (.slice Ao20 t155.length co20 : Value).ownBlock) (.slice Ao20 t155.length co20) t155 ((rd_T57 l0 x19_1).f1) t158 w _ ?side1 ?side2 A12.out).mono ?_
                (case side1 => repeat (first | (with_reducible first | exact HB.out | apply below_alloc | apply pw_below_drewN | apply below_drew1 | refine below_set ?_ GE151.out) | exact HB.out))
                (case side2 => exact Kd.R_tight rfl HO157.out)
                rintro e w21 ⟨v159, rfl, ho0, hb, hkp⟩
                refine ⟨_, rfl, ?_⟩
                have n0_ := Aside0.mk (blk_kept (by (with_reducible repeat (first | refine blk_drewN ?_ _ | refine blk_drew ?_ | refine blk_alloc ?_ _)); exact BK151.out) hkp (fun hs_ => (fun e_ => (Kd.R_ne HO157.out BK151.out (by decide)) e_) hs_))
                have n1_ := Aside0.mk (Kd.R_mono (ok' := fun k_ => True) ho0 (fun k_ hk_ => trivial))
                have n2_ := Aside0.mk (hb)
                clear BK151
                clear HB
                clear HO157
                have BK151 := n0_
                have HO160 := n1_
                have HB := n2_
                clear n0_ n1_ n2_
                (try clear hb)
                (try clear hkp)
                (try clear ho0)
                refine hK.out _ _ ⟨(blk_cell BK151.out 0).trans rfl, (blk_cell BK151.out 1).trans rfl, (blk_cell BK151.out 2).trans rfl⟩ (fun hHeld => ?_)
                clear hK K
                refine norm_ (a' := ?_) ?_ ?_
                rotate_left
                · show Act.put _ (some 35) _ = _
                  simp only [Act.put, List.setIfInBounds_toArray, List.set_cons_zero, List.set_cons_succ, i64_w, i32_w]
                  rfl
                refine pure_ (i := 13) (N := some 5) (v := ?_) (a' := ?_) #[true, true, true, true, true, true, true, true, true, true, true, true, true, true] rfl rfl (any_of HT_.out (by kernel_rfl)) (fun _ _ _ h => h) (Or.inl ⟨by rfl, ?_⟩) ?_ ?_
                rotate_left
                · intro w'
                  go_simp
                  with_reducible rfl
                rotate_left
                · simp only [Act.put, List.setIfInBounds_toArray, List.set_cons_zero, List.set_cons_succ, i64_w, i32_w]
                  rfl
                refine done_ (done_of HT_.out (by kernel_rfl)) ?_
                try go_wp2
                go_roundg k1
                case measure => have := HK1.out; omega
                case rel => exact ⟨(t158), (wrap64 (x19_1 + 1)), (by first | rfl | (simp; done) | (simp [*]; done)), H', ⟨by have := HK1.out; omega⟩, ⟨by (with_reducible repeat (first | apply Kd.R_alloc | apply Kd.R_drewN | apply Kd.R_drew)); exact HO160.out⟩, ⟨by repeat (first | (with_reducible first | exact HB.out | apply below_alloc | apply pw_below_drewN | apply below_drew1 | refine below_set ?_ GE151.out) | exact HB.out)⟩⟩
              · rw [if_neg c10] at H
                exact absurd H (by simp)
            · rw [if_neg c9] at H
              exact absurd H (by simp)
          · rw [if_neg c8] at H
            exact absurd H (by simp)
        · rw [if_neg c7] at H
          have c7b0 : decide (x19_1 < (l0.length : Int)) = false := decide_eq_false c7
          clear c7
          simp only [Option.some.injEq, Prod.mk.injEq] at H
          obtain ⟨rfl, rfl⟩ := H
          go_wp2
          go_ret2
          exact ⟨_, by first | rfl | (simp [errW_none, errW_some] <;> rfl) | (simp [*, errW_none, errW_some] <;> rfl), by (with_reducible repeat (first | apply Kd.R_alloc | apply Kd.R_drewN | apply Kd.R_drew)); exact HO_5.out, by repeat (first | (with_reducible first | exact HB.out | apply below_alloc | apply pw_below_drewN | apply below_drew1) | exact HB.out)⟩
  · rw [if_neg c3] at H
    have c3b0 : (t146 == 0) = false := beq_eq_false_iff_ne.mpr c3
    have c3b1 : (t146 != 0) = true := bne_iff_ne.mpr c3
    simp only [Option.some.injEq, Prod.mk.injEq] at H
    obtain ⟨rfl, rfl⟩ := H
    go_enter Try.func17, Try.ntmps17
    go_wp2_with (first | ((with_reducible refine gate_callee (f := 21) rfl ?_); refine goesL_ (some 9) rfl rfl Try.func21 (by kernel_rfl) rfl #[.slice A0 l0.length c0] rfl (by (try simp only [List.map_toArray, List.map_cons, List.map_nil]); first | done | rfl | (simp only [List.length_drop, List.length_take]; rfl) | (rw [IntKind.wrap_u64, Int.emod_eq_of_lt (by omega) (by omega)]; rfl)) ?_; (with_reducible refine (codec_RightRows.calls _ _ l0 t146 _ ?side1 ?side2 A2.out).mono ?_); (case side1 => repeat (first | exact HR0.out | (with_reducible refine Kd.C_alloc ?_ _) | (with_reducible refine Kd.C_drewN ?_ _) | (with_reducible refine Kd.C_drew ?_))); (case side2 => exact HC0.out); rintro e w22 ⟨rfl, hb⟩; refine ⟨_, rfl, ?_⟩; have n0_ := Aside0.mk (below_step (by repeat (first | (with_reducible first | exact HB.out | apply below_alloc | apply pw_below_drewN | apply below_drew1) | exact HB.out)) hb); clear HB; have HB := n0_; clear n0_; (try clear hb); (try clear hb2); (try clear hk); (try clear hi)))
    go_ret2
    exact ⟨_, by first | rfl | (simp [errW_none, errW_some] <;> rfl) | (simp [*, errW_none, errW_some] <;> rfl), by first | exact Kd.R_nil _ _ _ _ _ | exact Kd.N_nil _ _ _ _ _ | exact Kd.V_nil _ _ _ _ _ | exact Kd.Q_nil _ _ _ _ _ | exact Kd.S_nil _ _ _ _ _, by repeat (first | (with_reducible first | exact HB.out | apply below_alloc | apply pw_below_drewN | apply below_drew1) | exact HB.out)⟩

end Go.Proofs.Ytgmdoapedhppmaa.PC

/- Proofs that functions of the program come to what plain Lean functions say; made by wip/drive.py. -/
namespace Go.Proofs.Ytgmdoapedhppmaa.PC
set_option linter.unusedVariables false
set_option linter.unusedSimpArgs false
open Go.RowKit Go.Proofs.YtgmdoapedhppmaaW.PrintWords Go.Proofs.YtgmdoapedhppmaaW.PrintLast Go.Proofs.YtgmdoapedhppmaaW.PrintMore
attribute [local go_sem] max2_int min2_int max_two min_two max_three min_three max_four min_four   -- for this text's walks alone
set_option linter.unusedVariables false
set_option linter.unusedSimpArgs false

/-! ### shift_GetUint: function 83 -/
mutual
def shift_GetUint.l0 : Nat → List Int → Int → Int → Option (Int × Int × Int)
  | 0, _, _, _ => none
  | k + 1, x0, x2, x3 => if x3 < (x0.length : Int) then (shift_GetUint.j1 k x0 x2 x3 (decide (x3 < 10))) else (shift_GetUint.j1 k x0 x2 x3 false)
def shift_GetUint.j1 : Nat → List Int → Int → Int → Bool → Option (Int × Int × Int)
  | 0, _, _, _, _ => none
  | k + 1, x0, x2, x3, x14 => if x14 = true then (if 0 ≤ x3 then (if x3 < (x0.length : Int) then (if 0 ≤ (wrap64 (7 * x3)) then (if (shr .u64 (shl .u64 (IntKind.u64.wrap (Go.bits .andNot .u8 (rd x0 x3) 128)) (wrap64 (7 * x3))) (wrap64 (7 * x3))) = (IntKind.u64.wrap (Go.bits .andNot .u8 (rd x0 x3) 128)) then (if ((rd x0 x3) / 128) = 0 then (if (rd x0 x3) = 0 then (if (wrap64 (x3 + 1)) > 1 then (some (0, 0, 3)) else (some (Go.bits .or .u64 x2 (shl .u64 (IntKind.u64.wrap (Go.bits .andNot .u8 (rd x0 x3) 128)) (wrap64 (7 * x3))), wrap64 (x3 + 1), 0))) else (some (Go.bits .or .u64 x2 (shl .u64 (IntKind.u64.wrap (Go.bits .andNot .u8 (rd x0 x3) 128)) (wrap64 (7 * x3))), wrap64 (x3 + 1), 0))) else (shift_GetUint.l0 k x0 (Go.bits .or .u64 x2 (shl .u64 (IntKind.u64.wrap (Go.bits .andNot .u8 (rd x0 x3) 128)) (wrap64 (7 * x3)))) (wrap64 (x3 + 1)))) else (some (0, 0, 3))) else (none)) else (none)) else (none)) else (if x3 = 10 then (some (0, 0, 3)) else (some (0, 0, 2)))
end
def shift_GetUint.f (k : Nat) (l0 : List Int) : Option (Int × Int × Int) := shift_GetUint.l0 k l0 0 0
theorem shift_GetUint.mono_l : ∀ k, (∀ y0 y1 y2, LeO (shift_GetUint.l0 k y0 y1 y2) (shift_GetUint.l0 (k + 1) y0 y1 y2)) ∧ (∀ y0 y1 y2 y3, LeO (shift_GetUint.j1 k y0 y1 y2 y3) (shift_GetUint.j1 (k + 1) y0 y1 y2 y3))
  | 0 => ⟨fun _ _ _ r h => by simp [shift_GetUint.l0] at h, fun _ _ _ _ r h => by simp [shift_GetUint.j1] at h⟩
  | k + 1 => by
    obtain ⟨ih0, ih1⟩ := shift_GetUint.mono_l k
    refine ⟨?_, ?_⟩
    · intro y0 y1 y2
      unfold shift_GetUint.l0
      repeat' first
      | (with_reducible exact ih0 _ _ _)
      | (with_reducible exact ih1 _ _ _ _)
      | (with_reducible exact LeO.refl _)
      | (with_reducible exact LeO.none _)
      | (with_reducible refine LeO.ite ?_ ?_)
      | (with_reducible refine LeO.bind ?_ (fun _ => ?_))
      | exact ih0 _ _ _
      | exact ih1 _ _ _ _
      | exact LeO.none _
      | refine LeO.ite ?_ ?_
      | refine LeO.bind ?_ (fun _ => ?_)
    · intro y0 y1 y2 y3
      unfold shift_GetUint.j1
      repeat' first
      | (with_reducible exact ih0 _ _ _)
      | (with_reducible exact ih1 _ _ _ _)
      | (with_reducible exact LeO.refl _)
      | (with_reducible exact LeO.none _)
      | (with_reducible refine LeO.ite ?_ ?_)
      | (with_reducible refine LeO.bind ?_ (fun _ => ?_))
      | exact ih0 _ _ _
      | exact ih1 _ _ _ _
      | exact LeO.none _
      | refine LeO.ite ?_ ?_
      | refine LeO.bind ?_ (fun _ => ?_)
theorem shift_GetUint.mono : ∀ a0 k, LeO (shift_GetUint.f k a0) (shift_GetUint.f (k + 1) a0) := by
  intro a0 k
  obtain ⟨ih0, ih1⟩ := shift_GetUint.mono_l k
  unfold shift_GetUint.f
  repeat' first
      | (with_reducible exact ih0 _ _ _)
      | (with_reducible exact ih1 _ _ _ _)
      | (with_reducible exact LeO.refl _)
      | (with_reducible exact LeO.none _)
      | (with_reducible refine LeO.ite ?_ ?_)
      | (with_reducible refine LeO.bind ?_ (fun _ => ?_))
      | exact ih0 _ _ _
      | exact ih1 _ _ _ _
      | exact LeO.none _
      | refine LeO.ite ?_ ?_
      | refine LeO.bind ?_ (fun _ => ?_)
set_option maxHeartbeats 8000000 in
set_option maxRecDepth 100000 in
theorem shift_GetUint.calls (k : Nat) (A0 : Option Addr) (c0 : Nat) (l0 : List Int) (r1 : Int) (r2 : Int) (r3 : Int) (w : World) (hr0 : Kd.C (Kd.int .u8) w A0 l0.length l0) (hc0 : l0.length ≤ c0) (h : shift_GetUint.f k l0 = some (r1, r2, r3)) :
    Calls Try.prog 83 #[.slice A0 l0.length c0] w fun e w' => e = .returned (.tuple #[.int .u64 r1, .int .i64 r2, .int .i64 r3]) ∧ Drawn0 w w' := by
  have HR0 := Aside0.mk hr0
  have HC0 := Aside0.mk hc0
  clear hr0 hc0
  have H : (shift_GetUint.l0 k l0 0 0) = some (r1, r2, r3) := h
  clear h
  have H' := Aside0.mk H
  clear H
  go_enter Try.func83, Try.ntmps83
  go_wp2
  go_loopg [2, 3] k (fun kq v2 v3 w' => ∃ (x2_1 : Int) (x3_1 : Int), v2 = .int .u64 x2_1 ∧ v3 = .int .i64 x3_1 ∧ Aside0 (shift_GetUint.l0 kq l0 x2_1 x3_1 = some (r1, r2, r3)) ∧ Aside0 (kq ≤ k) ∧ Drawn0 w w')
  case atStart => exact ⟨(0), (0), (by first | rfl | (simp; done) | (simp [*]; done)), (by first | rfl | (simp; done) | (simp [*]; done)), H', ⟨Nat.le_refl _⟩, by repeat (first | exact Drawn0.refl _ | apply Drawn0.step)⟩
  case round =>
    clear H'
    obtain ⟨x2_1, x3_1, rfl, rfl, HA, HK1, ⟨m1, rfl⟩⟩ := hrel
    cases gk with
    | zero => exact absurd HA.out (by simp [shift_GetUint.l0])
    | succ k1 =>
      have H := HA.out
      clear HA
      simp only [shift_GetUint.l0] at H
      have HC2 := Aside0.mk H
      clear H
      go_upto_region 1 with (fail)
      go_cut [14] (fun v14 wc => ∃ (kq : Nat) (x14_1 : Bool), v14 = .bool x14_1 ∧ Aside0 (shift_GetUint.j1 kq l0 x2_1 x3_1 x14_1 = some (r1, r2, r3)) ∧ Aside0 (kq ≤ k1) ∧ Drawn0 w wc)
      case first =>
        have H := HC2.out
        clear HC2
        by_cases c3 : x3_1 < (l0.length : Int)
        · rw [if_pos c3] at H
          have c3b0 : decide (x3_1 < (l0.length : Int)) = true := decide_eq_true c3
          clear c3
          (first | rw [c3b0] | (simp only [i64_w, i32_w]; rw [c3b0]) | skip)
          have H' := Aside0.mk H
          clear H
          go_wp2
          go_meet
          case rel => exact ⟨_, (decide (x3_1 < 10)), (by first | rfl | (simp; done) | (simp [*]; done)), H', ⟨by have := HK1.out; first | omega | exact Nat.le_refl _⟩, by repeat (first | exact Drawn0.refl _ | apply Drawn0.step)⟩
        · rw [if_neg c3] at H
          have c3b0 : decide (x3_1 < (l0.length : Int)) = false := decide_eq_false c3
          clear c3
          (first | rw [c3b0] | (simp only [i64_w, i32_w]; rw [c3b0]) | skip)
          have H' := Aside0.mk H
          clear H
          go_wp2
          go_meet
          case rel => exact ⟨_, (false), (by first | rfl | (simp; done) | (simp [*]; done)), H', ⟨by have := HK1.out; first | omega | exact Nat.le_refl _⟩, by repeat (first | exact Drawn0.refl _ | apply Drawn0.step)⟩
      case rest =>
        clear HC2
        try clear p2
        try clear c3
        try clear c3b0
        obtain ⟨kq, x14_1, rfl, HA, HJ1, ⟨mc1, rfl⟩⟩ := hcut
        cases kq with
        | zero => exact absurd HA.out (by simp [shift_GetUint.j1])
        | succ kj1 =>
          have H := HA.out
          clear HA
          simp only [shift_GetUint.j1] at H
          by_cases c4 : x14_1 = true
          · subst c4
            have H1 : (if 0 ≤ x3_1 then (if x3_1 < (l0.length : Int) then (if 0 ≤ (wrap64 (7 * x3_1)) then (if (shr .u64 (shl .u64 (IntKind.u64.wrap (Go.bits .andNot .u8 (rd l0 x3_1) 128)) (wrap64 (7 * x3_1))) (wrap64 (7 * x3_1))) = (IntKind.u64.wrap (Go.bits .andNot .u8 (rd l0 x3_1) 128)) then (if ((rd l0 x3_1) / 128) = 0 then (if (rd l0 x3_1) = 0 then (if (wrap64 (x3_1 + 1)) > 1 then (some (0, 0, 3)) else (some (Go.bits .or .u64 x2_1 (shl .u64 (IntKind.u64.wrap (Go.bits .andNot .u8 (rd l0 x3_1) 128)) (wrap64 (7 * x3_1))), wrap64 (x3_1 + 1), 0))) else (some (Go.bits .or .u64 x2_1 (shl .u64 (IntKind.u64.wrap (Go.bits .andNot .u8 (rd l0 x3_1) 128)) (wrap64 (7 * x3_1))), wrap64 (x3_1 + 1), 0))) else (shift_GetUint.l0 kj1 l0 (Go.bits .or .u64 x2_1 (shl .u64 (IntKind.u64.wrap (Go.bits .andNot .u8 (rd l0 x3_1) 128)) (wrap64 (7 * x3_1)))) (wrap64 (x3_1 + 1)))) else (some (0, 0, 3))) else (none)) else (none)) else (none)) = some (r1, r2, r3) := by rw [if_pos rfl] at H; exact H
            clear H
            have H := H1
            clear H1
            by_cases c5 : 0 ≤ x3_1
            · rw [if_pos c5] at H
              have c5b0 : decide (0 ≤ x3_1) = true := decide_eq_true c5
              clear c5
              by_cases c6 : x3_1 < (l0.length : Int)
              · rw [if_pos c6] at H
                have c6b0 : decide (x3_1 < (l0.length : Int)) = true := decide_eq_true c6
                clear c6
                obtain ⟨ji7, hji7⟩ : ∃ j_ : Int, (wrap64 (7 * x3_1)) = j_ := ⟨_, rfl⟩
                replace H : (if 0 ≤ (ji7) then (if (shr .u64 (shl .u64 (IntKind.u64.wrap (Go.bits .andNot .u8 (rd l0 x3_1) 128)) (ji7)) (ji7)) = (IntKind.u64.wrap (Go.bits .andNot .u8 (rd l0 x3_1) 128)) then (if ((rd l0 x3_1) / 128) = 0 then (if (rd l0 x3_1) = 0 then (if (wrap64 (x3_1 + 1)) > 1 then (some (0, 0, 3)) else (some (Go.bits .or .u64 x2_1 (shl .u64 (IntKind.u64.wrap (Go.bits .andNot .u8 (rd l0 x3_1) 128)) (ji7)), wrap64 (x3_1 + 1), 0))) else (some (Go.bits .or .u64 x2_1 (shl .u64 (IntKind.u64.wrap (Go.bits .andNot .u8 (rd l0 x3_1) 128)) (ji7)), wrap64 (x3_1 + 1), 0))) else (shift_GetUint.l0 kj1 l0 (Go.bits .or .u64 x2_1 (shl .u64 (IntKind.u64.wrap (Go.bits .andNot .u8 (rd l0 x3_1) 128)) (ji7))) (wrap64 (x3_1 + 1)))) else (some (0, 0, 3))) else (none)) = some (r1, r2, r3) := by first | (rw [hji7] at H; exact H) | (simp only [hji7] at H ⊢; exact H)
                have hji7w : (IntKind.i64.wrap (7 * x3_1)) = ji7 := (i64_w _).trans hji7
                by_cases c8 : 0 ≤ (ji7)
                · rw [if_pos c8] at H
                  have c8b0 := eq_true c8
                  have c8b1 : decide (0 ≤ (ji7)) = true := decide_eq_true c8
                  clear c8
                  obtain ⟨ji9, hji9⟩ : ∃ j_ : Int, (shl .u64 (IntKind.u64.wrap (Go.bits .andNot .u8 (rd l0 x3_1) 128)) (ji7)) = j_ := ⟨_, rfl⟩
                  replace H : (if (shr .u64 (ji9) (ji7)) = (IntKind.u64.wrap (Go.bits .andNot .u8 (rd l0 x3_1) 128)) then (if ((rd l0 x3_1) / 128) = 0 then (if (rd l0 x3_1) = 0 then (if (wrap64 (x3_1 + 1)) > 1 then (some (0, 0, 3)) else (some (Go.bits .or .u64 x2_1 (ji9), wrap64 (x3_1 + 1), 0))) else (some (Go.bits .or .u64 x2_1 (ji9), wrap64 (x3_1 + 1), 0))) else (shift_GetUint.l0 kj1 l0 (Go.bits .or .u64 x2_1 (ji9)) (wrap64 (x3_1 + 1)))) else (some (0, 0, 3))) = some (r1, r2, r3) := by first | (rw [hji9] at H; exact H) | (simp only [hji9] at H ⊢; exact H)
                  have hji9_ : (IntKind.u64.wrap ((IntKind.u64.wrap (Go.bits .andNot .u8 (rd l0 x3_1) 128)) * 2 ^ min (ji7).toNat 64)) = ji9 := hji9
                  have hji9z : (ji7) ≤ 64 → (IntKind.u64.wrap ((IntKind.u64.wrap (Go.bits .andNot .u8 (rd l0 x3_1) 128)) * 2 ^ (ji7).toNat)) = ji9 := shl_small hji9
                  have c10b0 := eq_true (of_decide_eq_true (by first | (with_reducible assumption) | assumption) : 0 ≤ (ji7))
                  obtain ⟨ji11, hji11⟩ : ∃ j_ : Int, (shr .u64 (ji9) (ji7)) = j_ := ⟨_, rfl⟩
                  replace H : (if (ji11) = (IntKind.u64.wrap (Go.bits .andNot .u8 (rd l0 x3_1) 128)) then (if ((rd l0 x3_1) / 128) = 0 then (if (rd l0 x3_1) = 0 then (if (wrap64 (x3_1 + 1)) > 1 then (some (0, 0, 3)) else (some (Go.bits .or .u64 x2_1 (ji9), wrap64 (x3_1 + 1), 0))) else (some (Go.bits .or .u64 x2_1 (ji9), wrap64 (x3_1 + 1), 0))) else (shift_GetUint.l0 kj1 l0 (Go.bits .or .u64 x2_1 (ji9)) (wrap64 (x3_1 + 1)))) else (some (0, 0, 3))) = some (r1, r2, r3) := by first | (rw [hji11] at H; exact H) | (simp only [hji11] at H ⊢; exact H)
                  have hji11_ : ((ji9) / 2 ^ min (ji7).toNat 64) = ji11 := hji11
                  have hji11z : (ji7) ≤ 64 → ((ji9) / 2 ^ (ji7).toNat) = ji11 := shr_small hji11
                  by_cases c12 : (ji11) = (IntKind.u64.wrap (Go.bits .andNot .u8 (rd l0 x3_1) 128))
                  · rw [if_pos c12] at H
                    have c12b0 : ((ji11) == (IntKind.u64.wrap (Go.bits .andNot .u8 (rd l0 x3_1) 128))) = true := beq_iff_eq.mpr c12
                    have c12b1 : ((ji11) != (IntKind.u64.wrap (Go.bits .andNot .u8 (rd l0 x3_1) 128))) = false := bne_eq_false_iff_eq.mpr c12
                    clear c12
                    have c13b0 := eq_true (of_decide_eq_true (by first | (with_reducible assumption) | assumption) : 0 ≤ (ji7))
                    by_cases c14 : ((rd l0 x3_1) / 128) = 0
                    · rw [if_pos c14] at H
                      have c14b0 : (((rd l0 x3_1) / 128) == 0) = true := beq_iff_eq.mpr c14
                      have c14b1 : (((rd l0 x3_1) / 128) != 0) = false := bne_eq_false_iff_eq.mpr c14
                      clear c14
                      by_cases c15 : (rd l0 x3_1) = 0
                      · rw [if_pos c15] at H
                        have c15b0 : ((rd l0 x3_1) == 0) = true := beq_iff_eq.mpr c15
                        have c15b1 : ((rd l0 x3_1) != 0) = false := bne_eq_false_iff_eq.mpr c15
                        clear c15
                        by_cases c16 : (wrap64 (x3_1 + 1)) > 1
                        · rw [if_pos c16] at H
                          have c16b0 : decide (1 < (wrap64 (x3_1 + 1))) = true := decide_eq_true c16
                          clear c16
                          simp only [Option.some.injEq, Prod.mk.injEq] at H
                          obtain ⟨rfl, rfl, rfl⟩ := H
                          have p769 : 0 ≤ (x3_1 : Int) := of_decide_eq_true (by first | (with_reducible assumption) | assumption)
                          have q769 : x3_1 < (l0.length : Int) := of_decide_eq_true (by first | (with_reducible assumption) | assumption)
                          obtain ⟨ad769, e769, hx769_0⟩ := Kd.at_int HR0.out x3_1 p769 q769
                          cases e769
                          replace p769 := eq_true p769
                          replace q769 := eq_true q769
                          go_wp2
                          go_ret3
                          exact ⟨by first | rfl | (simp; done) | (simp only [← hji7, ← hji9, ← hji11] <;> (first | rfl | simp)) | (simp [*]; done), by repeat (first | exact Drawn0.refl _ | apply Drawn0.step)⟩
                        · rw [if_neg c16] at H
                          have c16b0 : decide (1 < (wrap64 (x3_1 + 1))) = false := decide_eq_false c16
                          clear c16
                          simp only [Option.some.injEq, Prod.mk.injEq] at H
                          obtain ⟨rfl, rfl, rfl⟩ := H
                          have p769 : 0 ≤ (x3_1 : Int) := of_decide_eq_true (by first | (with_reducible assumption) | assumption)
                          have q769 : x3_1 < (l0.length : Int) := of_decide_eq_true (by first | (with_reducible assumption) | assumption)
                          obtain ⟨ad769, e769, hx769_0⟩ := Kd.at_int HR0.out x3_1 p769 q769
                          cases e769
                          replace p769 := eq_true p769
                          replace q769 := eq_true q769
                          go_wp2
                          go_ret3
                          exact ⟨by first | rfl | (simp; done) | (simp only [← hji7, ← hji9, ← hji11] <;> (first | rfl | simp)) | (simp [*]; done), by repeat (first | exact Drawn0.refl _ | apply Drawn0.step)⟩
                      · rw [if_neg c15] at H
                        have c15b0 : ((rd l0 x3_1) == 0) = false := beq_eq_false_iff_ne.mpr c15
                        have c15b1 : ((rd l0 x3_1) != 0) = true := bne_iff_ne.mpr c15
                        simp only [Option.some.injEq, Prod.mk.injEq] at H
                        obtain ⟨rfl, rfl, rfl⟩ := H
                        have p769 : 0 ≤ (x3_1 : Int) := of_decide_eq_true (by first | (with_reducible assumption) | assumption)
                        have q769 : x3_1 < (l0.length : Int) := of_decide_eq_true (by first | (with_reducible assumption) | assumption)
                        obtain ⟨ad769, e769, hx769_0⟩ := Kd.at_int HR0.out x3_1 p769 q769
                        cases e769
                        replace p769 := eq_true p769
                        replace q769 := eq_true q769
                        go_wp2
                        go_ret3
                        exact ⟨by first | rfl | (simp; done) | (simp only [← hji7, ← hji9, ← hji11] <;> (first | rfl | simp)) | (simp [*]; done), by repeat (first | exact Drawn0.refl _ | apply Drawn0.step)⟩
                    · rw [if_neg c14] at H
                      have c14b0 : (((rd l0 x3_1) / 128) == 0) = false := beq_eq_false_iff_ne.mpr c14
                      have c14b1 : (((rd l0 x3_1) / 128) != 0) = true := bne_iff_ne.mpr c14
                      have H' := Aside0.mk H
                      clear H
                      have p769 : 0 ≤ (x3_1 : Int) := of_decide_eq_true (by first | (with_reducible assumption) | assumption)
                      have q769 : x3_1 < (l0.length : Int) := of_decide_eq_true (by first | (with_reducible assumption) | assumption)
                      obtain ⟨ad769, e769, hx769_0⟩ := Kd.at_int HR0.out x3_1 p769 q769
                      cases e769
                      replace p769 := eq_true p769
                      replace q769 := eq_true q769
                      go_wp2
                      go_roundg kj1
                      case measure => have := HK1.out; have := HJ1.out; omega
                      case rel => exact ⟨(Go.bits .or .u64 x2_1 (ji9)), (wrap64 (x3_1 + 1)), (by first | rfl | (simp; done) | (simp only [← hji9] <;> (first | rfl | simp)) | (simp [*]; done)), (by first | rfl | (simp; done) | (simp [*]; done)), H', ⟨by have := HK1.out; have := HJ1.out; omega⟩, by repeat (first | exact Drawn0.refl _ | apply Drawn0.step)⟩
                  · rw [if_neg c12] at H
                    have c12b0 : ((ji11) == (IntKind.u64.wrap (Go.bits .andNot .u8 (rd l0 x3_1) 128))) = false := beq_eq_false_iff_ne.mpr c12
                    have c12b1 : ((ji11) != (IntKind.u64.wrap (Go.bits .andNot .u8 (rd l0 x3_1) 128))) = true := bne_iff_ne.mpr c12
                    simp only [Option.some.injEq, Prod.mk.injEq] at H
                    obtain ⟨rfl, rfl, rfl⟩ := H
                    have p769 : 0 ≤ (x3_1 : Int) := of_decide_eq_true (by first | (with_reducible assumption) | assumption)
                    have q769 : x3_1 < (l0.length : Int) := of_decide_eq_true (by first | (with_reducible assumption) | assumption)
                    obtain ⟨ad769, e769, hx769_0⟩ := Kd.at_int HR0.out x3_1 p769 q769
                    cases e769
                    replace p769 := eq_true p769
                    replace q769 := eq_true q769
                    go_wp2
                    go_ret3
                    exact ⟨by first | rfl | (simp; done) | (simp only [← hji7, ← hji9, ← hji11] <;> (first | rfl | simp)) | (simp [*]; done), by repeat (first | exact Drawn0.refl _ | apply Drawn0.step)⟩
                · rw [if_neg c8] at H
                  exact absurd H (by simp)
              · rw [if_neg c6] at H
                exact absurd H (by simp)
            · rw [if_neg c5] at H
              exact absurd H (by simp)
          · replace c4 := Bool.eq_false_iff.mpr c4
            subst c4
            have H1 : (if x3_1 = 10 then (some (0, 0, 3)) else (some (0, 0, 2))) = some (r1, r2, r3) := by rw [if_neg (show ¬ (false = true) by decide)] at H; exact H
            clear H
            have H := H1
            clear H1
            by_cases c17 : x3_1 = 10
            · rw [if_pos c17] at H
              have c17b0 : (x3_1 == 10) = true := beq_iff_eq.mpr c17
              have c17b1 : (x3_1 != 10) = false := bne_eq_false_iff_eq.mpr c17
              clear c17
              simp only [Option.some.injEq, Prod.mk.injEq] at H
              obtain ⟨rfl, rfl, rfl⟩ := H
              go_wp2
              go_ret3
              exact ⟨by first | rfl | (simp; done) | (simp [*]; done), by repeat (first | exact Drawn0.refl _ | apply Drawn0.step)⟩
            · rw [if_neg c17] at H
              have c17b0 : (x3_1 == 10) = false := beq_eq_false_iff_ne.mpr c17
              have c17b1 : (x3_1 != 10) = true := bne_iff_ne.mpr c17
              simp only [Option.some.injEq, Prod.mk.injEq] at H
              obtain ⟨rfl, rfl, rfl⟩ := H
              go_wp2
              go_ret3
              exact ⟨by first | rfl | (simp; done) | (simp [*]; done), by repeat (first | exact Drawn0.refl _ | apply Drawn0.step)⟩

end Go.Proofs.Ytgmdoapedhppmaa.PC

namespace Go.Proofs.Ytgmdoapedhppmaa.PC
set_option linter.unusedVariables false
set_option linter.unusedSimpArgs false
open Go.RowKit Go.Proofs.YtgmdoapedhppmaaW.PrintWords Go.Proofs.YtgmdoapedhppmaaW.PrintLast Go.Proofs.YtgmdoapedhppmaaW.PrintMore
/-- All blocks stay as they were, but for those in S; and what is outside stays. -/
structure Stay (S : Nat → Prop) (w w' : World) : Prop where
  os : w'.os = w.os
  tape : w'.tape = w.tape
  output : w'.output = w.output
  size : w.heap.size ≤ w'.heap.size
  block : ∀ k, k < w.heap.size → ¬ S k → w'.heap[k]? = w.heap[k]?
theorem Stay.refl (S : Nat → Prop) (w : World) : Stay S w w := ⟨rfl, rfl, rfl, Nat.le_refl _, fun _ _ _ => rfl⟩
theorem Stay.trans {S : Nat → Prop} {a b c : World} (h : Stay S a b) (k : Stay S b c) : Stay S a c :=
  ⟨k.os.trans h.os, k.tape.trans h.tape, k.output.trans h.output, Nat.le_trans h.size k.size, fun i hi hs => (k.block i (Nat.lt_of_lt_of_le hi h.size) hs).trans (h.block i hi hs)⟩
theorem Stay.mono {S T : Nat → Prop} {a b : World} (h : Stay S a b) (hST : ∀ k, S k → T k) : Stay T a b := ⟨h.os, h.tape, h.output, h.size, fun k hk hn => h.block k hk (fun hs => hn (hST k hs))⟩
theorem Stay.of_below (S : Nat → Prop) {a b : World} (h : Below a.heap.size a b) : Stay S a b := ⟨h.os, h.tape, h.output, h.size, fun k hk _ => h.block k hk⟩
theorem Stay.below {S : Nat → Prop} {w0 a b : World} (h : Stay S a b) (hB : Below w0.heap.size w0 a) (hS : ∀ k, S k → w0.heap.size ≤ k) : Below w0.heap.size w0 b :=
  ⟨h.os.trans hB.os, h.tape.trans hB.tape, h.output.trans hB.output, Nat.le_trans hB.size h.size, fun k hk => (h.block k (Nat.lt_of_lt_of_le hk hB.size) (fun hs => absurd (hS k hs) (Nat.not_le.2 hk))).trans (hB.block k hk)⟩
theorem Stay.blk {S : Nat → Prop} {a b : World} {g : Nat} {o : Obj} (h : Stay S a b) (hb : a.heap[g]? = some o) (hg : ¬ S g) : b.heap[g]? = some o := (h.block g (blk_lt hb) hg).trans hb
theorem Stay.set {S : Nat → Prop} {a b : World} {g : Nat} (h : Stay S a b) (hg : S g ∨ a.heap.size ≤ g) (j : Nat) (u : Value) : Stay S a (b.setCell ⟨g, j, none⟩ u) :=
  ⟨by simpa [World.setCell] using h.os, by simpa [World.setCell] using h.tape, by simpa [World.setCell] using h.output, by simpa [World.setCell] using h.size, fun k hk hs => (Below.heap_setCell b ⟨g, j, none⟩ u k (by rintro rfl; rcases hg with hg | hg; exact hs hg; exact absurd hk (Nat.not_lt.2 hg))).trans (h.block k hk hs)⟩
/-- What is panicked with. -/
def pv (c : Int) : Exit → Prop := fun e => e = .panic [{ v := .iface 113 (.int .i64 c), recovered := false }]
/-- A reader in block g has these bytes left; they lie below w0's end. -/
def Rd (w0 w : World) (g : Nat) (l : List Int) : Prop := ∃ A c, w.heap[g]? = some (.cells #[.slice A l.length c] 116 (0, 0)) ∧ l.length ≤ c ∧ Kd.C (Kd.int .u8) w0 A l.length l
theorem Rd.stay {S : Nat → Prop} {w0 a b : World} {g : Nat} {l : List Int} (h : Rd w0 a g l) (hs : Stay S a b) (hg : ¬ S g) : Rd w0 b g l := by
  obtain ⟨A, c, h1, h2, h3⟩ := h
  exact ⟨A, c, hs.blk h1 hg, h2, h3⟩
theorem Rd.cut {w0 w : World} {g : Nat} {l : List Int} {A : Option Addr} {c m : Nat} (hb : w.heap[g]? = some (.cells #[.slice A l.length c] 116 (0, 0))) (hc : l.length ≤ c) (hm : m ≤ l.length) (hC : Kd.C (Kd.int .u8) w0 A l.length l) (A' : Option Addr) (n' c' : Nat)
    (hA : A' = if c = m then A else A.map (·.add m)) (hn : n' = l.length - m) (hc' : c' = c - m) : Rd w0 (w.setCell ⟨g, 0, none⟩ (.slice A' n' c')) g (l.drop m) := by
  have hl : (l.drop m).length = l.length - m := List.length_drop
  refine ⟨A', c', ?_, by rw [hl]; omega, ?_⟩
  · rw [hl, ← hn]
    exact blk_put (cs := #[.slice A l.length c]) hb 0 _ rfl
  · have h := Kd.C_drop (c := c) hC hm hc
    have e : (Kd.int .u8).sz = 1 := rfl
    rw [e, Nat.mul_one] at h
    rw [hA]
    exact h
/-- How a reader's call ends. -/
def Out {β : Type} (w0 : World) (g : Nat) (enc : β → Value) (q : Except Int (β × List Int)) (e : Ending) (w' : World) : Prop :=
  match q with
  | .ok p => e = .returned (enc p.1) ∧ Rd w0 w' g p.2
  | .error c => e = .panicked [{ v := .iface 113 (.int .i64 c), recovered := false }]

theorem must_calls (b : Bool) (w : World) : Calls Try.prog 74 #[.bool b] w fun e w' => (if b = true then e = .returned (.tuple #[]) else e = .panicked [{ v := .iface 113 (.int .i64 3), recovered := false }]) ∧ Below w.heap.size w w' := by
  cases b
  · go_enter Try.func74, Try.ntmps74
    go_wp2
    exact ⟨rfl, rfl, Below.refl _ _⟩
  · go_enter Try.func74, Try.ntmps74
    go_wp2
    refine bodyPost_end (results_none rfl _ _ _) rfl ?_
    exact ⟨by first | rfl | simp, Below.refl _ _⟩
/-- So many bytes. -/
def takeB (n : Int) (l : List Int) : Except Int (ByteArray × List Int) := if (l.length : Int) < n then .error 2 else .ok (strOfNums (l.take n.toNat), l.drop n.toNat)
set_option maxRecDepth 100000 in
set_option maxHeartbeats 2000000 in
theorem bytes_calls (n : Int) (hn : 0 ≤ n) (w0 w : World) (g : Nat) (l : List Int) (hR : Rd w0 w g l) (hB : Below w0.heap.size w0 w) (hg : w0.heap.size ≤ g) :
    Calls Try.prog 77 #[.pointer (some ⟨g, 0, none⟩), .int .i64 n] w fun e w' => Out w0 g Value.string (takeB n l) e w' ∧ Stay (fun k => k = g) w w' := by
  obtain ⟨A, c, hb, hc, hC⟩ := hR
  have hz0 : w.cell? ⟨g, 0, none⟩ = some (.slice A l.length c) := (blk_cell hb 0).trans rfl
  have hf0 := blk_frozen hb 0
  by_cases hl : (l.length : Int) < n
  · have d1 : decide ((l.length : Int) < n) = true := decide_eq_true hl
    have T : Aside0 (takeB n l = .error 2) := ⟨by unfold takeB; rw [if_pos hl]⟩
    clear hn
    go_enter Try.func77, Try.ntmps77
    go_wp2
    exact ⟨rfl, by rw [T.out]; rfl, Stay.refl _ _⟩
  · obtain ⟨m, rfl⟩ := Int.eq_ofNat_of_zero_le hn
    have d1 : decide ((l.length : Int) < (m : Int)) = false := decide_eq_false hl
    have hm : m ≤ l.length := by omega
    have T : Aside0 (takeB (m : Int) l = .ok (strOfNums (l.take m), l.drop m)) := ⟨by unfold takeB; rw [if_neg hl]; rfl⟩
    have HC := Aside0.mk hC
    have HT := Aside0.mk (Kd.C_take (Kd.C_below hC hB) hm)
    have hcv := Kd.C_string (P := Try.prog) (c := c) Try.underlying32 Try.underlying5 Try.underlying9 HT.out
    have hlt : (l.take m).length = m := by rw [List.length_take]; omega
    rw [hlt] at hcv
    clear hlt hn
    clear hC hl
    go_enter Try.func77, Try.ntmps77
    go_wp2
    · refine bodyPost_ret (results_tmp rfl _ _ _) rfl ?_
      rw [T.out]
      exact ⟨⟨rfl, Rd.cut hb hc hm HC.out _ _ _ (by rw [if_pos ‹c = m›]) rfl (by omega)⟩, (Stay.refl (fun k => k = g) w).set (.inl rfl) 0 _⟩
    · refine bodyPost_ret (results_tmp rfl _ _ _) rfl ?_
      rw [T.out]
      exact ⟨⟨rfl, Rd.cut hb hc hm HC.out _ _ _ (by rw [if_neg ‹¬c = m›]) rfl rfl⟩, (Stay.refl (fun k => k = g) w).set (.inl rfl) 0 _⟩
/-- The next number, from the least to the most that there may be. -/
def takeN (k : Nat) (lo hi : Int) (l : List Int) : Option (Except Int (Int × List Int)) :=
  (shift_GetUint.f k l).bind fun (n, s, e) => if e = 0 then (if 0 ≤ s ∧ s ≤ (l.length : Int) then some (if lo ≤ n ∧ n ≤ hi then .ok (wrap64 n, l.drop s.toNat) else .error 3) else none) else some (.error e)
set_option maxRecDepth 100000 in
set_option maxHeartbeats 2000000 in
theorem number_calls (k : Nat) (lo hi : Int) (q : Except Int (Int × List Int)) (w0 w : World) (g : Nat) (l : List Int) (hR : Rd w0 w g l) (hB : Below w0.heap.size w0 w) (hg : w0.heap.size ≤ g) (h : takeN k lo hi l = some q) :
    Calls Try.prog 75 #[.pointer (some ⟨g, 0, none⟩), .int .u64 lo, .int .u64 hi] w fun e w' => Out w0 g (Value.int .i64) q e w' ∧ Stay (fun k => k = g) w w' := by
  obtain ⟨A, c, hb, hc, hC⟩ := hR
  have hz0 : w.cell? ⟨g, 0, none⟩ = some (.slice A l.length c) := (blk_cell hb 0).trans rfl
  have hf0 := blk_frozen hb 0
  obtain ⟨⟨n, s, e⟩, hG, h⟩ := Option.bind_eq_some_iff.1 h
  have HG := Aside0.mk hG
  have HC := Aside0.mk hC
  have HCw := Aside0.mk (Kd.C_below hC hB)
  have HBK := Aside0.mk hb
  clear hG hC hb
  simp only at h
  by_cases he : e = 0
  · rw [if_pos he] at h
    have e1 : (e == 0) = true := beq_iff_eq.2 he
    have e2 : (e != 0) = false := bne_eq_false_iff_eq.2 he
    clear he
    by_cases hs : 0 ≤ s ∧ s ≤ (l.length : Int)
    · rw [if_pos hs] at h
      obtain rfl := Option.some.inj h
      clear h
      obtain ⟨m, rfl⟩ := Int.eq_ofNat_of_zero_le hs.1
      have hm : m ≤ l.length := by omega
      clear hs
      by_cases hi1 : lo ≤ n
      · have d1 : decide (lo ≤ n) = true := decide_eq_true hi1
        by_cases hi2 : n ≤ hi
        · have d2 : decide (n ≤ hi) = true := decide_eq_true hi2
          have T : Aside0 ((if lo ≤ n ∧ n ≤ hi then (.ok (wrap64 n, l.drop (m : Int).toNat) : Except Int (Int × List Int)) else .error 3) = .ok (wrap64 n, l.drop m)) := ⟨by rw [if_pos ⟨hi1, hi2⟩]; rfl⟩
          generalize (if lo ≤ n ∧ n ≤ hi then (.ok (wrap64 n, l.drop (m : Int).toNat) : Except Int (Int × List Int)) else .error 3) = q at T ⊢
          clear hi1 hi2
          go_enter Try.func75, Try.ntmps75
          go_wp2_with fail
          refine (shift_GetUint.calls k A c l n m e _ HCw.out hc HG.out).mono ?_
          rintro e w' ⟨rfl, ⟨nd, rfl⟩⟩
          go_wp2_with fail
          refine (must_calls true _).mono ?_
          rintro e w6 ⟨he, hb⟩
          rw [if_pos rfl] at he
          subst he
          have hb' : Below w.heap.size w w6 := below_step (pw_below_drewN (Below.refl _ _) nd) hb
          have BK := Aside0.mk (blk_below HBK.out hb')
          have ST := Aside0.mk (Stay.of_below (fun k => k = g) hb')
          clear hb hb' hz0 hf0
          have hz0 : w6.cell? ⟨g, 0, none⟩ = some (.slice A l.length c) := (blk_cell BK.out 0).trans rfl
          have hf0 := blk_frozen BK.out 0
          go_wp2
          · refine bodyPost_ret (results_tmp rfl _ _ _) rfl ?_
            rw [T.out]
            exact ⟨⟨by first | rfl | (simp; done), Rd.cut BK.out hc hm HC.out _ _ _ (by rw [if_pos ‹c = m›]) rfl (by omega)⟩, ST.out.set (.inl rfl) 0 _⟩
          · refine bodyPost_ret (results_tmp rfl _ _ _) rfl ?_
            rw [T.out]
            exact ⟨⟨by first | rfl | (simp; done), Rd.cut BK.out hc hm HC.out _ _ _ (by rw [if_neg ‹¬c = m›]) rfl rfl⟩, ST.out.set (.inl rfl) 0 _⟩
        · have T : Aside0 ((if lo ≤ n ∧ n ≤ hi then (.ok (wrap64 n, l.drop (m : Int).toNat) : Except Int (Int × List Int)) else .error 3) = .error 3) := ⟨by rw [if_neg (by omega)]⟩
          generalize (if lo ≤ n ∧ n ≤ hi then (.ok (wrap64 n, l.drop (m : Int).toNat) : Except Int (Int × List Int)) else .error 3) = q at T ⊢
          have d2 : decide (n ≤ hi) = false := decide_eq_false hi2
          clear hi1 hi2
          go_enter Try.func75, Try.ntmps75
          go_wp2_with fail
          refine (shift_GetUint.calls k A c l n m e _ HCw.out hc HG.out).mono ?_
          rintro e w' ⟨rfl, ⟨nd, rfl⟩⟩
          go_wp2_with fail
          refine (must_calls false _).mono ?_
          rintro e w6 ⟨he, hb⟩
          rw [if_neg (by decide)] at he
          subst he
          have hb' : Below w.heap.size w w6 := below_step (pw_below_drewN (Below.refl _ _) nd) hb
          exact ⟨rfl, by rw [T.out]; rfl, Stay.of_below (fun k => k = g) hb'⟩
      · have T : Aside0 ((if lo ≤ n ∧ n ≤ hi then (.ok (wrap64 n, l.drop (m : Int).toNat) : Except Int (Int × List Int)) else .error 3) = .error 3) := ⟨by rw [if_neg (by omega)]⟩
        generalize (if lo ≤ n ∧ n ≤ hi then (.ok (wrap64 n, l.drop (m : Int).toNat) : Except Int (Int × List Int)) else .error 3) = q at T ⊢
        have d1 : decide (lo ≤ n) = false := decide_eq_false hi1
        clear hi1
        go_enter Try.func75, Try.ntmps75
        go_wp2_with fail
        refine (shift_GetUint.calls k A c l n m e _ HCw.out hc HG.out).mono ?_
        rintro e w' ⟨rfl, ⟨nd, rfl⟩⟩
        go_wp2_with fail
        refine (must_calls false _).mono ?_
        rintro e w6 ⟨he, hb⟩
        rw [if_neg (by decide)] at he
        subst he
        have hb' : Below w.heap.size w w6 := below_step (pw_below_drewN (Below.refl _ _) nd) hb
        exact ⟨rfl, by rw [T.out]; rfl, Stay.of_below (fun k => k = g) hb'⟩
    · rw [if_neg hs] at h
      cases h
  · rw [if_neg he] at h
    obtain rfl := Option.some.inj h
    have e1 : (e == 0) = false := beq_eq_false_iff_ne.2 he
    have e2 : (e != 0) = true := bne_iff_ne.2 he
    clear he h
    go_enter Try.func75, Try.ntmps75
    go_wp2_with fail
    refine (shift_GetUint.calls k A c l n s e _ HCw.out hc HG.out).mono ?_
    rintro e w' ⟨rfl, ⟨nd, rfl⟩⟩
    go_wp2
    exact ⟨rfl, rfl, Stay.of_below _ (pw_below_drewN (Below.refl _ _) _)⟩
end Go.Proofs.Ytgmdoapedhppmaa.PC

namespace Go.Proofs.Ytgmdoapedhppmaa.PC
set_option linter.unusedVariables false
set_option linter.unusedSimpArgs false
open Go.RowKit Go.Proofs.YtgmdoapedhppmaaW.PrintWords Go.Proofs.YtgmdoapedhppmaaW.PrintLast Go.Proofs.YtgmdoapedhppmaaW.PrintMore
/-- The byte that stands first. -/
def byte0 (s : ByteArray) : Int := if h : 0 < s.size then ((s[0]'h).toNat : Int) else 0
def keyCells (x : S28) : Obj := .cells #[.int .u8 x.f0, .string x.f1] 28 (0, 0)
/-- The next key, above another one. -/
def takeKey (k : Nat) (last : S28) (l : List Int) : Option (Except Int (S28 × List Int)) :=
  match takeB 1 l with
  | .error c => some (.error c)
  | .ok (s, l1) => if byte0 s < 8 then
      (takeN k 1 64 l1).bind fun q => match q with
        | .error c => some (.error c)
        | .ok (n, l2) => match takeB n l2 with
          | .error c => some (.error c)
          | .ok (nm, l3) => some (if lessB last ⟨byte0 s, nm⟩ then .ok (⟨byte0 s, nm⟩, l3) else .error 3)
    else some (.error 3)
theorem takeB_nat {n : Int} {l l' : List Int} {s : ByteArray} (h : takeB n l = .ok (s, l')) : n ≤ (l.length : Int) := by
  unfold takeB at h
  split at h
  · cases h
  · omega
theorem takeB_one {l l' : List Int} {s : ByteArray} (h : takeB 1 l = .ok (s, l')) : s.size = 1 := by
  have hl := takeB_nat h
  unfold takeB at h
  rw [if_neg (by omega)] at h
  injection h with h
  injection h with h1 h2
  rw [← h1]
  cases l with
  | nil => simp at hl
  | cons x l => rfl
theorem byte0_get {s : ByteArray} (h : 0 < s.size) : byte0 s = ((s[0]'h).toNat : Int) := dif_pos h
theorem takeN_ok {k : Nat} {lo hi n : Int} {l l' : List Int} (h : takeN k lo hi l = some (.ok (n, l'))) (h0 : 0 ≤ lo) (h1 : hi < 9223372036854775808) : lo ≤ n ∧ n ≤ hi := by
  unfold takeN at h
  obtain ⟨⟨m, s, e⟩, hG, h⟩ := Option.bind_eq_some_iff.1 h
  simp only at h
  split at h
  · split at h
    · split at h
      · rename_i hh
        simp only [Option.some.injEq, Except.ok.injEq, Prod.mk.injEq] at h
        have hw : wrap64 m = m := by unfold wrap64; omega
        rw [hw] at h
        omega
      · simp at h
    · cases h
  · simp at h
def key4_T : Bool × List (List Nat × List Nat) := (true, [([], []), ([0], [0]), ([1], [1]), ([], []), ([2, 3], [2, 3]), ([4, 4], [4])])
def key4_B : List Nat := [0, 1, 3, 0, 15, 31]
theorem key4_tab : rtab .any (opsOf Try.f76 4) = key4_T := by kernel_rfl
theorem key4_bits : waitsOk key4_T.2 key4_B = true := by kernel_rfl
set_option maxRecDepth 100000 in
set_option maxHeartbeats 4000000 in
theorem key_calls (k : Nat) (last : S28) (q : Except Int (S28 × List Int)) (w0 w : World) (g h : Nat) (l : List Int) (hR : Rd w0 w g l) (hB : Below w0.heap.size w0 w) (hg : w0.heap.size ≤ g) (hh : w0.heap.size ≤ h) (hgh : h ≠ g) (hL : w.heap[h]? = some (keyCells last)) (hq : takeKey k last l = some q) :
    Calls Try.prog 76 #[.pointer (some ⟨g, 0, none⟩), .pointer (some ⟨h, 0, none⟩)] w fun e w' => Out w0 g (fun x : S28 => .agg #[.int .u8 x.f0, .string x.f1]) q e w' ∧ Stay (fun k => k = g ∨ k = h) w w' ∧ (∀ p, q = .ok p → w'.heap[h]? = some (keyCells p.1)) := by
  have GL : Aside0 (g < w.heap.size) := ⟨by obtain ⟨_, _, hb, _⟩ := hR; exact blk_lt hb⟩
  have HL := Aside0.mk (blk_lt hL)
  have HR := Aside0.mk hR
  have HLC := Aside0.mk hL
  have HQ := Aside0.mk hq
  clear hR hL hq
  cases q1 : takeB 1 l with
  | error c =>
    obtain rfl : q = .error c := by have := HQ.out; unfold takeKey at this; rw [q1] at this; exact (Option.some.inj this).symm
    clear HQ
    have Q1 := Aside0.mk q1
    clear q1
    go_enter Try.func76, Try.ntmps76
    go_wp2_with (((with_reducible refine gate_dst (N := 4) rfl ?_); refine box_event ?hg (N := 4) ?hd (cs := #[.int .u8 0, .string (⟨#[]⟩ : ByteArray)]) (t := 28) ?hr ?_; (case hd => rfl); (case hg => rfl); (case hr => first | (go_simp; done) | (go_simp; rfl)); intro gk hgk w1 hbox hb; have BK := Aside0.mk hbox; have HK := Aside0.mk hgk; have HB := Aside0.mk hb; clear hb hbox hgk))
    refine (bytes_calls 1 (by decide) w0 w1 g l (HR.out.stay (Stay.of_below (fun _ => False) HB.out) id) (below_step hB (HB.out)) hg).mono ?_
    rintro e w2 ⟨ho, hs⟩
    rw [Q1.out] at ho
    obtain rfl := ho
    exact ⟨rfl, rfl, (Stay.of_below _ HB.out).trans (hs.mono (fun k hk => .inl hk)), fun p hp => by cases hp⟩
  | ok p1 =>
    obtain ⟨s, l1⟩ := p1
    have hs1 := takeB_one q1
    have Q1 := Aside0.mk q1
    have S1 := Aside0.mk hs1
    go_enter Try.func76, Try.ntmps76
    go_wp2_with (((with_reducible refine gate_dst (N := 4) rfl ?_); refine box_event ?hg (N := 4) ?hd (cs := #[.int .u8 0, .string (⟨#[]⟩ : ByteArray)]) (t := 28) ?hr ?_; (case hd => rfl); (case hg => rfl); (case hr => first | (go_simp; done) | (go_simp; rfl)); intro gk hgk w1 hbox hb; have BK := Aside0.mk hbox; have HK := Aside0.mk hgk; have HB := Aside0.mk hb; clear hb hbox hgk))
    refine (bytes_calls 1 (by decide) w0 w1 g l (HR.out.stay (Stay.of_below (fun _ => False) HB.out) id) (below_step hB (HB.out)) hg).mono ?_
    rintro e w2 ⟨ho, hs⟩
    rw [Q1.out] at ho
    obtain ⟨rfl, hr2⟩ := ho
    have R2 := Aside0.mk hr2
    have ST := Aside0.mk hs
    have hne : ¬ gk = g := by rw [HK.out]; have := GL.out; omega
    have BK2 := Aside0.mk (hs.blk BK.out hne)
    clear hs hr2 q1
    have hz0 : w2.cell? ⟨gk, 0, none⟩ = some (.int .u8 0) := (blk_cell BK2.out 0).trans rfl
    have hf0 := blk_frozen BK2.out 0
    have i0 : (0 : Int) < (s.size : Int) := by omega
    have hbt := byte0_get (s := s) (by omega)
    have TQ : Aside0 ((if byte0 s < 8 then
      (takeN k 1 64 l1).bind fun q => match q with
        | .error c => some (.error c)
        | .ok (n, l2) => match takeB n l2 with
          | .error c => some (.error c)
          | .ok (nm, l3) => some (if lessB last ⟨byte0 s, nm⟩ then .ok (⟨byte0 s, nm⟩, l3) else .error 3)
      else some (.error 3)) = some q) := ⟨by have := HQ.out; unfold takeKey at this; rw [Q1.out] at this; exact this⟩
    generalize byte0 s = tb at hbt TQ
    clear HQ Q1 HR
    go_wp2_with fail
    rw [← hbt]
    have BK3 := Aside0.mk (blk_put (cs := #[.int .u8 0, .string (⟨#[]⟩ : ByteArray)]) BK2.out 0 (.int .u8 tb) rfl)
    have ST3 : Aside0 (Stay (fun k => k = g) w (w2.setCell ⟨gk, 0, none⟩ (.int .u8 tb))) := ⟨((Stay.of_below (fun k => k = g) HB.out).trans ST.out).set (.inr (by rw [HK.out]; exact Nat.le_refl _)) 0 _⟩
    have R3 : Aside0 (Rd w0 (w2.setCell ⟨gk, 0, none⟩ (.int .u8 tb)) g l1) := ⟨R2.out.stay ((Stay.refl (fun k => k = gk) w2).set (.inl rfl) 0 _) (fun e => hne e.symm)⟩
    clear BK BK2 ST R2 hz0 hf0 i0 hbt hs1 S1
    generalize w2.setCell ⟨gk, 0, none⟩ (.int .u8 tb) = w3 at BK3 ST3 R3 ⊢
    by_cases ht : tb < 8
    · have d1 : decide (tb < 8) = true := decide_eq_true ht
      have TQ2 := TQ.out
      rw [if_pos ht] at TQ2
      have TN := Aside0.mk TQ2
      clear TQ TQ2 ht
      rw [d1]
      refine (must_calls true _).mono ?_
      rintro e w4 ⟨he, hb⟩
      rw [if_pos rfl] at he
      subst he
      have BK4 := Aside0.mk (blk_below BK3.out hb)
      have ST4 := Aside0.mk (ST3.out.trans (Stay.of_below _ hb))
      have R4 := Aside0.mk (R3.out.stay (Stay.of_below (fun _ => False) hb) id)
      clear BK3 ST3 R3 hb d1
      obtain ⟨q2, hq2, hq3⟩ := Option.bind_eq_some_iff.1 TN.out
      have N1 := Aside0.mk hq2
      have N2 := Aside0.mk hq3
      clear hq2 hq3 TN
      cases q2 with
      | error c =>
        obtain rfl : q = .error c := (Option.some.inj N2.out).symm
        go_wp2_with fail
        refine (number_calls k 1 64 _ w0 w4 g l1 R4.out (ST4.out.below hB (by intro k hk; have hk : k = g := hk; rw [hk]; exact hg)) hg N1.out).mono ?_
        rintro e w5 ⟨ho, hs⟩
        obtain rfl := ho
        exact ⟨rfl, rfl, (ST4.out.trans hs).mono (fun k hk => .inl hk), fun p hp => by cases hp⟩
      | ok p2 =>
        obtain ⟨n, l2⟩ := p2
        have hn := takeN_ok N1.out (by decide) (by decide)
        have N3 : Aside0 ((match takeB n l2 with | .error c => some (.error c) | .ok (nm, l3) => some (if lessB last ⟨tb, nm⟩ then .ok (⟨tb, nm⟩, l3) else .error 3)) = some q) := ⟨N2.out⟩
        clear N2
        have HN : Aside0 (0 ≤ n) := ⟨by omega⟩
        clear hn
        cases q3 : takeB n l2 with
        | error c =>
          have q4 := N3.out
          rw [q3] at q4
          obtain rfl := Option.some.inj q4
          have Q3 := Aside0.mk q3
          clear q3 q4 N3
          go_wp2_with fail
          refine (number_calls k 1 64 _ w0 w4 g l1 R4.out (ST4.out.below hB (by intro k hk; have hk : k = g := hk; rw [hk]; exact hg)) hg N1.out).mono ?_
          rintro e w5 ⟨ho, hs⟩
          obtain ⟨rfl, hr5⟩ := ho
          have R5 := Aside0.mk hr5
          have ST5 := Aside0.mk (ST4.out.trans hs)
          have BK5 := Aside0.mk (hs.blk BK4.out hne)
          clear R4 ST4 BK4 hs hr5 N1
          go_wp2_with fail
          refine (bytes_calls n HN.out w0 w5 g l2 R5.out (ST5.out.below hB (by intro k hk; have hk : k = g := hk; rw [hk]; exact hg)) hg).mono ?_
          rintro e w6 ⟨ho, hs⟩
          rw [Q3.out] at ho
          obtain rfl := ho
          exact ⟨rfl, rfl, (ST5.out.trans hs).mono (fun k hk => .inl hk), fun p hp => by cases hp⟩
        | ok p3 =>
          obtain ⟨nm, l3⟩ := p3
          have q4 := N3.out
          rw [q3] at q4
          have Q4 := Aside0.mk (Option.some.inj q4)
          have Q3 := Aside0.mk q3
          clear q3 q4 N3
          go_wp2_with fail
          refine (number_calls k 1 64 _ w0 w4 g l1 R4.out (ST4.out.below hB (by intro k hk; have hk : k = g := hk; rw [hk]; exact hg)) hg N1.out).mono ?_
          rintro e w5 ⟨ho, hs⟩
          obtain ⟨rfl, hr5⟩ := ho
          have R5 := Aside0.mk hr5
          have ST5 := Aside0.mk (ST4.out.trans hs)
          have BK5 := Aside0.mk (hs.blk BK4.out hne)
          clear R4 ST4 BK4 hs hr5 N1
          go_wp2_with fail
          refine (bytes_calls n HN.out w0 w5 g l2 R5.out (ST5.out.below hB (by intro k hk; have hk : k = g := hk; rw [hk]; exact hg)) hg).mono ?_
          rintro e w6 ⟨ho, hs⟩
          rw [Q3.out] at ho
          obtain ⟨rfl, hr6⟩ := ho
          have R6 := Aside0.mk hr6
          have ST6 := Aside0.mk (ST5.out.trans hs)
          have BK6 := Aside0.mk (hs.blk BK5.out hne)
          clear R5 ST5 BK5 hs hr6 Q3
          have hz1 : w6.cell? ⟨gk, 1, none⟩ = some (.string (⟨#[]⟩ : ByteArray)) := (blk_cell BK6.out 1).trans rfl
          have hf1 := blk_frozen BK6.out 1
          go_wp2_with fail
          have BK7 : Aside0 ((w6.setCell ⟨gk, 1, none⟩ (.string nm)).heap[gk]? = some (keyCells ⟨tb, nm⟩)) := ⟨blk_put BK6.out 1 (.string nm) rfl⟩
          have ST7 := Aside0.mk (ST6.out.set (.inr (by rw [HK.out]; exact Nat.le_refl _) : gk = g ∨ w.heap.size ≤ gk) 1 (.string nm))
          have R7 := Aside0.mk (R6.out.stay ((Stay.refl (fun k => k = gk) w6).set (.inl rfl) 1 (.string nm)) (fun e => hne e.symm))
          clear R6 ST6 BK6 hz1 hf1
          generalize w6.setCell ⟨gk, 1, none⟩ (.string nm) = w7 at R7 ST7 BK7 ⊢
          have HL7 := Aside0.mk (ST7.out.blk HLC.out hgh)
          have LF := Aside0.mk (less_f last ⟨tb, nm⟩)
          obtain ⟨q5, hq5⟩ : ∃ q5, q5 = lessB last ⟨tb, nm⟩ := ⟨_, rfl⟩
          have Q5 := Aside0.mk hq5
          clear hq5
          cases q5 with
          | true =>
            refine start_ (n := 6) (S := fun W => W.heap[h]? = some (keyCells last) ∧ W.heap[gk]? = some (keyCells ⟨tb, nm⟩)) (ds := []) #[false, false, false, false, false, false] (by kernel_rfl) rfl rfl ⟨blk_drew HL7.out, blk_drew BK7.out⟩ (fun hHeld => ?_)
            refine with_tabW key4_tab key4_bits (fun HT_ HW_ => ?_)
            refine pure_ (i := 0) (N := some 18) (v := ?_) (a' := ?_) #[true, false, false, false, false, false] rfl rfl (any_of HT_.out (by kernel_rfl)) (fun _ _ _ h => h) (Or.inl ⟨by rfl, ?_⟩) ?_ ?_
            rotate_left
            · intro w'
              go_simp
              all_goals with_reducible rfl
            rotate_left
            · simp only [Act.put, List.setIfInBounds_toArray, List.set_cons_zero, List.set_cons_succ, i64_w, i32_w]
              rfl
            refine pure_ (i := 1) (N := some 19) (v := ?_) (a' := ?_) #[true, true, false, false, false, false] rfl rfl (any_of HT_.out (by kernel_rfl)) (fun _ _ _ h => h) (Or.inl ⟨by rfl, ?_⟩) ?_ ?_
            rotate_left
            · intro w'
              go_simp
              all_goals with_reducible rfl
            rotate_left
            · simp only [Act.put, List.setIfInBounds_toArray, List.set_cons_zero, List.set_cons_succ, i64_w, i32_w]
              rfl
            refine take_ (i := 2) (N := some 20) (v := ?_) (a' := ?_) #[true, true, true, false, false, false] rfl rfl (take_ofW HT_.out HW_.out (by kernel_rfl)) (fun _ _ _ h => h) (Or.inl ⟨by rfl, ?_⟩) hHeld ?_ ?_
            rotate_left
            · rintro w' ⟨s0, s1⟩
              have z0 := (blk_cell s0 0).trans rfl; have z1 := (blk_cell s0 1).trans rfl; go_simp
              with_reducible rfl
            rotate_left
            · simp only [Act.put, List.setIfInBounds_toArray, List.set_cons_zero, List.set_cons_succ, i64_w, i32_w]
              rfl
            refine take_ (i := 3) (N := some 21) (v := ?_) (a' := ?_) #[true, true, true, true, false, false] rfl rfl (take_ofW HT_.out HW_.out (by kernel_rfl)) (fun _ _ _ h => h) (Or.inl ⟨by rfl, ?_⟩) hHeld ?_ ?_
            rotate_left
            · rintro w' ⟨s0, s1⟩
              have z0 := (blk_cell s1 0).trans rfl; have z1 := (blk_cell s1 1).trans rfl; go_simp
              with_reducible rfl
            rotate_left
            · simp only [Act.put, List.setIfInBounds_toArray, List.set_cons_zero, List.set_cons_succ, i64_w, i32_w]
              rfl
            refine one_ (i := 4) (N := some 22) #[true, true, true, true, true, false] rfl rfl (one_of HT_.out (by kernel_rfl)) (by decide) (fun K hK => ?_)
            refine goes_ Try.func22 (by kernel_rfl) rfl #[.agg #[.int .u8 last.f0, .string last.f1], .agg #[.int .u8 tb, .string nm]] (by rfl) rfl rfl (by (try simp only [List.map_toArray, List.map_cons, List.map_nil]); first | done | rfl) ?_
            refine (codec_Less.calls 3 last.f0 last.f1 tb nm _ _ LF.out).mono ?_
            rintro e w8 ⟨rfl, hb8⟩
            refine ⟨_, rfl, ?_⟩
            have HB8 := Aside0.mk hb8
            clear hb8
            rw [← Q5.out]
            refine hK.out _ _ (⟨blk_below hHeld.1 HB8.out, blk_below hHeld.2 HB8.out⟩) (fun hHeld => ?_)
            clear hK K
            refine norm_ (a' := ?_) ?_ ?_
            rotate_left
            · show Act.put _ (some 22) _ = _
              simp only [Act.put, List.setIfInBounds_toArray, List.set_cons_zero, List.set_cons_succ, i64_w, i32_w]
              rfl
            refine one_ (i := 5) (N := some 23) #[true, true, true, true, true, true] rfl rfl (one_of HT_.out (by kernel_rfl)) (by decide) (fun K hK => ?_)
            refine goes_ Try.func74 (by kernel_rfl) rfl #[.bool true] (by rfl) rfl rfl (by (try simp only [List.map_toArray, List.map_cons, List.map_nil]); first | done | rfl) ?_
            refine (must_calls true _).mono ?_
            rintro e w9 ⟨he, hb9⟩
            rw [if_pos rfl] at he
            subst he
            refine ⟨_, rfl, ?_⟩
            have HB9 := Aside0.mk hb9
            clear hb9
            refine hK.out _ _ (⟨blk_below hHeld.1 HB9.out, blk_below hHeld.2 HB9.out⟩) (fun hHeld => ?_)
            clear hK K
            refine norm_ (a' := ?_) ?_ ?_
            rotate_left
            · show Act.put _ (some 23) _ = _
              simp only [Act.put, List.setIfInBounds_toArray, List.set_cons_zero, List.set_cons_succ, i64_w, i32_w]
              rfl
            refine done_ (done_of HT_.out (by kernel_rfl)) ?_
            obtain rfl : .ok (⟨tb, nm⟩, l3) = q := by have := Q4.out; rw [← Q5.out] at this; exact this
            have ST9 := Aside0.mk ((ST7.out.trans (Stay.of_below (fun k => k = g) (below_drew (Below.refl w7.heap.size w7)))).trans ((Stay.of_below (fun k => k = g) HB8.out).trans (Stay.of_below (fun k => k = g) HB9.out)))
            have R9 : Aside0 (Rd w0 w9 g l3) := ⟨((R7.out.stay (Stay.of_below (fun _ => False) (below_drew (Below.refl w7.heap.size w7))) id).stay (Stay.of_below (fun _ => False) HB8.out) id).stay (Stay.of_below (fun _ => False) HB9.out) id⟩
            obtain ⟨hl9, hk9⟩ := hHeld
            have HL9 := Aside0.mk hl9
            have BK9 := Aside0.mk hk9
            clear hl9 hk9 R7 ST7 BK7 HL7 HB8 HB9 Q4 Q5 LF HT_ HW_
            have hz0 : w9.cell? ⟨gk, 0, none⟩ = some (.int .u8 tb) := (blk_cell BK9.out 0).trans rfl
            have hz1 : w9.cell? ⟨gk, 1, none⟩ = some (.string nm) := (blk_cell BK9.out 1).trans rfl
            have hy0 : w9.cell? ⟨h, 0, none⟩ = some (.int .u8 last.f0) := (blk_cell HL9.out 0).trans rfl
            have hy1 : w9.cell? ⟨h, 1, none⟩ = some (.string last.f1) := (blk_cell HL9.out 1).trans rfl
            have hfgk0 := blk_frozen BK9.out 0
            have hfgk1 := blk_frozen BK9.out 1
            have hfh0 := blk_frozen HL9.out 0
            have hfh1 := blk_frozen HL9.out 1
            have hkh : gk ≠ h := by rw [HK.out]; have := HL.out; omega
            have hhk : h ≠ gk := fun e => hkh e.symm
            go_wp2
            have HLf : Aside0 (((((w9.setCell ⟨h, 0, none⟩ (.int .u8 tb)).setCell ⟨h, 1, none⟩ (.string nm)).setCell ⟨gk, 0, none⟩ (.int .u8 tb)).setCell ⟨gk, 1, none⟩ (.string nm)).heap[h]? = some (keyCells ⟨tb, nm⟩)) := ⟨(((Stay.refl (fun k => k = gk) _).set (.inl rfl) 0 (.int .u8 tb)).set (.inl rfl) 1 (.string nm)).blk (blk_put (blk_put HL9.out 0 (.int .u8 tb) rfl) 1 (.string nm) rfl) hhk⟩
            have Rf : Aside0 (Rd w0 ((((w9.setCell ⟨h, 0, none⟩ (.int .u8 tb)).setCell ⟨h, 1, none⟩ (.string nm)).setCell ⟨gk, 0, none⟩ (.int .u8 tb)).setCell ⟨gk, 1, none⟩ (.string nm)) g l3) := ⟨R9.out.stay (((((Stay.refl (fun k => k = gk ∨ k = h) w9).set (.inl (.inr rfl)) 0 (.int .u8 tb)).set (.inl (.inr rfl)) 1 (.string nm)).set (.inl (.inl rfl)) 0 (.int .u8 tb)).set (.inl (.inl rfl)) 1 (.string nm)) (fun e => e.elim (fun e => hne e.symm) (fun e => hgh e.symm))⟩
            have STf : Aside0 (Stay (fun k => k = g ∨ k = h) w ((((w9.setCell ⟨h, 0, none⟩ (.int .u8 tb)).setCell ⟨h, 1, none⟩ (.string nm)).setCell ⟨gk, 0, none⟩ (.int .u8 tb)).setCell ⟨gk, 1, none⟩ (.string nm))) := ⟨(((((ST9.out.mono (fun k hk => .inl hk) : Stay (fun k => k = g ∨ k = h) w w9).set (.inl (.inr rfl)) 0 (.int .u8 tb)).set (.inl (.inr rfl)) 1 (.string nm)).set (.inr (by rw [HK.out]; exact Nat.le_refl _)) 0 (.int .u8 tb)).set (.inr (by rw [HK.out]; exact Nat.le_refl _)) 1 (.string nm))⟩
            refine bodyPost_ret (by simp [results, Try.results76, go_sem, hz0, hz1, hkh, hhk]; try rfl) rfl ?_
            exact ⟨⟨rfl, Rf.out⟩, STf.out, fun p hp => by cases hp; exact HLf.out⟩
          | false =>
            refine start_ (n := 6) (S := fun W => W.heap[h]? = some (keyCells last) ∧ W.heap[gk]? = some (keyCells ⟨tb, nm⟩)) (ds := []) #[false, false, false, false, false, false] (by kernel_rfl) rfl rfl ⟨blk_drew HL7.out, blk_drew BK7.out⟩ (fun hHeld => ?_)
            refine with_tabW key4_tab key4_bits (fun HT_ HW_ => ?_)
            refine pure_ (i := 0) (N := some 18) (v := ?_) (a' := ?_) #[true, false, false, false, false, false] rfl rfl (any_of HT_.out (by kernel_rfl)) (fun _ _ _ h => h) (Or.inl ⟨by rfl, ?_⟩) ?_ ?_
            rotate_left
            · intro w'
              go_simp
              all_goals with_reducible rfl
            rotate_left
            · simp only [Act.put, List.setIfInBounds_toArray, List.set_cons_zero, List.set_cons_succ, i64_w, i32_w]
              rfl
            refine pure_ (i := 1) (N := some 19) (v := ?_) (a' := ?_) #[true, true, false, false, false, false] rfl rfl (any_of HT_.out (by kernel_rfl)) (fun _ _ _ h => h) (Or.inl ⟨by rfl, ?_⟩) ?_ ?_
            rotate_left
            · intro w'
              go_simp
              all_goals with_reducible rfl
            rotate_left
            · simp only [Act.put, List.setIfInBounds_toArray, List.set_cons_zero, List.set_cons_succ, i64_w, i32_w]
              rfl
            refine take_ (i := 2) (N := some 20) (v := ?_) (a' := ?_) #[true, true, true, false, false, false] rfl rfl (take_ofW HT_.out HW_.out (by kernel_rfl)) (fun _ _ _ h => h) (Or.inl ⟨by rfl, ?_⟩) hHeld ?_ ?_
            rotate_left
            · rintro w' ⟨s0, s1⟩
              have z0 := (blk_cell s0 0).trans rfl; have z1 := (blk_cell s0 1).trans rfl; go_simp
              with_reducible rfl
            rotate_left
            · simp only [Act.put, List.setIfInBounds_toArray, List.set_cons_zero, List.set_cons_succ, i64_w, i32_w]
              rfl
            refine take_ (i := 3) (N := some 21) (v := ?_) (a' := ?_) #[true, true, true, true, false, false] rfl rfl (take_ofW HT_.out HW_.out (by kernel_rfl)) (fun _ _ _ h => h) (Or.inl ⟨by rfl, ?_⟩) hHeld ?_ ?_
            rotate_left
            · rintro w' ⟨s0, s1⟩
              have z0 := (blk_cell s1 0).trans rfl; have z1 := (blk_cell s1 1).trans rfl; go_simp
              with_reducible rfl
            rotate_left
            · simp only [Act.put, List.setIfInBounds_toArray, List.set_cons_zero, List.set_cons_succ, i64_w, i32_w]
              rfl
            refine one_ (i := 4) (N := some 22) #[true, true, true, true, true, false] rfl rfl (one_of HT_.out (by kernel_rfl)) (by decide) (fun K hK => ?_)
            refine goes_ Try.func22 (by kernel_rfl) rfl #[.agg #[.int .u8 last.f0, .string last.f1], .agg #[.int .u8 tb, .string nm]] (by rfl) rfl rfl (by (try simp only [List.map_toArray, List.map_cons, List.map_nil]); first | done | rfl) ?_
            refine (codec_Less.calls 3 last.f0 last.f1 tb nm _ _ LF.out).mono ?_
            rintro e w8 ⟨rfl, hb8⟩
            refine ⟨_, rfl, ?_⟩
            have HB8 := Aside0.mk hb8
            clear hb8
            rw [← Q5.out]
            refine hK.out _ _ (⟨blk_below hHeld.1 HB8.out, blk_below hHeld.2 HB8.out⟩) (fun hHeld => ?_)
            clear hK K
            refine norm_ (a' := ?_) ?_ ?_
            rotate_left
            · show Act.put _ (some 22) _ = _
              simp only [Act.put, List.setIfInBounds_toArray, List.set_cons_zero, List.set_cons_succ, i64_w, i32_w]
              rfl
            refine one_ (i := 5) (N := some 23) #[true, true, true, true, true, true] rfl rfl (one_of HT_.out (by kernel_rfl)) (by decide) (fun K hK => ?_)
            refine goesP_ Try.func74 (by kernel_rfl) rfl #[.bool false] (by rfl) rfl rfl (by (try simp only [List.map_toArray, List.map_cons, List.map_nil]); first | done | rfl) ?_
            refine (must_calls false _).mono ?_
            rintro e w9 ⟨he, hb9⟩
            rw [if_neg (by decide)] at he
            refine ⟨_, he, ?_⟩
            obtain rfl : .error 3 = q := by have := Q4.out; rw [← Q5.out] at this; exact this
            exact ⟨rfl, rfl, ((ST7.out.trans (Stay.of_below (fun k => k = g) (below_drew (Below.refl w7.heap.size w7)))).trans ((Stay.of_below (fun k => k = g) HB8.out).trans (Stay.of_below (fun k => k = g) hb9))).mono (fun k hk => .inl hk), fun p hp => by cases hp⟩
    · have d1 : decide (tb < 8) = false := decide_eq_false ht
      have TQ2 := TQ.out
      rw [if_neg ht] at TQ2
      obtain rfl := Option.some.inj TQ2
      clear TQ TQ2 ht
      rw [d1]
      refine (must_calls false _).mono ?_
      rintro e w4 ⟨he, hb⟩
      rw [if_neg (by decide)] at he
      subst he
      exact ⟨rfl, rfl, (ST3.out.trans (Stay.of_below _ hb)).mono (fun k hk => .inl hk), fun p hp => by cases hp⟩
end Go.Proofs.Ytgmdoapedhppmaa.PC

namespace Go.Proofs.Ytgmdoapedhppmaa.PC
set_option linter.unusedVariables false
set_option linter.unusedSimpArgs false
open Go.RowKit Go.Proofs.YtgmdoapedhppmaaW.PrintWords Go.Proofs.YtgmdoapedhppmaaW.PrintLast Go.Proofs.YtgmdoapedhppmaaW.PrintMore
set_option maxRecDepth 100000 in
set_option maxHeartbeats 2000000 in
theorem catch_epoch (g1 g2 : Nat) (h12 : g1 ≠ g2) (n : Int) (v : Value) (e0 c : Int) (w : World) (h1 : w.heap[g1]? = some (.cells #[.int .u32 n, v] 25 (0, 0))) (h2 : w.heap[g2]? = some (.cells #[.int .i64 e0] 33 (0, 0))) :
    CallsD Try.prog 73 #[.pointer (some ⟨g1, 0, none⟩), .pointer (some ⟨g2, 0, none⟩)] (.panicking [{ v := .iface 113 (.int .i64 c), recovered := false }]) w fun e u' w' =>
      e = .returned (.tuple #[]) ∧ u' = .panicking [{ v := .iface 113 (.int .i64 c), recovered := true }] ∧ Stay (fun k => k = g1 ∨ k = g2) w w' ∧ w'.heap[g1]? = some (.cells #[.int .u32 0, .slice none 0 0] 25 (0, 0)) ∧ w'.heap[g2]? = some (.cells #[.int .i64 c] 33 (0, 0)) := by
  have hz10 : w.cell? ⟨g1, 0, none⟩ = some (.int .u32 n) := (blk_cell h1 0).trans rfl
  have hz11 : w.cell? ⟨g1, 1, none⟩ = some v := (blk_cell h1 1).trans rfl
  have hz20 : w.cell? ⟨g2, 0, none⟩ = some (.int .i64 e0) := (blk_cell h2 0).trans rfl
  have hf10 := blk_frozen h1 0
  have hf11 := blk_frozen h1 1
  have hf20 := blk_frozen h2 0
  refine callsD_of_wpS Try.func73 rfl fun c₀ cs hu => ?_
  apply wpS_seq
  apply wpS_region
  simp [wpOpsS, go_sem, recoverD, hu, Try.ntmps73, Exit.thenS]
  have hta : ∀ (v : Value) (W : World), (Instr.typeAssert (.iface 113 v) 20 113 true).run Try.prog W = .ok (.tuple #[v, .bool true]) W := fun v W => by rfl
  change Code.wpS Try.prog _ _ { tmps := #[.pointer (some ⟨g1, 0, none⟩), .pointer (some ⟨g2, 0, none⟩), .iface 113 (.int .i64 c), undef, undef, undef, .iface 113 (.int .i64 c), undef, undef, undef, undef, undef, undef, undef, undef, undef, undef, undef, undef], defers := [] } _ w
  refine wpS_of_wp ?_
  generalize hQ : bodyPostS Try.prog Try.f73 c₀ cs _ = Q
  have HQ := Aside0.mk hQ
  have H1 := Aside0.mk h1
  have H2 := Aside0.mk h2
  have HU := Aside0.mk hu
  clear hQ hu h1 h2 hz10 hz11 hz20 hf10 hf11 hf20
  go_wp2_with (((with_reducible refine gate_dst (N := 5) rfl ?_); refine box_event ?hg (N := 5) ?hd (cs := #[.int .u32 0, .slice none 0 0]) (t := 25) ?hr ?_; (case hd => rfl); (case hg => rfl); (case hr => first | (go_simp; done) | (go_simp; rfl)); intro gk hgk w1 hbox hb; have BK := Aside0.mk hbox; have HK := Aside0.mk hgk; have HB := Aside0.mk hb; clear hb hbox hgk; have K1 := Aside0.mk (blk_below H1.out HB.out); have K2 := Aside0.mk (blk_below H2.out HB.out); have hz10 : w1.cell? ⟨g1, 0, none⟩ = some (.int .u32 n) := (blk_cell K1.out 0).trans rfl; have hz11 : w1.cell? ⟨g1, 1, none⟩ = some v := (blk_cell K1.out 1).trans rfl; have hz20 : w1.cell? ⟨g2, 0, none⟩ = some (.int .i64 e0) := (blk_cell K2.out 0).trans rfl; have hzk0 : w1.cell? ⟨gk, 0, none⟩ = some (.int .u32 0) := (blk_cell BK.out 0).trans rfl; have hzk1 : w1.cell? ⟨gk, 1, none⟩ = some (.slice none 0 0) := (blk_cell BK.out 1).trans rfl; have hf10 := blk_frozen K1.out 0; have hf11 := blk_frozen K1.out 1; have hf20 := blk_frozen K2.out 0; have h21 : g2 ≠ g1 := fun e => h12 e.symm))
  have HE : Aside0 (Stay (fun k => k = g1 ∨ k = g2) w (((w1.setCell ⟨g1, 0, none⟩ (.int .u32 0)).setCell ⟨g1, 1, none⟩ (.slice none 0 0)).setCell ⟨g2, 0, none⟩ (.int .i64 c))) := ⟨(((Stay.of_below (fun k => k = g1 ∨ k = g2) HB.out).set (.inl (.inl rfl)) 0 _).set (.inl (.inl rfl)) 1 _).set (.inl (.inr rfl)) 0 _⟩
  have E1 : Aside0 ((((w1.setCell ⟨g1, 0, none⟩ (.int .u32 0)).setCell ⟨g1, 1, none⟩ (.slice none 0 0)).setCell ⟨g2, 0, none⟩ (.int .i64 c)).heap[g1]? = some (.cells #[.int .u32 0, .slice none 0 0] 25 (0, 0))) := ⟨((Stay.refl (fun k => k = g2) _).set (.inl rfl) 0 (.int .i64 c)).blk (blk_put (blk_put K1.out 0 (.int .u32 0) rfl) 1 (.slice none 0 0) rfl) h12⟩
  have E2 : Aside0 ((((w1.setCell ⟨g1, 0, none⟩ (.int .u32 0)).setCell ⟨g1, 1, none⟩ (.slice none 0 0)).setCell ⟨g2, 0, none⟩ (.int .i64 c)).heap[g2]? = some (.cells #[.int .i64 c] 33 (0, 0))) := ⟨blk_put ((((Stay.refl (fun k => k = g1) w1).set (.inl rfl) 0 (.int .u32 0)).set (.inl rfl) 1 (.slice none 0 0)).blk K2.out h21) 0 (.int .i64 c) rfl⟩
  rw [← HQ.out]
  simp [bodyPostS, results, Try.results73]
  exact ⟨HE.out, E1.out, E2.out⟩
set_option maxRecDepth 100000 in
set_option maxHeartbeats 2000000 in
theorem idle_epoch (p q : Addr) (w : World) :
    CallsD Try.prog 73 #[.pointer (some p), .pointer (some q)] .returning w fun e u' w' => e = .returned (.tuple #[]) ∧ u' = .returning ∧ w' = w := by
  refine callsD_of_wpS Try.func73 rfl fun c₀ cs hu => ?_
  apply wpS_seq
  apply wpS_region
  simp [wpOpsS, go_sem, recoverD, hu, Try.ntmps73, Exit.thenS]
  change Code.wpS Try.prog _ _ { tmps := #[.pointer (some p), .pointer (some q), .nilIface, undef, undef, undef, .nilIface, undef, undef, undef, undef, undef, undef, undef, undef, undef, undef, undef, undef], defers := [] } _ w
  refine wpS_of_wp ?_
  generalize hQ : bodyPostS Try.prog Try.f73 c₀ cs _ = Q
  have HQ := Aside0.mk hQ
  have HU := Aside0.mk hu
  clear hQ hu
  go_wp2_with fail
  rw [← HQ.out]
  have hu := HU.out
  cases c₀
  simp_all [bodyPostS, results, Try.results73]
set_option maxRecDepth 100000 in
set_option maxHeartbeats 2000000 in
theorem catch_rows (g1 g2 : Nat) (h12 : g1 ≠ g2) (v : Value) (e0 c : Int) (w : World) (h1 : w.heap[g1]? = some (.cells #[v] 26 (0, 0))) (h2 : w.heap[g2]? = some (.cells #[.int .i64 e0] 33 (0, 0))) :
    CallsD Try.prog 78 #[.pointer (some ⟨g1, 0, none⟩), .pointer (some ⟨g2, 0, none⟩)] (.panicking [{ v := .iface 113 (.int .i64 c), recovered := false }]) w fun e u' w' =>
      e = .returned (.tuple #[]) ∧ u' = .panicking [{ v := .iface 113 (.int .i64 c), recovered := true }] ∧ Stay (fun k => k = g1 ∨ k = g2) w w' ∧ w'.heap[g1]? = some (.cells #[.slice none 0 0] 26 (0, 0)) ∧ w'.heap[g2]? = some (.cells #[.int .i64 c] 33 (0, 0)) := by
  refine callsD_of_wpS Try.func78 rfl fun c₀ cs hu => ?_
  apply wpS_seq
  apply wpS_region
  simp [wpOpsS, go_sem, recoverD, hu, Try.ntmps78, Exit.thenS]
  have hta : ∀ (v : Value) (W : World), (Instr.typeAssert (.iface 113 v) 20 113 true).run Try.prog W = .ok (.tuple #[v, .bool true]) W := fun v W => by rfl
  change Code.wpS Try.prog _ _ { tmps := #[.pointer (some ⟨g1, 0, none⟩), .pointer (some ⟨g2, 0, none⟩), .iface 113 (.int .i64 c), undef, undef, undef, .iface 113 (.int .i64 c), undef, undef, undef, undef, undef, undef, undef, undef, undef, undef, undef, undef], defers := [] } _ w
  refine wpS_of_wp ?_
  generalize hQ : bodyPostS Try.prog Try.f78 c₀ cs _ = Q
  have HQ := Aside0.mk hQ
  have H1 := Aside0.mk h1
  have H2 := Aside0.mk h2
  have HU := Aside0.mk hu
  clear hQ hu h1 h2
  have hz10 : w.cell? ⟨g1, 0, none⟩ = some v := (blk_cell H1.out 0).trans rfl
  have hz20 : w.cell? ⟨g2, 0, none⟩ = some (.int .i64 e0) := (blk_cell H2.out 0).trans rfl
  have hf10 := blk_frozen H1.out 0
  have hf20 := blk_frozen H2.out 0
  have h21 : g2 ≠ g1 := fun e => h12 e.symm
  go_wp2_with fail
  have HE : Aside0 (Stay (fun k => k = g1 ∨ k = g2) w ((w.setCell ⟨g1, 0, none⟩ (.slice none 0 0)).setCell ⟨g2, 0, none⟩ (.int .i64 c))) := ⟨((Stay.refl (fun k => k = g1 ∨ k = g2) w).set (.inl (.inl rfl)) 0 _).set (.inl (.inr rfl)) 0 _⟩
  have E1 : Aside0 (((w.setCell ⟨g1, 0, none⟩ (.slice none 0 0)).setCell ⟨g2, 0, none⟩ (.int .i64 c)).heap[g1]? = some (.cells #[.slice none 0 0] 26 (0, 0))) := ⟨((Stay.refl (fun k => k = g2) _).set (.inl rfl) 0 (.int .i64 c)).blk (blk_put H1.out 0 (.slice none 0 0) rfl) h12⟩
  have E2 : Aside0 (((w.setCell ⟨g1, 0, none⟩ (.slice none 0 0)).setCell ⟨g2, 0, none⟩ (.int .i64 c)).heap[g2]? = some (.cells #[.int .i64 c] 33 (0, 0))) := ⟨blk_put (((Stay.refl (fun k => k = g1) w).set (.inl rfl) 0 (.slice none 0 0)).blk H2.out h21) 0 (.int .i64 c) rfl⟩
  rw [← HQ.out]
  simp [bodyPostS, results, Try.results78]
  exact ⟨HE.out, E1.out, E2.out⟩
set_option maxRecDepth 100000 in
set_option maxHeartbeats 2000000 in
theorem idle_rows (p q : Addr) (w : World) :
    CallsD Try.prog 78 #[.pointer (some p), .pointer (some q)] .returning w fun e u' w' => e = .returned (.tuple #[]) ∧ u' = .returning ∧ w' = w := by
  refine callsD_of_wpS Try.func78 rfl fun c₀ cs hu => ?_
  apply wpS_seq
  apply wpS_region
  simp [wpOpsS, go_sem, recoverD, hu, Try.ntmps78, Exit.thenS]
  change Code.wpS Try.prog _ _ { tmps := #[.pointer (some p), .pointer (some q), .nilIface, undef, undef, undef, .nilIface, undef, undef, undef, undef, undef, undef, undef, undef, undef, undef, undef, undef], defers := [] } _ w
  refine wpS_of_wp ?_
  generalize hQ : bodyPostS Try.prog Try.f78 c₀ cs _ = Q
  have HQ := Aside0.mk hQ
  have HU := Aside0.mk hu
  clear hQ hu
  go_wp2_with fail
  rw [← HQ.out]
  have hu := HU.out
  cases c₀
  simp_all [bodyPostS, results, Try.results78]
end Go.Proofs.Ytgmdoapedhppmaa.PC

namespace Go.Proofs.Ytgmdoapedhppmaa.PC
set_option linter.unusedVariables false
set_option linter.unusedSimpArgs false
open Go.RowKit Go.Proofs.YtgmdoapedhppmaaW.PrintWords Go.Proofs.YtgmdoapedhppmaaW.PrintLast Go.Proofs.YtgmdoapedhppmaaW.PrintMore
/-- What is asked of the epoch's reader. -/
def EpochCalls (f : List Int → Option (Except Int ((Int × List S47) × List Int))) : Prop :=
  ∀ (w0 w : World) (g : Nat) (l : List Int) (q : Except Int ((Int × List S47) × List Int)), Rd w0 w g l → Below w0.heap.size w0 w → w0.heap.size ≤ g → f l = some q →
    Calls Try.prog 53 #[.pointer (some ⟨g, 0, none⟩)] w fun e w' => (match q with
      | .ok p => ∃ v, e = .returned (.agg #[.int .u32 p.1.1, v]) ∧ Kd.S k47 47 w' w.heap.size (fun _ => True) v p.1.2 ∧ Rd w0 w' g p.2
      | .error c => e = .panicked [{ v := .iface 113 (.int .i64 c), recovered := false }]) ∧ Stay (fun k => k = g) w w'
def finish {β : Type} (q : Except Int (β × List Int)) : Except Int β := match q with
  | .error c => .error c
  | .ok (x, l) => if l.length = 0 then .ok x else .error 3
theorem three_allocs (w : World) (o1 o2 o3 : Obj) : ∃ W3, W3 = ((w.alloc o1).alloc o2).alloc o3 ∧ W3.heap[w.heap.size]? = some o1 ∧ W3.heap[w.heap.size + 1]? = some o2 ∧ W3.heap[w.heap.size + 1 + 1]? = some o3 ∧ Below w.heap.size w W3 := by
  have s1 : (w.alloc o1).heap.size = w.heap.size + 1 := by simp
  have s2 : ((w.alloc o1).alloc o2).heap.size = w.heap.size + 1 + 1 := by simp
  refine ⟨_, rfl, blk_alloc (blk_alloc (blk_new w o1) _) _, ?_, ?_, below_alloc (below_alloc (below_alloc (Below.refl _ _) _) _) _⟩
  · have := blk_new (w.alloc o1) o2
    rw [s1] at this
    exact blk_alloc this _
  · have := blk_new ((w.alloc o1).alloc o2) o3
    rwa [s2] at this
def epN (r : Except Int (Int × List S47)) : Int := match r with | .ok p => p.1 | .error _ => 0
def epL (r : Except Int (Int × List S47)) : List S47 := match r with | .ok p => p.2 | .error _ => []
def epE {β : Type} (r : Except Int β) : Int := match r with | .ok _ => 0 | .error c => c
set_option maxRecDepth 100000 in
set_option maxHeartbeats 2000000 in
theorem whole_epoch (f : List Int → Option (Except Int ((Int × List S47) × List Int))) (F : EpochCalls f) (A0 : Option Addr) (c0 : Nat) (l0 : List Int) (q : Except Int ((Int × List S47) × List Int)) (w : World) (hr0 : Kd.C (Kd.int .u8) w A0 l0.length l0) (hc0 : l0.length ≤ c0) (hq : f l0 = some q) :
    Calls Try.prog 52 #[.slice A0 l0.length c0, .func (.func 53) #[] #[]] w fun e w' => ∃ v, e = .returned (.tuple #[.agg #[.int .u32 (epN (finish q)), v], .int .i64 (epE (finish q))]) ∧ Kd.S k47 47 w' w.heap.size (fun _ => True) v (epL (finish q)) ∧ Below w.heap.size w w' := by
  have hmf : ∀ (fn : Fn) (first cap : Array Value) (w : World), (Instr.makeFunc fn first cap).run Try.prog w = .ok (.func fn first cap) w := fun _ _ _ _ => rfl
  have HC := Aside0.mk hr0
  have HQ := Aside0.mk hq
  clear hr0 hq
  cases q with
  | error c =>
    go_enter_defers Try.func52, Try.ntmps52
    go_wp2_with fail
    obtain ⟨W3, W, H1, H2, H3, HB⟩ := three_allocs w (.cells #[.int .u32 0, .slice none 0 0] 25 (0, 0)) (.cells #[.int .i64 0] 33 (0, 0)) (.cells #[.slice A0 l0.length c0] 116 (0, 0))
    rw [← W]
    have B := Aside0.mk HB
    have R : Aside0 (Rd w W3 (w.heap.size + 1 + 1) l0) := ⟨⟨A0, c0, H3, hc0, HC.out⟩⟩
    have H1a := Aside0.mk H1
    have H2a := Aside0.mk H2
    clear H1 H2 H3 HB W
    refine (F w W3 (w.heap.size + 1 + 1) l0 _ R.out B.out (by omega) HQ.out).mono ?_
    rintro e w4 ⟨rfl, hs⟩
    have S := Aside0.mk hs
    have H1b := Aside0.mk (hs.blk H1a.out (by omega))
    have H2b := Aside0.mk (hs.blk H2a.out (by omega))
    clear hs
    refine leaves_cons (f := 73) (args := #[.pointer (some ⟨w.heap.size, 0, none⟩), .pointer (some ⟨w.heap.size + 1, 0, none⟩)]) (by simp) (by simp [go_sem]) ?_
    refine (catch_epoch w.heap.size (w.heap.size + 1) (by omega) 0 (.slice none 0 0) 0 c w4 H1b.out H2b.out).mono ?_
    rintro e u' w5 ⟨rfl, rfl, hs, h1, h2⟩
    have hz0 : w5.cell? ⟨w.heap.size, 0, none⟩ = some (.int .u32 0) := (blk_cell h1 0).trans rfl
    have hz1 : w5.cell? ⟨w.heap.size, 1, none⟩ = some (.slice none 0 0) := (blk_cell h1 1).trans rfl
    have hz2 : w5.cell? ⟨w.heap.size + 1, 0, none⟩ = some (.int .i64 c) := (blk_cell h2 0).trans rfl
    have BF : Aside0 (Below w.heap.size w w5) := ⟨hs.below (S.out.below B.out (by intro k hk; omega)) (by intro k hk; omega)⟩
    simp [Leaves, settle, results, Try.results52, go_sem, hz0, hz1, hz2]
    exact ⟨.slice none 0 0, ⟨⟨rfl, rfl⟩, rfl⟩, Kd.S_nil _ _ _ _ _, BF.out⟩
  | ok p =>
    obtain ⟨⟨N, xs⟩, l'⟩ := p
    go_enter_defers Try.func52, Try.ntmps52
    go_wp2_with fail
    obtain ⟨W3, W, H1, H2, H3, HB⟩ := three_allocs w (.cells #[.int .u32 0, .slice none 0 0] 25 (0, 0)) (.cells #[.int .i64 0] 33 (0, 0)) (.cells #[.slice A0 l0.length c0] 116 (0, 0))
    rw [← W]
    have B := Aside0.mk HB
    have R : Aside0 (Rd w W3 (w.heap.size + 1 + 1) l0) := ⟨⟨A0, c0, H3, hc0, HC.out⟩⟩
    have H1a := Aside0.mk H1
    have H2a := Aside0.mk H2
    clear H1 H2 H3 HB W
    refine (F w W3 (w.heap.size + 1 + 1) l0 _ R.out B.out (by omega) HQ.out).mono ?_
    rintro e w4 ⟨⟨v, rfl, hS, hR⟩, hs⟩
    have S := Aside0.mk hs
    have HS := Aside0.mk hS
    have HR := Aside0.mk hR
    have H1b := Aside0.mk (hs.blk H1a.out (by omega))
    have H2b := Aside0.mk (hs.blk H2a.out (by omega))
    obtain ⟨Av, cv, rfl⟩ := Kd.S_slice hS
    clear hs hS hR
    have hz10 : w4.cell? ⟨w.heap.size, 0, none⟩ = some (.int .u32 0) := (blk_cell H1b.out 0).trans rfl
    have hz11 : w4.cell? ⟨w.heap.size, 1, none⟩ = some (.slice none 0 0) := (blk_cell H1b.out 1).trans rfl
    have hf10 := blk_frozen H1b.out 0
    have hf11 := blk_frozen H1b.out 1
    obtain ⟨A', c', hr1, hr2, hr3⟩ := HR.out
    have hzr : w4.cell? ⟨w.heap.size + 1 + 1, 0, none⟩ = some (.slice A' l'.length c') := (blk_cell hr1 0).trans rfl
    have HR3 := Aside0.mk hr3
    have HR1 := Aside0.mk hr1
    clear hr1 hr3
    go_wp2_with fail
    have S5 := Aside0.mk (Kd.S_set (Kd.S_set HS.out H1b.out (by decide) 0 (.int .u32 N)) (blk_put H1b.out 0 (.int .u32 N) rfl) (by decide) 1 (.slice Av xs.length cv))
    have K5 := Aside0.mk (blk_put (blk_put H1b.out 0 (.int .u32 N) rfl) 1 (.slice Av xs.length cv) rfl)
    have T5 := Aside0.mk (((Stay.refl (fun k => k = w.heap.size) w4).set (.inl rfl) 0 (.int .u32 N)).set (.inl rfl) 1 (.slice Av xs.length cv))
    have L5 := Aside0.mk (T5.out.blk H2b.out (by omega))
    have B4 := Aside0.mk (S.out.below B.out (by intro k hk; omega))
    have B5 := Aside0.mk (T5.out.below B4.out (by intro k hk; omega))
    have hW3 : Aside0 (w.heap.size ≤ W3.heap.size) := ⟨B.out.size⟩
    clear HS H1b H2b hz10 hz11 hf10 hf11 hzr T5 B4
    generalize (w4.setCell ⟨w.heap.size, 0, none⟩ (.int .u32 N)).setCell ⟨w.heap.size, 1, none⟩ (.slice Av xs.length cv) = w5 at S5 K5 L5 B5 ⊢
    by_cases h0 : l'.length = 0
    · have d0 : ((l'.length : Int) == 0) = true := beq_iff_eq.2 (by omega)
      rw [d0]
      have Fq : Aside0 (finish (.ok ((N, xs), l')) = .ok (N, xs)) := ⟨by unfold finish; simp [h0]⟩
      refine (must_calls true _).mono ?_
      rintro e w6 ⟨he, hb⟩
      rw [if_pos rfl] at he
      subst he
      have S6 := Aside0.mk (Kd.S_below S5.out hb)
      have K6 := Aside0.mk (blk_below K5.out hb)
      have L6 := Aside0.mk (blk_below L5.out hb)
      have B6 := Aside0.mk (below_step B5.out hb)
      clear S5 K5 L5 B5 hb d0
      have hz10 : w6.cell? ⟨w.heap.size, 0, none⟩ = some (.int .u32 N) := (blk_cell K6.out 0).trans rfl
      have hz11 : w6.cell? ⟨w.heap.size, 1, none⟩ = some (.slice Av xs.length cv) := (blk_cell K6.out 1).trans rfl
      have hz20 : w6.cell? ⟨w.heap.size + 1, 0, none⟩ = some (.int .i64 0) := (blk_cell L6.out 0).trans rfl
      have hf10 := blk_frozen K6.out 0
      have hf11 := blk_frozen K6.out 1
      have hf20 := blk_frozen L6.out 0
      go_wp2_with fail
      refine leaves_cons (f := 73) (args := #[.pointer (some ⟨w.heap.size, 0, none⟩), .pointer (some ⟨w.heap.size + 1, 0, none⟩)]) (by simp) (by simp [go_sem]) ?_
      refine (idle_epoch _ _ _).mono ?_
      rintro e u' w7 ⟨rfl, rfl, rfl⟩
      have K8 := blk_put (blk_put K6.out 0 (.int .u32 N) rfl) 1 (.slice Av xs.length cv) rfl
      have T8 := ((Stay.refl (fun k => k = w.heap.size) w6).set (.inl rfl) 0 (.int .u32 N)).set (.inl rfl) 1 (.slice Av xs.length cv)
      have L8 := T8.blk L6.out (by omega)
      have S8 := Kd.S_set (Kd.S_set (Kd.S_set S6.out K6.out (by decide) 0 (.int .u32 N)) (blk_put K6.out 0 (.int .u32 N) rfl) (by decide) 1 (.slice Av xs.length cv)) L8 (by decide) 0 (.int .i64 0)
      have K9 := ((Stay.refl (fun k => k = w.heap.size + 1) _).set (.inl rfl) 0 (.int .i64 0)).blk K8 (by omega)
      have L9 := blk_put L8 0 (.int .i64 0) rfl
      have B9 := Aside0.mk ((T8.mono (fun k hk => .inl hk) : Stay (fun k => k = w.heap.size ∨ k = w.heap.size + 1) w6 _).set (.inl (.inr rfl)) 0 (.int .i64 0) |>.below B6.out (by intro k hk; omega))
      generalize ((w6.setCell ⟨w.heap.size, 0, none⟩ (.int .u32 N)).setCell ⟨w.heap.size, 1, none⟩ (.slice Av xs.length cv)).setCell ⟨w.heap.size + 1, 0, none⟩ (.int .i64 0) = w9 at K9 L9 B9 S8 ⊢
      have hz0 : w9.cell? ⟨w.heap.size, 0, none⟩ = some (.int .u32 N) := (blk_cell K9 0).trans rfl
      have hz1 : w9.cell? ⟨w.heap.size, 1, none⟩ = some (.slice Av xs.length cv) := (blk_cell K9 1).trans rfl
      have hz2 : w9.cell? ⟨w.heap.size + 1, 0, none⟩ = some (.int .i64 0) := (blk_cell L9 0).trans rfl
      simp [Leaves, settle, results, Try.results52, go_sem, hz0, hz1, hz2, Fq.out]
      exact ⟨_, ⟨⟨rfl, rfl⟩, rfl⟩, Kd.S_lower S8 hW3.out, B9.out⟩
    · have d0 : ((l'.length : Int) == 0) = false := beq_eq_false_iff_ne.2 (by omega)
      have Fq : Aside0 (finish (.ok ((N, xs), l')) = .error 3) := ⟨by unfold finish; simp [h0]⟩
      rw [d0]
      refine (must_calls false _).mono ?_
      rintro e w6 ⟨he, hb⟩
      rw [if_neg (by decide)] at he
      subst he
      refine leaves_cons (f := 73) (args := #[.pointer (some ⟨w.heap.size, 0, none⟩), .pointer (some ⟨w.heap.size + 1, 0, none⟩)]) (by simp) (by simp [go_sem]) ?_
      refine (catch_epoch w.heap.size (w.heap.size + 1) (by omega) N _ 0 3 w6 (blk_below K5.out hb) (blk_below L5.out hb)).mono ?_
      rintro e u' w7 ⟨rfl, rfl, hs, h1, h2⟩
      have hz0 : w7.cell? ⟨w.heap.size, 0, none⟩ = some (.int .u32 0) := (blk_cell h1 0).trans rfl
      have hz1 : w7.cell? ⟨w.heap.size, 1, none⟩ = some (.slice none 0 0) := (blk_cell h1 1).trans rfl
      have hz2 : w7.cell? ⟨w.heap.size + 1, 0, none⟩ = some (.int .i64 3) := (blk_cell h2 0).trans rfl
      have BF : Aside0 (Below w.heap.size w w7) := ⟨hs.below (below_step B5.out hb) (by intro k hk; omega)⟩
      simp [Leaves, settle, results, Try.results52, go_sem, hz0, hz1, hz2, Fq.out]
      exact ⟨_, ⟨⟨rfl, rfl⟩, rfl⟩, Kd.S_nil _ _ _ _ _, BF.out⟩
end Go.Proofs.Ytgmdoapedhppmaa.PC

namespace Go.Proofs.Ytgmdoapedhppmaa.PC
set_option linter.unusedVariables false
set_option linter.unusedSimpArgs false
open Go.RowKit Go.Proofs.YtgmdoapedhppmaaW.PrintWords Go.Proofs.YtgmdoapedhppmaaW.PrintLast Go.Proofs.YtgmdoapedhppmaaW.PrintMore
/-- What is asked of the rows' reader. -/
def RowsCalls (f : List Int → Option (Except Int (List S57 × List Int))) : Prop :=
  ∀ (w0 w : World) (g : Nat) (l : List Int) (q : Except Int (List S57 × List Int)), Rd w0 w g l → Below w0.heap.size w0 w → w0.heap.size ≤ g → f l = some q →
    Calls Try.prog 55 #[.pointer (some ⟨g, 0, none⟩)] w fun e w' => (match q with
      | .ok p => ∃ v, e = .returned v ∧ Kd.S k57 57 w' w.heap.size (fun _ => True) v p.1 ∧ Rd w0 w' g p.2
      | .error c => e = .panicked [{ v := .iface 113 (.int .i64 c), recovered := false }]) ∧ Stay (fun k => k = g) w w'
def rowsL (r : Except Int (List S57)) : List S57 := match r with | .ok p => p | .error _ => []
set_option maxRecDepth 100000 in
set_option maxHeartbeats 2000000 in
theorem whole_rows (f : List Int → Option (Except Int ((List S57) × List Int))) (F : RowsCalls f) (A0 : Option Addr) (c0 : Nat) (l0 : List Int) (q : Except Int ((List S57) × List Int)) (w : World) (hr0 : Kd.C (Kd.int .u8) w A0 l0.length l0) (hc0 : l0.length ≤ c0) (hq : f l0 = some q) :
    Calls Try.prog 54 #[.slice A0 l0.length c0, .func (.func 55) #[] #[]] w fun e w' => ∃ v, e = .returned (.tuple #[v, .int .i64 (epE (finish q))]) ∧ Kd.S k57 57 w' w.heap.size (fun _ => True) v (rowsL (finish q)) ∧ Below w.heap.size w w' := by
  have hmf : ∀ (fn : Fn) (first cap : Array Value) (w : World), (Instr.makeFunc fn first cap).run Try.prog w = .ok (.func fn first cap) w := fun _ _ _ _ => rfl
  have HC := Aside0.mk hr0
  have HQ := Aside0.mk hq
  clear hr0 hq
  cases q with
  | error c =>
    go_enter_defers Try.func54, Try.ntmps54
    go_wp2_with fail
    obtain ⟨W3, W, H1, H2, H3, HB⟩ := three_allocs w (.cells #[.slice none 0 0] 26 (0, 0)) (.cells #[.int .i64 0] 33 (0, 0)) (.cells #[.slice A0 l0.length c0] 116 (0, 0))
    rw [← W]
    have B := Aside0.mk HB
    have R : Aside0 (Rd w W3 (w.heap.size + 1 + 1) l0) := ⟨⟨A0, c0, H3, hc0, HC.out⟩⟩
    have H1a := Aside0.mk H1
    have H2a := Aside0.mk H2
    clear H1 H2 H3 HB W
    refine (F w W3 (w.heap.size + 1 + 1) l0 _ R.out B.out (by omega) HQ.out).mono ?_
    rintro e w4 ⟨rfl, hs⟩
    have S := Aside0.mk hs
    have H1b := Aside0.mk (hs.blk H1a.out (by omega))
    have H2b := Aside0.mk (hs.blk H2a.out (by omega))
    clear hs
    refine leaves_cons (f := 78) (args := #[.pointer (some ⟨w.heap.size, 0, none⟩), .pointer (some ⟨w.heap.size + 1, 0, none⟩)]) (by simp) (by simp [go_sem]) ?_
    refine (catch_rows w.heap.size (w.heap.size + 1) (by omega) (.slice none 0 0) 0 c w4 H1b.out H2b.out).mono ?_
    rintro e u' w5 ⟨rfl, rfl, hs, h1, h2⟩
    have hz0 : w5.cell? ⟨w.heap.size, 0, none⟩ = some (.slice none 0 0) := (blk_cell h1 0).trans rfl
    have hz2 : w5.cell? ⟨w.heap.size + 1, 0, none⟩ = some (.int .i64 c) := (blk_cell h2 0).trans rfl
    have BF : Aside0 (Below w.heap.size w w5) := ⟨hs.below (S.out.below B.out (by intro k hk; omega)) (by intro k hk; omega)⟩
    simp [Leaves, settle, results, Try.results54, go_sem, hz0, hz2]
    exact ⟨.slice none 0 0, ⟨rfl, rfl⟩, Kd.S_nil _ _ _ _ _, BF.out⟩
  | ok p =>
    obtain ⟨xs, l'⟩ := p
    go_enter_defers Try.func54, Try.ntmps54
    go_wp2_with fail
    obtain ⟨W3, W, H1, H2, H3, HB⟩ := three_allocs w (.cells #[.slice none 0 0] 26 (0, 0)) (.cells #[.int .i64 0] 33 (0, 0)) (.cells #[.slice A0 l0.length c0] 116 (0, 0))
    rw [← W]
    have B := Aside0.mk HB
    have R : Aside0 (Rd w W3 (w.heap.size + 1 + 1) l0) := ⟨⟨A0, c0, H3, hc0, HC.out⟩⟩
    have H1a := Aside0.mk H1
    have H2a := Aside0.mk H2
    clear H1 H2 H3 HB W
    refine (F w W3 (w.heap.size + 1 + 1) l0 _ R.out B.out (by omega) HQ.out).mono ?_
    rintro e w4 ⟨⟨v, rfl, hS, hR⟩, hs⟩
    have S := Aside0.mk hs
    have HS := Aside0.mk hS
    have HR := Aside0.mk hR
    have H1b := Aside0.mk (hs.blk H1a.out (by omega))
    have H2b := Aside0.mk (hs.blk H2a.out (by omega))
    obtain ⟨Av, cv, rfl⟩ := Kd.S_slice hS
    clear hs hS hR
    have hz10 : w4.cell? ⟨w.heap.size, 0, none⟩ = some (.slice none 0 0) := (blk_cell H1b.out 0).trans rfl
    have hf10 := blk_frozen H1b.out 0
    obtain ⟨A', c', hr1, hr2, hr3⟩ := HR.out
    have hzr : w4.cell? ⟨w.heap.size + 1 + 1, 0, none⟩ = some (.slice A' l'.length c') := (blk_cell hr1 0).trans rfl
    have HR3 := Aside0.mk hr3
    have HR1 := Aside0.mk hr1
    clear hr1 hr3
    go_wp2_with fail
    have S5 := Aside0.mk (Kd.S_set HS.out H1b.out (by decide) 0 (.slice Av xs.length cv))
    have K5 := Aside0.mk (blk_put H1b.out 0 (.slice Av xs.length cv) rfl)
    have T5 := Aside0.mk ((Stay.refl (fun k => k = w.heap.size) w4).set (.inl rfl) 0 (.slice Av xs.length cv))
    have L5 := Aside0.mk (T5.out.blk H2b.out (by omega))
    have B4 := Aside0.mk (S.out.below B.out (by intro k hk; omega))
    have B5 := Aside0.mk (T5.out.below B4.out (by intro k hk; omega))
    have hW3 : Aside0 (w.heap.size ≤ W3.heap.size) := ⟨B.out.size⟩
    clear HS H1b H2b hz10 hf10 hzr T5 B4
    generalize w4.setCell ⟨w.heap.size, 0, none⟩ (.slice Av xs.length cv) = w5 at S5 K5 L5 B5 ⊢
    by_cases h0 : l'.length = 0
    · have d0 : ((l'.length : Int) == 0) = true := beq_iff_eq.2 (by omega)
      rw [d0]
      have Fq : Aside0 (finish (.ok (xs, l')) = .ok xs) := ⟨by unfold finish; simp [h0]⟩
      refine (must_calls true _).mono ?_
      rintro e w6 ⟨he, hb⟩
      rw [if_pos rfl] at he
      subst he
      have S6 := Aside0.mk (Kd.S_below S5.out hb)
      have K6 := Aside0.mk (blk_below K5.out hb)
      have L6 := Aside0.mk (blk_below L5.out hb)
      have B6 := Aside0.mk (below_step B5.out hb)
      clear S5 K5 L5 B5 hb d0
      have hz10 : w6.cell? ⟨w.heap.size, 0, none⟩ = some (.slice Av xs.length cv) := (blk_cell K6.out 0).trans rfl
      have hz20 : w6.cell? ⟨w.heap.size + 1, 0, none⟩ = some (.int .i64 0) := (blk_cell L6.out 0).trans rfl
      have hf10 := blk_frozen K6.out 0
      have hf20 := blk_frozen L6.out 0
      go_wp2_with fail
      refine leaves_cons (f := 78) (args := #[.pointer (some ⟨w.heap.size, 0, none⟩), .pointer (some ⟨w.heap.size + 1, 0, none⟩)]) (by simp) (by simp [go_sem]) ?_
      refine (idle_rows _ _ _).mono ?_
      rintro e u' w7 ⟨rfl, rfl, rfl⟩
      have K8 := blk_put K6.out 0 (.slice Av xs.length cv) rfl
      have T8 := (Stay.refl (fun k => k = w.heap.size) w6).set (.inl rfl) 0 (.slice Av xs.length cv)
      have L8 := T8.blk L6.out (by omega)
      have S8 := Kd.S_set (Kd.S_set S6.out K6.out (by decide) 0 (.slice Av xs.length cv)) L8 (by decide) 0 (.int .i64 0)
      have K9 := ((Stay.refl (fun k => k = w.heap.size + 1) _).set (.inl rfl) 0 (.int .i64 0)).blk K8 (by omega)
      have L9 := blk_put L8 0 (.int .i64 0) rfl
      have B9 := Aside0.mk ((T8.mono (fun k hk => .inl hk) : Stay (fun k => k = w.heap.size ∨ k = w.heap.size + 1) w6 _).set (.inl (.inr rfl)) 0 (.int .i64 0) |>.below B6.out (by intro k hk; omega))
      generalize (w6.setCell ⟨w.heap.size, 0, none⟩ (.slice Av xs.length cv)).setCell ⟨w.heap.size + 1, 0, none⟩ (.int .i64 0) = w9 at K9 L9 B9 S8 ⊢
      have hz0 : w9.cell? ⟨w.heap.size, 0, none⟩ = some (.slice Av xs.length cv) := (blk_cell K9 0).trans rfl
      have hz2 : w9.cell? ⟨w.heap.size + 1, 0, none⟩ = some (.int .i64 0) := (blk_cell L9 0).trans rfl
      simp [Leaves, settle, results, Try.results54, go_sem, hz0, hz2, Fq.out]
      exact ⟨_, ⟨rfl, rfl⟩, Kd.S_lower S8 hW3.out, B9.out⟩
    · have d0 : ((l'.length : Int) == 0) = false := beq_eq_false_iff_ne.2 (by omega)
      have Fq : Aside0 (finish (.ok (xs, l')) = .error 3) := ⟨by unfold finish; simp [h0]⟩
      rw [d0]
      refine (must_calls false _).mono ?_
      rintro e w6 ⟨he, hb⟩
      rw [if_neg (by decide)] at he
      subst he
      refine leaves_cons (f := 78) (args := #[.pointer (some ⟨w.heap.size, 0, none⟩), .pointer (some ⟨w.heap.size + 1, 0, none⟩)]) (by simp) (by simp [go_sem]) ?_
      refine (catch_rows w.heap.size (w.heap.size + 1) (by omega) _ 0 3 w6 (blk_below K5.out hb) (blk_below L5.out hb)).mono ?_
      rintro e u' w7 ⟨rfl, rfl, hs, h1, h2⟩
      have hz0 : w7.cell? ⟨w.heap.size, 0, none⟩ = some (.slice none 0 0) := (blk_cell h1 0).trans rfl
      have hz2 : w7.cell? ⟨w.heap.size + 1, 0, none⟩ = some (.int .i64 3) := (blk_cell h2 0).trans rfl
      have BF : Aside0 (Below w.heap.size w w7) := ⟨hs.below (below_step B5.out hb) (by intro k hk; omega)⟩
      simp [Leaves, settle, results, Try.results54, go_sem, hz0, hz2, Fq.out]
      exact ⟨_, ⟨rfl, rfl⟩, Kd.S_nil _ _ _ _ _, BF.out⟩
end Go.Proofs.Ytgmdoapedhppmaa.PC

namespace Go.Proofs.Ytgmdoapedhppmaa.PC
set_option linter.unusedVariables false
set_option linter.unusedSimpArgs false
open Go.RowKit Go.Proofs.YtgmdoapedhppmaaW.PrintWords Go.Proofs.YtgmdoapedhppmaaW.PrintLast Go.Proofs.YtgmdoapedhppmaaW.PrintMore
theorem Stay.step {S T : Nat → Prop} {a b c : World} (h : Stay S a b) (k : Stay T b c) (hT : ∀ i, T i → S i ∨ a.heap.size ≤ i) : Stay S a c :=
  ⟨k.os.trans h.os, k.tape.trans h.tape, k.output.trans h.output, Nat.le_trans h.size k.size, fun i hi hs => (k.block i (Nat.lt_of_lt_of_le hi h.size) (fun ht => (hT i ht).elim hs (fun h => by omega))).trans (h.block i hi hs)⟩
theorem Stay.of_grown {a b : World} {row : Option Nat} (h : a.grownBy b row) : Stay (fun k => some k = row) a b := ⟨h.os, h.tape, h.output, h.size, fun k hk hn => h.block k hk hn⟩
section
variable {α : Type} {d : Kd α} {e : Nat} {w w1 : World} {base : Nat} {ok : Nat → Prop} {v : Value} {xs : List α}
theorem S_stay {S : Nat → Prop} (h : Kd.S d e w base ok v xs) (hs : Stay S w w1) (hok : ∀ k, ok k → ¬ S k) : Kd.S d e w1 base ok v xs := Kd.S_step h (fun k ho hk => hs.block k hk (hok k ho))
/-- The reader is turned: rows of the call's own stay. -/
theorem S_stayT {g : Nat} {l : List Int} {w0 : World} (ht : ∀ q, q ∈ e :: d.E → q ≠ 116) (h : Kd.S d e w base ok v xs) (hR : Rd w0 w g l) (hs : Stay (fun k => k = g) w w1) : Kd.S d e w1 base ok v xs := by
  obtain ⟨A, c, hb, _⟩ := hR
  exact Kd.S_mono (S_stay (Kd.S_types h hb ht) hs (fun k hk e => hk.2 e)) (fun _ hk => hk.1)
/-- .. and the key ahead. -/
theorem S_stay2T {g h : Nat} {l : List Int} {w0 : World} {x : S28} (ht : ∀ q, q ∈ e :: d.E → q ≠ 116) (ht' : ∀ q, q ∈ e :: d.E → q ≠ 28) (hS : Kd.S d e w base ok v xs) (hR : Rd w0 w g l) (hL : w.heap[h]? = some (keyCells x)) (hs : Stay (fun k => k = g ∨ k = h) w w1) : Kd.S d e w1 base ok v xs := by
  obtain ⟨A, c, hb, _⟩ := hR
  exact Kd.S_mono (S_stay (Kd.S_types (Kd.S_types hS hb ht) hL ht') hs (fun k hk e => e.elim hk.1.2 hk.2)) (fun _ hk => hk.1.1)
end
theorem S_stay1 {w0 w w1 : World} {base g : Nat} {l : List Int} {v : Value} {xs : List S57} (h : Kd.S k57 57 w base (fun _ => True) v xs) (hR : Rd w0 w g l) (hs : Stay (fun k => k = g) w w1) : Kd.S k57 57 w1 base (fun _ => True) v xs := S_stayT (by decide) h hR hs
/-- Some rows more. -/
def takeRowsL (k : Nat) : Nat → S28 → List S57 → List Int → Option (Except Int (List S57 × List Int))
  | 0, _, acc, l => some (.ok (acc, l))
  | n + 1, last, acc, l => (takeKey k last l).bind fun q => match q with
    | .error c => some (.error c)
    | .ok (key, l1) => (takeN k 0 256 l1).bind fun q => match q with
      | .error c => some (.error c)
      | .ok (m, l2) => match takeB m l2 with
        | .error c => some (.error c)
        | .ok (v, l3) => if acc.length < 3518437208883 then takeRowsL k n key (acc ++ [⟨key, v⟩]) l3 else none
/-- Rows, as many as stands ahead of them. -/
def takeRows (k : Nat) (l : List Int) : Option (Except Int (List S57 × List Int)) :=
  (takeN k 0 4611686018427387904 l).bind fun q => match q with
    | .error c => some (.error c)
    | .ok (n, l1) => takeRowsL k n.toNat ⟨0, ⟨#[]⟩⟩ [] l1
def rows6_T : Bool × List (List Nat × List Nat) := (true, [([], []), ([], []), ([], []), ([], []), ([3], [3]), ([2, 4, 4], [2, 4]), ([1, 5], [1, 5]), ([6], [6]), ([0, 7, 5], [0, 7]), ([8, 8, 0, 1, 2, 3, 4, 5, 6, 7, 8], [0, 8])])
def rows6_B : List Nat := [0, 0, 0, 0, 8, 28, 62, 126, 255, 511]
theorem rows6_tab : rtab .any (opsOf Try.f55 6) = rows6_T := by kernel_rfl
theorem rows6_bits : waitsOk rows6_T.2 rows6_B = true := by kernel_rfl
set_option maxRecDepth 100000 in
set_option maxHeartbeats 4000000 in
theorem rows_calls (k : Nat) : RowsCalls (takeRows k) := by
  intro w0 w g l q hR hB hg hq
  have HR := Aside0.mk hR
  have HB0 := Aside0.mk hB
  have GL : Aside0 (g < w.heap.size) := ⟨by obtain ⟨_, _, hb, _⟩ := hR; exact blk_lt hb⟩
  obtain ⟨q1, hq1, hq2⟩ := Option.bind_eq_some_iff.1 (show (takeN k 0 4611686018427387904 l).bind _ = some q from hq)
  have hgb : ∀ i, i = g → w0.heap.size ≤ i := fun i hi => by rw [hi]; exact hg
  have N1 := Aside0.mk hq1
  have N2 := Aside0.mk hq2
  clear hR hB hq hq1 hq2
  go_enter Try.func55, Try.ntmps55
  go_wp2_with (((with_reducible refine gate_dst (N := 3) rfl ?_); refine box_event ?hg (N := 3) ?hd (cs := #[.int .u8 0, .string (⟨#[]⟩ : ByteArray)]) (t := 28) ?hr ?_; (case hd => rfl); (case hg => rfl); (case hr => first | (go_simp; done) | (go_simp; rfl)); intro h hh w1 hbox hb; have BL1 := Aside0.mk hbox; have HH := Aside0.mk hh; have HB1 := Aside0.mk hb; clear hb hbox hh))
  have hw1 : Aside0 (Below w0.heap.size w0 w1) := ⟨below_step HB0.out HB1.out⟩
  have hne1 : ¬ h = g := by rw [HH.out]; have := GL.out; omega
  cases q1 with
  | error c =>
    obtain rfl : .error c = q := Option.some.inj N2.out
    refine (number_calls k 0 4611686018427387904 _ w0 w1 g l (HR.out.stay (Stay.of_below (fun _ => False) HB1.out) id) hw1.out hg N1.out).mono ?_
    rintro e w2 ⟨ho, hs⟩
    obtain rfl := ho
    exact ⟨rfl, rfl, (Stay.of_below _ HB1.out).trans hs⟩
  | ok p1 =>
    obtain ⟨n0, l1⟩ := p1
    have hn := takeN_ok N1.out (by decide) (by decide)
    refine (number_calls k 0 4611686018427387904 _ w0 w1 g l (HR.out.stay (Stay.of_below (fun _ => False) HB1.out) id) hw1.out hg N1.out).mono ?_
    rintro e w2 ⟨⟨rfl, hr2⟩, hs⟩
    have R2 := Aside0.mk hr2
    have BL2 := Aside0.mk (hs.blk BL1.out hne1)
    have ST2 := Aside0.mk ((Stay.of_below (fun k => k = g) HB1.out).trans hs)
    have N3 : Aside0 (takeRowsL k n0.toNat ⟨0, ⟨#[]⟩⟩ [] l1 = some q) := ⟨N2.out⟩
    clear hs hr2 N1 N2 BL1 HB1 hw1 HR
    go_wp2_with fail
    go_loopg [2, 4] n0.toNat (fun kq v2 v4 w' => ∃ (acc : List S57) (last : S28) (l' : List Int) (x4 : Int), v4 = .int .i64 x4 ∧ Aside0 (x4 = (kq : Int)) ∧ 0 ≤ x4 ∧ x4 ≤ 4611686018427387904 ∧ Aside0 (takeRowsL k kq last acc l' = some q) ∧ Aside0 (Rd w0 w' g l') ∧ Aside0 (w'.heap[h]? = some (keyCells last)) ∧ Aside0 (Kd.S k57 57 w' w.heap.size (fun _ => True) v2 acc) ∧ Aside0 (Stay (fun k => k = g) w w'))
    case atStart => exact ⟨[], ⟨0, ⟨#[]⟩⟩, l1, n0, rfl, ⟨by omega⟩, by omega, by omega, N3, R2, BL2, ⟨Kd.S_nil _ _ _ _ _⟩, ST2⟩
    case round =>
      clear N3 R2 BL2 ST2 hn
      obtain ⟨acc, last, l', x4, rfl, HX, hx0, hx1, HT, R2, BL2, S2, ST2⟩ := hrel
      by_cases hp : 0 < x4
      · have dp : decide (0 < x4) = true := decide_eq_true hp
        cases gk with
        | zero => exact absurd HX.out (by omega)
        | succ gk1 =>
          have H := HT.out
          clear HT
          simp only [takeRowsL] at H
          obtain ⟨qk, hqk, H⟩ := Option.bind_eq_some_iff.1 H
          have QK := Aside0.mk hqk
          have Q3 := Aside0.mk H
          clear hqk H
          go_wp2_with fail
          cases qk with
          | error c =>
            obtain rfl : .error c = q := Option.some.inj Q3.out
            refine (key_calls k last _ w0 _ g h l' R2.out (ST2.out.below HB0.out hgb) hg (by rw [HH.out]; exact HB0.out.size) hne1 BL2.out QK.out).mono ?_
            rintro e w3 ⟨ho, hs, _⟩
            obtain rfl := ho
            exact ⟨rfl, rfl, ST2.out.step hs (fun i hi => hi.elim Or.inl (fun e => Or.inr (by rw [e, HH.out]; exact Nat.le_refl _)))⟩
          | ok pk =>
            obtain ⟨key, l1⟩ := pk
            refine (key_calls k last _ w0 _ g h l' R2.out (ST2.out.below HB0.out hgb) hg (by rw [HH.out]; exact HB0.out.size) hne1 BL2.out QK.out).mono ?_
            rintro e w3 ⟨⟨rfl, hr3⟩, hs, hl3⟩
            have R3 := Aside0.mk hr3
            have BL3 := Aside0.mk (hl3 _ rfl)
            have S3 := Aside0.mk (S_stay2T (by decide) (by decide) S2.out R2.out BL2.out hs)
            have ST3 : Aside0 (Stay (fun k => k = g) w w3) := ⟨ST2.out.step hs (fun i hi => hi.elim Or.inl (fun e => Or.inr (by rw [e, HH.out]; exact Nat.le_refl _)))⟩
            clear R2 BL2 S2 ST2 hr3 hs hl3 QK
            go_wp2_with (((with_reducible refine gate_dst (N := 5) rfl ?_); refine box_event ?hg (N := 5) ?hd (cs := #[.int .u8 0, .string (⟨#[]⟩ : ByteArray)]) (t := 28) ?hr ?_; (case hd => rfl); (case hg => rfl); (case hr => first | (go_simp; done) | (go_simp; rfl)); intro gk hgk w4 hbox hb; have BK4 := Aside0.mk hbox; have HK := Aside0.mk hgk; have HB4 := Aside0.mk hb; have hz0 := (blk_cell hbox 0).trans rfl; have hz1 := (blk_cell hbox 1).trans rfl; have hf0 := blk_frozen hbox 0; have hf1 := blk_frozen hbox 1; clear hb hbox hgk))
            have hne3 : ¬ gk = g := by rw [HK.out]; have := GL.out; have := ST3.out.size; omega
            have hne4 : ¬ gk = h := by rw [HK.out]; have := blk_lt BL3.out; omega
            have T4 : Aside0 (Stay (fun k => k = gk) w4 ((w4.setCell ⟨gk, 0, none⟩ (.int .u8 key.f0)).setCell ⟨gk, 1, none⟩ (.string key.f1))) := ⟨((Stay.refl (fun k => k = gk) w4).set (.inl rfl) 0 _).set (.inl rfl) 1 _⟩
            have BK5 : Aside0 (((w4.setCell ⟨gk, 0, none⟩ (.int .u8 key.f0)).setCell ⟨gk, 1, none⟩ (.string key.f1)).heap[gk]? = some (keyCells key)) := ⟨blk_put (cs := #[.int .u8 key.f0, .string (⟨#[]⟩ : ByteArray)]) (blk_put (cs := #[.int .u8 0, .string (⟨#[]⟩ : ByteArray)]) BK4.out 0 _ rfl) 1 _ rfl⟩
            have R5 := Aside0.mk ((R3.out.stay (Stay.of_below (fun _ => False) HB4.out) id).stay T4.out (fun e => hne3 e.symm))
            have BL5 := Aside0.mk (T4.out.blk (blk_below BL3.out HB4.out) (fun e => hne4 e.symm))
            have S5 := Aside0.mk (Kd.S_set (Kd.S_set (Kd.S_below S3.out HB4.out) BK4.out (by decide) 0 (.int .u8 key.f0)) (blk_put (cs := #[.int .u8 0, .string (⟨#[]⟩ : ByteArray)]) BK4.out 0 (.int .u8 key.f0) rfl) (by decide) 1 (.string key.f1))
            have ST5 := Aside0.mk ((ST3.out.trans (Stay.of_below _ HB4.out)).step T4.out (fun i hi => Or.inr (by rw [hi, HK.out]; exact ST3.out.size)))
            clear R3 BL3 S3 ST3 BK4 HB4 T4 hz0 hz1 hf0 hf1
            generalize (w4.setCell ⟨gk, 0, none⟩ (.int .u8 key.f0)).setCell ⟨gk, 1, none⟩ (.string key.f1) = w5 at R5 BL5 S5 ST5 BK5 ⊢
            obtain ⟨qn, hqn, H⟩ := Option.bind_eq_some_iff.1 Q3.out
            have QN := Aside0.mk hqn
            have Q4 := Aside0.mk H
            clear hqn H Q3
            refine start_ (n := 10) (S := fun W => W.heap[gk]? = some (keyCells key)) (ds := []) #[false, false, false, false, false, false, false, false, false, false] (by kernel_rfl) rfl rfl (blk_drew BK5.out) (fun hHeld => ?_)
            refine with_tabW rows6_tab rows6_bits (fun HT_ HW_ => ?_)
            have R6 := Aside0.mk (R5.out.stay (Stay.of_below (fun _ => False) (below_drew (Below.refl w5.heap.size w5))) id)
            have BL6 := Aside0.mk (blk_drew BL5.out)
            have S6 := Aside0.mk (Kd.S_drew S5.out)
            have ST6 := Aside0.mk (ST5.out.trans (Stay.of_below _ (below_drew (Below.refl w5.heap.size w5))))
            clear R5 BL5 S5 ST5 BK5
            generalize w5.drew = w6 at R6 BL6 S6 ST6 hHeld ⊢
            refine pure_ (i := 0) (N := some 14) (v := ?_) (a' := ?_) #[true, false, false, false, false, false, false, false, false, false] rfl rfl (any_of HT_.out (by kernel_rfl)) (fun _ _ _ h => h) (Or.inl ⟨by rfl, ?_⟩) ?_ ?_
            rotate_left
            · intro w'
              go_simp
              all_goals with_reducible rfl
            rotate_left
            · simp only [Act.put, List.setIfInBounds_toArray, List.set_cons_zero, List.set_cons_succ, i64_w, i32_w]
              rfl
            refine pure_ (i := 2) (N := some 16) (v := ?_) (a' := ?_) #[true, false, true, false, false, false, false, false, false, false] rfl rfl (any_of HT_.out (by kernel_rfl)) (fun _ _ _ h => h) (Or.inl ⟨by rfl, ?_⟩) ?_ ?_
            rotate_left
            · intro w'
              go_simp
              all_goals with_reducible rfl
            rotate_left
            · simp only [Act.put, List.setIfInBounds_toArray, List.set_cons_zero, List.set_cons_succ, i64_w, i32_w]
              rfl
            refine pure_ (i := 3) (N := some 17) (v := ?_) (a' := ?_) #[true, false, true, true, false, false, false, false, false, false] rfl rfl (any_of HT_.out (by kernel_rfl)) (fun _ _ _ h => h) (Or.inl ⟨by rfl, ?_⟩) ?_ ?_
            rotate_left
            · intro w'
              go_simp
              all_goals with_reducible rfl
            rotate_left
            · simp only [Act.put, List.setIfInBounds_toArray, List.set_cons_zero, List.set_cons_succ, i64_w, i32_w]
              rfl
            refine take_ (i := 1) (N := some 15) (v := ?_) (a' := ?_) #[true, true, true, true, false, false, false, false, false, false] rfl rfl (take_ofW HT_.out HW_.out (by kernel_rfl)) (fun _ _ _ h => h) (Or.inl ⟨by rfl, ?_⟩) hHeld ?_ ?_
            rotate_left
            · rintro w' s0
              have z0 := (blk_cell s0 0).trans rfl; have z1 := (blk_cell s0 1).trans rfl; go_simp
              with_reducible rfl
            rotate_left
            · simp only [Act.put, List.setIfInBounds_toArray, List.set_cons_zero, List.set_cons_succ, i64_w, i32_w]
              rfl
            refine one_ (i := 4) (N := some 18) #[true, true, true, true, true, false, false, false, false, false] rfl rfl (one_of HT_.out (by kernel_rfl)) (by decide) (fun K hK => ?_)
            cases qn with
            | error c =>
              obtain rfl : .error c = q := Option.some.inj Q4.out
              refine goesP_ Try.func75 (by kernel_rfl) rfl #[.pointer (some ⟨g, 0, none⟩), .int .u64 0, .int .u64 256] (by rfl) rfl rfl (by (try simp only [List.map_toArray, List.map_cons, List.map_nil]); first | done | rfl) ?_
              refine (number_calls k 0 256 _ w0 w6 g l1 R6.out (ST6.out.below HB0.out hgb) hg QN.out).mono ?_
              rintro e w7 ⟨ho, hs⟩
              refine ⟨_, ho, ?_⟩
              exact ⟨rfl, rfl, ST6.out.trans hs⟩
            | ok pn =>
              obtain ⟨n, l2⟩ := pn
              have hn := takeN_ok QN.out (by decide) (by decide)
              have HN : Aside0 (0 ≤ n) := ⟨hn.1⟩
              clear hn
              have Q5 : Aside0 ((match takeB n l2 with | .error c => some (.error c) | .ok (vl, l3) => if acc.length < 3518437208883 then takeRowsL k gk1 key (acc ++ [⟨key, vl⟩]) l3 else none) = some q) := ⟨Q4.out⟩
              clear Q4
              refine goes_ Try.func75 (by kernel_rfl) rfl #[.pointer (some ⟨g, 0, none⟩), .int .u64 0, .int .u64 256] (by rfl) rfl rfl (by (try simp only [List.map_toArray, List.map_cons, List.map_nil]); first | done | rfl) ?_
              refine (number_calls k 0 256 _ w0 w6 g l1 R6.out (ST6.out.below HB0.out hgb) hg QN.out).mono ?_
              rintro e w7 ⟨⟨rfl, hr7⟩, hs⟩
              refine ⟨_, rfl, ?_⟩
              have BK7 := Aside0.mk (hs.blk hHeld hne3)
              have BL7 := Aside0.mk (hs.blk BL6.out hne1)
              have S7 := Aside0.mk (S_stay1 S6.out R6.out hs)
              have ST7 := Aside0.mk (ST6.out.trans hs)
              have R7 := Aside0.mk hr7
              clear R6 BL6 S6 ST6 hHeld hs hr7 QN
              refine hK.out _ _ (BK7.out) (fun hHeld => ?_)
              clear hK K
              refine norm_ (a' := ?_) ?_ ?_
              rotate_left
              · show Act.put _ (some 18) _ = _
                simp only [Act.put, List.setIfInBounds_toArray, List.set_cons_zero, List.set_cons_succ, i64_w, i32_w]
                rfl
              clear BK7
              refine one_ (i := 5) (N := some 19) #[true, true, true, true, true, true, false, false, false, false] rfl rfl (one_of HT_.out (by kernel_rfl)) (by decide) (fun K hK => ?_)
              cases qb : takeB n l2 with
              | error c =>
                obtain rfl : .error c = q := by have := Q5.out; rw [qb] at this; exact Option.some.inj this
                refine goesP_ Try.func77 (by kernel_rfl) rfl #[.pointer (some ⟨g, 0, none⟩), .int .i64 n] (by rfl) rfl rfl (by (try simp only [List.map_toArray, List.map_cons, List.map_nil]); first | done | rfl) ?_
                refine (bytes_calls n HN.out w0 w7 g l2 R7.out (ST7.out.below HB0.out hgb) hg).mono ?_
                rintro e w8 ⟨ho, hs⟩
                rw [qb] at ho
                refine ⟨_, ho, ?_⟩
                exact ⟨rfl, rfl, ST7.out.trans hs⟩
              | ok pb =>
                obtain ⟨vl, l3⟩ := pb
                have Q6 : Aside0 ((if acc.length < 3518437208883 then takeRowsL k gk1 key (acc ++ [⟨key, vl⟩]) l3 else none) = some q) := ⟨by have := Q5.out; rw [qb] at this; exact this⟩
                clear Q5
                refine goes_ Try.func77 (by kernel_rfl) rfl #[.pointer (some ⟨g, 0, none⟩), .int .i64 n] (by rfl) rfl rfl (by (try simp only [List.map_toArray, List.map_cons, List.map_nil]); first | done | rfl) ?_
                refine (bytes_calls n HN.out w0 w7 g l2 R7.out (ST7.out.below HB0.out hgb) hg).mono ?_
                rintro e w8 ⟨ho, hs⟩
                rw [qb] at ho
                obtain ⟨rfl, hr8⟩ := ho
                refine ⟨_, rfl, ?_⟩
                have BK8 := Aside0.mk (hs.blk hHeld hne3)
                have BL8 := Aside0.mk (hs.blk BL7.out hne1)
                have S8 := Aside0.mk (S_stay1 S7.out R7.out hs)
                have ST8 := Aside0.mk (ST7.out.trans hs)
                have R8 := Aside0.mk hr8
                clear R7 BL7 S7 ST7 hHeld hs hr8 qb
                refine hK.out _ _ (BK8.out) (fun hHeld => ?_)
                clear hK K
                refine norm_ (a' := ?_) ?_ ?_
                rotate_left
                · show Act.put _ (some 19) _ = _
                  simp only [Act.put, List.setIfInBounds_toArray, List.set_cons_zero, List.set_cons_succ, i64_w, i32_w]
                  rfl
                clear BK8
                have hHeld8 := Aside0.mk hHeld
                refine pure_ (i := 6) (N := some 20) (v := ?_) (a' := ?_) #[true, true, true, true, true, true, true, false, false, false] rfl rfl (any_of HT_.out (by kernel_rfl)) (fun _ _ _ h => h) (Or.inl ⟨by rfl, ?_⟩) ?_ ?_
                rotate_left
                · intro w'
                  go_simp
                  all_goals with_reducible rfl
                rotate_left
                · simp only [Act.put, List.setIfInBounds_toArray, List.set_cons_zero, List.set_cons_succ, i64_w, i32_w]
                  rfl
                refine one_ (i := 7) (N := some 21) #[true, true, true, true, true, true, true, true, false, false] rfl rfl (one_of HT_.out (by kernel_rfl)) (by decide) (fun K hK => ?_)
                refine value_ (w1 := ?_) (v := ?_) (by rfl) rfl ?_ ?_
                rotate_left 2
                · go_simp
                  constructor
                  · rfl
                  · rfl
                refine hK.out _ _ (blk_alloc hHeld _) (fun hHeld => ?_)
                clear hK K
                refine norm_ (a' := ?_) ?_ ?_
                rotate_left
                · show Act.put _ (some 21) _ = _
                  simp only [Act.put, List.setIfInBounds_toArray, List.set_cons_zero, List.set_cons_succ, i64_w, i32_w]
                  rfl
                by_cases hlen : acc.length < 3518437208883
                · have Q7 : Aside0 (takeRowsL k gk1 key (acc ++ [⟨key, vl⟩]) l3 = some q) := ⟨by have := Q6.out; rwa [if_pos hlen] at this⟩
                  have HLN := Aside0.mk hlen
                  clear Q6 hlen
                  refine one_ (i := 8) (N := some 22) #[true, true, true, true, true, true, true, true, true, false] rfl rfl (one_of HT_.out (by kernel_rfl)) (by decide) (fun K hK => ?_)
                  refine Kd.S_append_step k57 (w0 := w8) w.heap.size (by rfl) (.tmp 14) (.tmp 21) 26 57 (.agg #[(.int .u8 0), (.string ⟨#[]⟩), (.string ⟨#[]⟩)]) 40 rfl Try.underlying26 info57 rfl (by decide) (by omega) u2 acc (⟨key, vl⟩ : S57) [.int .u8 key.f0, .string key.f1, .string vl] (fun _ => True) (fun _ => False) rfl rfl ?aP (fun _ hk => hk.elim) ?aF ?aO ?aB ?aS ?aL ?_
                  (case aP => exact k57_mkM _ _ _ _)
                  (case aF => exact (fun _ _ => trivial))
                  (case aO => exact Kd.S_mono S8.out (fun _ _ => ⟨trivial, fun h => h⟩))
                  (case aB => exact Below.refl _ _)
                  (case aS => exact ST8.out.size)
                  (case aL => have := HLN.out; omega)
                  intro v9 w9 ho hb hgw hat
                  have S9 := Aside0.mk ho
                  have ST9 : Aside0 (Stay (fun k => k = g) w w9) := ⟨ST8.out.step (Stay.of_grown hgw) (fun i hi => Or.inr (Kd.S_base S8.out i hi.symm))⟩
                  have hng : some g ≠ u2.ownBlock := by obtain ⟨A, c, hb, _⟩ := R8.out; exact Kd.S_ne S8.out hb (by decide)
                  have hnh : some h ≠ u2.ownBlock := Kd.S_ne S8.out BL8.out (by decide)
                  have hnk : some gk ≠ u2.ownBlock := Kd.S_ne S8.out hHeld8.out (by decide)
                  have BK9 := Aside0.mk ((Stay.of_grown hgw).blk hHeld8.out hnk)
                  have R9 := Aside0.mk (R8.out.stay (Stay.of_grown hgw) hng)
                  have BL9 := Aside0.mk ((Stay.of_grown hgw).blk BL8.out hnh)
                  clear S8 ST8 R8 BL8 ho hb hgw hat hng hnh
                  obtain ⟨acc2, hacc2⟩ : ∃ a, a = acc ++ [(⟨key, vl⟩ : S57)] := ⟨_, rfl⟩
                  rw [← hacc2] at S9 Q7
                  clear hacc2
                  obtain ⟨A9, c9, rfl⟩ := Kd.S_slice S9.out
                  refine hK.out _ _ (BK9.out) (fun hHeld => ?_)
                  clear hK K
                  refine norm_ (a' := ?_) ?_ ?_
                  rotate_left
                  · show Act.put _ (some 22) _ = _
                    simp only [Act.put, List.setIfInBounds_toArray, List.set_cons_zero, List.set_cons_succ, i64_w, i32_w]
                    rfl
                  refine pure_ (i := 9) (N := some 2) (v := ?_) (a' := ?_) #[true, true, true, true, true, true, true, true, true, true] rfl rfl (any_of HT_.out (by kernel_rfl)) (fun _ _ _ h => h) (Or.inl ⟨by rfl, ?_⟩) ?_ ?_
                  rotate_left
                  · intro w'
                    go_simp
                    all_goals with_reducible rfl
                  rotate_left
                  · simp only [Act.put, List.setIfInBounds_toArray, List.set_cons_zero, List.set_cons_succ, i64_w, i32_w]
                    rfl
                  refine done_ (done_of HT_.out (by kernel_rfl)) ?_
                  go_wp2_with fail
                  go_roundg gk1
                  case measure => omega
                  case rel => exact ⟨acc2, key, l3, x4 - 1, rfl, ⟨by have := HX.out; omega⟩, by omega, by omega, Q7, R9, BL9, S9, ST9⟩
                · have H9 := Q6.out; rw [if_neg hlen] at H9; cases H9
      · have dp : decide (0 < x4) = false := decide_eq_false hp
        have hk0 : gk = 0 := by have := HX.out; omega
        subst hk0
        have H := HT.out
        simp only [takeRowsL] at H
        obtain rfl := Option.some.inj H
        go_wp2_with fail
        go_ret
        exact ⟨⟨_, rfl, S2.out, R2.out⟩, ST2.out⟩
end Go.Proofs.Ytgmdoapedhppmaa.PC

/- Plain facts on bits of numbers: xor, or, and; Zig, Zag and Pack as arithmetic. No condition but the ranges of the kinds. -/
namespace Go.Proofs.Ytgmdoapedhppmaa.B
set_option linter.unusedVariables false
set_option linter.unusedSimpArgs false
open Go.RowKit

theorem two64 : (2 : Int) ^ 64 = 18446744073709551616 := by decide
theorem wraps_u64 (n : Int) (h₀ : 0 ≤ n) (h₁ : n < 2 ^ 64) : IntKind.u64.wrap n = n := by rw [two64] at h₁; rw [IntKind.wrap_u64]; omega

theorem xor_ones (x : Int) (h0 : 0 ≤ x) (h1 : x < 18446744073709551616) : Go.bits .xor .u64 x 18446744073709551615 = 18446744073709551615 - x := by
  obtain ⟨a, rfl⟩ := Int.eq_ofNat_of_zero_le h0
  have ha : a < 2 ^ 64 := by omega
  have e : (BitVec.ofInt 64 (a : Int) ^^^ BitVec.ofInt 64 18446744073709551615) = ~~~ (BitVec.ofInt 64 (a : Int)) := by
    have : BitVec.ofInt 64 18446744073709551615 = BitVec.allOnes 64 := by decide
    rw [this, BitVec.xor_allOnes]
  have b : Go.bits .xor .u64 (a : Int) 18446744073709551615 = IntKind.u64.wrap ((BitVec.ofInt 64 (a : Int) ^^^ BitVec.ofInt 64 18446744073709551615).toNat : Int) := rfl
  rw [b, e]
  simp only [BitVec.toNat_not, BitVec.ofInt_natCast, BitVec.toNat_ofNat, Nat.mod_eq_of_lt ha]
  rw [IntKind.wrap_u64]; omega
theorem xor_zero (x : Int) (h0 : 0 ≤ x) (h1 : x < 18446744073709551616) : Go.bits .xor .u64 x 0 = x := by
  obtain ⟨a, rfl⟩ := Int.eq_ofNat_of_zero_le h0
  have ha : a < 2 ^ 64 := by omega
  have e : (BitVec.ofInt 64 (a : Int) ^^^ BitVec.ofInt 64 0) = (BitVec.ofInt 64 (a : Int)) := by
    have : BitVec.ofInt 64 0 = 0#64 := by decide
    rw [this, BitVec.xor_zero]
  have b : Go.bits .xor .u64 (a : Int) 0 = IntKind.u64.wrap ((BitVec.ofInt 64 (a : Int) ^^^ BitVec.ofInt 64 0).toNat : Int) := rfl
  rw [b, e]
  simp only [BitVec.ofInt_natCast, BitVec.toNat_ofNat, Nat.mod_eq_of_lt ha]
  rw [IntKind.wrap_u64]; omega
theorem xor_zero_i (x : Int) (h0 : 0 ≤ x) (h1 : x < 9223372036854775808) : Go.bits .xor .i64 x 0 = x := by
  obtain ⟨a, rfl⟩ := Int.eq_ofNat_of_zero_le h0
  have ha : a < 2 ^ 64 := by omega
  have e : (BitVec.ofInt 64 (a : Int) ^^^ BitVec.ofInt 64 0) = (BitVec.ofInt 64 (a : Int)) := by
    have : BitVec.ofInt 64 0 = 0#64 := by decide
    rw [this, BitVec.xor_zero]
  have b : Go.bits .xor .i64 (a : Int) 0 = IntKind.i64.wrap ((BitVec.ofInt 64 (a : Int) ^^^ BitVec.ofInt 64 0).toNat : Int) := rfl
  rw [b, e]
  simp only [BitVec.ofInt_natCast, BitVec.toNat_ofNat, Nat.mod_eq_of_lt ha]
  rw [IntKind.wrap_i64]; omega
theorem xor_ones_i (x : Int) (h0 : 0 ≤ x) (h1 : x < 9223372036854775808) : Go.bits .xor .i64 x (-1) = -x - 1 := by
  obtain ⟨a, rfl⟩ := Int.eq_ofNat_of_zero_le h0
  have ha : a < 2 ^ 64 := by omega
  have e : (BitVec.ofInt 64 (a : Int) ^^^ BitVec.ofInt 64 (-1)) = ~~~ (BitVec.ofInt 64 (a : Int)) := by
    have : BitVec.ofInt 64 (-1) = BitVec.allOnes 64 := by decide
    rw [this, BitVec.xor_allOnes]
  have b : Go.bits .xor .i64 (a : Int) (-1) = IntKind.i64.wrap ((BitVec.ofInt 64 (a : Int) ^^^ BitVec.ofInt 64 (-1)).toNat : Int) := rfl
  rw [b, e]
  simp only [BitVec.toNat_not, BitVec.ofInt_natCast, BitVec.toNat_ofNat, Nat.mod_eq_of_lt ha]
  rw [IntKind.wrap_i64]; omega
theorem and_one (x : Int) (h0 : 0 ≤ x) (h1 : x < 18446744073709551616) : Go.bits .and .u64 x 1 = x % 2 := by
  have := bits_mask .u64 64 (by decide) wraps_u64 1 (by decide) x h0 (by rw [two64]; exact h1)
  simpa using this
theorem and_24 (x : Int) (h0 : 0 ≤ x) (h1 : x < 4294967296) : Go.bits .and .u32 x 16777215 = x % 16777216 := by
  have := bits_mask .u32 32 (by decide) (fun n a b => by have : (2:Int)^32 = 4294967296 := by decide
                                                         rw [this] at b; rw [IntKind.wrap_u32]; omega) 24 (by decide) x h0 (by have : (2:Int)^32 = 4294967296 := by decide
                                                                                                                               rw [this]; exact h1)
  simpa using this
theorem or_join (i : Nat) (x y : Int) (hx₀ : 0 ≤ x) (hx : x % 2 ^ i = 0) (hx₁ : x < 18446744073709551616) (hy₀ : 0 ≤ y) (hy : y < 2 ^ i) (hy₁ : y < 18446744073709551616) :
    Go.bits .or .u64 x y = x + y :=
  bits_join .u64 64 (by decide) wraps_u64 i x y hx₀ hx (by rw [two64]; exact hx₁) hy₀ hy (by rw [two64]; exact hy₁)
theorem or_comm (k : IntKind) (x y : Int) : Go.bits .or k x y = Go.bits .or k y x := by
  simp only [Go.bits, BitVec.or_comm]

/-- Zig and Zag, as numbers. -/
def zig (n : Int) : Int := if n < 0 then -2 * n - 1 else 2 * n
def zag (n : Int) : Int := if n % 2 = 0 then n / 2 else -(n / 2) - 1
theorem zig_is (n : Int) (h0 : -9223372036854775808 ≤ n) (h1 : n ≤ 9223372036854775807) :
    Go.bits .xor .u64 (IntKind.u64.wrap ((IntKind.u64.wrap (n)) * 2)) (IntKind.u64.wrap (n / 9223372036854775808)) = zig n := by
  unfold zig
  by_cases h : n < 0
  · rw [if_pos h, show n / 9223372036854775808 = -1 by omega, show IntKind.u64.wrap (-1) = 18446744073709551615 by rw [IntKind.wrap_u64]; decide,
      IntKind.wrap_u64, IntKind.wrap_u64, xor_ones _ (by omega) (by omega)]
    omega
  · rw [if_neg h, show n / 9223372036854775808 = 0 by omega, show IntKind.u64.wrap 0 = 0 by rw [IntKind.wrap_u64]; decide,
      IntKind.wrap_u64, IntKind.wrap_u64, xor_zero _ (by omega) (by omega)]
    omega
theorem wrap64_id (n : Int) (h0 : -9223372036854775808 ≤ n) (h1 : n ≤ 9223372036854775807) : wrap64 n = n := by unfold wrap64; omega
theorem zag_is (n : Int) (h0 : 0 ≤ n) (h1 : n < 18446744073709551616) :
    Go.bits .xor .i64 (wrap64 (n / 2)) (wrap64 (-(wrap64 (Go.bits .and .u64 n 1)))) = zag n := by
  unfold zag
  rw [and_one n h0 h1, wrap64_id (n / 2) (by omega) (by omega), wrap64_id (n % 2) (by omega) (by omega), wrap64_id (-(n % 2)) (by omega) (by omega)]
  by_cases h : n % 2 = 0
  · rw [if_pos h, h]; exact xor_zero_i _ (by omega) (by omega)
  · rw [if_neg h, show n % 2 = 1 by omega]; exact xor_ones_i _ (by omega) (by omega)
theorem zig_lo (n : Int) : 0 ≤ zig n := by unfold zig; split <;> omega
theorem zig_hi (n : Int) (h0 : -9223372036854775808 ≤ n) (h1 : n ≤ 9223372036854775807) : zig n < 18446744073709551616 := by unfold zig; split <;> omega
theorem zag_zig (n : Int) : zag (zig n) = n := by unfold zag zig; split <;> split <;> omega
theorem zig_zag (n : Int) (h0 : 0 ≤ n) : zig (zag n) = n := by unfold zag zig; split <;> split <;> omega
/-- Pack, as a number. -/
theorem pack_is (a b c : Int) (ha0 : 0 ≤ a) (ha1 : a < 4294967296) (hb0 : 0 ≤ b) (hb1 : b < 256) (hc0 : 0 ≤ c) (hc1 : c < 16777216) :
    Go.bits .or .u64 (Go.bits .or .u64 (IntKind.u64.wrap ((IntKind.u64.wrap (a)) * 4294967296)) (IntKind.u64.wrap ((IntKind.u64.wrap (c)) * 256))) (IntKind.u64.wrap (b)) = a * 4294967296 + c * 256 + b := by
  rw [IntKind.wrap_u64 a, show a % 18446744073709551616 = a by omega, IntKind.wrap_u64 (a * _), show (a * 4294967296) % 18446744073709551616 = a * 4294967296 by omega,
    IntKind.wrap_u64 c, show c % 18446744073709551616 = c by omega, IntKind.wrap_u64 (c * _), show (c * 256) % 18446744073709551616 = c * 256 by omega,
    IntKind.wrap_u64 b, show b % 18446744073709551616 = b by omega]
  have e32 : (2 : Int) ^ 32 = 4294967296 := by decide
  have e8 : (2 : Int) ^ 8 = 256 := by decide
  rw [or_join 32 (a * 4294967296) (c * 256) (by omega) (by rw [e32]; omega) (by omega) (by omega) (by rw [e32]; omega) (by omega),
    or_join 8 _ b (by omega) (by rw [e8]; omega) (by omega) hb0 (by rw [e8]; omega) (by omega)]
theorem u32_at (a : Int) (h : (Lit.int .u32 a).wf = true) : 0 ≤ a ∧ a < 4294967296 := by
  simp [Lit.wf, IntKind.min, IntKind.max, IntKind.signed, IntKind.bits] at h; omega
theorem u8_at (a : Int) (h : (Lit.int .u8 a).wf = true) : 0 ≤ a ∧ a < 256 := by
  simp [Lit.wf, IntKind.min, IntKind.max, IntKind.signed, IntKind.bits] at h; omega
theorem u64_at (a : Int) (h : (Lit.int .u64 a).wf = true) : 0 ≤ a ∧ a < 18446744073709551616 := by
  simp [Lit.wf, IntKind.min, IntKind.max, IntKind.signed, IntKind.bits] at h; omega
theorem i64_at (a : Int) (h : (Lit.int .i64 a).wf = true) : -9223372036854775808 ≤ a ∧ a ≤ 9223372036854775807 := by
  simp [Lit.wf, IntKind.min, IntKind.max, IntKind.signed, IntKind.bits] at h; omega
theorem i32_at (a : Int) (h : (Lit.int .i32 a).wf = true) : -2147483648 ≤ a ∧ a ≤ 2147483647 := by
  simp [Lit.wf, IntKind.min, IntKind.max, IntKind.signed, IntKind.bits] at h; omega
end Go.Proofs.Ytgmdoapedhppmaa.B
