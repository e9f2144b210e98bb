/- Texts of this session in one: PCx37, PCx38, HRef, HPureWrites. Plain functions, and that the program's come to them. -/
import Derived.Test.YtgmdoapedhppmaaSCodecWritesQ
import Derived.Test.YtgmdoapedhppmaaSCodecWrites0
import Derived.Test.YtgmdoapedhppmaaSCodecWrites1
import Derived.Test.YtgmdoapedhppmaaSCodecWrites2
import Derived.Test.YtgmdoapedhppmaaSCodecWrites3
import Derived.Test.YtgmdoapedhppmaaSCodecWrites4
/- Proofs that functions of the program come to what plain Lean functions say; made by wip/drive.py. -/
namespace Go.Proofs.Ytgmdoapedhppmaa.PC
set_option linter.unusedVariables false
set_option linter.unusedSimpArgs false
open Go.RowKit Go.Proofs.YtgmdoapedhppmaaW.PrintWords Go.Proofs.YtgmdoapedhppmaaW.PrintLast Go.Proofs.YtgmdoapedhppmaaW.PrintMore
attribute [local go_sem] max2_int min2_int max_two min_two max_three min_three max_four min_four   -- for this text's walks alone
set_option linter.unusedVariables false
set_option linter.unusedSimpArgs false
mutual
def tidemarkref04_Write.l0 : Nat → ByteArray → Int → Int → List (S47) → Option (ByteArray)
 | 0, _, _, _, _ => none
 | k + 1, x3, x4, x217000, x217001 => if x4 < (x217001.length : Int) then (if 0 ≤ x4 then ((tidemarkref01_Uint.f k (Int.tmod ((rd_T47 x217001 x4).f0) 4294967296)).bind fun t221 => (if x3.size + t221.size ≤ 9223372036854775807 then ((tidemarkref01_Uint.f k (IntKind.u64.wrap ((((rd_T47 x217001 x4).f1).length : Int)))).bind fun t222 => (if (x3 ++ t221).size + t222.size ≤ 9223372036854775807 then (tidemarkref04_Write.l1 k ((x3 ++ t221) ++ t222) x4 0 x217000 x217001 ((rd_T47 x217001 x4).f0) ((rd_T47 x217001 x4).f1)) else (none))) else (none))) else (none)) else (some x3)
def tidemarkref04_Write.l1 : Nat → ByteArray → Int → Int → Int → List (S47) → Int → List (S50) → Option (ByteArray)
 | 0, _, _, _, _, _, _, _ => none
 | k + 1, x3, x4, x6, x217000, x217001, x221000, x221001 => if x6 < (x221001.length : Int) then (if 0 ≤ x6 then ((tidemarkref04_table.f ((rd_T50 x221001 x6).f0.f0) ((rd_T50 x221001 x6).f0.f1)).bind fun t225 => (if x3.size + t225.size ≤ 9223372036854775807 then ((tidemarkref04_text.f k ((rd_T50 x221001 x6).f0.f1)).bind fun t226 => (if (x3 ++ t225).size + t226.size ≤ 9223372036854775807 then (if (rd_T50 x221001 x6).f1 = true then (if ((x3 ++ t225) ++ t226).size + 1 ≤ 9223372036854775807 then (tidemarkref04_Write.l1 k (((x3 ++ t225) ++ t226) ++ (⟨#[0]⟩ : ByteArray)) x4 (wrap64 (x6 + 1)) x217000 x217001 x221000 x221001) else (none)) else ((tidemarkref01_Uint.f k (IntKind.u64.wrap (wrap64 ((((rd_T50 x221001 x6).f2).size : Int) + 1)))).bind fun t227 => (if ((x3 ++ t225) ++ t226).size + t227.size ≤ 9223372036854775807 then (if (((x3 ++ t225) ++ t226) ++ t227).size + ((rd_T50 x221001 x6).f2).size ≤ 9223372036854775807 then (tidemarkref04_Write.l1 k ((((x3 ++ t225) ++ t226) ++ t227) ++ ((rd_T50 x221001 x6).f2)) x4 (wrap64 (x6 + 1)) x217000 x217001 x221000 x221001) else (none)) else (none)))) else (none))) else (none))) else (none)) else (tidemarkref04_Write.l0 k x3 (wrap64 (x4 + 1)) x217000 x217001)
end
def tidemarkref04_Write.f (k : Nat) (a0_0 : Int) (l0_1 : List (S47)) : Option (ByteArray) := (tidemarkref01_Uint.f k (IntKind.u64.wrap (a0_0))).bind fun t217 => ((tidemarkref01_Uint.f k (IntKind.u64.wrap ((l0_1.length : Int)))).bind fun t218 => (if t217.size + t218.size ≤ 9223372036854775807 then (tidemarkref04_Write.l0 k (t217 ++ t218) 0 a0_0 l0_1) else (none)))
theorem tidemarkref04_Write.mono_l : ∀ k, (∀ y0 y1 y2 y3, LeO (tidemarkref04_Write.l0 k y0 y1 y2 y3) (tidemarkref04_Write.l0 (k + 1) y0 y1 y2 y3)) ∧ (∀ y0 y1 y2 y3 y4 y5 y6, LeO (tidemarkref04_Write.l1 k y0 y1 y2 y3 y4 y5 y6) (tidemarkref04_Write.l1 (k + 1) y0 y1 y2 y3 y4 y5 y6))
 | 0 => ⟨fun _ _ _ _ r h => by simp [tidemarkref04_Write.l0] at h, fun _ _ _ _ _ _ _ r h => by simp [tidemarkref04_Write.l1] at h⟩
 | k + 1 => by
   obtain ⟨ih0, ih1⟩ := tidemarkref04_Write.mono_l k; refine ⟨?_, ?_⟩
   · intro y0 y1 y2 y3; unfold tidemarkref04_Write.l0
     repeat' first
     | (with_reducible exact ih0 _ _ _ _)
     | (with_reducible exact ih1 _ _ _ _ _ _ _)
     | (with_reducible exact tidemarkref01_Uint.mono _ _)
     | (with_reducible exact tidemarkref04_text.mono _ _)
     | (with_reducible exact LeO.refl _)
     | (with_reducible exact LeO.none _)
     | (with_reducible refine LeO.ite ?_ ?_)
     | (with_reducible refine LeO.bind ?_ (fun _ => ?_))
     | exact ih0 _ _ _ _
     | exact ih1 _ _ _ _ _ _ _
     | exact tidemarkref01_Uint.mono _ _
     | exact tidemarkref04_text.mono _ _
     | exact LeO.none _
     | refine LeO.ite ?_ ?_
     | refine LeO.bind ?_ (fun _ => ?_)
   · intro y0 y1 y2 y3 y4 y5 y6; unfold tidemarkref04_Write.l1
     repeat' first
     | (with_reducible exact ih0 _ _ _ _)
     | (with_reducible exact ih1 _ _ _ _ _ _ _)
     | (with_reducible exact tidemarkref01_Uint.mono _ _)
     | (with_reducible exact tidemarkref04_text.mono _ _)
     | (with_reducible exact LeO.refl _)
     | (with_reducible exact LeO.none _)
     | (with_reducible refine LeO.ite ?_ ?_)
     | (with_reducible refine LeO.bind ?_ (fun _ => ?_))
     | exact ih0 _ _ _ _
     | exact ih1 _ _ _ _ _ _ _
     | exact tidemarkref01_Uint.mono _ _
     | exact tidemarkref04_text.mono _ _
     | exact LeO.none _
     | refine LeO.ite ?_ ?_
     | refine LeO.bind ?_ (fun _ => ?_)
theorem tidemarkref04_Write.mono : ∀ a0 a1 k, LeO (tidemarkref04_Write.f k a0 a1) (tidemarkref04_Write.f (k + 1) a0 a1) := by
 intro a0 a1 k; obtain ⟨ih0, ih1⟩ := tidemarkref04_Write.mono_l k; unfold tidemarkref04_Write.f
 repeat' first
  | (with_reducible exact ih0 _ _ _ _)
  | (with_reducible exact ih1 _ _ _ _ _ _ _)
  | (with_reducible exact tidemarkref01_Uint.mono _ _)
  | (with_reducible exact tidemarkref04_text.mono _ _)
  | (with_reducible exact LeO.refl _)
  | (with_reducible exact LeO.none _)
  | (with_reducible refine LeO.ite ?_ ?_)
  | (with_reducible refine LeO.bind ?_ (fun _ => ?_))
  | exact ih0 _ _ _ _
  | exact ih1 _ _ _ _ _ _ _
  | exact tidemarkref01_Uint.mono _ _
  | exact tidemarkref04_text.mono _ _
  | exact LeO.none _
  | refine LeO.ite ?_ ?_
  | refine LeO.bind ?_ (fun _ => ?_)
def tidemarkref04_Write.T1 : Bool × List (List Nat × List Nat) := (true, [([], []), ([0], [0]), ([1], [1]), ([2], [2]), ([], []), ([4], [4]), ([5], [5]), ([6], [6]), ([7, 3], [7]), ([3, 8], [3, 8]), ([9, 8, 0, 1, 2, 3, 4, 5, 6, 7, 8, 9], [9])])
def tidemarkref04_Write.B1 : List Nat := [0, 1, 3, 7, 0, 16, 48, 112, 255, 511, 1023]
theorem tidemarkref04_Write.tab1 : rtab .any (opsOf Try.f24 1) = tidemarkref04_Write.T1 := by kernel_rfl
theorem tidemarkref04_Write.bits1 : waitsOk tidemarkref04_Write.T1.2 tidemarkref04_Write.B1 = true := by kernel_rfl
def tidemarkref04_Write.T6 : Bool × List (List Nat × List Nat) := (true, [([], []), ([], []), ([1], [1]), ([2], [2]), ([3], [3]), ([0, 4], [0, 4]), ([], []), ([6], [6]), ([7], [7]), ([8], [8]), ([9, 4], [9]), ([5, 10], [5, 10]), ([11, 10, 0, 1, 2, 3, 4, 5, 6, 7, 8, 9, 10, 11], [0, 11])])
def tidemarkref04_Write.B6 : List Nat := [0, 0, 2, 6, 14, 31, 0, 64, 192, 448, 990, 2047, 4095]
theorem tidemarkref04_Write.tab6 : rtab .any (opsOf Try.f24 6) = tidemarkref04_Write.T6 := by kernel_rfl
theorem tidemarkref04_Write.bits6 : waitsOk tidemarkref04_Write.T6.2 tidemarkref04_Write.B6 = true := by kernel_rfl
def tidemarkref04_Write.T11 : Bool × List (List Nat × List Nat) := (true, [([], []), ([], []), ([1], [1]), ([2], [2]), ([0, 3], [0, 3]), ([], []), ([5], [5]), ([6], [6]), ([7, 3], [7]), ([4, 8], [4, 8]), ([9, 8, 0, 1, 2, 3, 4, 5, 6, 7, 8, 9], [0, 9])])
def tidemarkref04_Write.B11 : List Nat := [0, 0, 2, 6, 15, 0, 32, 96, 238, 511, 1023]
theorem tidemarkref04_Write.tab11 : rtab .any (opsOf Try.f24 11) = tidemarkref04_Write.T11 := by kernel_rfl
theorem tidemarkref04_Write.bits11 : waitsOk tidemarkref04_Write.T11.2 tidemarkref04_Write.B11 = true := by kernel_rfl
def tidemarkref04_Write.T14 : Bool × List (List Nat × List Nat) := (true, [([], []), ([], []), ([1], [1]), ([2], [2]), ([3], [3]), ([4], [4]), ([5], [5]), ([0, 6], [0, 6]), ([], []), ([8], [8]), ([7, 9], [7, 9]), ([10, 6, 0, 1, 2, 3, 4, 5, 6, 7, 8, 9, 10], [0, 10])])
def tidemarkref04_Write.B14 : List Nat := [0, 0, 2, 6, 14, 30, 62, 127, 0, 256, 1023, 2047]
theorem tidemarkref04_Write.tab14 : rtab .any (opsOf Try.f24 14) = tidemarkref04_Write.T14 := by kernel_rfl
theorem tidemarkref04_Write.bits14 : waitsOk tidemarkref04_Write.T14.2 tidemarkref04_Write.B14 = true := by kernel_rfl
set_option maxHeartbeats 8000000 in
set_option maxRecDepth 100000 in
theorem tidemarkref04_Write.calls (k : Nat) (a0_0 : Int) (A0_1 : Option Addr) (c0_1 : Nat) (l0_1 : List (S47)) (r : ByteArray) (w : World) (hr0_1 : Kd.C k47 w A0_1 l0_1.length l0_1) (hc0_1 : l0_1.length ≤ c0_1) (h : tidemarkref04_Write.f k a0_0 l0_1 = some r) :
 Calls Try.prog 24 #[.agg #[.int .u32 a0_0, .slice A0_1 l0_1.length c0_1]] w fun e w' => e = .returned (.string r) ∧ Below w.heap.size w w' := by
 have hu25 := Try.underlying25; have hu47 := Try.underlying47; have hu50 := Try.underlying50; have hu28 := Try.underlying28; have HR0_1 := Aside0.mk hr0_1; have HC0_1 := Aside0.mk hc0_1; clear hr0_1 hc0_1; have HB := Aside0.mk (Below.refl w.heap.size w); have H : ((tidemarkref01_Uint.f k (IntKind.u64.wrap (a0_0))).bind fun t217 => ((tidemarkref01_Uint.f k (IntKind.u64.wrap ((l0_1.length : Int)))).bind fun t218 => (if t217.size + t218.size ≤ 9223372036854775807 then (tidemarkref04_Write.l0 k (t217 ++ t218) 0 a0_0 l0_1) else (none)))) = some r := h; clear h; replace H := Option.bind_eq_some_iff.mp H; obtain ⟨t217, A20, H⟩ := H; replace H : ((tidemarkref01_Uint.f k (IntKind.u64.wrap ((l0_1.length : Int)))).bind fun t218 => (if t217.size + t218.size ≤ 9223372036854775807 then (tidemarkref04_Write.l0 k (t217 ++ t218) 0 a0_0 l0_1) else (none))) = some r := H; have A2 := Aside0.mk A20; clear A20; replace H := Option.bind_eq_some_iff.mp H; obtain ⟨t218, A30, H⟩ := H; replace H : (if t217.size + t218.size ≤ 9223372036854775807 then (tidemarkref04_Write.l0 k (t217 ++ t218) 0 a0_0 l0_1) else (none)) = some r := H; have A3 := Aside0.mk A30; clear A30
 by_cases c4 : t217.size + t218.size ≤ 9223372036854775807
 · rw [if_pos c4] at H; have c4b0 := eq_true c4; have c4b1 : decide (t217.size + t218.size ≤ 9223372036854775807) = true := decide_eq_true c4
   try have c4b2 : (9223372036854775807 < t217.size + t218.size) = False := eq_false (Nat.not_lt.2 c4)
   try (have c4b3 := c4b2; simp only [ByteArray.size_append] at c4b3)
   have H' := Aside0.mk H; clear H
   go_enter Try.func24, Try.ntmps24
   try go_wp2_with (first | ((with_reducible refine gate_dst (N := 1) rfl ?_); refine box_event ?hg (N := 1) ?hd (cs := #[.int .u32 a0_0, .slice A0_1 l0_1.length c0_1]) (t := 25) ?hr ?_; (case hd => rfl); (case hg => rfl); (case hr => first | (go_simp; done) | (go_simp; rfl)); intro gb216 hg w5 hbox hb; have n0_ := Aside0.mk (below_step q_1 hb); have n1_ := Aside0.mk (hbox); have n2_ := Aside0.mk ((by rw [hg]; exact (below_size q_1) : w.heap.size ≤ gb216)); have n3_ := Aside0.mk ((by rw [hg]; exact (below_size q_1) : w.heap.size ≤ gb216)); clear HB; have HB := n0_; have BK216 := n1_; have GW216 := n2_; have GE216 := n3_; clear n0_ n1_ n2_ n3_; clear hb hbox hg))
   have n0_ := Aside0.mk (blk_drew BK216.out); have n1_ := Aside0.mk (below_drew1 HB.out); clear BK216; clear HB; have BK216 := n0_; have HB := n1_; clear n0_ n1_; refine start_ (n := 11) (S := fun w' => w'.cell? ⟨gb216, 0, none⟩ = some (.int .u32 a0_0) ∧ w'.cell? ⟨gb216, 1, none⟩ = some (.slice A0_1 l0_1.length c0_1)) (ds := []) #[false, false, false, false, false, false, false, false, false, false, false] (by kernel_rfl) rfl rfl ⟨(blk_cell BK216.out 0).trans rfl, (blk_cell BK216.out 1).trans rfl⟩ (fun hHeld => ?_); refine with_tabW tidemarkref04_Write.tab1 tidemarkref04_Write.bits1 (fun HT_ HW_ => ?_); generalize w5.drew = w6 at BK216 HB hHeld ⊢; refine pj 0 (some 8) ?_; refine pj 4 (some 12) ?_; refine qj 1 (some 9) rfl rfl (by rintro w' ⟨s0, s1⟩; go_simp; with_reducible rfl) ?_; refine pj 2 (some 10) ?_; refine qj 5 (some 13) rfl rfl (by rintro w' ⟨s0, s1⟩; go_simp; with_reducible rfl) ?_; refine pj 6 (some 14) ?_; refine pj 7 (some 15) ?_; refine one_ (i := 3) (N := some 11) #[true, true, true, true, true, true, true, true, false, false, false] rfl rfl (one_of HT_.out (by kernel_rfl)) (by decide) (fun K hK => ?_); refine goes_ Try.func49 (by kernel_rfl) rfl #[.int .u64 (IntKind.u64.wrap (a0_0))] (by rfl) rfl rfl q_0 ?_; (with_reducible refine (tidemarkref01_Uint.calls k (IntKind.u64.wrap (a0_0)) t217 _ A2.out).mono ?_); rintro e w7 ⟨rfl, hb⟩; refine ⟨_, rfl, ?_⟩; have n0_ := Aside0.mk (blk_below (g := gb216) (o := .cells #[.int .u32 a0_0, .slice A0_1 l0_1.length c0_1] 25 (0, 0)) q_15 hb); have n1_ := Aside0.mk (below_step q_47 hb); clear BK216; clear HB; have BK216 := n0_; have HB := n1_; clear n0_ n1_
   (try clear hb)
   (try clear hb2)
   (try clear hk)
   (try clear hi)
   refine hK.out _ _ ⟨(blk_cell BK216.out 0).trans rfl, (blk_cell BK216.out 1).trans rfl⟩ (fun hHeld => ?_); clear hK K; refine norm_ (a' := ?_) ?_ ?_; rotate_left
   · show Act.put _ (some 11) _ = _
     simp only [Act.put, List.setIfInBounds_toArray, List.set_cons_zero, List.set_cons_succ, i64_w, i32_w]; rfl
   refine one_ (i := 8) (N := some 16) #[true, true, true, true, true, true, true, true, true, false, false] rfl rfl (one_of HT_.out (by kernel_rfl)) (by decide) (fun K hK => ?_); refine goes_ Try.func49 (by kernel_rfl) rfl #[.int .u64 (IntKind.u64.wrap ((l0_1.length : Int)))] (by rfl) rfl rfl q_0 ?_; (with_reducible refine (tidemarkref01_Uint.calls k (IntKind.u64.wrap ((l0_1.length : Int))) t218 _ A3.out).mono ?_); rintro e w8 ⟨rfl, hb⟩; refine ⟨_, rfl, ?_⟩; have n0_ := Aside0.mk (blk_below (g := gb216) (o := .cells #[.int .u32 a0_0, .slice A0_1 l0_1.length c0_1] 25 (0, 0)) q_15 hb); have n1_ := Aside0.mk (below_step q_47 hb); clear BK216; clear HB; have BK216 := n0_; have HB := n1_; clear n0_ n1_
   (try clear hb)
   (try clear hb2)
   (try clear hk)
   (try clear hi)
   refine hK.out _ _ ⟨(blk_cell BK216.out 0).trans rfl, (blk_cell BK216.out 1).trans rfl⟩ (fun hHeld => ?_); clear hK K; refine norm_ (a' := ?_) ?_ ?_; rotate_left
   · show Act.put _ (some 16) _ = _
     simp only [Act.put, List.setIfInBounds_toArray, List.set_cons_zero, List.set_cons_succ, i64_w, i32_w]; rfl
   refine pj 9 (some 17) ?_; refine pj 10 (some 3) ?_; refine done_ (done_of HT_.out (by kernel_rfl)) ?_
   try go_wp2
   go_loopg [3, 4] k (fun kq v3 v4 w' => ∃ (x3_1 : ByteArray) (x4_1 : Int), v3 = .string x3_1 ∧ v4 = .int .i64 x4_1 ∧ Aside0 (tidemarkref04_Write.l0 kq x3_1 x4_1 a0_0 l0_1 = some r) ∧ Aside0 (kq ≤ k) ∧ Aside0 (w'.heap[gb216]? = some (.cells #[.int .u32 a0_0, (.slice A0_1 l0_1.length c0_1)] 25 (0, 0))) ∧ Aside0 (Below w.heap.size w w'))
   case atStart => exact ⟨(t217 ++ t218), (0), q_16, q_16, H', ⟨Nat.le_refl _⟩, ⟨by (with_reducible repeat (first | refine blk_drewN ?_ _ | refine blk_drew ?_ | refine blk_alloc ?_ _)); exact BK216.out⟩, ⟨by repeat (first | (with_reducible first | exact HB.out | apply below_alloc | apply pw_below_drewN | apply below_drew1 | refine below_set ?_ GE216.out) | exact HB.out)⟩⟩
   case round =>
    clear H'
    try clear c2
    try clear p2
    try clear c4
    try clear c4b0
    try clear c4b1
    try clear c4b2
    obtain ⟨x3_1, x4_1, rfl, rfl, HA, HK1, BK216, HB⟩ := hrel
    cases gk with
    | zero => exact absurd HA.out (by simp [tidemarkref04_Write.l0])
    | succ k1 =>
      have H := HA.out; clear HA; simp only [tidemarkref04_Write.l0] at H
      by_cases c9 : x4_1 < (l0_1.length : Int)
      · rw [if_pos c9] at H; have c9b0 : decide (x4_1 < (l0_1.length : Int)) = true := decide_eq_true c9; clear c9
        by_cases c10 : 0 ≤ x4_1
        · rw [if_pos c10] at H; have c10b0 : decide (0 ≤ x4_1) = true := decide_eq_true c10; clear c10; replace H := Option.bind_eq_some_iff.mp H; obtain ⟨t221, A110, H⟩ := H; replace H : (if x3_1.size + t221.size ≤ 9223372036854775807 then ((tidemarkref01_Uint.f k1 (IntKind.u64.wrap ((((rd_T47 l0_1 x4_1).f1).length : Int)))).bind fun t222 => (if (x3_1 ++ t221).size + t222.size ≤ 9223372036854775807 then (tidemarkref04_Write.l1 k1 ((x3_1 ++ t221) ++ t222) x4_1 0 a0_0 l0_1 ((rd_T47 l0_1 x4_1).f0) ((rd_T47 l0_1 x4_1).f1)) else (none))) else (none)) = some r := H; have A11 := Aside0.mk A110; clear A110
          by_cases c12 : x3_1.size + t221.size ≤ 9223372036854775807
          · rw [if_pos c12] at H; have c12b0 := eq_true c12; have c12b1 : decide (x3_1.size + t221.size ≤ 9223372036854775807) = true := decide_eq_true c12
            try have c12b2 : (9223372036854775807 < x3_1.size + t221.size) = False := eq_false (Nat.not_lt.2 c12)
            try (have c12b3 := c12b2; simp only [ByteArray.size_append] at c12b3)
            replace H := Option.bind_eq_some_iff.mp H; obtain ⟨t222, A130, H⟩ := H; replace H : (if (x3_1 ++ t221).size + t222.size ≤ 9223372036854775807 then (tidemarkref04_Write.l1 k1 ((x3_1 ++ t221) ++ t222) x4_1 0 a0_0 l0_1 ((rd_T47 l0_1 x4_1).f0) ((rd_T47 l0_1 x4_1).f1)) else (none)) = some r := H; have A13 := Aside0.mk A130; clear A130
            by_cases c14 : (x3_1 ++ t221).size + t222.size ≤ 9223372036854775807
            · rw [if_pos c14] at H; have c14b0 := eq_true c14; have c14b1 : decide ((x3_1 ++ t221).size + t222.size ≤ 9223372036854775807) = true := decide_eq_true c14
              try have c14b2 : (9223372036854775807 < (x3_1 ++ t221).size + t222.size) = False := eq_false (Nat.not_lt.2 c14)
              try (have c14b3 := c14b2; simp only [ByteArray.size_append] at c14b3)
              have H' := Aside0.mk H; clear H; have hcz15_0 : wr.cell? ⟨gb216, 0, none⟩ = some (.int .u32 a0_0) := (blk_cell BK216.out 0).trans rfl; have hcz15_1 : wr.cell? ⟨gb216, 1, none⟩ = some (.slice A0_1 l0_1.length c0_1) := (blk_cell BK216.out 1).trans rfl; have hfz15_0 := blk_frozen BK216.out 0; have hfz15_1 := blk_frozen BK216.out 1; have p219 : 0 ≤ (x4_1 : Int) := of_decide_eq_true q_2; have q219 : x4_1 < (l0_1.length : Int) := of_decide_eq_true q_2; obtain ⟨ad219, A219_1, c219_1, e219, hx219_0, hx219_1, hl219_1, hi219_1⟩ := at_T47 HR0_1.out x4_1 p219 q219
              cases e219
              replace hx219_0 := (HB.out.cell (World.block_lt_of_cell? w _ hx219_0)).trans hx219_0; replace hx219_1 := (HB.out.cell (World.block_lt_of_cell? w _ hx219_1)).trans hx219_1; have HR219_1 := Aside0.mk hi219_1; have HC219_1 := Aside0.mk hl219_1; clear hi219_1 hl219_1; replace p219 := eq_true p219; replace q219 := eq_true q219
              try go_wp2_with (first | ((with_reducible refine gate_dst (N := 5) rfl ?_); refine box_event ?hg (N := 5) ?hd (cs := #[.int .u64 0, .slice none 0 0]) (t := 47) ?hr ?_; (case hd => rfl); (case hg => rfl); (case hr => first | (go_simp; done) | (go_simp; rfl)); intro gb220 hg w16 hbox hb; have n0_ := Aside0.mk (blk_below (g := gb216) (o := .cells #[.int .u32 a0_0, .slice (some ad219) l0_1.length c0_1] 25 (0, 0)) q_15 hb); have n1_ := Aside0.mk (below_step q_47 hb); have n2_ := Aside0.mk (hbox); have n3_ := Aside0.mk ((by rw [hg]; exact (below_size q_47) : w.heap.size ≤ gb220)); have n4_ := Aside0.mk ((by rw [hg]; exact (below_size q_47) : w.heap.size ≤ gb220)); have n5_ := Aside0.mk ((by rw [hg]; exact Nat.ne_of_lt (blk_lt (g := gb216) (o := .cells #[.int .u32 a0_0, .slice (some ad219) l0_1.length c0_1] 25 (0, 0)) q_15) : gb216 ≠ gb220)); have n6_ := Aside0.mk ((by rw [hg]; exact Nat.ne_of_gt (blk_lt (g := gb216) (o := .cells #[.int .u32 a0_0, .slice (some ad219) l0_1.length c0_1] 25 (0, 0)) q_15) : gb220 ≠ gb216)); clear BK216; clear HB; have BK216 := n0_; have HB := n1_; have BK220 := n2_; have GW220 := n3_; have GE220 := n4_; have NB216_220 := n5_; have NB220_216 := n6_; clear n0_ n1_ n2_ n3_ n4_ n5_ n6_; clear hb hbox hg; have hnb17 := NB220_216.out; have hnc17 := NB216_220.out; have hcz18_0 : w16.cell? ⟨gb220, 0, none⟩ = some (.int .u64 0) := (blk_cell BK220.out 0).trans rfl; have hcz18_1 : w16.cell? ⟨gb220, 1, none⟩ = some (.slice none 0 0) := (blk_cell BK220.out 1).trans rfl; have hfz18_0 := blk_frozen BK220.out 0; have hfz18_1 := blk_frozen BK220.out 1))
              have n0_ : Aside0 (((w16.setCell ⟨gb220, 0, none⟩ (.int .u64 ((rd_T47 l0_1 x4_1).f0))).setCell ⟨gb220, 1, none⟩ (.slice A219_1 ((rd_T47 l0_1 x4_1).f1).length c219_1)).heap[gb216]? = some (.cells #[.int .u32 a0_0, .slice (some ad219) l0_1.length c0_1] 25 (0, 0))) := ⟨by (with_reducible repeat (first | refine blk_drewN ?_ _ | refine blk_drew ?_ | refine blk_alloc ?_ _)); refine blk_far ?_ NB216_220.out _; (with_reducible repeat (first | refine blk_drewN ?_ _ | refine blk_drew ?_ | refine blk_alloc ?_ _)); refine blk_far ?_ NB216_220.out _; (with_reducible repeat (first | refine blk_drewN ?_ _ | refine blk_drew ?_ | refine blk_alloc ?_ _)); exact BK216.out⟩; have n1_ : Aside0 (((w16.setCell ⟨gb220, 0, none⟩ (.int .u64 ((rd_T47 l0_1 x4_1).f0))).setCell ⟨gb220, 1, none⟩ (.slice A219_1 ((rd_T47 l0_1 x4_1).f1).length c219_1)).heap[gb220]? = some (.cells #[.int .u64 ((rd_T47 l0_1 x4_1).f0), .slice A219_1 ((rd_T47 l0_1 x4_1).f1).length c219_1] 47 (0, 0))) := ⟨by (with_reducible repeat (first | refine blk_drewN ?_ _ | refine blk_drew ?_ | refine blk_alloc ?_ _)); refine blk_put (cs := #[.int .u64 ((rd_T47 l0_1 x4_1).f0), .slice none 0 0]) ?_ 1 _ rfl; (with_reducible repeat (first | refine blk_drewN ?_ _ | refine blk_drew ?_ | refine blk_alloc ?_ _)); refine blk_put (cs := #[.int .u64 0, .slice none 0 0]) ?_ 0 _ rfl; (with_reducible repeat (first | refine blk_drewN ?_ _ | refine blk_drew ?_ | refine blk_alloc ?_ _)); exact BK220.out⟩; have n2_ : Aside0 (Below w.heap.size w ((w16.setCell ⟨gb220, 0, none⟩ (.int .u64 ((rd_T47 l0_1 x4_1).f0))).setCell ⟨gb220, 1, none⟩ (.slice A219_1 ((rd_T47 l0_1 x4_1).f1).length c219_1))) := ⟨by repeat (first | (with_reducible first | exact HB.out | apply below_alloc | apply pw_below_drewN | apply below_drew1 | refine below_set ?_ GE216.out | refine below_set ?_ GE220.out) | exact HB.out)⟩
              (try clear BK216)
              (try clear BK220)
              (try clear HB)
              generalize ((w16.setCell ⟨gb220, 0, none⟩ (.int .u64 ((rd_T47 l0_1 x4_1).f0))).setCell ⟨gb220, 1, none⟩ (.slice A219_1 ((rd_T47 l0_1 x4_1).f1).length c219_1)) = w19 at n0_ n1_ n2_ ⊢; have BK216 := n0_; have BK220 := n1_; have HB := n2_; clear n0_ n1_ n2_; have n0_ := Aside0.mk (blk_drew BK216.out); have n1_ := Aside0.mk (blk_drew BK220.out); have n2_ := Aside0.mk (below_drew1 HB.out); clear BK216; clear BK220; clear HB; have BK216 := n0_; have BK220 := n1_; have HB := n2_; clear n0_ n1_ n2_; refine start_ (n := 13) (S := fun w' => w'.cell? ⟨gb220, 0, none⟩ = some (.int .u64 ((rd_T47 l0_1 x4_1).f0)) ∧ w'.cell? ⟨gb220, 1, none⟩ = some (.slice A219_1 ((rd_T47 l0_1 x4_1).f1).length c219_1)) (ds := []) #[false, false, false, false, false, false, false, false, false, false, false, false, false] (by kernel_rfl) rfl rfl ⟨(blk_cell BK220.out 0).trans rfl, (blk_cell BK220.out 1).trans rfl⟩ (fun hHeld => ?_); refine with_tabW tidemarkref04_Write.tab6 tidemarkref04_Write.bits6 (fun HT_ HW_ => ?_); generalize w19.drew = w20 at BK216 BK220 HB hHeld ⊢; refine pj 0 (some 30) ?_; refine pj 1 (some 31) ?_; refine pj 6 (some 36) ?_; refine qj 2 (some 32) rfl rfl (by rintro w' ⟨s0, s1⟩; go_simp; with_reducible rfl) ?_; refine pj 3 (some 33) ?_; refine qj 7 (some 37) rfl rfl (by rintro w' ⟨s0, s1⟩; go_simp; with_reducible rfl) ?_; refine pj 8 (some 38) ?_; refine pj 9 (some 39) ?_; refine one_ (i := 4) (N := some 34) #[true, true, true, true, true, false, true, true, true, true, false, false, false] rfl rfl (one_of HT_.out (by kernel_rfl)) (by decide) (fun K hK => ?_); refine goes_ Try.func49 (by kernel_rfl) rfl #[.int .u64 (Int.tmod ((rd_T47 l0_1 x4_1).f0) 4294967296)] (by rfl) rfl rfl q_0 ?_; (with_reducible refine (tidemarkref01_Uint.calls k1 (Int.tmod ((rd_T47 l0_1 x4_1).f0) 4294967296) t221 _ A11.out).mono ?_); rintro e w21 ⟨rfl, hb⟩; refine ⟨_, rfl, ?_⟩; have n0_ := Aside0.mk (blk_below (g := gb216) (o := .cells #[.int .u32 a0_0, .slice (some ad219) l0_1.length c0_1] 25 (0, 0)) q_15 hb); have n1_ := Aside0.mk (blk_below (g := gb220) (o := .cells #[.int .u64 ((rd_T47 l0_1 x4_1).f0), .slice A219_1 ((rd_T47 l0_1 x4_1).f1).length c219_1] 47 (0, 0)) q_27 hb); have n2_ := Aside0.mk (below_step q_28 hb); clear BK216; clear BK220; clear HB; have BK216 := n0_; have BK220 := n1_; have HB := n2_; clear n0_ n1_ n2_
              (try clear hb)
              (try clear hb2)
              (try clear hk)
              (try clear hi)
              refine hK.out _ _ ⟨(blk_cell BK220.out 0).trans rfl, (blk_cell BK220.out 1).trans rfl⟩ (fun hHeld => ?_); clear hK K; refine norm_ (a' := ?_) ?_ ?_; rotate_left
              · show Act.put _ (some 34) _ = _
                simp only [Act.put, List.setIfInBounds_toArray, List.set_cons_zero, List.set_cons_succ, i64_w, i32_w]; rfl
              refine pj 5 (some 35) ?_; refine one_ (i := 10) (N := some 40) #[true, true, true, true, true, true, true, true, true, true, true, false, false] rfl rfl (one_of HT_.out (by kernel_rfl)) (by decide) (fun K hK => ?_); refine goes_ Try.func49 (by kernel_rfl) rfl #[.int .u64 (IntKind.u64.wrap ((((rd_T47 l0_1 x4_1).f1).length : Int)))] (by rfl) rfl rfl q_0 ?_; (with_reducible refine (tidemarkref01_Uint.calls k1 (IntKind.u64.wrap ((((rd_T47 l0_1 x4_1).f1).length : Int))) t222 _ A13.out).mono ?_); rintro e w22 ⟨rfl, hb⟩; refine ⟨_, rfl, ?_⟩; have n0_ := Aside0.mk (blk_below (g := gb216) (o := .cells #[.int .u32 a0_0, .slice (some ad219) l0_1.length c0_1] 25 (0, 0)) q_15 hb); have n1_ := Aside0.mk (blk_below (g := gb220) (o := .cells #[.int .u64 ((rd_T47 l0_1 x4_1).f0), .slice A219_1 ((rd_T47 l0_1 x4_1).f1).length c219_1] 47 (0, 0)) q_27 hb); have n2_ := Aside0.mk (below_step q_28 hb); clear BK216; clear BK220; clear HB; have BK216 := n0_; have BK220 := n1_; have HB := n2_; clear n0_ n1_ n2_
              (try clear hb)
              (try clear hb2)
              (try clear hk)
              (try clear hi)
              refine hK.out _ _ ⟨(blk_cell BK220.out 0).trans rfl, (blk_cell BK220.out 1).trans rfl⟩ (fun hHeld => ?_); clear hK K; refine norm_ (a' := ?_) ?_ ?_; rotate_left
              · show Act.put _ (some 40) _ = _
                simp only [Act.put, List.setIfInBounds_toArray, List.set_cons_zero, List.set_cons_succ, i64_w, i32_w]; rfl
              refine pj 11 (some 41) ?_; refine pj 12 (some 3) ?_; refine done_ (done_of HT_.out (by kernel_rfl)) ?_
              try go_wp2
              go_loopg [3, 6] k1 (fun kq v3 v6 w' => ∃ (x3_2 : ByteArray) (x6_2 : Int), v3 = .string x3_2 ∧ v6 = .int .i64 x6_2 ∧ Aside0 (tidemarkref04_Write.l1 kq x3_2 x4_1 x6_2 a0_0 l0_1 ((rd_T47 l0_1 x4_1).f0) ((rd_T47 l0_1 x4_1).f1) = some r) ∧ Aside0 (kq ≤ k1) ∧ Aside0 (w'.heap[gb216]? = some (.cells #[.int .u32 a0_0, (.slice (some ad219) l0_1.length c0_1)] 25 (0, 0))) ∧ Aside0 (w'.heap[gb220]? = some (.cells #[.int .u64 ((rd_T47 l0_1 x4_1).f0), (.slice A219_1 ((rd_T47 l0_1 x4_1).f1).length c219_1)] 47 (0, 0))) ∧ Aside0 (Below w.heap.size w w'))
              case atStart => exact ⟨((x3_1 ++ t221) ++ t222), (0), q_16, q_16, H', ⟨Nat.le_refl _⟩, ⟨by (with_reducible repeat (first | refine blk_drewN ?_ _ | refine blk_drew ?_ | refine blk_alloc ?_ _)); exact BK216.out⟩, ⟨by (with_reducible repeat (first | refine blk_drewN ?_ _ | refine blk_drew ?_ | refine blk_alloc ?_ _)); exact BK220.out⟩, ⟨by repeat (first | (with_reducible first | exact HB.out | apply below_alloc | apply pw_below_drewN | apply below_drew1 | refine below_set ?_ GE216.out | refine below_set ?_ GE220.out) | exact HB.out)⟩⟩
              case round =>
               clear H'
               try clear c1
               try clear c2
               try clear p2
               try clear q2
               try clear hx2
               try clear c4
               try clear c4b0
               try clear c4b1
               try clear c4b2
               try clear c9
               try clear c9b0
               try clear c10
               try clear c10b0
               try clear c12
               try clear c12b0
               try clear c12b1
               try clear c12b2
               try clear c14
               try clear c14b0
               try clear c14b1
               try clear c14b2
               try clear c17
               try clear c21
               try clear p21
               try clear q21
               try clear hx21
               try clear hcz15_0
               try clear hcz15_1
               try clear hcz18_0
               try clear hcz18_1
               try clear hfz15_0
               try clear hfz15_1
               try clear hfz18_0
               try clear hfz18_1
               try clear hx219_0
               try clear hx219_1
               try clear p2
               try clear p219
               try clear q219
               obtain ⟨x3_2, x6_2, rfl, rfl, HA, HK2, BK216, BK220, HB⟩ := hrel
               cases gk with
               | zero => exact absurd HA.out (by simp [tidemarkref04_Write.l1])
               | succ k2 =>
                 have H := HA.out; clear HA; simp only [tidemarkref04_Write.l1] at H
                 by_cases c23 : x6_2 < (((rd_T47 l0_1 x4_1).f1).length : Int)
                 · rw [if_pos c23] at H; have c23b0 : decide (x6_2 < (((rd_T47 l0_1 x4_1).f1).length : Int)) = true := decide_eq_true c23; clear c23
                   by_cases c24 : 0 ≤ x6_2
                   · rw [if_pos c24] at H; have c24b0 : decide (0 ≤ x6_2) = true := decide_eq_true c24; clear c24; replace H := Option.bind_eq_some_iff.mp H; obtain ⟨t225, A250, H⟩ := H; replace H : (if x3_2.size + t225.size ≤ 9223372036854775807 then ((tidemarkref04_text.f k2 ((rd_T50 ((rd_T47 l0_1 x4_1).f1) x6_2).f0.f1)).bind fun t226 => (if (x3_2 ++ t225).size + t226.size ≤ 9223372036854775807 then (if (rd_T50 ((rd_T47 l0_1 x4_1).f1) x6_2).f1 = true then (if ((x3_2 ++ t225) ++ t226).size + 1 ≤ 9223372036854775807 then (tidemarkref04_Write.l1 k2 (((x3_2 ++ t225) ++ t226) ++ (⟨#[0]⟩ : ByteArray)) x4_1 (wrap64 (x6_2 + 1)) a0_0 l0_1 ((rd_T47 l0_1 x4_1).f0) ((rd_T47 l0_1 x4_1).f1)) else (none)) else ((tidemarkref01_Uint.f k2 (IntKind.u64.wrap (wrap64 ((((rd_T50 ((rd_T47 l0_1 x4_1).f1) x6_2).f2).size : Int) + 1)))).bind fun t227 => (if ((x3_2 ++ t225) ++ t226).size + t227.size ≤ 9223372036854775807 then (if (((x3_2 ++ t225) ++ t226) ++ t227).size + ((rd_T50 ((rd_T47 l0_1 x4_1).f1) x6_2).f2).size ≤ 9223372036854775807 then (tidemarkref04_Write.l1 k2 ((((x3_2 ++ t225) ++ t226) ++ t227) ++ ((rd_T50 ((rd_T47 l0_1 x4_1).f1) x6_2).f2)) x4_1 (wrap64 (x6_2 + 1)) a0_0 l0_1 ((rd_T47 l0_1 x4_1).f0) ((rd_T47 l0_1 x4_1).f1)) else (none)) else (none)))) else (none))) else (none)) = some r := H; have A25 := Aside0.mk A250; clear A250
                     by_cases c26 : x3_2.size + t225.size ≤ 9223372036854775807
                     · rw [if_pos c26] at H; have c26b0 := eq_true c26; have c26b1 : decide (x3_2.size + t225.size ≤ 9223372036854775807) = true := decide_eq_true c26
                       try have c26b2 : (9223372036854775807 < x3_2.size + t225.size) = False := eq_false (Nat.not_lt.2 c26)
                       try (have c26b3 := c26b2; simp only [ByteArray.size_append] at c26b3)
                       replace H := Option.bind_eq_some_iff.mp H; obtain ⟨t226, A270, H⟩ := H; replace H : (if (x3_2 ++ t225).size + t226.size ≤ 9223372036854775807 then (if (rd_T50 ((rd_T47 l0_1 x4_1).f1) x6_2).f1 = true then (if ((x3_2 ++ t225) ++ t226).size + 1 ≤ 9223372036854775807 then (tidemarkref04_Write.l1 k2 (((x3_2 ++ t225) ++ t226) ++ (⟨#[0]⟩ : ByteArray)) x4_1 (wrap64 (x6_2 + 1)) a0_0 l0_1 ((rd_T47 l0_1 x4_1).f0) ((rd_T47 l0_1 x4_1).f1)) else (none)) else ((tidemarkref01_Uint.f k2 (IntKind.u64.wrap (wrap64 ((((rd_T50 ((rd_T47 l0_1 x4_1).f1) x6_2).f2).size : Int) + 1)))).bind fun t227 => (if ((x3_2 ++ t225) ++ t226).size + t227.size ≤ 9223372036854775807 then (if (((x3_2 ++ t225) ++ t226) ++ t227).size + ((rd_T50 ((rd_T47 l0_1 x4_1).f1) x6_2).f2).size ≤ 9223372036854775807 then (tidemarkref04_Write.l1 k2 ((((x3_2 ++ t225) ++ t226) ++ t227) ++ ((rd_T50 ((rd_T47 l0_1 x4_1).f1) x6_2).f2)) x4_1 (wrap64 (x6_2 + 1)) a0_0 l0_1 ((rd_T47 l0_1 x4_1).f0) ((rd_T47 l0_1 x4_1).f1)) else (none)) else (none)))) else (none)) = some r := H; have A27 := Aside0.mk A270; clear A270
                       by_cases c28 : (x3_2 ++ t225).size + t226.size ≤ 9223372036854775807
                       · rw [if_pos c28] at H; have c28b0 := eq_true c28; have c28b1 : decide ((x3_2 ++ t225).size + t226.size ≤ 9223372036854775807) = true := decide_eq_true c28
                         try have c28b2 : (9223372036854775807 < (x3_2 ++ t225).size + t226.size) = False := eq_false (Nat.not_lt.2 c28)
                         try (have c28b3 := c28b2; simp only [ByteArray.size_append] at c28b3)
                         obtain ⟨bq29, hbq29⟩ : ∃ b_ : Bool, b_ = ((rd_T50 ((rd_T47 l0_1 x4_1).f1) x6_2).f1) := ⟨_, rfl⟩
                         replace H : (if bq29 = true then (if ((x3_2 ++ t225) ++ t226).size + 1 ≤ 9223372036854775807 then (tidemarkref04_Write.l1 k2 (((x3_2 ++ t225) ++ t226) ++ (⟨#[0]⟩ : ByteArray)) x4_1 (wrap64 (x6_2 + 1)) a0_0 l0_1 ((rd_T47 l0_1 x4_1).f0) ((rd_T47 l0_1 x4_1).f1)) else (none)) else ((tidemarkref01_Uint.f k2 (IntKind.u64.wrap (wrap64 ((((rd_T50 ((rd_T47 l0_1 x4_1).f1) x6_2).f2).size : Int) + 1)))).bind fun t227 => (if ((x3_2 ++ t225) ++ t226).size + t227.size ≤ 9223372036854775807 then (if (((x3_2 ++ t225) ++ t226) ++ t227).size + ((rd_T50 ((rd_T47 l0_1 x4_1).f1) x6_2).f2).size ≤ 9223372036854775807 then (tidemarkref04_Write.l1 k2 ((((x3_2 ++ t225) ++ t226) ++ t227) ++ ((rd_T50 ((rd_T47 l0_1 x4_1).f1) x6_2).f2)) x4_1 (wrap64 (x6_2 + 1)) a0_0 l0_1 ((rd_T47 l0_1 x4_1).f0) ((rd_T47 l0_1 x4_1).f1)) else (none)) else (none)))) = some r := by rw [← hbq29] at H; exact H
                         have Nbq29 := Aside0.mk hbq29; clear hbq29
                         by_cases c30 : bq29 = true
                         · subst c30
                           have H1 : (if ((x3_2 ++ t225) ++ t226).size + 1 ≤ 9223372036854775807 then (tidemarkref04_Write.l1 k2 (((x3_2 ++ t225) ++ t226) ++ (⟨#[0]⟩ : ByteArray)) x4_1 (wrap64 (x6_2 + 1)) a0_0 l0_1 ((rd_T47 l0_1 x4_1).f0) ((rd_T47 l0_1 x4_1).f1)) else (none)) = some r := by rw [if_pos rfl] at H; exact H
                           clear H; have H := H1; clear H1
                           by_cases c31 : ((x3_2 ++ t225) ++ t226).size + 1 ≤ 9223372036854775807
                           · rw [if_pos c31] at H; have c31b0 := eq_true c31; have c31b1 : decide (((x3_2 ++ t225) ++ t226).size + 1 ≤ 9223372036854775807) = true := decide_eq_true c31
                             try have c31b2 : (9223372036854775807 < ((x3_2 ++ t225) ++ t226).size + 1) = False := eq_false (Nat.not_lt.2 c31)
                             try (have c31b3 := c31b2; simp only [ByteArray.size_append] at c31b3)
                             have H' := Aside0.mk H; clear H; have hnb32 := NB220_216.out; have hnc32 := NB216_220.out; have hcz33_0 : wr.cell? ⟨gb220, 0, none⟩ = some (.int .u64 ((rd_T47 l0_1 x4_1).f0)) := (blk_cell BK220.out 0).trans rfl; have hcz33_1 : wr.cell? ⟨gb220, 1, none⟩ = some (.slice A219_1 ((rd_T47 l0_1 x4_1).f1).length c219_1) := (blk_cell BK220.out 1).trans rfl; have hfz33_0 := blk_frozen BK220.out 0; have hfz33_1 := blk_frozen BK220.out 1; have p223 : 0 ≤ (x6_2 : Int) := of_decide_eq_true q_2; have q223 : x6_2 < (((rd_T47 l0_1 x4_1).f1).length : Int) := of_decide_eq_true q_2; obtain ⟨ad223, e223, hx223_0, hx223_1, hx223_2, hx223_3⟩ := at_T50 HR219_1.out x6_2 p223 q223
                             (try rw [← Nbq29.out] at hx223_2)
                             cases e223
                             replace hx223_0 := (HB.out.cell (World.block_lt_of_cell? w _ hx223_0)).trans hx223_0; replace hx223_1 := (HB.out.cell (World.block_lt_of_cell? w _ hx223_1)).trans hx223_1; replace hx223_2 := (HB.out.cell (World.block_lt_of_cell? w _ hx223_2)).trans hx223_2; replace hx223_3 := (HB.out.cell (World.block_lt_of_cell? w _ hx223_3)).trans hx223_3; replace p223 := eq_true p223; replace q223 := eq_true q223
                             try go_wp2_with (first | ((with_reducible refine gate_dst (N := 7) rfl ?_); refine box_event ?hg (N := 7) ?hd (cs := #[.int .u8 0, .string (⟨#[]⟩ : ByteArray), .bool false, .string (⟨#[]⟩ : ByteArray)]) (t := 50) ?hr ?_; (case hd => rfl); (case hg => rfl); (case hr => first | (go_simp; done) | (go_simp; rfl)); intro gb224 hg w34 hbox hb; have n0_ := Aside0.mk (blk_below (g := gb216) (o := .cells #[.int .u32 a0_0, .slice (some ad219) l0_1.length c0_1] 25 (0, 0)) q_15 hb); have n1_ := Aside0.mk (blk_below (g := gb220) (o := .cells #[.int .u64 ((rd_T47 l0_1 x4_1).f0), .slice (some ad223) ((rd_T47 l0_1 x4_1).f1).length c219_1] 47 (0, 0)) q_27 hb); have n2_ := Aside0.mk (below_step q_28 hb); have n3_ := Aside0.mk (hbox); have n4_ := Aside0.mk ((by rw [hg]; exact (below_size q_28) : w.heap.size ≤ gb224)); have n5_ := Aside0.mk ((by rw [hg]; exact (below_size q_28) : w.heap.size ≤ gb224)); have n6_ := Aside0.mk ((by rw [hg]; exact Nat.ne_of_lt (blk_lt (g := gb216) (o := .cells #[.int .u32 a0_0, .slice (some ad219) l0_1.length c0_1] 25 (0, 0)) q_15) : gb216 ≠ gb224)); have n7_ := Aside0.mk ((by rw [hg]; exact Nat.ne_of_gt (blk_lt (g := gb216) (o := .cells #[.int .u32 a0_0, .slice (some ad219) l0_1.length c0_1] 25 (0, 0)) q_15) : gb224 ≠ gb216)); have n8_ := Aside0.mk ((by rw [hg]; exact Nat.ne_of_lt (blk_lt (g := gb220) (o := .cells #[.int .u64 ((rd_T47 l0_1 x4_1).f0), .slice (some ad223) ((rd_T47 l0_1 x4_1).f1).length c219_1] 47 (0, 0)) q_27) : gb220 ≠ gb224)); have n9_ := Aside0.mk ((by rw [hg]; exact Nat.ne_of_gt (blk_lt (g := gb220) (o := .cells #[.int .u64 ((rd_T47 l0_1 x4_1).f0), .slice (some ad223) ((rd_T47 l0_1 x4_1).f1).length c219_1] 47 (0, 0)) q_27) : gb224 ≠ gb220)); clear BK216; clear BK220; clear HB; have BK216 := n0_; have BK220 := n1_; have HB := n2_; have BK224 := n3_; have GW224 := n4_; have GE224 := n5_; have NB216_224 := n6_; have NB224_216 := n7_; have NB220_224 := n8_; have NB224_220 := n9_; clear n0_ n1_ n2_ n3_ n4_ n5_ n6_ n7_ n8_ n9_; clear hb hbox hg; have hnb35 := NB224_216.out; have hnc35 := NB216_224.out; have hnb36 := NB224_220.out; have hnc36 := NB220_224.out; have hcz37_0 : w34.cell? ⟨gb224, 0, none⟩ = some (.int .u8 0) := (blk_cell BK224.out 0).trans rfl; have hcz37_1 : w34.cell? ⟨gb224, 1, none⟩ = some (.string (⟨#[]⟩ : ByteArray)) := (blk_cell BK224.out 1).trans rfl; have hcz37_2 : w34.cell? ⟨gb224, 2, none⟩ = some (.bool false) := (blk_cell BK224.out 2).trans rfl; have hcz37_3 : w34.cell? ⟨gb224, 3, none⟩ = some (.string (⟨#[]⟩ : ByteArray)) := (blk_cell BK224.out 3).trans rfl; have hfz37_0 := blk_frozen BK224.out 0; have hfz37_1 := blk_frozen BK224.out 1; have hfz37_2 := blk_frozen BK224.out 2; have hfz37_3 := blk_frozen BK224.out 3))
                             have n0_ : Aside0 (((((w34.setCell ⟨gb224, 0, none⟩ (.int .u8 ((rd_T50 ((rd_T47 l0_1 x4_1).f1) x6_2).f0.f0))).setCell ⟨gb224, 1, none⟩ (.string ((rd_T50 ((rd_T47 l0_1 x4_1).f1) x6_2).f0.f1))).setCell ⟨gb224, 2, none⟩ (.bool true)).setCell ⟨gb224, 3, none⟩ (.string ((rd_T50 ((rd_T47 l0_1 x4_1).f1) x6_2).f2))).heap[gb216]? = some (.cells #[.int .u32 a0_0, .slice (some ad219) l0_1.length c0_1] 25 (0, 0))) := ⟨by (with_reducible repeat (first | refine blk_drewN ?_ _ | refine blk_drew ?_ | refine blk_alloc ?_ _)); refine blk_far ?_ NB216_224.out _; (with_reducible repeat (first | refine blk_drewN ?_ _ | refine blk_drew ?_ | refine blk_alloc ?_ _)); refine blk_far ?_ NB216_224.out _; (with_reducible repeat (first | refine blk_drewN ?_ _ | refine blk_drew ?_ | refine blk_alloc ?_ _)); refine blk_far ?_ NB216_224.out _; (with_reducible repeat (first | refine blk_drewN ?_ _ | refine blk_drew ?_ | refine blk_alloc ?_ _)); refine blk_far ?_ NB216_224.out _; (with_reducible repeat (first | refine blk_drewN ?_ _ | refine blk_drew ?_ | refine blk_alloc ?_ _)); exact BK216.out⟩; have n1_ : Aside0 (((((w34.setCell ⟨gb224, 0, none⟩ (.int .u8 ((rd_T50 ((rd_T47 l0_1 x4_1).f1) x6_2).f0.f0))).setCell ⟨gb224, 1, none⟩ (.string ((rd_T50 ((rd_T47 l0_1 x4_1).f1) x6_2).f0.f1))).setCell ⟨gb224, 2, none⟩ (.bool true)).setCell ⟨gb224, 3, none⟩ (.string ((rd_T50 ((rd_T47 l0_1 x4_1).f1) x6_2).f2))).heap[gb220]? = some (.cells #[.int .u64 ((rd_T47 l0_1 x4_1).f0), .slice (some ad223) ((rd_T47 l0_1 x4_1).f1).length c219_1] 47 (0, 0))) := ⟨by (with_reducible repeat (first | refine blk_drewN ?_ _ | refine blk_drew ?_ | refine blk_alloc ?_ _)); refine blk_far ?_ NB220_224.out _; (with_reducible repeat (first | refine blk_drewN ?_ _ | refine blk_drew ?_ | refine blk_alloc ?_ _)); refine blk_far ?_ NB220_224.out _; (with_reducible repeat (first | refine blk_drewN ?_ _ | refine blk_drew ?_ | refine blk_alloc ?_ _)); refine blk_far ?_ NB220_224.out _; (with_reducible repeat (first | refine blk_drewN ?_ _ | refine blk_drew ?_ | refine blk_alloc ?_ _)); refine blk_far ?_ NB220_224.out _; (with_reducible repeat (first | refine blk_drewN ?_ _ | refine blk_drew ?_ | refine blk_alloc ?_ _)); exact BK220.out⟩; have n2_ : Aside0 (((((w34.setCell ⟨gb224, 0, none⟩ (.int .u8 ((rd_T50 ((rd_T47 l0_1 x4_1).f1) x6_2).f0.f0))).setCell ⟨gb224, 1, none⟩ (.string ((rd_T50 ((rd_T47 l0_1 x4_1).f1) x6_2).f0.f1))).setCell ⟨gb224, 2, none⟩ (.bool true)).setCell ⟨gb224, 3, none⟩ (.string ((rd_T50 ((rd_T47 l0_1 x4_1).f1) x6_2).f2))).heap[gb224]? = some (.cells #[.int .u8 ((rd_T50 ((rd_T47 l0_1 x4_1).f1) x6_2).f0.f0), .string ((rd_T50 ((rd_T47 l0_1 x4_1).f1) x6_2).f0.f1), .bool true, .string ((rd_T50 ((rd_T47 l0_1 x4_1).f1) x6_2).f2)] 50 (0, 0))) := ⟨by (with_reducible repeat (first | refine blk_drewN ?_ _ | refine blk_drew ?_ | refine blk_alloc ?_ _)); refine blk_put (cs := #[.int .u8 ((rd_T50 ((rd_T47 l0_1 x4_1).f1) x6_2).f0.f0), .string ((rd_T50 ((rd_T47 l0_1 x4_1).f1) x6_2).f0.f1), .bool true, .string (⟨#[]⟩ : ByteArray)]) ?_ 3 _ rfl; (with_reducible repeat (first | refine blk_drewN ?_ _ | refine blk_drew ?_ | refine blk_alloc ?_ _)); refine blk_put (cs := #[.int .u8 ((rd_T50 ((rd_T47 l0_1 x4_1).f1) x6_2).f0.f0), .string ((rd_T50 ((rd_T47 l0_1 x4_1).f1) x6_2).f0.f1), .bool false, .string (⟨#[]⟩ : ByteArray)]) ?_ 2 _ rfl; (with_reducible repeat (first | refine blk_drewN ?_ _ | refine blk_drew ?_ | refine blk_alloc ?_ _)); refine blk_put (cs := #[.int .u8 ((rd_T50 ((rd_T47 l0_1 x4_1).f1) x6_2).f0.f0), .string (⟨#[]⟩ : ByteArray), .bool false, .string (⟨#[]⟩ : ByteArray)]) ?_ 1 _ rfl; (with_reducible repeat (first | refine blk_drewN ?_ _ | refine blk_drew ?_ | refine blk_alloc ?_ _)); refine blk_put (cs := #[.int .u8 0, .string (⟨#[]⟩ : ByteArray), .bool false, .string (⟨#[]⟩ : ByteArray)]) ?_ 0 _ rfl; (with_reducible repeat (first | refine blk_drewN ?_ _ | refine blk_drew ?_ | refine blk_alloc ?_ _)); exact BK224.out⟩; have n3_ : Aside0 (Below w.heap.size w ((((w34.setCell ⟨gb224, 0, none⟩ (.int .u8 ((rd_T50 ((rd_T47 l0_1 x4_1).f1) x6_2).f0.f0))).setCell ⟨gb224, 1, none⟩ (.string ((rd_T50 ((rd_T47 l0_1 x4_1).f1) x6_2).f0.f1))).setCell ⟨gb224, 2, none⟩ (.bool true)).setCell ⟨gb224, 3, none⟩ (.string ((rd_T50 ((rd_T47 l0_1 x4_1).f1) x6_2).f2)))) := ⟨by repeat (first | (with_reducible first | exact HB.out | apply below_alloc | apply pw_below_drewN | apply below_drew1 | refine below_set ?_ GE216.out | refine below_set ?_ GE220.out | refine below_set ?_ GE224.out) | exact HB.out)⟩
                             (try clear BK216)
                             (try clear BK220)
                             (try clear BK224)
                             (try clear HB)
                             generalize ((((w34.setCell ⟨gb224, 0, none⟩ (.int .u8 ((rd_T50 ((rd_T47 l0_1 x4_1).f1) x6_2).f0.f0))).setCell ⟨gb224, 1, none⟩ (.string ((rd_T50 ((rd_T47 l0_1 x4_1).f1) x6_2).f0.f1))).setCell ⟨gb224, 2, none⟩ (.bool true)).setCell ⟨gb224, 3, none⟩ (.string ((rd_T50 ((rd_T47 l0_1 x4_1).f1) x6_2).f2))) = w38 at n0_ n1_ n2_ n3_ ⊢; have BK216 := n0_; have BK220 := n1_; have BK224 := n2_; have HB := n3_; clear n0_ n1_ n2_ n3_; have n0_ := Aside0.mk (blk_drew BK216.out); have n1_ := Aside0.mk (blk_drew BK220.out); have n2_ := Aside0.mk (blk_drew BK224.out); have n3_ := Aside0.mk (below_drew1 HB.out); clear BK216; clear BK220; clear BK224; clear HB; have BK216 := n0_; have BK220 := n1_; have BK224 := n2_; have HB := n3_; clear n0_ n1_ n2_ n3_; refine start_ (n := 11) (S := fun w' => w'.cell? ⟨gb224, 0, none⟩ = some (.int .u8 ((rd_T50 ((rd_T47 l0_1 x4_1).f1) x6_2).f0.f0)) ∧ w'.cell? ⟨gb224, 1, none⟩ = some (.string ((rd_T50 ((rd_T47 l0_1 x4_1).f1) x6_2).f0.f1)) ∧ w'.cell? ⟨gb224, 2, none⟩ = some (.bool true) ∧ w'.cell? ⟨gb224, 3, none⟩ = some (.string ((rd_T50 ((rd_T47 l0_1 x4_1).f1) x6_2).f2))) (ds := []) #[false, false, false, false, false, false, false, false, false, false, false] (by kernel_rfl) rfl rfl ⟨(blk_cell BK224.out 0).trans rfl, (blk_cell BK224.out 1).trans rfl, (blk_cell BK224.out 2).trans rfl, (blk_cell BK224.out 3).trans rfl⟩ (fun hHeld => ?_); refine with_tabW tidemarkref04_Write.tab11 tidemarkref04_Write.bits11 (fun HT_ HW_ => ?_); generalize w38.drew = w39 at BK216 BK220 BK224 HB hHeld ⊢; refine pj 0 (some 54) ?_; refine pj 1 (some 55) ?_; refine pj 5 (some 59) ?_; refine pj 6 (some 60) ?_; refine qj 2 (some 56) rfl rfl q_43 ?_; refine qj 7 (some 61) rfl rfl q_43 ?_; refine one_ (i := 3) (N := some 57) #[true, true, true, true, false, true, true, true, false, false, false] rfl rfl (one_of HT_.out (by kernel_rfl)) (by decide) (fun K hK => ?_); refine goes_ Try.func50 (by kernel_rfl) rfl #[.agg #[.int .u8 ((rd_T50 ((rd_T47 l0_1 x4_1).f1) x6_2).f0.f0), .string ((rd_T50 ((rd_T47 l0_1 x4_1).f1) x6_2).f0.f1)]] (by rfl) rfl rfl q_0 ?_; (with_reducible refine (tidemarkref04_table.calls ((rd_T50 ((rd_T47 l0_1 x4_1).f1) x6_2).f0.f0) ((rd_T50 ((rd_T47 l0_1 x4_1).f1) x6_2).f0.f1) t225 _ A25.out).mono ?_); rintro e w40 ⟨rfl, hb⟩; refine ⟨_, rfl, ?_⟩; have n0_ := Aside0.mk (blk_below (g := gb216) (o := .cells #[.int .u32 a0_0, .slice (some ad219) l0_1.length c0_1] 25 (0, 0)) q_15 hb); have n1_ := Aside0.mk (blk_below (g := gb220) (o := .cells #[.int .u64 ((rd_T47 l0_1 x4_1).f0), .slice (some ad223) ((rd_T47 l0_1 x4_1).f1).length c219_1] 47 (0, 0)) q_27 hb); have n2_ := Aside0.mk (blk_below (g := gb224) (o := .cells #[.int .u8 ((rd_T50 ((rd_T47 l0_1 x4_1).f1) x6_2).f0.f0), .string ((rd_T50 ((rd_T47 l0_1 x4_1).f1) x6_2).f0.f1), .bool true, .string ((rd_T50 ((rd_T47 l0_1 x4_1).f1) x6_2).f2)] 50 (0, 0)) q_54 hb); have n3_ := Aside0.mk (below_step q_40 hb); clear BK216; clear BK220; clear BK224; clear HB; have BK216 := n0_; have BK220 := n1_; have BK224 := n2_; have HB := n3_; clear n0_ n1_ n2_ n3_
                             (try clear hb)
                             (try clear hb2)
                             (try clear hk)
                             (try clear hi)
                             refine hK.out _ _ ⟨(blk_cell BK224.out 0).trans rfl, (blk_cell BK224.out 1).trans rfl, (blk_cell BK224.out 2).trans rfl, (blk_cell BK224.out 3).trans rfl⟩ (fun hHeld => ?_); clear hK K; refine norm_ (a' := ?_) ?_ ?_; rotate_left
                             · show Act.put _ (some 57) _ = _
                               simp only [Act.put, List.setIfInBounds_toArray, List.set_cons_zero, List.set_cons_succ, i64_w, i32_w]; rfl
                             refine pj 4 (some 58) ?_; refine one_ (i := 8) (N := some 62) #[true, true, true, true, true, true, true, true, true, false, false] rfl rfl (one_of HT_.out (by kernel_rfl)) (by decide) (fun K hK => ?_); refine goes_ Try.func51 (by kernel_rfl) rfl #[.string ((rd_T50 ((rd_T47 l0_1 x4_1).f1) x6_2).f0.f1)] (by rfl) rfl rfl q_0 ?_; (with_reducible refine (tidemarkref04_text.calls k2 ((rd_T50 ((rd_T47 l0_1 x4_1).f1) x6_2).f0.f1) t226 _ A27.out).mono ?_); rintro e w41 ⟨rfl, hb⟩; refine ⟨_, rfl, ?_⟩; have n0_ := Aside0.mk (blk_below (g := gb216) (o := .cells #[.int .u32 a0_0, .slice (some ad219) l0_1.length c0_1] 25 (0, 0)) q_15 hb); have n1_ := Aside0.mk (blk_below (g := gb220) (o := .cells #[.int .u64 ((rd_T47 l0_1 x4_1).f0), .slice (some ad223) ((rd_T47 l0_1 x4_1).f1).length c219_1] 47 (0, 0)) q_27 hb); have n2_ := Aside0.mk (blk_below (g := gb224) (o := .cells #[.int .u8 ((rd_T50 ((rd_T47 l0_1 x4_1).f1) x6_2).f0.f0), .string ((rd_T50 ((rd_T47 l0_1 x4_1).f1) x6_2).f0.f1), .bool true, .string ((rd_T50 ((rd_T47 l0_1 x4_1).f1) x6_2).f2)] 50 (0, 0)) q_54 hb); have n3_ := Aside0.mk (below_step q_40 hb); clear BK216; clear BK220; clear BK224; clear HB; have BK216 := n0_; have BK220 := n1_; have BK224 := n2_; have HB := n3_; clear n0_ n1_ n2_ n3_
                             (try clear hb)
                             (try clear hb2)
                             (try clear hk)
                             (try clear hi)
                             refine hK.out _ _ ⟨(blk_cell BK224.out 0).trans rfl, (blk_cell BK224.out 1).trans rfl, (blk_cell BK224.out 2).trans rfl, (blk_cell BK224.out 3).trans rfl⟩ (fun hHeld => ?_); clear hK K; refine norm_ (a' := ?_) ?_ ?_; rotate_left
                             · show Act.put _ (some 62) _ = _
                               simp only [Act.put, List.setIfInBounds_toArray, List.set_cons_zero, List.set_cons_succ, i64_w, i32_w]; rfl
                             refine pj 9 (some 63) ?_; refine pj 10 (some 3) ?_; refine done_ (done_of HT_.out (by kernel_rfl)) ?_; have hcz42_0 : w41.cell? ⟨gb224, 0, none⟩ = some (.int .u8 ((rd_T50 ((rd_T47 l0_1 x4_1).f1) x6_2).f0.f0)) := (blk_cell BK224.out 0).trans rfl; have hcz42_1 : w41.cell? ⟨gb224, 1, none⟩ = some (.string ((rd_T50 ((rd_T47 l0_1 x4_1).f1) x6_2).f0.f1)) := (blk_cell BK224.out 1).trans rfl; have hcz42_2 : w41.cell? ⟨gb224, 2, none⟩ = some (.bool true) := (blk_cell BK224.out 2).trans rfl; have hcz42_3 : w41.cell? ⟨gb224, 3, none⟩ = some (.string ((rd_T50 ((rd_T47 l0_1 x4_1).f1) x6_2).f2)) := (blk_cell BK224.out 3).trans rfl; have hfz42_0 := blk_frozen BK224.out 0; have hfz42_1 := blk_frozen BK224.out 1; have hfz42_2 := blk_frozen BK224.out 2; have hfz42_3 := blk_frozen BK224.out 3
                             try go_wp2
                             go_roundg k2
                             case measure => have := HK1.out; have := HK2.out; omega
                             case rel => exact ⟨(((x3_2 ++ t225) ++ t226) ++ (⟨#[0]⟩ : ByteArray)), (wrap64 (x6_2 + 1)), q_16, q_16, H', ⟨by have := HK1.out; have := HK2.out; omega⟩, ⟨by (with_reducible repeat (first | refine blk_drewN ?_ _ | refine blk_drew ?_ | refine blk_alloc ?_ _)); exact BK216.out⟩, ⟨by (with_reducible repeat (first | refine blk_drewN ?_ _ | refine blk_drew ?_ | refine blk_alloc ?_ _)); exact BK220.out⟩, ⟨by repeat (first | (with_reducible first | exact HB.out | apply below_alloc | apply pw_below_drewN | apply below_drew1 | refine below_set ?_ GE216.out | refine below_set ?_ GE220.out | refine below_set ?_ GE224.out) | exact HB.out)⟩⟩
                           · rw [if_neg c31] at H; exact absurd H (by simp)
                         · replace c30 := Bool.eq_false_iff.mpr c30; subst c30
                           have H1 : ((tidemarkref01_Uint.f k2 (IntKind.u64.wrap (wrap64 ((((rd_T50 ((rd_T47 l0_1 x4_1).f1) x6_2).f2).size : Int) + 1)))).bind fun t227 => (if ((x3_2 ++ t225) ++ t226).size + t227.size ≤ 9223372036854775807 then (if (((x3_2 ++ t225) ++ t226) ++ t227).size + ((rd_T50 ((rd_T47 l0_1 x4_1).f1) x6_2).f2).size ≤ 9223372036854775807 then (tidemarkref04_Write.l1 k2 ((((x3_2 ++ t225) ++ t226) ++ t227) ++ ((rd_T50 ((rd_T47 l0_1 x4_1).f1) x6_2).f2)) x4_1 (wrap64 (x6_2 + 1)) a0_0 l0_1 ((rd_T47 l0_1 x4_1).f0) ((rd_T47 l0_1 x4_1).f1)) else (none)) else (none))) = some r := by rw [if_neg (show ¬ (false = true) by decide)] at H; exact H
                           clear H; have H := H1; clear H1; replace H := Option.bind_eq_some_iff.mp H; obtain ⟨t227, A430, H⟩ := H; replace H : (if ((x3_2 ++ t225) ++ t226).size + t227.size ≤ 9223372036854775807 then (if (((x3_2 ++ t225) ++ t226) ++ t227).size + ((rd_T50 ((rd_T47 l0_1 x4_1).f1) x6_2).f2).size ≤ 9223372036854775807 then (tidemarkref04_Write.l1 k2 ((((x3_2 ++ t225) ++ t226) ++ t227) ++ ((rd_T50 ((rd_T47 l0_1 x4_1).f1) x6_2).f2)) x4_1 (wrap64 (x6_2 + 1)) a0_0 l0_1 ((rd_T47 l0_1 x4_1).f0) ((rd_T47 l0_1 x4_1).f1)) else (none)) else (none)) = some r := H; have A43 := Aside0.mk A430; clear A430
                           by_cases c44 : ((x3_2 ++ t225) ++ t226).size + t227.size ≤ 9223372036854775807
                           · rw [if_pos c44] at H; have c44b0 := eq_true c44; have c44b1 : decide (((x3_2 ++ t225) ++ t226).size + t227.size ≤ 9223372036854775807) = true := decide_eq_true c44
                             try have c44b2 : (9223372036854775807 < ((x3_2 ++ t225) ++ t226).size + t227.size) = False := eq_false (Nat.not_lt.2 c44)
                             try (have c44b3 := c44b2; simp only [ByteArray.size_append] at c44b3)
                             by_cases c45 : (((x3_2 ++ t225) ++ t226) ++ t227).size + ((rd_T50 ((rd_T47 l0_1 x4_1).f1) x6_2).f2).size ≤ 9223372036854775807
                             · rw [if_pos c45] at H; have c45b0 := eq_true c45; have c45b1 : decide ((((x3_2 ++ t225) ++ t226) ++ t227).size + ((rd_T50 ((rd_T47 l0_1 x4_1).f1) x6_2).f2).size ≤ 9223372036854775807) = true := decide_eq_true c45
                               try have c45b2 : (9223372036854775807 < (((x3_2 ++ t225) ++ t226) ++ t227).size + ((rd_T50 ((rd_T47 l0_1 x4_1).f1) x6_2).f2).size) = False := eq_false (Nat.not_lt.2 c45)
                               try (have c45b3 := c45b2; simp only [ByteArray.size_append] at c45b3)
                               have H' := Aside0.mk H; clear H; have hnb46 := NB220_216.out; have hnc46 := NB216_220.out; have hcz47_0 : wr.cell? ⟨gb220, 0, none⟩ = some (.int .u64 ((rd_T47 l0_1 x4_1).f0)) := (blk_cell BK220.out 0).trans rfl; have hcz47_1 : wr.cell? ⟨gb220, 1, none⟩ = some (.slice A219_1 ((rd_T47 l0_1 x4_1).f1).length c219_1) := (blk_cell BK220.out 1).trans rfl; have hfz47_0 := blk_frozen BK220.out 0; have hfz47_1 := blk_frozen BK220.out 1; have p223 : 0 ≤ (x6_2 : Int) := of_decide_eq_true q_2; have q223 : x6_2 < (((rd_T47 l0_1 x4_1).f1).length : Int) := of_decide_eq_true q_2; obtain ⟨ad223, e223, hx223_0, hx223_1, hx223_2, hx223_3⟩ := at_T50 HR219_1.out x6_2 p223 q223
                               (try rw [← Nbq29.out] at hx223_2)
                               cases e223
                               replace hx223_0 := (HB.out.cell (World.block_lt_of_cell? w _ hx223_0)).trans hx223_0; replace hx223_1 := (HB.out.cell (World.block_lt_of_cell? w _ hx223_1)).trans hx223_1; replace hx223_2 := (HB.out.cell (World.block_lt_of_cell? w _ hx223_2)).trans hx223_2; replace hx223_3 := (HB.out.cell (World.block_lt_of_cell? w _ hx223_3)).trans hx223_3; replace p223 := eq_true p223; replace q223 := eq_true q223
                               try go_wp2_with (first | ((with_reducible refine gate_dst (N := 7) rfl ?_); refine box_event ?hg (N := 7) ?hd (cs := #[.int .u8 0, .string (⟨#[]⟩ : ByteArray), .bool false, .string (⟨#[]⟩ : ByteArray)]) (t := 50) ?hr ?_; (case hd => rfl); (case hg => rfl); (case hr => first | (go_simp; done) | (go_simp; rfl)); intro gb224 hg w48 hbox hb; have n0_ := Aside0.mk (blk_below (g := gb216) (o := .cells #[.int .u32 a0_0, .slice (some ad219) l0_1.length c0_1] 25 (0, 0)) q_15 hb); have n1_ := Aside0.mk (blk_below (g := gb220) (o := .cells #[.int .u64 ((rd_T47 l0_1 x4_1).f0), .slice (some ad223) ((rd_T47 l0_1 x4_1).f1).length c219_1] 47 (0, 0)) q_27 hb); have n2_ := Aside0.mk (below_step q_28 hb); have n3_ := Aside0.mk (hbox); have n4_ := Aside0.mk ((by rw [hg]; exact (below_size q_28) : w.heap.size ≤ gb224)); have n5_ := Aside0.mk ((by rw [hg]; exact (below_size q_28) : w.heap.size ≤ gb224)); have n6_ := Aside0.mk ((by rw [hg]; exact Nat.ne_of_lt (blk_lt (g := gb216) (o := .cells #[.int .u32 a0_0, .slice (some ad219) l0_1.length c0_1] 25 (0, 0)) q_15) : gb216 ≠ gb224)); have n7_ := Aside0.mk ((by rw [hg]; exact Nat.ne_of_gt (blk_lt (g := gb216) (o := .cells #[.int .u32 a0_0, .slice (some ad219) l0_1.length c0_1] 25 (0, 0)) q_15) : gb224 ≠ gb216)); have n8_ := Aside0.mk ((by rw [hg]; exact Nat.ne_of_lt (blk_lt (g := gb220) (o := .cells #[.int .u64 ((rd_T47 l0_1 x4_1).f0), .slice (some ad223) ((rd_T47 l0_1 x4_1).f1).length c219_1] 47 (0, 0)) q_27) : gb220 ≠ gb224)); have n9_ := Aside0.mk ((by rw [hg]; exact Nat.ne_of_gt (blk_lt (g := gb220) (o := .cells #[.int .u64 ((rd_T47 l0_1 x4_1).f0), .slice (some ad223) ((rd_T47 l0_1 x4_1).f1).length c219_1] 47 (0, 0)) q_27) : gb224 ≠ gb220)); clear BK216; clear BK220; clear HB; have BK216 := n0_; have BK220 := n1_; have HB := n2_; have BK224 := n3_; have GW224 := n4_; have GE224 := n5_; have NB216_224 := n6_; have NB224_216 := n7_; have NB220_224 := n8_; have NB224_220 := n9_; clear n0_ n1_ n2_ n3_ n4_ n5_ n6_ n7_ n8_ n9_; clear hb hbox hg; have hnb49 := NB224_216.out; have hnc49 := NB216_224.out; have hnb50 := NB224_220.out; have hnc50 := NB220_224.out; have hcz51_0 : w48.cell? ⟨gb224, 0, none⟩ = some (.int .u8 0) := (blk_cell BK224.out 0).trans rfl; have hcz51_1 : w48.cell? ⟨gb224, 1, none⟩ = some (.string (⟨#[]⟩ : ByteArray)) := (blk_cell BK224.out 1).trans rfl; have hcz51_2 : w48.cell? ⟨gb224, 2, none⟩ = some (.bool false) := (blk_cell BK224.out 2).trans rfl; have hcz51_3 : w48.cell? ⟨gb224, 3, none⟩ = some (.string (⟨#[]⟩ : ByteArray)) := (blk_cell BK224.out 3).trans rfl; have hfz51_0 := blk_frozen BK224.out 0; have hfz51_1 := blk_frozen BK224.out 1; have hfz51_2 := blk_frozen BK224.out 2; have hfz51_3 := blk_frozen BK224.out 3))
                               have n0_ : Aside0 (((((w48.setCell ⟨gb224, 0, none⟩ (.int .u8 ((rd_T50 ((rd_T47 l0_1 x4_1).f1) x6_2).f0.f0))).setCell ⟨gb224, 1, none⟩ (.string ((rd_T50 ((rd_T47 l0_1 x4_1).f1) x6_2).f0.f1))).setCell ⟨gb224, 2, none⟩ (.bool false)).setCell ⟨gb224, 3, none⟩ (.string ((rd_T50 ((rd_T47 l0_1 x4_1).f1) x6_2).f2))).heap[gb216]? = some (.cells #[.int .u32 a0_0, .slice (some ad219) l0_1.length c0_1] 25 (0, 0))) := ⟨by (with_reducible repeat (first | refine blk_drewN ?_ _ | refine blk_drew ?_ | refine blk_alloc ?_ _)); refine blk_far ?_ NB216_224.out _; (with_reducible repeat (first | refine blk_drewN ?_ _ | refine blk_drew ?_ | refine blk_alloc ?_ _)); refine blk_far ?_ NB216_224.out _; (with_reducible repeat (first | refine blk_drewN ?_ _ | refine blk_drew ?_ | refine blk_alloc ?_ _)); refine blk_far ?_ NB216_224.out _; (with_reducible repeat (first | refine blk_drewN ?_ _ | refine blk_drew ?_ | refine blk_alloc ?_ _)); refine blk_far ?_ NB216_224.out _; (with_reducible repeat (first | refine blk_drewN ?_ _ | refine blk_drew ?_ | refine blk_alloc ?_ _)); exact BK216.out⟩; have n1_ : Aside0 (((((w48.setCell ⟨gb224, 0, none⟩ (.int .u8 ((rd_T50 ((rd_T47 l0_1 x4_1).f1) x6_2).f0.f0))).setCell ⟨gb224, 1, none⟩ (.string ((rd_T50 ((rd_T47 l0_1 x4_1).f1) x6_2).f0.f1))).setCell ⟨gb224, 2, none⟩ (.bool false)).setCell ⟨gb224, 3, none⟩ (.string ((rd_T50 ((rd_T47 l0_1 x4_1).f1) x6_2).f2))).heap[gb220]? = some (.cells #[.int .u64 ((rd_T47 l0_1 x4_1).f0), .slice (some ad223) ((rd_T47 l0_1 x4_1).f1).length c219_1] 47 (0, 0))) := ⟨by (with_reducible repeat (first | refine blk_drewN ?_ _ | refine blk_drew ?_ | refine blk_alloc ?_ _)); refine blk_far ?_ NB220_224.out _; (with_reducible repeat (first | refine blk_drewN ?_ _ | refine blk_drew ?_ | refine blk_alloc ?_ _)); refine blk_far ?_ NB220_224.out _; (with_reducible repeat (first | refine blk_drewN ?_ _ | refine blk_drew ?_ | refine blk_alloc ?_ _)); refine blk_far ?_ NB220_224.out _; (with_reducible repeat (first | refine blk_drewN ?_ _ | refine blk_drew ?_ | refine blk_alloc ?_ _)); refine blk_far ?_ NB220_224.out _; (with_reducible repeat (first | refine blk_drewN ?_ _ | refine blk_drew ?_ | refine blk_alloc ?_ _)); exact BK220.out⟩; have n2_ : Aside0 (((((w48.setCell ⟨gb224, 0, none⟩ (.int .u8 ((rd_T50 ((rd_T47 l0_1 x4_1).f1) x6_2).f0.f0))).setCell ⟨gb224, 1, none⟩ (.string ((rd_T50 ((rd_T47 l0_1 x4_1).f1) x6_2).f0.f1))).setCell ⟨gb224, 2, none⟩ (.bool false)).setCell ⟨gb224, 3, none⟩ (.string ((rd_T50 ((rd_T47 l0_1 x4_1).f1) x6_2).f2))).heap[gb224]? = some (.cells #[.int .u8 ((rd_T50 ((rd_T47 l0_1 x4_1).f1) x6_2).f0.f0), .string ((rd_T50 ((rd_T47 l0_1 x4_1).f1) x6_2).f0.f1), .bool false, .string ((rd_T50 ((rd_T47 l0_1 x4_1).f1) x6_2).f2)] 50 (0, 0))) := ⟨by (with_reducible repeat (first | refine blk_drewN ?_ _ | refine blk_drew ?_ | refine blk_alloc ?_ _)); refine blk_put (cs := #[.int .u8 ((rd_T50 ((rd_T47 l0_1 x4_1).f1) x6_2).f0.f0), .string ((rd_T50 ((rd_T47 l0_1 x4_1).f1) x6_2).f0.f1), .bool false, .string (⟨#[]⟩ : ByteArray)]) ?_ 3 _ rfl; (with_reducible repeat (first | refine blk_drewN ?_ _ | refine blk_drew ?_ | refine blk_alloc ?_ _)); refine blk_put (cs := #[.int .u8 ((rd_T50 ((rd_T47 l0_1 x4_1).f1) x6_2).f0.f0), .string ((rd_T50 ((rd_T47 l0_1 x4_1).f1) x6_2).f0.f1), .bool false, .string (⟨#[]⟩ : ByteArray)]) ?_ 2 _ rfl; (with_reducible repeat (first | refine blk_drewN ?_ _ | refine blk_drew ?_ | refine blk_alloc ?_ _)); refine blk_put (cs := #[.int .u8 ((rd_T50 ((rd_T47 l0_1 x4_1).f1) x6_2).f0.f0), .string (⟨#[]⟩ : ByteArray), .bool false, .string (⟨#[]⟩ : ByteArray)]) ?_ 1 _ rfl; (with_reducible repeat (first | refine blk_drewN ?_ _ | refine blk_drew ?_ | refine blk_alloc ?_ _)); refine blk_put (cs := #[.int .u8 0, .string (⟨#[]⟩ : ByteArray), .bool false, .string (⟨#[]⟩ : ByteArray)]) ?_ 0 _ rfl; (with_reducible repeat (first | refine blk_drewN ?_ _ | refine blk_drew ?_ | refine blk_alloc ?_ _)); exact BK224.out⟩; have n3_ : Aside0 (Below w.heap.size w ((((w48.setCell ⟨gb224, 0, none⟩ (.int .u8 ((rd_T50 ((rd_T47 l0_1 x4_1).f1) x6_2).f0.f0))).setCell ⟨gb224, 1, none⟩ (.string ((rd_T50 ((rd_T47 l0_1 x4_1).f1) x6_2).f0.f1))).setCell ⟨gb224, 2, none⟩ (.bool false)).setCell ⟨gb224, 3, none⟩ (.string ((rd_T50 ((rd_T47 l0_1 x4_1).f1) x6_2).f2)))) := ⟨by repeat (first | (with_reducible first | exact HB.out | apply below_alloc | apply pw_below_drewN | apply below_drew1 | refine below_set ?_ GE216.out | refine below_set ?_ GE220.out | refine below_set ?_ GE224.out) | exact HB.out)⟩
                               (try clear BK216)
                               (try clear BK220)
                               (try clear BK224)
                               (try clear HB)
                               generalize ((((w48.setCell ⟨gb224, 0, none⟩ (.int .u8 ((rd_T50 ((rd_T47 l0_1 x4_1).f1) x6_2).f0.f0))).setCell ⟨gb224, 1, none⟩ (.string ((rd_T50 ((rd_T47 l0_1 x4_1).f1) x6_2).f0.f1))).setCell ⟨gb224, 2, none⟩ (.bool false)).setCell ⟨gb224, 3, none⟩ (.string ((rd_T50 ((rd_T47 l0_1 x4_1).f1) x6_2).f2))) = w52 at n0_ n1_ n2_ n3_ ⊢; have BK216 := n0_; have BK220 := n1_; have BK224 := n2_; have HB := n3_; clear n0_ n1_ n2_ n3_; have n0_ := Aside0.mk (blk_drew BK216.out); have n1_ := Aside0.mk (blk_drew BK220.out); have n2_ := Aside0.mk (blk_drew BK224.out); have n3_ := Aside0.mk (below_drew1 HB.out); clear BK216; clear BK220; clear BK224; clear HB; have BK216 := n0_; have BK220 := n1_; have BK224 := n2_; have HB := n3_; clear n0_ n1_ n2_ n3_; refine start_ (n := 11) (S := fun w' => w'.cell? ⟨gb224, 0, none⟩ = some (.int .u8 ((rd_T50 ((rd_T47 l0_1 x4_1).f1) x6_2).f0.f0)) ∧ w'.cell? ⟨gb224, 1, none⟩ = some (.string ((rd_T50 ((rd_T47 l0_1 x4_1).f1) x6_2).f0.f1)) ∧ w'.cell? ⟨gb224, 2, none⟩ = some (.bool false) ∧ w'.cell? ⟨gb224, 3, none⟩ = some (.string ((rd_T50 ((rd_T47 l0_1 x4_1).f1) x6_2).f2))) (ds := []) #[false, false, false, false, false, false, false, false, false, false, false] (by kernel_rfl) rfl rfl ⟨(blk_cell BK224.out 0).trans rfl, (blk_cell BK224.out 1).trans rfl, (blk_cell BK224.out 2).trans rfl, (blk_cell BK224.out 3).trans rfl⟩ (fun hHeld => ?_); refine with_tabW tidemarkref04_Write.tab11 tidemarkref04_Write.bits11 (fun HT_ HW_ => ?_); generalize w52.drew = w53 at BK216 BK220 BK224 HB hHeld ⊢; refine pj 0 (some 54) ?_; refine pj 1 (some 55) ?_; refine pj 5 (some 59) ?_; refine pj 6 (some 60) ?_; refine qj 2 (some 56) rfl rfl q_43 ?_; refine qj 7 (some 61) rfl rfl q_43 ?_; refine one_ (i := 3) (N := some 57) #[true, true, true, true, false, true, true, true, false, false, false] rfl rfl (one_of HT_.out (by kernel_rfl)) (by decide) (fun K hK => ?_); refine goes_ Try.func50 (by kernel_rfl) rfl #[.agg #[.int .u8 ((rd_T50 ((rd_T47 l0_1 x4_1).f1) x6_2).f0.f0), .string ((rd_T50 ((rd_T47 l0_1 x4_1).f1) x6_2).f0.f1)]] (by rfl) rfl rfl q_0 ?_; (with_reducible refine (tidemarkref04_table.calls ((rd_T50 ((rd_T47 l0_1 x4_1).f1) x6_2).f0.f0) ((rd_T50 ((rd_T47 l0_1 x4_1).f1) x6_2).f0.f1) t225 _ A25.out).mono ?_); rintro e w54 ⟨rfl, hb⟩; refine ⟨_, rfl, ?_⟩; have n0_ := Aside0.mk (blk_below (g := gb216) (o := .cells #[.int .u32 a0_0, .slice (some ad219) l0_1.length c0_1] 25 (0, 0)) q_15 hb); have n1_ := Aside0.mk (blk_below (g := gb220) (o := .cells #[.int .u64 ((rd_T47 l0_1 x4_1).f0), .slice (some ad223) ((rd_T47 l0_1 x4_1).f1).length c219_1] 47 (0, 0)) q_27 hb); have n2_ := Aside0.mk (blk_below (g := gb224) (o := .cells #[.int .u8 ((rd_T50 ((rd_T47 l0_1 x4_1).f1) x6_2).f0.f0), .string ((rd_T50 ((rd_T47 l0_1 x4_1).f1) x6_2).f0.f1), .bool false, .string ((rd_T50 ((rd_T47 l0_1 x4_1).f1) x6_2).f2)] 50 (0, 0)) q_54 hb); have n3_ := Aside0.mk (below_step q_40 hb); clear BK216; clear BK220; clear BK224; clear HB; have BK216 := n0_; have BK220 := n1_; have BK224 := n2_; have HB := n3_; clear n0_ n1_ n2_ n3_
                               (try clear hb)
                               (try clear hb2)
                               (try clear hk)
                               (try clear hi)
                               refine hK.out _ _ ⟨(blk_cell BK224.out 0).trans rfl, (blk_cell BK224.out 1).trans rfl, (blk_cell BK224.out 2).trans rfl, (blk_cell BK224.out 3).trans rfl⟩ (fun hHeld => ?_); clear hK K; refine norm_ (a' := ?_) ?_ ?_; rotate_left
                               · show Act.put _ (some 57) _ = _
                                 simp only [Act.put, List.setIfInBounds_toArray, List.set_cons_zero, List.set_cons_succ, i64_w, i32_w]; rfl
                               refine pj 4 (some 58) ?_; refine one_ (i := 8) (N := some 62) #[true, true, true, true, true, true, true, true, true, false, false] rfl rfl (one_of HT_.out (by kernel_rfl)) (by decide) (fun K hK => ?_); refine goes_ Try.func51 (by kernel_rfl) rfl #[.string ((rd_T50 ((rd_T47 l0_1 x4_1).f1) x6_2).f0.f1)] (by rfl) rfl rfl q_0 ?_; (with_reducible refine (tidemarkref04_text.calls k2 ((rd_T50 ((rd_T47 l0_1 x4_1).f1) x6_2).f0.f1) t226 _ A27.out).mono ?_); rintro e w55 ⟨rfl, hb⟩; refine ⟨_, rfl, ?_⟩; have n0_ := Aside0.mk (blk_below (g := gb216) (o := .cells #[.int .u32 a0_0, .slice (some ad219) l0_1.length c0_1] 25 (0, 0)) q_15 hb); have n1_ := Aside0.mk (blk_below (g := gb220) (o := .cells #[.int .u64 ((rd_T47 l0_1 x4_1).f0), .slice (some ad223) ((rd_T47 l0_1 x4_1).f1).length c219_1] 47 (0, 0)) q_27 hb); have n2_ := Aside0.mk (blk_below (g := gb224) (o := .cells #[.int .u8 ((rd_T50 ((rd_T47 l0_1 x4_1).f1) x6_2).f0.f0), .string ((rd_T50 ((rd_T47 l0_1 x4_1).f1) x6_2).f0.f1), .bool false, .string ((rd_T50 ((rd_T47 l0_1 x4_1).f1) x6_2).f2)] 50 (0, 0)) q_54 hb); have n3_ := Aside0.mk (below_step q_40 hb); clear BK216; clear BK220; clear BK224; clear HB; have BK216 := n0_; have BK220 := n1_; have BK224 := n2_; have HB := n3_; clear n0_ n1_ n2_ n3_
                               (try clear hb)
                               (try clear hb2)
                               (try clear hk)
                               (try clear hi)
                               refine hK.out _ _ ⟨(blk_cell BK224.out 0).trans rfl, (blk_cell BK224.out 1).trans rfl, (blk_cell BK224.out 2).trans rfl, (blk_cell BK224.out 3).trans rfl⟩ (fun hHeld => ?_); clear hK K; refine norm_ (a' := ?_) ?_ ?_; rotate_left
                               · show Act.put _ (some 62) _ = _
                                 simp only [Act.put, List.setIfInBounds_toArray, List.set_cons_zero, List.set_cons_succ, i64_w, i32_w]; rfl
                               refine pj 9 (some 63) ?_; refine pj 10 (some 3) ?_; refine done_ (done_of HT_.out (by kernel_rfl)) ?_; have hcz56_0 : w55.cell? ⟨gb224, 0, none⟩ = some (.int .u8 ((rd_T50 ((rd_T47 l0_1 x4_1).f1) x6_2).f0.f0)) := (blk_cell BK224.out 0).trans rfl; have hcz56_1 : w55.cell? ⟨gb224, 1, none⟩ = some (.string ((rd_T50 ((rd_T47 l0_1 x4_1).f1) x6_2).f0.f1)) := (blk_cell BK224.out 1).trans rfl; have hcz56_2 : w55.cell? ⟨gb224, 2, none⟩ = some (.bool false) := (blk_cell BK224.out 2).trans rfl; have hcz56_3 : w55.cell? ⟨gb224, 3, none⟩ = some (.string ((rd_T50 ((rd_T47 l0_1 x4_1).f1) x6_2).f2)) := (blk_cell BK224.out 3).trans rfl; have hfz56_0 := blk_frozen BK224.out 0; have hfz56_1 := blk_frozen BK224.out 1; have hfz56_2 := blk_frozen BK224.out 2; have hfz56_3 := blk_frozen BK224.out 3
                               try go_wp2
                               have n0_ := Aside0.mk (blk_drew BK216.out); have n1_ := Aside0.mk (blk_drew BK220.out); have n2_ := Aside0.mk (blk_drew BK224.out); have n3_ := Aside0.mk (below_drew1 HB.out); clear BK216; clear BK220; clear BK224; clear HB; have BK216 := n0_; have BK220 := n1_; have BK224 := n2_; have HB := n3_; clear n0_ n1_ n2_ n3_; refine start_ (n := 12) (S := fun w' => w'.cell? ⟨gb224, 0, none⟩ = some (.int .u8 ((rd_T50 ((rd_T47 l0_1 x4_1).f1) x6_2).f0.f0)) ∧ w'.cell? ⟨gb224, 1, none⟩ = some (.string ((rd_T50 ((rd_T47 l0_1 x4_1).f1) x6_2).f0.f1)) ∧ w'.cell? ⟨gb224, 2, none⟩ = some (.bool false) ∧ w'.cell? ⟨gb224, 3, none⟩ = some (.string ((rd_T50 ((rd_T47 l0_1 x4_1).f1) x6_2).f2))) (ds := []) #[false, false, false, false, false, false, false, false, false, false, false, false] (by kernel_rfl) rfl rfl ⟨(blk_cell BK224.out 0).trans rfl, (blk_cell BK224.out 1).trans rfl, (blk_cell BK224.out 2).trans rfl, (blk_cell BK224.out 3).trans rfl⟩ (fun hHeld => ?_); refine with_tabW tidemarkref04_Write.tab14 tidemarkref04_Write.bits14 (fun HT_ HW_ => ?_); generalize w55.drew = w57 at BK216 BK220 BK224 HB hHeld ⊢; refine pj 0 (some 68) ?_; refine pj 1 (some 69) ?_; refine pj 8 (some 76) ?_; refine qj 2 (some 70) rfl rfl q_43 ?_; refine pj 3 (some 71) ?_; refine pj 4 (some 72) ?_; refine pj 5 (some 73) ?_; refine qj 9 (some 77) rfl rfl q_43 ?_; refine one_ (i := 6) (N := some 74) #[true, true, true, true, true, true, true, false, true, true, false, false] rfl rfl (one_of HT_.out (by kernel_rfl)) (by decide) (fun K hK => ?_); refine goes_ Try.func49 (by kernel_rfl) rfl #[.int .u64 (IntKind.u64.wrap (wrap64 ((((rd_T50 ((rd_T47 l0_1 x4_1).f1) x6_2).f2).size : Int) + 1)))] (by rfl) rfl rfl q_0 ?_; (with_reducible refine (tidemarkref01_Uint.calls k2 (IntKind.u64.wrap (wrap64 ((((rd_T50 ((rd_T47 l0_1 x4_1).f1) x6_2).f2).size : Int) + 1))) t227 _ A43.out).mono ?_); rintro e w58 ⟨rfl, hb⟩; refine ⟨_, rfl, ?_⟩; have n0_ := Aside0.mk (blk_below (g := gb216) (o := .cells #[.int .u32 a0_0, .slice (some ad219) l0_1.length c0_1] 25 (0, 0)) q_15 hb); have n1_ := Aside0.mk (blk_below (g := gb220) (o := .cells #[.int .u64 ((rd_T47 l0_1 x4_1).f0), .slice (some ad223) ((rd_T47 l0_1 x4_1).f1).length c219_1] 47 (0, 0)) q_27 hb); have n2_ := Aside0.mk (blk_below (g := gb224) (o := .cells #[.int .u8 ((rd_T50 ((rd_T47 l0_1 x4_1).f1) x6_2).f0.f0), .string ((rd_T50 ((rd_T47 l0_1 x4_1).f1) x6_2).f0.f1), .bool false, .string ((rd_T50 ((rd_T47 l0_1 x4_1).f1) x6_2).f2)] 50 (0, 0)) q_54 hb); have n3_ := Aside0.mk (below_step q_40 hb); clear BK216; clear BK220; clear BK224; clear HB; have BK216 := n0_; have BK220 := n1_; have BK224 := n2_; have HB := n3_; clear n0_ n1_ n2_ n3_
                               (try clear hb)
                               (try clear hb2)
                               (try clear hk)
                               (try clear hi)
                               refine hK.out _ _ ⟨(blk_cell BK224.out 0).trans rfl, (blk_cell BK224.out 1).trans rfl, (blk_cell BK224.out 2).trans rfl, (blk_cell BK224.out 3).trans rfl⟩ (fun hHeld => ?_); clear hK K; refine norm_ (a' := ?_) ?_ ?_; rotate_left
                               · show Act.put _ (some 74) _ = _
                                 simp only [Act.put, List.setIfInBounds_toArray, List.set_cons_zero, List.set_cons_succ, i64_w, i32_w]; rfl
                               refine pj 7 (some 75) ?_; refine pj 10 (some 78) ?_; refine pj 11 (some 3) ?_; refine done_ (done_of HT_.out (by kernel_rfl)) ?_
                               try go_wp2
                               go_roundg k2
                               case measure => have := HK1.out; have := HK2.out; omega
                               case rel => exact ⟨((((x3_2 ++ t225) ++ t226) ++ t227) ++ ((rd_T50 ((rd_T47 l0_1 x4_1).f1) x6_2).f2)), (wrap64 (x6_2 + 1)), q_16, q_16, H', ⟨by have := HK1.out; have := HK2.out; omega⟩, ⟨by (with_reducible repeat (first | refine blk_drewN ?_ _ | refine blk_drew ?_ | refine blk_alloc ?_ _)); exact BK216.out⟩, ⟨by (with_reducible repeat (first | refine blk_drewN ?_ _ | refine blk_drew ?_ | refine blk_alloc ?_ _)); exact BK220.out⟩, ⟨by repeat (first | (with_reducible first | exact HB.out | apply below_alloc | apply pw_below_drewN | apply below_drew1 | refine below_set ?_ GE216.out | refine below_set ?_ GE220.out | refine below_set ?_ GE224.out) | exact HB.out)⟩⟩
                             · rw [if_neg c45] at H; exact absurd H (by simp)
                           · rw [if_neg c44] at H; exact absurd H (by simp)
                       · rw [if_neg c28] at H; exact absurd H (by simp)
                     · rw [if_neg c26] at H; exact absurd H (by simp)
                   · rw [if_neg c24] at H; exact absurd H (by simp)
                 · rw [if_neg c23] at H; have c23b0 : decide (x6_2 < (((rd_T47 l0_1 x4_1).f1).length : Int)) = false := decide_eq_false c23; clear c23; have H' := Aside0.mk H; clear H; have hnb59 := NB220_216.out; have hnc59 := NB216_220.out; have hcz60_0 : wr.cell? ⟨gb220, 0, none⟩ = some (.int .u64 ((rd_T47 l0_1 x4_1).f0)) := (blk_cell BK220.out 0).trans rfl; have hcz60_1 : wr.cell? ⟨gb220, 1, none⟩ = some (.slice A219_1 ((rd_T47 l0_1 x4_1).f1).length c219_1) := (blk_cell BK220.out 1).trans rfl; have hfz60_0 := blk_frozen BK220.out 0; have hfz60_1 := blk_frozen BK220.out 1
                   go_wp2
                   go_roundg k2
                   case measure => have := HK1.out; have := HK2.out; omega
                   case rel => exact ⟨(x3_2), (wrap64 (x4_1 + 1)), q_16, q_16, H', ⟨by have := HK1.out; have := HK2.out; omega⟩, ⟨by (with_reducible repeat (first | refine blk_drewN ?_ _ | refine blk_drew ?_ | refine blk_alloc ?_ _)); exact BK216.out⟩, ⟨by repeat (first | (with_reducible first | exact HB.out | apply below_alloc | apply pw_below_drewN | apply below_drew1 | refine below_set ?_ GE216.out | refine below_set ?_ GE220.out) | exact HB.out)⟩⟩
            · rw [if_neg c14] at H; exact absurd H (by simp)
          · rw [if_neg c12] at H; exact absurd H (by simp)
        · rw [if_neg c10] at H; exact absurd H (by simp)
      · rw [if_neg c9] at H; have c9b0 : decide (x4_1 < (l0_1.length : Int)) = false := decide_eq_false c9; clear c9; obtain rfl := Option.some.inj H; have hcz61_0 : wr.cell? ⟨gb216, 0, none⟩ = some (.int .u32 a0_0) := (blk_cell BK216.out 0).trans rfl; have hcz61_1 : wr.cell? ⟨gb216, 1, none⟩ = some (.slice A0_1 l0_1.length c0_1) := (blk_cell BK216.out 1).trans rfl; have hfz61_0 := blk_frozen BK216.out 0; have hfz61_1 := blk_frozen BK216.out 1
        go_wp2
        go_ret
        exact ⟨by first | rfl | (simp [errW_none, errW_some] <;> rfl) | (simp [*, errW_none, errW_some] <;> rfl), by repeat (first | (with_reducible first | exact HB.out | apply below_alloc | apply pw_below_drewN | apply below_drew1 | refine below_set ?_ GE216.out) | exact HB.out)⟩
 · rw [if_neg c4] at H; exact absurd H (by simp)
def tidemarkref04_WriteRows.l0 : Nat → List (S57) → ByteArray → Int → Option (ByteArray)
 | 0, _, _, _ => none
 | k + 1, x0, x3, x4 => if x4 < (x0.length : Int) then (if 0 ≤ x4 then ((tidemarkref04_table.f ((rd_T57 x0 x4).f0.f0) ((rd_T57 x0 x4).f0.f1)).bind fun t230 => (if x3.size + t230.size ≤ 9223372036854775807 then ((tidemarkref04_text.f k ((rd_T57 x0 x4).f0.f1)).bind fun t232 => (if (x3 ++ t230).size + t232.size ≤ 9223372036854775807 then ((tidemarkref04_text.f k ((rd_T57 x0 x4).f1)).bind fun t234 => (if ((x3 ++ t230) ++ t232).size + t234.size ≤ 9223372036854775807 then (tidemarkref04_WriteRows.l0 k x0 (((x3 ++ t230) ++ t232) ++ t234) (wrap64 (x4 + 1))) else (none))) else (none))) else (none))) else (none)) else (some x3)
def tidemarkref04_WriteRows.f (k : Nat) (l0 : List (S57)) : Option (ByteArray) := (tidemarkref01_Uint.f k (IntKind.u64.wrap ((l0.length : Int)))).bind fun t228 => (tidemarkref04_WriteRows.l0 k l0 t228 0)
theorem tidemarkref04_WriteRows.mono_l : ∀ k, (∀ y0 y1 y2, LeO (tidemarkref04_WriteRows.l0 k y0 y1 y2) (tidemarkref04_WriteRows.l0 (k + 1) y0 y1 y2))
 | 0 => fun _ _ _ r h => by simp [tidemarkref04_WriteRows.l0] at h
 | k + 1 => by
   have ih0 := tidemarkref04_WriteRows.mono_l k
   · intro y0 y1 y2; unfold tidemarkref04_WriteRows.l0
     repeat' first
     | (with_reducible exact ih0 _ _ _)
     | (with_reducible exact tidemarkref01_Uint.mono _ _)
     | (with_reducible exact tidemarkref04_text.mono _ _)
     | (with_reducible exact LeO.refl _)
     | (with_reducible exact LeO.none _)
     | (with_reducible refine LeO.ite ?_ ?_)
     | (with_reducible refine LeO.bind ?_ (fun _ => ?_))
     | exact ih0 _ _ _
     | exact tidemarkref01_Uint.mono _ _
     | exact tidemarkref04_text.mono _ _
     | exact LeO.none _
     | refine LeO.ite ?_ ?_
     | refine LeO.bind ?_ (fun _ => ?_)
theorem tidemarkref04_WriteRows.mono : ∀ a0 k, LeO (tidemarkref04_WriteRows.f k a0) (tidemarkref04_WriteRows.f (k + 1) a0) := by
 intro a0 k; have ih0 := tidemarkref04_WriteRows.mono_l k; unfold tidemarkref04_WriteRows.f
 repeat' first
  | (with_reducible exact ih0 _ _ _)
  | (with_reducible exact tidemarkref01_Uint.mono _ _)
  | (with_reducible exact tidemarkref04_text.mono _ _)
  | (with_reducible exact LeO.refl _)
  | (with_reducible exact LeO.none _)
  | (with_reducible refine LeO.ite ?_ ?_)
  | (with_reducible refine LeO.bind ?_ (fun _ => ?_))
  | exact ih0 _ _ _
  | exact tidemarkref01_Uint.mono _ _
  | exact tidemarkref04_text.mono _ _
  | exact LeO.none _
  | refine LeO.ite ?_ ?_
  | refine LeO.bind ?_ (fun _ => ?_)
def tidemarkref04_WriteRows.T5 : Bool × List (List Nat × List Nat) := (true, [([], []), ([], []), ([], []), ([1, 2], [1, 2]), ([3], [3]), ([4], [4]), ([5], [5]), ([0, 6], [0, 6]), ([], []), ([], []), ([8, 9], [8, 9]), ([10], [10]), ([11], [11]), ([12], [12]), ([13, 6], [13]), ([7, 14], [7, 14]), ([], []), ([], []), ([16, 17], [16, 17]), ([18], [18]), ([19], [19]), ([20, 14], [20]), ([15, 21], [15, 21]), ([22, 21, 0, 1, 2, 3, 4, 5, 6, 7, 8, 9, 10, 11, 12, 13, 14, 15, 16, 17, 18, 19, 20, 21, 22], [0, 22])])
def tidemarkref04_WriteRows.B5 : List Nat := [0, 0, 0, 6, 14, 30, 62, 127, 0, 0, 768, 1792, 3840, 7936, 16254, 32767, 0, 0, 196608, 458752, 983040, 2064254, 4194303, 8388607]
theorem tidemarkref04_WriteRows.tab5 : rtab .any (opsOf Try.f25 5) = tidemarkref04_WriteRows.T5 := by kernel_rfl
theorem tidemarkref04_WriteRows.bits5 : waitsOk tidemarkref04_WriteRows.T5.2 tidemarkref04_WriteRows.B5 = true := by kernel_rfl
set_option maxHeartbeats 8000000 in
set_option maxRecDepth 100000 in
theorem tidemarkref04_WriteRows.calls (k : Nat) (A0 : Option Addr) (c0 : Nat) (l0 : List (S57)) (r : ByteArray) (w : World) (hr0 : Kd.C k57 w A0 l0.length l0) (hc0 : l0.length ≤ c0) (h : tidemarkref04_WriteRows.f k l0 = some r) :
 Calls Try.prog 25 #[.slice A0 l0.length c0] w fun e w' => e = .returned (.string r) ∧ Below w.heap.size w w' := by
 have hu28 := Try.underlying28; have HR0 := Aside0.mk hr0; have HC0 := Aside0.mk hc0; clear hr0 hc0; have HB := Aside0.mk (Below.refl w.heap.size w); have H : ((tidemarkref01_Uint.f k (IntKind.u64.wrap ((l0.length : Int)))).bind fun t228 => (tidemarkref04_WriteRows.l0 k l0 t228 0)) = some r := h; clear h; replace H := Option.bind_eq_some_iff.mp H; obtain ⟨t228, A20, H⟩ := H; replace H : (tidemarkref04_WriteRows.l0 k l0 t228 0) = some r := H; have A2 := Aside0.mk A20; clear A20; have H' := Aside0.mk H; clear H
 go_enter Try.func25, Try.ntmps25
 go_wp2_with (first | ((with_reducible refine gate_callee (f := 49) rfl ?_); refine goesL_ (some 8) rfl rfl Try.func49 (by kernel_rfl) rfl #[.int .u64 (IntKind.u64.wrap ((l0.length : Int)))] rfl q_0 ?_; (with_reducible refine (tidemarkref01_Uint.calls k (IntKind.u64.wrap ((l0.length : Int))) t228 _ A2.out).mono ?_); rintro e w3 ⟨rfl, hb⟩; refine ⟨_, rfl, ?_⟩; have n0_ := Aside0.mk (below_step q_1 hb); clear HB; have HB := n0_; clear n0_; (try clear hb); (try clear hb2); (try clear hk); (try clear hi)))
 go_loopg [3, 4] k (fun kq v3 v4 w' => ∃ (x3_1 : ByteArray) (x4_1 : Int), v3 = .string x3_1 ∧ v4 = .int .i64 x4_1 ∧ Aside0 (tidemarkref04_WriteRows.l0 kq l0 x3_1 x4_1 = some r) ∧ Aside0 (kq ≤ k) ∧ Aside0 (Below w.heap.size w w'))
 case atStart => exact ⟨(t228), (0), q_16, q_16, H', ⟨Nat.le_refl _⟩, ⟨by repeat (first | (with_reducible first | exact HB.out | apply below_alloc | apply pw_below_drewN | apply below_drew1) | exact HB.out)⟩⟩
 case round =>
  clear H'
  try clear c2
  try clear p2
  obtain ⟨x3_1, x4_1, rfl, rfl, HA, HK1, HB⟩ := hrel
  cases gk with
  | zero => exact absurd HA.out (by simp [tidemarkref04_WriteRows.l0])
  | succ k1 =>
    have H := HA.out; clear HA; simp only [tidemarkref04_WriteRows.l0] at H
    by_cases c4 : x4_1 < (l0.length : Int)
    · rw [if_pos c4] at H; have c4b0 : decide (x4_1 < (l0.length : Int)) = true := decide_eq_true c4; clear c4
      by_cases c5 : 0 ≤ x4_1
      · rw [if_pos c5] at H; have c5b0 : decide (0 ≤ x4_1) = true := decide_eq_true c5; clear c5; replace H := Option.bind_eq_some_iff.mp H; obtain ⟨t230, A60, H⟩ := H; replace H : (if x3_1.size + t230.size ≤ 9223372036854775807 then ((tidemarkref04_text.f k1 ((rd_T57 l0 x4_1).f0.f1)).bind fun t232 => (if (x3_1 ++ t230).size + t232.size ≤ 9223372036854775807 then ((tidemarkref04_text.f k1 ((rd_T57 l0 x4_1).f1)).bind fun t234 => (if ((x3_1 ++ t230) ++ t232).size + t234.size ≤ 9223372036854775807 then (tidemarkref04_WriteRows.l0 k1 l0 (((x3_1 ++ t230) ++ t232) ++ t234) (wrap64 (x4_1 + 1))) else (none))) else (none))) else (none)) = some r := H; have A6 := Aside0.mk A60; clear A60
        by_cases c7 : x3_1.size + t230.size ≤ 9223372036854775807
        · rw [if_pos c7] at H; have c7b0 := eq_true c7; have c7b1 : decide (x3_1.size + t230.size ≤ 9223372036854775807) = true := decide_eq_true c7
          try have c7b2 : (9223372036854775807 < x3_1.size + t230.size) = False := eq_false (Nat.not_lt.2 c7)
          try (have c7b3 := c7b2; simp only [ByteArray.size_append] at c7b3)
          replace H := Option.bind_eq_some_iff.mp H; obtain ⟨t232, A80, H⟩ := H; replace H : (if (x3_1 ++ t230).size + t232.size ≤ 9223372036854775807 then ((tidemarkref04_text.f k1 ((rd_T57 l0 x4_1).f1)).bind fun t234 => (if ((x3_1 ++ t230) ++ t232).size + t234.size ≤ 9223372036854775807 then (tidemarkref04_WriteRows.l0 k1 l0 (((x3_1 ++ t230) ++ t232) ++ t234) (wrap64 (x4_1 + 1))) else (none))) else (none)) = some r := H; have A8 := Aside0.mk A80; clear A80
          by_cases c9 : (x3_1 ++ t230).size + t232.size ≤ 9223372036854775807
          · rw [if_pos c9] at H; have c9b0 := eq_true c9; have c9b1 : decide ((x3_1 ++ t230).size + t232.size ≤ 9223372036854775807) = true := decide_eq_true c9
            try have c9b2 : (9223372036854775807 < (x3_1 ++ t230).size + t232.size) = False := eq_false (Nat.not_lt.2 c9)
            try (have c9b3 := c9b2; simp only [ByteArray.size_append] at c9b3)
            replace H := Option.bind_eq_some_iff.mp H; obtain ⟨t234, A100, H⟩ := H; replace H : (if ((x3_1 ++ t230) ++ t232).size + t234.size ≤ 9223372036854775807 then (tidemarkref04_WriteRows.l0 k1 l0 (((x3_1 ++ t230) ++ t232) ++ t234) (wrap64 (x4_1 + 1))) else (none)) = some r := H; have A10 := Aside0.mk A100; clear A100
            by_cases c11 : ((x3_1 ++ t230) ++ t232).size + t234.size ≤ 9223372036854775807
            · rw [if_pos c11] at H; have c11b0 := eq_true c11; have c11b1 : decide (((x3_1 ++ t230) ++ t232).size + t234.size ≤ 9223372036854775807) = true := decide_eq_true c11
              try have c11b2 : (9223372036854775807 < ((x3_1 ++ t230) ++ t232).size + t234.size) = False := eq_false (Nat.not_lt.2 c11)
              try (have c11b3 := c11b2; simp only [ByteArray.size_append] at c11b3)
              have H' := Aside0.mk H; clear H
              try go_wp2
              have n0_ := Aside0.mk (below_drew1 HB.out); clear HB; have HB := n0_; clear n0_; have p229 : 0 ≤ (x4_1 : Int) := of_decide_eq_true q_2; have q229 : x4_1 < (l0.length : Int) := of_decide_eq_true q_2; obtain ⟨ad229, e229, hx229_0, hx229_1, hx229_2⟩ := at_T57 HR0.out x4_1 p229 q229; have hw229_2 := hx229_2; have hw229_1 := hx229_1; have hw229_0 := hx229_0
              cases e229
              replace hx229_0 := (HB.out.cell (World.block_lt_of_cell? w _ hx229_0)).trans hx229_0; replace hx229_1 := (HB.out.cell (World.block_lt_of_cell? w _ hx229_1)).trans hx229_1; replace hx229_2 := (HB.out.cell (World.block_lt_of_cell? w _ hx229_2)).trans hx229_2; replace p229 := eq_true p229; replace q229 := eq_true q229; have p231 : 0 ≤ (x4_1 : Int) := of_decide_eq_true q_2; have q231 : x4_1 < (l0.length : Int) := of_decide_eq_true q_2; obtain ⟨ad231, e231, hx231_0, hx231_1, hx231_2⟩ := at_T57 HR0.out x4_1 p231 q231; have hw231_2 := hx231_2; have hw231_1 := hx231_1; have hw231_0 := hx231_0; obtain rfl : ad229 = ad231 := (by injection e231); replace hx231_0 := (HB.out.cell (World.block_lt_of_cell? w _ hx231_0)).trans hx231_0; replace hx231_1 := (HB.out.cell (World.block_lt_of_cell? w _ hx231_1)).trans hx231_1; replace hx231_2 := (HB.out.cell (World.block_lt_of_cell? w _ hx231_2)).trans hx231_2; replace p231 := eq_true p231; replace q231 := eq_true q231; have p233 : 0 ≤ (x4_1 : Int) := of_decide_eq_true q_2; have q233 : x4_1 < (l0.length : Int) := of_decide_eq_true q_2; obtain ⟨ad233, e233, hx233_0, hx233_1, hx233_2⟩ := at_T57 HR0.out x4_1 p233 q233; have hw233_2 := hx233_2; have hw233_1 := hx233_1; have hw233_0 := hx233_0; obtain rfl : ad229 = ad233 := (by injection e233); replace hx233_0 := (HB.out.cell (World.block_lt_of_cell? w _ hx233_0)).trans hx233_0; replace hx233_1 := (HB.out.cell (World.block_lt_of_cell? w _ hx233_1)).trans hx233_1; replace hx233_2 := (HB.out.cell (World.block_lt_of_cell? w _ hx233_2)).trans hx233_2; replace p233 := eq_true p233; replace q233 := eq_true q233; refine start_ (n := 24) (S := fun w' => w'.cell? (ad229.add ((x4_1).toNat * 3)) = some (.int .u8 ((rd_T57 l0 x4_1).f0.f0)) ∧ w'.cell? ⟨(ad229.add ((x4_1).toNat * 3)).block, (ad229.add ((x4_1).toNat * 3)).off + 1, none⟩ = some (.string ((rd_T57 l0 x4_1).f0.f1)) ∧ w'.cell? ⟨(ad229.add ((x4_1).toNat * 3)).block, (ad229.add ((x4_1).toNat * 3)).off + 2, none⟩ = some (.string ((rd_T57 l0 x4_1).f1)) ∧ w'.cell? (ad229.add ((x4_1).toNat * 3)) = some (.int .u8 ((rd_T57 l0 x4_1).f0.f0)) ∧ w'.cell? ⟨(ad229.add ((x4_1).toNat * 3)).block, (ad229.add ((x4_1).toNat * 3)).off + 1, none⟩ = some (.string ((rd_T57 l0 x4_1).f0.f1)) ∧ w'.cell? ⟨(ad229.add ((x4_1).toNat * 3)).block, (ad229.add ((x4_1).toNat * 3)).off + 2, none⟩ = some (.string ((rd_T57 l0 x4_1).f1)) ∧ w'.cell? (ad229.add ((x4_1).toNat * 3)) = some (.int .u8 ((rd_T57 l0 x4_1).f0.f0)) ∧ w'.cell? ⟨(ad229.add ((x4_1).toNat * 3)).block, (ad229.add ((x4_1).toNat * 3)).off + 1, none⟩ = some (.string ((rd_T57 l0 x4_1).f0.f1)) ∧ w'.cell? ⟨(ad229.add ((x4_1).toNat * 3)).block, (ad229.add ((x4_1).toNat * 3)).off + 2, none⟩ = some (.string ((rd_T57 l0 x4_1).f1))) (ds := []) #[false, false, false, false, false, false, false, false, false, false, false, false, false, false, false, false, false, false, false, false, false, false, false, false] (by kernel_rfl) rfl rfl ⟨(by first | exact ((HB.out.cell (World.block_lt_of_cell? w _ hw229_0)).trans hw229_0) | exact hx229_0 | (have h_ := ((HB.out.cell (World.block_lt_of_cell? w _ hw229_0)).trans hw229_0); simp only [*] at h_; exact h_)), (by first | exact ((HB.out.cell (World.block_lt_of_cell? w _ hw229_1)).trans hw229_1) | exact hx229_1 | (have h_ := ((HB.out.cell (World.block_lt_of_cell? w _ hw229_1)).trans hw229_1); simp only [*] at h_; exact h_)), (by first | exact ((HB.out.cell (World.block_lt_of_cell? w _ hw229_2)).trans hw229_2) | exact hx229_2 | (have h_ := ((HB.out.cell (World.block_lt_of_cell? w _ hw229_2)).trans hw229_2); simp only [*] at h_; exact h_)), (by first | exact ((HB.out.cell (World.block_lt_of_cell? w _ hw231_0)).trans hw231_0) | exact hx231_0 | (have h_ := ((HB.out.cell (World.block_lt_of_cell? w _ hw231_0)).trans hw231_0); simp only [*] at h_; exact h_)), (by first | exact ((HB.out.cell (World.block_lt_of_cell? w _ hw231_1)).trans hw231_1) | exact hx231_1 | (have h_ := ((HB.out.cell (World.block_lt_of_cell? w _ hw231_1)).trans hw231_1); simp only [*] at h_; exact h_)), (by first | exact ((HB.out.cell (World.block_lt_of_cell? w _ hw231_2)).trans hw231_2) | exact hx231_2 | (have h_ := ((HB.out.cell (World.block_lt_of_cell? w _ hw231_2)).trans hw231_2); simp only [*] at h_; exact h_)), (by first | exact ((HB.out.cell (World.block_lt_of_cell? w _ hw233_0)).trans hw233_0) | exact hx233_0 | (have h_ := ((HB.out.cell (World.block_lt_of_cell? w _ hw233_0)).trans hw233_0); simp only [*] at h_; exact h_)), (by first | exact ((HB.out.cell (World.block_lt_of_cell? w _ hw233_1)).trans hw233_1) | exact hx233_1 | (have h_ := ((HB.out.cell (World.block_lt_of_cell? w _ hw233_1)).trans hw233_1); simp only [*] at h_; exact h_)), (by first | exact ((HB.out.cell (World.block_lt_of_cell? w _ hw233_2)).trans hw233_2) | exact hx233_2 | (have h_ := ((HB.out.cell (World.block_lt_of_cell? w _ hw233_2)).trans hw233_2); simp only [*] at h_; exact h_))⟩ (fun hHeld => ?_); refine with_tabW tidemarkref04_WriteRows.tab5 tidemarkref04_WriteRows.bits5 (fun HT_ HW_ => ?_)
              generalize wr.drew = w12 at HB hx229_0 hx229_1 hx229_2 hx231_0 hx231_1 hx231_2 hx233_0 hx233_1 hx233_2 hHeld ⊢; refine pj 0 (some 15) ?_; refine pj 1 (some 16) ?_; refine pj 2 (some 17) ?_; refine pj 3 (some 18) ?_; refine pj 4 (some 19) ?_; refine pj 8 (some 23) ?_; refine pj 9 (some 24) ?_; refine pj 10 (some 25) ?_; refine pj 11 (some 26) ?_; refine pj 12 (some 27) ?_; refine pj 16 (some 31) ?_; refine pj 17 (some 32) ?_; refine pj 18 (some 33) ?_; refine pj 19 (some 34) ?_; refine qj 5 (some 20) rfl rfl (by rintro w' ⟨s0, s1, s2, s3, s4, s5, s6, s7, s8⟩; go_simp; with_reducible rfl) ?_; refine qj 13 (some 28) rfl rfl (by rintro w' ⟨s0, s1, s2, s3, s4, s5, s6, s7, s8⟩; go_simp; with_reducible rfl) ?_; refine qj 20 (some 35) rfl rfl (by rintro w' ⟨s0, s1, s2, s3, s4, s5, s6, s7, s8⟩; go_simp; with_reducible rfl) ?_; refine one_ (i := 6) (N := some 21) #[true, true, true, true, true, true, true, false, true, true, true, true, true, true, false, false, true, true, true, true, true, false, false, false] rfl rfl (one_of HT_.out (by kernel_rfl)) (by decide) (fun K hK => ?_); refine goes_ Try.func50 (by kernel_rfl) rfl #[.agg #[.int .u8 ((rd_T57 l0 x4_1).f0.f0), .string ((rd_T57 l0 x4_1).f0.f1)]] (by rfl) rfl rfl q_0 ?_; (with_reducible refine (tidemarkref04_table.calls ((rd_T57 l0 x4_1).f0.f0) ((rd_T57 l0 x4_1).f0.f1) t230 _ A6.out).mono ?_); rintro e w13 ⟨rfl, hb⟩; refine ⟨_, rfl, ?_⟩; have n0_ := Aside0.mk (below_step q_1 hb); clear HB; have HB := n0_; clear n0_
              (try clear hb)
              (try clear hb2)
              (try clear hk)
              (try clear hi)
              refine hK.out _ _ ⟨(by first | exact ((HB.out.cell (World.block_lt_of_cell? w _ hw229_0)).trans hw229_0) | exact hx229_0 | (have h_ := ((HB.out.cell (World.block_lt_of_cell? w _ hw229_0)).trans hw229_0); simp only [*] at h_; exact h_)), (by first | exact ((HB.out.cell (World.block_lt_of_cell? w _ hw229_1)).trans hw229_1) | exact hx229_1 | (have h_ := ((HB.out.cell (World.block_lt_of_cell? w _ hw229_1)).trans hw229_1); simp only [*] at h_; exact h_)), (by first | exact ((HB.out.cell (World.block_lt_of_cell? w _ hw229_2)).trans hw229_2) | exact hx229_2 | (have h_ := ((HB.out.cell (World.block_lt_of_cell? w _ hw229_2)).trans hw229_2); simp only [*] at h_; exact h_)), (by first | exact ((HB.out.cell (World.block_lt_of_cell? w _ hw231_0)).trans hw231_0) | exact hx231_0 | (have h_ := ((HB.out.cell (World.block_lt_of_cell? w _ hw231_0)).trans hw231_0); simp only [*] at h_; exact h_)), (by first | exact ((HB.out.cell (World.block_lt_of_cell? w _ hw231_1)).trans hw231_1) | exact hx231_1 | (have h_ := ((HB.out.cell (World.block_lt_of_cell? w _ hw231_1)).trans hw231_1); simp only [*] at h_; exact h_)), (by first | exact ((HB.out.cell (World.block_lt_of_cell? w _ hw231_2)).trans hw231_2) | exact hx231_2 | (have h_ := ((HB.out.cell (World.block_lt_of_cell? w _ hw231_2)).trans hw231_2); simp only [*] at h_; exact h_)), (by first | exact ((HB.out.cell (World.block_lt_of_cell? w _ hw233_0)).trans hw233_0) | exact hx233_0 | (have h_ := ((HB.out.cell (World.block_lt_of_cell? w _ hw233_0)).trans hw233_0); simp only [*] at h_; exact h_)), (by first | exact ((HB.out.cell (World.block_lt_of_cell? w _ hw233_1)).trans hw233_1) | exact hx233_1 | (have h_ := ((HB.out.cell (World.block_lt_of_cell? w _ hw233_1)).trans hw233_1); simp only [*] at h_; exact h_)), (by first | exact ((HB.out.cell (World.block_lt_of_cell? w _ hw233_2)).trans hw233_2) | exact hx233_2 | (have h_ := ((HB.out.cell (World.block_lt_of_cell? w _ hw233_2)).trans hw233_2); simp only [*] at h_; exact h_))⟩ (fun hHeld => ?_); clear hK K; refine norm_ (a' := ?_) ?_ ?_; rotate_left
              · show Act.put _ (some 21) _ = _
                simp only [Act.put, List.setIfInBounds_toArray, List.set_cons_zero, List.set_cons_succ, i64_w, i32_w]; rfl
              refine pj 7 (some 22) ?_; refine one_ (i := 14) (N := some 29) #[true, true, true, true, true, true, true, true, true, true, true, true, true, true, true, false, true, true, true, true, true, false, false, false] rfl rfl (one_of HT_.out (by kernel_rfl)) (by decide) (fun K hK => ?_); refine goes_ Try.func51 (by kernel_rfl) rfl #[.string ((rd_T57 l0 x4_1).f0.f1)] (by rfl) rfl rfl q_0 ?_; (with_reducible refine (tidemarkref04_text.calls k1 ((rd_T57 l0 x4_1).f0.f1) t232 _ A8.out).mono ?_); rintro e w14 ⟨rfl, hb⟩; refine ⟨_, rfl, ?_⟩; have n0_ := Aside0.mk (below_step q_1 hb); clear HB; have HB := n0_; clear n0_
              (try clear hb)
              (try clear hb2)
              (try clear hk)
              (try clear hi)
              refine hK.out _ _ ⟨(by first | exact ((HB.out.cell (World.block_lt_of_cell? w _ hw229_0)).trans hw229_0) | exact hx229_0 | (have h_ := ((HB.out.cell (World.block_lt_of_cell? w _ hw229_0)).trans hw229_0); simp only [*] at h_; exact h_)), (by first | exact ((HB.out.cell (World.block_lt_of_cell? w _ hw229_1)).trans hw229_1) | exact hx229_1 | (have h_ := ((HB.out.cell (World.block_lt_of_cell? w _ hw229_1)).trans hw229_1); simp only [*] at h_; exact h_)), (by first | exact ((HB.out.cell (World.block_lt_of_cell? w _ hw229_2)).trans hw229_2) | exact hx229_2 | (have h_ := ((HB.out.cell (World.block_lt_of_cell? w _ hw229_2)).trans hw229_2); simp only [*] at h_; exact h_)), (by first | exact ((HB.out.cell (World.block_lt_of_cell? w _ hw231_0)).trans hw231_0) | exact hx231_0 | (have h_ := ((HB.out.cell (World.block_lt_of_cell? w _ hw231_0)).trans hw231_0); simp only [*] at h_; exact h_)), (by first | exact ((HB.out.cell (World.block_lt_of_cell? w _ hw231_1)).trans hw231_1) | exact hx231_1 | (have h_ := ((HB.out.cell (World.block_lt_of_cell? w _ hw231_1)).trans hw231_1); simp only [*] at h_; exact h_)), (by first | exact ((HB.out.cell (World.block_lt_of_cell? w _ hw231_2)).trans hw231_2) | exact hx231_2 | (have h_ := ((HB.out.cell (World.block_lt_of_cell? w _ hw231_2)).trans hw231_2); simp only [*] at h_; exact h_)), (by first | exact ((HB.out.cell (World.block_lt_of_cell? w _ hw233_0)).trans hw233_0) | exact hx233_0 | (have h_ := ((HB.out.cell (World.block_lt_of_cell? w _ hw233_0)).trans hw233_0); simp only [*] at h_; exact h_)), (by first | exact ((HB.out.cell (World.block_lt_of_cell? w _ hw233_1)).trans hw233_1) | exact hx233_1 | (have h_ := ((HB.out.cell (World.block_lt_of_cell? w _ hw233_1)).trans hw233_1); simp only [*] at h_; exact h_)), (by first | exact ((HB.out.cell (World.block_lt_of_cell? w _ hw233_2)).trans hw233_2) | exact hx233_2 | (have h_ := ((HB.out.cell (World.block_lt_of_cell? w _ hw233_2)).trans hw233_2); simp only [*] at h_; exact h_))⟩ (fun hHeld => ?_); clear hK K; refine norm_ (a' := ?_) ?_ ?_; rotate_left
              · show Act.put _ (some 29) _ = _
                simp only [Act.put, List.setIfInBounds_toArray, List.set_cons_zero, List.set_cons_succ, i64_w, i32_w]; rfl
              refine pj 15 (some 30) ?_; refine one_ (i := 21) (N := some 36) #[true, true, true, true, true, true, true, true, true, true, true, true, true, true, true, true, true, true, true, true, true, true, false, false] rfl rfl (one_of HT_.out (by kernel_rfl)) (by decide) (fun K hK => ?_); refine goes_ Try.func51 (by kernel_rfl) rfl #[.string ((rd_T57 l0 x4_1).f1)] (by rfl) rfl rfl q_0 ?_; (with_reducible refine (tidemarkref04_text.calls k1 ((rd_T57 l0 x4_1).f1) t234 _ A10.out).mono ?_); rintro e w15 ⟨rfl, hb⟩; refine ⟨_, rfl, ?_⟩; have n0_ := Aside0.mk (below_step q_1 hb); clear HB; have HB := n0_; clear n0_
              (try clear hb)
              (try clear hb2)
              (try clear hk)
              (try clear hi)
              refine hK.out _ _ ⟨(by first | exact ((HB.out.cell (World.block_lt_of_cell? w _ hw229_0)).trans hw229_0) | exact hx229_0 | (have h_ := ((HB.out.cell (World.block_lt_of_cell? w _ hw229_0)).trans hw229_0); simp only [*] at h_; exact h_)), (by first | exact ((HB.out.cell (World.block_lt_of_cell? w _ hw229_1)).trans hw229_1) | exact hx229_1 | (have h_ := ((HB.out.cell (World.block_lt_of_cell? w _ hw229_1)).trans hw229_1); simp only [*] at h_; exact h_)), (by first | exact ((HB.out.cell (World.block_lt_of_cell? w _ hw229_2)).trans hw229_2) | exact hx229_2 | (have h_ := ((HB.out.cell (World.block_lt_of_cell? w _ hw229_2)).trans hw229_2); simp only [*] at h_; exact h_)), (by first | exact ((HB.out.cell (World.block_lt_of_cell? w _ hw231_0)).trans hw231_0) | exact hx231_0 | (have h_ := ((HB.out.cell (World.block_lt_of_cell? w _ hw231_0)).trans hw231_0); simp only [*] at h_; exact h_)), (by first | exact ((HB.out.cell (World.block_lt_of_cell? w _ hw231_1)).trans hw231_1) | exact hx231_1 | (have h_ := ((HB.out.cell (World.block_lt_of_cell? w _ hw231_1)).trans hw231_1); simp only [*] at h_; exact h_)), (by first | exact ((HB.out.cell (World.block_lt_of_cell? w _ hw231_2)).trans hw231_2) | exact hx231_2 | (have h_ := ((HB.out.cell (World.block_lt_of_cell? w _ hw231_2)).trans hw231_2); simp only [*] at h_; exact h_)), (by first | exact ((HB.out.cell (World.block_lt_of_cell? w _ hw233_0)).trans hw233_0) | exact hx233_0 | (have h_ := ((HB.out.cell (World.block_lt_of_cell? w _ hw233_0)).trans hw233_0); simp only [*] at h_; exact h_)), (by first | exact ((HB.out.cell (World.block_lt_of_cell? w _ hw233_1)).trans hw233_1) | exact hx233_1 | (have h_ := ((HB.out.cell (World.block_lt_of_cell? w _ hw233_1)).trans hw233_1); simp only [*] at h_; exact h_)), (by first | exact ((HB.out.cell (World.block_lt_of_cell? w _ hw233_2)).trans hw233_2) | exact hx233_2 | (have h_ := ((HB.out.cell (World.block_lt_of_cell? w _ hw233_2)).trans hw233_2); simp only [*] at h_; exact h_))⟩ (fun hHeld => ?_); clear hK K; refine norm_ (a' := ?_) ?_ ?_; rotate_left
              · show Act.put _ (some 36) _ = _
                simp only [Act.put, List.setIfInBounds_toArray, List.set_cons_zero, List.set_cons_succ, i64_w, i32_w]; rfl
              refine pj 22 (some 37) ?_; refine pj 23 (some 3) ?_; refine done_ (done_of HT_.out (by kernel_rfl)) ?_
              try go_wp2
              go_roundg k1
              case measure => have := HK1.out; omega
              case rel => exact ⟨(((x3_1 ++ t230) ++ t232) ++ t234), (wrap64 (x4_1 + 1)), q_16, q_16, H', ⟨by have := HK1.out; omega⟩, ⟨by repeat (first | (with_reducible first | exact HB.out | apply below_alloc | apply pw_below_drewN | apply below_drew1) | exact HB.out)⟩⟩
            · rw [if_neg c11] at H; exact absurd H (by simp)
          · rw [if_neg c9] at H; exact absurd H (by simp)
        · rw [if_neg c7] at H; exact absurd H (by simp)
      · rw [if_neg c5] at H; exact absurd H (by simp)
    · rw [if_neg c4] at H; have c4b0 : decide (x4_1 < (l0.length : Int)) = false := decide_eq_false c4; clear c4; obtain rfl := Option.some.inj H
      go_wp2
      go_ret
      exact ⟨by first | rfl | (simp [errW_none, errW_some] <;> rfl) | (simp [*, errW_none, errW_some] <;> rfl), by repeat (first | (with_reducible first | exact HB.out | apply below_alloc | apply pw_below_drewN | apply below_drew1) | exact HB.out)⟩
end Go.Proofs.Ytgmdoapedhppmaa.PC
/- The document's answer, plain: what it says may be, and the bytes that it writes, are those of HCode2. -/
namespace Go.Proofs.Ytgmdoapedhppmaa.Code
set_option linter.unusedVariables false
set_option linter.unusedSimpArgs false
open Go.RowKit Go.Proofs.Ytgmdoapedhppmaa.PC Go.Proofs.Ytgmdoapedhppmaa.B Go.Proofs.Ytgmdoapedhppmaa.Pure Go.Proofs.YtgmdoapedhppmaaW.PrintWords Go.Proofs.YtgmdoapedhppmaaW.PrintLast Go.Proofs.YtgmdoapedhppmaaW.PrintMore
theorem strs_app (xs ys : List Int) : strOfNums (xs ++ ys) = strOfNums xs ++ strOfNums ys := by
 apply ByteArray.ext; simp [strOfNums]
theorem uint_f (n : Nat) : ∀ (k d : Nat), n < 128 ^ (d + 1) → d ≤ 9 → d < k → n < 18446744073709551616 → tidemarkref01_Uint.f k (n : Int) = some (strOfNums (puts n)) := by
 induction n using Nat.strongRecOn with
 | _ n ih =>
   intro k d hd h9 hk hn; obtain ⟨k, rfl⟩ : ∃ m, k = m + 1 := ⟨k - 1, by omega⟩; simp only [tidemarkref01_Uint.f]
   by_cases h : n < 128
   · rw [if_pos (by omega), puts_lo h, show (n : Int) % 256 = n by omega]
   · rw [if_neg (by omega)]
     obtain ⟨e, rfl⟩ : ∃ e, d = e + 1 := ⟨d - 1, by
      cases d with
      | zero => simp at hd; omega
      | succ d => rfl⟩
     have e1 : IntKind.u64.wrap (Int.tdiv (n : Int) 128) = ((n / 128 : Nat) : Int) := by rw [Int.tdiv_eq_ediv_of_nonneg (by omega), IntKind.wrap_u64]; omega
     have e2 : (IntKind.u64.wrap (Int.tmod (n : Int) 128 + 128)) % 256 = ((n % 128 + 128 : Nat) : Int) := by rw [Int.tmod_eq_emod_of_nonneg (by omega), IntKind.wrap_u64]; omega
     have hlt : n / 128 < 128 ^ (e + 1) := by rw [Nat.pow_succ] at hd; exact Nat.div_lt_of_lt_mul (by rw [Nat.mul_comm]; exact hd)
     rw [e1, e2, ih (n / 128) (by omega) k e hlt (by omega) (by omega) (by omega)]; simp only [Option.bind_some]; have hl := puts_le e (n / 128) hlt; rw [if_pos (by rw [strOfNums_size, strOfNums_size]; simp only [List.length_cons, List.length_nil]; omega), puts_hi h, ← strs_app]; rfl
theorem uint_k (k : Nat) (hk : 10 ≤ k) (n : Nat) (hn : n < 18446744073709551616) : tidemarkref01_Uint.f k (n : Int) = some (strOfNums (puts n)) := uint_f n k 9 (by have := pow10; omega) (by decide) (by omega) hn
theorem refLess_f (a b : S28) : tidemarkref04_Less.f a.f0 a.f1 b.f0 b.f1 = some (lessB a b) := by
 unfold tidemarkref04_Less.f lessB
 by_cases h : a.f0 < b.f0
 · simp [h]
 · by_cases h2 : a.f0 = b.f0
   · simp [h2]
   · simp [h, h2]
theorem refKey_f (a : S28) (h : 0 ≤ a.f0) : ∃ r, tidemarkref04_Key.f a.f0 a.f1 = some r ∧ (r = true ↔ GKey a) := by
 unfold tidemarkref04_Key.f
 by_cases h1 : a.f0 < 8
 · by_cases h2 : (a.f1.size : Int) ≥ 1
   · refine ⟨decide ((a.f1.size : Int) ≤ 64), by rw [if_pos h1, if_pos h2], ?_⟩; rw [decide_eq_true_eq]; exact ⟨fun h3 => ⟨h, h1, by omega, by omega⟩, fun g => by have := g.most; omega⟩
   · exact ⟨false, by rw [if_pos h1, if_neg h2], fun h => (by cases h), fun g => by have := g.pos; omega⟩
 · exact ⟨false, by rw [if_neg h1], fun h => (by cases h), fun g => absurd g.hi h1⟩
theorem wrap_pred (i : Nat) (h : i < 1000000) (h0 : 0 < i) : wrap64 ((i : Int) - 1) = ((i - 1 : Nat) : Int) := by unfold wrap64; omega
def prevC (cs : List S50) (i : Nat) : S28 := if i = 0 then key0 else (rd_T50 cs ((i - 1 : Nat) : Int)).f0
theorem prevC_succ (cs : List S50) (i : Nat) : prevC cs (i + 1) = (rd_T50 cs (i : Int)).f0 := by unfold prevC; rw [if_neg (by omega)]; rfl
theorem refChanges_l0 (cs : List S50) (hw : ∀ c ∈ cs, 0 ≤ c.f0.f0) (hlen : cs.length ≤ 100000) : ∀ (d i : Nat), i + d = cs.length →
 ∃ r, (∀ k, tidemarkref04_changes.l0 (k + d + 1) cs (i : Int) = some r) ∧ (r = true ↔ GChanges (prevC cs i) (cs.drop i) ∧ 1 ≤ cs.length ∧ cs.length ≤ 32) := by
 intro d
 induction d with
 | zero =>
   intro i hi; have hd : cs.drop i = [] := List.drop_of_length_le (by omega)
   by_cases h1 : (cs.length : Int) ≥ 1
   · refine ⟨decide ((cs.length : Int) ≤ 32), fun k => ?_, ?_⟩
     · simp only [tidemarkref04_changes.l0]; rw [if_neg (by omega), if_pos h1]
     · rw [decide_eq_true_eq, hd]; exact ⟨fun h => ⟨trivial, by omega, by omega⟩, fun h => by omega⟩
   · refine ⟨false, fun k => ?_, fun h => (by cases h), fun h => by omega⟩; simp only [tidemarkref04_changes.l0]; rw [if_neg (by omega), if_neg h1]
 | succ d ih =>
   intro i hi; obtain ⟨r, h1, h2⟩ := ih (i + 1) (by omega); have hd := rd50_drop cs i (by omega); have hm : rd_T50 cs (i : Int) ∈ cs := List.mem_of_mem_drop (i := i) (by rw [hd]; exact List.mem_cons_self); obtain ⟨q, hq, hq2⟩ := refKey_f (rd_T50 cs (i : Int)).f0 (hw _ hm); have hws := wrap_succ i (by omega); rw [prevC_succ] at h2
   have G : GChanges (prevC cs i) (cs.drop i) ↔ lessB (prevC cs i) (rd_T50 cs (i : Int)).f0 = true ∧ GChange (rd_T50 cs (i : Int)) ∧ GChanges (rd_T50 cs (i : Int)).f0 (cs.drop (i + 1)) := by rw [hd]; exact Iff.rfl
   -- what is asked of this one
   have step : ∀ k, tidemarkref04_changes.l0 (k + (d + 1) + 1) cs (i : Int) = if q = true ∧ lessB (prevC cs i) (rd_T50 cs (i : Int)).f0 = true ∧ (rd_T50 cs (i : Int)).f2.size ≤ 256 ∧ ((rd_T50 cs (i : Int)).f1 = true → (rd_T50 cs (i : Int)).f2.size = 0) then some r else some false := by
    intro k; rw [show k + (d + 1) + 1 = (k + d + 1) + 1 by omega, ← h1 k]; obtain ⟨K, hK⟩ : ∃ K, K = k + d + 1 := ⟨_, rfl⟩; rw [← hK]; simp only [tidemarkref04_changes.l0]; rw [if_pos (show (i : Int) < (cs.length : Int) by omega), if_pos (show (0 : Int) ≤ (i : Int) by omega), hq, hws]; simp only [Option.bind_some]
    have tail : ∀ (c : S50) (X : Option Bool), (if ((c.f2.size : Int)) > 256 then (some false) else (if c.f1 = true then (if c.f2.toList = ([] : List UInt8) then X else (some false)) else X)) = if c.f2.size ≤ 256 ∧ (c.f1 = true → c.f2.size = 0) then X else some false := by
     intro c X
     by_cases a : c.f2.size ≤ 256
     · rw [if_neg (by omega)]
       by_cases b : c.f1 = true
       · rw [if_pos b]
         by_cases e : c.f2.size = 0
         · rw [if_pos ((str_nil _).2 e), if_pos ⟨a, fun _ => e⟩]
         · rw [if_neg (fun h => e ((str_nil _).1 h)), if_neg (fun h => e (h.2 b))]
       · rw [if_neg b, if_pos ⟨a, fun h => absurd h b⟩]
     · rw [if_pos (by omega), if_neg (fun h => a h.1)]
    by_cases hi0 : i = 0
    · subst hi0; rw [if_pos (by rfl), tail]; have hp : prevC cs 0 = key0 := rfl; rw [hp]
      by_cases b : q = true
      · have hl := less_key0 _ (hq2.1 b); rw [if_pos b]
        by_cases a : (rd_T50 cs ((0 : Nat) : Int)).f2.size ≤ 256 ∧ ((rd_T50 cs ((0 : Nat) : Int)).f1 = true → (rd_T50 cs ((0 : Nat) : Int)).f2.size = 0)
        · rw [if_pos a, if_pos ⟨b, hl, a.1, a.2⟩]
        · rw [if_neg a, if_neg (fun h => a ⟨h.2.2.1, h.2.2.2⟩)]
      · rw [if_neg b, if_neg (fun h => b h.1)]
    · rw [if_neg (by omega), wrap_pred i (by omega) (by omega), if_pos (by omega), if_pos (by omega), refLess_f]; simp only [Option.bind_some]; rw [tail]
      have hp : prevC cs i = (rd_T50 cs ((i - 1 : Nat) : Int)).f0 := by unfold prevC; rw [if_neg hi0]
      rw [hp]
      by_cases b : q = true
      · rw [if_pos b]
        by_cases e : lessB (rd_T50 cs ((i - 1 : Nat) : Int)).f0 (rd_T50 cs (i : Int)).f0 = true
        · rw [if_pos e]
          by_cases a : (rd_T50 cs (i : Int)).f2.size ≤ 256 ∧ ((rd_T50 cs (i : Int)).f1 = true → (rd_T50 cs (i : Int)).f2.size = 0)
          · rw [if_pos a, if_pos ⟨b, e, a.1, a.2⟩]
          · rw [if_neg a, if_neg (fun h => a ⟨h.2.2.1, h.2.2.2⟩)]
        · rw [if_neg e, if_neg (fun h => e h.2.1)]
      · rw [if_neg b, if_neg (fun h => b h.1)]
   by_cases hc : q = true ∧ lessB (prevC cs i) (rd_T50 cs (i : Int)).f0 = true ∧ (rd_T50 cs (i : Int)).f2.size ≤ 256 ∧ ((rd_T50 cs (i : Int)).f1 = true → (rd_T50 cs (i : Int)).f2.size = 0)
   · refine ⟨r, fun k => by rw [step k, if_pos hc], ?_⟩; rw [h2, G]; obtain ⟨c1, c2, c3, c4⟩ := hc; exact ⟨fun ⟨a, b⟩ => ⟨⟨c2, ⟨hq2.1 c1, c3, c4⟩, a⟩, b⟩, fun ⟨a, b⟩ => ⟨a.2.2, b⟩⟩
   · refine ⟨false, fun k => by rw [step k, if_neg hc], fun h => (by cases h), fun ⟨a, _⟩ => ?_⟩; obtain ⟨a1, a2, _⟩ := G.1 a; exact absurd ⟨hq2.2 a2.key, a1, a2.most, a2.gone⟩ hc
theorem refChanges_f (cs : List S50) (hw : ∀ c ∈ cs, 0 ≤ c.f0.f0) (hlen : cs.length ≤ 100000) : ∃ r, (∀ k, cs.length + 1 ≤ k → tidemarkref04_changes.f k cs = some r) ∧ (r = true ↔ GChanges key0 cs ∧ 1 ≤ cs.length ∧ cs.length ≤ 32) := by
 obtain ⟨r, h1, h2⟩ := refChanges_l0 cs hw hlen cs.length 0 (by omega); refine ⟨r, fun k hk => ?_, h2⟩; have := h1 (k - cs.length - 1); rw [show k - cs.length - 1 + cs.length + 1 = k by omega] at this; exact this
def prevT (N : Int) (l : List S47) (i : Nat) : Int := if i = 0 then -1 else (rd_T47 l ((i - 1 : Nat) : Int)).f0 - N * 4294967296
theorem refRight_l0 (N : Int) (l : List S47) (hW : WEpoch N l) (hlen : l.length ≤ 100000) (hcl : ∀ t ∈ l, t.f1.length ≤ 100000) : ∀ (d i : Nat), i + d = l.length →
 ∃ r, (∀ k, tidemarkref04_Right.l0 (k + 100002 + d) (i : Int) N l = some r) ∧ (r = 0 ∨ r = 1) ∧ (r = 0 ↔ GTxns N (prevT N l i) (l.drop i)) := by
 intro d
 induction d with
 | zero =>
   intro i hi; have hd : l.drop i = [] := List.drop_of_length_le (by omega); refine ⟨0, fun k => ?_, .inl rfl, by rw [hd]; exact ⟨fun _ => trivial, fun _ => rfl⟩⟩; obtain ⟨K, hK⟩ : ∃ K, K = k + 100001 := ⟨_, rfl⟩; rw [show k + 100002 + 0 = K + 1 by omega]; simp only [tidemarkref04_Right.l0]; rw [if_neg (by omega)]
 | succ d ih =>
   intro i hi; obtain ⟨r, h1, h0, h2⟩ := ih (i + 1) (by omega); have hd := rd47_drop l i (by omega); have hm : rd_T47 l (i : Int) ∈ l := List.mem_of_mem_drop (i := i) (by rw [hd]; exact List.mem_cons_self); have hwt := hW.all _ hm; obtain ⟨q, hq, hq2⟩ := refChanges_f (rd_T47 l (i : Int)).f1 hwt.all (hcl _ hm); have hws := wrap_succ i (by omega); have hN := hW.hi; have hN0 := hW.lo; have t0 := hwt.lo; have t1 := hwt.hi
   have hp : prevT N l (i + 1) = (rd_T47 l (i : Int)).f0 - N * 4294967296 := by unfold prevT; rw [if_neg (by omega)]; rfl
   rw [hp] at h2
   have G : GTxns N (prevT N l i) (l.drop i) ↔ prevT N l i < (rd_T47 l (i : Int)).f0 - N * 4294967296 ∧ GTxn N (rd_T47 l (i : Int)) ∧ GTxns N ((rd_T47 l (i : Int)).f0 - N * 4294967296) (l.drop (i + 1)) := by rw [hd]; exact Iff.rfl
   have step : ∀ k, tidemarkref04_Right.l0 (k + 100002 + (d + 1)) (i : Int) N l = if q = true ∧ (rd_T47 l (i : Int)).f0 / 4294967296 = N ∧ (0 < i → (rd_T47 l ((i - 1 : Nat) : Int)).f0 < (rd_T47 l (i : Int)).f0) then some r else some 1 := by
    intro k; rw [← h1 k]; obtain ⟨K, hK⟩ : ∃ K, K = k + 100002 + d := ⟨_, rfl⟩; rw [show k + 100002 + (d + 1) = K + 1 by omega, ← hK]; simp only [tidemarkref04_Right.l0]; rw [if_pos (show (i : Int) < (l.length : Int) by omega), if_pos (show (0 : Int) ≤ (i : Int) by omega), hq K (by have := hcl _ hm; omega), hws]; simp only [Option.bind_some]
    have e1 : IntKind.u64.wrap (Int.tdiv ((rd_T47 l (i : Int)).f0) 4294967296) = (rd_T47 l (i : Int)).f0 / 4294967296 := by
     rw [Int.tdiv_eq_ediv_of_nonneg t0, IntKind.wrap_u64]; omega
    have e2 : IntKind.u64.wrap N = N := by rw [IntKind.wrap_u64]; omega
    rw [e1, e2]
    by_cases b : q = true
    · rw [if_pos b]
      by_cases c : (rd_T47 l (i : Int)).f0 / 4294967296 = N
      · rw [if_pos c]
        by_cases hi0 : i = 0
        · rw [if_neg (by omega), if_pos ⟨b, c, fun h => by omega⟩]
        · rw [if_pos (by omega), wrap_pred i (by omega) (by omega), if_pos (by omega), if_pos (by omega)]
          by_cases e : (rd_T47 l ((i - 1 : Nat) : Int)).f0 ≥ (rd_T47 l (i : Int)).f0
          · rw [if_pos e, if_neg (fun h => by have := h.2.2 (by omega); omega)]
          · rw [if_neg e, if_pos ⟨b, c, fun _ => by omega⟩]
      · rw [if_neg c, if_neg (fun h => c h.2.1)]
    · rw [if_neg b, if_neg (fun h => b h.1)]
   have prev : (prevT N l i < (rd_T47 l (i : Int)).f0 - N * 4294967296 ∧ N * 4294967296 ≤ (rd_T47 l (i : Int)).f0) ↔ (N * 4294967296 ≤ (rd_T47 l (i : Int)).f0 ∧ (0 < i → (rd_T47 l ((i - 1 : Nat) : Int)).f0 < (rd_T47 l (i : Int)).f0)) := by
    unfold prevT
    by_cases hi0 : i = 0
    · rw [if_pos hi0]; exact ⟨fun h => ⟨h.2, fun h => by omega⟩, fun h => ⟨by omega, h.1⟩⟩
    · rw [if_neg hi0]; exact ⟨fun h => ⟨h.2, fun _ => by omega⟩, fun h => ⟨by have := h.2 (by omega); omega, h.1⟩⟩
   by_cases hc : q = true ∧ (rd_T47 l (i : Int)).f0 / 4294967296 = N ∧ (0 < i → (rd_T47 l ((i - 1 : Nat) : Int)).f0 < (rd_T47 l (i : Int)).f0)
   · refine ⟨r, fun k => by rw [step k, if_pos hc], h0, ?_⟩; rw [h2, G]; obtain ⟨c1, c2, c3⟩ := hc; obtain ⟨g1, g2, g3⟩ := hq2.1 c1; have := prev.2 ⟨by omega, c3⟩; exact ⟨fun a => ⟨this.1, ⟨by omega, by omega, g2, g3, g1⟩, a⟩, fun a => a.2.2⟩
   · refine ⟨1, fun k => by rw [step k, if_neg hc], .inr rfl, fun h => (by cases h), fun a => ?_⟩; obtain ⟨a1, a2, _⟩ := G.1 a; have p := prev.1 ⟨a1, a2.lo⟩; exact absurd ⟨hq2.2 ⟨a2.all, a2.pos, a2.most⟩, by have := a2.lo; have := a2.hi; omega, p.2⟩ hc
theorem refRight_f (N : Int) (l : List S47) (hW : WEpoch N l) (hlen : l.length ≤ 100000) (hcl : ∀ t ∈ l, t.f1.length ≤ 100000) : ∃ (K : Nat) (r : Int), (∀ k, K ≤ k → tidemarkref04_Right.f k N l = some r) ∧ ((r = 0 ∧ GEpoch N l) ∨ (r = 1 ∧ ¬ GEpoch N l)) := by
 obtain ⟨r, h1, h0, h2⟩ := refRight_l0 N l hW hlen hcl l.length 0 (by omega); have hp : prevT N l 0 = -1 := rfl; rw [hp, List.drop_zero] at h2
 by_cases hN : N = 0
 · refine ⟨1, 1, fun k hk => ?_, .inr ⟨rfl, fun g => by have := g.lo; omega⟩⟩; unfold tidemarkref04_Right.f; obtain ⟨K, rfl⟩ : ∃ K, k = K + 1 := ⟨k - 1, by omega⟩; rw [if_pos hN]; simp only [tidemarkref04_Right.j0]; rw [if_pos trivial]
 · by_cases hl : l.length ≤ 64
   · refine ⟨100003 + l.length, r, fun k hk => ?_, ?_⟩
     · unfold tidemarkref04_Right.f; obtain ⟨K, rfl⟩ : ∃ K, k = K + 1 := ⟨k - 1, by omega⟩; rw [if_neg hN]; simp only [tidemarkref04_Right.j0]; rw [if_neg (by simp; omega)]; have := h1 (K - 100002 - l.length)
       rwa [show K - 100002 - l.length + 100002 + l.length = K by omega] at this
     · by_cases hr : r = 0
       · exact .inl ⟨hr, ⟨by have := hW.lo; omega, hW.hi, hl, h2.1 hr⟩⟩
       · exact .inr ⟨h0.resolve_left hr, fun g => hr (h2.2 g.all)⟩
   · refine ⟨1, 1, fun k hk => ?_, .inr ⟨rfl, fun g => hl g.most⟩⟩; unfold tidemarkref04_Right.f; obtain ⟨K, rfl⟩ : ∃ K, k = K + 1 := ⟨k - 1, by omega⟩; rw [if_neg hN]; simp only [tidemarkref04_Right.j0]; rw [if_pos (by simp; omega)]
def prevR (cs : List S57) (i : Nat) : S28 := if i = 0 then key0 else (rd_T57 cs ((i - 1 : Nat) : Int)).f0
theorem refRows_l0 (cs : List S57) (hw : WRows cs) (hlen : cs.length ≤ 100000) : ∀ (d i : Nat), i + d = cs.length →
 ∃ r, (∀ k, tidemarkref04_RightRows.l0 (k + d + 1) cs (i : Int) = some r) ∧ (r = 0 ∨ r = 1) ∧ (r = 0 ↔ GRowsL (prevR cs i) (cs.drop i)) := by
 intro d
 induction d with
 | zero =>
   intro i hi; have hd : cs.drop i = [] := List.drop_of_length_le (by omega); refine ⟨0, fun k => ?_, .inl rfl, by rw [hd]; exact ⟨fun _ => trivial, fun _ => rfl⟩⟩; simp only [tidemarkref04_RightRows.l0]; rw [if_neg (by omega)]
 | succ d ih =>
   intro i hi; obtain ⟨r, h1, h0, h2⟩ := ih (i + 1) (by omega); have hd := rd57_drop cs i (by omega); have hm : rd_T57 cs (i : Int) ∈ cs := List.mem_of_mem_drop (i := i) (by rw [hd]; exact List.mem_cons_self); obtain ⟨q, hq, hq2⟩ := refKey_f (rd_T57 cs (i : Int)).f0 (hw _ hm); have hws := wrap_succ i (by omega)
   have hp : prevR cs (i + 1) = (rd_T57 cs (i : Int)).f0 := by unfold prevR; rw [if_neg (by omega)]; rfl
   rw [hp] at h2
   have G : GRowsL (prevR cs i) (cs.drop i) ↔ lessB (prevR cs i) (rd_T57 cs (i : Int)).f0 = true ∧ GRow (rd_T57 cs (i : Int)) ∧ GRowsL (rd_T57 cs (i : Int)).f0 (cs.drop (i + 1)) := by rw [hd]; exact Iff.rfl
   have step : ∀ k, tidemarkref04_RightRows.l0 (k + (d + 1) + 1) cs (i : Int) = if q = true ∧ lessB (prevR cs i) (rd_T57 cs (i : Int)).f0 = true ∧ (rd_T57 cs (i : Int)).f1.size ≤ 256 then some r else some 1 := by
    intro k; rw [show k + (d + 1) + 1 = (k + d + 1) + 1 by omega, ← h1 k]; obtain ⟨K, hK⟩ : ∃ K, K = k + d + 1 := ⟨_, rfl⟩; rw [← hK]; simp only [tidemarkref04_RightRows.l0]; rw [if_pos (show (i : Int) < (cs.length : Int) by omega), if_pos (show (0 : Int) ≤ (i : Int) by omega), hq, hws]; simp only [Option.bind_some]
    by_cases hi0 : i = 0
    · subst hi0; rw [if_pos (by rfl)]; have hp : prevR cs 0 = key0 := rfl; rw [hp]
      by_cases b : q = true
      · have hl := less_key0 _ (hq2.1 b); rw [if_pos b]
        by_cases a : (rd_T57 cs ((0 : Nat) : Int)).f1.size ≤ 256
        · rw [if_neg (by omega), if_pos ⟨b, hl, a⟩]
        · rw [if_pos (by omega), if_neg (fun h => a h.2.2)]
      · rw [if_neg b, if_neg (fun h => b h.1)]
    · rw [if_neg (by omega), wrap_pred i (by omega) (by omega), if_pos (by omega), if_pos (by omega), refLess_f]; simp only [Option.bind_some]
      have hp : prevR cs i = (rd_T57 cs ((i - 1 : Nat) : Int)).f0 := by unfold prevR; rw [if_neg hi0]
      rw [hp]
      by_cases b : q = true
      · rw [if_pos b]
        by_cases e : lessB (rd_T57 cs ((i - 1 : Nat) : Int)).f0 (rd_T57 cs (i : Int)).f0 = true
        · rw [if_pos e]
          by_cases a : (rd_T57 cs (i : Int)).f1.size ≤ 256
          · rw [if_neg (by omega), if_pos ⟨b, e, a⟩]
          · rw [if_pos (by omega), if_neg (fun h => a h.2.2)]
        · rw [if_neg e, if_neg (fun h => e h.2.1)]
      · rw [if_neg b, if_neg (fun h => b h.1)]
   by_cases hc : q = true ∧ lessB (prevR cs i) (rd_T57 cs (i : Int)).f0 = true ∧ (rd_T57 cs (i : Int)).f1.size ≤ 256
   · refine ⟨r, fun k => by rw [step k, if_pos hc], h0, ?_⟩; rw [h2, G]; obtain ⟨c1, c2, c3⟩ := hc; exact ⟨fun a => ⟨c2, ⟨hq2.1 c1, c3⟩, a⟩, fun a => a.2.2⟩
   · refine ⟨1, fun k => by rw [step k, if_neg hc], .inr rfl, fun h => (by cases h), fun a => ?_⟩; obtain ⟨a1, a2, _⟩ := G.1 a; exact absurd ⟨hq2.2 a2.key, a1, a2.most⟩ hc
theorem refRows_f (l : List S57) (hw : WRows l) (hlen : l.length ≤ 100000) : ∃ (K : Nat) (r : Int), (∀ k, K ≤ k → tidemarkref04_RightRows.f k l = some r) ∧ ((r = 0 ∧ GRowsL key0 l) ∨ (r = 1 ∧ ¬ GRowsL key0 l)) := by
 obtain ⟨r, h1, h0, h2⟩ := refRows_l0 l hw hlen l.length 0 (by omega); have hp : prevR l 0 = key0 := rfl; rw [hp, List.drop_zero] at h2; refine ⟨l.length + 1, r, fun k hk => ?_, ?_⟩
 · have := h1 (k - l.length - 1); rw [show k - l.length - 1 + l.length + 1 = k by omega] at this; exact this
 · by_cases hr : r = 0
   · exact .inl ⟨hr, h2.1 hr⟩
   · exact .inr ⟨h0.resolve_left hr, fun g => hr (h2.2 g)⟩
theorem refText_f (k : Nat) (hk : 10 ≤ k) (s : ByteArray) (hs : s.size ≤ 1000) : tidemarkref04_text.f k s = some (strOfNums (puts s.size ++ bytesOf s)) := by
 unfold tidemarkref04_text.f; rw [wrapN s.size (by omega), uint_k k hk s.size (by omega)]; simp only [Option.bind_some]; have := puts_len s.size (by omega); rw [if_pos (by rw [strOfNums_size]; omega), strs_app, strs_bytes]
theorem write_l1 (N : Int) (l : List S47) (j tid : Int) (cs : List S50) (hcs : ∀ c ∈ cs, GChange c) (hlen : cs.length ≤ 1000) (k : Nat) (hk : 10 ≤ k) : ∀ (d i : Nat) (acc : List Int), i + d = cs.length → acc.length + 341 * d ≤ 90000000 →
 tidemarkref04_Write.l1 (k + d + 1) (strOfNums acc) j (i : Int) N l tid cs = tidemarkref04_Write.l0 k (strOfNums (acc ++ eChanges (cs.drop i))) (wrap64 (j + 1)) N l := by
 intro d
 induction d with
 | zero =>
   intro i acc hi _
   have : i = cs.length := by omega
   subst this; simp only [tidemarkref04_Write.l1]; rw [if_neg (by omega), List.drop_length]; simp [eChanges]
 | succ d ih =>
   intro i acc hi ha; have hd := rd50_drop cs i (by omega); have hg := hcs (rd_T50 cs (i : Int)) (List.mem_of_mem_drop (i := i) (by rw [hd]; exact List.mem_cons_self)); have hcl := eChange_len _ hg; obtain ⟨K, hK⟩ : ∃ K, K = k + d + 1 := ⟨_, rfl⟩; rw [hd, show k + (d + 1) + 1 = K + 1 by omega]; simp only [tidemarkref04_Write.l1, eChanges]; rw [if_pos (show (i : Int) < (cs.length : Int) by omega), if_pos (show (0 : Int) ≤ (i : Int) by omega), wrap_succ i (by omega)]; generalize rd_T50 cs (i : Int) = c at hg hcl ⊢; have ih' := ih (i + 1) (acc ++ eChange c) (by omega) q_69; rw [← hK] at ih'; have hp := puts_len c.f0.f1.size (by have := hg.key.most; omega); have hkl := eKey_len c.f0 hg.key
   rw [show tidemarkref04_table.f c.f0.f0 c.f0.f1 = some (strOfNums [c.f0.f0]) from rfl, refText_f K (by omega) c.f0.f1 (by have := hg.key.most; omega)]
   simp only [Option.bind_some]; rw [if_pos (by simp only [strOfNums_size, List.length_cons, List.length_nil]; omega), ← strs_app, if_pos (by simp only [strOfNums_size, List.length_append, bytesOf_length, List.length_cons, List.length_nil]; have := hg.key.most; omega), ← strs_app]
   have e1 : acc ++ [c.f0.f0] ++ (puts c.f0.f1.size ++ bytesOf c.f0.f1) = acc ++ eKey c.f0 := by rw [List.append_assoc]; rfl
   rw [e1]
   cases hgo : c.f1 with
   | true =>
     have hs : c.f2.size = 0 := hg.gone hgo
     have e2 : acc ++ eKey c.f0 ++ [0] = acc ++ eChange c := by
      unfold eChange; rw [hgo, if_pos rfl, bytesOf_nil.1 hs, List.append_nil, List.append_assoc, puts_lo (by decide)]; rfl
     rw [if_pos rfl, if_pos (by rw [strOfNums_size, List.length_append]; omega), show (⟨#[0]⟩ : ByteArray) = strOfNums [0] from rfl, ← strs_app, e2, ih', List.append_assoc]
   | false =>
     have hw1 : wrap64 ((c.f2.size : Int) + 1) = ((c.f2.size + 1 : Nat) : Int) := by have := hg.most; unfold wrap64; omega
     have hp2 := puts_len (c.f2.size + 1) q_59
     have e2 : acc ++ eKey c.f0 ++ puts (c.f2.size + 1) ++ bytesOf c.f2 = acc ++ eChange c := by
      unfold eChange; rw [hgo, if_neg (by decide)]; simp only [List.append_assoc]
     rw [if_neg (by decide), hw1, wrapN (c.f2.size + 1) q_59, uint_k K (by omega) _ q_59]; simp only [Option.bind_some]; rw [if_pos (by simp only [strOfNums_size, List.length_append]; omega), ← strs_app, if_pos (by simp only [strOfNums_size, List.length_append]; have := hg.most; omega)]
     conv => lhs; rw [show strOfNums (acc ++ eKey c.f0 ++ puts (c.f2.size + 1)) ++ c.f2 = strOfNums (acc ++ eChange c) by rw [← e2, strs_app _ (bytesOf c.f2), strs_bytes]]
     rw [ih', List.append_assoc]
theorem write_l0 (N : Int) (hN : 0 ≤ N ∧ N ≤ 4294967295) (l : List S47) (hl : ∀ t ∈ l, GTxn N t) (hlen : l.length ≤ 64) : ∀ (d i : Nat) (acc : List Int), i + d = l.length → acc.length + 10932 * d ≤ 80000000 →
 ∃ s, ∀ k, tidemarkref04_Write.l0 (k + 10 + s) (strOfNums acc) (i : Int) N l = some (strOfNums (acc ++ eTxns N (l.drop i))) := by
 intro d
 induction d with
 | zero =>
   intro i acc hi _
   have : i = l.length := by omega
   subst this; refine ⟨1, fun k => ?_⟩; simp only [tidemarkref04_Write.l0]; rw [if_neg (by omega), List.drop_length]; simp [eTxns]
 | succ d ih =>
   intro i acc hi ha; have hd := rd47_drop l i (by omega); have hg := hl (rd_T47 l (i : Int)) (List.mem_of_mem_drop (i := i) (by rw [hd]; exact List.mem_cons_self)); have htl := eTxn_len N _ hg; obtain ⟨s, hs⟩ := ih (i + 1) (acc ++ eTxn N (rd_T47 l (i : Int))) (by omega) q_69; refine ⟨s + (rd_T47 l (i : Int)).f1.length + 2, fun k => ?_⟩; obtain ⟨K, hK⟩ : ∃ K, K = k + 10 + s + (rd_T47 l (i : Int)).f1.length + 1 := ⟨_, rfl⟩; rw [hd, show k + 10 + (s + (rd_T47 l (i : Int)).f1.length + 2) = K + 1 by omega]; simp only [tidemarkref04_Write.l0, eTxns]; rw [if_pos (show (i : Int) < (l.length : Int) by omega), if_pos (show (0 : Int) ≤ (i : Int) by omega)]; generalize rd_T47 l (i : Int) = t at hg htl hs hK ⊢; have ht0 := hg.lo; have ht1 := hg.hi
   have e0 : Int.tmod t.f0 4294967296 = (((t.f0 - N * 4294967296).toNat : Nat) : Int) := by
    rw [Int.tmod_eq_emod_of_nonneg (by omega)]; omega
   have hp := puts_len (t.f0 - N * 4294967296).toNat (by omega); have hp2 := puts_len t.f1.length q_59; rw [e0, uint_k K (by omega) _ (by omega)]; simp only [Option.bind_some]; rw [if_pos (by simp only [strOfNums_size]; omega), wrapN t.f1.length q_59, uint_k K (by omega) _ q_59]; simp only [Option.bind_some]; rw [← strs_app, if_pos (by simp only [strOfNums_size, List.length_append]; omega), ← strs_app]
   have := write_l1 N l (i : Int) t.f0 t.f1 (gchanges_all hg.all) q_59 (k + 10 + s) (by omega) t.f1.length 0 (acc ++ puts (t.f0 - N * 4294967296).toNat ++ puts t.f1.length) (by omega) (by
    simp only [List.length_append]; have := hg.most
    omega)
   rw [← hK, show ((0 : Nat) : Int) = 0 from rfl] at this
   rw [this, wrap_succ i (by omega)]
   have e : acc ++ puts (t.f0 - N * 4294967296).toNat ++ puts t.f1.length ++ eChanges (t.f1.drop 0) = acc ++ eTxn N t := by
    unfold eTxn; simp only [List.drop_zero, List.append_assoc]
   rw [e, hs, List.append_assoc]
theorem write_f (N : Int) (l : List S47) (h : GEpoch N l) : ∃ K, ∀ k, K ≤ k → tidemarkref04_Write.f k N l = some (strOfNums (eEpoch N l)) := by
 have hm := h.most; have hN := h.hi; have hN0 := h.lo; have h1 := puts_len N.toNat (by omega); have h2 := puts_len l.length (by omega); obtain ⟨s, hs⟩ := write_l0 N ⟨by omega, hN⟩ l (gtxns_all h.all) hm l.length 0 (puts N.toNat ++ puts l.length) (by omega) q_69; refine ⟨10 + s, fun k hk => ?_⟩; unfold tidemarkref04_Write.f
 have e0 : IntKind.u64.wrap N = ((N.toNat : Nat) : Int) := by rw [IntKind.wrap_u64]; omega
 rw [e0, uint_k k (by omega) N.toNat (by omega)]; simp only [Option.bind_some]; rw [wrapN l.length (by omega), uint_k k (by omega) l.length (by omega)]; simp only [Option.bind_some]; rw [if_pos (by simp only [strOfNums_size]; omega), ← strs_app]; have := hs (k - 10 - s)
 rw [show k - 10 - s + 10 + s = k by omega, show ((0 : Nat) : Int) = 0 from rfl] at this
 rw [this]; simp [eEpoch]
theorem writeR_l0 (l : List S57) (hl : ∀ t ∈ l, GRow t) (hlen : l.length ≤ 1000) (k : Nat) (hk : 10 ≤ k) : ∀ (d i : Nat) (acc : List Int), i + d = l.length → acc.length + 341 * d ≤ 80000000 →
 tidemarkref04_WriteRows.l0 (k + d + 1) l (strOfNums acc) (i : Int) = some (strOfNums (acc ++ eRowsL (l.drop i))) := by
 intro d
 induction d with
 | zero =>
   intro i acc hi _
   have : i = l.length := by omega
   subst this; simp only [tidemarkref04_WriteRows.l0]; rw [if_neg (by omega), List.drop_length]; simp [eRowsL]
 | succ d ih =>
   intro i acc hi ha; have hd := rd57_drop l i (by omega); have hg := hl (rd_T57 l (i : Int)) (List.mem_of_mem_drop (i := i) (by rw [hd]; exact List.mem_cons_self)); have htl := eRow_len _ hg; obtain ⟨K, hK⟩ : ∃ K, K = k + d + 1 := ⟨_, rfl⟩; rw [hd, show k + (d + 1) + 1 = K + 1 by omega]; simp only [tidemarkref04_WriteRows.l0, eRowsL]; rw [if_pos (show (i : Int) < (l.length : Int) by omega), if_pos (show (0 : Int) ≤ (i : Int) by omega), wrap_succ i (by omega)]; generalize rd_T57 l (i : Int) = r at hg htl ⊢; have hp := puts_len r.f0.f1.size (by have := hg.key.most; omega); have hp2 := puts_len r.f1.size q_59; have hkl := eKey_len r.f0 hg.key
   rw [show tidemarkref04_table.f r.f0.f0 r.f0.f1 = some (strOfNums [r.f0.f0]) from rfl, refText_f K (by omega) r.f0.f1 (by have := hg.key.most; omega), refText_f K (by omega) r.f1 q_59]
   simp only [Option.bind_some]; rw [if_pos (by simp only [strOfNums_size, List.length_cons, List.length_nil]; omega), ← strs_app, if_pos (by simp only [strOfNums_size, List.length_append, bytesOf_length, List.length_cons, List.length_nil]; have := hg.key.most; omega), ← strs_app, if_pos (by simp only [strOfNums_size, List.length_append, bytesOf_length, List.length_cons, List.length_nil]; have := hg.key.most; have := hg.most; omega), ← strs_app]
   have e2 : acc ++ [r.f0.f0] ++ (puts r.f0.f1.size ++ bytesOf r.f0.f1) ++ (puts r.f1.size ++ bytesOf r.f1) = acc ++ eRow r := by
    unfold eRow eKey; simp only [List.append_assoc]
   rw [e2, hK, ih (i + 1) (acc ++ eRow r) (by omega) q_69, List.append_assoc]
theorem writeR_f (l : List S57) (h : GRowsL key0 l) (hlen : l.length ≤ 1000) : ∃ K, ∀ k, K ≤ k → tidemarkref04_WriteRows.f k l = some (strOfNums (eRows l)) := by
 have h2 := puts_len l.length (by omega); refine ⟨10 + l.length + 1, fun k hk => ?_⟩; unfold tidemarkref04_WriteRows.f; rw [wrapN l.length (by omega), uint_k k (by omega) l.length (by omega)]; simp only [Option.bind_some]; have := writeR_l0 l (growsL_all h) hlen (k - l.length - 1) (by omega) l.length 0 (puts l.length) (by omega) (by omega)
 rw [show k - l.length - 1 + l.length + 1 = k by omega, show ((0 : Nat) : Int) = 0 from rfl] at this
 rw [this]; simp [eRows]
end Go.Proofs.Ytgmdoapedhppmaa.Code
/- CodecWrites: epochs and rows may be, and have the bytes, that the document says; of any epoch, rows, and two keys. Walked by hand over plain facts. -/
namespace Go.Proofs.Ytgmdoapedhppmaa.PC
set_option linter.unusedVariables false
set_option linter.unusedSimpArgs false
open Go.RowKit Go.Proofs.Ytgmdoapedhppmaa.Code Go.Proofs.YtgmdoapedhppmaaW.PrintWords Go.Proofs.YtgmdoapedhppmaaW.PrintLast Go.Proofs.YtgmdoapedhppmaaW.PrintMore
def wr8_T : Bool × List (List Nat × List Nat) := (true, [([], []), ([0], [0]), ([], []), ([1, 2], [1, 2]), ([3, 1], [3]), ([4], [4]), ([4], [4]), ([5, 6, 4], [4, 5, 6]), ([4, 7], [4, 7]), ([8, 4], [8]), ([9], [9]), ([10, 9, 9], [9, 10]), ([9], [9]), ([11, 12, 9], [9, 11, 12]), ([9, 13], [9, 13]), ([14, 11], [14]), ([15], [15]), ([15], [15]), ([16, 17, 15], [15, 16, 17]), ([15, 18], [15, 18]), ([19, 15], [19]), ([20], [20]), ([20], [20]), ([21, 22, 20, 20], [20, 21, 22]), ([20], [20]), ([20], [20]), ([24, 25, 23, 20], [20, 24, 25]), ([23, 26, 20], [20, 23, 26]), ([20, 27], [20, 27])])
def wr8_B : List Nat := [0, 1, 0, 7, 15, 31, 31, 127, 255, 511, 1023, 2047, 1023, 8191, 16383, 32767, 65535, 65535, 262143, 524287, 1048575, 2097151, 2097151, 8388607, 2097151, 2097151, 67108863, 134217727, 268435455]
theorem wr8_tab : rtab .any (opsOf Try.f3 8) = wr8_T := by kernel_rfl
theorem wr8_bits : waitsOk wr8_T.2 wr8_B = true := by kernel_rfl
def wr12_T : Bool × List (List Nat × List Nat) := (true, [([], []), ([0], [0]), ([1], [1]), ([2, 1], [1, 2]), ([3, 1, 1], [1, 3]), ([4], [4]), ([5, 4], [4, 5]), ([4], [4]), ([7, 4, 4], [4, 7]), ([6, 8, 4], [4, 6, 8]), ([4, 9, 1], [1, 4, 9]), ([1, 10], [1, 10]), ([11, 8], [11]), ([12], [12]), ([13, 12], [12, 13]), ([14, 12, 12], [12, 14]), ([15], [15]), ([16, 15], [15, 16]), ([15], [15]), ([18, 15, 15], [15, 18]), ([17, 19, 15], [15, 17, 19]), ([15, 20, 12], [12, 15, 20]), ([12, 21], [12, 21]), ([22, 19, 0, 1, 2, 3, 4, 5, 6, 7, 8, 9, 10, 11, 12, 13, 14, 15, 16, 17, 18, 19, 20, 21, 22], [22])])
def wr12_B : List Nat := [0, 1, 3, 7, 15, 31, 63, 31, 159, 511, 1023, 2047, 4095, 8191, 16383, 32767, 65535, 131071, 65535, 327679, 1048575, 2097151, 4194303, 8388607]
theorem wr12_tab : rtab .any (opsOf Try.f3 12) = wr12_T := by kernel_rfl
theorem wr12_bits : waitsOk wr12_T.2 wr12_B = true := by kernel_rfl
set_option maxRecDepth 100000 in
set_option maxHeartbeats 4000000 in
theorem writes_walk (k : Nat) (n1 : Int) (l1 : List S47) (A1 : Option Addr) (c1 : Nat) (l2 : List S57) (A2 : Option Addr) (c2 : Nat) (ka kb : S28) (w : World) (x1 : List S47) (x2 : List S57) (ya yb : List Int) (e1 e2 : Int) (q : Bool)
 (hl1 : Aside0 (l1.length ≤ c1)) (hC1 : Aside0 (Kd.C k47 w A1 l1.length l1)) (hl2 : Aside0 (l2.length ≤ c2)) (hC2 : Aside0 (Kd.C k57 w A2 l2.length l2))
 (E1 : Aside0 (tidemarklaw04_few.f n1 l1 = some (n1, x1))) (E2 : Aside0 (tidemarklaw04_fewRows.f l2 = some x2)) (EA : Aside0 (codec_Encode.f k n1 x1 = some (ya, e1))) (EB : Aside0 (codec_EncodeRows.f k x2 = some (yb, e2)))
 (ER1 : Aside0 (tidemarkref04_Right.f k n1 x1 = some e1)) (ER2 : Aside0 (tidemarkref04_RightRows.f k x2 = some e2)) (EC1 : Aside0 (codec_Right.f n1 x1 = some e1)) (EC2 : Aside0 (codec_RightRows.f x2 = some e2))
 (EL1 : Aside0 (codec_Less.f k ka.f0 ka.f1 kb.f0 kb.f1 = some q)) (EL2 : Aside0 (tidemarkref04_Less.f ka.f0 ka.f1 kb.f0 kb.f1 = some q))
 (HD : Aside0 ((e1 = 0 ∧ ∃ s1, tidemarkref04_Write.f k n1 x1 = some s1 ∧ ((strOfNums ya).toList == s1.toList) = true) ∨ (e1 = 1 ∧ ya = [])))
 (HD2 : Aside0 ((e2 = 0 ∧ ∃ s2, tidemarkref04_WriteRows.f k x2 = some s2 ∧ ((strOfNums yb).toList == s2.toList) = true) ∨ (e2 = 1 ∧ yb = []))) :
 Calls Try.prog 3 #[.agg #[.int .u32 n1, .slice A1 l1.length c1], .slice A2 l2.length c2, .agg #[.int .u8 ka.f0, .string ka.f1], .agg #[.int .u8 kb.f0, .string kb.f1]] w fun e w' => e = .returned (.bool true) ∧ Below w.heap.size w w' := by
 have HB := Aside0.mk (Below.refl w.heap.size w)
 go_enter Try.func3, Try.ntmps3
 go_wp2_with (first | ((with_reducible refine gate_dst (N := 4) rfl ?_); refine box_event ?hg (N := 4) ?hd (cs := #[.int .u32 n1, .slice A1 l1.length c1]) (t := 25) ?hr ?_; (case hd => rfl); (case hg => rfl); (case hr => first | (go_simp; done) | (go_simp; rfl)); intro g4 hg4 w1 hbox hb; have BK4 := Aside0.mk hbox; have Hg4 := Aside0.mk hg4; have Hbg4 := Aside0.mk hb; clear hb hbox hg4) | ((with_reducible refine gate_dst (N := 6) rfl ?_); refine box_event ?hg (N := 6) ?hd (cs := #[.int .u8 ka.f0, .string ka.f1]) (t := 28) ?hr ?_; (case hd => rfl); (case hg => rfl); (case hr => first | (go_simp; done) | (go_simp; rfl)); intro g6 hg6 w2 hbox hb; have BK6 := Aside0.mk hbox; have Hg6 := Aside0.mk hg6; have Hbg6 := Aside0.mk hb; clear hb hbox hg6) | ((with_reducible refine gate_dst (N := 7) rfl ?_); refine box_event ?hg (N := 7) ?hd (cs := #[.int .u8 kb.f0, .string kb.f1]) (t := 28) ?hr ?_; (case hd => rfl); (case hg => rfl); (case hr => first | (go_simp; done) | (go_simp; rfl)); intro g7 hg7 w3 hbox hb; have BK7 := Aside0.mk hbox; have Hg7 := Aside0.mk hg7; have Hbg7 := Aside0.mk hb; clear hb hbox hg7))
 have Gg4 : Aside0 (w.heap.size ≤ g4) := ⟨by rw [Hg4.out]; exact HB.out.size⟩; have HB_ := Aside0.mk (below_step HB.out Hbg4.out); clear HB; have HB := HB_; clear HB_; clear Hg4 Hbg4
 have ne_g4_g6 : g4 ≠ g6 := by have := blk_lt BK4.out; rw [Hg6.out]; omega
 have ne_g6_g4 : g6 ≠ g4 := fun e => ne_g4_g6 e.symm; have Gg6 : Aside0 (w.heap.size ≤ g6) := ⟨by rw [Hg6.out]; exact HB.out.size⟩; have HB_ := Aside0.mk (below_step HB.out Hbg6.out); clear HB; have HB := HB_; clear HB_; have BK4_ := Aside0.mk (blk_below BK4.out Hbg6.out); clear BK4; have BK4 := BK4_; clear BK4_; clear Hg6 Hbg6
 have ne_g4_g7 : g4 ≠ g7 := by have := blk_lt BK4.out; rw [Hg7.out]; omega
 have ne_g7_g4 : g7 ≠ g4 := fun e => ne_g4_g7 e.symm
 have ne_g6_g7 : g6 ≠ g7 := by have := blk_lt BK6.out; rw [Hg7.out]; omega
 have ne_g7_g6 : g7 ≠ g6 := fun e => ne_g6_g7 e.symm; have Gg7 : Aside0 (w.heap.size ≤ g7) := ⟨by rw [Hg7.out]; exact HB.out.size⟩; have HB_ := Aside0.mk (below_step HB.out Hbg7.out); clear HB; have HB := HB_; clear HB_; have BK4_ := Aside0.mk (blk_below BK4.out Hbg7.out); clear BK4; have BK4 := BK4_; clear BK4_; have BK6_ := Aside0.mk (blk_below BK6.out Hbg7.out); clear BK6; have BK6 := BK6_; clear BK6_; clear Hg7 Hbg7; refine (tidemarklaw04_shown.calls true _ rfl).mono ?_; rintro e w4 ⟨rfl, hb⟩; have Hb := Aside0.mk hb; clear hb; have HB_ := Aside0.mk (below_step HB.out Hb.out); clear HB; have HB := HB_; clear HB_; have BK4_ := Aside0.mk (blk_below BK4.out Hb.out); clear BK4; have BK4 := BK4_; clear BK4_; have BK6_ := Aside0.mk (blk_below BK6.out Hb.out); clear BK6; have BK6 := BK6_; clear BK6_; have BK7_ := Aside0.mk (blk_below BK7.out Hb.out); clear BK7; have BK7 := BK7_; clear BK7_; clear Hb; have zg40 : w4.cell? ⟨g4, 0, none⟩ = some (.int .u32 n1) := (blk_cell BK4.out 0).trans rfl; have fzg40 := blk_frozen BK4.out 0; have zg41 : w4.cell? ⟨g4, 1, none⟩ = some (.slice A1 l1.length c1) := (blk_cell BK4.out 1).trans rfl; have fzg41 := blk_frozen BK4.out 1
 go_wp2_with fail
 refine (tidemarklaw04_few.calls n1 A1 c1 l1 n1 x1 _ (Kd.C_below hC1.out HB.out) hl1.out E1.out).mono ?_; rintro e w5 ⟨v5, rfl, hr, hb⟩; obtain ⟨AX1, cX1, rfl⟩ := Kd.S_slice hr; have Hb := Aside0.mk hb; have Hr := Aside0.mk hr; clear hb hr; have X1 := Aside0.mk (Kd.S_lower Hr.out HB.out.size); clear Hr; have HB_ := Aside0.mk (below_step HB.out Hb.out); clear HB; have HB := HB_; clear HB_; have BK4_ := Aside0.mk (blk_below BK4.out Hb.out); clear BK4; have BK4 := BK4_; clear BK4_; have BK6_ := Aside0.mk (blk_below BK6.out Hb.out); clear BK6; have BK6 := BK6_; clear BK6_; have BK7_ := Aside0.mk (blk_below BK7.out Hb.out); clear BK7; have BK7 := BK7_; clear BK7_; clear Hb; clear zg40 fzg40 zg41 fzg41; have zg40 : w5.cell? ⟨g4, 0, none⟩ = some (.int .u32 n1) := (blk_cell BK4.out 0).trans rfl; have fzg40 := blk_frozen BK4.out 0; have zg41 : w5.cell? ⟨g4, 1, none⟩ = some (.slice A1 l1.length c1) := (blk_cell BK4.out 1).trans rfl; have fzg41 := blk_frozen BK4.out 1
 go_upto_region 3 with (fail)
 clear zg40 fzg40 zg41 fzg41; have HB_ := Aside0.mk (below_set (g := g4) (j := 1) (v := .slice AX1 x1.length cX1) (below_set (g := g4) (j := 0) (v := .int .u32 n1) (HB.out) Gg4.out) Gg4.out); have BK6_ := Aside0.mk (blk_far (blk_far (BK6.out) (p := ⟨g4, 0, none⟩) ne_g6_g4 (.int .u32 n1)) (p := ⟨g4, 1, none⟩) ne_g6_g4 (.slice AX1 x1.length cX1)); have BK7_ := Aside0.mk (blk_far (blk_far (BK7.out) (p := ⟨g4, 0, none⟩) ne_g7_g4 (.int .u32 n1)) (p := ⟨g4, 1, none⟩) ne_g7_g4 (.slice AX1 x1.length cX1)); have X1_ := Aside0.mk (Kd.S_set (Kd.S_set (X1.out) (BK4.out) (by decide) 0 (.int .u32 n1)) (blk_put (cs := #[.int .u32 n1, .slice A1 l1.length c1]) (BK4.out) 0 (.int .u32 n1) rfl) (by decide) 1 (.slice AX1 x1.length cX1)); have BK4_ := Aside0.mk (blk_put (cs := #[.int .u32 n1, .slice A1 l1.length c1]) (blk_put (cs := #[.int .u32 n1, .slice A1 l1.length c1]) (BK4.out) 0 (.int .u32 n1) rfl) 1 (.slice AX1 x1.length cX1) rfl); clear HB BK6 BK7 X1 BK4; have HB := HB_; clear HB_; have BK6 := BK6_; clear BK6_; have BK7 := BK7_; clear BK7_; have X1 := X1_; clear X1_; have BK4 := BK4_; clear BK4_; generalize ((w5.setCell ⟨g4, 0, none⟩ (.int .u32 n1)).setCell ⟨g4, 1, none⟩ (.slice AX1 x1.length cX1)) = w6 at HB BK6 BK7 X1 BK4 ⊢
 go_wp2_with fail
 refine (tidemarklaw04_fewRows.calls A2 c2 l2 x2 _ (Kd.C_below hC2.out HB.out) hl2.out E2.out).mono ?_; rintro e w7 ⟨v7, rfl, hr, hb⟩; obtain ⟨AX2, cX2, rfl⟩ := Kd.R_slice hr; have Hb := Aside0.mk hb; have Hr := Aside0.mk hr; clear hb hr; have X2 := Aside0.mk (Kd.R_lower Hr.out HB.out.size); clear Hr; have HB_ := Aside0.mk (below_step HB.out Hb.out); clear HB; have HB := HB_; clear HB_; have BK4_ := Aside0.mk (blk_below BK4.out Hb.out); clear BK4; have BK4 := BK4_; clear BK4_; have BK6_ := Aside0.mk (blk_below BK6.out Hb.out); clear BK6; have BK6 := BK6_; clear BK6_; have BK7_ := Aside0.mk (blk_below BK7.out Hb.out); clear BK7; have BK7 := BK7_; clear BK7_; have X1_ := Aside0.mk (Kd.S_below X1.out Hb.out); clear X1; have X1 := X1_; clear X1_; clear Hb
 go_upto_region 4 with (fail)
 have zg40 : w7.cell? ⟨g4, 0, none⟩ = some (.int .u32 n1) := (blk_cell BK4.out 0).trans rfl; have fzg40 := blk_frozen BK4.out 0; have zg41 : w7.cell? ⟨g4, 1, none⟩ = some (.slice AX1 x1.length cX1) := (blk_cell BK4.out 1).trans rfl; have fzg41 := blk_frozen BK4.out 1
 go_wp2_with fail
 refine (codec_Encode.calls k n1 AX1 cX1 x1 ya e1 _ (Kd.S_reads' X1.out).2.2 (Kd.S_reads' X1.out).2.1 EA.out).mono ?_; rintro e w8 ⟨v8, rfl, hr, hb⟩; obtain ⟨AYA, cYA, rfl⟩ := Kd.R_slice hr; have Hb := Aside0.mk hb; have Hr := Aside0.mk hr; clear hb hr; have YA := Aside0.mk (Kd.R_lower Hr.out HB.out.size); clear Hr; have HB_ := Aside0.mk (below_step HB.out Hb.out); clear HB; have HB := HB_; clear HB_; have BK4_ := Aside0.mk (blk_below BK4.out Hb.out); clear BK4; have BK4 := BK4_; clear BK4_; have BK6_ := Aside0.mk (blk_below BK6.out Hb.out); clear BK6; have BK6 := BK6_; clear BK6_; have BK7_ := Aside0.mk (blk_below BK7.out Hb.out); clear BK7; have BK7 := BK7_; clear BK7_; have X1_ := Aside0.mk (Kd.S_below X1.out Hb.out); clear X1; have X1 := X1_; clear X1_; have X2_ := Aside0.mk (Kd.R_below X2.out Hb.out); clear X2; have X2 := X2_; clear X2_; clear Hb; clear zg40 fzg40 zg41 fzg41
 go_wp2_with fail
 refine (codec_EncodeRows.calls k AX2 cX2 x2 yb e2 _ (Kd.R_reads' X2.out).2.2 (Kd.R_reads' X2.out).2.1 EB.out).mono ?_; rintro e w9 ⟨v9, rfl, hr, hb⟩; obtain ⟨AYB, cYB, rfl⟩ := Kd.R_slice hr; have Hb := Aside0.mk hb; have Hr := Aside0.mk hr; clear hb hr; have YB := Aside0.mk (Kd.R_lower Hr.out HB.out.size); clear Hr; have HB_ := Aside0.mk (below_step HB.out Hb.out); clear HB; have HB := HB_; clear HB_; have BK4_ := Aside0.mk (blk_below BK4.out Hb.out); clear BK4; have BK4 := BK4_; clear BK4_; have BK6_ := Aside0.mk (blk_below BK6.out Hb.out); clear BK6; have BK6 := BK6_; clear BK6_; have BK7_ := Aside0.mk (blk_below BK7.out Hb.out); clear BK7; have BK7 := BK7_; clear BK7_; have X1_ := Aside0.mk (Kd.S_below X1.out Hb.out); clear X1; have X1 := X1_; clear X1_; have X2_ := Aside0.mk (Kd.R_below X2.out Hb.out); clear X2; have X2 := X2_; clear X2_; have YA_ := Aside0.mk (Kd.R_below YA.out Hb.out); clear YA; have YA := YA_; clear YA_; clear Hb; have zg40 : w9.cell? ⟨g4, 0, none⟩ = some (.int .u32 n1) := (blk_cell BK4.out 0).trans rfl; have fzg40 := blk_frozen BK4.out 0; have zg41 : w9.cell? ⟨g4, 1, none⟩ = some (.slice AX1 x1.length cX1) := (blk_cell BK4.out 1).trans rfl; have fzg41 := blk_frozen BK4.out 1
 go_wp2_with fail
 refine (tidemarkref04_Right.calls k n1 AX1 cX1 x1 e1 _ (Kd.S_reads' X1.out).2.2 (Kd.S_reads' X1.out).2.1 ER1.out).mono ?_; rintro e w10 ⟨rfl, hb⟩; have Hb := Aside0.mk hb; clear hb; have HB_ := Aside0.mk (below_step HB.out Hb.out); clear HB; have HB := HB_; clear HB_; have BK4_ := Aside0.mk (blk_below BK4.out Hb.out); clear BK4; have BK4 := BK4_; clear BK4_; have BK6_ := Aside0.mk (blk_below BK6.out Hb.out); clear BK6; have BK6 := BK6_; clear BK6_; have BK7_ := Aside0.mk (blk_below BK7.out Hb.out); clear BK7; have BK7 := BK7_; clear BK7_; have X1_ := Aside0.mk (Kd.S_below X1.out Hb.out); clear X1; have X1 := X1_; clear X1_; have X2_ := Aside0.mk (Kd.R_below X2.out Hb.out); clear X2; have X2 := X2_; clear X2_; have YA_ := Aside0.mk (Kd.R_below YA.out Hb.out); clear YA; have YA := YA_; clear YA_; have YB_ := Aside0.mk (Kd.R_below YB.out Hb.out); clear YB; have YB := YB_; clear YB_; clear Hb; clear zg40 fzg40 zg41 fzg41
 go_wp2_with fail
 refine (tidemarkref04_RightRows.calls k AX2 cX2 x2 e2 _ (Kd.R_reads' X2.out).2.2 (Kd.R_reads' X2.out).2.1 ER2.out).mono ?_; rintro e w11 ⟨rfl, hb⟩; have Hb := Aside0.mk hb; clear hb; have HB_ := Aside0.mk (below_step HB.out Hb.out); clear HB; have HB := HB_; clear HB_; have BK4_ := Aside0.mk (blk_below BK4.out Hb.out); clear BK4; have BK4 := BK4_; clear BK4_; have BK6_ := Aside0.mk (blk_below BK6.out Hb.out); clear BK6; have BK6 := BK6_; clear BK6_; have BK7_ := Aside0.mk (blk_below BK7.out Hb.out); clear BK7; have BK7 := BK7_; clear BK7_; have X1_ := Aside0.mk (Kd.S_below X1.out Hb.out); clear X1; have X1 := X1_; clear X1_; have X2_ := Aside0.mk (Kd.R_below X2.out Hb.out); clear X2; have X2 := X2_; clear X2_; have YA_ := Aside0.mk (Kd.R_below YA.out Hb.out); clear YA; have YA := YA_; clear YA_; have YB_ := Aside0.mk (Kd.R_below YB.out Hb.out); clear YB; have YB := YB_; clear YB_; clear Hb
 go_upto_region 8 with (fail)
 go_cut [63] (fun v63 wc => v63 = .bool false ∧ Aside0 (Below w11.heap.size w11 wc))
 case first =>
  refine start_ (n := 29) (S := fun W' => Below w11.heap.size w11 W') (ds := []) #[false, false, false, false, false, false, false, false, false, false, false, false, false, false, false, false, false, false, false, false, false, false, false, false, false, false, false, false, false] (by kernel_rfl) rfl rfl (below_drew (Below.refl w11.heap.size w11)) (fun hHeld => ?_); refine with_tabW wr8_tab wr8_bits (fun HT_ HW_ => ?_)
  have b1 : (e1 != e1) = false := by simp
  have b2 : (e2 != e2) = false := by simp
  have b3 : (q != q) = false := by simp
  refine pl 2 (some 37) ?_; refine qj 0 (some 35) rfl rfl q_19 ?_; refine on_ (i := 1) (N := some 36) rfl rfl (one_of HT_.out (by kernel_rfl)) (by decide) (fun K hK => ?_); refine goes_ Try.func20 (by kernel_rfl) rfl #[.agg #[.int .u32 n1, .slice AX1 x1.length cX1]] (by rfl) rfl rfl q_34 ?_; refine (codec_Right.calls n1 AX1 cX1 x1 e1 _ (Kd.C_below (Kd.S_reads' X1.out).2.2 hHeld) (Kd.S_reads' X1.out).2.1 EC1.out).mono ?_; rintro e w' ⟨rfl, hb⟩; refine ⟨_, rfl, ?_⟩; have HS := Aside0.mk (below_step hHeld hb); clear hb hHeld; refine hK.out _ _ (HS.out) (fun hHeld => ?_); clear hK K; refine norm_ (a' := ?_) ?_ ?_; rotate_left; (focus show Act.put _ (some 36) _ = _; simp only [Act.put, List.setIfInBounds_toArray, List.set_cons_zero, List.set_cons_succ] <;> rfl); clear HS; refine pl 3 (some 38) ?_; refine pl 4 (some 39) ?_; refine pl 5 (some 40) ?_; refine pl 6 (some 41) ?_; refine pl 7 (some 42) ?_; refine pl 8 (some 43) ?_; refine pl 9 (some 44) ?_; refine pl 10 (some 45) ?_; refine pl 12 (some 47) ?_; refine on_ (i := 11) (N := some 46) rfl rfl (one_of HT_.out (by kernel_rfl)) (by decide) (fun K hK => ?_); refine goes_ Try.func21 (by kernel_rfl) rfl #[.slice AX2 x2.length cX2] (by rfl) rfl rfl q_34 ?_; refine (codec_RightRows.calls AX2 cX2 x2 e2 _ (Kd.C_below (Kd.R_reads' X2.out).2.2 hHeld) (Kd.R_reads' X2.out).2.1 EC2.out).mono ?_; rintro e w' ⟨rfl, hb⟩; refine ⟨_, rfl, ?_⟩; have HS := Aside0.mk (below_step hHeld hb); clear hb hHeld; refine hK.out _ _ (HS.out) (fun hHeld => ?_); clear hK K; refine norm_ (a' := ?_) ?_ ?_; rotate_left; (focus show Act.put _ (some 46) _ = _; simp only [Act.put, List.setIfInBounds_toArray, List.set_cons_zero, List.set_cons_succ] <;> rfl); clear HS; refine pl 13 (some 48) ?_; refine pl 14 (some 49) ?_; refine pl 15 (some 50) ?_; refine pl 16 (some 51) ?_; refine pl 17 (some 52) ?_; refine pl 18 (some 53) ?_; refine pl 19 (some 54) ?_; refine pl 20 (some 55) ?_; refine qj 21 (some 56) rfl rfl q_19 ?_; refine qj 22 (some 57) rfl rfl q_19 ?_; refine qj 24 (some 59) rfl rfl q_19 ?_; refine qj 25 (some 60) rfl rfl q_19 ?_
  refine on_ (i := 23) (N := some 58) rfl rfl (one_of HT_.out (by kernel_rfl)) (by decide) (fun K hK => ?_); refine goes_ Try.func22 (by kernel_rfl) rfl #[.agg #[.int .u8 ka.f0, .string ka.f1], .agg #[.int .u8 kb.f0, .string kb.f1]] (by rfl) rfl rfl q_34 ?_; refine (codec_Less.calls k ka.f0 ka.f1 kb.f0 kb.f1 q _ EL1.out).mono ?_; rintro e w' ⟨rfl, hb⟩; refine ⟨_, rfl, ?_⟩; have HS := Aside0.mk (below_step hHeld hb); clear hb hHeld; refine hK.out _ _ (HS.out) (fun hHeld => ?_); clear hK K; refine norm_ (a' := ?_) ?_ ?_; rotate_left; (focus show Act.put _ (some 58) _ = _; simp only [Act.put, List.setIfInBounds_toArray, List.set_cons_zero, List.set_cons_succ] <;> rfl); clear HS; refine on_ (i := 26) (N := some 61) rfl rfl (one_of HT_.out (by kernel_rfl)) (by decide) (fun K hK => ?_); refine goes_ Try.func23 (by kernel_rfl) rfl #[.agg #[.int .u8 ka.f0, .string ka.f1], .agg #[.int .u8 kb.f0, .string kb.f1]] (by rfl) rfl rfl q_34 ?_; refine (tidemarkref04_Less.calls ka.f0 ka.f1 kb.f0 kb.f1 q _ EL2.out).mono ?_; rintro e w' ⟨rfl, hb⟩; refine ⟨_, rfl, ?_⟩; have HS := Aside0.mk (below_step hHeld hb); clear hb hHeld; refine hK.out _ _ (HS.out) (fun hHeld => ?_); clear hK K; refine norm_ (a' := ?_) ?_ ?_; rotate_left; (focus show Act.put _ (some 61) _ = _; simp only [Act.put, List.setIfInBounds_toArray, List.set_cons_zero, List.set_cons_succ] <;> rfl); clear HS; refine pl 27 (some 62) ?_; refine pl 28 (some 63) ?_; refine done_ (done_of HT_.out (by kernel_rfl)) ?_
  go_wp2_with fail
  go_meet
  exact ⟨by first | rfl | (simp; done) | (simp [*]; done), ⟨hHeld⟩⟩
 case rest =>
  obtain ⟨rfl, hcb⟩ := hcut; have Hb := hcb; clear hcb; rename_i wc; have HB_ := Aside0.mk (below_step HB.out Hb.out); clear HB; have HB := HB_; clear HB_; have BK4_ := Aside0.mk (blk_below BK4.out Hb.out); clear BK4; have BK4 := BK4_; clear BK4_; have BK6_ := Aside0.mk (blk_below BK6.out Hb.out); clear BK6; have BK6 := BK6_; clear BK6_; have BK7_ := Aside0.mk (blk_below BK7.out Hb.out); clear BK7; have BK7 := BK7_; clear BK7_; have X1_ := Aside0.mk (Kd.S_below X1.out Hb.out); clear X1; have X1 := X1_; clear X1_; have X2_ := Aside0.mk (Kd.R_below X2.out Hb.out); clear X2; have X2 := X2_; clear X2_; have YA_ := Aside0.mk (Kd.R_below YA.out Hb.out); clear YA; have YA := YA_; clear YA_; have YB_ := Aside0.mk (Kd.R_below YB.out Hb.out); clear YB; have YB := YB_; clear YB_; clear Hb; rcases HD.out with ⟨he1, s1, hs1, hq1⟩ | ⟨he1, hy1⟩ <;> rcases HD2.out with ⟨he2, s2, hs2, hq2⟩ | ⟨he2, hy2⟩
  · subst he1; subst he2; have WS1 := Aside0.mk hs1; clear hs1; have WS2 := Aside0.mk hs2; clear hs2
    go_upto_region 12 with (fail)
    refine start_ (n := 24) (S := fun W' => Below wc.heap.size wc W') (ds := []) #[false, false, false, false, false, false, false, false, false, false, false, false, false, false, false, false, false, false, false, false, false, false, false, false] (by kernel_rfl) rfl rfl (below_drew (Below.refl wc.heap.size wc)) (fun hHeld => ?_); refine with_tabW wr12_tab wr12_bits (fun HT_ HW_ => ?_); refine pl 0 (some 80) ?_; refine pl 1 (some 81) ?_; refine pl 2 (some 82) ?_; refine pl 3 (some 83) ?_; refine pl 4 (some 84) ?_; refine pl 5 (some 85) ?_; refine qj 6 (some 86) rfl rfl q_14 ?_; refine qj 7 (some 87) rfl rfl q_14 ?_; refine on_ (i := 8) (N := some 88) rfl rfl (one_of HT_.out (by kernel_rfl)) (by decide) (fun K hK => ?_); refine goes_ Try.func24 (by kernel_rfl) rfl #[.agg #[.int .u32 n1, .slice AX1 x1.length cX1]] (by rfl) rfl rfl q_34 ?_; refine (tidemarkref04_Write.calls k n1 AX1 cX1 x1 s1 _ (Kd.C_below (Kd.S_reads' X1.out).2.2 hHeld) (Kd.S_reads' X1.out).2.1 WS1.out).mono ?_; rintro e w' ⟨rfl, hb⟩; refine ⟨_, rfl, ?_⟩; have HS := Aside0.mk (below_step hHeld hb); clear hb hHeld; refine hK.out _ _ (HS.out) (fun hHeld => ?_); clear hK K; refine norm_ (a' := ?_) ?_ ?_; rotate_left; (focus show Act.put _ (some 88) _ = _; simp only [Act.put, List.setIfInBounds_toArray, List.set_cons_zero, List.set_cons_succ] <;> rfl); clear HS; refine pl 9 (some 89) ?_; refine pl 10 (some 90) ?_; refine pl 11 (some 91) ?_; refine pl 12 (some 92) ?_; refine pl 13 (some 93) ?_; refine pl 14 (some 94) ?_; refine pl 15 (some 95) ?_; refine pl 16 (some 96) ?_; refine pl 18 (some 98) ?_; refine qj 17 (some 97) rfl rfl q_14 ?_; refine on_ (i := 19) (N := some 99) rfl rfl (one_of HT_.out (by kernel_rfl)) (by decide) (fun K hK => ?_); refine goes_ Try.func25 (by kernel_rfl) rfl #[.slice AX2 x2.length cX2] (by rfl) rfl rfl q_34 ?_; refine (tidemarkref04_WriteRows.calls k AX2 cX2 x2 s2 _ (Kd.C_below (Kd.R_reads' X2.out).2.2 hHeld) (Kd.R_reads' X2.out).2.1 WS2.out).mono ?_; rintro e w' ⟨rfl, hb⟩; refine ⟨_, rfl, ?_⟩; have HS := Aside0.mk (below_step hHeld hb); clear hb hHeld; refine hK.out _ _ (HS.out) (fun hHeld => ?_); clear hK K; refine norm_ (a' := ?_) ?_ ?_; rotate_left; (focus show Act.put _ (some 99) _ = _; simp only [Act.put, List.setIfInBounds_toArray, List.set_cons_zero, List.set_cons_succ] <;> rfl); clear HS; refine pl 20 (some 100) ?_; refine pl 21 (some 101) ?_; refine pl 22 (some 102) ?_; refine pl 23 (some 8) ?_; refine done_ (done_of HT_.out (by kernel_rfl)) ?_
    go_wp2_with fail
    go_ret
    exact ⟨by first | rfl | (simp; done) | (simp [*]; done), below_step HB.out hHeld⟩
  · subst he1; subst he2; have WS1 := Aside0.mk hs1; clear hs1; subst hy2
    go_upto_region 12 with (fail)
    refine start_ (n := 24) (S := fun W' => Below wc.heap.size wc W') (ds := []) #[false, false, false, false, false, false, false, false, false, false, false, false, false, false, false, false, false, false, false, false, false, false, false, false] (by kernel_rfl) rfl rfl (below_drew (Below.refl wc.heap.size wc)) (fun hHeld => ?_); refine with_tabW wr12_tab wr12_bits (fun HT_ HW_ => ?_); refine pl 0 (some 80) ?_; refine pl 1 (some 81) ?_; refine pl 2 (some 82) ?_; refine pl 3 (some 83) ?_; refine pl 4 (some 84) ?_; refine pl 5 (some 85) ?_; refine qj 6 (some 86) rfl rfl q_14 ?_; refine qj 7 (some 87) rfl rfl q_14 ?_; refine on_ (i := 8) (N := some 88) rfl rfl (one_of HT_.out (by kernel_rfl)) (by decide) (fun K hK => ?_); refine goes_ Try.func24 (by kernel_rfl) rfl #[.agg #[.int .u32 n1, .slice AX1 x1.length cX1]] (by rfl) rfl rfl q_34 ?_; refine (tidemarkref04_Write.calls k n1 AX1 cX1 x1 s1 _ (Kd.C_below (Kd.S_reads' X1.out).2.2 hHeld) (Kd.S_reads' X1.out).2.1 WS1.out).mono ?_; rintro e w' ⟨rfl, hb⟩; refine ⟨_, rfl, ?_⟩; have HS := Aside0.mk (below_step hHeld hb); clear hb hHeld; refine hK.out _ _ (HS.out) (fun hHeld => ?_); clear hK K; refine norm_ (a' := ?_) ?_ ?_; rotate_left; (focus show Act.put _ (some 88) _ = _; simp only [Act.put, List.setIfInBounds_toArray, List.set_cons_zero, List.set_cons_succ] <;> rfl); clear HS; refine pl 9 (some 89) ?_; refine pl 10 (some 90) ?_; refine pl 11 (some 91) ?_; refine pl 12 (some 92) ?_; refine pl 13 (some 93) ?_; refine pl 14 (some 94) ?_; refine pl 15 (some 95) ?_; refine oj 16 (some 96) ?_; refine oj 17 (some 97) ?_; refine oj 18 (some 98) ?_; refine oj 19 (some 99) ?_; refine oj 20 (some 100) ?_; refine pl 21 (some 101) ?_; refine pl 22 (some 102) ?_; refine pl 23 (some 8) ?_; refine done_ (done_of HT_.out (by kernel_rfl)) ?_
    go_wp2_with fail
    go_ret
    exact ⟨by first | rfl | (simp; done) | (simp [*]; done), below_step HB.out hHeld⟩
  · subst he1; subst he2; subst hy1; have WS2 := Aside0.mk hs2; clear hs2
    go_upto_region 12 with (fail)
    refine start_ (n := 24) (S := fun W' => Below wc.heap.size wc W') (ds := []) #[false, false, false, false, false, false, false, false, false, false, false, false, false, false, false, false, false, false, false, false, false, false, false, false] (by kernel_rfl) rfl rfl (below_drew (Below.refl wc.heap.size wc)) (fun hHeld => ?_); refine with_tabW wr12_tab wr12_bits (fun HT_ HW_ => ?_); refine pl 0 (some 80) ?_; refine pl 1 (some 81) ?_; refine pl 2 (some 82) ?_; refine pl 3 (some 83) ?_; refine pl 4 (some 84) ?_; refine oj 5 (some 85) ?_; refine oj 6 (some 86) ?_; refine oj 7 (some 87) ?_; refine oj 8 (some 88) ?_; refine oj 9 (some 89) ?_; refine pl 10 (some 90) ?_; refine pl 11 (some 91) ?_; refine pl 12 (some 92) ?_; refine pl 13 (some 93) ?_; refine pl 14 (some 94) ?_; refine pl 15 (some 95) ?_; refine pl 16 (some 96) ?_; refine pl 18 (some 98) ?_; refine qj 17 (some 97) rfl rfl q_14 ?_; refine on_ (i := 19) (N := some 99) rfl rfl (one_of HT_.out (by kernel_rfl)) (by decide) (fun K hK => ?_); refine goes_ Try.func25 (by kernel_rfl) rfl #[.slice AX2 x2.length cX2] (by rfl) rfl rfl q_34 ?_; refine (tidemarkref04_WriteRows.calls k AX2 cX2 x2 s2 _ (Kd.C_below (Kd.R_reads' X2.out).2.2 hHeld) (Kd.R_reads' X2.out).2.1 WS2.out).mono ?_; rintro e w' ⟨rfl, hb⟩; refine ⟨_, rfl, ?_⟩; have HS := Aside0.mk (below_step hHeld hb); clear hb hHeld; refine hK.out _ _ (HS.out) (fun hHeld => ?_); clear hK K; refine norm_ (a' := ?_) ?_ ?_; rotate_left; (focus show Act.put _ (some 99) _ = _; simp only [Act.put, List.setIfInBounds_toArray, List.set_cons_zero, List.set_cons_succ] <;> rfl); clear HS; refine pl 20 (some 100) ?_; refine pl 21 (some 101) ?_; refine pl 22 (some 102) ?_; refine pl 23 (some 8) ?_; refine done_ (done_of HT_.out (by kernel_rfl)) ?_
    go_wp2_with fail
    go_ret
    exact ⟨by first | rfl | (simp; done) | (simp [*]; done), below_step HB.out hHeld⟩
  · subst he1; subst he2; subst hy1; subst hy2
    go_upto_region 12 with (fail)
    refine start_ (n := 24) (S := fun W' => Below wc.heap.size wc W') (ds := []) #[false, false, false, false, false, false, false, false, false, false, false, false, false, false, false, false, false, false, false, false, false, false, false, false] (by kernel_rfl) rfl rfl (below_drew (Below.refl wc.heap.size wc)) (fun hHeld => ?_); refine with_tabW wr12_tab wr12_bits (fun HT_ HW_ => ?_); refine pl 0 (some 80) ?_; refine pl 1 (some 81) ?_; refine pl 2 (some 82) ?_; refine pl 3 (some 83) ?_; refine pl 4 (some 84) ?_; refine oj 5 (some 85) ?_; refine oj 6 (some 86) ?_; refine oj 7 (some 87) ?_; refine oj 8 (some 88) ?_; refine oj 9 (some 89) ?_; refine pl 10 (some 90) ?_; refine pl 11 (some 91) ?_; refine pl 12 (some 92) ?_; refine pl 13 (some 93) ?_; refine pl 14 (some 94) ?_; refine pl 15 (some 95) ?_; refine oj 16 (some 96) ?_; refine oj 17 (some 97) ?_; refine oj 18 (some 98) ?_; refine oj 19 (some 99) ?_; refine oj 20 (some 100) ?_; refine pl 21 (some 101) ?_; refine pl 22 (some 102) ?_; refine pl 23 (some 8) ?_; refine done_ (done_of HT_.out (by kernel_rfl)) ?_
    go_wp2_with fail
    go_ret
    exact ⟨by first | rfl | (simp; done) | (simp [*]; done), below_step HB.out hHeld⟩
theorem writes_row (n1 : Int) (l1 : List S47) (A1 : Option Addr) (c1 : Nat) (l2 : List S57) (A2 : Option Addr) (c2 : Nat) (ka kb : S28) (W : World)
 (hl1 : l1.length ≤ c1) (hC1 : Kd.C k47 W A1 l1.length l1) (F1 : okEpoch (n1, l1)) (hl2 : l2.length ≤ c2) (hC2 : Kd.C k57 W A2 l2.length l2) (F2 : okRows l2) (Fa : okKey ka) (Fb : okKey kb) :
 Calls Try.prog 3 #[.agg #[.int .u32 n1, .slice A1 l1.length c1], .slice A2 l2.length c2, .agg #[.int .u8 ka.f0, .string ka.f1], .agg #[.int .u8 kb.f0, .string kb.f1]] W fun e W' => e = .returned (.bool true) ∧ Below W.heap.size W W' := by
 have w1 := few_w F1; have w2 := fewRows_w F2; have len1 := few_len l1; have len2 := fewRows_len l2
 have hcl : ∀ t ∈ (l1.take 70).map cutTxn, t.f1.length ≤ 100000 := fun t ht => by
  obtain ⟨u, _, rfl⟩ := List.mem_map.1 ht
  show ((u.f1.take 40).map cutChange).length ≤ 100000
  rw [List.length_map, List.length_take]; omega
 obtain ⟨a, f, K1, E1, D1⟩ := enc_two n1 _ w1; obtain ⟨b, p, K2, E2, D2⟩ := encR_two _ w2 (by omega); obtain ⟨K3, r1, R1, Q1⟩ := refRight_f n1 _ w1 (by omega) hcl; obtain ⟨K4, r2, R2, Q2⟩ := refRows_f _ w2 (by omega)
 obtain rfl : r1 = f := by
  rcases D1 with ⟨rfl, g, _⟩ | ⟨rfl, g, _⟩
  · rcases Q1 with ⟨h, _⟩ | ⟨_, h⟩
    · exact h
    · exact absurd g h
  · rcases Q1 with ⟨_, h⟩ | ⟨h, _⟩
    · exact absurd h g
    · exact h
 obtain rfl : r2 = p := by
  rcases D2 with ⟨rfl, g, _⟩ | ⟨rfl, g, _⟩
  · rcases Q2 with ⟨h, _⟩ | ⟨_, h⟩
    · exact h
    · exact absurd g h
  · rcases Q2 with ⟨_, h⟩ | ⟨h, _⟩
    · exact absurd h g
    · exact h
 have W1 : ∃ K5, ∀ k, K5 ≤ k → (r1 = 0 ∧ ∃ s1, tidemarkref04_Write.f k n1 ((l1.take 70).map cutTxn) = some s1 ∧ ((strOfNums a).toList == s1.toList) = true) ∨ (r1 = 1 ∧ a = []) := by
  rcases D1 with ⟨rfl, g, rfl⟩ | ⟨rfl, g, rfl⟩
  · obtain ⟨K, hK⟩ := write_f _ _ g; exact ⟨K, fun k hk => .inl ⟨rfl, _, hK k hk, by simp⟩⟩
  · exact ⟨0, fun k _ => .inr ⟨rfl, rfl⟩⟩
 have W2 : ∃ K6, ∀ k, K6 ≤ k → (r2 = 0 ∧ ∃ s1, tidemarkref04_WriteRows.f k ((l2.take 60).map cutRow) = some s1 ∧ ((strOfNums b).toList == s1.toList) = true) ∨ (r2 = 1 ∧ b = []) := by
  rcases D2 with ⟨rfl, g, rfl⟩ | ⟨rfl, g, rfl⟩
  · obtain ⟨K, hK⟩ := writeR_f _ g (by omega); exact ⟨K, fun k hk => .inl ⟨rfl, _, hK k hk, by simp⟩⟩
  · exact ⟨0, fun k _ => .inr ⟨rfl, rfl⟩⟩
 obtain ⟨K5, H5⟩ := W1; obtain ⟨K6, H6⟩ := W2; refine writes_walk (K1 + K2 + K3 + K4 + K5 + K6 + 3) n1 l1 A1 c1 l2 A2 c2 ka kb W _ _ a b r1 r2 (lessB ka kb) ⟨hl1⟩ ⟨hC1⟩ ⟨hl2⟩ ⟨hC2⟩ ⟨rfl⟩ ⟨rfl⟩ ⟨E1 _ (by omega)⟩ ⟨E2 _ (by omega)⟩ ⟨R1 _ (by omega)⟩ ⟨R2 _ (by omega)⟩ ⟨?_⟩ ⟨?_⟩ ⟨less_k _ (by omega) ka kb⟩ ⟨refLess_f ka kb⟩ ⟨H5 _ (by omega)⟩ ⟨H6 _ (by omega)⟩
 · rw [right_f]; rcases D1 with ⟨rfl, g, _⟩ | ⟨rfl, g, _⟩
   · rw [(right_iff _ _ w1).2 g]; rfl
   · have : rightB n1 ((l1.take 70).map cutTxn) = false := by
      cases hr : rightB n1 ((l1.take 70).map cutTxn) with
      | false => rfl
      | true => exact absurd ((right_iff _ _ w1).1 hr) g
     rw [this]; rfl
 · rw [rowsB_f _ (by omega)]; rcases D2 with ⟨rfl, g, _⟩ | ⟨rfl, g, _⟩
   · rw [(rows_iff _ w2).2 g]; rfl
   · have : rowsB ((l2.take 60).map cutRow) = false := by
      cases hr : rowsB ((l2.take 60).map cutRow) with
      | false => rfl
      | true => exact absurd ((rows_iff _ w2).1 hr) g
     rw [this]; rfl
end Go.Proofs.Ytgmdoapedhppmaa.PC
