/- Texts of this session in one: HPureParts. Plain functions, and that the program's come to them. -/
import Derived.Test.YtgmdoapedhppmaaBCodecParts0
import Derived.Test.YtgmdoapedhppmaaBCodecParts1
import Derived.Test.YtgmdoapedhppmaaBCodecParts2

/- CodecParts: rows that are cut are right on both sides, and in no other order; of any rows, cut anywhere. Walked by hand over plain facts. -/
namespace Go.Proofs.Ytgmdoapedhppmaa.PC
set_option linter.unusedVariables false
set_option linter.unusedSimpArgs false
open Go.RowKit Go.Proofs.Ytgmdoapedhppmaa.Code Go.Proofs.YtgmdoapedhppmaaW.PrintWords Go.Proofs.YtgmdoapedhppmaaW.PrintLast Go.Proofs.YtgmdoapedhppmaaW.PrintMore
attribute [local go_sem] max2_int min2_int max_two min_two max_three min_three max_four min_four
def par6_T : Bool × List (List Nat × List Nat) := (true, [([], []), ([], []), ([], []), ([1, 2], [1, 2]), ([0, 3], [0, 3]), ([], []), ([], []), ([5, 6], [5, 6]), ([4, 7, 4], [4, 7]), ([8, 8, 0, 1, 2, 3, 4, 5, 6, 7, 8], [8])])
def par6_B : List Nat := [0, 0, 0, 6, 15, 0, 0, 96, 255, 511]
theorem par6_tab : rtab .any (opsOf Try.f8 6) = par6_T := by kernel_rfl
theorem par6_bits : waitsOk par6_T.2 par6_B = true := by kernel_rfl
def par9_T : Bool × List (List Nat × List Nat) := (true, [([], []), ([], []), ([], []), ([1, 2], [1, 2]), ([0, 3], [0, 3]), ([], []), ([], []), ([5, 6], [5, 6]), ([7], [7]), ([8], [8]), ([4, 9, 4], [4, 9]), ([], []), ([], []), ([11, 12], [11, 12]), ([10, 13, 10], [10, 13]), ([14, 14, 0, 1, 2, 3, 4, 5, 6, 7, 8, 9, 10, 11, 12, 13, 14], [14])])
def par9_B : List Nat := [0, 0, 0, 6, 15, 0, 0, 96, 224, 480, 1023, 0, 0, 6144, 16383, 32767]
theorem par9_tab : rtab .any (opsOf Try.f8 9) = par9_T := by kernel_rfl
theorem par9_bits : waitsOk par9_T.2 par9_B = true := by kernel_rfl
theorem k57_M {w w' : World} {b : Nat} {ok : Nat → Prop} {x : S57} {cs : List Value} (h : k57.K w x cs) : k57.M w' b ok x cs := by
  obtain rfl := k57_open h
  exact ⟨_, _, rfl, ⟨_, _, rfl, rfl, rfl⟩, rfl⟩
theorem reps57 (w : World) (b : Nat) (ok : Nat → Prop) (x : S57) : Reps (k57.M w b ok) k57.sz [x] [.int .u8 x.f0.f0, .string x.f0.f1, .string x.f1] := Reps.c3 (k57_mkM w b ok x) (Reps.none _ _)
theorem right_at {A : Option Addr} {n c : Nat} {l : List S57} {r : Int} {w : World} (hn : l.length = n) (hC : Kd.C k57 w A n l) (hc : l.length ≤ c) (h : codec_RightRows.f l = some r) :
    Calls Try.prog 21 #[.slice A n c] w fun e w' => e = .returned (.int .i64 r) ∧ Below w.heap.size w w' := by
  subst hn
  exact codec_RightRows.calls _ _ _ _ _ hC hc h
theorem right_is (l : List S57) (b : Bool) (hb : rowsB l = b) (hl : l.length ≤ 200) : codec_RightRows.f l = some (if b then 0 else 1) := by
  unfold codec_RightRows.f
  rw [if_pos (by omega), hb]
theorem ne_new {u r : Value} {n : Nat} (hu : ∀ k, u.ownBlock = some k → k < n) (hr : ∃ b, r.ownBlock = some b ∧ n ≤ b) : ∀ k, u.ownBlock = some k → some k ≠ r.ownBlock := by
  obtain ⟨b, e, hb⟩ := hr
  intro k hk he
  have := hu k hk
  rw [e] at he
  injection he with he
  omega
theorem ne_old {u r : Value} {n : Nat} (hr : ∀ k, r.ownBlock = some k → k < n) (hu : ∃ b, u.ownBlock = some b ∧ n ≤ b) : ∀ k, u.ownBlock = some k → some k ≠ r.ownBlock := by
  obtain ⟨b, e, hb⟩ := hu
  intro k hk he
  have := hr k he.symm
  rw [e] at hk
  injection hk with hk
  omega
section
variable {P : Program} {ops : Array Oper} {Q : Exit → Act → World → Prop} {S : World → Prop} {ds : List Nat} {md : Region.Mode}
theorem tw_ {i j : Nat} {Ni Nj : Option Tmp} {oi oj : Oper} {fuel : Nat} {l : Array Bool} {a : Act} {w : World} (hi : ops[i]? = some oi) (hj : ops[j]? = some oj) (hNi : oi.dst = Ni) (hNj : oj.dst = Nj)
    (hc : (Region.ready md ops l == [i, j] && l.setIfInBounds i true == l.setIfInBounds i true && l.setIfInBounds j true == l.setIfInBounds j true) = true) (hdi : i ∉ ds) (hdj : j ∉ ds)
    (h1 : ∀ K : Act → World → Prop, Shut (∀ a' w', S w' → (S w' → wpAnyLast P md ops Q S ds fuel (l.setIfInBounds i true) a' w') → K a' w') → if Region.wanted oi (yielded ops a.tmps) = true then Oper.wp P oi a w K Q else K (a.put Ni undef) w)
    (h2 : ∀ K : Act → World → Prop, Shut (∀ a' w', S w' → (S w' → wpAnyLast P md ops Q S ds fuel (l.setIfInBounds j true) a' w') → K a' w') → if Region.wanted oj (yielded ops a.tmps) = true then Oper.wp P oj a w K Q else K (a.put Nj undef) w) :
    wpAnyLast P md ops Q S ds (fuel + 1) l a w := two_ _ _ hi hj hNi hNj hc hdi hdj h1 h2
end
set_option maxRecDepth 100000 in
set_option maxHeartbeats 4000000 in
theorem parts_walk (l1 : List S57) (A1 : Option Addr) (c1 : Nat) (a : Int) (w : World) (x : List S57) (e : Int)
    (hl1 : Aside0 (l1.length ≤ c1)) (hC1 : Aside0 (Kd.C k57 w A1 l1.length l1)) (E1 : Aside0 (tidemarklaw04_fewRows.f l1 = some x)) (ER : Aside0 (codec_RightRows.f x = some e))
    (HD : Aside0 (e = 1 ∨ (e = 0 ∧ x = []) ∨ (e = 0 ∧ 0 < x.length ∧ x.length ≤ 60 ∧ rowsB x = true))) :
    Calls Try.prog 8 #[.slice A1 l1.length c1, .int .i64 a] w fun e w' => e = .returned (.bool true) ∧ Below w.heap.size w w' := by
  have HB := Aside0.mk (Below.refl w.heap.size w)
  go_enter Try.func8, Try.ntmps8
  go_wp2_with fail
  refine (tidemarklaw04_shown.calls true _ rfl).mono ?_
  rintro e w1 ⟨rfl, hb⟩
  have Hb := Aside0.mk hb; clear hb
  have HB_ := Aside0.mk (below_step HB.out Hb.out); clear HB; have HB := HB_; clear HB_
  clear Hb
  go_wp2_with fail
  refine (tidemarklaw04_fewRows.calls A1 c1 l1 x _ (Kd.C_below hC1.out HB.out) hl1.out E1.out).mono ?_
  rintro e w2 ⟨v2, rfl, hr, hb⟩
  obtain ⟨AX, cX, rfl⟩ := Kd.R_slice hr
  have Hb := Aside0.mk hb; have Hr := Aside0.mk hr; clear hb hr
  have X := Aside0.mk (Kd.R_lower Hr.out HB.out.size); clear Hr
  have HB_ := Aside0.mk (below_step HB.out Hb.out); clear HB; have HB := HB_; clear HB_
  clear Hb
  go_wp2_with fail
  refine (codec_RightRows.calls AX cX x e _ (Kd.R_reads' X.out).2.2 (Kd.R_reads' X.out).2.1 ER.out).mono ?_
  rintro e w3 ⟨rfl, hb⟩
  have Hb := Aside0.mk hb; clear hb
  have HB_ := Aside0.mk (below_step HB.out Hb.out); clear HB; have HB := HB_; clear HB_
  have X_ := Aside0.mk (Kd.R_below X.out Hb.out); clear X; have X := X_; clear X_
  clear Hb
  rcases HD.out with rfl | ⟨rfl, rfl⟩ | ⟨rfl, h0, h60, hB⟩
  · go_wp2_with fail
    go_ret
    exact ⟨by first | rfl | (simp; done) | (simp [*]; done), HB.out⟩
  · go_wp2_with fail
    go_ret
    exact ⟨by first | rfl | (simp; done) | (simp [*]; done), HB.out⟩
  · have hne : ((x.length : Int) == 0) = false := beq_eq_false_iff_ne.2 (by omega)
    have hdz : (wrap64 ((x.length : Int) + 1) = 0) = False := eq_false (by unfold wrap64; omega)
    have hdw : wrap64 ((x.length : Int) + 1) = (x.length : Int) + 1 := by unfold wrap64; omega
    have hdx : ((x.length : Int) + 1 = 0) = False := eq_false (by omega)
    have H0 := Aside0.mk h0
    have H60 := Aside0.mk h60
    have HR := Aside0.mk hB
    clear h0 h60 hB
    go_upto_region 6 with (fail)
    obtain ⟨m, hm, hmx⟩ := at_cut a x.length
    rw [hm]
    have HM := Aside0.mk hmx
    have hm1 : (m : Int) ≤ (x.length : Int) := by omega
    have hm0 : (0 : Int) ≤ (m : Int) := Int.natCast_nonneg m
    have hmc : m ≤ cX := Nat.le_trans hmx (Kd.R_reads' X.out).2.1
    clear hm
    have CDm : Aside0 (Kd.C k57 w3 (if cX = m then AX else AX.map (·.add (m * 3))) (x.length - m) (x.drop m)) := ⟨by have h := Kd.C_drop (c := cX) (Kd.R_reads' X.out).2.2 hmx (Kd.R_reads' X.out).2.1; rw [List.length_drop] at h; exact h⟩
    have CTm : Aside0 (Kd.C k57 w3 AX m (x.take m)) := ⟨by have h := Kd.C_take (Kd.R_reads' X.out).2.2 hmx; rw [List.length_take, Nat.min_eq_left hmx] at h; exact h⟩
    refine start_ (n := 10) (S := fun W' => Below w3.heap.size w3 W') (ds := []) #[false, false, false, false, false, false, false, false, false, false] (by kernel_rfl) rfl rfl (below_drew (Below.refl w3.heap.size w3)) (fun hHeld => ?_)
    refine with_tabW par6_tab par6_bits (fun HT_ HW_ => ?_)
    refine pu_ (i := 1) (N := some 29) (v := ?_) (a' := ?_) rfl rfl (any_of HT_.out (by kernel_rfl)) (by rfl) ?_ ?_ ?_; rotate_left; (focus intro w'; go_simp; all_goals with_reducible rfl); rotate_left; (focus simp only [Act.put, List.setIfInBounds_toArray, List.set_cons_zero, List.set_cons_succ] <;> rfl)
    refine pu_ (i := 2) (N := some 30) (v := ?_) (a' := ?_) rfl rfl (any_of HT_.out (by kernel_rfl)) (by rfl) ?_ ?_ ?_; rotate_left; (focus intro w'; go_simp; all_goals with_reducible rfl); rotate_left; (focus simp only [Act.put, List.setIfInBounds_toArray, List.set_cons_zero, List.set_cons_succ] <;> rfl)
    refine pu_ (i := 3) (N := some 31) (v := ?_) (a' := ?_) rfl rfl (any_of HT_.out (by kernel_rfl)) (by rfl) ?_ ?_ ?_; rotate_left; (focus intro w'; go_simp; all_goals with_reducible rfl); rotate_left; (focus simp only [Act.put, List.setIfInBounds_toArray, List.set_cons_zero, List.set_cons_succ] <;> rfl)
    refine pu_ (i := 5) (N := some 33) (v := ?_) (a' := ?_) rfl rfl (any_of HT_.out (by kernel_rfl)) (by rfl) ?_ ?_ ?_; rotate_left; (focus intro w'; go_simp; all_goals with_reducible rfl); rotate_left; (focus simp only [Act.put, List.setIfInBounds_toArray, List.set_cons_zero, List.set_cons_succ] <;> rfl)
    refine pu_ (i := 6) (N := some 34) (v := ?_) (a' := ?_) rfl rfl (any_of HT_.out (by kernel_rfl)) (by rfl) ?_ ?_ ?_; rotate_left; (focus intro w'; go_simp; all_goals with_reducible rfl); rotate_left; (focus simp only [Act.put, List.setIfInBounds_toArray, List.set_cons_zero, List.set_cons_succ] <;> rfl)
    refine pu_ (i := 7) (N := some 35) (v := ?_) (a' := ?_) rfl rfl (any_of HT_.out (by kernel_rfl)) (by rfl) ?_ ?_ ?_; rotate_left; (focus intro w'; go_simp; all_goals with_reducible rfl); rotate_left; (focus simp only [Act.put, List.setIfInBounds_toArray, List.set_cons_zero, List.set_cons_succ] <;> rfl)
    refine on_ (i := 0) (N := some 28) rfl rfl (one_of HT_.out (by kernel_rfl)) (by decide) (fun K hK => ?_)
    refine Kd.R_lit_step k57 (w0 := w3) w3.heap.size 57 (by rfl) (N := 28) ?hd (xs := []) (inner := []) (ok := fun _ => True) (okp := fun _ => True) ?hr ?hp (fun _ hk => hk) trivial hHeld hHeld.size (by simp) ?_; (case hd => rfl); (case hr => first | (go_simp; done) | (go_simp; rfl)); (case hp => exact (Reps.none _ _)); intro vta wta ho hb hg_ hnew_; have HOta := Aside0.mk ho; have HBta := Aside0.mk hb; clear hg_ hnew_ hb ho
    refine hK.out _ _ (HBta.out) (fun hHeld => ?_); clear hK K; refine norm_ (a' := ?_) ?_ ?_; rotate_left; (focus show Act.put _ (some 28) _ = _; simp only [Act.put, List.setIfInBounds_toArray, List.set_cons_zero, List.set_cons_succ] <;> rfl)
    refine on_ (i := 4) (N := some 32) rfl rfl (one_of HT_.out (by kernel_rfl)) (by decide) (fun K hK => ?_)
    refine Kd.R_append_rows_step k57 (Rr := k57.K wta) (w0 := w3) w3.heap.size (by rfl) (.tmp 28) (.tmp 31) 26 57 (.agg #[(.int .u8 0), (.string ⟨#[]⟩), (.string ⟨#[]⟩)]) 40 rfl Try.underlying26 info57 rfl (by decide) (by omega) vta ([] : List S57) (x.drop m) _ _ _ (fun _ => True) (fun _ => False) rfl rfl ?aO ?aR (fun _ _ h => k57_M h) (fun _ h => h.elim) ?aF ?aB ?aS ?aL ?_; (case aO => exact HOta.out); (case aR => exact Kd.C_below CDm.out hHeld); (case aF => exact (fun _ _ => trivial)); (case aB => exact HBta.out); (case aS => exact HBta.out.size); (case aL => have := H60.out; simp only [List.nil_append, List.length_drop, List.length_take, List.length_append, List.length_nil, List.length_cons]; omega)
    intro vtb wtb ho hb hg_ hat_; have HOtb_ := Aside0.mk ho; have HBtb_ := Aside0.mk hb; clear hg_ hat_ hb ho HOta HBta; have HOtb := HOtb_; have HBtb := HBtb_; clear HOtb_ HBtb_
    refine hK.out _ _ (HBtb.out) (fun hHeld => ?_); clear hK K; refine norm_ (a' := ?_) ?_ ?_; rotate_left; (focus show Act.put _ (some 32) _ = _; simp only [Act.put, List.setIfInBounds_toArray, List.set_cons_zero, List.set_cons_succ] <;> rfl)
    refine on_ (i := 8) (N := some 36) rfl rfl (one_of HT_.out (by kernel_rfl)) (by decide) (fun K hK => ?_)
    refine Kd.R_append_rows_step k57 (Rr := k57.K wtb) (w0 := w3) w3.heap.size (by rfl) (.tmp 32) (.tmp 35) 26 57 (.agg #[(.int .u8 0), (.string ⟨#[]⟩), (.string ⟨#[]⟩)]) 40 rfl Try.underlying26 info57 rfl (by decide) (by omega) vtb ([] ++ x.drop m) (x.take m) _ _ _ (fun _ => True) (fun _ => False) rfl rfl ?aO ?aR (fun _ _ h => k57_M h) (fun _ h => h.elim) ?aF ?aB ?aS ?aL ?_; (case aO => exact HOtb.out); (case aR => exact Kd.C_below CTm.out hHeld); (case aF => exact (fun _ _ => trivial)); (case aB => exact HBtb.out); (case aS => exact HBtb.out.size); (case aL => have := H60.out; simp only [List.nil_append, List.length_drop, List.length_take, List.length_append, List.length_nil, List.length_cons]; omega)
    intro vtc wtc ho hb hg_ hat_; have HOtc_ := Aside0.mk ho; have HBtc_ := Aside0.mk hb; clear hg_ hat_ hb ho HOtb HBtb; have HOtc := HOtc_; have HBtc := HBtc_; clear HOtc_ HBtc_
    refine hK.out _ _ (HBtc.out) (fun hHeld => ?_); clear hK K; refine norm_ (a' := ?_) ?_ ?_; rotate_left; (focus show Act.put _ (some 36) _ = _; simp only [Act.put, List.setIfInBounds_toArray, List.set_cons_zero, List.set_cons_succ] <;> rfl)
    refine pu_ (i := 9) (N := some 6) (v := ?_) (a' := ?_) rfl rfl (any_of HT_.out (by kernel_rfl)) (by rfl) ?_ ?_ ?_; rotate_left; (focus intro w'; go_simp; all_goals with_reducible rfl); rotate_left; (focus simp only [Act.put, List.setIfInBounds_toArray, List.set_cons_zero, List.set_cons_succ] <;> rfl)
    refine done_ (done_of HT_.out (by kernel_rfl)) ?_
    obtain ⟨AT, cT, rfl⟩ := Kd.R_slice HOtc.out
    clear CDm CTm
    have Hb := HBtc; clear HBtc
    have T := Aside0.mk (Kd.R_lower HOtc.out (HB.out.size)); clear HOtc
    have HB_ := Aside0.mk (below_step HB.out Hb.out); clear HB; have HB := HB_; clear HB_
    have X_ := Aside0.mk (Kd.R_below X.out Hb.out); clear X; have X := X_; clear X_
    clear Hb
    generalize htn : ([] ++ x.drop m) ++ x.take m = tn at T ⊢
    have HTN := Aside0.mk htn; clear htn
    try generalize (if cX = m then AX else Option.map (fun x => x.add (m * 3)) AX) = AD0
    go_upto_region 7 with (fail)
    go_cut [7] (fun v7 wc => v7 = .bool (decide (m = 0 ∨ m = x.length)) ∧ Aside0 (Below wtc.heap.size wtc wc))
    case first =>
      by_cases hz : m = 0
      · have hz1 : ((m : Int) == 0) = true := beq_iff_eq.2 (by omega)
        go_wp2_with fail
        go_meet
        exact ⟨by simp [hz], ⟨Below.refl _ _⟩⟩
      · have hz1 : ((m : Int) == 0) = false := beq_eq_false_iff_ne.2 (by omega)
        go_wp2_with fail
        go_meet
        exact ⟨by simp [hz]; by_cases he : m = x.length <;> simp [he] <;> omega, ⟨Below.refl _ _⟩⟩
    case rest =>
      obtain ⟨rfl, hcb⟩ := hcut
      generalize hwb : decide (m = 0 ∨ m = x.length) = wb
      have HWB := Aside0.mk hwb; clear hwb
      have Hb := hcb; clear hcb
      rename_i wc
      have HB_ := Aside0.mk (below_step HB.out Hb.out); clear HB; have HB := HB_; clear HB_
      have X_ := Aside0.mk (Kd.R_below X.out Hb.out); clear X; have X := X_; clear X_
      have T_ := Aside0.mk (Kd.R_below T.out Hb.out); clear T; have T := T_; clear T_
      clear Hb
      go_upto_region 9 with (fail)
      obtain ⟨q, hq, hqx⟩ := mid_cut m x.length H0.out H60.out
      rw [hq]
      clear hq
      have hq0 : (0 : Int) ≤ (q : Int) := Int.natCast_nonneg q
      have hq1 : (q : Int) < (x.length : Int) := by omega
      have hqc : q ≤ cX := Nat.le_trans (Nat.le_of_lt hqx) (Kd.R_reads' X.out).2.1
      have hqle : q ≤ x.length := Nat.le_of_lt hqx
      clear hm0 hm1 hmc
      have CDq : Aside0 (Kd.C k57 wc (if cX = q then AX else AX.map (·.add (q * 3))) (x.length - q) (x.drop q)) := ⟨by have h := Kd.C_drop (c := cX) (Kd.R_reads' X.out).2.2 hqle (Kd.R_reads' X.out).2.1; rw [List.length_drop] at h; exact h⟩
      have CTq : Aside0 (Kd.C k57 wc AX q (x.take q)) := ⟨by have h := Kd.C_take (Kd.R_reads' X.out).2.2 hqle; rw [List.length_take, Nat.min_eq_left hqle] at h; exact h⟩
      obtain ⟨ad, ead, hz0, hz1, hz2⟩ := at_T57 (Kd.R_reads' X.out).2.2 (q : Int) hq0 hq1
      cases ead
      simp only [Int.toNat_natCast] at hz0 hz1 hz2
      obtain ⟨r0, hr0⟩ : ∃ r0, rd_T57 x (q : Int) = r0 := ⟨_, rfl⟩
      rw [hr0] at hz0 hz1 hz2
      obtain ⟨⟨tb, nm⟩, vv⟩ := r0
      have HR0 := Aside0.mk hr0
      clear hr0
      simp only at hz0 hz1 hz2
      obtain ⟨tw, htw⟩ : ∃ tw, (([] ++ x.take q) ++ [(⟨⟨tb, nm⟩, vv⟩ : S57)]) ++ x.drop q = tw := ⟨_, rfl⟩
      have HTW := Aside0.mk htw
      clear htw
      have px := eq_true hq0
      have qx := eq_true hq1
      go_cut [9] (fun v9 wd => ∃ AV cV, v9 = .slice AV tw.length cV ∧ Aside0 (Kd.R k57 57 wd wc.heap.size (fun _ => True) (.slice AV tw.length cV) tw) ∧ Aside0 (Below wc.heap.size wc wd))
      case first =>
        refine start_ (n := 16) (S := fun W' => Below wc.heap.size wc W') (ds := []) #[false, false, false, false, false, false, false, false, false, false, false, false, false, false, false, false] (by kernel_rfl) rfl rfl (below_drew (Below.refl wc.heap.size wc)) (fun hHeld => ?_)
        refine with_tabW par9_tab par9_bits (fun HT_ HW_ => ?_)
        refine pu_ (i := 1) (N := some 51) (v := ?_) (a' := ?_) rfl rfl (any_of HT_.out (by kernel_rfl)) (by rfl) ?_ ?_ ?_; rotate_left; (focus intro w'; go_simp; all_goals with_reducible rfl); rotate_left; (focus simp only [Act.put, List.setIfInBounds_toArray, List.set_cons_zero, List.set_cons_succ] <;> rfl)
        refine pu_ (i := 2) (N := some 52) (v := ?_) (a' := ?_) rfl rfl (any_of HT_.out (by kernel_rfl)) (by rfl) ?_ ?_ ?_; rotate_left; (focus intro w'; go_simp; all_goals with_reducible rfl); rotate_left; (focus simp only [Act.put, List.setIfInBounds_toArray, List.set_cons_zero, List.set_cons_succ] <;> rfl)
        refine pu_ (i := 3) (N := some 53) (v := ?_) (a' := ?_) rfl rfl (any_of HT_.out (by kernel_rfl)) (by rfl) ?_ ?_ ?_; rotate_left; (focus intro w'; go_simp; all_goals with_reducible rfl); rotate_left; (focus simp only [Act.put, List.setIfInBounds_toArray, List.set_cons_zero, List.set_cons_succ] <;> rfl)
        refine pu_ (i := 5) (N := some 55) (v := ?_) (a' := ?_) rfl rfl (any_of HT_.out (by kernel_rfl)) (by rfl) ?_ ?_ ?_; rotate_left; (focus intro w'; go_simp; all_goals with_reducible rfl); rotate_left; (focus simp only [Act.put, List.setIfInBounds_toArray, List.set_cons_zero, List.set_cons_succ] <;> rfl)
        refine pu_ (i := 6) (N := some 56) (v := ?_) (a' := ?_) rfl rfl (any_of HT_.out (by kernel_rfl)) (by rfl) ?_ ?_ ?_; rotate_left; (focus intro w'; go_simp; all_goals with_reducible rfl); rotate_left; (focus simp only [Act.put, List.setIfInBounds_toArray, List.set_cons_zero, List.set_cons_succ] <;> rfl)
        refine pu_ (i := 7) (N := some 57) (v := ?_) (a' := ?_) rfl rfl (any_of HT_.out (by kernel_rfl)) (by rfl) ?_ ?_ ?_; rotate_left; (focus intro w'; go_simp; all_goals with_reducible rfl); rotate_left; (focus simp only [Act.put, List.setIfInBounds_toArray, List.set_cons_zero, List.set_cons_succ] <;> rfl)
        refine pu_ (i := 11) (N := some 61) (v := ?_) (a' := ?_) rfl rfl (any_of HT_.out (by kernel_rfl)) (by rfl) ?_ ?_ ?_; rotate_left; (focus intro w'; go_simp; all_goals with_reducible rfl); rotate_left; (focus simp only [Act.put, List.setIfInBounds_toArray, List.set_cons_zero, List.set_cons_succ] <;> rfl)
        refine pu_ (i := 12) (N := some 62) (v := ?_) (a' := ?_) rfl rfl (any_of HT_.out (by kernel_rfl)) (by rfl) ?_ ?_ ?_; rotate_left; (focus intro w'; go_simp; all_goals with_reducible rfl); rotate_left; (focus simp only [Act.put, List.setIfInBounds_toArray, List.set_cons_zero, List.set_cons_succ] <;> rfl)
        refine pu_ (i := 13) (N := some 63) (v := ?_) (a' := ?_) rfl rfl (any_of HT_.out (by kernel_rfl)) (by rfl) ?_ ?_ ?_; rotate_left; (focus intro w'; go_simp; all_goals with_reducible rfl); rotate_left; (focus simp only [Act.put, List.setIfInBounds_toArray, List.set_cons_zero, List.set_cons_succ] <;> rfl)
        simp only [Option.map_some] at CDq
        generalize (if cX = q then some ad else some (ad.add (q * 3))) = ADq at CDq ⊢
        refine tk_ (i := 8) (N := some 58) (v := ?_) (a' := ?_) rfl rfl (take_ofW HT_.out HW_.out (by kernel_rfl)) hHeld (by rfl) ?_ ?_ ?_; rotate_left; (focus rintro w' s0; have hz0_ := (s0.cell (World.block_lt_of_cell? wc _ hz0)).trans hz0; have hz1_ := (s0.cell (World.block_lt_of_cell? wc _ hz1)).trans hz1; have hz2_ := (s0.cell (World.block_lt_of_cell? wc _ hz2)).trans hz2; go_simp; all_goals with_reducible rfl); rotate_left; (focus simp only [Act.put, List.setIfInBounds_toArray, List.set_cons_zero, List.set_cons_succ] <;> rfl)
        refine tw_ (i := 0) (j := 9) (Ni := some 50) (Nj := some 59) rfl rfl rfl rfl (two_of HT_.out (by kernel_rfl)) (by decide) (by decide) (fun K hK => ?_) (fun K hK => ?_)
        · skip
          refine Kd.R_lit_step k57 (w0 := wc) wc.heap.size 57 (by rfl) (N := 50) ?hd (xs := []) (inner := []) (ok := fun _ => True) (okp := fun _ => True) ?hr ?hp (fun _ hk => hk) trivial hHeld hHeld.size (by simp) ?_; (case hd => rfl); (case hr => first | (go_simp; done) | (go_simp; rfl)); (case hp => exact (Reps.none _ _)); intro vt1 wt1 ho hb hg_ hnew_
          have HOt1 := Aside0.mk ho; have HBt1 := Aside0.mk hb; clear hg_ hnew_ hb ho
          refine hK.out _ _ (HBt1.out) (fun hHeld => ?_); clear hK K; refine norm_ (a' := ?_) ?_ ?_; rotate_left; (focus show Act.put _ (some 50) _ = _; simp only [Act.put, List.setIfInBounds_toArray, List.set_cons_zero, List.set_cons_succ] <;> rfl)
          clear HBt1
          refine tw_ (i := 4) (j := 9) (Ni := some 54) (Nj := some 59) rfl rfl rfl rfl (two_of HT_.out (by kernel_rfl)) (by decide) (by decide) (fun K hK => ?_) (fun K hK => ?_)
          · skip
            refine Kd.R_append_rows_step k57 (Rr := k57.K wt1) (w0 := wc) wc.heap.size (by rfl) (.tmp 50) (.tmp 53) 26 57 (.agg #[(.int .u8 0), (.string ⟨#[]⟩), (.string ⟨#[]⟩)]) 40 rfl Try.underlying26 info57 rfl (by decide) (by omega) vt1 ([] : List S57) (x.take q) _ _ _ (fun _ => True) (fun _ => False) rfl rfl ?aO ?aR (fun _ _ h => k57_M h) (fun _ h => h.elim) ?aF ?aB ?aS ?aL ?_; (case aO => exact HOt1.out); (case aR => exact Kd.C_below CTq.out hHeld); (case aF => exact (fun _ _ => trivial)); (case aB => exact hHeld); (case aS => exact hHeld.size); (case aL => have := H60.out; simp only [List.nil_append, List.length_drop, List.length_take, List.length_append, List.length_nil, List.length_cons]; omega)
            intro vt2 wt2 ho hb hg_ hat_
            have HOt2 := Aside0.mk ho; have HBt2 := Aside0.mk hb; clear hg_ hat_ hb ho HOt1
            refine hK.out _ _ (HBt2.out) (fun hHeld => ?_); clear hK K; refine norm_ (a' := ?_) ?_ ?_; rotate_left; (focus show Act.put _ (some 54) _ = _; simp only [Act.put, List.setIfInBounds_toArray, List.set_cons_zero, List.set_cons_succ] <;> rfl)
            clear HBt2
            refine on_ (i := 9) (N := some 59) rfl rfl (one_of HT_.out (by kernel_rfl)) (by decide) (fun K hK => ?_)
            refine Kd.R_lit_step k57 (w0 := wc) wc.heap.size 57 (by rfl) (N := 59) ?hd (xs := [(⟨⟨tb, nm⟩, vv⟩ : S57)]) (inner := [.int .u8 tb, .string nm, .string vv]) (ok := fun _ => True) (okp := fun _ => True) ?hr ?hp (fun _ hk => hk) trivial hHeld hHeld.size (by simp) ?_; (case hd => rfl); (case hr => first | (go_simp; done) | (go_simp; rfl)); (case hp => exact reps57 _ _ _ (⟨⟨tb, nm⟩, vv⟩ : S57)); intro vt3 wt3 ho hb hg_ hnew_
            have NE := Aside0.mk (ne_new (Kd.R_lt HOt2.out) hnew_)
            have HOt2_ := Aside0.mk (Kd.R_grown2 HOt2.out rfl hg_ (fun _ h => by cases h)); clear HOt2; have HOt2 := HOt2_; clear HOt2_
            have HOt3 := Aside0.mk ho; have HBt3 := Aside0.mk hb; clear hg_ hnew_ hb ho
            refine hK.out _ _ (HBt3.out) (fun hHeld => ?_); clear hK K; refine norm_ (a' := ?_) ?_ ?_; rotate_left; (focus show Act.put _ (some 59) _ = _; simp only [Act.put, List.setIfInBounds_toArray, List.set_cons_zero, List.set_cons_succ] <;> rfl)
            clear HBt3
            refine on_ (i := 10) (N := some 60) rfl rfl (one_of HT_.out (by kernel_rfl)) (by decide) (fun K hK => ?_)
            obtain ⟨Ar, cr, rfl⟩ := Kd.R_slice HOt3.out
            refine Kd.R_append_rows_step k57 (Rr := k57.K wt3) (w0 := wc) wc.heap.size (by rfl) (.tmp 54) (.tmp 59) 26 57 (.agg #[(.int .u8 0), (.string ⟨#[]⟩), (.string ⟨#[]⟩)]) 40 rfl Try.underlying26 info57 rfl (by decide) (by omega) vt2 (([] : List S57) ++ (x.take q)) [(⟨⟨tb, nm⟩, vv⟩ : S57)] _ _ _ (fun _ => True) (fun _ => False) rfl rfl ?aO ?aR (fun _ _ h => k57_M h) (fun _ h => h.elim) ?aF ?aB ?aS ?aL ?_; (case aO => exact HOt2.out); (case aR => exact (Kd.R_reads' HOt3.out).2.2); (case aF => exact (fun _ _ => trivial)); (case aB => exact hHeld); (case aS => exact hHeld.size); (case aL => have := H60.out; simp only [List.nil_append, List.length_drop, List.length_take, List.length_append, List.length_nil, List.length_cons]; omega)
            intro vt4 wt4 ho hb hg_ hat_
            have HOt4 := Aside0.mk ho; have HBt4 := Aside0.mk hb; clear hg_ hat_ hb ho HOt2
            clear HOt3
            refine hK.out _ _ (HBt4.out) (fun hHeld => ?_); clear hK K; refine norm_ (a' := ?_) ?_ ?_; rotate_left; (focus show Act.put _ (some 60) _ = _; simp only [Act.put, List.setIfInBounds_toArray, List.set_cons_zero, List.set_cons_succ] <;> rfl)
            clear HBt4
            refine on_ (i := 14) (N := some 64) rfl rfl (one_of HT_.out (by kernel_rfl)) (by decide) (fun K hK => ?_)
            refine Kd.R_append_rows_step k57 (Rr := k57.K wt4) (w0 := wc) wc.heap.size (by rfl) (.tmp 60) (.tmp 63) 26 57 (.agg #[(.int .u8 0), (.string ⟨#[]⟩), (.string ⟨#[]⟩)]) 40 rfl Try.underlying26 info57 rfl (by decide) (by omega) vt4 ((([] : List S57) ++ (x.take q)) ++ [(⟨⟨tb, nm⟩, vv⟩ : S57)]) (x.drop q) _ _ _ (fun _ => True) (fun _ => False) rfl rfl ?aO ?aR (fun _ _ h => k57_M h) (fun _ h => h.elim) ?aF ?aB ?aS ?aL ?_; (case aO => exact HOt4.out); (case aR => exact Kd.C_below CDq.out hHeld); (case aF => exact (fun _ _ => trivial)); (case aB => exact hHeld); (case aS => exact hHeld.size); (case aL => have := H60.out; simp only [List.nil_append, List.length_drop, List.length_take, List.length_append, List.length_nil, List.length_cons]; omega)
            intro vt5 wt5 ho hb hg_ hat_
            rw [HTW.out] at ho
            obtain ⟨AV, cV, rfl⟩ := Kd.R_slice ho
            have HOt5 := Aside0.mk ho; have HBt5 := Aside0.mk hb; clear hg_ hat_ hb ho HOt4
            refine hK.out _ _ (HBt5.out) (fun hHeld => ?_); clear hK K; refine norm_ (a' := ?_) ?_ ?_; rotate_left; (focus show Act.put _ (some 64) _ = _; simp only [Act.put, List.setIfInBounds_toArray, List.set_cons_zero, List.set_cons_succ] <;> rfl)
            clear HBt5
            refine pu_ (i := 15) (N := some 9) (v := ?_) (a' := ?_) rfl rfl (any_of HT_.out (by kernel_rfl)) (by rfl) ?_ ?_ ?_; rotate_left; (focus intro w'; go_simp; all_goals with_reducible rfl); rotate_left; (focus simp only [Act.put, List.setIfInBounds_toArray, List.set_cons_zero, List.set_cons_succ] <;> rfl)
            refine done_ (done_of HT_.out (by kernel_rfl)) ?_
            go_wp2_with fail
            go_meet
            exact ⟨AV, cV, rfl, HOt5, ⟨hHeld⟩⟩
          · skip
            refine Kd.R_lit_step k57 (w0 := wc) wc.heap.size 57 (by rfl) (N := 59) ?hd (xs := [(⟨⟨tb, nm⟩, vv⟩ : S57)]) (inner := [.int .u8 tb, .string nm, .string vv]) (ok := fun _ => True) (okp := fun _ => True) ?hr ?hp (fun _ hk => hk) trivial hHeld hHeld.size (by simp) ?_; (case hd => rfl); (case hr => first | (go_simp; done) | (go_simp; rfl)); (case hp => exact reps57 _ _ _ (⟨⟨tb, nm⟩, vv⟩ : S57)); intro vt6 wt6 ho hb hg_ hnew_
            have NE := Aside0.mk (ne_new (Kd.R_lt HOt1.out) hnew_)
            have HOt1_ := Aside0.mk (Kd.R_grown2 HOt1.out rfl hg_ (fun _ h => by cases h)); clear HOt1; have HOt1 := HOt1_; clear HOt1_
            have HOt6 := Aside0.mk ho; have HBt6 := Aside0.mk hb; clear hg_ hnew_ hb ho
            refine hK.out _ _ (HBt6.out) (fun hHeld => ?_); clear hK K; refine norm_ (a' := ?_) ?_ ?_; rotate_left; (focus show Act.put _ (some 59) _ = _; simp only [Act.put, List.setIfInBounds_toArray, List.set_cons_zero, List.set_cons_succ] <;> rfl)
            clear HBt6
            refine on_ (i := 4) (N := some 54) rfl rfl (one_of HT_.out (by kernel_rfl)) (by decide) (fun K hK => ?_)
            refine Kd.R_append_rows_step k57 (Rr := k57.K wt6) (w0 := wc) wc.heap.size (by rfl) (.tmp 50) (.tmp 53) 26 57 (.agg #[(.int .u8 0), (.string ⟨#[]⟩), (.string ⟨#[]⟩)]) 40 rfl Try.underlying26 info57 rfl (by decide) (by omega) vt1 ([] : List S57) (x.take q) _ _ _ (fun _ => True) (fun _ => False) rfl rfl ?aO ?aR (fun _ _ h => k57_M h) (fun _ h => h.elim) ?aF ?aB ?aS ?aL ?_; (case aO => exact HOt1.out); (case aR => exact Kd.C_below CTq.out hHeld); (case aF => exact (fun _ _ => trivial)); (case aB => exact hHeld); (case aS => exact hHeld.size); (case aL => have := H60.out; simp only [List.nil_append, List.length_drop, List.length_take, List.length_append, List.length_nil, List.length_cons]; omega)
            intro vt7 wt7 ho hb hg_ hat_
            have HOt6_ := Aside0.mk (Kd.R_grown2 HOt6.out rfl hg_ NE.out); clear HOt6; have HOt6 := HOt6_; clear HOt6_
            have HOt7 := Aside0.mk ho; have HBt7 := Aside0.mk hb; clear hg_ hat_ hb ho HOt1
            clear NE
            refine hK.out _ _ (HBt7.out) (fun hHeld => ?_); clear hK K; refine norm_ (a' := ?_) ?_ ?_; rotate_left; (focus show Act.put _ (some 54) _ = _; simp only [Act.put, List.setIfInBounds_toArray, List.set_cons_zero, List.set_cons_succ] <;> rfl)
            clear HBt7
            refine on_ (i := 10) (N := some 60) rfl rfl (one_of HT_.out (by kernel_rfl)) (by decide) (fun K hK => ?_)
            obtain ⟨Ar, cr, rfl⟩ := Kd.R_slice HOt6.out
            refine Kd.R_append_rows_step k57 (Rr := k57.K wt7) (w0 := wc) wc.heap.size (by rfl) (.tmp 54) (.tmp 59) 26 57 (.agg #[(.int .u8 0), (.string ⟨#[]⟩), (.string ⟨#[]⟩)]) 40 rfl Try.underlying26 info57 rfl (by decide) (by omega) vt7 (([] : List S57) ++ (x.take q)) [(⟨⟨tb, nm⟩, vv⟩ : S57)] _ _ _ (fun _ => True) (fun _ => False) rfl rfl ?aO ?aR (fun _ _ h => k57_M h) (fun _ h => h.elim) ?aF ?aB ?aS ?aL ?_; (case aO => exact HOt7.out); (case aR => exact (Kd.R_reads' HOt6.out).2.2); (case aF => exact (fun _ _ => trivial)); (case aB => exact hHeld); (case aS => exact hHeld.size); (case aL => have := H60.out; simp only [List.nil_append, List.length_drop, List.length_take, List.length_append, List.length_nil, List.length_cons]; omega)
            intro vt8 wt8 ho hb hg_ hat_
            have HOt8 := Aside0.mk ho; have HBt8 := Aside0.mk hb; clear hg_ hat_ hb ho HOt7
            clear HOt6
            refine hK.out _ _ (HBt8.out) (fun hHeld => ?_); clear hK K; refine norm_ (a' := ?_) ?_ ?_; rotate_left; (focus show Act.put _ (some 60) _ = _; simp only [Act.put, List.setIfInBounds_toArray, List.set_cons_zero, List.set_cons_succ] <;> rfl)
            clear HBt8
            refine on_ (i := 14) (N := some 64) rfl rfl (one_of HT_.out (by kernel_rfl)) (by decide) (fun K hK => ?_)
            refine Kd.R_append_rows_step k57 (Rr := k57.K wt8) (w0 := wc) wc.heap.size (by rfl) (.tmp 60) (.tmp 63) 26 57 (.agg #[(.int .u8 0), (.string ⟨#[]⟩), (.string ⟨#[]⟩)]) 40 rfl Try.underlying26 info57 rfl (by decide) (by omega) vt8 ((([] : List S57) ++ (x.take q)) ++ [(⟨⟨tb, nm⟩, vv⟩ : S57)]) (x.drop q) _ _ _ (fun _ => True) (fun _ => False) rfl rfl ?aO ?aR (fun _ _ h => k57_M h) (fun _ h => h.elim) ?aF ?aB ?aS ?aL ?_; (case aO => exact HOt8.out); (case aR => exact Kd.C_below CDq.out hHeld); (case aF => exact (fun _ _ => trivial)); (case aB => exact hHeld); (case aS => exact hHeld.size); (case aL => have := H60.out; simp only [List.nil_append, List.length_drop, List.length_take, List.length_append, List.length_nil, List.length_cons]; omega)
            intro vt9 wt9 ho hb hg_ hat_
            rw [HTW.out] at ho
            obtain ⟨AV, cV, rfl⟩ := Kd.R_slice ho
            have HOt9 := Aside0.mk ho; have HBt9 := Aside0.mk hb; clear hg_ hat_ hb ho HOt8
            refine hK.out _ _ (HBt9.out) (fun hHeld => ?_); clear hK K; refine norm_ (a' := ?_) ?_ ?_; rotate_left; (focus show Act.put _ (some 64) _ = _; simp only [Act.put, List.setIfInBounds_toArray, List.set_cons_zero, List.set_cons_succ] <;> rfl)
            clear HBt9
            refine pu_ (i := 15) (N := some 9) (v := ?_) (a' := ?_) rfl rfl (any_of HT_.out (by kernel_rfl)) (by rfl) ?_ ?_ ?_; rotate_left; (focus intro w'; go_simp; all_goals with_reducible rfl); rotate_left; (focus simp only [Act.put, List.setIfInBounds_toArray, List.set_cons_zero, List.set_cons_succ] <;> rfl)
            refine done_ (done_of HT_.out (by kernel_rfl)) ?_
            go_wp2_with fail
            go_meet
            exact ⟨AV, cV, rfl, HOt9, ⟨hHeld⟩⟩
        · skip
          refine Kd.R_lit_step k57 (w0 := wc) wc.heap.size 57 (by rfl) (N := 59) ?hd (xs := [(⟨⟨tb, nm⟩, vv⟩ : S57)]) (inner := [.int .u8 tb, .string nm, .string vv]) (ok := fun _ => True) (okp := fun _ => True) ?hr ?hp (fun _ hk => hk) trivial hHeld hHeld.size (by simp) ?_; (case hd => rfl); (case hr => first | (go_simp; done) | (go_simp; rfl)); (case hp => exact reps57 _ _ _ (⟨⟨tb, nm⟩, vv⟩ : S57)); intro vt10 wt10 ho hb hg_ hnew_
          have HOt10 := Aside0.mk ho; have HBt10 := Aside0.mk hb; clear hg_ hnew_ hb ho
          refine hK.out _ _ (HBt10.out) (fun hHeld => ?_); clear hK K; refine norm_ (a' := ?_) ?_ ?_; rotate_left; (focus show Act.put _ (some 59) _ = _; simp only [Act.put, List.setIfInBounds_toArray, List.set_cons_zero, List.set_cons_succ] <;> rfl)
          clear HBt10
          refine on_ (i := 0) (N := some 50) rfl rfl (one_of HT_.out (by kernel_rfl)) (by decide) (fun K hK => ?_)
          refine Kd.R_lit_step k57 (w0 := wc) wc.heap.size 57 (by rfl) (N := 50) ?hd (xs := []) (inner := []) (ok := fun _ => True) (okp := fun _ => True) ?hr ?hp (fun _ hk => hk) trivial hHeld hHeld.size (by simp) ?_; (case hd => rfl); (case hr => first | (go_simp; done) | (go_simp; rfl)); (case hp => exact (Reps.none _ _)); intro vt11 wt11 ho hb hg_ hnew_
          have NE := Aside0.mk (ne_old (Kd.R_lt HOt10.out) hnew_)
          have HOt10_ := Aside0.mk (Kd.R_grown2 HOt10.out rfl hg_ (fun _ h => by cases h)); clear HOt10; have HOt10 := HOt10_; clear HOt10_
          have HOt11 := Aside0.mk ho; have HBt11 := Aside0.mk hb; clear hg_ hnew_ hb ho
          refine hK.out _ _ (HBt11.out) (fun hHeld => ?_); clear hK K; refine norm_ (a' := ?_) ?_ ?_; rotate_left; (focus show Act.put _ (some 50) _ = _; simp only [Act.put, List.setIfInBounds_toArray, List.set_cons_zero, List.set_cons_succ] <;> rfl)
          clear HBt11
          refine on_ (i := 4) (N := some 54) rfl rfl (one_of HT_.out (by kernel_rfl)) (by decide) (fun K hK => ?_)
          refine Kd.R_append_rows_step k57 (Rr := k57.K wt11) (w0 := wc) wc.heap.size (by rfl) (.tmp 50) (.tmp 53) 26 57 (.agg #[(.int .u8 0), (.string ⟨#[]⟩), (.string ⟨#[]⟩)]) 40 rfl Try.underlying26 info57 rfl (by decide) (by omega) vt11 ([] : List S57) (x.take q) _ _ _ (fun _ => True) (fun _ => False) rfl rfl ?aO ?aR (fun _ _ h => k57_M h) (fun _ h => h.elim) ?aF ?aB ?aS ?aL ?_; (case aO => exact HOt11.out); (case aR => exact Kd.C_below CTq.out hHeld); (case aF => exact (fun _ _ => trivial)); (case aB => exact hHeld); (case aS => exact hHeld.size); (case aL => have := H60.out; simp only [List.nil_append, List.length_drop, List.length_take, List.length_append, List.length_nil, List.length_cons]; omega)
          intro vt12 wt12 ho hb hg_ hat_
          have HOt10_ := Aside0.mk (Kd.R_grown2 HOt10.out rfl hg_ NE.out); clear HOt10; have HOt10 := HOt10_; clear HOt10_
          have HOt12 := Aside0.mk ho; have HBt12 := Aside0.mk hb; clear hg_ hat_ hb ho HOt11
          clear NE
          refine hK.out _ _ (HBt12.out) (fun hHeld => ?_); clear hK K; refine norm_ (a' := ?_) ?_ ?_; rotate_left; (focus show Act.put _ (some 54) _ = _; simp only [Act.put, List.setIfInBounds_toArray, List.set_cons_zero, List.set_cons_succ] <;> rfl)
          clear HBt12
          refine on_ (i := 10) (N := some 60) rfl rfl (one_of HT_.out (by kernel_rfl)) (by decide) (fun K hK => ?_)
          obtain ⟨Ar, cr, rfl⟩ := Kd.R_slice HOt10.out
          refine Kd.R_append_rows_step k57 (Rr := k57.K wt12) (w0 := wc) wc.heap.size (by rfl) (.tmp 54) (.tmp 59) 26 57 (.agg #[(.int .u8 0), (.string ⟨#[]⟩), (.string ⟨#[]⟩)]) 40 rfl Try.underlying26 info57 rfl (by decide) (by omega) vt12 (([] : List S57) ++ (x.take q)) [(⟨⟨tb, nm⟩, vv⟩ : S57)] _ _ _ (fun _ => True) (fun _ => False) rfl rfl ?aO ?aR (fun _ _ h => k57_M h) (fun _ h => h.elim) ?aF ?aB ?aS ?aL ?_; (case aO => exact HOt12.out); (case aR => exact (Kd.R_reads' HOt10.out).2.2); (case aF => exact (fun _ _ => trivial)); (case aB => exact hHeld); (case aS => exact hHeld.size); (case aL => have := H60.out; simp only [List.nil_append, List.length_drop, List.length_take, List.length_append, List.length_nil, List.length_cons]; omega)
          intro vt13 wt13 ho hb hg_ hat_
          have HOt13 := Aside0.mk ho; have HBt13 := Aside0.mk hb; clear hg_ hat_ hb ho HOt12
          clear HOt10
          refine hK.out _ _ (HBt13.out) (fun hHeld => ?_); clear hK K; refine norm_ (a' := ?_) ?_ ?_; rotate_left; (focus show Act.put _ (some 60) _ = _; simp only [Act.put, List.setIfInBounds_toArray, List.set_cons_zero, List.set_cons_succ] <;> rfl)
          clear HBt13
          refine on_ (i := 14) (N := some 64) rfl rfl (one_of HT_.out (by kernel_rfl)) (by decide) (fun K hK => ?_)
          refine Kd.R_append_rows_step k57 (Rr := k57.K wt13) (w0 := wc) wc.heap.size (by rfl) (.tmp 60) (.tmp 63) 26 57 (.agg #[(.int .u8 0), (.string ⟨#[]⟩), (.string ⟨#[]⟩)]) 40 rfl Try.underlying26 info57 rfl (by decide) (by omega) vt13 ((([] : List S57) ++ (x.take q)) ++ [(⟨⟨tb, nm⟩, vv⟩ : S57)]) (x.drop q) _ _ _ (fun _ => True) (fun _ => False) rfl rfl ?aO ?aR (fun _ _ h => k57_M h) (fun _ h => h.elim) ?aF ?aB ?aS ?aL ?_; (case aO => exact HOt13.out); (case aR => exact Kd.C_below CDq.out hHeld); (case aF => exact (fun _ _ => trivial)); (case aB => exact hHeld); (case aS => exact hHeld.size); (case aL => have := H60.out; simp only [List.nil_append, List.length_drop, List.length_take, List.length_append, List.length_nil, List.length_cons]; omega)
          intro vt14 wt14 ho hb hg_ hat_
          rw [HTW.out] at ho
          obtain ⟨AV, cV, rfl⟩ := Kd.R_slice ho
          have HOt14 := Aside0.mk ho; have HBt14 := Aside0.mk hb; clear hg_ hat_ hb ho HOt13
          refine hK.out _ _ (HBt14.out) (fun hHeld => ?_); clear hK K; refine norm_ (a' := ?_) ?_ ?_; rotate_left; (focus show Act.put _ (some 64) _ = _; simp only [Act.put, List.setIfInBounds_toArray, List.set_cons_zero, List.set_cons_succ] <;> rfl)
          clear HBt14
          refine pu_ (i := 15) (N := some 9) (v := ?_) (a' := ?_) rfl rfl (any_of HT_.out (by kernel_rfl)) (by rfl) ?_ ?_ ?_; rotate_left; (focus intro w'; go_simp; all_goals with_reducible rfl); rotate_left; (focus simp only [Act.put, List.setIfInBounds_toArray, List.set_cons_zero, List.set_cons_succ] <;> rfl)
          refine done_ (done_of HT_.out (by kernel_rfl)) ?_
          go_wp2_with fail
          go_meet
          exact ⟨AV, cV, rfl, HOt14, ⟨hHeld⟩⟩
      case rest =>
        obtain ⟨AV, cV, rfl, hV, hcb⟩ := hcut
        have Hb := hcb; clear hcb
        have V := Aside0.mk (Kd.R_lower hV.out HB.out.size); clear hV hz0 hz1 hz2 CDq CTq
        rename_i wd
        have HB_ := Aside0.mk (below_step HB.out Hb.out); clear HB; have HB := HB_; clear HB_
        have X_ := Aside0.mk (Kd.R_below X.out Hb.out); clear X; have X := X_; clear X_
        have T_ := Aside0.mk (Kd.R_below T.out Hb.out); clear T; have T := T_; clear T_
        clear Hb
        have hmx := HM.out
        have hmc : m ≤ cX := Nat.le_trans hmx (Kd.R_reads' X.out).2.1
        have hm0 : (0 : Int) ≤ (m : Int) := Int.natCast_nonneg m
        have hm1 : (m : Int) ≤ (x.length : Int) := by omega
        have F1 := Aside0.mk (right_is (x.take m) true (parts_take HR.out m) (by have := H60.out; rw [List.length_take]; omega))
        have F2 := Aside0.mk (right_is (x.drop m) true (parts_drop HR.out m) (by have := H60.out; rw [List.length_drop]; omega))
        have F3 := Aside0.mk (right_is tn _ (show rowsB tn = wb by rw [← HWB.out, ← HTN.out, List.nil_append]; exact parts_turned HR.out HM.out) (by have := H60.out; rw [← HTN.out]; simp only [List.nil_append, List.length_append, List.length_take, List.length_drop]; omega))
        have F4 := Aside0.mk (right_is tw false (show rowsB tw = false by rw [← HTW.out, List.nil_append, ← HR0.out]; exact parts_twice hqx z57) (by have := H60.out; rw [← HTW.out]; simp only [List.nil_append, List.length_append, List.length_take, List.length_drop, List.length_cons, List.length_nil]; omega))
        clear HWB HTN HTW HR0
        by_cases hcm : cX = m
        · obtain _ | _ := wb
          · skip
            go_wp2_with fail
            refine (right_at (l := x.take m) (by rw [List.length_take]; omega) (by have h := Kd.C_take (Kd.R_reads' X.out).2.2 hmx; rw [List.length_take, Nat.min_eq_left hmx] at h; exact h) (by rw [List.length_take]; omega) F1.out).mono ?_
            rintro e w4 ⟨rfl, hb⟩
            have Hb := Aside0.mk hb; clear hb
            have HB_ := Aside0.mk (below_step HB.out Hb.out); clear HB; have HB := HB_; clear HB_
            have X_ := Aside0.mk (Kd.R_below X.out Hb.out); clear X; have X := X_; clear X_
            have T_ := Aside0.mk (Kd.R_below T.out Hb.out); clear T; have T := T_; clear T_
            have V_ := Aside0.mk (Kd.R_below V.out Hb.out); clear V; have V := V_; clear V_
            clear Hb
            go_wp2_with fail
            refine (right_at (l := x.drop m) List.length_drop (by have h := Kd.C_drop (c := cX) (Kd.R_reads' X.out).2.2 hmx (Kd.R_reads' X.out).2.1; rw [List.length_drop, if_pos hcm] at h; exact h) (by rw [List.length_drop]; have := (Kd.R_reads' X.out).2.1; omega) F2.out).mono ?_
            rintro e w5 ⟨rfl, hb⟩
            have Hb := Aside0.mk hb; clear hb
            have HB_ := Aside0.mk (below_step HB.out Hb.out); clear HB; have HB := HB_; clear HB_
            have X_ := Aside0.mk (Kd.R_below X.out Hb.out); clear X; have X := X_; clear X_
            have T_ := Aside0.mk (Kd.R_below T.out Hb.out); clear T; have T := T_; clear T_
            have V_ := Aside0.mk (Kd.R_below V.out Hb.out); clear V; have V := V_; clear V_
            clear Hb
            go_wp2_with fail
            refine (right_at (l := tn) rfl (Kd.R_reads' T.out).2.2 (Kd.R_reads' T.out).2.1 F3.out).mono ?_
            rintro e w6 ⟨rfl, hb⟩
            have Hb := Aside0.mk hb; clear hb
            have HB_ := Aside0.mk (below_step HB.out Hb.out); clear HB; have HB := HB_; clear HB_
            have X_ := Aside0.mk (Kd.R_below X.out Hb.out); clear X; have X := X_; clear X_
            have T_ := Aside0.mk (Kd.R_below T.out Hb.out); clear T; have T := T_; clear T_
            have V_ := Aside0.mk (Kd.R_below V.out Hb.out); clear V; have V := V_; clear V_
            clear Hb
            go_wp2_with fail
            refine (right_at (l := tw) rfl (Kd.R_reads' V.out).2.2 (Kd.R_reads' V.out).2.1 F4.out).mono ?_
            rintro e w7 ⟨rfl, hb⟩
            have Hb := Aside0.mk hb; clear hb
            have HB_ := Aside0.mk (below_step HB.out Hb.out); clear HB; have HB := HB_; clear HB_
            have X_ := Aside0.mk (Kd.R_below X.out Hb.out); clear X; have X := X_; clear X_
            have T_ := Aside0.mk (Kd.R_below T.out Hb.out); clear T; have T := T_; clear T_
            have V_ := Aside0.mk (Kd.R_below V.out Hb.out); clear V; have V := V_; clear V_
            clear Hb
            go_wp2_with fail
            go_ret
            exact ⟨by first | rfl | (simp; done) | (simp [*]; done), HB.out⟩
          · skip
            go_wp2_with fail
            refine (right_at (l := x.take m) (by rw [List.length_take]; omega) (by have h := Kd.C_take (Kd.R_reads' X.out).2.2 hmx; rw [List.length_take, Nat.min_eq_left hmx] at h; exact h) (by rw [List.length_take]; omega) F1.out).mono ?_
            rintro e w8 ⟨rfl, hb⟩
            have Hb := Aside0.mk hb; clear hb
            have HB_ := Aside0.mk (below_step HB.out Hb.out); clear HB; have HB := HB_; clear HB_
            have X_ := Aside0.mk (Kd.R_below X.out Hb.out); clear X; have X := X_; clear X_
            have T_ := Aside0.mk (Kd.R_below T.out Hb.out); clear T; have T := T_; clear T_
            have V_ := Aside0.mk (Kd.R_below V.out Hb.out); clear V; have V := V_; clear V_
            clear Hb
            go_wp2_with fail
            refine (right_at (l := x.drop m) List.length_drop (by have h := Kd.C_drop (c := cX) (Kd.R_reads' X.out).2.2 hmx (Kd.R_reads' X.out).2.1; rw [List.length_drop, if_pos hcm] at h; exact h) (by rw [List.length_drop]; have := (Kd.R_reads' X.out).2.1; omega) F2.out).mono ?_
            rintro e w9 ⟨rfl, hb⟩
            have Hb := Aside0.mk hb; clear hb
            have HB_ := Aside0.mk (below_step HB.out Hb.out); clear HB; have HB := HB_; clear HB_
            have X_ := Aside0.mk (Kd.R_below X.out Hb.out); clear X; have X := X_; clear X_
            have T_ := Aside0.mk (Kd.R_below T.out Hb.out); clear T; have T := T_; clear T_
            have V_ := Aside0.mk (Kd.R_below V.out Hb.out); clear V; have V := V_; clear V_
            clear Hb
            go_wp2_with fail
            refine (right_at (l := tn) rfl (Kd.R_reads' T.out).2.2 (Kd.R_reads' T.out).2.1 F3.out).mono ?_
            rintro e w10 ⟨rfl, hb⟩
            have Hb := Aside0.mk hb; clear hb
            have HB_ := Aside0.mk (below_step HB.out Hb.out); clear HB; have HB := HB_; clear HB_
            have X_ := Aside0.mk (Kd.R_below X.out Hb.out); clear X; have X := X_; clear X_
            have T_ := Aside0.mk (Kd.R_below T.out Hb.out); clear T; have T := T_; clear T_
            have V_ := Aside0.mk (Kd.R_below V.out Hb.out); clear V; have V := V_; clear V_
            clear Hb
            go_wp2_with fail
            refine (right_at (l := tw) rfl (Kd.R_reads' V.out).2.2 (Kd.R_reads' V.out).2.1 F4.out).mono ?_
            rintro e w11 ⟨rfl, hb⟩
            have Hb := Aside0.mk hb; clear hb
            have HB_ := Aside0.mk (below_step HB.out Hb.out); clear HB; have HB := HB_; clear HB_
            have X_ := Aside0.mk (Kd.R_below X.out Hb.out); clear X; have X := X_; clear X_
            have T_ := Aside0.mk (Kd.R_below T.out Hb.out); clear T; have T := T_; clear T_
            have V_ := Aside0.mk (Kd.R_below V.out Hb.out); clear V; have V := V_; clear V_
            clear Hb
            go_wp2_with fail
            go_ret
            exact ⟨by first | rfl | (simp; done) | (simp [*]; done), HB.out⟩
        · obtain _ | _ := wb
          · skip
            go_wp2_with fail
            refine (right_at (l := x.take m) (by rw [List.length_take]; omega) (by have h := Kd.C_take (Kd.R_reads' X.out).2.2 hmx; rw [List.length_take, Nat.min_eq_left hmx] at h; exact h) (by rw [List.length_take]; omega) F1.out).mono ?_
            rintro e w12 ⟨rfl, hb⟩
            have Hb := Aside0.mk hb; clear hb
            have HB_ := Aside0.mk (below_step HB.out Hb.out); clear HB; have HB := HB_; clear HB_
            have X_ := Aside0.mk (Kd.R_below X.out Hb.out); clear X; have X := X_; clear X_
            have T_ := Aside0.mk (Kd.R_below T.out Hb.out); clear T; have T := T_; clear T_
            have V_ := Aside0.mk (Kd.R_below V.out Hb.out); clear V; have V := V_; clear V_
            clear Hb
            go_wp2_with fail
            refine (right_at (l := x.drop m) List.length_drop (by have h := Kd.C_drop (c := cX) (Kd.R_reads' X.out).2.2 hmx (Kd.R_reads' X.out).2.1; rw [List.length_drop, if_neg hcm, Option.map_some] at h; exact h) (by rw [List.length_drop]; have := (Kd.R_reads' X.out).2.1; omega) F2.out).mono ?_
            rintro e w13 ⟨rfl, hb⟩
            have Hb := Aside0.mk hb; clear hb
            have HB_ := Aside0.mk (below_step HB.out Hb.out); clear HB; have HB := HB_; clear HB_
            have X_ := Aside0.mk (Kd.R_below X.out Hb.out); clear X; have X := X_; clear X_
            have T_ := Aside0.mk (Kd.R_below T.out Hb.out); clear T; have T := T_; clear T_
            have V_ := Aside0.mk (Kd.R_below V.out Hb.out); clear V; have V := V_; clear V_
            clear Hb
            go_wp2_with fail
            refine (right_at (l := tn) rfl (Kd.R_reads' T.out).2.2 (Kd.R_reads' T.out).2.1 F3.out).mono ?_
            rintro e w14 ⟨rfl, hb⟩
            have Hb := Aside0.mk hb; clear hb
            have HB_ := Aside0.mk (below_step HB.out Hb.out); clear HB; have HB := HB_; clear HB_
            have X_ := Aside0.mk (Kd.R_below X.out Hb.out); clear X; have X := X_; clear X_
            have T_ := Aside0.mk (Kd.R_below T.out Hb.out); clear T; have T := T_; clear T_
            have V_ := Aside0.mk (Kd.R_below V.out Hb.out); clear V; have V := V_; clear V_
            clear Hb
            go_wp2_with fail
            refine (right_at (l := tw) rfl (Kd.R_reads' V.out).2.2 (Kd.R_reads' V.out).2.1 F4.out).mono ?_
            rintro e w15 ⟨rfl, hb⟩
            have Hb := Aside0.mk hb; clear hb
            have HB_ := Aside0.mk (below_step HB.out Hb.out); clear HB; have HB := HB_; clear HB_
            have X_ := Aside0.mk (Kd.R_below X.out Hb.out); clear X; have X := X_; clear X_
            have T_ := Aside0.mk (Kd.R_below T.out Hb.out); clear T; have T := T_; clear T_
            have V_ := Aside0.mk (Kd.R_below V.out Hb.out); clear V; have V := V_; clear V_
            clear Hb
            go_wp2_with fail
            go_ret
            exact ⟨by first | rfl | (simp; done) | (simp [*]; done), HB.out⟩
          · skip
            go_wp2_with fail
            refine (right_at (l := x.take m) (by rw [List.length_take]; omega) (by have h := Kd.C_take (Kd.R_reads' X.out).2.2 hmx; rw [List.length_take, Nat.min_eq_left hmx] at h; exact h) (by rw [List.length_take]; omega) F1.out).mono ?_
            rintro e w16 ⟨rfl, hb⟩
            have Hb := Aside0.mk hb; clear hb
            have HB_ := Aside0.mk (below_step HB.out Hb.out); clear HB; have HB := HB_; clear HB_
            have X_ := Aside0.mk (Kd.R_below X.out Hb.out); clear X; have X := X_; clear X_
            have T_ := Aside0.mk (Kd.R_below T.out Hb.out); clear T; have T := T_; clear T_
            have V_ := Aside0.mk (Kd.R_below V.out Hb.out); clear V; have V := V_; clear V_
            clear Hb
            go_wp2_with fail
            refine (right_at (l := x.drop m) List.length_drop (by have h := Kd.C_drop (c := cX) (Kd.R_reads' X.out).2.2 hmx (Kd.R_reads' X.out).2.1; rw [List.length_drop, if_neg hcm, Option.map_some] at h; exact h) (by rw [List.length_drop]; have := (Kd.R_reads' X.out).2.1; omega) F2.out).mono ?_
            rintro e w17 ⟨rfl, hb⟩
            have Hb := Aside0.mk hb; clear hb
            have HB_ := Aside0.mk (below_step HB.out Hb.out); clear HB; have HB := HB_; clear HB_
            have X_ := Aside0.mk (Kd.R_below X.out Hb.out); clear X; have X := X_; clear X_
            have T_ := Aside0.mk (Kd.R_below T.out Hb.out); clear T; have T := T_; clear T_
            have V_ := Aside0.mk (Kd.R_below V.out Hb.out); clear V; have V := V_; clear V_
            clear Hb
            go_wp2_with fail
            refine (right_at (l := tn) rfl (Kd.R_reads' T.out).2.2 (Kd.R_reads' T.out).2.1 F3.out).mono ?_
            rintro e w18 ⟨rfl, hb⟩
            have Hb := Aside0.mk hb; clear hb
            have HB_ := Aside0.mk (below_step HB.out Hb.out); clear HB; have HB := HB_; clear HB_
            have X_ := Aside0.mk (Kd.R_below X.out Hb.out); clear X; have X := X_; clear X_
            have T_ := Aside0.mk (Kd.R_below T.out Hb.out); clear T; have T := T_; clear T_
            have V_ := Aside0.mk (Kd.R_below V.out Hb.out); clear V; have V := V_; clear V_
            clear Hb
            go_wp2_with fail
            refine (right_at (l := tw) rfl (Kd.R_reads' V.out).2.2 (Kd.R_reads' V.out).2.1 F4.out).mono ?_
            rintro e w19 ⟨rfl, hb⟩
            have Hb := Aside0.mk hb; clear hb
            have HB_ := Aside0.mk (below_step HB.out Hb.out); clear HB; have HB := HB_; clear HB_
            have X_ := Aside0.mk (Kd.R_below X.out Hb.out); clear X; have X := X_; clear X_
            have T_ := Aside0.mk (Kd.R_below T.out Hb.out); clear T; have T := T_; clear T_
            have V_ := Aside0.mk (Kd.R_below V.out Hb.out); clear V; have V := V_; clear V_
            clear Hb
            go_wp2_with fail
            go_ret
            exact ⟨by first | rfl | (simp; done) | (simp [*]; done), HB.out⟩
theorem parts_row (l1 : List S57) (A1 : Option Addr) (c1 : Nat) (a : Int) (W : World) (hl1 : l1.length ≤ c1) (hC1 : Kd.C k57 W A1 l1.length l1) (F1 : okRows l1) (wf : (Lit.int .i64 a).wf = true) :
    Calls Try.prog 8 #[.slice A1 l1.length c1, .int .i64 a] W fun e W' => e = .returned (.bool true) ∧ Below W.heap.size W W' := by
  have h60 := fewRows_len l1
  refine parts_walk l1 A1 c1 a W ((l1.take 60).map cutRow) (if rowsB ((l1.take 60).map cutRow) then 0 else 1) ⟨hl1⟩ ⟨hC1⟩ ⟨rfl⟩ ⟨right_is _ _ rfl (by omega)⟩ ⟨?_⟩
  by_cases hb : rowsB ((l1.take 60).map cutRow) = true
  · rw [if_pos hb]
    by_cases hx : (l1.take 60).map cutRow = []
    · exact .inr (.inl ⟨rfl, hx⟩)
    · exact .inr (.inr ⟨rfl, List.length_pos_iff.2 hx, h60, hb⟩)
  · rw [if_neg hb]
    exact .inl rfl
end Go.Proofs.Ytgmdoapedhppmaa.PC
