/- ShiftBytes' call returns true: numbers have the bytes that the document says, and bytes are the numbers. For any number, and bytes (thirty), behind any bytes; what is used of plain numbers is in BytesPure. -/
import Derived.Test.YtemgidhelpacaaaPSx8
import Derived.Test.YtemgidhelpacaaaPSx10
import Derived.Test.YtemgidhelpacaaaPSx11
import Derived.Test.YtemgidhelpacaaaPSx12
import Derived.Test.YtemgidhelpacaaaPutKeep
import Derived.Test.YtemgidhelpacaaaBack
namespace Go.Proofs.Ytemgidhelpacaaa.Pure
set_option linter.unusedVariables false
set_option linter.unusedSimpArgs false
open Go.RowKit Go.Proofs.Ytemgidhelpacaaa.PS Go.Proofs.YtemgidhelpacaaaW.PrintWords Go.Proofs.YtemgidhelpacaaaW.PrintLast Go.Proofs.YtemgidhelpacaaaW.PrintMore Go.Proofs.Ytemgidhelpacaaa.B
attribute [local go_sem] max2_int min2_int max_two min_two
/-- What the walk uses of the numbers. -/
structure BytesFacts (n m : Int) (a b p q : List Int) (sa su1 su2 sp sq : ByteArray) (y x k e z r : Int) : Prop where
  pe : a ++ puts n.toNat = p
  wa : strOfNums a = sa
  wp : strOfNums p = sp
  wq : strOfNums q = sq
  s1 : (sp.toList == (sa ++ su1).toList) = true
  s2 : (sq.toList == (sa ++ su2).toList) = true
  z1s : sa.size + su1.size ≤ 9223372036854775807
  z2s : sa.size + su2.size ≤ 9223372036854775807
  la : a.length ≤ 30
  lb : b.length ≤ 30
  n0 : 0 ≤ n
  n1 : n < 18446744073709551616
  nm : wrap64 n = m
  pp : (puts n.toNat).length ≤ 10
  pq : shift_PutInt.f 10 a m = some q
  gb : shift_GetUint.f 22 b = some (x, k, e)
  rb : tidemarkref01_GetUint.f 80 (strOfNums b) = some (x, k, e)
  ib : shift_GetInt.f 22 b = some (z, k, e)
  u1 : tidemarkref01_Uint.f 12 n = some su1
  u2 : tidemarkref01_Uint.f 12 y = some su2
  z1 : shift_Zig.f m = some y
  z2 : tidemarkref01_Zig.f m = some y
  z3 : ∃ t, shift_Zag.f n = some t ∧ tidemarkref01_Zag.f n = some t
  rx : tidemarkref01_Zag.f x = some r
  e0 : e = 0 → r = z
  e1 : e ≠ 0 → z = 0
/-- A row of one's own lies at the head of a block, or it has none. -/
theorem own_lies {w : World} {base e : Nat} {ok : Nat → Prop} {A : Option Addr} {n c : Nat} {xs : List Int} (h : Kd.R (Kd.int .u8) e w base ok (.slice A n c) xs) :
    ∃ g, Lies w g xs ∧ (xs = [] ∨ (A = some ⟨g, 0, none⟩ ∧ base ≤ g ∧ g < w.heap.size)) := by
  have ho := Kd.own_of_R h
  rcases ho.2 with ⟨hv, _⟩ | ⟨g, cap, cur, hv, hb, hg, _⟩
  · injection hv with h1 h2 h3
    have : xs = [] := by
      have := (Kd.R_reads' h).1
      rw [h2] at this
      exact List.eq_nil_of_length_eq_zero this.symm
    exact ⟨0, by rw [this]; intro j x hx; simp at hx, .inl this⟩
  · injection hv with h1 h2 h3
    exact ⟨g, lies_own h (by rw [h1]; rfl), .inr ⟨h1, hb, (Array.getElem?_eq_some_iff.1 hg).1⟩⟩
def bytes10_T : Bool × List (List Nat × List Nat) := (true, [([], []), ([0], [0]), ([], []), ([], []), ([3], [3]), ([2, 4], [2, 4]), ([1, 5], [1, 5]), ([6, 4], [6]), ([7], [7]), ([8, 7], [7, 8]), ([7], [7]), ([7], [7]), ([11, 7], [7, 11]), ([12, 7, 7], [7, 12]), ([13, 13, 7], [7, 13]), ([10, 14, 7], [7, 10, 14]), ([9, 15, 7], [7, 9, 15]), ([7, 16], [7, 16]), ([17, 14], [17]), ([18], [18]), ([19, 18], [18, 19]), ([18], [18]), ([20, 21, 18], [18, 20, 21]), ([18, 22], [18, 22])])
def bytes10_B : List Nat := [0, 1, 0, 0, 8, 28, 63, 127, 255, 511, 255, 255, 2303, 6399, 14591, 31999, 65535, 131071, 262143, 524287, 1048575, 524287, 4194303, 8388607]
theorem bytes10_tab : rtab .any (opsOf Try.f8 10) = bytes10_T := by kernel_rfl
theorem bytes10_bits : waitsOk bytes10_T.2 bytes10_B = true := by kernel_rfl
set_option maxHeartbeats 4000000 in
set_option maxRecDepth 100000 in
theorem bytes_walk (n m : Int) (A1 : Option Addr) (c1 : Nat) (l1 : List Int) (A2 : Option Addr) (c2 : Nat) (l2 : List Int) (w : World) (hr1 : Kd.C (Kd.int .u8) w A1 l1.length l1) (hc1 : l1.length ≤ c1) (hr2 : Kd.C (Kd.int .u8) w A2 l2.length l2) (hc2 : l2.length ≤ c2)
    (a b p q : List Int) (sa su1 su2 sp sq : ByteArray) (y x k e z r : Int)
    (ha30 : ∀ k : Nat, k ≤ 30 → k ≤ l1.length → (l1.length ≤ 30 → k = l1.length) → (30 < l1.length → k = 30) → l1.take k = a)
    (hb30 : ∀ k : Nat, k ≤ 30 → k ≤ l2.length → (l2.length ≤ 30 → k = l2.length) → (30 < l2.length → k = 30) → l2.take k = b) (F : BytesFacts n m a b p q sa su1 su2 sp sq y x k e z r) :
    Calls Try.prog 8 #[.int .u64 n, .slice A1 l1.length c1, .slice A2 l2.length c2] w fun e w' => e = .returned (.bool true) ∧ Below w.heap.size w w' := by
  obtain ⟨ja, hma, hma0, hma1, hma2, hcuta, hCa, hcla⟩ := cut30 A1 c1 l1 hc1
  obtain ⟨jb, hmb, hmb0, hmb1, hmb2, hcutb, hCb, hclb⟩ := cut30 A2 c2 l2 hc2
  have hja : l1.take ja.toNat = a := ha30 ja.toNat (by omega) (by omega) (fun h => by rw [← hma, if_neg (by omega)]; omega) (fun h => by rw [← hma, if_pos (by omega)]; rfl)
  have hjb : l2.take jb.toNat = b := hb30 jb.toNat (by omega) (by omega) (fun h => by rw [← hmb, if_neg (by omega)]; omega) (fun h => by rw [← hmb, if_pos (by omega)]; rfl)
  rw [hja] at hCa
  rw [hjb] at hCb
  have HCA := Aside0.mk hCa
  have HCB := Aside0.mk hCb
  have HJA : Aside0 (a.length = ja.toNat) := ⟨by rw [← hja, List.length_take]; omega⟩
  have HJB : Aside0 (b.length = jb.toNat) := ⟨by rw [← hjb, List.length_take]; omega⟩
  have FF := Aside0.mk F
  clear ha30 hb30 hCa hCb hcla hclb F hja hjb
  have C1 := Aside0.mk hr1
  clear hr1
  have C2 := Aside0.mk hr2
  clear hr2
  have HB := Aside0.mk (Below.refl w.heap.size w)
  go_enter Try.func8, Try.ntmps8
  go_wp2_with fail
  refine (tidemarklaw01_shown.calls 12 true _ shown_near).mono ?_
  rintro e w1 ⟨rfl, hb⟩
  have Hb := Aside0.mk hb
  clear hb
  have C1_ := Aside0.mk (Kd.C_below C1.out Hb.out)
  clear C1
  have C1 := C1_
  clear C1_
  have C2_ := Aside0.mk (Kd.C_below C2.out Hb.out)
  clear C2
  have C2 := C2_
  clear C2_
  have HB_ := Aside0.mk (below_step HB.out Hb.out)
  clear HB
  have HB := HB_
  clear HB_
  clear Hb
  go_wp2_with (first | ((with_reducible refine gate_dst (N := 22) rfl ?_); refine Kd.R_lit (w0 := w1) (Kd.int .u8) _ 5 ?hg (N := 22) ?hd (xs := []) (inner := []) (ok := fun _ => True) (okp := fun _ => True) ?hr ?hp (fun _ hk => hk) trivial (Below.refl _ _) (Nat.le_refl _) (by simp) ?_; (case hd => rfl); (case hg => rfl); (case hr => first | (go_simp; done) | (go_simp; rfl)); (case hp => exact (Reps.none _ _)); intro v2 w2 ho hb hg_ hnew_; have HO2 := Aside0.mk ho; have HB2 := Aside0.mk hb; clear hg_ hnew_ hb ho) | ((with_reducible refine gate_builtin (b := .append) (xs := #[.tmp 22, .tmp 27]) rfl ?_); at_builtin; refine Kd.R_append_rows (Kd.int .u8) (w0 := w1) w1.heap.size rfl (.tmp 22) (.tmp 27) 33 5 (.int .u8 0) 1 rfl Try.underlying33 info5 rfl (by decide) (by omega) v2 [] a _ _ _ (fun _ => True) (fun _ => False) rfl rfl ?aO ?aR (fun _ _ h => h) (fun _ h => h.elim) ?aF ?aB ?aS ?aL ?_; (case aR => exact (HCA.out _ (Kd.C_below C1.out HB2.out))); (case aB => exact HB2.out); (case aF => exact (fun _ _ => trivial)); (case aO => exact HO2.out); (case aS => exact HB2.out.size); (case aL => (have := hma2; have := HJA.out; simp; omega)); intro v3 w3 ho hb hg_ hat_; have HO3 := Aside0.mk ho; have HB3 := Aside0.mk hb; clear hg_ hat_ hb ho) | ((with_reducible refine gate_dst (N := 29) rfl ?_); refine Kd.R_lit (w0 := w3) (Kd.int .u8) _ 5 ?hg (N := 29) ?hd (xs := []) (inner := []) (ok := fun _ => True) (okp := fun _ => True) ?hr ?hp (fun _ hk => hk) trivial (Below.refl _ _) (Nat.le_refl _) (by simp) ?_; (case hd => rfl); (case hg => rfl); (case hr => first | (go_simp; done) | (go_simp; rfl)); (case hp => exact (Reps.none _ _)); intro v4 w4 ho hb hg_ hnew_; have HO4 := Aside0.mk ho; have HB4 := Aside0.mk hb; clear hg_ hnew_ hb ho) | ((with_reducible refine gate_builtin (b := .append) (xs := #[.tmp 29, .tmp 34]) rfl ?_); at_builtin; refine Kd.R_append_rows (Kd.int .u8) (w0 := w3) w3.heap.size rfl (.tmp 29) (.tmp 34) 33 5 (.int .u8 0) 1 rfl Try.underlying33 info5 rfl (by decide) (by omega) v4 [] b _ _ _ (fun _ => True) (fun _ => False) rfl rfl ?aO ?aR (fun _ _ h => h) (fun _ h => h.elim) ?aF ?aB ?aS ?aL ?_; (case aR => exact (HCB.out _ (Kd.C_below (Kd.C_below C2.out HB3.out) HB4.out))); (case aB => exact HB4.out); (case aF => exact (fun _ _ => trivial)); (case aO => exact HO4.out); (case aS => exact HB4.out.size); (case aL => (have := hmb2; have := HJB.out; simp; omega)); intro v5 w5 ho hb hg_ hat_; have HO5 := Aside0.mk ho; have HB5 := Aside0.mk hb; clear hg_ hat_ hb ho; have hcv : (convert 33 9 v3).run Try.prog w5 = .ok (.string sa) w5 := by rw [← FF.out.wa]; exact own_string (P := Try.prog) (xs := a) Try.underlying33 Try.underlying5 Try.underlying9 (Kd.own_of_R (Kd.R_below HO3.out HB5.out))))
  clear hcv hma hma0 hma1 hma2 hcuta hmb hmb0 hmb1 hmb2 hcutb
  have RA : Aside0 (Kd.R (Kd.int .u8) 5 w5 w1.heap.size (fun _ => True) v3 a) := ⟨Kd.R_below HO3.out HB5.out⟩
  have hlt3 := (Kd.own_of_R HO3.out).lt
  obtain ⟨Aa, ca, rfl⟩ := Kd.R_slice RA.out
  have RB : Aside0 (Kd.R (Kd.int .u8) 5 w5 w3.heap.size (fun _ => True) v5 b) := ⟨HO5.out⟩
  obtain ⟨Ab, cb, rfl⟩ := Kd.R_slice RB.out
  obtain ⟨ga, hLa, hga⟩ := own_lies RA.out
  obtain ⟨gb, hLb, hgb⟩ := own_lies RB.out
  have hoth : Oth b gb (.slice Aa a.length ca) w5 := hgb.imp id (fun h => ⟨h.2.2, hLb, fun e => by have := (hlt3 gb e).2; have := h.2.1; omega⟩)
  have HREL : Aside0 (PutRel w1 a n.toNat a ga b gb (.slice Aa a.length ca) n.toNat a w5) :=
    ⟨⟨rfl, by have := FF.out.n1; have := FF.out.n0; omega, by have := FF.out.la; have := FF.out.pp; omega, ⟨[], by simp⟩, RA.out, hLa, below_step HB3.out HB5.out, hoth⟩⟩
  have HGA := Aside0.mk hga
  have HGB := Aside0.mk hgb
  have LB := Aside0.mk (Kd.R_reads' RB.out).2.1
  have LA := Aside0.mk (Kd.R_reads' RA.out).2.1
  clear hlt3 hLa hLb hga hgb hoth RA RB HO2 HO3 HO4 HO5 HB2 HB3 HB4 HB5 C1 C2
  refine calls_of_args (args' := #[.slice Aa a.length ca, .int .u64 ((n.toNat : Nat) : Int)]) (by rw [show ((n.toNat : Nat) : Int) = n from by have := FF.out.n0; omega]) ?_
  refine (put_keep a n.toNat _ a ga b gb w1 w5 HREL.out).mono ?_
  rintro e w6 ⟨vp, rfl, hrp, hbp, hlp, hop⟩
  rw [FF.out.pe] at hrp
  obtain ⟨Ap, cp, rfl⟩ := Kd.R_slice hrp
  have Cp := Aside0.mk (Kd.R_reads' hrp).2.2
  have Ca : Aside0 (Kd.C (Kd.int .u8) w6 Aa a.length a) := ⟨lies_C (HGA.out.imp id (fun h => ⟨ga, h.1, hlp⟩)) (by have := FF.out.la; omega)⟩
  have Cb : Aside0 (Kd.C (Kd.int .u8) w6 Ab b.length b) := ⟨lies_C (by
    rcases hop with h | h
    · exact .inl h
    · exact HGB.out.imp id (fun h2 => ⟨gb, h2.1, h.2.1⟩)) (by have := FF.out.lb; omega)⟩
  have HB_ := Aside0.mk (below_step HB.out hbp)
  clear HB hrp hbp hlp hop HREL HGA HGB
  have HB := HB_
  clear HB_
  go_wp2_with (first | ((with_reducible refine gate_dst (N := 41) rfl ?_); refine Kd.R_lit (w0 := w6) (Kd.int .u8) _ 5 ?hg (N := 41) ?hd (xs := []) (inner := []) (ok := fun _ => True) (okp := fun _ => True) ?hr ?hp (fun _ hk => hk) trivial (Below.refl _ _) (Nat.le_refl _) (by simp) ?_; (case hd => rfl); (case hg => rfl); (case hr => first | (go_simp; done) | (go_simp; rfl)); (case hp => exact (Reps.none _ _)); intro v21 w21 ho hb hg_ hnew_; have HO21 := Aside0.mk ho; have HB21 := Aside0.mk hb; clear hg_ hnew_ hb ho) | ((with_reducible refine gate_builtin (b := .append) (xs := #[.tmp 41, .tmp 42]) rfl ?_); at_builtin; refine Kd.R_append_rows (Kd.int .u8) (w0 := w6) w6.heap.size rfl (.tmp 41) (.tmp 42) 33 5 (.int .u8 0) 1 rfl Try.underlying33 info5 rfl (by decide) (by omega) v21 [] a _ _ _ (fun _ => True) (fun _ => False) rfl rfl ?aO ?aR (fun _ _ h => h) (fun _ h => h.elim) ?aF ?aB ?aS ?aL ?_; (case aR => exact (Kd.C_below Ca.out HB21.out)); (case aB => exact HB21.out); (case aF => exact (fun _ _ => trivial)); (case aO => exact HO21.out); (case aS => exact HB21.out.size); (case aL => (have := FF.out.la; simp; omega)); intro v22 w22 ho hb hg_ hat_; have HO22 := Aside0.mk ho; have HB22 := Aside0.mk hb; clear hg_ hat_ hb ho))
  rw [FF.out.nm]
  refine (shift_PutInt.calls 10 (fun _ => True) v22 a m q w6 _ HB22.out HO22.out FF.out.pq).mono ?_
  rintro e w30 ⟨vq, rfl, hr, hb, hk⟩
  obtain ⟨Aq, cq, rfl⟩ := Kd.R_slice hr
  have Hb := Aside0.mk hb
  have Hr := Aside0.mk hr
  clear hb hr hk HO22 HB22 HO21 HB21
  have Cp_ := Aside0.mk (Kd.C_below Cp.out Hb.out)
  clear Cp
  have Cp := Cp_
  clear Cp_
  have Ca_ := Aside0.mk (Kd.C_below Ca.out Hb.out)
  clear Ca
  have Ca := Ca_
  clear Ca_
  have Cb_ := Aside0.mk (Kd.C_below Cb.out Hb.out)
  clear Cb
  have Cb := Cb_
  clear Cb_
  have HB_ := Aside0.mk (below_step HB.out Hb.out)
  clear HB
  have HB := HB_
  clear HB_
  have Cq := Aside0.mk (Kd.R_reads' Hr.out).2.2
  clear Hb Hr
  go_wp2_with fail
  refine (shift_GetUint.calls 22 _ _ b x k e _ Cb.out LB.out FF.out.gb).mono ?_
  rintro e w' ⟨rfl, ⟨nd, rfl⟩⟩
  have Hb : Aside0 (Below w30.heap.size w30 (w30.drewN nd)) := ⟨pw_below_drewN (Below.refl _ _) _⟩
  generalize w30.drewN nd = w31 at Hb ⊢
  have Cp_ := Aside0.mk (Kd.C_below Cp.out Hb.out)
  clear Cp
  have Cp := Cp_
  clear Cp_
  have Ca_ := Aside0.mk (Kd.C_below Ca.out Hb.out)
  clear Ca
  have Ca := Ca_
  clear Ca_
  have Cb_ := Aside0.mk (Kd.C_below Cb.out Hb.out)
  clear Cb
  have Cb := Cb_
  clear Cb_
  have Cq_ := Aside0.mk (Kd.C_below Cq.out Hb.out)
  clear Cq
  have Cq := Cq_
  clear Cq_
  have HB_ := Aside0.mk (below_step HB.out Hb.out)
  clear HB
  have HB := HB_
  clear HB_
  clear Hb nd
  have hcv : (convert 33 9 (.slice Ab b.length cb)).run Try.prog w31 = .ok (.string (strOfNums b)) w31 := Kd.C_string (P := Try.prog) (A := Ab) (c := cb) Try.underlying33 Try.underlying5 Try.underlying9 Cb.out
  go_wp2_with fail
  clear hcv
  refine (tidemarkref01_GetUint.calls 80 _ x k e _ FF.out.rb).mono ?_
  rintro e w' ⟨rfl, ⟨nd, rfl⟩⟩
  have Hb : Aside0 (Below w31.heap.size w31 (w31.drewN nd)) := ⟨pw_below_drewN (Below.refl _ _) _⟩
  generalize w31.drewN nd = w32 at Hb ⊢
  have Cp_ := Aside0.mk (Kd.C_below Cp.out Hb.out)
  clear Cp
  have Cp := Cp_
  clear Cp_
  have Ca_ := Aside0.mk (Kd.C_below Ca.out Hb.out)
  clear Ca
  have Ca := Ca_
  clear Ca_
  have Cb_ := Aside0.mk (Kd.C_below Cb.out Hb.out)
  clear Cb
  have Cb := Cb_
  clear Cb_
  have Cq_ := Aside0.mk (Kd.C_below Cq.out Hb.out)
  clear Cq
  have Cq := Cq_
  clear Cq_
  have HB_ := Aside0.mk (below_step HB.out Hb.out)
  clear HB
  have HB := HB_
  clear HB_
  clear Hb nd
  go_wp2_with fail
  refine (shift_GetInt.calls 22 _ _ b z k e _ Cb.out LB.out FF.out.ib).mono ?_
  rintro e w' ⟨rfl, ⟨nd, rfl⟩⟩
  have Hb : Aside0 (Below w32.heap.size w32 (w32.drewN nd)) := ⟨pw_below_drewN (Below.refl _ _) _⟩
  generalize w32.drewN nd = w33 at Hb ⊢
  have Cp_ := Aside0.mk (Kd.C_below Cp.out Hb.out)
  clear Cp
  have Cp := Cp_
  clear Cp_
  have Ca_ := Aside0.mk (Kd.C_below Ca.out Hb.out)
  clear Ca
  have Ca := Ca_
  clear Ca_
  have Cb_ := Aside0.mk (Kd.C_below Cb.out Hb.out)
  clear Cb
  have Cb := Cb_
  clear Cb_
  have Cq_ := Aside0.mk (Kd.C_below Cq.out Hb.out)
  clear Cq
  have Cq := Cq_
  clear Cq_
  have HB_ := Aside0.mk (below_step HB.out Hb.out)
  clear HB
  have HB := HB_
  clear HB_
  clear Hb nd
  go_wp2_with fail
  have hs1 := FF.out.s1
  have hs2 := FF.out.s2
  refine start_ (n := 24) (S := fun W' => Kd.C (Kd.int .u8) W' Ap p.length p ∧ Kd.C (Kd.int .u8) W' Aq q.length q ∧ Kd.C (Kd.int .u8) W' Aa a.length a) (ds := []) #[false, false, false, false, false, false, false, false, false, false, false, false, false, false, false, false, false, false, false, false, false, false, false, false] (by kernel_rfl) rfl rfl ⟨Kd.C_drew Cp.out, Kd.C_drew Cq.out, Kd.C_drew Ca.out⟩ (fun hHeld => ?_)
  refine with_tabW bytes10_tab bytes10_bits (fun HT_ HW_ => ?_)
  refine pure_ (i := 0) (N := some 66) (v := ?_) (a' := ?_) #[true, false, false, false, false, false, false, false, false, false, false, false, false, false, false, false, false, false, false, false, false, false, false, false] rfl rfl (any_of HT_.out (by kernel_rfl)) (fun _ _ _ h => h) (Or.inl ⟨by rfl, ?_⟩) ?_ ?_
  rotate_left
  · intro w'
    go_simp
    all_goals with_reducible rfl
  rotate_left
  · simp only [Act.put, List.setIfInBounds_toArray, List.set_cons_zero, List.set_cons_succ, i64_w, i32_w]
    rfl
  refine pure_ (i := 2) (N := some 68) (v := ?_) (a' := ?_) #[true, false, true, false, false, false, false, false, false, false, false, false, false, false, false, false, false, false, false, false, false, false, false, false] rfl rfl (any_of HT_.out (by kernel_rfl)) (fun _ _ _ h => h) (Or.inl ⟨by rfl, ?_⟩) ?_ ?_
  rotate_left
  · intro w'
    go_simp
    all_goals with_reducible rfl
  rotate_left
  · simp only [Act.put, List.setIfInBounds_toArray, List.set_cons_zero, List.set_cons_succ, i64_w, i32_w]
    rfl
  refine pure_ (i := 3) (N := some 69) (v := ?_) (a' := ?_) #[true, false, true, true, false, false, false, false, false, false, false, false, false, false, false, false, false, false, false, false, false, false, false, false] rfl rfl (any_of HT_.out (by kernel_rfl)) (fun _ _ _ h => h) (Or.inl ⟨by rfl, ?_⟩) ?_ ?_
  rotate_left
  · intro w'
    go_simp
    all_goals with_reducible rfl
  rotate_left
  · simp only [Act.put, List.setIfInBounds_toArray, List.set_cons_zero, List.set_cons_succ, i64_w, i32_w]
    rfl
  refine take_ (i := 1) (N := some 67) (v := ?_) (a' := ?_) #[true, true, true, true, false, false, false, false, false, false, false, false, false, false, false, false, false, false, false, false, false, false, false, false] rfl rfl (take_ofW HT_.out HW_.out (by kernel_rfl)) (fun _ _ _ h => h) (Or.inl ⟨by rfl, ?_⟩) hHeld ?_ ?_
  rotate_left
  · rintro w' ⟨s0, s1, s2⟩
    have hx := Kd.C_string (P := Try.prog) (A := Ap) (c := cp) Try.underlying33 Try.underlying5 Try.underlying9 s0; rw [FF.out.wp] at hx; go_simp
    with_reducible rfl
  rotate_left
  · simp only [Act.put, List.setIfInBounds_toArray, List.set_cons_zero, List.set_cons_succ, i64_w, i32_w]
    rfl
  refine one_ (i := 4) (N := some 70) #[true, true, true, true, true, false, false, false, false, false, false, false, false, false, false, false, false, false, false, false, false, false, false, false] rfl rfl (one_of HT_.out (by kernel_rfl)) (by decide) (fun K hK => ?_)
  refine goes_ Try.func28 (by kernel_rfl) rfl #[.int .u64 n] (by rfl) rfl rfl (by (try simp only [List.map_toArray, List.map_cons, List.map_nil]); first | done | rfl) ?_
  with_reducible refine (tidemarkref01_Uint.calls 12 n su1 _ FF.out.u1).mono ?_
  rintro e w40 ⟨rfl, hb⟩
  refine ⟨_, rfl, ?_⟩
  have H40 := Aside0.mk hb
  clear hb
  refine hK.out _ _ (⟨Kd.C_below hHeld.1 H40.out, Kd.C_below hHeld.2.1 H40.out, Kd.C_below hHeld.2.2 H40.out⟩) (fun hHeld => ?_)
  clear hK K
  refine norm_ (a' := ?_) ?_ ?_
  rotate_left
  · show Act.put _ (some 70) _ = _
    simp only [Act.put, List.setIfInBounds_toArray, List.set_cons_zero, List.set_cons_succ, i64_w, i32_w]
    rfl
  refine pure_ (i := 5) (N := some 71) (v := ?_) (a' := ?_) #[true, true, true, true, true, true, false, false, false, false, false, false, false, false, false, false, false, false, false, false, false, false, false, false] rfl rfl (any_of HT_.out (by kernel_rfl)) (fun _ _ _ h => h) (Or.inl ⟨by rfl, ?_⟩) ?_ ?_
  rotate_left
  · intro w'
    go_simp; rw [if_neg (by have := FF.out.z1s; omega)]
    all_goals with_reducible rfl
  rotate_left
  · simp only [Act.put, List.setIfInBounds_toArray, List.set_cons_zero, List.set_cons_succ, i64_w, i32_w]
    rfl
  refine pure_ (i := 6) (N := some 72) (v := ?_) (a' := ?_) #[true, true, true, true, true, true, true, false, false, false, false, false, false, false, false, false, false, false, false, false, false, false, false, false] rfl rfl (any_of HT_.out (by kernel_rfl)) (fun _ _ _ h => h) (Or.inl ⟨by rfl, ?_⟩) ?_ ?_
  rotate_left
  · intro w'
    go_simp
    all_goals with_reducible rfl
  rotate_left
  · simp only [Act.put, List.setIfInBounds_toArray, List.set_cons_zero, List.set_cons_succ, i64_w, i32_w]
    rfl
  refine pure_ (i := 7) (N := some 73) (v := ?_) (a' := ?_) #[true, true, true, true, true, true, true, true, false, false, false, false, false, false, false, false, false, false, false, false, false, false, false, false] rfl rfl (any_of HT_.out (by kernel_rfl)) (fun _ _ _ h => h) (Or.inl ⟨by rfl, ?_⟩) ?_ ?_
  rotate_left
  · intro w'
    go_simp
    all_goals with_reducible rfl
  rotate_left
  · simp only [Act.put, List.setIfInBounds_toArray, List.set_cons_zero, List.set_cons_succ, i64_w, i32_w]
    rfl
  refine pure_ (i := 8) (N := some 74) (v := ?_) (a' := ?_) #[true, true, true, true, true, true, true, true, true, false, false, false, false, false, false, false, false, false, false, false, false, false, false, false] rfl rfl (any_of HT_.out (by kernel_rfl)) (fun _ _ _ h => h) (Or.inl ⟨by rfl, ?_⟩) ?_ ?_
  rotate_left
  · intro w'
    go_simp
    all_goals with_reducible rfl
  rotate_left
  · simp only [Act.put, List.setIfInBounds_toArray, List.set_cons_zero, List.set_cons_succ, i64_w, i32_w]
    rfl
  refine pure_ (i := 10) (N := some 76) (v := ?_) (a' := ?_) #[true, true, true, true, true, true, true, true, true, false, true, false, false, false, false, false, false, false, false, false, false, false, false, false] rfl rfl (any_of HT_.out (by kernel_rfl)) (fun _ _ _ h => h) (Or.inl ⟨by rfl, ?_⟩) ?_ ?_
  rotate_left
  · intro w'
    go_simp
    all_goals with_reducible rfl
  rotate_left
  · simp only [Act.put, List.setIfInBounds_toArray, List.set_cons_zero, List.set_cons_succ, i64_w, i32_w]
    rfl
  refine pure_ (i := 11) (N := some 77) (v := ?_) (a' := ?_) #[true, true, true, true, true, true, true, true, true, false, true, true, false, false, false, false, false, false, false, false, false, false, false, false] rfl rfl (any_of HT_.out (by kernel_rfl)) (fun _ _ _ h => h) (Or.inl ⟨by rfl, ?_⟩) ?_ ?_
  rotate_left
  · intro w'
    go_simp
    all_goals with_reducible rfl
  rotate_left
  · simp only [Act.put, List.setIfInBounds_toArray, List.set_cons_zero, List.set_cons_succ, i64_w, i32_w]
    rfl
  refine pure_ (i := 12) (N := some 78) (v := ?_) (a' := ?_) #[true, true, true, true, true, true, true, true, true, false, true, true, true, false, false, false, false, false, false, false, false, false, false, false] rfl rfl (any_of HT_.out (by kernel_rfl)) (fun _ _ _ h => h) (Or.inl ⟨by rfl, ?_⟩) ?_ ?_
  rotate_left
  · intro w'
    go_simp
    all_goals with_reducible rfl
  rotate_left
  · simp only [Act.put, List.setIfInBounds_toArray, List.set_cons_zero, List.set_cons_succ, i64_w, i32_w]
    rfl
  refine take_ (i := 9) (N := some 75) (v := ?_) (a' := ?_) #[true, true, true, true, true, true, true, true, true, true, true, true, true, false, false, false, false, false, false, false, false, false, false, false] rfl rfl (take_ofW HT_.out HW_.out (by kernel_rfl)) (fun _ _ _ h => h) (Or.inl ⟨by rfl, ?_⟩) hHeld ?_ ?_
  rotate_left
  · rintro w' ⟨s0, s1, s2⟩
    have hx := Kd.C_string (P := Try.prog) (A := Aq) (c := cq) Try.underlying33 Try.underlying5 Try.underlying9 s1; rw [FF.out.wq] at hx; go_simp
    with_reducible rfl
  rotate_left
  · simp only [Act.put, List.setIfInBounds_toArray, List.set_cons_zero, List.set_cons_succ, i64_w, i32_w]
    rfl
  refine one_ (i := 13) (N := some 79) #[true, true, true, true, true, true, true, true, true, true, true, true, true, true, false, false, false, false, false, false, false, false, false, false] rfl rfl (one_of HT_.out (by kernel_rfl)) (by decide) (fun K hK => ?_)
  refine goes_ Try.func29 (by kernel_rfl) rfl #[.int .i64 (wrap64 n)] (by rfl) rfl rfl (by (try simp only [List.map_toArray, List.map_cons, List.map_nil]); first | done | rfl) ?_
  with_reducible refine (tidemarkref01_Zig.calls (wrap64 n) y _ (by rw [FF.out.nm]; exact FF.out.z2)).mono ?_
  rintro e w' ⟨rfl, ⟨nd, rfl⟩⟩
  refine ⟨_, rfl, ?_⟩
  refine hK.out _ _ (⟨Kd.C_below hHeld.1 (pw_below_drewN (Below.refl _ _) nd), Kd.C_below hHeld.2.1 (pw_below_drewN (Below.refl _ _) nd), Kd.C_below hHeld.2.2 (pw_below_drewN (Below.refl _ _) nd)⟩) (fun hHeld => ?_)
  clear hK K
  refine norm_ (a' := ?_) ?_ ?_
  rotate_left
  · show Act.put _ (some 79) _ = _
    simp only [Act.put, List.setIfInBounds_toArray, List.set_cons_zero, List.set_cons_succ, i64_w, i32_w]
    rfl
  refine one_ (i := 14) (N := some 80) #[true, true, true, true, true, true, true, true, true, true, true, true, true, true, true, false, false, false, false, false, false, false, false, false] rfl rfl (one_of HT_.out (by kernel_rfl)) (by decide) (fun K hK => ?_)
  refine goes_ Try.func28 (by kernel_rfl) rfl #[.int .u64 y] (by rfl) rfl rfl (by (try simp only [List.map_toArray, List.map_cons, List.map_nil]); first | done | rfl) ?_
  with_reducible refine (tidemarkref01_Uint.calls 12 y su2 _ FF.out.u2).mono ?_
  rintro e w42 ⟨rfl, hb⟩
  refine ⟨_, rfl, ?_⟩
  have H42 := Aside0.mk hb
  clear hb
  refine hK.out _ _ (⟨Kd.C_below hHeld.1 H42.out, Kd.C_below hHeld.2.1 H42.out, Kd.C_below hHeld.2.2 H42.out⟩) (fun hHeld => ?_)
  clear hK K
  refine norm_ (a' := ?_) ?_ ?_
  rotate_left
  · show Act.put _ (some 80) _ = _
    simp only [Act.put, List.setIfInBounds_toArray, List.set_cons_zero, List.set_cons_succ, i64_w, i32_w]
    rfl
  refine pure_ (i := 15) (N := some 81) (v := ?_) (a' := ?_) #[true, true, true, true, true, true, true, true, true, true, true, true, true, true, true, true, false, false, false, false, false, false, false, false] rfl rfl (any_of HT_.out (by kernel_rfl)) (fun _ _ _ h => h) (Or.inl ⟨by rfl, ?_⟩) ?_ ?_
  rotate_left
  · intro w'
    go_simp; rw [if_neg (by have := FF.out.z2s; omega)]
    all_goals with_reducible rfl
  rotate_left
  · simp only [Act.put, List.setIfInBounds_toArray, List.set_cons_zero, List.set_cons_succ, i64_w, i32_w]
    rfl
  refine pure_ (i := 16) (N := some 82) (v := ?_) (a' := ?_) #[true, true, true, true, true, true, true, true, true, true, true, true, true, true, true, true, true, false, false, false, false, false, false, false] rfl rfl (any_of HT_.out (by kernel_rfl)) (fun _ _ _ h => h) (Or.inl ⟨by rfl, ?_⟩) ?_ ?_
  rotate_left
  · intro w'
    go_simp
    all_goals with_reducible rfl
  rotate_left
  · simp only [Act.put, List.setIfInBounds_toArray, List.set_cons_zero, List.set_cons_succ, i64_w, i32_w]
    rfl
  refine pure_ (i := 17) (N := some 83) (v := ?_) (a' := ?_) #[true, true, true, true, true, true, true, true, true, true, true, true, true, true, true, true, true, true, false, false, false, false, false, false] rfl rfl (any_of HT_.out (by kernel_rfl)) (fun _ _ _ h => h) (Or.inl ⟨by rfl, ?_⟩) ?_ ?_
  rotate_left
  · intro w'
    go_simp
    all_goals with_reducible rfl
  rotate_left
  · simp only [Act.put, List.setIfInBounds_toArray, List.set_cons_zero, List.set_cons_succ, i64_w, i32_w]
    rfl
  refine pure_ (i := 18) (N := some 84) (v := ?_) (a' := ?_) #[true, true, true, true, true, true, true, true, true, true, true, true, true, true, true, true, true, true, true, false, false, false, false, false] rfl rfl (any_of HT_.out (by kernel_rfl)) (fun _ _ _ h => h) (Or.inl ⟨by rfl, ?_⟩) ?_ ?_
  rotate_left
  · intro w'
    go_simp
    all_goals with_reducible rfl
  rotate_left
  · simp only [Act.put, List.setIfInBounds_toArray, List.set_cons_zero, List.set_cons_succ, i64_w, i32_w]
    rfl
  refine pure_ (i := 19) (N := some 85) (v := ?_) (a' := ?_) #[true, true, true, true, true, true, true, true, true, true, true, true, true, true, true, true, true, true, true, true, false, false, false, false] rfl rfl (any_of HT_.out (by kernel_rfl)) (fun _ _ _ h => h) (Or.inl ⟨by rfl, ?_⟩) ?_ ?_
  rotate_left
  · intro w'
    go_simp
    all_goals with_reducible rfl
  rotate_left
  · simp only [Act.put, List.setIfInBounds_toArray, List.set_cons_zero, List.set_cons_succ, i64_w, i32_w]
    rfl
  refine pure_ (i := 21) (N := some 87) (v := ?_) (a' := ?_) #[true, true, true, true, true, true, true, true, true, true, true, true, true, true, true, true, true, true, true, true, false, true, false, false] rfl rfl (any_of HT_.out (by kernel_rfl)) (fun _ _ _ h => h) (Or.inl ⟨by rfl, ?_⟩) ?_ ?_
  rotate_left
  · intro w'
    go_simp
    all_goals with_reducible rfl
  rotate_left
  · simp only [Act.put, List.setIfInBounds_toArray, List.set_cons_zero, List.set_cons_succ, i64_w, i32_w]
    rfl
  refine take_ (i := 20) (N := some 86) (v := ?_) (a' := ?_) #[true, true, true, true, true, true, true, true, true, true, true, true, true, true, true, true, true, true, true, true, true, true, false, false] rfl rfl (take_ofW HT_.out HW_.out (by kernel_rfl)) (fun _ _ _ h => h) (Or.inl ⟨by rfl, ?_⟩) hHeld ?_ ?_
  rotate_left
  · rintro w' ⟨s0, s1, s2⟩
    have hx := Kd.C_string (P := Try.prog) (A := Aa) (c := ca) Try.underlying33 Try.underlying5 Try.underlying9 s2; rw [FF.out.wa] at hx; go_simp
    with_reducible rfl
  rotate_left
  · simp only [Act.put, List.setIfInBounds_toArray, List.set_cons_zero, List.set_cons_succ, i64_w, i32_w]
    rfl
  refine pure_ (i := 22) (N := some 88) (v := ?_) (a' := ?_) #[true, true, true, true, true, true, true, true, true, true, true, true, true, true, true, true, true, true, true, true, true, true, true, false] rfl rfl (any_of HT_.out (by kernel_rfl)) (fun _ _ _ h => h) (Or.inl ⟨by rfl, ?_⟩) ?_ ?_
  rotate_left
  · intro w'
    go_simp
    all_goals with_reducible rfl
  rotate_left
  · simp only [Act.put, List.setIfInBounds_toArray, List.set_cons_zero, List.set_cons_succ, i64_w, i32_w]
    rfl
  refine pure_ (i := 23) (N := some 89) (v := ?_) (a' := ?_) #[true, true, true, true, true, true, true, true, true, true, true, true, true, true, true, true, true, true, true, true, true, true, true, true] rfl rfl (any_of HT_.out (by kernel_rfl)) (fun _ _ _ h => h) (Or.inl ⟨by rfl, ?_⟩) ?_ ?_
  rotate_left
  · intro w'
    go_simp
    all_goals with_reducible rfl
  rotate_left
  · simp only [Act.put, List.setIfInBounds_toArray, List.set_cons_zero, List.set_cons_succ, i64_w, i32_w]
    rfl
  refine done_ (done_of HT_.out (by kernel_rfl)) ?_
  clear hs1 hs2
  have HB2_ := Aside0.mk (below_step (below_step (below_drew HB.out) H40.out) (below_step (pw_below_drewN (Below.refl _ _) nd) H42.out))
  have HB := HB2_
  clear HB2_ H40 H42 hHeld Cp Ca Cq Cb
  obtain ⟨t, ht1, ht2⟩ := FF.out.z3
  have T1 := Aside0.mk ht1
  have T2 := Aside0.mk ht2
  clear ht1 ht2
  go_wp2_with fail
  refine (shift_Zig.calls (wrap64 n) y _ (by rw [FF.out.nm]; exact FF.out.z1)).mono ?_
  rintro e w' ⟨rfl, ⟨nd, rfl⟩⟩
  have Hb : Aside0 (Below w42.heap.size w42 (w42.drewN nd)) := ⟨pw_below_drewN (Below.refl _ _) _⟩
  generalize w42.drewN nd = w51 at Hb ⊢
  have HB_ := Aside0.mk (below_step HB.out Hb.out)
  clear HB
  have HB := HB_
  clear HB_
  clear Hb nd
  go_wp2_with fail
  refine (tidemarkref01_Zig.calls (wrap64 n) y _ (by rw [FF.out.nm]; exact FF.out.z2)).mono ?_
  rintro e w' ⟨rfl, ⟨nd, rfl⟩⟩
  have Hb : Aside0 (Below w51.heap.size w51 (w51.drewN nd)) := ⟨pw_below_drewN (Below.refl _ _) _⟩
  generalize w51.drewN nd = w52 at Hb ⊢
  have HB_ := Aside0.mk (below_step HB.out Hb.out)
  clear HB
  have HB := HB_
  clear HB_
  clear Hb nd
  go_wp2_with fail
  refine (shift_Zag.calls n t _ T1.out).mono ?_
  rintro e w' ⟨rfl, ⟨nd, rfl⟩⟩
  have Hb : Aside0 (Below w52.heap.size w52 (w52.drewN nd)) := ⟨pw_below_drewN (Below.refl _ _) _⟩
  generalize w52.drewN nd = w53 at Hb ⊢
  have HB_ := Aside0.mk (below_step HB.out Hb.out)
  clear HB
  have HB := HB_
  clear HB_
  clear Hb nd
  go_wp2_with fail
  refine (tidemarkref01_Zag.calls n t _ T2.out).mono ?_
  rintro e w' ⟨rfl, ⟨nd, rfl⟩⟩
  have Hb : Aside0 (Below w53.heap.size w53 (w53.drewN nd)) := ⟨pw_below_drewN (Below.refl _ _) _⟩
  generalize w53.drewN nd = w54 at Hb ⊢
  have HB_ := Aside0.mk (below_step HB.out Hb.out)
  clear HB
  have HB := HB_
  clear HB_
  clear Hb nd
  by_cases he : e = 0
  · obtain rfl : r = z := FF.out.e0 he
    subst he
    go_wp2_with fail
    refine (tidemarkref01_Zag.calls x r _ FF.out.rx).mono ?_
    rintro e w' ⟨rfl, ⟨nd, rfl⟩⟩
    have Hb : Aside0 (Below w54.heap.size w54 (w54.drewN nd)) := ⟨pw_below_drewN (Below.refl _ _) _⟩
    generalize w54.drewN nd = w55 at Hb ⊢
    have HB_ := Aside0.mk (below_step HB.out Hb.out)
    clear HB
    have HB := HB_
    clear HB_
    clear Hb nd
    go_wp2_with fail
    go_ret
    exact ⟨by first | rfl | simp, HB.out⟩
  · obtain rfl : z = 0 := FF.out.e1 he
    have h1 : (e == 0) = false := beq_eq_false_iff_ne.2 he
    have h2 : (e != 0) = true := bne_iff_ne.2 he
    go_wp2_with fail
    go_ret
    exact ⟨by first | rfl | simp, HB.out⟩
end Go.Proofs.Ytemgidhelpacaaa.Pure
