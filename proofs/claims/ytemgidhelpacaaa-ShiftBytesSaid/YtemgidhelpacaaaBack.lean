/- ShiftBack's call returns true: what was put is got, whatever stands behind; what is got is put. For any numbers and bytes (thirty); what is used of plain numbers is in BackPure. -/
import Derived.Test.YtemgidhelpacaaaRows
import Derived.Test.YtemgidhelpacaaaPSx2
import Derived.Test.YtemgidhelpacaaaPSx8
import Derived.Test.YtemgidhelpacaaaPSx11
import Derived.Test.YtemgidhelpacaaaGet
import Derived.Deep.RegionWith
import Derived.Deep.QuietTactic
import Derived.BigQuiet
namespace Go.Proofs.Ytemgidhelpacaaa.Pure
set_option linter.unusedVariables false
set_option linter.unusedSimpArgs false
open Go.RowKit Go.Proofs.Ytemgidhelpacaaa.PS Go.Proofs.YtemgidhelpacaaaW.PrintWords Go.Proofs.YtemgidhelpacaaaW.PrintLast Go.Proofs.YtemgidhelpacaaaW.PrintMore Go.Proofs.Ytemgidhelpacaaa.B
attribute [local go_sem] max2_int min2_int max_two min_two
/-- min(len, 30), and what is cut off by it. -/
theorem cut30 (A : Option Addr) (c : Nat) (xs : List Int) (hc : xs.length ≤ c) : ∃ m : Int, (if 30 < (xs.length : Int) then 30 else (xs.length : Int)) = m ∧ 0 ≤ m ∧ m ≤ (xs.length : Int) ∧ m ≤ 30 ∧
    (∀ W : World, (Instr.slice 33 (.slice A xs.length c) none (some (.int .i64 m)) none).run Try.prog W = .ok (.slice A m.toNat c) W) ∧
      (∀ w : World, Kd.C (Kd.int .u8) w A xs.length xs → Kd.C (Kd.int .u8) w A m.toNat (xs.take m.toNat)) ∧ m.toNat ≤ c := by
  refine ⟨_, rfl, by split <;> omega, by split <;> omega, by split <;> omega, ?_⟩
  obtain ⟨i, hi, _, hsz, _⟩ := info_parts info5
  obtain ⟨m, hm⟩ : ∃ m : Int, (if 30 < (xs.length : Int) then 30 else (xs.length : Int)) = m := ⟨_, rfl⟩
  have h0 : 0 ≤ m := by rw [← hm]; split <;> omega
  have hle : m ≤ xs.length := by rw [← hm]; split <;> omega
  obtain ⟨h1, h2, h3⟩ := print_take_of (P := Try.prog) (Value.int .u8) 0 33 5 .i64 Try.underlying33 hi hsz A c xs m h0 hle hc
  have hl : (xs.take m.toNat).length = m.toNat := by rw [List.length_take]; omega
  rw [hl] at h1 h2 h3
  rw [hm]
  exact ⟨h1, fun w h => Kd.C_of_reads (h1 := fun _ => rfl) (h2 w (Kd.reads_of_C h)), h3⟩
theorem cutc (A : Option Addr) (c : Nat) (xs : List Int) (k : Nat) (hk : k ≤ xs.length) (hc : xs.length ≤ c) :
    (∀ W : World, (Instr.slice 33 (.slice A xs.length c) none (some (.int .i64 (k : Int))) none).run Try.prog W = .ok (.slice A k c) W) ∧
      (∀ w : World, Kd.C (Kd.int .u8) w A xs.length xs → Kd.C (Kd.int .u8) w A (xs.take k).length (xs.take k)) ∧ (xs.take k).length ≤ c ∧ (xs.take k).length = k := by
  obtain ⟨i, hi, _, hsz, _⟩ := info_parts info5
  obtain ⟨h1, h2, h3⟩ := print_take_of (P := Try.prog) (Value.int .u8) 0 33 5 .i64 Try.underlying33 hi hsz A c xs (k : Int) (by omega) (by omega) hc
  have hl : (xs.take k).length = k := by rw [List.length_take]; omega
  rw [Int.toNat_natCast] at h1 h2 h3
  exact ⟨fun W => by rw [h1 W, hl], fun w h => Kd.C_of_reads (h1 := fun _ => rfl) (h2 w (Kd.reads_of_C h)), h3, hl⟩
/-- What the walk uses of the numbers. -/
structure BackFacts (n m : Int) (p q b : List Int) (z s h : Int) : Prop where
  pb : b.length ≤ 30
  pp : shift_PutUint.f 10 [] n = some p
  pq : shift_PutInt.f 10 [] m = some q
  lp : p.length ≤ 10
  lq : q.length ≤ 10
  gp : shift_GetUint.f 22 (p ++ b) = some (n, (p.length : Int), 0)
  gq : shift_GetInt.f 22 (q ++ b) = some (m, (q.length : Int), 0)
  zz : ∃ y, shift_Zig.f m = some y ∧ shift_Zag.f y = some m
  yy : ∃ y, shift_Zag.f n = some y ∧ shift_Zig.f y = some n
  cut : ∀ c : Nat, c < p.length → shift_GetUint.f 22 (p.take c) = some (0, 0, 2)
  gb : shift_GetUint.f 22 b = some (z, s, h)
  fin1 : p.length = 10 ∨ n < ((128 ^ p.length : Nat) : Int)
  fin2 : p.length = 1 ∨ ((128 ^ (p.length - 1) : Nat) : Int) ≤ n
  lp1 : 1 ≤ p.length
  hb : h = 0 → 0 ≤ s ∧ s ≤ b.length ∧ shift_PutUint.f 10 [] z = some (b.take s.toNat)
def back16_T : Bool × List (List Nat × List Nat) := (true, [([], []), ([0], [0]), ([1], [1]), ([2], [2]), ([3, 2, 2], [2, 3]), ([4, 2], [2, 4]), ([2], [2]), ([2], [2]), ([6, 7, 2], [2, 6, 7]), ([8, 2], [2, 8]), ([5, 9, 2], [2, 5, 9]), ([2, 10], [2, 10])])
def back16_B : List Nat := [0, 1, 3, 7, 15, 31, 7, 7, 199, 455, 1023, 2047]
theorem back16_tab : rtab .any (opsOf Try.f9 16) = back16_T := by kernel_rfl
theorem back16_bits : waitsOk back16_T.2 back16_B = true := by kernel_rfl
set_option maxHeartbeats 4000000 in
set_option maxRecDepth 100000 in
theorem back_walk (n m : Int) (A2 : Option Addr) (c2 : Nat) (l2 : List Int) (w : World) (hr2 : Kd.C (Kd.int .u8) w A2 l2.length l2) (hc2 : l2.length ≤ c2) (p q b : List Int) (z s h : Int)
    (hb30 : ∀ k : Nat, k ≤ 30 → k ≤ l2.length → (l2.length ≤ 30 → k = l2.length) → (30 < l2.length → k = 30) → l2.take k = b) (F : BackFacts n m p q b z s h) :
    Calls Try.prog 9 #[.int .u64 n, .int .i64 m, .slice A2 l2.length c2] w fun e w' => e = .returned (.bool true) ∧ Below w.heap.size w w' := by
  obtain ⟨j, hm, hm0, hm1, hm2, hcut, hC, hcl⟩ := cut30 A2 c2 l2 hc2
  have hbj : l2.take j.toNat = b := hb30 j.toNat (by omega) (by omega) (fun h => by rw [← hm, if_neg (by omega)]; omega) (fun h => by rw [← hm, if_pos (by omega)]; rfl)
  rw [hbj] at hC
  have HC := Aside0.mk hC
  have HCL := Aside0.mk hcl
  have HBJ : Aside0 (b.length = j.toNat) := ⟨by rw [← hbj, List.length_take]; omega⟩
  have FF := Aside0.mk F
  clear hb30 hC hcl F hbj
  have C2 := Aside0.mk hr2
  clear hr2
  have HB := Aside0.mk (Below.refl w.heap.size w)
  go_enter Try.func9, Try.ntmps9
  go_wp2_with fail
  refine (tidemarklaw01_shown.calls 12 true _ shown_near).mono ?_
  rintro e w1 ⟨rfl, hb⟩
  have Hb := Aside0.mk hb
  clear hb
  have C2_ := Aside0.mk (Kd.C_below C2.out Hb.out)
  clear C2
  have C2 := C2_
  clear C2_
  have HB_ := Aside0.mk (below_step HB.out Hb.out)
  clear HB
  have HB := HB_
  clear HB_
  clear Hb
  go_wp2_with (first | ((with_reducible refine gate_dst (N := 24) rfl ?_); refine Kd.R_lit (w0 := w1) (Kd.int .u8) _ 5 ?hg (N := 24) ?hd (xs := []) (inner := []) (ok := fun _ => True) (okp := fun _ => True) ?hr ?hp (fun _ hk => hk) trivial (Below.refl _ _) (Nat.le_refl _) (by simp) ?_; (case hd => rfl); (case hg => rfl); (case hr => first | (go_simp; done) | (go_simp; rfl)); (case hp => exact (Reps.none _ _)); intro v2 w2 ho hb hg_ hnew_; have HO2 := Aside0.mk ho; have HB2 := Aside0.mk hb; clear hg_ hnew_ hb ho) | ((with_reducible refine gate_builtin (b := .append) (xs := #[.tmp 24, .tmp 29]) rfl ?_); at_builtin; refine Kd.R_append_rows (Kd.int .u8) (w0 := w1) w1.heap.size rfl (.tmp 24) (.tmp 29) 33 5 (.int .u8 0) 1 rfl Try.underlying33 info5 rfl (by decide) (by omega) v2 [] b _ _ _ (fun _ => True) (fun _ => False) rfl rfl ?aO ?aR (fun _ _ h => h) (fun _ h => h.elim) ?aF ?aB ?aS ?aL ?_; (case aR => exact (HC.out _ (Kd.C_below C2.out HB2.out))); (case aB => exact HB2.out); (case aF => exact (fun _ _ => trivial)); (case aO => exact HO2.out); (case aS => exact HB2.out.size); (case aL => (have := hm2; have := HBJ.out; simp; omega)); intro v3 w3 ho hb hg_ hat_; have HO3 := Aside0.mk ho; have HB3 := Aside0.mk hb; clear hg_ hat_ hb ho))
  obtain ⟨A3, c3, rfl⟩ := Kd.R_slice HO3.out
  try rw [List.nil_append]
  have C2_ := Aside0.mk (Kd.C_below C2.out HB3.out)
  clear C2
  have C2 := C2_
  clear C2_
  have HB_ := Aside0.mk (below_step HB.out HB3.out)
  clear HB
  have HB := HB_
  clear HB_
  have C3 : Aside0 (Kd.C (Kd.int .u8) w3 A3 b.length b) := ⟨(Kd.R_reads' HO3.out).2.2⟩
  have L3 : Aside0 (b.length ≤ c3) := ⟨(Kd.R_reads' HO3.out).2.1⟩
  clear HO2 HB2 HO3 HB3
  refine (shift_PutUint.calls 10 (fun _ => True) (.slice none 0 0) [] n p w3 w3 (Below.refl _ _) (Kd.R_nil _ _ _ _ _) FF.out.pp).mono ?_
  rintro e w4 ⟨v4, rfl, hr, hb, hk⟩
  obtain ⟨Ap, cp, rfl⟩ := Kd.R_slice hr
  have Hb := Aside0.mk hb
  have Hr := Aside0.mk hr
  clear hb hk hr
  have C2_ := Aside0.mk (Kd.C_below C2.out Hb.out)
  clear C2
  have C2 := C2_
  clear C2_
  have C3_ := Aside0.mk (Kd.C_below C3.out Hb.out)
  clear C3
  have C3 := C3_
  clear C3_
  have HB_ := Aside0.mk (below_step HB.out Hb.out)
  clear HB
  have HB := HB_
  clear HB_
  have Cp := Aside0.mk (Kd.R_reads' Hr.out).2.2
  have Lp := Aside0.mk (Kd.R_reads' Hr.out).2.1
  clear Hb Hr
  go_wp2_with (first | ((with_reducible refine gate_dst (N := 34) rfl ?_); refine Kd.R_lit (w0 := w4) (Kd.int .u8) _ 5 ?hg (N := 34) ?hd (xs := []) (inner := []) (ok := fun _ => True) (okp := fun _ => True) ?hr ?hp (fun _ hk => hk) trivial (Below.refl _ _) (Nat.le_refl _) (by simp) ?_; (case hd => rfl); (case hg => rfl); (case hr => first | (go_simp; done) | (go_simp; rfl)); (case hp => exact (Reps.none _ _)); intro v5 w5 ho hb hg_ hnew_; have HO5 := Aside0.mk ho; have HB5 := Aside0.mk hb; clear hg_ hnew_ hb ho) | ((with_reducible refine gate_builtin (b := .append) (xs := #[.tmp 34, .tmp 35]) rfl ?_); at_builtin; refine Kd.R_append_rows (Kd.int .u8) (w0 := w4) w4.heap.size rfl (.tmp 34) (.tmp 35) 33 5 (.int .u8 0) 1 rfl Try.underlying33 info5 rfl (by decide) (by omega) v5 [] p _ _ _ (fun _ => True) (fun _ => False) rfl rfl ?aO ?aR (fun _ _ h => h) (fun _ h => h.elim) ?aF ?aB ?aS ?aL ?_; (case aR => exact (Kd.C_below Cp.out HB5.out)); (case aB => exact HB5.out); (case aF => exact (fun _ _ => trivial)); (case aO => exact HO5.out); (case aS => exact HB5.out.size); (case aL => (have := FF.out.lp; have := FF.out.lq; have := FF.out.pb; simp; omega)); intro v6 w6 ho hb hg_ hat_; have HO6 := Aside0.mk ho; have HB6 := Aside0.mk hb; clear hg_ hat_ hb ho) | ((with_reducible refine gate_builtin (b := .append) (xs := #[.tmp 36, .tmp 37]) rfl ?_); at_builtin; refine Kd.R_append_rows (Kd.int .u8) (w0 := w4) w4.heap.size rfl (.tmp 36) (.tmp 37) 33 5 (.int .u8 0) 1 rfl Try.underlying33 info5 rfl (by decide) (by omega) v6 ([] ++ p) b _ _ _ (fun _ => True) (fun _ => False) rfl rfl ?aO ?aR (fun _ _ h => h) (fun _ h => h.elim) ?aF ?aB ?aS ?aL ?_; (case aR => exact (Kd.C_below C3.out HB6.out)); (case aB => exact HB6.out); (case aF => exact (fun _ _ => trivial)); (case aO => exact HO6.out); (case aS => exact HB6.out.size); (case aL => (have := FF.out.lp; have := FF.out.lq; have := FF.out.pb; simp; omega)); intro v7 w7 ho hb hg_ hat_; have HO7 := Aside0.mk ho; have HB7 := Aside0.mk hb; clear hg_ hat_ hb ho))
  obtain ⟨Apb, cpb, rfl⟩ := Kd.R_slice HO7.out
  try rw [List.nil_append]
  have C2_ := Aside0.mk (Kd.C_below C2.out HB7.out)
  clear C2
  have C2 := C2_
  clear C2_
  have C3_ := Aside0.mk (Kd.C_below C3.out HB7.out)
  clear C3
  have C3 := C3_
  clear C3_
  have Cp_ := Aside0.mk (Kd.C_below Cp.out HB7.out)
  clear Cp
  have Cp := Cp_
  clear Cp_
  have HB_ := Aside0.mk (below_step HB.out HB7.out)
  clear HB
  have HB := HB_
  clear HB_
  have Cpb : Aside0 (Kd.C (Kd.int .u8) w7 Apb (p ++ b).length (p ++ b)) := ⟨(Kd.R_reads' HO7.out).2.2⟩
  have Lpb : Aside0 ((p ++ b).length ≤ cpb) := ⟨(Kd.R_reads' HO7.out).2.1⟩
  clear HO5 HB5 HO6 HB6 HO7 HB7
  refine (shift_GetUint.calls 22 _ _ (p ++ b) n _ 0 _ Cpb.out Lpb.out FF.out.gp).mono ?_
  rintro e w' ⟨rfl, ⟨nd, rfl⟩⟩
  have Hb : Aside0 (Below w7.heap.size w7 (w7.drewN nd)) := ⟨pw_below_drewN (Below.refl _ _) _⟩
  generalize w7.drewN nd = w8 at Hb ⊢
  have C2_ := Aside0.mk (Kd.C_below C2.out Hb.out)
  clear C2
  have C2 := C2_
  clear C2_
  have C3_ := Aside0.mk (Kd.C_below C3.out Hb.out)
  clear C3
  have C3 := C3_
  clear C3_
  have Cp_ := Aside0.mk (Kd.C_below Cp.out Hb.out)
  clear Cp
  have Cp := Cp_
  clear Cp_
  have Cpb_ := Aside0.mk (Kd.C_below Cpb.out Hb.out)
  clear Cpb
  have Cpb := Cpb_
  clear Cpb_
  have HB_ := Aside0.mk (below_step HB.out Hb.out)
  clear HB
  have HB := HB_
  clear HB_
  clear Hb nd
  go_wp2_with fail
  refine (shift_PutInt.calls 10 (fun _ => True) (.slice none 0 0) [] m q w8 w8 (Below.refl _ _) (Kd.R_nil _ _ _ _ _) FF.out.pq).mono ?_
  rintro e w9 ⟨v9, rfl, hr, hb, hk⟩
  obtain ⟨Aq, cq, rfl⟩ := Kd.R_slice hr
  have Hb := Aside0.mk hb
  have Hr := Aside0.mk hr
  clear hb hk hr
  have C2_ := Aside0.mk (Kd.C_below C2.out Hb.out)
  clear C2
  have C2 := C2_
  clear C2_
  have C3_ := Aside0.mk (Kd.C_below C3.out Hb.out)
  clear C3
  have C3 := C3_
  clear C3_
  have Cp_ := Aside0.mk (Kd.C_below Cp.out Hb.out)
  clear Cp
  have Cp := Cp_
  clear Cp_
  have Cpb_ := Aside0.mk (Kd.C_below Cpb.out Hb.out)
  clear Cpb
  have Cpb := Cpb_
  clear Cpb_
  have HB_ := Aside0.mk (below_step HB.out Hb.out)
  clear HB
  have HB := HB_
  clear HB_
  have Cq := Aside0.mk (Kd.R_reads' Hr.out).2.2
  have Lq := Aside0.mk (Kd.R_reads' Hr.out).2.1
  clear Hb Hr
  go_wp2_with (first | ((with_reducible refine gate_dst (N := 46) rfl ?_); refine Kd.R_lit (w0 := w9) (Kd.int .u8) _ 5 ?hg (N := 46) ?hd (xs := []) (inner := []) (ok := fun _ => True) (okp := fun _ => True) ?hr ?hp (fun _ hk => hk) trivial (Below.refl _ _) (Nat.le_refl _) (by simp) ?_; (case hd => rfl); (case hg => rfl); (case hr => first | (go_simp; done) | (go_simp; rfl)); (case hp => exact (Reps.none _ _)); intro v10 w10 ho hb hg_ hnew_; have HO10 := Aside0.mk ho; have HB10 := Aside0.mk hb; clear hg_ hnew_ hb ho) | ((with_reducible refine gate_builtin (b := .append) (xs := #[.tmp 46, .tmp 47]) rfl ?_); at_builtin; refine Kd.R_append_rows (Kd.int .u8) (w0 := w9) w9.heap.size rfl (.tmp 46) (.tmp 47) 33 5 (.int .u8 0) 1 rfl Try.underlying33 info5 rfl (by decide) (by omega) v10 [] q _ _ _ (fun _ => True) (fun _ => False) rfl rfl ?aO ?aR (fun _ _ h => h) (fun _ h => h.elim) ?aF ?aB ?aS ?aL ?_; (case aR => exact (Kd.C_below Cq.out HB10.out)); (case aB => exact HB10.out); (case aF => exact (fun _ _ => trivial)); (case aO => exact HO10.out); (case aS => exact HB10.out.size); (case aL => (have := FF.out.lp; have := FF.out.lq; have := FF.out.pb; simp; omega)); intro v11 w11 ho hb hg_ hat_; have HO11 := Aside0.mk ho; have HB11 := Aside0.mk hb; clear hg_ hat_ hb ho) | ((with_reducible refine gate_builtin (b := .append) (xs := #[.tmp 48, .tmp 49]) rfl ?_); at_builtin; refine Kd.R_append_rows (Kd.int .u8) (w0 := w9) w9.heap.size rfl (.tmp 48) (.tmp 49) 33 5 (.int .u8 0) 1 rfl Try.underlying33 info5 rfl (by decide) (by omega) v11 ([] ++ q) b _ _ _ (fun _ => True) (fun _ => False) rfl rfl ?aO ?aR (fun _ _ h => h) (fun _ h => h.elim) ?aF ?aB ?aS ?aL ?_; (case aR => exact (Kd.C_below C3.out HB11.out)); (case aB => exact HB11.out); (case aF => exact (fun _ _ => trivial)); (case aO => exact HO11.out); (case aS => exact HB11.out.size); (case aL => (have := FF.out.lp; have := FF.out.lq; have := FF.out.pb; simp; omega)); intro v12 w12 ho hb hg_ hat_; have HO12 := Aside0.mk ho; have HB12 := Aside0.mk hb; clear hg_ hat_ hb ho))
  obtain ⟨Aqb, cqb, rfl⟩ := Kd.R_slice HO12.out
  try rw [List.nil_append]
  have C2_ := Aside0.mk (Kd.C_below C2.out HB12.out)
  clear C2
  have C2 := C2_
  clear C2_
  have C3_ := Aside0.mk (Kd.C_below C3.out HB12.out)
  clear C3
  have C3 := C3_
  clear C3_
  have Cp_ := Aside0.mk (Kd.C_below Cp.out HB12.out)
  clear Cp
  have Cp := Cp_
  clear Cp_
  have Cpb_ := Aside0.mk (Kd.C_below Cpb.out HB12.out)
  clear Cpb
  have Cpb := Cpb_
  clear Cpb_
  have Cq_ := Aside0.mk (Kd.C_below Cq.out HB12.out)
  clear Cq
  have Cq := Cq_
  clear Cq_
  have HB_ := Aside0.mk (below_step HB.out HB12.out)
  clear HB
  have HB := HB_
  clear HB_
  have Cqb : Aside0 (Kd.C (Kd.int .u8) w12 Aqb (q ++ b).length (q ++ b)) := ⟨(Kd.R_reads' HO12.out).2.2⟩
  have Lqb : Aside0 ((q ++ b).length ≤ cqb) := ⟨(Kd.R_reads' HO12.out).2.1⟩
  clear HO10 HB10 HO11 HB11 HO12 HB12
  refine (shift_GetInt.calls 22 _ _ (q ++ b) m _ 0 _ Cqb.out Lqb.out FF.out.gq).mono ?_
  rintro e w' ⟨rfl, ⟨nd, rfl⟩⟩
  have Hb : Aside0 (Below w12.heap.size w12 (w12.drewN nd)) := ⟨pw_below_drewN (Below.refl _ _) _⟩
  generalize w12.drewN nd = w13 at Hb ⊢
  have C2_ := Aside0.mk (Kd.C_below C2.out Hb.out)
  clear C2
  have C2 := C2_
  clear C2_
  have C3_ := Aside0.mk (Kd.C_below C3.out Hb.out)
  clear C3
  have C3 := C3_
  clear C3_
  have Cp_ := Aside0.mk (Kd.C_below Cp.out Hb.out)
  clear Cp
  have Cp := Cp_
  clear Cp_
  have Cpb_ := Aside0.mk (Kd.C_below Cpb.out Hb.out)
  clear Cpb
  have Cpb := Cpb_
  clear Cpb_
  have Cq_ := Aside0.mk (Kd.C_below Cq.out Hb.out)
  clear Cq
  have Cq := Cq_
  clear Cq_
  have Cqb_ := Aside0.mk (Kd.C_below Cqb.out Hb.out)
  clear Cqb
  have Cqb := Cqb_
  clear Cqb_
  have HB_ := Aside0.mk (below_step HB.out Hb.out)
  clear HB
  have HB := HB_
  clear HB_
  clear Hb nd
  go_wp2_with fail
  obtain ⟨y1, hy1, hy2⟩ := FF.out.zz
  obtain ⟨y2, hy3, hy4⟩ := FF.out.yy
  have Y1 := Aside0.mk hy1
  have Y2 := Aside0.mk hy2
  have Y3 := Aside0.mk hy3
  have Y4 := Aside0.mk hy4
  clear hy1 hy2 hy3 hy4
  refine (shift_Zig.calls _ _ _ Y1.out).mono ?_
  rintro e w' ⟨rfl, ⟨nd, rfl⟩⟩
  have Hb : Aside0 (Below w13.heap.size w13 (w13.drewN nd)) := ⟨pw_below_drewN (Below.refl _ _) _⟩
  generalize w13.drewN nd = w14 at Hb ⊢
  have C2_ := Aside0.mk (Kd.C_below C2.out Hb.out)
  clear C2
  have C2 := C2_
  clear C2_
  have C3_ := Aside0.mk (Kd.C_below C3.out Hb.out)
  clear C3
  have C3 := C3_
  clear C3_
  have Cp_ := Aside0.mk (Kd.C_below Cp.out Hb.out)
  clear Cp
  have Cp := Cp_
  clear Cp_
  have Cpb_ := Aside0.mk (Kd.C_below Cpb.out Hb.out)
  clear Cpb
  have Cpb := Cpb_
  clear Cpb_
  have Cq_ := Aside0.mk (Kd.C_below Cq.out Hb.out)
  clear Cq
  have Cq := Cq_
  clear Cq_
  have Cqb_ := Aside0.mk (Kd.C_below Cqb.out Hb.out)
  clear Cqb
  have Cqb := Cqb_
  clear Cqb_
  have HB_ := Aside0.mk (below_step HB.out Hb.out)
  clear HB
  have HB := HB_
  clear HB_
  clear Hb nd
  go_wp2_with fail
  refine (shift_Zag.calls _ _ _ Y2.out).mono ?_
  rintro e w' ⟨rfl, ⟨nd, rfl⟩⟩
  have Hb : Aside0 (Below w14.heap.size w14 (w14.drewN nd)) := ⟨pw_below_drewN (Below.refl _ _) _⟩
  generalize w14.drewN nd = w15 at Hb ⊢
  have C2_ := Aside0.mk (Kd.C_below C2.out Hb.out)
  clear C2
  have C2 := C2_
  clear C2_
  have C3_ := Aside0.mk (Kd.C_below C3.out Hb.out)
  clear C3
  have C3 := C3_
  clear C3_
  have Cp_ := Aside0.mk (Kd.C_below Cp.out Hb.out)
  clear Cp
  have Cp := Cp_
  clear Cp_
  have Cpb_ := Aside0.mk (Kd.C_below Cpb.out Hb.out)
  clear Cpb
  have Cpb := Cpb_
  clear Cpb_
  have Cq_ := Aside0.mk (Kd.C_below Cq.out Hb.out)
  clear Cq
  have Cq := Cq_
  clear Cq_
  have Cqb_ := Aside0.mk (Kd.C_below Cqb.out Hb.out)
  clear Cqb
  have Cqb := Cqb_
  clear Cqb_
  have HB_ := Aside0.mk (below_step HB.out Hb.out)
  clear HB
  have HB := HB_
  clear HB_
  clear Hb nd
  go_wp2_with fail
  refine (shift_Zag.calls _ _ _ Y3.out).mono ?_
  rintro e w' ⟨rfl, ⟨nd, rfl⟩⟩
  have Hb : Aside0 (Below w15.heap.size w15 (w15.drewN nd)) := ⟨pw_below_drewN (Below.refl _ _) _⟩
  generalize w15.drewN nd = w16 at Hb ⊢
  have C2_ := Aside0.mk (Kd.C_below C2.out Hb.out)
  clear C2
  have C2 := C2_
  clear C2_
  have C3_ := Aside0.mk (Kd.C_below C3.out Hb.out)
  clear C3
  have C3 := C3_
  clear C3_
  have Cp_ := Aside0.mk (Kd.C_below Cp.out Hb.out)
  clear Cp
  have Cp := Cp_
  clear Cp_
  have Cpb_ := Aside0.mk (Kd.C_below Cpb.out Hb.out)
  clear Cpb
  have Cpb := Cpb_
  clear Cpb_
  have Cq_ := Aside0.mk (Kd.C_below Cq.out Hb.out)
  clear Cq
  have Cq := Cq_
  clear Cq_
  have Cqb_ := Aside0.mk (Kd.C_below Cqb.out Hb.out)
  clear Cqb
  have Cqb := Cqb_
  clear Cqb_
  have HB_ := Aside0.mk (below_step HB.out Hb.out)
  clear HB
  have HB := HB_
  clear HB_
  clear Hb nd
  go_wp2_with fail
  refine (shift_Zig.calls _ _ _ Y4.out).mono ?_
  rintro e w' ⟨rfl, ⟨nd, rfl⟩⟩
  have Hb : Aside0 (Below w16.heap.size w16 (w16.drewN nd)) := ⟨pw_below_drewN (Below.refl _ _) _⟩
  generalize w16.drewN nd = w17 at Hb ⊢
  have C2_ := Aside0.mk (Kd.C_below C2.out Hb.out)
  clear C2
  have C2 := C2_
  clear C2_
  have C3_ := Aside0.mk (Kd.C_below C3.out Hb.out)
  clear C3
  have C3 := C3_
  clear C3_
  have Cp_ := Aside0.mk (Kd.C_below Cp.out Hb.out)
  clear Cp
  have Cp := Cp_
  clear Cp_
  have Cpb_ := Aside0.mk (Kd.C_below Cpb.out Hb.out)
  clear Cpb
  have Cpb := Cpb_
  clear Cpb_
  have Cq_ := Aside0.mk (Kd.C_below Cq.out Hb.out)
  clear Cq
  have Cq := Cq_
  clear Cq_
  have Cqb_ := Aside0.mk (Kd.C_below Cqb.out Hb.out)
  clear Cqb
  have Cqb := Cqb_
  clear Cqb_
  have HB_ := Aside0.mk (below_step HB.out Hb.out)
  clear HB
  have HB := HB_
  clear HB_
  clear Hb nd
  go_wp2_with fail
  clear C2 HC HCL Cpb Cqb Cq Lpb Lqb Lq hm hm0 hm1 hm2 hcut HBJ
  go_loopw [16] (fun v w' => ∃ c : Nat, c ≤ p.length ∧ v = .int .i64 c ∧ Aside0 (Kd.C (Kd.int .u8) w' Ap p.length p) ∧ Aside0 (Kd.C (Kd.int .u8) w' A3 b.length b) ∧ Aside0 (Below w.heap.size w w')) (fun v _ => p.length - (intOf v).toNat)
  case atStart => exact ⟨0, Nat.zero_le _, rfl, Cp, C3, HB⟩
  case round =>
    clear Cp C3 HB
    obtain ⟨c, hc, rfl, Cp, C3, HB⟩ := hrel
    obtain ⟨hcut, hCc, hLc, hlc⟩ := cutc Ap cp p c hc Lp.out
    by_cases hlt : c < p.length
    · have G := Aside0.mk (FF.out.cut c hlt)
      have HC10 : Aside0 (c ≤ 10) := ⟨by have := FF.out.lp; omega⟩
      have CC := Aside0.mk (hCc _ Cp.out)
      have LC := Aside0.mk hLc
      have HLC := Aside0.mk hlc
      clear hCc hLc hlc
      go_wp2_with fail
      refine calls_of_args (args' := #[.slice Ap (p.take c).length cp]) (by rw [HLC.out]) ?_
      refine (shift_GetUint.calls 22 _ _ (p.take c) 0 0 2 _ CC.out LC.out G.out).mono ?_
      rintro e w' ⟨rfl, ⟨nd, rfl⟩⟩
      go_wp2_with fail
      go_roundw
      case rel => exact ⟨c + 1, by omega, by (first | go_num | (have := HC10.out; rw [wrap64_id _ (by omega) (by omega)]; go_num)), ⟨Kd.C_drewN Cp.out _⟩, ⟨Kd.C_drewN C3.out _⟩, ⟨pw_below_drewN HB.out _⟩⟩
      case measure => have := HC10.out; rw [wrap64_id _ (by omega) (by omega)]; simp [intOf]; omega
    · clear hCc hLc hlc hcut
      clear Cp
      go_wp2_with fail
      refine (shift_GetUint.calls 22 _ _ b z s h _ C3.out L3.out FF.out.gb).mono ?_
      rintro e w' ⟨rfl, ⟨nd, rfl⟩⟩
      have Hb : Aside0 (Below wr.heap.size wr (wr.drewN nd)) := ⟨pw_below_drewN (Below.refl _ _) _⟩
      generalize wr.drewN nd = w18 at Hb ⊢
      have C3_ := Aside0.mk (Kd.C_below C3.out Hb.out)
      clear C3
      have C3 := C3_
      clear C3_
      have HB_ := Aside0.mk (below_step HB.out Hb.out)
      clear HB
      have HB := HB_
      clear HB_
      clear Hb nd
      by_cases hh : h = 0
      · subst hh
        obtain ⟨hs0, hs1, hput⟩ := FF.out.hb rfl
        obtain ⟨k, rfl⟩ : ∃ k : Nat, s = (k : Int) := ⟨s.toNat, by omega⟩
        obtain ⟨hcut, hCc, hLc, hlc⟩ := cutc A3 c3 b k (by omega) L3.out
        rw [Int.toNat_natCast] at hput
        have hcv : ∀ W : World, Kd.C (Kd.int .u8) W A3 b.length b → (convert 33 9 (.slice A3 k c3)).run Try.prog W = .ok (.string (strOfNums (b.take k))) W := by
          intro W hW
          have hx := Kd.C_string (P := Try.prog) (A := A3) (c := c3) Try.underlying33 Try.underlying5 Try.underlying9 (hCc W hW)
          rwa [hlc] at hx
        obtain ⟨t, ht⟩ : ∃ t, b.take k = t := ⟨_, rfl⟩
        rw [ht] at hput hcv
        have HPUT := Aside0.mk hput
        clear hput ht hlc hCc hLc hs0 hs1
        go_wp2_with fail
        refine start_ (n := 12) (S := fun W' => Kd.C (Kd.int .u8) W' A3 b.length b) (ds := []) #[false, false, false, false, false, false, false, false, false, false, false, false] (by kernel_rfl) rfl rfl (Kd.C_drew C3.out) (fun hHeld => ?_)
        refine with_tabW back16_tab back16_bits (fun HT_ HW_ => ?_)
        refine pure_ (i := 0) (N := some 119) (v := ?_) (a' := ?_) #[true, false, false, false, false, false, false, false, false, false, false, false] rfl rfl (any_of HT_.out (by kernel_rfl)) (fun _ _ _ h => h) (Or.inl ⟨by rfl, ?_⟩) ?_ ?_
        rotate_left
        · intro w'
          go_simp
          with_reducible rfl
        rotate_left
        · simp only [Act.put, List.setIfInBounds_toArray, List.set_cons_zero, List.set_cons_succ, i64_w, i32_w]
          rfl
        refine pure_ (i := 1) (N := some 120) (v := ?_) (a' := ?_) #[true, true, false, false, false, false, false, false, false, false, false, false] rfl rfl (any_of HT_.out (by kernel_rfl)) (fun _ _ _ h => h) (Or.inl ⟨by rfl, ?_⟩) ?_ ?_
        rotate_left
        · intro w'
          go_simp
          with_reducible rfl
        rotate_left
        · simp only [Act.put, List.setIfInBounds_toArray, List.set_cons_zero, List.set_cons_succ, i64_w, i32_w]
          rfl
        refine pure_ (i := 2) (N := some 121) (v := ?_) (a' := ?_) #[true, true, true, false, false, false, false, false, false, false, false, false] rfl rfl (any_of HT_.out (by kernel_rfl)) (fun _ _ _ h => h) (Or.inl ⟨by rfl, ?_⟩) ?_ ?_
        rotate_left
        · intro w'
          go_simp
          with_reducible rfl
        rotate_left
        · simp only [Act.put, List.setIfInBounds_toArray, List.set_cons_zero, List.set_cons_succ, i64_w, i32_w]
          rfl
        refine pure_ (i := 3) (N := some 122) (v := ?_) (a' := ?_) #[true, true, true, true, false, false, false, false, false, false, false, false] rfl rfl (any_of HT_.out (by kernel_rfl)) (fun _ _ _ h => h) (Or.inl ⟨by rfl, ?_⟩) ?_ ?_
        rotate_left
        · intro w'
          go_simp
          with_reducible rfl
        rotate_left
        · simp only [Act.put, List.setIfInBounds_toArray, List.set_cons_zero, List.set_cons_succ, i64_w, i32_w]
          rfl
        refine pure_ (i := 6) (N := some 125) (v := ?_) (a' := ?_) #[true, true, true, true, false, false, true, false, false, false, false, false] rfl rfl (any_of HT_.out (by kernel_rfl)) (fun _ _ _ h => h) (Or.inl ⟨by rfl, ?_⟩) ?_ ?_
        rotate_left
        · intro w'
          go_simp
          with_reducible rfl
        rotate_left
        · simp only [Act.put, List.setIfInBounds_toArray, List.set_cons_zero, List.set_cons_succ, i64_w, i32_w]
          rfl
        refine pure_ (i := 7) (N := some 126) (v := ?_) (a' := ?_) #[true, true, true, true, false, false, true, true, false, false, false, false] rfl rfl (any_of HT_.out (by kernel_rfl)) (fun _ _ _ h => h) (Or.inl ⟨by rfl, ?_⟩) ?_ ?_
        rotate_left
        · intro w'
          go_simp
          with_reducible rfl
        rotate_left
        · simp only [Act.put, List.setIfInBounds_toArray, List.set_cons_zero, List.set_cons_succ, i64_w, i32_w]
          rfl
        refine pure_ (i := 8) (N := some 127) (v := ?_) (a' := ?_) #[true, true, true, true, false, false, true, true, true, false, false, false] rfl rfl (any_of HT_.out (by kernel_rfl)) (fun _ _ _ h => h) (Or.inl ⟨by rfl, ?_⟩) ?_ ?_
        rotate_left
        · intro w'
          go_simp
          with_reducible rfl
        rotate_left
        · simp only [Act.put, List.setIfInBounds_toArray, List.set_cons_zero, List.set_cons_succ, i64_w, i32_w]
          rfl
        refine take_ (i := 9) (N := some 128) (v := ?_) (a' := ?_) #[true, true, true, true, false, false, true, true, true, true, false, false] rfl rfl (take_ofW HT_.out HW_.out (by kernel_rfl)) (fun _ _ _ h => h) (Or.inl ⟨by rfl, ?_⟩) hHeld ?_ ?_
        rotate_left
        · rintro w' s0
          have hx := hcv w' s0; go_simp
          with_reducible rfl
        rotate_left
        · simp only [Act.put, List.setIfInBounds_toArray, List.set_cons_zero, List.set_cons_succ, i64_w, i32_w]
          rfl
        refine one_ (i := 4) (N := some 123) #[true, true, true, true, true, false, true, true, true, true, false, false] rfl rfl (one_of HT_.out (by kernel_rfl)) (by decide) (fun K hK => ?_)
        refine goes_ Try.func25 (by kernel_rfl) rfl #[.slice none 0 0, .int .u64 z] (by rfl) rfl rfl (by (try simp only [List.map_toArray, List.map_cons, List.map_nil]); first | done | rfl) ?_
        with_reducible refine (shift_PutUint.calls 10 (fun _ => True) (.slice none 0 0) [] z t _ _ (Below.refl _ _) (Kd.R_nil _ _ _ _ _) HPUT.out).mono ?_
        rintro e w20 ⟨v20, rfl, hr, hb, hk⟩
        refine ⟨_, rfl, ?_⟩
        have Hb := Aside0.mk (below_step (below_drew (Below.refl _ _)) hb)
        have Hr := Aside0.mk hr
        clear hb hk hr
        refine hK.out _ _ (Kd.C_below C3.out Hb.out) (fun hHeld => ?_)
        clear hK K
        refine norm_ (a' := ?_) ?_ ?_
        rotate_left
        · show Act.put _ (some 123) _ = _
          simp only [Act.put, List.setIfInBounds_toArray, List.set_cons_zero, List.set_cons_succ, i64_w, i32_w]
          rfl
        have hcw := own_string (P := Try.prog) Try.underlying33 Try.underlying5 Try.underlying9 (Kd.own_of_R Hr.out)
        refine one_ (i := 5) (N := some 124) #[true, true, true, true, true, true, true, true, true, true, false, false] rfl rfl (one_of HT_.out (by kernel_rfl)) (by decide) (fun K hK => ?_)
        refine value_ (v := .string (strOfNums t)) (w1 := w20) (by rfl) rfl ?_ ?_
        · go_simp
        refine hK.out _ _ (Kd.C_below C3.out Hb.out) (fun hHeld => ?_)
        clear hK K
        refine norm_ (a' := ?_) ?_ ?_
        rotate_left
        · show Act.put _ (some 124) _ = _
          simp only [Act.put, List.setIfInBounds_toArray, List.set_cons_zero, List.set_cons_succ, i64_w, i32_w]
          rfl
        refine pure_ (i := 10) (N := some 129) (v := ?_) (a' := ?_) #[true, true, true, true, true, true, true, true, true, true, true, false] rfl rfl (any_of HT_.out (by kernel_rfl)) (fun _ _ _ h => h) (Or.inl ⟨by rfl, ?_⟩) ?_ ?_
        rotate_left
        · intro w'
          go_simp
          with_reducible rfl
        rotate_left
        · simp only [Act.put, List.setIfInBounds_toArray, List.set_cons_zero, List.set_cons_succ, i64_w, i32_w]
          rfl
        refine pure_ (i := 11) (N := some 130) (v := ?_) (a' := ?_) #[true, true, true, true, true, true, true, true, true, true, true, true] rfl rfl (any_of HT_.out (by kernel_rfl)) (fun _ _ _ h => h) (Or.inl ⟨by rfl, ?_⟩) ?_ ?_
        rotate_left
        · intro w'
          go_simp
          with_reducible rfl
        rotate_left
        · simp only [Act.put, List.setIfInBounds_toArray, List.set_cons_zero, List.set_cons_succ, i64_w, i32_w]
          rfl
        refine done_ (done_of HT_.out (by kernel_rfl)) ?_
        have HBE := Aside0.mk (below_step HB.out Hb.out)
        obtain ⟨a, ha⟩ : ∃ a : Nat, p.length = a := ⟨_, rfl⟩
        have f1 := FF.out.fin1
        have f2 := FF.out.fin2
        have f3 := FF.out.lp1
        have f4 := FF.out.lp
        rw [ha] at f1 f2 f3 f4 ⊢
        have F1 := Aside0.mk f1
        have F2 := Aside0.mk f2
        clear f1 f2
        match a, f3, f4, ha, F1, F2 with
        | 1, _, _, ha, F1, F2 =>
          have e : (128 : Nat) ^ 1 = 128 := by decide
          have d1 : decide (n < 128) = true := decide_eq_true (by rcases F1.out with h | h; exact absurd h (by decide); rw [e] at h; omega)
          clear e
          have HA := Aside0.mk ha
          clear ha
          go_wp2_with fail
          go_ret
          exact ⟨by first | rfl | simp, HBE.out⟩
        | 2, _, _, ha, F1, F2 =>
          have e : (128 : Nat) ^ 2 = 16384 := by decide
          have d1 : decide (n < 16384) = true := decide_eq_true (by rcases F1.out with h | h; exact absurd h (by decide); rw [e] at h; omega)
          clear e
          have e : (128 : Nat) ^ (2 - 1) = 128 := by decide
          have d2 : decide (128 ≤ n) = true := decide_eq_true (by rcases F2.out with h | h; exact absurd h (by decide); rw [e] at h; omega)
          clear e
          have HA := Aside0.mk ha
          clear ha
          go_wp2_with fail
          go_ret
          exact ⟨by first | rfl | simp, HBE.out⟩
        | 3, _, _, ha, F1, F2 =>
          have e : (128 : Nat) ^ 3 = 2097152 := by decide
          have d1 : decide (n < 2097152) = true := decide_eq_true (by rcases F1.out with h | h; exact absurd h (by decide); rw [e] at h; omega)
          clear e
          have e : (128 : Nat) ^ (3 - 1) = 16384 := by decide
          have d2 : decide (16384 ≤ n) = true := decide_eq_true (by rcases F2.out with h | h; exact absurd h (by decide); rw [e] at h; omega)
          clear e
          have HA := Aside0.mk ha
          clear ha
          go_wp2_with fail
          go_ret
          exact ⟨by first | rfl | simp, HBE.out⟩
        | 4, _, _, ha, F1, F2 =>
          have e : (128 : Nat) ^ 4 = 268435456 := by decide
          have d1 : decide (n < 268435456) = true := decide_eq_true (by rcases F1.out with h | h; exact absurd h (by decide); rw [e] at h; omega)
          clear e
          have e : (128 : Nat) ^ (4 - 1) = 2097152 := by decide
          have d2 : decide (2097152 ≤ n) = true := decide_eq_true (by rcases F2.out with h | h; exact absurd h (by decide); rw [e] at h; omega)
          clear e
          have HA := Aside0.mk ha
          clear ha
          go_wp2_with fail
          go_ret
          exact ⟨by first | rfl | simp, HBE.out⟩
        | 5, _, _, ha, F1, F2 =>
          have e : (128 : Nat) ^ 5 = 34359738368 := by decide
          have d1 : decide (n < 34359738368) = true := decide_eq_true (by rcases F1.out with h | h; exact absurd h (by decide); rw [e] at h; omega)
          clear e
          have e : (128 : Nat) ^ (5 - 1) = 268435456 := by decide
          have d2 : decide (268435456 ≤ n) = true := decide_eq_true (by rcases F2.out with h | h; exact absurd h (by decide); rw [e] at h; omega)
          clear e
          have HA := Aside0.mk ha
          clear ha
          go_wp2_with fail
          go_ret
          exact ⟨by first | rfl | simp, HBE.out⟩
        | 6, _, _, ha, F1, F2 =>
          have e : (128 : Nat) ^ 6 = 4398046511104 := by decide
          have d1 : decide (n < 4398046511104) = true := decide_eq_true (by rcases F1.out with h | h; exact absurd h (by decide); rw [e] at h; omega)
          clear e
          have e : (128 : Nat) ^ (6 - 1) = 34359738368 := by decide
          have d2 : decide (34359738368 ≤ n) = true := decide_eq_true (by rcases F2.out with h | h; exact absurd h (by decide); rw [e] at h; omega)
          clear e
          have HA := Aside0.mk ha
          clear ha
          go_wp2_with fail
          go_ret
          exact ⟨by first | rfl | simp, HBE.out⟩
        | 7, _, _, ha, F1, F2 =>
          have e : (128 : Nat) ^ 7 = 562949953421312 := by decide
          have d1 : decide (n < 562949953421312) = true := decide_eq_true (by rcases F1.out with h | h; exact absurd h (by decide); rw [e] at h; omega)
          clear e
          have e : (128 : Nat) ^ (7 - 1) = 4398046511104 := by decide
          have d2 : decide (4398046511104 ≤ n) = true := decide_eq_true (by rcases F2.out with h | h; exact absurd h (by decide); rw [e] at h; omega)
          clear e
          have HA := Aside0.mk ha
          clear ha
          go_wp2_with fail
          go_ret
          exact ⟨by first | rfl | simp, HBE.out⟩
        | 8, _, _, ha, F1, F2 =>
          have e : (128 : Nat) ^ 8 = 72057594037927936 := by decide
          have d1 : decide (n < 72057594037927936) = true := decide_eq_true (by rcases F1.out with h | h; exact absurd h (by decide); rw [e] at h; omega)
          clear e
          have e : (128 : Nat) ^ (8 - 1) = 562949953421312 := by decide
          have d2 : decide (562949953421312 ≤ n) = true := decide_eq_true (by rcases F2.out with h | h; exact absurd h (by decide); rw [e] at h; omega)
          clear e
          have HA := Aside0.mk ha
          clear ha
          go_wp2_with fail
          go_ret
          exact ⟨by first | rfl | simp, HBE.out⟩
        | 9, _, _, ha, F1, F2 =>
          have e : (128 : Nat) ^ 9 = 9223372036854775808 := by decide
          have d1 : decide (n < 9223372036854775808) = true := decide_eq_true (by rcases F1.out with h | h; exact absurd h (by decide); rw [e] at h; omega)
          clear e
          have e : (128 : Nat) ^ (9 - 1) = 72057594037927936 := by decide
          have d2 : decide (72057594037927936 ≤ n) = true := decide_eq_true (by rcases F2.out with h | h; exact absurd h (by decide); rw [e] at h; omega)
          clear e
          have HA := Aside0.mk ha
          clear ha
          go_wp2_with fail
          go_ret
          exact ⟨by first | rfl | simp, HBE.out⟩
        | 10, _, _, ha, F1, F2 =>
          have e : (128 : Nat) ^ (10 - 1) = 9223372036854775808 := by decide
          have d2 : decide (9223372036854775808 ≤ n) = true := decide_eq_true (by rcases F2.out with h | h; exact absurd h (by decide); rw [e] at h; omega)
          clear e
          have HA := Aside0.mk ha
          clear ha
          go_wp2_with fail
          go_ret
          exact ⟨by first | rfl | simp, HBE.out⟩
      · have hh' : (h == 0) = false := beq_eq_false_iff_ne.2 hh
        go_wp2_with fail
        refine start_ (n := 12) (S := fun _ => True) (ds := []) #[false, false, false, false, false, false, false, false, false, false, false, false] (by kernel_rfl) rfl rfl trivial (fun hHeld => ?_)
        refine with_tabW back16_tab back16_bits (fun HT_ HW_ => ?_)
        refine pure_ (i := 0) (N := some 119) (v := ?_) (a' := ?_) #[true, false, false, false, false, false, false, false, false, false, false, false] rfl rfl (any_of HT_.out (by kernel_rfl)) (fun _ _ _ h => h) (Or.inl ⟨by rfl, ?_⟩) ?_ ?_
        rotate_left
        · intro w'
          go_simp
          with_reducible rfl
        rotate_left
        · simp only [Act.put, List.setIfInBounds_toArray, List.set_cons_zero, List.set_cons_succ, i64_w, i32_w]
          rfl
        refine pure_ (i := 1) (N := some 120) (v := ?_) (a' := ?_) #[true, true, false, false, false, false, false, false, false, false, false, false] rfl rfl (any_of HT_.out (by kernel_rfl)) (fun _ _ _ h => h) (Or.inl ⟨by rfl, ?_⟩) ?_ ?_
        rotate_left
        · intro w'
          go_simp
          with_reducible rfl
        rotate_left
        · simp only [Act.put, List.setIfInBounds_toArray, List.set_cons_zero, List.set_cons_succ, i64_w, i32_w]
          rfl
        refine pure_ (i := 2) (N := some 121) (v := ?_) (a' := ?_) #[true, true, true, false, false, false, false, false, false, false, false, false] rfl rfl (any_of HT_.out (by kernel_rfl)) (fun _ _ _ h => h) (Or.inl ⟨by rfl, ?_⟩) ?_ ?_
        rotate_left
        · intro w'
          go_simp
          with_reducible rfl
        rotate_left
        · simp only [Act.put, List.setIfInBounds_toArray, List.set_cons_zero, List.set_cons_succ, i64_w, i32_w]
          rfl
        refine pure_ (i := 3) (N := some 122) (v := undef) (a' := ?_) #[true, true, true, true, false, false, false, false, false, false, false, false] rfl rfl (any_of HT_.out (by kernel_rfl)) (fun _ _ _ h => h) (Or.inr ⟨by rfl, rfl⟩) ?_ ?_
        rotate_left
        · simp only [Act.put, List.setIfInBounds_toArray, List.set_cons_zero, List.set_cons_succ, i64_w, i32_w]
          rfl
        refine pure_ (i := 4) (N := some 123) (v := undef) (a' := ?_) #[true, true, true, true, true, false, false, false, false, false, false, false] rfl rfl (any_of HT_.out (by kernel_rfl)) (fun _ _ _ h => h) (Or.inr ⟨by rfl, rfl⟩) ?_ ?_
        rotate_left
        · simp only [Act.put, List.setIfInBounds_toArray, List.set_cons_zero, List.set_cons_succ, i64_w, i32_w]
          rfl
        refine pure_ (i := 5) (N := some 124) (v := undef) (a' := ?_) #[true, true, true, true, true, true, false, false, false, false, false, false] rfl rfl (any_of HT_.out (by kernel_rfl)) (fun _ _ _ h => h) (Or.inr ⟨by rfl, rfl⟩) ?_ ?_
        rotate_left
        · simp only [Act.put, List.setIfInBounds_toArray, List.set_cons_zero, List.set_cons_succ, i64_w, i32_w]
          rfl
        refine pure_ (i := 6) (N := some 125) (v := undef) (a' := ?_) #[true, true, true, true, true, true, true, false, false, false, false, false] rfl rfl (any_of HT_.out (by kernel_rfl)) (fun _ _ _ h => h) (Or.inr ⟨by rfl, rfl⟩) ?_ ?_
        rotate_left
        · simp only [Act.put, List.setIfInBounds_toArray, List.set_cons_zero, List.set_cons_succ, i64_w, i32_w]
          rfl
        refine pure_ (i := 7) (N := some 126) (v := undef) (a' := ?_) #[true, true, true, true, true, true, true, true, false, false, false, false] rfl rfl (any_of HT_.out (by kernel_rfl)) (fun _ _ _ h => h) (Or.inr ⟨by rfl, rfl⟩) ?_ ?_
        rotate_left
        · simp only [Act.put, List.setIfInBounds_toArray, List.set_cons_zero, List.set_cons_succ, i64_w, i32_w]
          rfl
        refine pure_ (i := 8) (N := some 127) (v := undef) (a' := ?_) #[true, true, true, true, true, true, true, true, true, false, false, false] rfl rfl (any_of HT_.out (by kernel_rfl)) (fun _ _ _ h => h) (Or.inr ⟨by rfl, rfl⟩) ?_ ?_
        rotate_left
        · simp only [Act.put, List.setIfInBounds_toArray, List.set_cons_zero, List.set_cons_succ, i64_w, i32_w]
          rfl
        refine pure_ (i := 9) (N := some 128) (v := undef) (a' := ?_) #[true, true, true, true, true, true, true, true, true, true, false, false] rfl rfl (any_of HT_.out (by kernel_rfl)) (fun _ _ _ h => h) (Or.inr ⟨by rfl, rfl⟩) ?_ ?_
        rotate_left
        · simp only [Act.put, List.setIfInBounds_toArray, List.set_cons_zero, List.set_cons_succ, i64_w, i32_w]
          rfl
        refine pure_ (i := 10) (N := some 129) (v := undef) (a' := ?_) #[true, true, true, true, true, true, true, true, true, true, true, false] rfl rfl (any_of HT_.out (by kernel_rfl)) (fun _ _ _ h => h) (Or.inr ⟨by rfl, rfl⟩) ?_ ?_
        rotate_left
        · simp only [Act.put, List.setIfInBounds_toArray, List.set_cons_zero, List.set_cons_succ, i64_w, i32_w]
          rfl
        refine pure_ (i := 11) (N := some 130) (v := ?_) (a' := ?_) #[true, true, true, true, true, true, true, true, true, true, true, true] rfl rfl (any_of HT_.out (by kernel_rfl)) (fun _ _ _ h => h) (Or.inl ⟨by rfl, ?_⟩) ?_ ?_
        rotate_left
        · intro w'
          go_simp
          with_reducible rfl
        rotate_left
        · simp only [Act.put, List.setIfInBounds_toArray, List.set_cons_zero, List.set_cons_succ, i64_w, i32_w]
          rfl
        refine done_ (done_of HT_.out (by kernel_rfl)) ?_
        obtain ⟨a, ha⟩ : ∃ a : Nat, p.length = a := ⟨_, rfl⟩
        have f1 := FF.out.fin1
        have f2 := FF.out.fin2
        have f3 := FF.out.lp1
        have f4 := FF.out.lp
        rw [ha] at f1 f2 f3 f4 ⊢
        have F1 := Aside0.mk f1
        have F2 := Aside0.mk f2
        clear f1 f2
        match a, f3, f4, ha, F1, F2 with
        | 1, _, _, ha, F1, F2 =>
          have e : (128 : Nat) ^ 1 = 128 := by decide
          have d1 : decide (n < 128) = true := decide_eq_true (by rcases F1.out with h | h; exact absurd h (by decide); rw [e] at h; omega)
          clear e
          have HA := Aside0.mk ha
          clear ha
          go_wp2_with fail
          go_ret
          exact ⟨by first | rfl | simp, below_drew1 HB.out⟩
        | 2, _, _, ha, F1, F2 =>
          have e : (128 : Nat) ^ 2 = 16384 := by decide
          have d1 : decide (n < 16384) = true := decide_eq_true (by rcases F1.out with h | h; exact absurd h (by decide); rw [e] at h; omega)
          clear e
          have e : (128 : Nat) ^ (2 - 1) = 128 := by decide
          have d2 : decide (128 ≤ n) = true := decide_eq_true (by rcases F2.out with h | h; exact absurd h (by decide); rw [e] at h; omega)
          clear e
          have HA := Aside0.mk ha
          clear ha
          go_wp2_with fail
          go_ret
          exact ⟨by first | rfl | simp, below_drew1 HB.out⟩
        | 3, _, _, ha, F1, F2 =>
          have e : (128 : Nat) ^ 3 = 2097152 := by decide
          have d1 : decide (n < 2097152) = true := decide_eq_true (by rcases F1.out with h | h; exact absurd h (by decide); rw [e] at h; omega)
          clear e
          have e : (128 : Nat) ^ (3 - 1) = 16384 := by decide
          have d2 : decide (16384 ≤ n) = true := decide_eq_true (by rcases F2.out with h | h; exact absurd h (by decide); rw [e] at h; omega)
          clear e
          have HA := Aside0.mk ha
          clear ha
          go_wp2_with fail
          go_ret
          exact ⟨by first | rfl | simp, below_drew1 HB.out⟩
        | 4, _, _, ha, F1, F2 =>
          have e : (128 : Nat) ^ 4 = 268435456 := by decide
          have d1 : decide (n < 268435456) = true := decide_eq_true (by rcases F1.out with h | h; exact absurd h (by decide); rw [e] at h; omega)
          clear e
          have e : (128 : Nat) ^ (4 - 1) = 2097152 := by decide
          have d2 : decide (2097152 ≤ n) = true := decide_eq_true (by rcases F2.out with h | h; exact absurd h (by decide); rw [e] at h; omega)
          clear e
          have HA := Aside0.mk ha
          clear ha
          go_wp2_with fail
          go_ret
          exact ⟨by first | rfl | simp, below_drew1 HB.out⟩
        | 5, _, _, ha, F1, F2 =>
          have e : (128 : Nat) ^ 5 = 34359738368 := by decide
          have d1 : decide (n < 34359738368) = true := decide_eq_true (by rcases F1.out with h | h; exact absurd h (by decide); rw [e] at h; omega)
          clear e
          have e : (128 : Nat) ^ (5 - 1) = 268435456 := by decide
          have d2 : decide (268435456 ≤ n) = true := decide_eq_true (by rcases F2.out with h | h; exact absurd h (by decide); rw [e] at h; omega)
          clear e
          have HA := Aside0.mk ha
          clear ha
          go_wp2_with fail
          go_ret
          exact ⟨by first | rfl | simp, below_drew1 HB.out⟩
        | 6, _, _, ha, F1, F2 =>
          have e : (128 : Nat) ^ 6 = 4398046511104 := by decide
          have d1 : decide (n < 4398046511104) = true := decide_eq_true (by rcases F1.out with h | h; exact absurd h (by decide); rw [e] at h; omega)
          clear e
          have e : (128 : Nat) ^ (6 - 1) = 34359738368 := by decide
          have d2 : decide (34359738368 ≤ n) = true := decide_eq_true (by rcases F2.out with h | h; exact absurd h (by decide); rw [e] at h; omega)
          clear e
          have HA := Aside0.mk ha
          clear ha
          go_wp2_with fail
          go_ret
          exact ⟨by first | rfl | simp, below_drew1 HB.out⟩
        | 7, _, _, ha, F1, F2 =>
          have e : (128 : Nat) ^ 7 = 562949953421312 := by decide
          have d1 : decide (n < 562949953421312) = true := decide_eq_true (by rcases F1.out with h | h; exact absurd h (by decide); rw [e] at h; omega)
          clear e
          have e : (128 : Nat) ^ (7 - 1) = 4398046511104 := by decide
          have d2 : decide (4398046511104 ≤ n) = true := decide_eq_true (by rcases F2.out with h | h; exact absurd h (by decide); rw [e] at h; omega)
          clear e
          have HA := Aside0.mk ha
          clear ha
          go_wp2_with fail
          go_ret
          exact ⟨by first | rfl | simp, below_drew1 HB.out⟩
        | 8, _, _, ha, F1, F2 =>
          have e : (128 : Nat) ^ 8 = 72057594037927936 := by decide
          have d1 : decide (n < 72057594037927936) = true := decide_eq_true (by rcases F1.out with h | h; exact absurd h (by decide); rw [e] at h; omega)
          clear e
          have e : (128 : Nat) ^ (8 - 1) = 562949953421312 := by decide
          have d2 : decide (562949953421312 ≤ n) = true := decide_eq_true (by rcases F2.out with h | h; exact absurd h (by decide); rw [e] at h; omega)
          clear e
          have HA := Aside0.mk ha
          clear ha
          go_wp2_with fail
          go_ret
          exact ⟨by first | rfl | simp, below_drew1 HB.out⟩
        | 9, _, _, ha, F1, F2 =>
          have e : (128 : Nat) ^ 9 = 9223372036854775808 := by decide
          have d1 : decide (n < 9223372036854775808) = true := decide_eq_true (by rcases F1.out with h | h; exact absurd h (by decide); rw [e] at h; omega)
          clear e
          have e : (128 : Nat) ^ (9 - 1) = 72057594037927936 := by decide
          have d2 : decide (72057594037927936 ≤ n) = true := decide_eq_true (by rcases F2.out with h | h; exact absurd h (by decide); rw [e] at h; omega)
          clear e
          have HA := Aside0.mk ha
          clear ha
          go_wp2_with fail
          go_ret
          exact ⟨by first | rfl | simp, below_drew1 HB.out⟩
        | 10, _, _, ha, F1, F2 =>
          have e : (128 : Nat) ^ (10 - 1) = 9223372036854775808 := by decide
          have d2 : decide (9223372036854775808 ≤ n) = true := decide_eq_true (by rcases F2.out with h | h; exact absurd h (by decide); rw [e] at h; omega)
          clear e
          have HA := Aside0.mk ha
          clear ha
          go_wp2_with fail
          go_ret
          exact ⟨by first | rfl | simp, below_drew1 HB.out⟩

end Go.Proofs.Ytemgidhelpacaaa.Pure
