/- The numbers that ShiftBytes' walk uses, of any number and bytes; and the law's call for whatever is read. -/
import Derived.Test.YtemgidhelpacaaaBytes
import Derived.Test.YtemgidhelpacaaaBackPure
import Derived.Test.YtemgidhelpacaaaRefGet
namespace Go.Proofs.Ytemgidhelpacaaa.Pure
set_option linter.unusedVariables false
open Go.RowKit Go.Proofs.Ytemgidhelpacaaa.PS Go.Proofs.YtemgidhelpacaaaW.PrintWords Go.Proofs.YtemgidhelpacaaaW.PrintLast Go.Proofs.YtemgidhelpacaaaW.PrintMore Go.Proofs.Ytemgidhelpacaaa.B
theorem bytes_facts (n : Int) (a b : List Int) (hn0 : 0 ≤ n) (hn1 : n < 18446744073709551616) (hA : Bytes a) (hB : Bytes b) (ha : a.length ≤ 30) (hb : b.length ≤ 30) :
    BytesFacts n (wrap64 n) a b (a ++ puts n.toNat) (a ++ puts (zig (wrap64 n)).toNat) (strOfNums a) (strOfNums (puts n.toNat)) (strOfNums (puts (zig (wrap64 n)).toNat)) (strOfNums (a ++ puts n.toNat)) (strOfNums (a ++ puts (zig (wrap64 n)).toNat))
      (zig (wrap64 n)) (gets b 0 0).1 (gets b 0 0).2.1 (gets b 0 0).2.2 (zag (gets b 0 0).1) (zag (gets b 0 0).1) := by
  have hm0 : -9223372036854775808 ≤ wrap64 n := by unfold wrap64; omega
  have hm1 : wrap64 n ≤ 9223372036854775807 := by unfold wrap64; omega
  have hz0 := zig_lo (wrap64 n)
  have hz1 := zig_hi (wrap64 n) hm0 hm1
  have hnn : ((n.toNat : Nat) : Int) = n := by omega
  have hzn : (((zig (wrap64 n)).toNat : Nat) : Int) = zig (wrap64 n) := by omega
  have lp := puts_ten n.toNat (by omega)
  have lq := puts_ten (zig (wrap64 n)).toNat (by omega)
  have p10 : (128 : Nat) ^ (9 + 1) = 1180591620717411303424 := by decide
  have u1 := uint_f n.toNat 12 9 (by omega) (by decide) (by decide) (by omega)
  have u2 := uint_f (zig (wrap64 n)).toNat 12 9 (by omega) (by decide) (by decide) (by omega)
  rw [hnn] at u1
  rw [hzn] at u2
  obtain ⟨⟨x, k, e⟩, hg⟩ : ∃ r, gets b 0 0 = r := ⟨_, rfl⟩
  have hx : 0 ≤ x ∧ x < 18446744073709551616 := by
    by_cases he : e = 0
    · subst he
      obtain ⟨v, j, hz, _, _, _, _, hv⟩ := gets_inv b 0 0 x k hB (by decide) hg
      simp only [Int.pow_zero, Int.mul_one, Int.zero_add] at hz hv
      omega
    · rcases gets_err hg with h | h
      · exact absurd h he
      · rw [h.1]; decide
  rw [hg]
  refine ⟨rfl, rfl, rfl, rfl, ?_, ?_, ?_, ?_, ha, hb, hn0, hn1, rfl, lp, ?_, ?_, ?_, ?_, u1, u2, zig_f _ hm0 hm1, ref_zig_f _ hm0 hm1, ⟨zag n, zag_f n hn0 hn1, ref_zag_f n hn0 hn1⟩, ref_zag_f x hx.1 hx.2, fun _ => rfl, ?_⟩
  · rw [strs_app]; exact beq_self_eq_true _
  · rw [strs_app]; exact beq_self_eq_true _
  · rw [strOfNums_size, strOfNums_size]; omega
  · rw [strOfNums_size, strOfNums_size]; omega
  · unfold shift_PutInt.f
    rw [zig_f _ hm0 hm1]; simp only [Option.bind_some]
    rw [put_f 10 a (zig (wrap64 n)) hz0 hz1 (by decide) (by omega)]; rfl
  · rw [get_f 22 b hB (by omega) (by decide), hg]
  · rw [ref_get_f 80 b hB (by omega) (by decide), hg]
  · unfold shift_GetInt.f
    rw [get_f 22 b hB (by omega) (by decide), hg]; simp only [Option.bind_some]
    rw [zag_f x hx.1 hx.2]; rfl
  · intro he
    rcases gets_err hg with h | h
    · exact absurd h he
    · show zag x = 0
      rw [h.1]; decide
theorem cut_at (l : List Int) (k : Nat) (h3 : l.length ≤ 30 → k = l.length) (h4 : 30 < l.length → k = 30) : l.take k = l.take 30 := by
  by_cases h : 30 < l.length
  · rw [h4 h]
  · rw [h3 (by omega), List.take_of_length_le (Nat.le_refl _), List.take_of_length_le (by omega)]
/-- ShiftBytes, for whatever is read. -/
theorem bytes (n : Int) (a1 : Option Addr) (len1 cap1 : Nat) (z1 : List Int) (a2 : Option Addr) (len2 cap2 : Nat) (z2 : List Int) (w : World) (wn : (Lit.int .u64 n).wf = true)
    (w1 : (a1 = none ∧ len1 = 0 ∧ cap1 = 0 ∧ z1 = []) ∨ ∃ x, a1 = some x ∧ len1 ≤ cap1 ∧ cap1 ≤ maxLen ∧ z1.length = cap1 ∧ (∀ i, i < z1.length → w.cell? (x.add i) = some (.int .u8 (z1.getD i 0))) ∧ ∀ n ∈ z1, (Lit.int .u8 n).wf = true) (y1 : len1 * 1 ≤ 140737488351232)
    (w2 : (a2 = none ∧ len2 = 0 ∧ cap2 = 0 ∧ z2 = []) ∨ ∃ x, a2 = some x ∧ len2 ≤ cap2 ∧ cap2 ≤ maxLen ∧ z2.length = cap2 ∧ (∀ i, i < z2.length → w.cell? (x.add i) = some (.int .u8 (z2.getD i 0))) ∧ ∀ n ∈ z2, (Lit.int .u8 n).wf = true) (y2 : len2 * 1 ≤ 140737488351232) :
    Calls Try.prog 8 #[.int .u64 n, .slice a1 len1 cap1, .slice a2 len2 cap2] w fun e w' => e = .returned (.bool true) ∧ Below w.heap.size w w' := by
  obtain ⟨l1, rfl, hr1, hm1, hw1, hc1⟩ := ReadsInt.ofRowC w1
  obtain ⟨l2, rfl, hr2, hm2, hw2, hc2⟩ := ReadsInt.ofRowC w2
  have hn := u64_at n wn
  have hB1 : Bytes (l1.take 30) := fun x hx => u8_at x (hw1 x (List.mem_of_mem_take hx))
  have hB2 : Bytes (l2.take 30) := fun x hx => u8_at x (hw2 x (List.mem_of_mem_take hx))
  exact bytes_walk n _ a1 cap1 l1 a2 cap2 l2 w (Kd.C_of_reads (d := (0 : Int)) (h1 := fun _ => rfl) hr1) hc1 (Kd.C_of_reads (d := (0 : Int)) (h1 := fun _ => rfl) hr2) hc2 (l1.take 30) (l2.take 30) _ _ _ _ _ _ _ _ _ _ _ _ _
    (fun k _ _ h3 h4 => cut_at l1 k h3 h4) (fun k _ _ h3 h4 => cut_at l2 k h3 h4)
    (bytes_facts n (l1.take 30) (l2.take 30) hn.1 hn.2 hB1 hB2 (by rw [List.length_take]; omega) (by rw [List.length_take]; omega))
end Go.Proofs.Ytemgidhelpacaaa.Pure
