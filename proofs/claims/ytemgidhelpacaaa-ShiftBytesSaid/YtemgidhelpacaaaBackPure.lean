/- The numbers that ShiftBack's walk uses: PutUint, GetUint, PutInt, GetInt turn each other back, of any numbers and bytes. -/
import Derived.Test.YtemgidhelpacaaaBack
namespace Go.Proofs.Ytemgidhelpacaaa.B
open Go.RowKit
/-- What is cut off ends too early. -/
theorem gets_cut (n : Nat) : ∀ (i : Nat) (acc : Int) (c : Nat), (n : Int) * 128 ^ i < 18446744073709551616 → (i = 0 ∨ 0 < n) → c < (puts n).length → gets ((puts n).take c) i acc = (0, 0, 2) := by
  induction n using Nat.strongRecOn with
  | _ n ih =>
    intro i acc c hn h0 hc
    have hp := pow128_pos i
    have hi : i ≠ 10 := by
      intro h
      subst h
      rcases h0 with h0 | h0
      · omega
      · have e : (128 : Int) ^ 10 = 1180591620717411303424 := by decide
        rw [e] at hn; omega
    cases c with
    | zero => simp only [List.take_zero, gets]; rw [if_neg hi]
    | succ c =>
      by_cases h : n < 128
      · rw [puts_lo h] at hc; simp at hc
      · have e1 : ((n % 128 + 128 : Nat) : Int) % 128 = ((n % 128 : Nat) : Int) := by omega
        have hle : ((n % 128 : Nat) : Int) * 128 ^ i ≤ (n : Int) * 128 ^ i := Int.mul_le_mul_of_nonneg_right (by omega) (by omega)
        have hmul : ((n / 128 : Nat) : Int) * 128 ^ (i + 1) = (((n / 128 : Nat) : Int) * 128) * 128 ^ i := by rw [Int.pow_succ, Int.mul_comm ((128 : Int) ^ i) 128, ← Int.mul_assoc]
        have hle2 : (((n / 128 : Nat) : Int) * 128) * 128 ^ i ≤ (n : Int) * 128 ^ i := Int.mul_le_mul_of_nonneg_right (by omega) (by omega)
        rw [puts_hi h] at hc ⊢
        simp only [List.take_succ_cons, gets]
        rw [if_neg hi, e1, if_neg (by omega), if_pos (by omega)]
        exact ih (n / 128) (by omega) (i + 1) _ c (by rw [hmul]; omega) (Or.inr (by omega)) (by simpa using hc)
/-- What is got is put: the bytes that were read are the number's. -/
theorem gets_inv : ∀ (xs : List Int) (i : Nat) (acc z s : Int), Bytes xs → i ≤ 10 → gets xs i acc = (z, s, 0) → ∃ (v k : Nat), z = acc + (v : Int) * 128 ^ i ∧ s = ((i + k : Nat) : Int) ∧ k ≤ xs.length ∧ xs.take k = puts v ∧ (i = 0 ∨ 0 < v) ∧ (v : Int) * 128 ^ i < 18446744073709551616 := by
  intro xs
  induction xs with
  | nil => intro i acc z s _ _ h; simp only [gets] at h; split at h <;> simp at h
  | cons c r ih =>
    intro i acc z s hB hi h
    have hc := hB c (by simp)
    have hp := pow128_pos i
    simp only [gets] at h
    split at h
    · simp at h
    · rename_i h10
      split at h
      · simp at h
      · rename_i hroom
        split at h
        · rename_i h128
          obtain ⟨v, k, hz, hs, hk, ht, h0, hv⟩ := ih (i + 1) _ z s (fun x hx => hB x (by simp [hx])) (by omega) h
          have hv0 : 0 < v := by omega
          have hmul : (v : Int) * 128 ^ (i + 1) = ((v : Int) * 128) * 128 ^ i := by rw [Int.pow_succ, Int.mul_comm ((128 : Int) ^ i) 128, ← Int.mul_assoc]
          have hn : ((c.toNat % 128 + v * 128 : Nat) : Int) = c % 128 + (v : Int) * 128 := by omega
          refine ⟨c.toNat % 128 + v * 128, k + 1, ?_, by omega, by simp; omega, ?_, Or.inr (by omega), ?_⟩
          · rw [hn, Int.add_mul, hz, hmul]; omega
          · have e1 : (c.toNat % 128 + v * 128) / 128 = v := by omega
            have e2 : (((c.toNat % 128 + v * 128) % 128 + 128 : Nat) : Int) = c := by omega
            rw [List.take_succ_cons, ht, puts_hi (n := c.toNat % 128 + v * 128) (by omega), e1, e2]
          · rw [hn, Int.add_mul, ← hmul]
            -- below 2^64: the digits lie under the place of v
            have hi9 : i ≤ 9 := by omega
            have e64 : (18446744073709551616 : Int) = 2 * 128 ^ 9 := by decide
            have hd : (c % 128) * 128 ^ i < 128 ^ (i + 1) := by
              rw [Int.pow_succ, Int.mul_comm ((128 : Int) ^ i) 128]
              exact Int.mul_lt_mul_of_pos_right (by omega) hp
            by_cases h9 : i + 1 ≤ 9
            · obtain ⟨j, hj⟩ : ∃ j, 9 = (i + 1) + j := ⟨9 - (i + 1), by omega⟩
              have e9 : (128 : Int) ^ 9 = 128 ^ j * 128 ^ (i + 1) := by rw [hj, Int.pow_add, Int.mul_comm]
              rw [e64, e9, ← Int.mul_assoc] at hv ⊢
              have hP := pow128_pos (i + 1)
              have hlt : (v : Int) < 2 * 128 ^ j := Int.lt_of_mul_lt_mul_right hv (by omega)
              have hle : ((v : Int) + 1) * 128 ^ (i + 1) ≤ (2 * 128 ^ j) * 128 ^ (i + 1) := Int.mul_le_mul_of_nonneg_right (by omega) (by omega)
              rw [Int.add_mul] at hle
              omega
            · exfalso
              have : i = 9 := by omega
              subst this
              have e10 : (128 : Int) ^ (9 + 1) = 1180591620717411303424 := by decide
              rw [e10] at hv; omega
        · rename_i h128
          split at h
          · simp at h
          · rename_i h00
            simp only [Prod.mk.injEq, and_true] at h
            have hcn : ((c.toNat : Nat) : Int) = c := by omega
            have hcm : c % 128 = c := by omega
            rw [hcm] at h hroom
            refine ⟨c.toNat, 1, by rw [hcn]; omega, by omega, by simp, ?_, ?_, by rw [hcn]; omega⟩
            · rw [List.take_succ_cons, List.take_zero, puts_lo (by omega), hcn]
            · by_cases hi0 : i = 0
              · exact Or.inl hi0
              · refine Or.inr ?_
                have : c ≠ 0 := fun hcz => h00 ⟨hcz, by omega⟩
                omega
end Go.Proofs.Ytemgidhelpacaaa.B
namespace Go.Proofs.Ytemgidhelpacaaa.Pure
set_option linter.unusedVariables false
open Go.RowKit Go.Proofs.Ytemgidhelpacaaa.PS Go.Proofs.YtemgidhelpacaaaW.PrintWords Go.Proofs.YtemgidhelpacaaaW.PrintLast Go.Proofs.YtemgidhelpacaaaW.PrintMore Go.Proofs.Ytemgidhelpacaaa.B
theorem zag_lo (n : Int) (h0 : 0 ≤ n) (h1 : n < 18446744073709551616) : -9223372036854775808 ≤ zag n ∧ zag n ≤ 9223372036854775807 := by unfold zag; split <;> omega
theorem back_facts (n m : Int) (b : List Int) (hn0 : 0 ≤ n) (hn1 : n < 18446744073709551616) (hm0 : -9223372036854775808 ≤ m) (hm1 : m ≤ 9223372036854775807) (hB : Bytes b) (hb : b.length ≤ 30) :
    BackFacts n m (puts n.toNat) (puts (zig m).toNat) b (gets b 0 0).1 (gets b 0 0).2.1 (gets b 0 0).2.2 := by
  have hnn : ((n.toNat : Nat) : Int) = n := by omega
  have hz0 := zig_lo m
  have hz1 := zig_hi m hm0 hm1
  have hzn : (((zig m).toNat : Nat) : Int) = zig m := by omega
  have lp := puts_ten n.toNat (by omega)
  have lq := puts_ten (zig m).toNat (by omega)
  have gp := gets_puts b n.toNat (by omega)
  have gq := gets_puts b (zig m).toNat (by omega)
  rw [hnn] at gp
  rw [hzn] at gq
  have bp : Bytes (puts n.toNat ++ b) := (puts_bytes _).app hB
  have bq : Bytes (puts (zig m).toNat ++ b) := (puts_bytes _).app hB
  have zl := zag_lo n hn0 hn1
  refine ⟨hb, ?_, ?_, lp, lq, ?_, ?_, ⟨zig m, zig_f m hm0 hm1, ?_⟩, ⟨zag n, zag_f n hn0 hn1, ?_⟩, ?_, ?_, ?_, ?_, puts_pos _, ?_⟩
  · have := put_f 10 [] n hn0 hn1 (by decide) (by decide)
    simpa using this
  · unfold shift_PutInt.f
    rw [zig_f m hm0 hm1]; simp only [Option.bind_some]
    have := put_f 10 [] (zig m) hz0 hz1 (by decide) (by decide)
    rw [this]; simp
  · rw [get_f 22 _ bp (by simp; omega) (by decide), gp]
  · unfold shift_GetInt.f
    rw [get_f 22 _ bq (by simp; omega) (by decide), gq]; simp only [Option.bind_some]
    rw [zag_f (zig m) hz0 hz1, zag_zig]; rfl
  · rw [zag_f (zig m) hz0 hz1, zag_zig]
  · rw [zig_f (zag n) zl.1 zl.2, zig_zag n hn0]
  · intro c hc
    rw [get_f 22 _ ((puts_bytes _).take c) (by rw [List.length_take]; omega) (by decide), gets_cut n.toNat 0 0 c (by simp; omega) (Or.inl rfl) hc]
  · rw [get_f 22 b hB (by omega) (by decide)]
  · by_cases h : (puts n.toNat).length = 10
    · exact Or.inl h
    · refine Or.inr ?_
      apply Classical.byContradiction
      intro hc
      have := puts_ge (puts n.toNat).length n.toNat (by omega)
      omega
  · by_cases h : (puts n.toNat).length = 1
    · exact Or.inl h
    · refine Or.inr ?_
      have h0 := puts_pos n.toNat
      apply Classical.byContradiction
      intro hc
      obtain ⟨k, hk⟩ : ∃ k, (puts n.toNat).length = k + 2 := ⟨(puts n.toNat).length - 2, by omega⟩
      have := puts_le k n.toNat (by rw [hk] at hc; rw [show k + 2 - 1 = k + 1 by omega] at hc; omega)
      omega
  · intro h
    obtain ⟨⟨z, s, e⟩, hg⟩ : ∃ r, gets b 0 0 = r := ⟨_, rfl⟩
    rw [hg] at h ⊢
    simp only at h ⊢
    subst h
    obtain ⟨v, k, hz, hs, hk, ht, _, hv⟩ := gets_inv b 0 0 z s hB (by decide) hg
    simp only [Int.pow_zero, Int.mul_one, Int.zero_add, Nat.zero_add] at hz hs hv
    subst hz hs
    refine ⟨by omega, by omega, ?_⟩
    have := put_f 10 [] (v : Int) (by omega) (by omega) (by decide) (by decide)
    simp only [Int.toNat_natCast, List.nil_append] at this ⊢
    rw [this, ht]
/-- ShiftBack, for whatever is read. -/
theorem back (n m : Int) (a : Option Addr) (len cap : Nat) (z : List Int) (w : World) (wn : (Lit.int .u64 n).wf = true) (wm : (Lit.int .i64 m).wf = true)
    (wz : (a = none ∧ len = 0 ∧ cap = 0 ∧ z = []) ∨ ∃ x, a = some x ∧ len ≤ cap ∧ cap ≤ maxLen ∧ z.length = cap ∧ (∀ i, i < z.length → w.cell? (x.add i) = some (.int .u8 (z.getD i 0))) ∧ ∀ n ∈ z, (Lit.int .u8 n).wf = true) (yz : len * 1 ≤ 140737488351232) :
    Calls Try.prog 9 #[.int .u64 n, .int .i64 m, .slice a len cap] w fun e w' => e = .returned (.bool true) ∧ Below w.heap.size w w' := by
  obtain ⟨l, rfl, hr, hm, hw, hc⟩ := ReadsInt.ofRowC wz
  have hn := u64_at n wn
  have hmm := i64_at m wm
  have hB : Bytes (l.take 30) := fun x hx => u8_at x (hw x (List.mem_of_mem_take hx))
  refine back_walk n m a cap l w (Kd.C_of_reads (d := (0 : Int)) (h1 := fun _ => rfl) hr) hc (puts n.toNat) (puts (zig m).toNat) (l.take 30) _ _ _ ?_
    (back_facts n m (l.take 30) hn.1 hn.2 hmm.1 hmm.2 hB (by rw [List.length_take]; omega))
  intro k _ _ h3 h4
  by_cases h : 30 < l.length
  · rw [h4 h]
  · rw [h3 (by omega), List.take_of_length_le (Nat.le_refl _), List.take_of_length_le (by omega)]
end Go.Proofs.Ytemgidhelpacaaa.Pure
