/- GetUint of the program gets what gets says, of any bytes. -/
import Derived.Test.YtemgidhelpacaaaShow
namespace Go.Proofs.Ytemgidhelpacaaa.Pure
set_option linter.unusedVariables false
open Go.RowKit Go.Proofs.Ytemgidhelpacaaa.PS Go.Proofs.YtemgidhelpacaaaW.PrintWords Go.Proofs.YtemgidhelpacaaaW.PrintLast Go.Proofs.YtemgidhelpacaaaW.PrintMore Go.Proofs.Ytemgidhelpacaaa.B

theorem pow_le_9 (i : Nat) (h : i ≤ 9) : (128 : Int) ^ i ≤ 9223372036854775808 := by
  have := Nat.pow_le_pow_right (show 0 < 128 by decide) h
  have a := pow128_cast i
  have e9 : (128 : Nat) ^ 9 = 9223372036854775808 := by decide
  omega
theorem shl_at (b : Int) (i : Nat) (hi : i ≤ 9) : shl .u64 b (7 * (i : Int)) = (b * 128 ^ i) % 18446744073709551616 := by
  unfold shl
  rw [show (7 * (i : Int)).toNat = 7 * i by omega, Nat.min_eq_left (by show 7 * i ≤ 64; omega), pow_shift, IntKind.wrap_u64]
theorem shr_at (b : Int) (i : Nat) (hi : i ≤ 9) : shr .u64 b (7 * (i : Int)) = b / 128 ^ i := by
  unfold shr
  rw [show (7 * (i : Int)).toNat = 7 * i by omega, Nat.min_eq_left (by show 7 * i ≤ 64; omega), pow_shift]
theorem room_iff (b : Int) (i : Nat) (hb0 : 0 ≤ b) (hi : i ≤ 9) : (b * 128 ^ i) % 18446744073709551616 / 128 ^ i = b ↔ b * 128 ^ i < 18446744073709551616 := by
  have hp := pow128_pos i
  constructor
  · intro h
    by_cases hlt : b * 128 ^ i < 18446744073709551616
    · exact hlt
    · exfalso
      have h1 := Int.emod_lt_of_pos (b * 128 ^ i) (show (0 : Int) < 18446744073709551616 by decide)
      have h2 := Int.ediv_mul_le ((b * 128 ^ i) % 18446744073709551616) (show (128 : Int) ^ i ≠ 0 by omega)
      rw [h] at h2
      omega
  · intro h
    rw [Int.emod_eq_of_lt (Int.mul_nonneg hb0 (by omega)) h, Int.mul_ediv_cancel _ (by omega)]
theorem or_place (n b : Int) (i : Nat) (hn0 : 0 ≤ n) (hn1 : n < 128 ^ i) (hb0 : 0 ≤ b) (hb1 : b * 128 ^ i < 18446744073709551616) (hi : i ≤ 9) :
    Go.bits .or .u64 n (b * 128 ^ i) = n + b * 128 ^ i := by
  have h9 := pow_le_9 i hi
  have hp := pow128_pos i
  rw [B.or_comm, or_join (7 * i) (b * 128 ^ i) n (Int.mul_nonneg hb0 (by omega)) (by rw [pow_shift]; exact Int.mul_emod_left _ _) hb1 hn0 (by rw [pow_shift]; exact hn1) (by omega), Int.add_comm]
theorem rd_at (xs : List Int) (i : Nat) (h : i < xs.length) : rd xs (i : Int) = xs[i] := by
  unfold rd; simp [List.getD, h]
theorem get_l (d : Nat) : ∀ (k i : Nat) (n : Int) (xs : List Int), Bytes xs → i + d = 10 → i ≤ xs.length → xs.length ≤ 9223372036854775807 → 0 ≤ n → n < 128 ^ i → 2 * d + 2 ≤ k →
    shift_GetUint.l0 k xs n (i : Int) = some (gets (xs.drop i) i n) := by
  induction d with
  | zero =>
    intro k i n xs hB hd hi hL hn0 hn1 hk
    obtain ⟨k, rfl⟩ : ∃ m, k = m + 2 := ⟨k - 2, by omega⟩
    obtain rfl : i = 10 := by omega
    simp only [shift_GetUint.l0]
    have e : ∀ b : Bool, b = false → shift_GetUint.j1 (k + 1) xs n ((10 : Nat) : Int) b = some (0, 0, 3) := by
      intro b hb; subst hb; simp only [shift_GetUint.j1]; rw [if_neg (by decide), if_pos (by decide)]
    rw [e _ (by simp), e _ rfl]
    split
    · cases h : xs.drop 10 with
      | nil => simp [gets]
      | cons c r => simp [gets]
    · cases h : xs.drop 10 with
      | nil => simp [gets]
      | cons c r => simp [gets]
  | succ d ih =>
    intro k i n xs hB hd hi hL hn0 hn1 hk
    obtain ⟨k, rfl⟩ : ∃ m, k = m + 2 := ⟨k - 2, by omega⟩
    have hi9 : i ≤ 9 := by omega
    simp only [shift_GetUint.l0]
    by_cases hlt : i < xs.length
    · rw [if_pos (by omega), show decide ((i : Int) < 10) = true from decide_eq_true (by omega)]
      simp only [shift_GetUint.j1]
      have hdr : xs.drop i = xs[i] :: xs.drop (i + 1) := List.drop_eq_getElem_cons hlt
      have hc := hB xs[i] (List.getElem_mem hlt)
      have hw : wrap64 (7 * (i : Int)) = 7 * (i : Int) := wrap64_id _ (by omega) (by omega)
      have hw1 : wrap64 ((i : Int) + 1) = ((i + 1 : Nat) : Int) := by rw [wrap64_id _ (by omega) (by omega)]; simp
      have hp := pow128_pos i
      have h9 := pow_le_9 i hi9
      rw [if_pos trivial, if_pos (by omega), if_pos (by omega), rd_at xs i hlt, hw, hw1, if_pos (by omega), andNot128_at _ hc.1 hc.2,
        show IntKind.u64.wrap (xs[i] % 128) = xs[i] % 128 by rw [IntKind.wrap_u64]; omega, shl_at _ i hi9, shr_at _ i hi9, hdr]
      simp only [gets]
      rw [if_neg (by omega : ¬ i = 10)]
      obtain ⟨b, hb⟩ : ∃ b, b = xs[i] % 128 := ⟨_, rfl⟩
      rw [← hb]
      have hb0 : 0 ≤ b := by omega
      have hb1 : b < 128 := by omega
      have hr := room_iff b i hb0 hi9
      by_cases hroom : b * 128 ^ i < 18446744073709551616
      · rw [if_pos (hr.2 hroom), if_neg (show ¬ 18446744073709551616 ≤ b * 128 ^ i by omega), Int.emod_eq_of_lt (Int.mul_nonneg hb0 (by omega)) hroom, or_place n b i hn0 hn1 hb0 hroom hi9]
        have hmul : b * 128 ^ i ≤ 127 * 128 ^ i := Int.mul_le_mul_of_nonneg_right (by omega) (by omega)
        by_cases h128 : 128 ≤ xs[i]
        · rw [if_neg (show ¬ xs[i] / 128 = 0 by omega), if_pos h128]
          exact ih k (i + 1) _ xs hB (by omega) (by omega) hL (by have := Int.mul_nonneg hb0 (show (0 : Int) ≤ 128 ^ i by omega); omega) (by rw [Int.pow_succ]; omega) (by omega)
        · rw [if_pos (show xs[i] / 128 = 0 by omega), if_neg h128]
          by_cases h0 : xs[i] = 0
          · rw [if_pos h0]
            by_cases hi0 : 0 < i
            · rw [if_pos (by omega), if_pos ⟨h0, hi0⟩]
            · rw [if_neg (by omega), if_neg (fun h => hi0 h.2)]; simp
          · rw [if_neg h0, if_neg (fun h => h0 h.1)]; simp
      · rw [if_neg (fun h => hroom (hr.1 h)), if_pos (by omega)]
    · rw [if_neg (by omega)]
      simp only [shift_GetUint.j1]
      rw [if_neg (by decide), if_neg (by omega), List.drop_eq_nil_of_le (by omega)]
      simp only [gets]
      rw [if_neg (by omega)]
theorem get_f (k : Nat) (xs : List Int) (hB : Bytes xs) (hL : xs.length ≤ 9223372036854775807) (hk : 22 ≤ k) : shift_GetUint.f k xs = some (gets xs 0 0) := by
  unfold shift_GetUint.f
  have := get_l 10 k 0 0 xs hB (by omega) (by omega) hL (by omega) (by decide) (by omega)
  simpa using this
end Go.Proofs.Ytemgidhelpacaaa.Pure
