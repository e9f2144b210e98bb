/- The document's Uint and GetUint answer as puts and gets say, of any number and any bytes (thirty). -/
import Derived.Test.YtemgidhelpacaaaPSx10
import Derived.Test.YtemgidhelpacaaaPSx11
import Derived.Test.YtemgidhelpacaaaPSx12
import Derived.Test.YtemgidhelpacaaaGet
namespace Go.Proofs.Ytemgidhelpacaaa.Pure
set_option linter.unusedVariables false
open Go.RowKit Go.Proofs.Ytemgidhelpacaaa.PS Go.Proofs.YtemgidhelpacaaaW.PrintWords Go.Proofs.YtemgidhelpacaaaW.PrintLast Go.Proofs.YtemgidhelpacaaaW.PrintMore Go.Proofs.Ytemgidhelpacaaa.B

theorem strs_app (xs ys : List Int) : strOfNums (xs ++ ys) = strOfNums xs ++ strOfNums ys := by
  apply ByteArray.ext
  simp [strOfNums]
theorem bt_str (xs : List Int) (hB : Bytes xs) (i : Nat) (h : i < xs.length) : bt (strOfNums xs) (i : Int) = xs[i] := by
  unfold bt
  have hs : (i : Int).toNat < (strOfNums xs).size := by rw [strOfNums_size]; omega
  rw [dif_pos hs]
  have hb := hB xs[i] (List.getElem_mem h)
  have e : (strOfNums xs)[(i : Int).toNat] = UInt8.ofNat (xs[i]).toNat := by simp [strOfNums, ByteArray.getElem_eq_getElem_data]
  rw [e]
  simp only [UInt8.toNat_ofNat']
  omega
theorem uint_f (n : Nat) : ∀ (k d : Nat), n < 128 ^ (d + 1) → d ≤ 9 → d < k → n < 18446744073709551616 → tidemarkref01_Uint.f k (n : Int) = some (strOfNums (puts n)) := by
  induction n using Nat.strongRecOn with
  | _ n ih =>
    intro k d hd h9 hk hn
    obtain ⟨k, rfl⟩ : ∃ m, k = m + 1 := ⟨k - 1, by omega⟩
    simp only [tidemarkref01_Uint.f]
    by_cases h : n < 128
    · rw [if_pos (by omega), puts_lo h, show (n : Int) % 256 = n by omega]
    · rw [if_neg (by omega)]
      obtain ⟨e, rfl⟩ : ∃ e, d = e + 1 := ⟨d - 1, by
        cases d with
        | zero => simp at hd; omega
        | succ d => rfl⟩
      have e1 : IntKind.u64.wrap (Int.tdiv (n : Int) 128) = ((n / 128 : Nat) : Int) := by rw [Int.tdiv_eq_ediv_of_nonneg (by omega), IntKind.wrap_u64]; omega
      have e2 : (IntKind.u64.wrap (Int.tmod (n : Int) 128 + 128)) % 256 = ((n % 128 + 128 : Nat) : Int) := by rw [Int.tmod_eq_emod_of_nonneg (by omega), IntKind.wrap_u64]; omega
      have hlt : n / 128 < 128 ^ (e + 1) := by rw [Nat.pow_succ] at hd; exact Nat.div_lt_of_lt_mul (by rw [Nat.mul_comm]; exact hd)
      rw [e1, e2, ih (n / 128) (by omega) k e hlt (by omega) (by omega) (by omega)]
      simp only [Option.bind_some]
      have hl := puts_le e (n / 128) hlt
      rw [if_pos (by rw [strOfNums_size, strOfNums_size]; simp only [List.length_cons, List.length_nil]; omega), puts_hi h, ← strs_app]
      rfl
/-- The number of some bytes, the lowest first. -/
def val : List Int → Int
  | [] => 0
  | c :: r => c % 128 + 128 * val r
theorem val_nonneg : ∀ l : List Int, 0 ≤ val l
  | [] => by simp [val]
  | c :: r => by have := val_nonneg r; simp only [val]; omega
theorem val_snoc (c : Int) : ∀ l : List Int, val (l ++ [c]) = val l + (c % 128) * 128 ^ l.length
  | [] => by simp [val]
  | d :: r => by
    simp only [List.cons_append, val, val_snoc c r, List.length_cons, Int.pow_succ]
    rw [Int.mul_add, Int.mul_comm ((128 : Int) ^ r.length) 128, ← Int.mul_assoc 128, ← Int.mul_assoc (c % 128), Int.mul_comm 128 (c % 128)]
    omega
theorem val_lt : ∀ l : List Int, val l < 128 ^ l.length
  | [] => by simp [val]
  | d :: r => by
    have := val_lt r
    simp only [val, List.length_cons, Int.pow_succ]
    omega
theorem val_drop_le (l : List Int) : ∀ j, val (l.drop j) ≤ val l := by
  induction l with
  | nil => intro j; simp
  | cons c r ih =>
    intro j
    cases j with
    | zero => simp
    | succ j =>
      have := ih j
      have := val_nonneg r
      simp only [List.drop_succ_cons, val]; omega
/-- The number is gathered from its highest byte on. -/
theorem get_l1 (xs : List Int) (hB : Bytes xs) (e : Nat) (he : e < xs.length) (he9 : e ≤ 9) (hv : val (xs.take (e + 1)) < 18446744073709551616) (j : Nat) : ∀ (k : Nat), j ≤ e + 1 → j < k →
    tidemarkref01_GetUint.l1 k (strOfNums xs) (e : Int) (val ((xs.take (e + 1)).drop j)) ((j : Int) - 1) = some (val (xs.take (e + 1)), (e : Int) + 1, 0) := by
  induction j with
  | zero =>
    intro k hj hk
    obtain ⟨k, rfl⟩ : ∃ m, k = m + 1 := ⟨k - 1, by omega⟩
    simp only [tidemarkref01_GetUint.l1]
    rw [if_neg (by omega), List.drop_zero, wrap64_id _ (by omega) (by omega)]
  | succ j ih =>
    intro k hj hk
    obtain ⟨k, rfl⟩ : ∃ m, k = m + 1 := ⟨k - 1, by omega⟩
    have e0 : ((j + 1 : Nat) : Int) - 1 = (j : Int) := by omega
    have hjl : j < xs.length := by omega
    have hjt : j < (xs.take (e + 1)).length := by rw [List.length_take]; omega
    have hd : (xs.take (e + 1)).drop j = xs[j] :: (xs.take (e + 1)).drop (j + 1) := by rw [List.drop_eq_getElem_cons hjt, List.getElem_take]
    have h1 := val_drop_le (xs.take (e + 1)) j
    have h2 := val_nonneg ((xs.take (e + 1)).drop (j + 1))
    have hb := hB xs[j] (List.getElem_mem hjl)
    have hvd : val ((xs.take (e + 1)).drop j) = xs[j] % 128 + 128 * val ((xs.take (e + 1)).drop (j + 1)) := by rw [hd]; rfl
    simp only [tidemarkref01_GetUint.l1]
    rw [e0, if_pos (by omega), if_pos (by omega), if_pos (by rw [strOfNums_size]; omega), bt_str xs hB j hjl, Int.tmod_eq_emod_of_nonneg hb.1, wrap64_id ((j : Int) - 1) (by omega) (by omega)]
    have ev : IntKind.u64.wrap (IntKind.u64.wrap (val ((xs.take (e + 1)).drop (j + 1)) * 128) + IntKind.u64.wrap (xs[j] % 128)) = val ((xs.take (e + 1)).drop j) := by
      rw [IntKind.wrap_u64, IntKind.wrap_u64, IntKind.wrap_u64, hvd]; omega
    rw [ev]
    exact ih k (by omega) (by omega)
theorem ref_get_l (xs : List Int) (hB : Bytes xs) (hL : xs.length ≤ 9223372036854775807) (d : Nat) : ∀ (k i : Nat), i + d = 10 → i ≤ xs.length → 2 * d + 20 ≤ k →
    tidemarkref01_GetUint.l0 k (strOfNums xs) (i : Int) = some (gets (xs.drop i) i (val (xs.take i))) := by
  have form10 : ∀ k : Nat, tidemarkref01_GetUint.j1 (k + 3) (strOfNums xs) ((10 : Nat) : Int) = some (0, 0, 3) := by
    intro k
    simp only [tidemarkref01_GetUint.j1, tidemarkref01_GetUint.j2, tidemarkref01_GetUint.j3]
    rw [show decide (((10 : Nat) : Int) < 10) = false by decide]
    split <;> simp
  have at10 : ∀ (k : Nat), 4 ≤ k → tidemarkref01_GetUint.l0 k (strOfNums xs) ((10 : Nat) : Int) = some (0, 0, 3) := by
    intro k hk
    obtain ⟨k, rfl⟩ : ∃ m, k = m + 3 + 1 := ⟨k - 4, by omega⟩
    simp only [tidemarkref01_GetUint.l0]
    rw [if_neg (show ¬ ((10 : Nat) : Int) < 10 by decide)]
    split <;> exact form10 k
  induction d with
  | zero =>
    intro k i hd hi hk
    obtain rfl : i = 10 := by omega
    rw [at10 k (by omega)]
    cases xs.drop 10 <;> simp [gets]
  | succ d ih =>
    intro k i hd hi hk
    have hi9 : i ≤ 9 := by omega
    by_cases hlt : i < xs.length
    · have hb := hB xs[i] (List.getElem_mem hlt)
      have hdr : xs.drop i = xs[i] :: xs.drop (i + 1) := List.drop_eq_getElem_cons hlt
      have htk : xs.take (i + 1) = xs.take i ++ [xs[i]] := by rw [List.take_succ_eq_append_getElem hlt]
      have hvs : val (xs.take (i + 1)) = val (xs.take i) + (xs[i] % 128) * 128 ^ i := by rw [htk, val_snoc, List.length_take, Nat.min_eq_left (by omega)]
      have hvl : val (xs.take i) < 128 ^ i := by have := val_lt (xs.take i); rwa [List.length_take, Nat.min_eq_left (by omega)] at this
      have hv0 := val_nonneg (xs.take i)
      have hp := pow128_pos i
      have hp9 := pow_le_9 i hi9
      have e9 : (128 : Int) ^ 9 = 9223372036854775808 := by decide
      have small : i ≤ 8 → (xs[i] % 128) * 128 ^ i < 9223372036854775808 := by
        intro h8
        have h8' : (128 : Int) ^ i ≤ 72057594037927936 := by
          have := Nat.pow_le_pow_right (show 0 < 128 by decide) h8
          have a := pow128_cast i
          have e8 : (128 : Nat) ^ 8 = 72057594037927936 := by decide
          omega
        have : (xs[i] % 128) * 128 ^ i ≤ 127 * 128 ^ i := Int.mul_le_mul_of_nonneg_right (by omega) (by omega)
        omega
      obtain ⟨K, rfl⟩ : ∃ m, k = m + 1 := ⟨k - 1, by omega⟩
      rw [hdr]
      simp only [tidemarkref01_GetUint.l0, gets]
      rw [if_pos (by rw [strOfNums_size]; omega), if_pos (by omega), if_pos (by omega), bt_str xs hB i hlt, if_neg (show ¬ i = 10 by omega)]
      by_cases h128 : 128 ≤ xs[i]
      · rw [if_pos (by omega), wrap64_id _ (by omega) (by omega), show (i : Int) + 1 = ((i + 1 : Nat) : Int) by omega]
        by_cases h9 : i = 9
        · subst h9
          rw [at10 _ (by omega)]
          split
          · rfl
          · cases xs.drop (9 + 1) <;> simp [gets]
        · have := small (by omega)
          rw [if_neg (by omega), if_pos h128, ← hvs]
          exact ih _ (i + 1) (by omega) (by omega) (by omega)
      · rw [if_neg (by omega), if_neg h128]
        obtain ⟨k, rfl⟩ : ∃ m, K = m + 3 := ⟨K - 3, by omega⟩
        simp only [tidemarkref01_GetUint.j1, tidemarkref01_GetUint.j2, tidemarkref01_GetUint.j3]
        have hc : xs[i] % 128 = xs[i] := by omega
        rw [if_neg (show ¬ (i : Int) = ((strOfNums xs).size : Int) by rw [strOfNums_size]; omega), if_neg (show ¬ (i : Int) = 10 by omega), hc]
        have fin : val (xs.take (i + 1)) < 18446744073709551616 → ∀ k', i + 2 ≤ k' → tidemarkref01_GetUint.l1 k' (strOfNums xs) (i : Int) 0 (i : Int) = some (val (xs.take i) + xs[i] * 128 ^ i, (i : Int) + 1, 0) := by
          intro hv k' hk'
          have := get_l1 xs hB i hlt hi9 hv (i + 1) k' (by omega) (by omega)
          rw [List.drop_eq_nil_of_le (by rw [List.length_take]; omega), hvs, hc] at this
          simpa [val] using this
        simp only [Bool.false_eq_true, if_false, if_true]
        by_cases h9 : i = 9
        · subst h9
          rw [if_pos (by decide), if_pos (by rw [strOfNums_size]; omega)]
          have eb := bt_str xs hB 9 hlt
          have eb' : bt (strOfNums xs) 9 = xs[9] := eb
          rw [eb']
          by_cases h1 : xs[9] > 1
          · rw [if_pos h1, if_pos (show (18446744073709551616 : Int) ≤ xs[9] * 128 ^ 9 by rw [e9]; omega)]
          · rw [if_neg h1, if_neg (show ¬ (18446744073709551616 : Int) ≤ xs[9] * 128 ^ 9 by rw [e9]; omega), if_pos (by decide), if_pos (by decide), if_pos (by rw [strOfNums_size]; omega)]
            rw [eb]
            by_cases h0 : xs[9] = 0
            · rw [show (xs[9] == 0) = true from beq_iff_eq.2 h0, if_pos rfl, if_pos ⟨h0, by decide⟩]
            · rw [show (xs[9] == 0) = false from beq_eq_false_iff_ne.2 h0, if_neg (by decide), if_neg (fun h => h0 h.1)]
              exact fin (by rw [hvs, hc, e9]; rw [e9] at hvl; omega) k (by omega)
        · have hs := small (by omega)
          rw [hc] at hs
          rw [if_neg (show ¬ (i : Int) = 9 by omega), if_neg (show ¬ (18446744073709551616 : Int) ≤ xs[i] * 128 ^ i by omega)]
          have hvb : val (xs.take (i + 1)) < 18446744073709551616 := by rw [hvs, hc]; omega
          by_cases hi0 : 0 < i
          · rw [if_pos (show (i : Int) > 0 by omega), if_pos (show (0 : Int) ≤ i by omega), if_pos (by rw [strOfNums_size]; omega)]
            rw [bt_str xs hB i hlt]
            by_cases h0 : xs[i] = 0
            · rw [show (xs[i] == 0) = true from beq_iff_eq.2 h0, if_pos rfl, if_pos ⟨h0, hi0⟩]
            · rw [show (xs[i] == 0) = false from beq_eq_false_iff_ne.2 h0, if_neg (by decide), if_neg (fun h => h0 h.1)]
              exact fin hvb k (by omega)
          · rw [if_neg (show ¬ (i : Int) > 0 by omega), if_neg (fun h => hi0 h.2)]
            exact fin hvb k (by omega)
    · obtain ⟨K, rfl⟩ : ∃ m, k = m + 1 := ⟨k - 1, by omega⟩
      rw [List.drop_eq_nil_of_le (by omega)]
      simp only [tidemarkref01_GetUint.l0, gets]
      obtain ⟨k, rfl⟩ : ∃ m, K = m + 2 := ⟨K - 2, by omega⟩
      simp only [tidemarkref01_GetUint.j1, tidemarkref01_GetUint.j2]
      rw [if_neg (by rw [strOfNums_size]; omega), if_pos (by rw [strOfNums_size]; omega), decide_eq_true (by omega), if_pos rfl, if_neg (by omega)]
theorem ref_get_f (k : Nat) (xs : List Int) (hB : Bytes xs) (hL : xs.length ≤ 9223372036854775807) (hk : 40 ≤ k) : tidemarkref01_GetUint.f k (strOfNums xs) = some (gets xs 0 0) := by
  unfold tidemarkref01_GetUint.f
  have := ref_get_l xs hB hL 10 k 0 (by omega) (by omega) (by omega)
  simpa [val] using this
theorem ref_zig_f (m : Int) (h0 : -9223372036854775808 ≤ m) (h1 : m ≤ 9223372036854775807) : tidemarkref01_Zig.f m = some (zig m) := by
  unfold tidemarkref01_Zig.f zig
  by_cases h : m < 0
  · rw [if_pos h, if_pos h, wrap64_id (m + 1) (by omega) (by omega), wrap64_id _ (by omega) (by omega)]
    simp only [IntKind.wrap_u64]
    congr 1; omega
  · rw [if_neg h, if_neg h]
    simp only [IntKind.wrap_u64]
    congr 1; omega
theorem ref_zag_f (n : Int) (h0 : 0 ≤ n) (h1 : n < 18446744073709551616) : tidemarkref01_Zag.f n = some (zag n) := by
  unfold tidemarkref01_Zag.f zag
  rw [Int.tmod_eq_emod_of_nonneg h0, Int.tdiv_eq_ediv_of_nonneg h0]
  have e : wrap64 (IntKind.u64.wrap (n / 2)) = n / 2 := by rw [IntKind.wrap_u64, wrap64_id _ (by omega) (by omega)]; omega
  rw [e]
  by_cases h : n % 2 = 1
  · rw [if_pos h, if_neg (by omega), wrap64_id (-(n / 2)) (by omega) (by omega), wrap64_id _ (by omega) (by omega)]
  · rw [if_neg h, if_pos (by omega)]
end Go.Proofs.Ytemgidhelpacaaa.Pure
