/- Plain facts on numbers as bytes: puts is what PutUint puts, gets is what GetUint gets; one is the other's turning back. Bytes are whole numbers from 0 to 255. -/
import Derived.Test.YtemgidhelpacaaaBits
namespace Go.Proofs.Ytemgidhelpacaaa.B
open Go.RowKit

/-- The bytes of a number. -/
def puts (n : Nat) : List Int := if n < 128 then [(n : Int)] else ((n % 128 + 128 : Nat) : Int) :: puts (n / 128)
theorem puts_lo {n : Nat} (h : n < 128) : puts n = [(n : Int)] := by rw [puts, if_pos h]
theorem puts_hi {n : Nat} (h : ¬ n < 128) : puts n = ((n % 128 + 128 : Nat) : Int) :: puts (n / 128) := by rw [puts, if_neg h]
theorem puts_pos (n : Nat) : 0 < (puts n).length := by
  by_cases h : n < 128
  · rw [puts_lo h]; simp
  · rw [puts_hi h]; simp
theorem puts_ne (n : Nat) : puts n ≠ [] := by have := puts_pos n; intro h; rw [h] at this; simp at this
theorem puts_le (m : Nat) : ∀ n, n < 128 ^ (m + 1) → (puts n).length ≤ m + 1 := by
  induction m with
  | zero => intro n h; rw [puts_lo (by omega)]; simp
  | succ m ih =>
    intro n h
    by_cases hn : n < 128
    · rw [puts_lo hn]; simp
    · rw [puts_hi hn]
      have := ih (n / 128) (by rw [Nat.pow_succ] at h; exact Nat.div_lt_of_lt_mul (by rw [Nat.mul_comm]; exact h))
      simp only [List.length_cons]; omega
theorem puts_ge (m : Nat) : ∀ n, 128 ^ m ≤ n → m + 1 ≤ (puts n).length := by
  induction m with
  | zero => intro n _; have := puts_pos n; omega
  | succ m ih =>
    intro n h
    have h1 : ¬ n < 128 := by
      have : 0 < 128 ^ m := Nat.pow_pos (by decide)
      rw [Nat.pow_succ] at h; omega
    rw [puts_hi h1]
    have := ih (n / 128) (by rw [Nat.pow_succ] at h; exact (Nat.le_div_iff_mul_le (by decide)).2 h)
    simp only [List.length_cons]; omega
theorem pow10 : 128 ^ 10 = 1180591620717411303424 := by decide
theorem puts_ten (n : Nat) (h : n < 18446744073709551616) : (puts n).length ≤ 10 := puts_le 9 n (by have := pow10; omega)
theorem puts_byte (n : Nat) : ∀ c ∈ puts n, 0 ≤ c ∧ c < 256 := by
  induction n using Nat.strongRecOn with
  | _ n ih =>
    by_cases h : n < 128
    · rw [puts_lo h]; intro c hc; simp at hc; omega
    · rw [puts_hi h]; intro c hc
      rcases List.mem_cons.1 hc with rfl | hc
      · omega
      · exact ih (n / 128) (by omega) c hc

theorem or128 : ∀ c : Fin 256, Go.bits .or .u8 ((c.val : Nat) : Int) 128 = ((c.val % 128 + 128 : Nat) : Int) := by decide +kernel
theorem andNot128 : ∀ c : Fin 256, Go.bits .andNot .u8 ((c.val : Nat) : Int) 128 = ((c.val % 128 : Nat) : Int) := by decide +kernel
theorem or128_at (c : Int) (h0 : 0 ≤ c) (h1 : c < 256) : Go.bits .or .u8 c 128 = c % 128 + 128 := by
  have := or128 ⟨c.toNat, by omega⟩
  simp only [show ((c.toNat : Nat) : Int) = c by omega] at this
  rw [this]; omega
theorem andNot128_at (c : Int) (h0 : 0 ≤ c) (h1 : c < 256) : Go.bits .andNot .u8 c 128 = c % 128 := by
  have := andNot128 ⟨c.toNat, by omega⟩
  simp only [show ((c.toNat : Nat) : Int) = c by omega] at this
  rw [this]; omega

/-- What GetUint gets: c is read at place i, n has been gathered so far. -/
def gets : List Int → Nat → Int → Int × Int × Int
  | [], i, _ => if i = 10 then (0, 0, 3) else (0, 0, 2)
  | c :: r, i, n => if i = 10 then (0, 0, 3) else if 18446744073709551616 ≤ (c % 128) * 128 ^ i then (0, 0, 3) else if 128 ≤ c then gets r (i + 1) (n + (c % 128) * 128 ^ i)
      else if c = 0 ∧ 0 < i then (0, 0, 3) else (n + (c % 128) * 128 ^ i, (i : Int) + 1, 0)
def Bytes (l : List Int) : Prop := ∀ x ∈ l, 0 ≤ x ∧ x < 256
theorem Bytes.drop {l : List Int} (h : Bytes l) (k : Nat) : Bytes (l.drop k) := fun x hx => h x (List.mem_of_mem_drop hx)
theorem Bytes.take {l : List Int} (h : Bytes l) (k : Nat) : Bytes (l.take k) := fun x hx => h x (List.mem_of_mem_take hx)
theorem Bytes.app {l m : List Int} (h : Bytes l) (h' : Bytes m) : Bytes (l ++ m) := fun x hx => (List.mem_append.1 hx).elim (h x) (h' x)
theorem puts_bytes (n : Nat) : Bytes (puts n) := puts_byte n
theorem pow128_pos (i : Nat) : (0 : Int) < 128 ^ i := Int.pow_pos (by decide)
theorem pow128_cast (i : Nat) : (((128 : Nat) ^ i : Nat) : Int) = (128 : Int) ^ i := by simp
theorem pow_shift (i : Nat) : (2 : Int) ^ (7 * i) = 128 ^ i := by rw [Int.pow_mul]; rfl
/-- What is told of what goes on. -/
theorem gets_err {xs : List Int} : ∀ {i : Nat} {n : Int} {a b e : Int}, gets xs i n = (a, b, e) → e = 0 ∨ (a = 0 ∧ b = 0 ∧ (e = 2 ∨ e = 3)) := by
  induction xs with
  | nil => intro i n a b e h; simp only [gets] at h; split at h <;> (cases h; simp)
  | cons c r ih =>
    intro i n a b e h
    simp only [gets] at h
    split at h
    · cases h; simp
    · split at h
      · cases h; simp
      · split at h
        · exact ih h
        · split at h <;> (cases h; simp)
/-- A number, or ErrForm, stays, whatever stands behind. -/
theorem gets_more (ys : List Int) : ∀ (xs : List Int) (i : Nat) (n : Int), (gets xs i n).2.2 ≠ 2 → i ≤ 10 → gets (xs ++ ys) i n = gets xs i n := by
  intro xs
  induction xs with
  | nil =>
    intro i n h hi
    simp only [gets] at h ⊢
    by_cases h10 : i = 10
    · subst h10; rw [if_pos rfl]
      cases ys with
      | nil => simp [gets]
      | cons y ys => simp [gets]
    · rw [if_neg h10] at h; simp at h
  | cons c r ih =>
    intro i n h hi
    simp only [List.cons_append, gets] at h ⊢
    by_cases h10 : i = 10
    · rw [if_pos h10, if_pos h10]
    · rw [if_neg h10] at h ⊢
      rw [if_neg h10]
      split
      · rfl
      · rename_i hb
        rw [if_neg hb] at h
        split
        · rename_i hc
          rw [if_pos hc] at h
          exact ih _ _ h (by omega)
        · rfl
/-- What ends too early goes on: a 1 behind makes a number. -/
theorem gets_one : ∀ (xs : List Int) (i : Nat) (n : Int), Bytes xs → (gets xs i n).2.2 = 2 → i ≤ 9 → 0 ≤ n → ∃ v, gets (xs ++ [1]) i n = (v, ((i + xs.length : Nat) : Int) + 1, 0) ∧ 0 < v := by
  intro xs
  induction xs with
  | nil =>
    intro i n hB h hi hn
    have hp := pow128_pos i
    have hm : (128 : Int) ^ i ≤ 128 ^ 9 := by
      have := Nat.pow_le_pow_right (show 0 < 128 by decide) hi
      have a := pow128_cast i
      have b := pow128_cast 9
      omega
    have e9 : (128 : Int) ^ 9 = 9223372036854775808 := by decide
    simp only [List.nil_append, gets]
    rw [if_neg (by omega), show (1 : Int) % 128 = 1 by decide, Int.one_mul, if_neg (by omega), if_neg (by decide), if_neg (by omega)]
    exact ⟨n + 128 ^ i, by simp, by omega⟩
  | cons c r ih =>
    intro i n hB h hi hn
    have hc := hB c (by simp)
    have hp := pow128_pos i
    simp only [gets] at h
    rw [if_neg (by omega)] at h
    split at h
    · simp at h
    · rename_i hb
      split at h
      · rename_i h128
        have hn' : 0 ≤ n + c % 128 * 128 ^ i := Int.add_nonneg hn (Int.mul_nonneg (by omega) (by omega))
        by_cases h9 : i = 9
        · exfalso
          subst h9
          cases r with
          | nil => simp [gets] at h
          | cons => simp [gets] at h
        · obtain ⟨v, hv, hpos⟩ := ih (i + 1) _ (fun x hx => hB x (by simp [hx])) h (by omega) hn'
          refine ⟨v, ?_, hpos⟩
          simp only [List.cons_append, gets]
          rw [if_neg (by omega), if_neg hb, if_pos h128, hv]
          simp; omega
      · split at h <;> simp at h

/-- What was put is got, whatever stands behind. -/
theorem gets_puts_at (rest : List Int) (n : Nat) : ∀ (i : Nat) (acc : Int), (n : Int) * 128 ^ i < 18446744073709551616 → (i = 0 ∨ 0 < n) → gets (puts n ++ rest) i acc = (acc + n * 128 ^ i, ((i + (puts n).length : Nat) : Int), 0) := by
  induction n using Nat.strongRecOn with
  | _ n ih =>
    intro i acc hn h0
    have hp := pow128_pos i
    have hi : i ≠ 10 := by
      intro h
      subst h
      rcases h0 with h0 | h0
      · omega
      · have e : (128 : Int) ^ 10 = 1180591620717411303424 := by decide
        rw [e] at hn; omega
    by_cases h : n < 128
    · rw [puts_lo h]
      simp only [List.cons_append, gets]
      rw [if_neg hi, show (n : Int) % 128 = n by omega, if_neg (by omega), if_neg (by omega), if_neg (by omega)]
      simp
    · have e1 : ((n % 128 + 128 : Nat) : Int) % 128 = ((n % 128 : Nat) : Int) := by omega
      have hle : ((n % 128 : Nat) : Int) * 128 ^ i ≤ (n : Int) * 128 ^ i := Int.mul_le_mul_of_nonneg_right (by omega) (by omega)
      have hmul : ((n / 128 : Nat) : Int) * 128 ^ (i + 1) = (((n / 128 : Nat) : Int) * 128) * 128 ^ i := by rw [Int.pow_succ, Int.mul_comm ((128 : Int) ^ i) 128, ← Int.mul_assoc]
      have hle2 : (((n / 128 : Nat) : Int) * 128) * 128 ^ i ≤ (n : Int) * 128 ^ i := Int.mul_le_mul_of_nonneg_right (by omega) (by omega)
      rw [puts_hi h]
      simp only [List.cons_append, gets]
      rw [if_neg hi, e1, if_neg (by omega), if_pos (by omega), ih (n / 128) (by omega) (i + 1) _ (by rw [hmul]; omega) (Or.inr (by omega)), hmul]
      have hsum : ((n % 128 : Nat) : Int) * 128 ^ i + (((n / 128 : Nat) : Int) * 128) * 128 ^ i = (n : Int) * 128 ^ i := by
        rw [← Int.add_mul]; congr 1; omega
      simp only [List.length_cons]
      refine Prod.ext ?_ (Prod.ext ?_ rfl)
      · show acc + _ + _ = _
        omega
      · show ((i + 1 + (puts (n / 128)).length : Nat) : Int) = ((i + ((puts (n / 128)).length + 1) : Nat) : Int)
        omega
theorem gets_puts (rest : List Int) (n : Nat) (hn : n < 18446744073709551616) : gets (puts n ++ rest) 0 0 = ((n : Int), ((puts n).length : Int), 0) := by
  have := gets_puts_at rest n 0 0 (by simp; omega) (Or.inl rfl)
  simpa using this
end Go.Proofs.Ytemgidhelpacaaa.B
