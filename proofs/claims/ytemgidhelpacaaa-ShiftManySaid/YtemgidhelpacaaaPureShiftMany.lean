/- The pure statement of ShiftMany: numbers that are put one behind the other are got one behind the other, for any numbers (sixty). -/
import Derived.Test.YtemgidhelpacaaaMany
import Derived.Test.YtemgidhelpacaaaGet
namespace Go.Proofs.Ytemgidhelpacaaa.Pure
set_option linter.unusedVariables false
open Go.RowKit Go.Proofs.Ytemgidhelpacaaa.PS Go.Proofs.YtemgidhelpacaaaW.PrintWords Go.Proofs.YtemgidhelpacaaaW.PrintLast Go.Proofs.YtemgidhelpacaaaW.PrintMore Go.Proofs.Ytemgidhelpacaaa.B

/-- The bytes of numbers, each without and with a sign. -/
def encs : List Int → List Int
  | [] => []
  | x :: r => puts x.toNat ++ (puts (zig (wrap64 x)).toNat ++ encs r)
def U64 (l : List Int) : Prop := ∀ x ∈ l, 0 ≤ x ∧ x < 18446744073709551616
theorem wrap64_lo (x : Int) : -9223372036854775808 ≤ wrap64 x := by unfold wrap64; omega
theorem wrap64_hi (x : Int) : wrap64 x ≤ 9223372036854775807 := by unfold wrap64; omega
theorem encs_bytes (l : List Int) : Bytes (encs l) := by
  induction l with
  | nil => intro x hx; simp [encs] at hx
  | cons y r ih => exact (puts_bytes _).app ((puts_bytes _).app ih)
theorem zig_nat (x : Int) : (zig (wrap64 x)).toNat < 18446744073709551616 := by
  have := zig_hi (wrap64 x) (wrap64_lo x) (wrap64_hi x)
  have := zig_lo (wrap64 x)
  omega
theorem encs_len (l : List Int) (h : U64 l) : (encs l).length ≤ 20 * l.length := by
  induction l with
  | nil => simp [encs]
  | cons y r ih =>
    have h1 := puts_ten y.toNat (by have := (h y (by simp)); omega)
    have h2 := puts_ten _ (zig_nat y)
    have := ih (fun x hx => h x (by simp [hx]))
    simp only [encs, List.length_append, List.length_cons]; omega
theorem put_int_f (k : Nat) (l : List Int) (m : Int) (h0 : -9223372036854775808 ≤ m) (h1 : m ≤ 9223372036854775807) (hk : 10 ≤ k) (hl : l.length + 10 < 140737488355328) :
    shift_PutInt.f k l m = some (l ++ puts (zig m).toNat) := by
  unfold shift_PutInt.f
  rw [zig_f m h0 h1]; simp only [Option.bind_some]
  rw [put_f k l (zig m) (zig_lo m) (zig_hi m h0 h1) hk hl]; rfl
theorem rd_cons {xs : List Int} {i : Nat} (h : i < xs.length) : xs.drop i = rd xs (i : Int) :: xs.drop (i + 1) := by
  rw [List.drop_eq_getElem_cons h, rd_at xs i h]
theorem many_l0 (z : List Int) (hz : U64 z) (hl : z.length ≤ 60) (d : Nat) : ∀ (k i : Nat) (acc : List Int), i + d = z.length → acc.length ≤ 20 * i → 10 ≤ k →
    tidemarklaw01_ShiftMany.l0 (k + d + 1) z true acc (i : Int) = tidemarklaw01_ShiftMany.l1 k z true (acc ++ encs (z.drop i)) 0 := by
  induction d with
  | zero =>
    intro k i acc hd ha hk
    simp only [tidemarklaw01_ShiftMany.l0]
    rw [if_neg (by omega), List.drop_eq_nil_of_le (by omega)]
    simp [encs]
  | succ d ih =>
    intro k i acc hd ha hk
    have hlt : i < z.length := by omega
    have hx := hz (rd z (i : Int)) (by rw [rd_at z i hlt]; exact List.getElem_mem hlt)
    rw [show k + (d + 1) + 1 = (k + d + 1) + 1 by omega]
    obtain ⟨K, hK⟩ : ∃ K, K = k + d + 1 := ⟨_, rfl⟩
    rw [← hK]
    simp only [tidemarklaw01_ShiftMany.l0]
    rw [if_pos (by omega), if_pos (by omega), put_f _ acc _ hx.1 hx.2 (by omega) (by omega)]
    have h1 := puts_ten (rd z (i : Int)).toNat (by omega)
    have h2 := puts_ten _ (zig_nat (rd z (i : Int)))
    simp only [Option.bind_some]
    rw [put_int_f _ _ _ (wrap64_lo _) (wrap64_hi _) (by omega) (by simp only [List.length_append]; omega)]
    simp only [Option.bind_some]
    rw [wrap64_id ((i : Int) + 1) (by omega) (by omega), show (i : Int) + 1 = ((i + 1 : Nat) : Int) by omega, hK,
      ih k (i + 1) _ (by omega) (by simp only [List.length_append]; omega) hk, rd_cons hlt]
    simp only [encs, List.append_assoc]
theorem get_int_f (k : Nat) (xs : List Int) (hB : Bytes xs) (hL : xs.length ≤ 9223372036854775807) (hk : 22 ≤ k) (n s e : Int) (h : gets xs 0 0 = (n, s, e)) (hn0 : 0 ≤ n) (hn1 : n < 18446744073709551616) :
    shift_GetInt.f k xs = some (zag n, s, e) := by
  unfold shift_GetInt.f
  rw [get_f k xs hB hL hk, h]; simp only [Option.bind_some]
  rw [zag_f n hn0 hn1]; rfl
theorem many_l1 (z : List Int) (hz : U64 z) (hl : z.length ≤ 60) (d : Nat) : ∀ (k i : Nat), i + d = z.length → 22 ≤ k →
    tidemarklaw01_ShiftMany.l1 (k + 2 * d + 1) z true (encs (z.drop i)) (i : Int) = some true := by
  induction d with
  | zero =>
    intro k i hd hk
    simp only [tidemarklaw01_ShiftMany.l1]
    rw [if_neg (by omega), List.drop_eq_nil_of_le (by omega)]
    simp [encs]
  | succ d ih =>
    intro k i hd hk
    have hlt : i < z.length := by omega
    have hx := hz (rd z (i : Int)) (by rw [rd_at z i hlt]; exact List.getElem_mem hlt)
    have hB : Bytes (encs (z.drop i)) := encs_bytes _
    have hL : (encs (z.drop i)).length ≤ 1200 := by
      have := encs_len (z.drop i) (fun x hx => hz x (List.mem_of_mem_drop hx))
      have : (z.drop i).length ≤ 60 := by rw [List.length_drop]; omega
      omega
    rw [show k + 2 * (d + 1) + 1 = ((k + 2 * d + 1) + 1) + 1 by omega]
    simp only [tidemarklaw01_ShiftMany.l1]
    rw [if_pos (by omega), get_f _ _ hB (by omega) (by omega)]
    obtain ⟨x, hxx⟩ : ∃ x, rd z (i : Int) = x := ⟨_, rfl⟩
    obtain ⟨rest, hrest⟩ : ∃ rest, puts (zig (wrap64 x)).toNat ++ encs (z.drop (i + 1)) = rest := ⟨_, rfl⟩
    have he : encs (z.drop i) = puts x.toNat ++ rest := by rw [rd_cons hlt, hxx, ← hrest]; rfl
    rw [hxx] at hx
    rw [he] at hB hL ⊢
    rw [hxx, gets_puts _ x.toNat (by omega)]
    simp only [Option.bind_some]
    simp only [List.length_append] at hL
    have hpp := puts_pos x.toNat
    rw [if_pos (by omega), if_pos (by omega), if_pos trivial, decide_eq_false (by simp only [List.length_append]; omega)]
    simp only [tidemarklaw01_ShiftMany.j2]
    rw [if_neg (by decide), if_pos (by omega), if_pos (by simp only [List.length_append]; omega)]
    simp only [Option.bind_some, Int.toNat_natCast, List.drop_left]
    have hB2 : Bytes rest := fun y hy => hB y (List.mem_append_right _ hy)
    have g2 : gets rest 0 0 = (zig (wrap64 x), ((puts (zig (wrap64 x)).toNat).length : Int), 0) := by
      rw [← hrest, gets_puts _ _ (zig_nat x)]
      have := zig_lo (wrap64 x)
      rw [show (((zig (wrap64 x)).toNat : Nat) : Int) = zig (wrap64 x) by omega]
    rw [get_int_f _ rest hB2 (by omega) (by omega) _ _ _ g2 (zig_lo _) (zig_hi _ (wrap64_lo x) (wrap64_hi x))]
    simp only [Option.bind_some, zag_zig]
    have hr : (puts (zig (wrap64 x)).toNat).length ≤ rest.length := by rw [← hrest, List.length_append]; omega
    rw [hxx, if_pos (by omega), if_pos (by omega), if_pos rfl, if_pos trivial, if_neg (by omega), if_pos (by omega), if_pos (by omega), Int.toNat_natCast, ← hrest, List.drop_left,
      wrap64_id ((i : Int) + 1) (by omega) (by omega), show (i : Int) + 1 = ((i + 1 : Nat) : Int) by omega]
    exact ih k (i + 1) (by omega) hk
theorem mn60 (n : Nat) : ∃ m : Nat, mn (n : Int) 60 = (m : Int) ∧ m ≤ n ∧ m ≤ 60 := by
  unfold mn
  by_cases h : (60 : Int) < n
  · rw [if_pos h]; exact ⟨60, rfl, by omega, by omega⟩
  · rw [if_neg h]; exact ⟨n, rfl, by omega, by omega⟩
theorem ShiftMany : tidemarklaw01_ShiftMany.Pure := by
  intro l h0 h1 hw
  obtain ⟨m, em, am, bm⟩ := mn60 l.length
  obtain ⟨z, hz⟩ : ∃ z, l.take m = z := ⟨_, rfl⟩
  have zl : z.length = m := by rw [← hz, List.length_take]; omega
  have uz : U64 z := fun x hx => u64_at x (hw x (List.mem_of_mem_take (hz ▸ hx)))
  have e0 := many_l0 z uz (by omega) m (30 + 2 * m + 1) 0 [] (by omega) (by simp) (by omega)
  have e1 := many_l1 z uz (by omega) m 30 0 (by omega) (by decide)
  simp only [List.nil_append, List.drop_zero] at e0 e1
  refine ⟨30 + 2 * m + 1 + m + 1, ?_⟩
  unfold tidemarklaw01_ShiftMany.f
  rw [shown_at _ (by omega)]
  simp only [Option.bind_some, em, Int.toNat_natCast]
  rw [hz, if_pos (by omega), if_pos (by omega)]
  exact e0.trans e1
end Go.Proofs.Ytemgidhelpacaaa.Pure
