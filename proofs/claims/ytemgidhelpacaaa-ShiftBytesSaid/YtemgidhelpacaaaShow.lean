/- The callees of the shift laws, as plain facts: shown is true, Zig, Zag, Pack and PutUint are their arithmetic. Conditions: the ranges of the kinds. -/
import Derived.Test.YtemgidhelpacaaaPSx1
import Derived.Test.YtemgidhelpacaaaPSx2
import Derived.Test.YtemgidhelpacaaaNum
namespace Go.Proofs.Ytemgidhelpacaaa.Pure
open Go.RowKit Go.Proofs.Ytemgidhelpacaaa.PS Go.Proofs.YtemgidhelpacaaaW.PrintWords Go.Proofs.YtemgidhelpacaaaW.PrintLast Go.Proofs.Ytemgidhelpacaaa.B

theorem shown_near : tidemarklaw01_shown.f 12 = some true := by decide +kernel
theorem shown_at (k : Nat) (h : 12 ≤ k) : tidemarklaw01_shown.f k = some true := at_rounds tidemarklaw01_shown.mono h shown_near
theorem zig_f (n : Int) (h0 : -9223372036854775808 ≤ n) (h1 : n ≤ 9223372036854775807) : shift_Zig.f n = some (zig n) := by
  unfold shift_Zig.f; rw [zig_is n h0 h1]
theorem zag_f (n : Int) (h0 : 0 ≤ n) (h1 : n < 18446744073709551616) : shift_Zag.f n = some (zag n) := by
  unfold shift_Zag.f; rw [zag_is n h0 h1]
theorem pack_f (a b c : Int) (ha0 : 0 ≤ a) (ha1 : a < 4294967296) (hb0 : 0 ≤ b) (hb1 : b < 256) (hc0 : 0 ≤ c) (hc1 : c < 16777216) :
    shift_Pack.f a b c = some (a * 4294967296 + c * 256 + b, 0) := by
  unfold shift_Pack.f; rw [if_pos (by omega), pack_is a b c ha0 ha1 hb0 hb1 hc0 hc1]
theorem pack_no (a b c : Int) (hc0 : 16777216 ≤ c) : shift_Pack.f a b c = some (0, 1) := by
  unfold shift_Pack.f; rw [if_neg (by omega)]
theorem put_l (d : Nat) : ∀ (k : Nat) (n : Nat) (l : List Int), n < 128 ^ (d + 1) → d < k → l.length + d < 140737488355328 → shift_PutUint.l0 k l (n : Int) = some (l ++ puts n) := by
  induction d with
  | zero =>
    intro k n l hn hk hl
    obtain ⟨k, rfl⟩ : ∃ m, k = m + 1 := ⟨k - 1, by omega⟩
    simp only [shift_PutUint.l0]
    rw [if_pos (by omega), if_pos (by omega), puts_lo (by omega), show (n : Int) % 256 = n by omega]
  | succ d ih =>
    intro k n l hn hk hl
    obtain ⟨k, rfl⟩ : ∃ m, k = m + 1 := ⟨k - 1, by omega⟩
    simp only [shift_PutUint.l0]
    by_cases h : n < 128
    · rw [if_pos (by omega), if_pos (by omega), puts_lo (by omega), show (n : Int) % 256 = n by omega]
    · rw [if_neg (by omega), if_pos (by omega), show (n : Int) / 128 = ((n / 128 : Nat) : Int) by omega,
        ih k (n / 128) _ (by rw [Nat.pow_succ] at hn; exact Nat.div_lt_of_lt_mul (by rw [Nat.mul_comm]; exact hn)) (by omega) (by simp; omega),
        puts_hi h, or128_at _ (by omega) (by omega), show (n : Int) % 256 % 128 + 128 = ((n % 128 + 128 : Nat) : Int) by omega, List.append_assoc]
      rfl
theorem put_f (k : Nat) (l : List Int) (n : Int) (h0 : 0 ≤ n) (h1 : n < 18446744073709551616) (hk : 10 ≤ k) (hl : l.length + 10 < 140737488355328) :
    shift_PutUint.f k l n = some (l ++ puts n.toNat) := by
  unfold shift_PutUint.f
  have := put_l 9 k n.toNat l (by have := pow10; omega) (by omega) (by omega)
  rwa [show ((n.toNat : Nat) : Int) = n by omega] at this
end Go.Proofs.Ytemgidhelpacaaa.Pure
