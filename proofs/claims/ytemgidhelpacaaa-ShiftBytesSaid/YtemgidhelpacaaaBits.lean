/- Plain facts on bits of numbers: xor, or, and; Zig, Zag and Pack as arithmetic. No condition but the ranges of the kinds. -/
import Derived.Test.YtemgidhelpacaaaWMore
import Derived.PlainAid
import Derived.Laws.BitsLemmas
namespace Go.Proofs.Ytemgidhelpacaaa.B
open Go.RowKit

theorem two64 : (2 : Int) ^ 64 = 18446744073709551616 := by decide
theorem wraps_u64 (n : Int) (h₀ : 0 ≤ n) (h₁ : n < 2 ^ 64) : IntKind.u64.wrap n = n := by rw [two64] at h₁; rw [IntKind.wrap_u64]; omega

theorem xor_ones (x : Int) (h0 : 0 ≤ x) (h1 : x < 18446744073709551616) : Go.bits .xor .u64 x 18446744073709551615 = 18446744073709551615 - x := by
  obtain ⟨a, rfl⟩ := Int.eq_ofNat_of_zero_le h0
  have ha : a < 2 ^ 64 := by omega
  have e : (BitVec.ofInt 64 (a : Int) ^^^ BitVec.ofInt 64 18446744073709551615) = ~~~ (BitVec.ofInt 64 (a : Int)) := by
    have : BitVec.ofInt 64 18446744073709551615 = BitVec.allOnes 64 := by decide
    rw [this, BitVec.xor_allOnes]
  have b : Go.bits .xor .u64 (a : Int) 18446744073709551615 = IntKind.u64.wrap ((BitVec.ofInt 64 (a : Int) ^^^ BitVec.ofInt 64 18446744073709551615).toNat : Int) := rfl
  rw [b, e]
  simp only [BitVec.toNat_not, BitVec.ofInt_natCast, BitVec.toNat_ofNat, Nat.mod_eq_of_lt ha]
  rw [IntKind.wrap_u64]; omega
theorem xor_zero (x : Int) (h0 : 0 ≤ x) (h1 : x < 18446744073709551616) : Go.bits .xor .u64 x 0 = x := by
  obtain ⟨a, rfl⟩ := Int.eq_ofNat_of_zero_le h0
  have ha : a < 2 ^ 64 := by omega
  have e : (BitVec.ofInt 64 (a : Int) ^^^ BitVec.ofInt 64 0) = (BitVec.ofInt 64 (a : Int)) := by
    have : BitVec.ofInt 64 0 = 0#64 := by decide
    rw [this, BitVec.xor_zero]
  have b : Go.bits .xor .u64 (a : Int) 0 = IntKind.u64.wrap ((BitVec.ofInt 64 (a : Int) ^^^ BitVec.ofInt 64 0).toNat : Int) := rfl
  rw [b, e]
  simp only [BitVec.ofInt_natCast, BitVec.toNat_ofNat, Nat.mod_eq_of_lt ha]
  rw [IntKind.wrap_u64]; omega
theorem xor_zero_i (x : Int) (h0 : 0 ≤ x) (h1 : x < 9223372036854775808) : Go.bits .xor .i64 x 0 = x := by
  obtain ⟨a, rfl⟩ := Int.eq_ofNat_of_zero_le h0
  have ha : a < 2 ^ 64 := by omega
  have e : (BitVec.ofInt 64 (a : Int) ^^^ BitVec.ofInt 64 0) = (BitVec.ofInt 64 (a : Int)) := by
    have : BitVec.ofInt 64 0 = 0#64 := by decide
    rw [this, BitVec.xor_zero]
  have b : Go.bits .xor .i64 (a : Int) 0 = IntKind.i64.wrap ((BitVec.ofInt 64 (a : Int) ^^^ BitVec.ofInt 64 0).toNat : Int) := rfl
  rw [b, e]
  simp only [BitVec.ofInt_natCast, BitVec.toNat_ofNat, Nat.mod_eq_of_lt ha]
  rw [IntKind.wrap_i64]; omega
theorem xor_ones_i (x : Int) (h0 : 0 ≤ x) (h1 : x < 9223372036854775808) : Go.bits .xor .i64 x (-1) = -x - 1 := by
  obtain ⟨a, rfl⟩ := Int.eq_ofNat_of_zero_le h0
  have ha : a < 2 ^ 64 := by omega
  have e : (BitVec.ofInt 64 (a : Int) ^^^ BitVec.ofInt 64 (-1)) = ~~~ (BitVec.ofInt 64 (a : Int)) := by
    have : BitVec.ofInt 64 (-1) = BitVec.allOnes 64 := by decide
    rw [this, BitVec.xor_allOnes]
  have b : Go.bits .xor .i64 (a : Int) (-1) = IntKind.i64.wrap ((BitVec.ofInt 64 (a : Int) ^^^ BitVec.ofInt 64 (-1)).toNat : Int) := rfl
  rw [b, e]
  simp only [BitVec.toNat_not, BitVec.ofInt_natCast, BitVec.toNat_ofNat, Nat.mod_eq_of_lt ha]
  rw [IntKind.wrap_i64]; omega
theorem and_one (x : Int) (h0 : 0 ≤ x) (h1 : x < 18446744073709551616) : Go.bits .and .u64 x 1 = x % 2 := by
  have := bits_mask .u64 64 (by decide) wraps_u64 1 (by decide) x h0 (by rw [two64]; exact h1)
  simpa using this
theorem and_24 (x : Int) (h0 : 0 ≤ x) (h1 : x < 4294967296) : Go.bits .and .u32 x 16777215 = x % 16777216 := by
  have := bits_mask .u32 32 (by decide) (fun n a b => by have : (2:Int)^32 = 4294967296 := by decide
                                                         rw [this] at b; rw [IntKind.wrap_u32]; omega) 24 (by decide) x h0 (by have : (2:Int)^32 = 4294967296 := by decide
                                                                                                                               rw [this]; exact h1)
  simpa using this
theorem or_join (i : Nat) (x y : Int) (hx₀ : 0 ≤ x) (hx : x % 2 ^ i = 0) (hx₁ : x < 18446744073709551616) (hy₀ : 0 ≤ y) (hy : y < 2 ^ i) (hy₁ : y < 18446744073709551616) :
    Go.bits .or .u64 x y = x + y :=
  bits_join .u64 64 (by decide) wraps_u64 i x y hx₀ hx (by rw [two64]; exact hx₁) hy₀ hy (by rw [two64]; exact hy₁)
theorem or_comm (k : IntKind) (x y : Int) : Go.bits .or k x y = Go.bits .or k y x := by
  simp only [Go.bits, BitVec.or_comm]

/-- Zig and Zag, as numbers. -/
def zig (n : Int) : Int := if n < 0 then -2 * n - 1 else 2 * n
def zag (n : Int) : Int := if n % 2 = 0 then n / 2 else -(n / 2) - 1
theorem zig_is (n : Int) (h0 : -9223372036854775808 ≤ n) (h1 : n ≤ 9223372036854775807) :
    Go.bits .xor .u64 (IntKind.u64.wrap ((IntKind.u64.wrap (n)) * 2)) (IntKind.u64.wrap (n / 9223372036854775808)) = zig n := by
  unfold zig
  by_cases h : n < 0
  · rw [if_pos h, show n / 9223372036854775808 = -1 by omega, show IntKind.u64.wrap (-1) = 18446744073709551615 by rw [IntKind.wrap_u64]; decide,
      IntKind.wrap_u64, IntKind.wrap_u64, xor_ones _ (by omega) (by omega)]
    omega
  · rw [if_neg h, show n / 9223372036854775808 = 0 by omega, show IntKind.u64.wrap 0 = 0 by rw [IntKind.wrap_u64]; decide,
      IntKind.wrap_u64, IntKind.wrap_u64, xor_zero _ (by omega) (by omega)]
    omega
theorem wrap64_id (n : Int) (h0 : -9223372036854775808 ≤ n) (h1 : n ≤ 9223372036854775807) : wrap64 n = n := by unfold wrap64; omega
theorem zag_is (n : Int) (h0 : 0 ≤ n) (h1 : n < 18446744073709551616) :
    Go.bits .xor .i64 (wrap64 (n / 2)) (wrap64 (-(wrap64 (Go.bits .and .u64 n 1)))) = zag n := by
  unfold zag
  rw [and_one n h0 h1, wrap64_id (n / 2) (by omega) (by omega), wrap64_id (n % 2) (by omega) (by omega), wrap64_id (-(n % 2)) (by omega) (by omega)]
  by_cases h : n % 2 = 0
  · rw [if_pos h, h]; exact xor_zero_i _ (by omega) (by omega)
  · rw [if_neg h, show n % 2 = 1 by omega]; exact xor_ones_i _ (by omega) (by omega)
theorem zig_lo (n : Int) : 0 ≤ zig n := by unfold zig; split <;> omega
theorem zig_hi (n : Int) (h0 : -9223372036854775808 ≤ n) (h1 : n ≤ 9223372036854775807) : zig n < 18446744073709551616 := by unfold zig; split <;> omega
theorem zag_zig (n : Int) : zag (zig n) = n := by unfold zag zig; split <;> split <;> omega
theorem zig_zag (n : Int) (h0 : 0 ≤ n) : zig (zag n) = n := by unfold zag zig; split <;> split <;> omega
/-- Pack, as a number. -/
theorem pack_is (a b c : Int) (ha0 : 0 ≤ a) (ha1 : a < 4294967296) (hb0 : 0 ≤ b) (hb1 : b < 256) (hc0 : 0 ≤ c) (hc1 : c < 16777216) :
    Go.bits .or .u64 (Go.bits .or .u64 (IntKind.u64.wrap ((IntKind.u64.wrap (a)) * 4294967296)) (IntKind.u64.wrap ((IntKind.u64.wrap (c)) * 256))) (IntKind.u64.wrap (b)) = a * 4294967296 + c * 256 + b := by
  rw [IntKind.wrap_u64 a, show a % 18446744073709551616 = a by omega, IntKind.wrap_u64 (a * _), show (a * 4294967296) % 18446744073709551616 = a * 4294967296 by omega,
    IntKind.wrap_u64 c, show c % 18446744073709551616 = c by omega, IntKind.wrap_u64 (c * _), show (c * 256) % 18446744073709551616 = c * 256 by omega,
    IntKind.wrap_u64 b, show b % 18446744073709551616 = b by omega]
  have e32 : (2 : Int) ^ 32 = 4294967296 := by decide
  have e8 : (2 : Int) ^ 8 = 256 := by decide
  rw [or_join 32 (a * 4294967296) (c * 256) (by omega) (by rw [e32]; omega) (by omega) (by omega) (by rw [e32]; omega) (by omega),
    or_join 8 _ b (by omega) (by rw [e8]; omega) (by omega) hb0 (by rw [e8]; omega) (by omega)]
theorem u32_at (a : Int) (h : (Lit.int .u32 a).wf = true) : 0 ≤ a ∧ a < 4294967296 := by
  simp [Lit.wf, IntKind.min, IntKind.max, IntKind.signed, IntKind.bits] at h; omega
theorem u8_at (a : Int) (h : (Lit.int .u8 a).wf = true) : 0 ≤ a ∧ a < 256 := by
  simp [Lit.wf, IntKind.min, IntKind.max, IntKind.signed, IntKind.bits] at h; omega
theorem u64_at (a : Int) (h : (Lit.int .u64 a).wf = true) : 0 ≤ a ∧ a < 18446744073709551616 := by
  simp [Lit.wf, IntKind.min, IntKind.max, IntKind.signed, IntKind.bits] at h; omega
theorem i64_at (a : Int) (h : (Lit.int .i64 a).wf = true) : -9223372036854775808 ≤ a ∧ a ≤ 9223372036854775807 := by
  simp [Lit.wf, IntKind.min, IntKind.max, IntKind.signed, IntKind.bits] at h; omega
theorem i32_at (a : Int) (h : (Lit.int .i32 a).wf = true) : -2147483648 ≤ a ∧ a ≤ 2147483647 := by
  simp [Lit.wf, IntKind.min, IntKind.max, IntKind.signed, IntKind.bits] at h; omega
end Go.Proofs.Ytemgidhelpacaaa.B
