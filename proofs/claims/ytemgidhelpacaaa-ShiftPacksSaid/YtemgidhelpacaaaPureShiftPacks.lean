/- The pure statement of ShiftPacks: Pack and Unpack are what the document says and turn each other back, and TIDs rise as they should, for any numbers. -/
import Derived.Test.YtemgidhelpacaaaPSx7
import Derived.Test.YtemgidhelpacaaaShow
namespace Go.Proofs.Ytemgidhelpacaaa.Pure
set_option linter.unusedVariables false
open Go.RowKit Go.Proofs.Ytemgidhelpacaaa.PS Go.Proofs.YtemgidhelpacaaaW.PrintWords Go.Proofs.YtemgidhelpacaaaW.PrintLast Go.Proofs.Ytemgidhelpacaaa.B

theorem ref_pack_f (a b c : Int) (ha0 : 0 ≤ a) (ha1 : a < 4294967296) (hb0 : 0 ≤ b) (hb1 : b < 256) (hc0 : 0 ≤ c) (hc1 : c < 16777216) :
    tidemarkref01_Pack.f a b c = some (a * 4294967296 + c * 256 + b, 0) := by
  unfold tidemarkref01_Pack.f
  rw [if_neg (by omega)]
  simp only [IntKind.wrap_u64]
  congr 2; omega
theorem ref_pack_no (a b c : Int) (hc0 : 16777216 ≤ c) : tidemarkref01_Pack.f a b c = some (0, 1) := by
  unfold tidemarkref01_Pack.f; rw [if_pos (by omega)]
theorem unpack_f (t : Int) (h0 : 0 ≤ t) (h1 : t < 18446744073709551616) : shift_Unpack.f t = some (t / 4294967296, t % 256, t / 256 % 16777216) := by
  unfold shift_Unpack.f; rw [show t / 4294967296 % 4294967296 = t / 4294967296 by omega, show t % 4294967296 / 256 = t / 256 % 16777216 by omega]
theorem epoch_f (t : Int) (h0 : 0 ≤ t) (h1 : t < 18446744073709551616) : tidemarkref01_Epoch.f t = some (t / 4294967296) := by
  unfold tidemarkref01_Epoch.f; rw [Int.tdiv_eq_ediv_of_nonneg h0, IntKind.wrap_u64]; congr 1; omega
theorem worker_f (t : Int) (h0 : 0 ≤ t) (h1 : t < 18446744073709551616) : tidemarkref01_Worker.f t = some (t % 256) := by
  unfold tidemarkref01_Worker.f; rw [Int.tmod_eq_emod_of_nonneg h0]; congr 1; omega
theorem seq_f (t : Int) (h0 : 0 ≤ t) (h1 : t < 18446744073709551616) : tidemarkref01_Seq.f t = some (t / 256 % 16777216) := by
  unfold tidemarkref01_Seq.f; rw [Int.tdiv_eq_ediv_of_nonneg h0, IntKind.wrap_u64, Int.tmod_eq_emod_of_nonneg (by omega)]; congr 1; omega
/-- the second half: what was unpacked is packed again, and the order. -/
theorem packs_back (t u : Int) (ht0 : 0 ≤ t) (ht1 : t < 18446744073709551616) (hu0 : 0 ≤ u) (hu1 : u < 18446744073709551616) (g : Int × Int → Option Bool)
    (hg : g (t, 0) = some true) : (shift_Pack.f (t / 4294967296) (t % 256) (t / 256 % 16777216)).bind g = some true := by
  rw [pack_f _ _ _ (by omega) (by omega) (by omega) (by omega) (by omega) (by omega)]
  simp only [Option.bind_some]
  rw [show t / 4294967296 * 4294967296 + t / 256 % 16777216 * 256 + t % 256 = t by omega]; exact hg
theorem packs_order (t u : Int) (ht0 : 0 ≤ t) (ht1 : t < 18446744073709551616) (hu0 : 0 ≤ u) (hu1 : u < 18446744073709551616) :
    (if t / 4294967296 < u / 4294967296 then (if true = true then (if t = t then (if (0 : Int) = 0 then (some (true == (decide (t < u)))) else (some false)) else (some false)) else (some false)) else (if t / 4294967296 = u / 4294967296 then (if t / 256 % 16777216 < u / 256 % 16777216 then (if true = true then (if t = t then (if (0 : Int) = 0 then (some (true == (decide (t < u)))) else (some false)) else (some false)) else (some false)) else (if t / 256 % 16777216 = u / 256 % 16777216 then (if true = true then (if t = t then (if (0 : Int) = 0 then (some ((decide (t % 256 < u % 256)) == (decide (t < u)))) else (some false)) else (some false)) else (some false)) else (if true = true then (if t = t then (if (0 : Int) = 0 then (some (false == (decide (t < u)))) else (some false)) else (some false)) else (some false)))) else (if true = true then (if t = t then (if (0 : Int) = 0 then (some (false == (decide (t < u)))) else (some false)) else (some false)) else (some false)))) = some true := by
  simp only [if_true]
  by_cases h1 : t / 4294967296 < u / 4294967296
  · rw [if_pos h1, decide_eq_true (by omega : t < u)]; rfl
  · rw [if_neg h1]
    by_cases h2 : t / 4294967296 = u / 4294967296
    · rw [if_pos h2]
      by_cases h3 : t / 256 % 16777216 < u / 256 % 16777216
      · rw [if_pos h3, decide_eq_true (by omega : t < u)]; rfl
      · rw [if_neg h3]
        by_cases h4 : t / 256 % 16777216 = u / 256 % 16777216
        · rw [if_pos h4, show decide (t % 256 < u % 256) = decide (t < u) from decide_eq_decide.2 (by omega)]; simp
        · rw [if_neg h4, decide_eq_false (by omega : ¬ t < u)]; rfl
    · rw [if_neg h2, decide_eq_false (by omega : ¬ t < u)]; rfl
theorem ShiftPacks : tidemarklaw01_ShiftPacks.Pure := by
  intro a b c t u wa wb wc wt wu
  have ha := u32_at a wa
  have hb := u8_at b wb
  have hc := u32_at c wc
  have ht := u64_at t wt
  have hu := u64_at u wu
  refine ⟨20, ?_⟩
  unfold tidemarklaw01_ShiftPacks.f
  rw [shown_at 20 (by decide), unpack_f t ht.1 ht.2, unpack_f u hu.1 hu.2, epoch_f t ht.1 ht.2, worker_f t ht.1 ht.2, seq_f t ht.1 ht.2]
  have e : (t / 256 % 16777216 != t / 256 % 16777216) = false := by simp
  by_cases h : c < 16777216
  · rw [pack_f a b c ha.1 ha.2 hb.1 hb.2 hc.1 h, ref_pack_f a b c ha.1 ha.2 hb.1 hb.2 hc.1 h]
    simp only [Option.bind_some, if_true]
    rw [e]
    simp only [tidemarklaw01_ShiftPacks.j0]
    rw [if_neg (by decide), if_pos trivial, unpack_f _ (by omega) (by omega)]
    simp only [Option.bind_some]
    rw [if_pos (by omega), if_pos (by omega), if_pos (by omega)]
    refine packs_back t u ht.1 ht.2 hu.1 hu.2 _ ?_
    have o := packs_order t u ht.1 ht.2 hu.1 hu.2
    simp only [if_true] at o ⊢
    exact o
  · rw [pack_no a b c (by omega), ref_pack_no a b c (by omega)]
    simp only [Option.bind_some, if_true]
    rw [e]
    simp only [tidemarklaw01_ShiftPacks.j0]
    rw [if_neg (by decide), if_neg (by decide)]
    refine packs_back t u ht.1 ht.2 hu.1 hu.2 _ ?_
    have o := packs_order t u ht.1 ht.2 hu.1 hu.2
    simp only [if_true] at o ⊢
    exact o
end Go.Proofs.Ytemgidhelpacaaa.Pure
