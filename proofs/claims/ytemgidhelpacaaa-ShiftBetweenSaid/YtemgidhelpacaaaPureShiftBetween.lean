/- The pure statement of ShiftBetween: all TIDs of an epoch lie together, for any epoch, worker and seq. -/
import Derived.Test.YtemgidhelpacaaaPSx4
import Derived.Test.YtemgidhelpacaaaShow
namespace Go.Proofs.Ytemgidhelpacaaa.Pure
open Go.RowKit Go.Proofs.Ytemgidhelpacaaa.PS Go.Proofs.YtemgidhelpacaaaW.PrintWords Go.Proofs.YtemgidhelpacaaaW.PrintLast Go.Proofs.Ytemgidhelpacaaa.B

theorem between_j1 (k : Nat) (a b s : Int) (ha0 : 0 ≤ a) (ha1 : a < 4294967296) (hb0 : 0 ≤ b) (hb1 : b < 256) (hs0 : 0 ≤ s) (hs1 : s < 16777216) :
    tidemarklaw01_ShiftBetween.j1 (k + 1) a b s true (a * 4294967296 + s * 256 + b) = some true := by
  simp only [tidemarklaw01_ShiftBetween.j1]
  by_cases h : b < 255
  · rw [if_pos h, show (b + 1) % 256 = b + 1 by omega, pack_f a (b + 1) s ha0 ha1 (by omega) (by omega) hs0 hs1]
    simp only [Option.bind_some]
    rw [if_pos trivial, if_pos (by rw [IntKind.wrap_u64]; omega)]
  · rw [if_neg h]
theorem ShiftBetween : tidemarklaw01_ShiftBetween.Pure := by
  intro a b c wa wb wc
  have ha := u32_at a wa
  have hb := u8_at b wb
  have hc := u32_at c wc
  refine ⟨20, ?_⟩
  unfold tidemarklaw01_ShiftBetween.f
  rw [shown_at 20 (by decide), and_24 c hc.1 hc.2]; simp only [Option.bind_some]
  obtain ⟨s, hs⟩ : ∃ s, s = c % 16777216 := ⟨_, rfl⟩
  rw [← hs]
  have hs0 : 0 ≤ s := by omega
  have hs1 : s < 16777216 := by omega
  rw [pack_f a b s ha.1 ha.2 hb.1 hb.2 hs0 hs1]
  simp only [Option.bind_some]
  rw [if_pos trivial]
  have e : ((a * 4294967296 + s * 256 + b) / 4294967296 != IntKind.u64.wrap a) = false := by
    rw [IntKind.wrap_u64]; exact bne_eq_false_iff_eq.2 (by omega)
  rw [e]
  simp only [tidemarklaw01_ShiftBetween.j0]
  rw [if_neg (by decide), show (s + 1) % 4294967296 = s + 1 by omega]
  by_cases h : s + 1 < 16777216
  · rw [if_pos h, pack_f a b (s + 1) ha.1 ha.2 hb.1 hb.2 (by omega) h]
    simp only [Option.bind_some]
    rw [if_pos trivial, if_pos (by rw [IntKind.wrap_u64]; omega)]
    exact between_j1 18 a b s ha.1 ha.2 hb.1 hb.2 hs0 hs1
  · rw [if_neg h, pack_no a b (s + 1) (by omega)]
    simp only [Option.bind_some]
    rw [if_pos trivial]
    exact between_j1 18 a b s ha.1 ha.2 hb.1 hb.2 hs0 hs1
end Go.Proofs.Ytemgidhelpacaaa.Pure
