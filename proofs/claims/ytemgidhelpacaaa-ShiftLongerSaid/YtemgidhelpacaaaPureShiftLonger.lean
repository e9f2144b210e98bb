/- The pure statement of ShiftLonger: what is wrong stays wrong, and what ends too early can go on, for any bytes. -/
import Derived.Test.YtemgidhelpacaaaPSx5
import Derived.Test.YtemgidhelpacaaaGet
namespace Go.Proofs.Ytemgidhelpacaaa.Pure
set_option linter.unusedVariables false
open Go.RowKit Go.Proofs.Ytemgidhelpacaaa.PS Go.Proofs.YtemgidhelpacaaaW.PrintWords Go.Proofs.YtemgidhelpacaaaW.PrintLast Go.Proofs.YtemgidhelpacaaaW.PrintMore Go.Proofs.Ytemgidhelpacaaa.B

theorem bytes_of (l : List Int) (h : ∀ x ∈ l, (Lit.int .u8 x).wf = true) : Bytes l := fun x hx => u8_at x (h x hx)
theorem mn30 (n : Nat) : ∃ m : Nat, mn (n : Int) 30 = (m : Int) ∧ m ≤ n ∧ m ≤ 30 := by
  unfold mn
  by_cases h : (30 : Int) < n
  · rw [if_pos h]; exact ⟨30, rfl, by omega, by omega⟩
  · rw [if_neg h]; exact ⟨n, rfl, by omega, by omega⟩
theorem ShiftLonger : tidemarklaw01_ShiftLonger.Pure := by
  intro l0 l1 h0 h1 w0 h2 h3 w1
  have B0 := bytes_of l0 w0
  have B1 := bytes_of l1 w1
  refine ⟨30, ?_⟩
  unfold tidemarklaw01_ShiftLonger.f
  rw [shown_at 30 (by decide)]
  obtain ⟨m0, e0, a0, b0⟩ := mn30 l0.length
  obtain ⟨m1, e1, a1, b1⟩ := mn30 l1.length
  simp only [Option.bind_some, e0, e1, List.nil_append, Int.toNat_natCast]
  obtain ⟨p, hp⟩ : ∃ p, l0.take m0 = p := ⟨_, rfl⟩
  obtain ⟨q, hq⟩ : ∃ q, l1.take m1 = q := ⟨_, rfl⟩
  have Bp : Bytes p := hp ▸ B0.take m0
  have Bq : Bytes q := hq ▸ B1.take m1
  have lp : p.length ≤ 30 := by rw [← hp, List.length_take]; omega
  have lq : q.length ≤ 30 := by rw [← hq, List.length_take]; omega
  rw [hp, hq, if_pos (by omega), if_pos (by omega), if_pos (by simp; omega), get_f 30 p Bp (by omega) (by decide)]
  simp only [Option.bind_some]
  rw [if_pos (by simp; omega), if_pos (by omega), if_pos (by omega), if_pos (by omega), get_f 30 (p ++ q) (Bp.app Bq) (by simp; omega) (by decide)]
  simp only [Option.bind_some]
  obtain ⟨⟨n, s, e⟩, hg⟩ : ∃ r, gets p 0 0 = r := ⟨_, rfl⟩
  rw [hg]
  by_cases he : e = 2
  · subst he
    obtain ⟨v, hv, hpos⟩ := gets_one p 0 0 Bp (by rw [hg]) (by decide) (by decide)
    have hz := gets_err hg
    rw [if_pos rfl, if_pos (by simp; omega), if_pos (by omega), get_f 30 (p ++ [1]) (Bp.app (fun x hx => by simp at hx; omega)) (by simp; omega) (by decide), hv]
    simp only [Option.bind_some, if_true]
    obtain ⟨rfl, rfl⟩ : n = 0 ∧ s = 0 := by rcases hz with hz | hz; exact absurd hz (by decide); exact ⟨hz.1, hz.2.1⟩
    rw [if_pos rfl, if_pos rfl, if_pos (by rw [wrap64_id _ (by omega) (by omega)]; simp), decide_eq_true (by omega)]
  · rw [if_neg he, gets_more q p 0 0 (by rw [hg]; exact he) (by decide), hg]
    simp
end Go.Proofs.Ytemgidhelpacaaa.Pure
