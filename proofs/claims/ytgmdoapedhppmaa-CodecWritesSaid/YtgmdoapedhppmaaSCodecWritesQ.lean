/- Steps of a region that draws its order, each told in one line. -/
import Derived.Test.YtgmdoapedhppmaaWTab
import Derived.Test.YtgmdoapedhppmaaWLast
import Derived.Test.YtgmdoapedhppmaaWMore
import Derived.Test.YtgmdoapedhppmaaWWords
namespace Go.Proofs.Ytgmdoapedhppmaa.PC
set_option linter.unusedVariables false
set_option linter.unusedSimpArgs false
open Go.RowKit Go.Proofs.YtgmdoapedhppmaaW.PrintWords Go.Proofs.YtgmdoapedhppmaaW.PrintLast Go.Proofs.YtgmdoapedhppmaaW.PrintMore
section
variable {P : Program} {ops : Array Oper} {Q : Exit → Act → World → Prop} {S : World → Prop} {ds : List Nat} {md : Region.Mode} {oi : Oper} {v : Value} {fuel : Nat} {l : Array Bool} {a a' : Act} {w : World}
/-- An operation that yields in every world; its value by computation. -/
theorem pj (i : Nat) (N : Option Tmp) (h : wpAnyLast P md ops Q S ds fuel (l.setIfInBounds i true) a' w) (hi : ops[i]? = some oi := by exact rfl) (hN : oi.dst = N := by exact rfl) (hc : anyB md ops l (l.setIfInBounds i true) i = true := by exact any_of HT_.out (by kernel_rfl))
    (hw : Region.wanted oi (yielded ops a.tmps) = true := by rfl) (hr : ∀ w', (execOp a.eval oi).run P w' = .ok (.value v) w' := by intro w'; go_simp; with_reducible rfl) (ha : a.put N v = a' := by simp only [Act.put, List.setIfInBounds_toArray, List.set_cons_zero, List.set_cons_succ, i64_w, i32_w]; rfl)
    (hQ : ∀ c a w, Q (.panic c) (a.put oi.dst v) w → Q (.panic c) a w := by exact fun _ _ _ h => h) : wpAnyLast P md ops Q S ds (fuel + 1) l a w := pure_ _ hi hN hc hQ (Or.inl ⟨hw, hr⟩) ha h
/-- The same, where more of its values is to be computed. -/
theorem pl (i : Nat) (N : Option Tmp) (h : wpAnyLast P md ops Q S ds fuel (l.setIfInBounds i true) a' w) (hi : ops[i]? = some oi := by exact rfl) (hN : oi.dst = N := by exact rfl) (hc : anyB md ops l (l.setIfInBounds i true) i = true := by exact any_of HT_.out (by kernel_rfl))
    (hw : Region.wanted oi (yielded ops a.tmps) = true := by rfl) (hr : ∀ w', (execOp a.eval oi).run P w' = .ok (.value v) w' := by intro w'; go_simp; all_goals with_reducible rfl) (ha : a.put N v = a' := by simp only [Act.put, List.setIfInBounds_toArray, List.set_cons_zero, List.set_cons_succ] <;> rfl)
    (hQ : ∀ c a w, Q (.panic c) (a.put oi.dst v) w → Q (.panic c) a w := by exact fun _ _ _ h => h) : wpAnyLast P md ops Q S ds (fuel + 1) l a w := pure_ _ hi hN hc hQ (Or.inl ⟨hw, hr⟩) ha h
/-- The same, its value shown by hand. -/
theorem pk (i : Nat) (N : Option Tmp) (hi : ops[i]? = some oi) (hN : oi.dst = N) (hr : ∀ w', (execOp a.eval oi).run P w' = .ok (.value v) w') (h : wpAnyLast P md ops Q S ds fuel (l.setIfInBounds i true) a' w) (hc : anyB md ops l (l.setIfInBounds i true) i = true := by exact any_of HT_.out (by kernel_rfl))
    (hw : Region.wanted oi (yielded ops a.tmps) = true := by rfl) (ha : a.put N v = a' := by simp only [Act.put, List.setIfInBounds_toArray, List.set_cons_zero, List.set_cons_succ, i64_w, i32_w] <;> rfl)
    (hQ : ∀ c a w, Q (.panic c) (a.put oi.dst v) w → Q (.panic c) a w := by exact fun _ _ _ h => h) : wpAnyLast P md ops Q S ds (fuel + 1) l a w := pure_ _ hi hN hc hQ (Or.inl ⟨hw, hr⟩) ha h
/-- An operation that is not wanted. -/
theorem oj (i : Nat) (N : Option Tmp) (h : wpAnyLast P md ops Q S ds fuel (l.setIfInBounds i true) a' w) (hi : ops[i]? = some oi := by exact rfl) (hN : oi.dst = N := by exact rfl) (hc : anyB md ops l (l.setIfInBounds i true) i = true := by exact any_of HT_.out (by kernel_rfl))
    (hw : Region.wanted oi (yielded ops a.tmps) = false := by rfl) (ha : a.put N undef = a' := by simp only [Act.put, List.setIfInBounds_toArray, List.set_cons_zero, List.set_cons_succ, i64_w, i32_w] <;> rfl)
    (hQ : ∀ c a w, Q (.panic c) (a.put oi.dst undef) w → Q (.panic c) a w := by exact fun _ _ _ h => h) : wpAnyLast P md ops Q S ds (fuel + 1) l a w := pure_ _ hi hN hc hQ (Or.inr ⟨hw, rfl⟩) ha h
/-- An operation that yields where S holds, its value shown by hand. -/
theorem qj (i : Nat) (N : Option Tmp) (hi : ops[i]? = some oi) (hN : oi.dst = N) (hr : ∀ w', S w' → (execOp a.eval oi).run P w' = .ok (.value v) w') (h : wpAnyLast P md ops Q S ds fuel (l.setIfInBounds i true) a' w)
    (hc : takeB md ops ds l (l.setIfInBounds i true) i = true := by exact take_ofW HT_.out HW_.out (by kernel_rfl)) (hS : S w := by exact hHeld) (hw : Region.wanted oi (yielded ops a.tmps) = true := by rfl) (ha : a.put N v = a' := by simp only [Act.put, List.setIfInBounds_toArray, List.set_cons_zero, List.set_cons_succ, i64_w, i32_w] <;> rfl)
    (hQ : ∀ c a w, Q (.panic c) (a.put oi.dst v) w → Q (.panic c) a w := by exact fun _ _ _ h => h) : wpAnyLast P md ops Q S ds (fuel + 1) l a w := take_ _ hi hN hc hQ (Or.inl ⟨hw, hr⟩) hS ha h
end
end Go.Proofs.Ytgmdoapedhppmaa.PC
namespace Go.Proofs.Ytgmdoapedhppmaa
set_option linter.unusedVariables false
theorem q_0 {p : Prop} (h : p := by (try simp only [List.map_toArray, List.map_cons, List.map_nil]); first | done | rfl | (simp only [List.length_drop, List.length_take]; rfl) | (rw [IntKind.wrap_u64, Int.emod_eq_of_lt (by omega) (by omega)]; rfl)) : p := h
theorem q_1 {p : Prop} (h : p := by repeat (first | (with_reducible first | exact HB.out | apply below_alloc | apply pw_below_drewN | apply below_drew1) | exact HB.out)) : p := h
theorem q_2 {p : Prop} (h : p := by first | (with_reducible assumption) | assumption) : p := h
theorem q_3 {p : Prop} (h : p := by first | exact ((HB.out.cell (World.block_lt_of_cell? w _ hw185_2)).trans hw185_2) | exact hx185_2 | exact (((HB.out.cell (World.block_lt_of_cell? w _ hw185_2)).trans hw185_2)).trans (by rw [← Nbq31.out]) | (have h_ := ((HB.out.cell (World.block_lt_of_cell? w _ hw185_2)).trans hw185_2); simp only [*] at h_; exact h_)) : p := h
theorem q_4 {p : Prop} (h : p := by first | exact ((HB.out.cell (World.block_lt_of_cell? w _ hw186_2)).trans hw186_2) | exact hx186_2 | exact (((HB.out.cell (World.block_lt_of_cell? w _ hw186_2)).trans hw186_2)).trans (by rw [← Nbq31.out]) | (have h_ := ((HB.out.cell (World.block_lt_of_cell? w _ hw186_2)).trans hw186_2); simp only [*] at h_; exact h_)) : p := h
theorem q_5 {p : Prop} (h : p := by intro w'; go_simp; all_goals with_reducible rfl) : p := h
theorem q_6 {p : Prop} (h : p := by (with_reducible repeat (first | refine blk_drewN ?_ _ | refine blk_drew ?_ | refine blk_alloc ?_ _)); exact BK113.out) : p := h
theorem q_7 {p : Prop} (h : p := by first | exact ((HB.out.cell (World.block_lt_of_cell? w _ hw185_0)).trans hw185_0) | exact hx185_0 | (have h_ := ((HB.out.cell (World.block_lt_of_cell? w _ hw185_0)).trans hw185_0); simp only [*] at h_; exact h_)) : p := h
theorem q_8 {p : Prop} (h : p := by first | exact ((HB.out.cell (World.block_lt_of_cell? w _ hw185_1)).trans hw185_1) | exact hx185_1 | (have h_ := ((HB.out.cell (World.block_lt_of_cell? w _ hw185_1)).trans hw185_1); simp only [*] at h_; exact h_)) : p := h
theorem q_9 {p : Prop} (h : p := by first | exact ((HB.out.cell (World.block_lt_of_cell? w _ hw185_3)).trans hw185_3) | exact hx185_3 | (have h_ := ((HB.out.cell (World.block_lt_of_cell? w _ hw185_3)).trans hw185_3); simp only [*] at h_; exact h_)) : p := h
theorem q_10 {p : Prop} (h : p := by first | exact ((HB.out.cell (World.block_lt_of_cell? w _ hw186_0)).trans hw186_0) | exact hx186_0 | (have h_ := ((HB.out.cell (World.block_lt_of_cell? w _ hw186_0)).trans hw186_0); simp only [*] at h_; exact h_)) : p := h
theorem q_11 {p : Prop} (h : p := by first | exact ((HB.out.cell (World.block_lt_of_cell? w _ hw186_1)).trans hw186_1) | exact hx186_1 | (have h_ := ((HB.out.cell (World.block_lt_of_cell? w _ hw186_1)).trans hw186_1); simp only [*] at h_; exact h_)) : p := h
theorem q_12 {p : Prop} (h : p := by first | exact ((HB.out.cell (World.block_lt_of_cell? w _ hw186_3)).trans hw186_3) | exact hx186_3 | (have h_ := ((HB.out.cell (World.block_lt_of_cell? w _ hw186_3)).trans hw186_3); simp only [*] at h_; exact h_)) : p := h
theorem q_13 {p : Prop} (h : p := by repeat (first | (with_reducible first | exact HB.out | apply below_alloc | apply pw_below_drewN | apply below_drew1 | refine below_set ?_ GE191.out) | exact HB.out)) : p := h
theorem q_14 {p : Prop} (h : p := by rintro w' s0; have z40 := (blk_cell (blk_below BK4.out s0) 0).trans rfl; have z41 := (blk_cell (blk_below BK4.out s0) 1).trans rfl; have ca := own_string (P := Try.prog) Try.underlying32 Try.underlying5 Try.underlying9 (Kd.own_of_R (Kd.R_below YA.out s0)); have cb := own_string (P := Try.prog) Try.underlying32 Try.underlying5 Try.underlying9 (Kd.own_of_R (Kd.R_below YB.out s0)); go_simp; all_goals with_reducible rfl) : p := h
theorem q_15 {p : Prop} (h : p := by (with_reducible repeat (first | refine blk_drewN ?_ _ | refine blk_drew ?_ | refine blk_alloc ?_ _)); exact BK216.out) : p := h
theorem q_16 {p : Prop} (h : p := by first | rfl | (simp; done) | (simp [*]; done)) : p := h
theorem q_17 {p : Prop} (h : p := by (with_reducible repeat (first | refine blk_drewN ?_ _ | refine blk_drew ?_ | refine blk_alloc ?_ _)); exact BK122.out) : p := h
theorem q_18 {p : Prop} (h : p := by (with_reducible repeat (first | refine blk_drewN ?_ _ | refine blk_drew ?_ | refine blk_alloc ?_ _)); exact BK191.out) : p := h
theorem q_19 {p : Prop} (h : p := by rintro w' s0; have z40 := (blk_cell (blk_below BK4.out s0) 0).trans rfl; have z41 := (blk_cell (blk_below BK4.out s0) 1).trans rfl; have z60 := (blk_cell (blk_below BK6.out s0) 0).trans rfl; have z61 := (blk_cell (blk_below BK6.out s0) 1).trans rfl; have z70 := (blk_cell (blk_below BK7.out s0) 0).trans rfl; have z71 := (blk_cell (blk_below BK7.out s0) 1).trans rfl; go_simp; all_goals with_reducible rfl) : p := h
theorem q_20 {p : Prop} (h : p := by repeat (first | (with_reducible first | exact HB.out | apply below_alloc | apply pw_below_drewN | apply below_drew1 | refine below_set ?_ GE113.out | refine below_set ?_ GE122.out | refine below_set ?_ GE130.out) | exact HB.out)) : p := h
theorem q_21 {p : Prop} (h : p := by first | exact ((HB.out.cell (World.block_lt_of_cell? w _ hw200_0)).trans hw200_0) | exact hx200_0 | (have h_ := ((HB.out.cell (World.block_lt_of_cell? w _ hw200_0)).trans hw200_0); simp only [*] at h_; exact h_)) : p := h
theorem q_22 {p : Prop} (h : p := by first | exact ((HB.out.cell (World.block_lt_of_cell? w _ hw200_1)).trans hw200_1) | exact hx200_1 | (have h_ := ((HB.out.cell (World.block_lt_of_cell? w _ hw200_1)).trans hw200_1); simp only [*] at h_; exact h_)) : p := h
theorem q_23 {p : Prop} (h : p := by first | exact ((HB.out.cell (World.block_lt_of_cell? w _ hw200_2)).trans hw200_2) | exact hx200_2 | (have h_ := ((HB.out.cell (World.block_lt_of_cell? w _ hw200_2)).trans hw200_2); simp only [*] at h_; exact h_)) : p := h
theorem q_24 {p : Prop} (h : p := by first | exact ((HB.out.cell (World.block_lt_of_cell? w _ hw201_0)).trans hw201_0) | exact hx201_0 | (have h_ := ((HB.out.cell (World.block_lt_of_cell? w _ hw201_0)).trans hw201_0); simp only [*] at h_; exact h_)) : p := h
theorem q_25 {p : Prop} (h : p := by first | exact ((HB.out.cell (World.block_lt_of_cell? w _ hw201_1)).trans hw201_1) | exact hx201_1 | (have h_ := ((HB.out.cell (World.block_lt_of_cell? w _ hw201_1)).trans hw201_1); simp only [*] at h_; exact h_)) : p := h
theorem q_26 {p : Prop} (h : p := by first | exact ((HB.out.cell (World.block_lt_of_cell? w _ hw201_2)).trans hw201_2) | exact hx201_2 | (have h_ := ((HB.out.cell (World.block_lt_of_cell? w _ hw201_2)).trans hw201_2); simp only [*] at h_; exact h_)) : p := h
theorem q_27 {p : Prop} (h : p := by (with_reducible repeat (first | refine blk_drewN ?_ _ | refine blk_drew ?_ | refine blk_alloc ?_ _)); exact BK220.out) : p := h
theorem q_28 {p : Prop} (h : p := by repeat (first | (with_reducible first | exact HB.out | apply below_alloc | apply pw_below_drewN | apply below_drew1 | refine below_set ?_ GE216.out | refine below_set ?_ GE220.out) | exact HB.out)) : p := h
theorem q_29 {p : Prop} (h : p := by repeat (first | (with_reducible first | exact HB.out | apply below_alloc | apply pw_below_drewN | apply below_drew1 | refine below_set ?_ GE177.out) | exact HB.out)) : p := h
theorem q_30 {p : Prop} (h : p := by (with_reducible repeat (first | apply Kd.R_alloc | apply Kd.R_drewN | apply Kd.R_drew)); exact HO179.out) : p := h
theorem q_31 {p : Prop} (h : p := by (try simp only [List.map_toArray, List.map_cons, List.map_nil]); first | done | (simp only [hji21]; rfl) | rfl | (simp only [List.length_drop, List.length_take]; rfl) | (rw [IntKind.wrap_u64, Int.emod_eq_of_lt (by omega) (by omega)]; rfl)) : p := h
theorem q_32 {p : Prop} (h : p := by repeat (first | (with_reducible first | exact HB.out | apply below_alloc | apply pw_below_drewN | apply below_drew1 | refine below_set ?_ GE113.out | refine below_set ?_ GE122.out) | exact HB.out)) : p := h
theorem q_33 {p : Prop} (h : p := by repeat (first | (with_reducible first | exact HB.out | apply below_alloc | apply pw_below_drewN | apply below_drew1 | refine below_set ?_ GE193.out | refine below_set ?_ GE202.out) | exact HB.out)) : p := h
theorem q_34 {p : Prop} (h : p := by (try simp only [List.map_toArray, List.map_cons, List.map_nil]); first | done | rfl) : p := h
theorem q_35 {p : Prop} (h : p := by (with_reducible repeat (first | refine blk_drewN ?_ _ | refine blk_drew ?_ | refine blk_alloc ?_ _)); exact BK193.out) : p := h
theorem q_36 {p : Prop} (h : p := by (with_reducible repeat (first | apply Kd.R_alloc | apply Kd.R_drewN | apply Kd.R_drew)); exact HO183.out) : p := h
theorem q_37 {p : Prop} (h : p := by repeat (first | (with_reducible first | exact HB.out | apply below_alloc | apply pw_below_drewN | apply below_drew1 | refine below_set ?_ GE193.out) | exact HB.out)) : p := h
theorem q_38 {p : Prop} (h : p := by (with_reducible repeat (first | refine blk_drewN ?_ _ | refine blk_drew ?_ | refine blk_alloc ?_ _)); exact BK177.out) : p := h
theorem q_39 {p : Prop} (h : p := by repeat (first | (with_reducible first | exact HB.out | apply below_alloc | apply pw_below_drewN | apply below_drew1 | refine below_set ?_ GE193.out | refine below_set ?_ GE202.out | refine below_set ?_ GE211.out) | exact HB.out)) : p := h
theorem q_40 {p : Prop} (h : p := by repeat (first | (with_reducible first | exact HB.out | apply below_alloc | apply pw_below_drewN | apply below_drew1 | refine below_set ?_ GE216.out | refine below_set ?_ GE220.out | refine below_set ?_ GE224.out) | exact HB.out)) : p := h
theorem q_41 {p : Prop} (h : p := by (with_reducible repeat (first | apply Kd.R_alloc | apply Kd.R_drewN | apply Kd.R_drew)); exact HO187.out) : p := h
theorem q_42 {p : Prop} (h : p := by (with_reducible repeat (first | apply Kd.S_alloc | apply Kd.S_drewN | apply Kd.S_drew)); exact HO191.out) : p := h
theorem q_43 {p : Prop} (h : p := by rintro w' ⟨s0, s1, s2, s3⟩; go_simp; with_reducible rfl) : p := h
theorem q_44 {p : Prop} (h : p := by rintro w' ⟨s0, s1, s2, s3, s4, s5, s6, s7⟩; go_simp; with_reducible rfl) : p := h
theorem q_45 {p : Prop} (h : p := by (with_reducible repeat (first | refine blk_drewN ?_ _ | refine blk_drew ?_ | refine blk_alloc ?_ _)); exact BK130.out) : p := h
theorem q_46 {p : Prop} (h : p := by repeat (first | (with_reducible first | exact HB.out | apply below_alloc | apply pw_below_drewN | apply below_drew1 | refine below_set ?_ GE113.out) | exact HB.out)) : p := h
theorem q_47 {p : Prop} (h : p := by repeat (first | (with_reducible first | exact HB.out | apply below_alloc | apply pw_below_drewN | apply below_drew1 | refine below_set ?_ GE216.out) | exact HB.out)) : p := h
theorem q_48 {p : Prop} (h : p := by (with_reducible repeat (first | apply Kd.R_alloc | apply Kd.R_drewN | apply Kd.R_drew)); exact HO196.out) : p := h
theorem q_49 {p : Prop} (h : p := by (with_reducible repeat (first | apply Kd.R_alloc | apply Kd.R_drewN | apply Kd.R_drew)); exact HO_5.out) : p := h
theorem q_50 {p : Prop} (h : p := by first | exact HK.out.1 | exact (show Kept w _ (fun k_ => P0_ k_) from by repeat (first | (with_reducible first | exact HK.out | apply Kept.alloc | apply Kept.drewN | apply Kept.drew) | exact HK.out)).1) : p := h
theorem q_51 {p : Prop} (h : p := by (with_reducible repeat (first | refine blk_drewN ?_ _ | refine blk_drew ?_ | refine blk_alloc ?_ _)); exact BK202.out) : p := h
theorem q_52 {p : Prop} (h : p := by (with_reducible repeat (first | apply Kd.S_alloc | apply Kd.S_drewN | apply Kd.S_drew)); exact HO200.out) : p := h
theorem q_53 {p : Prop} (h : p := by repeat (first | (with_reducible first | exact HB.out | apply below_alloc | apply pw_below_drewN | apply below_drew1 | refine below_set ?_ GE750.out) | exact HB.out)) : p := h
theorem q_54 {p : Prop} (h : p := by (with_reducible repeat (first | refine blk_drewN ?_ _ | refine blk_drew ?_ | refine blk_alloc ?_ _)); exact BK224.out) : p := h
theorem q_55 {p : Prop} (h : p := by rintro w' ⟨s0, s1, s2, s3, s4, s5⟩; go_simp; with_reducible rfl) : p := h
theorem q_56 {p : Prop} (h : p := by (with_reducible repeat (first | apply Kd.R_alloc | apply Kd.R_drewN | apply Kd.R_drew)); exact HO205.out) : p := h
theorem q_57 {p : Prop} (h : p := by (with_reducible repeat (first | apply Kd.R_alloc | apply Kd.R_drewN | apply Kd.R_drew)); exact HO209.out) : p := h
theorem q_58 {p : Prop} (h : p := by repeat (first | (with_reducible first | exact HK.out | apply Kept.alloc | apply Kept.drewN | apply Kept.drew) | exact HK.out)) : p := h
theorem q_59 {p : Prop} (h : p := by have := hg.most; omega) : p := h
theorem q_60 {p : Prop} (h : p := by (with_reducible repeat (first | refine blk_drewN ?_ _ | refine blk_drew ?_ | refine blk_alloc ?_ _)); exact BK166.out) : p := h
theorem q_61 {p : Prop} (h : p := by (with_reducible repeat (first | refine blk_drewN ?_ _ | refine blk_drew ?_ | refine blk_alloc ?_ _)); exact BK761.out) : p := h
theorem q_62 {p : Prop} (h : p := by (with_reducible repeat (first | refine blk_drewN ?_ _ | refine blk_drew ?_ | refine blk_alloc ?_ _)); exact BK755.out) : p := h
theorem q_63 {p : Prop} (h : p := by (with_reducible repeat (first | refine blk_drewN ?_ _ | refine blk_drew ?_ | refine blk_alloc ?_ _)); exact BK750.out) : p := h
theorem q_64 {p : Prop} (h : p := by (with_reducible repeat (first | refine blk_drewN ?_ _ | refine blk_drew ?_ | refine blk_alloc ?_ _)); exact BK174.out) : p := h
theorem q_65 {p : Prop} (h : p := by repeat (first | (with_reducible first | exact HB.out | apply below_alloc | apply pw_below_drewN | apply below_drew1 | refine below_set ?_ GE166.out) | exact HB.out)) : p := h
theorem q_66 {p : Prop} (h : p := by repeat (first | (with_reducible first | exact HB.out | apply below_alloc | apply pw_below_drewN | apply below_drew1 | refine below_set ?_ GE761.out) | exact HB.out)) : p := h
theorem q_67 {p : Prop} (h : p := by repeat (first | (with_reducible first | exact HB.out | apply below_alloc | apply pw_below_drewN | apply below_drew1 | refine below_set ?_ GE755.out) | exact HB.out)) : p := h
theorem q_68 {p : Prop} (h : p := by repeat (first | (with_reducible first | exact HB.out | apply below_alloc | apply pw_below_drewN | apply below_drew1 | refine below_set ?_ GE174.out) | exact HB.out)) : p := h
theorem q_69 {p : Prop} (h : p := by rw [List.length_append]; omega) : p := h
theorem q_70 {p : Prop} (h : p := by (with_reducible repeat (first | refine blk_drewN ?_ _ | refine blk_drew ?_ | refine blk_alloc ?_ _)); exact BK151.out) : p := h
theorem q_71 {p : Prop} (h : p := by (with_reducible repeat (first | refine blk_drewN ?_ _ | refine blk_drew ?_ | refine blk_alloc ?_ _)); exact BK211.out) : p := h
theorem q_72 {p : Prop} (h : p := by (with_reducible repeat (first | apply Kd.S_alloc | apply Kd.S_drewN | apply Kd.S_drew)); exact HO209.out) : p := h
theorem q_73 {p : Prop} (h : p := by simp only [putAll, Act.put, List.setIfInBounds_toArray, List.set_cons_zero, List.set_cons_succ]) : p := h
end Go.Proofs.Ytgmdoapedhppmaa
