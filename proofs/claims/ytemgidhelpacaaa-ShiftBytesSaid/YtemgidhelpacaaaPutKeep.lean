/- PutUint behind a row of one's own: what it answers, and that what lay there lies there still. -/
import Derived.Test.YtemgidhelpacaaaKeep
namespace Go.Proofs.Ytemgidhelpacaaa.Pure
set_option linter.unusedVariables false
open Go.RowKit Go.Proofs.Ytemgidhelpacaaa.PS Go.Proofs.YtemgidhelpacaaaW.PrintWords Go.Proofs.YtemgidhelpacaaaW.PrintLast Go.Proofs.YtemgidhelpacaaaW.PrintMore Go.Proofs.Ytemgidhelpacaaa.B
/-- Another row of bytes, at the head of block gb, apart from v's. -/
def Oth (lb : List Int) (gb : Nat) (v : Value) (wr : World) : Prop := lb = [] ∨ (gb < wr.heap.size ∧ Lies wr gb lb ∧ v.ownBlock ≠ some gb)
theorem oth_step {lb : List Int} {gb : Nat} {v v1 : Value} {W w1 : World} (h : Oth lb gb v W) (hg : W.grownBy w1 v.ownBlock) (hat : v1.ownBlock = v.ownBlock ∨ ∃ b, v1.ownBlock = some b ∧ W.heap.size ≤ b) : Oth lb gb v1 w1 := by
  rcases h with h | ⟨hlt, hL, hne⟩
  · exact .inl h
  · refine .inr ⟨Nat.lt_of_lt_of_le hlt hg.size, lies_block hL (hg.block gb hlt (fun e => hne e.symm)), ?_⟩
    rcases hat with hat | ⟨b, hb, hle⟩
    · rw [hat]; exact hne
    · rw [hb]; intro e; injection e with e; omega
/-- What holds at each round's head. -/
structure PutRel (w0 : World) (l0 : List Int) (n : Nat) (l : List Int) (g : Nat) (lb : List Int) (gb : Nat) (v : Value) (m : Nat) (acc : List Int) (wr : World) : Prop where
  eq : acc ++ puts m = l0 ++ puts n
  lt : m < 18446744073709551616
  room : acc.length + (puts m).length < 140737488355328
  pre : ∃ r, acc = l ++ r
  own : Kd.R (Kd.int .u8) 5 wr w0.heap.size (fun _ => True) v acc
  lies : Lies wr g l
  below : Below w0.heap.size w0 wr
  oth : Oth lb gb v wr
set_option maxHeartbeats 1000000 in
set_option maxRecDepth 100000 in
theorem put_keep (l0 : List Int) (n : Nat) (v : Value) (l : List Int) (g : Nat) (lb : List Int) (gb : Nat) (w0 w : World) (H : PutRel w0 l0 n l g lb gb v n l0 w) :
    Calls Try.prog 25 #[v, .int .u64 (n : Int)] w fun e w' => ∃ v', e = .returned v' ∧ Kd.R (Kd.int .u8) 5 w' w0.heap.size (fun _ => True) v' (l0 ++ puts n) ∧ Below w0.heap.size w0 w' ∧ Lies w' g l ∧ Oth lb gb v' w' := by
  have H' := Aside0.mk H
  clear H
  go_enter Try.func25, Try.ntmps25
  go_wp2
  go_loopw [0, 1] (fun v0 v1 wr => ∃ (acc : List Int) (m : Nat), v1 = .int .u64 (m : Int) ∧ Aside0 (PutRel w0 l0 n l g lb gb v0 m acc wr)) (fun _ v1 _ => (intOf v1).toNat)
  case atStart => exact ⟨l0, n, rfl, H'⟩
  case round =>
    clear H'
    obtain ⟨acc, m, rfl, R⟩ := hrel
    have HO := Aside0.mk R.out.own
    by_cases hm : m < 128
    · have c0 : (((m : Int) / 128) == 0) = true := beq_iff_eq.mpr (by omega)
      have c1 : (((m : Int) / 128) != 0) = false := bne_eq_false_iff_eq.mpr (by omega)
      have hp := puts_lo hm
      have HP := Aside0.mk hp
      have HM := Aside0.mk hm
      clear hm hp
      go_wp2_with (first | ((with_reducible refine gate_builtin (b := .append) (xs := #[.tmp 16, .tmp 19]) rfl ?_); at_builtin; refine u8_append_keep (w0 := w0) w0.heap.size rfl (.tmp 16) (.tmp 19) 33 5 rfl Try.underlying33 info5 u0 acc ((m : Int) % 256) (fun _ => True) rfl rfl (fun _ _ => trivial) HO.out ?aB ?aS ?aL ?_; (case aB => exact R.out.below); (case aS => exact R.out.below.size); (case aL => have := R.out.room; have := puts_pos m; omega); intro v1 w1 ho hb hg hat hk; have HO1 := Aside0.mk ho; have HB1 := Aside0.mk hb; have HG := Aside0.mk hg; have HK := Aside0.mk hk; have HT := Aside0.mk hat; clear ho hb hg hat hk))
      go_ret
      have e : acc ++ [(m : Int) % 256] = l0 ++ puts n := by rw [← R.out.eq, HP.out]; have := HM.out; rw [show (m : Int) % 256 = m by omega]
      refine ⟨v1, rfl, by rw [← e]; exact HO1.out, HB1.out, lies_step R.out.lies HO1.out ?_ HG.out HK.out, oth_step R.out.oth HG.out HT.out⟩
      obtain ⟨r, hr⟩ := R.out.pre
      exact ⟨r ++ [(m : Int) % 256], by rw [hr, List.append_assoc]⟩
    · have c0 : (((m : Int) / 128) == 0) = false := beq_eq_false_iff_ne.mpr (by omega)
      have c1 : (((m : Int) / 128) != 0) = true := bne_iff_ne.mpr (by omega)
      have hp := puts_hi hm
      have HP := Aside0.mk hp
      have HM := Aside0.mk hm
      have hlt := R.out.lt
      have HLT := Aside0.mk hlt
      clear hm hp hlt
      go_wp2_with (first | ((with_reducible refine gate_builtin (b := .append) (xs := #[.tmp 10, .tmp 14]) rfl ?_); at_builtin; refine u8_append_keep (w0 := w0) w0.heap.size rfl (.tmp 10) (.tmp 14) 33 5 rfl Try.underlying33 info5 u0 acc (Go.bits .or .u8 ((m : Int) % 256) 128) (fun _ => True) rfl rfl (fun _ _ => trivial) HO.out ?aB ?aS ?aL ?_; (case aB => exact R.out.below); (case aS => exact R.out.below.size); (case aL => have := R.out.room; have := puts_pos m; omega); intro v1 w1 ho hb hg hat hk; have HO1 := Aside0.mk ho; have HB1 := Aside0.mk hb; have HG := Aside0.mk hg; have HK := Aside0.mk hk; have HT := Aside0.mk hat; clear ho hb hg hat hk))
      go_roundw
      case measure => have := HM.out; simp [intOf]; omega
      case rel =>
        have hm := HM.out
        have e : Go.bits .or .u8 ((m : Int) % 256) 128 = ((m % 128 + 128 : Nat) : Int) := by rw [or128_at _ (by omega) (by omega)]; omega
        have hr := R.out.room
        rw [HP.out] at hr
        simp only [List.length_cons] at hr
        refine ⟨acc ++ [Go.bits .or .u8 ((m : Int) % 256) 128], m / 128, by first | rfl | simp, ⟨⟨?_, by have := HLT.out; omega, by simp only [List.length_append, List.length_cons, List.length_nil]; omega, ?_, HO1.out, lies_step R.out.lies HO1.out ?_ HG.out HK.out, HB1.out, oth_step R.out.oth HG.out HT.out⟩⟩⟩
        · rw [← R.out.eq, HP.out, e, List.append_assoc]; rfl
        · obtain ⟨r, hr⟩ := R.out.pre
          exact ⟨r ++ [Go.bits .or .u8 ((m : Int) % 256) 128], by rw [hr, List.append_assoc]⟩
        · obtain ⟨r, hr⟩ := R.out.pre
          exact ⟨r ++ [Go.bits .or .u8 ((m : Int) % 256) 128], by rw [hr, List.append_assoc]⟩
end Go.Proofs.Ytemgidhelpacaaa.Pure
