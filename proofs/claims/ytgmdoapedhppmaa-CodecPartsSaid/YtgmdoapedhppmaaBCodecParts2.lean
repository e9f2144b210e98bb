/- Texts of this session in one: HEpoch, HNum, HGet, HCode, HOrder, HCode2, HDecode2, HDecode, HCode3, HShown, HFewRows, HFew, HOpen, HOpen2, HCode4, HParts. Plain functions, and that the program's come to them. -/
import Derived.Test.YtgmdoapedhppmaaWWords
import Derived.Deep.Slices
import Derived.SizedLaws
import Derived.ChangeArms
import Derived.WideShapes
import Derived.Test.YtgmdoapedhppmaaBCodecParts0
import Derived.Test.YtgmdoapedhppmaaBCodecParts1

namespace Go.Proofs.Ytgmdoapedhppmaa.PC
set_option linter.unusedVariables false
set_option linter.unusedSimpArgs false
open Go.RowKit Go.Proofs.YtgmdoapedhppmaaW.PrintWords Go.Proofs.YtgmdoapedhppmaaW.PrintLast Go.Proofs.YtgmdoapedhppmaaW.PrintMore
attribute [local go_sem] max2_int min2_int max_two min_two max_three min_three max_four min_four
def takeChangesL (k : Nat) : Nat → S28 → List S50 → List Int → Option (Except Int (List S50 × List Int))
  | 0, _, acc, l => some (.ok (acc, l))
  | n + 1, last, acc, l => (takeKey k last l).bind fun q => match q with
    | .error c => some (.error c)
    | .ok (key, l1) => (takeN k 0 257 l1).bind fun q => match q with
      | .error c => some (.error c)
      | .ok (m, l2) => match takeB (mx (m - 1) 0) l2 with
        | .error c => some (.error c)
        | .ok (v, l3) => takeChangesL k n key (acc ++ [⟨key, m == 0, v⟩]) l3
def takeTxnsL (k : Nat) (N : Int) : Nat → Int → List S47 → List Int → Option (Except Int (List S47 × List Int))
  | 0, _, acc, l => some (.ok (acc, l))
  | n + 1, last, acc, l => (takeN k 0 4294967295 l).bind fun q => match q with
    | .error c => some (.error c)
    | .ok (tid, l1) => if last < tid then (takeN k 1 32 l1).bind fun q => match q with
        | .error c => some (.error c)
        | .ok (m, l2) => (takeChangesL k m.toNat ⟨0, ⟨#[]⟩⟩ [] l2).bind fun q => match q with
          | .error c => some (.error c)
          | .ok (cs, l3) => takeTxnsL k N n tid (acc ++ [⟨N * 4294967296 + tid, cs⟩]) l3
      else some (.error 3)
def takeEpoch (k : Nat) (l : List Int) : Option (Except Int ((Int × List S47) × List Int)) :=
  (takeN k 1 4294967295 l).bind fun q => match q with
    | .error c => some (.error c)
    | .ok (N, l1) => (takeN k 0 64 l1).bind fun q => match q with
      | .error c => some (.error c)
      | .ok (n, l2) => (takeTxnsL k N n.toNat (-1) [] l2).bind fun q => match q with
        | .error c => some (.error c)
        | .ok (xs, l3) => some (.ok ((N, xs), l3))
set_option maxRecDepth 100000 in
set_option maxHeartbeats 4000000 in
theorem epoch_calls (k : Nat) : EpochCalls (takeEpoch k) := by
  intro w0 w g l q hR hB hg hq
  have HR := Aside0.mk hR
  have HB0 := Aside0.mk hB
  have GL : Aside0 (g < w.heap.size) := ⟨by obtain ⟨_, _, hb, _⟩ := hR; exact blk_lt hb⟩
  obtain ⟨q1, hq1, hq2⟩ := Option.bind_eq_some_iff.1 (show (takeN k 1 4294967295 l).bind _ = some q from hq)
  have hgb : ∀ i, i = g → w0.heap.size ≤ i := fun i hi => by rw [hi]; exact hg
  have N1 := Aside0.mk hq1
  have N2 := Aside0.mk hq2
  clear hR hB hq hq1 hq2
  go_enter Try.func53, Try.ntmps53
  go_wp2_with (((with_reducible refine gate_dst (N := 2) rfl ?_); refine box_event ?hg (N := 2) ?hd (cs := #[.int .u32 0, .slice none 0 0]) (t := 25) ?hr ?_; (case hd => rfl); (case hg => rfl); (case hr => first | (go_simp; done) | (go_simp; rfl)); intro ge hge w1 hbox hb; have BE1 := Aside0.mk hbox; have HE := Aside0.mk hge; have HB1 := Aside0.mk hb; clear hb hbox hge))
  have hw1 : Aside0 (Below w0.heap.size w0 w1) := ⟨below_step HB0.out HB1.out⟩
  have hne1 : ¬ ge = g := by rw [HE.out]; have := GL.out; omega
  cases q1 with
  | error c =>
    obtain rfl : .error c = q := Option.some.inj N2.out
    refine (number_calls k 1 4294967295 _ w0 w1 g l (HR.out.stay (Stay.of_below (fun _ => False) HB1.out) id) hw1.out hg N1.out).mono ?_
    rintro e w2 ⟨ho, hs⟩
    obtain rfl := ho
    exact ⟨rfl, rfl, (Stay.of_below _ HB1.out).trans hs⟩
  | ok p1 =>
    obtain ⟨N, l1⟩ := p1
    have hn := takeN_ok N1.out (by decide) (by decide)
    refine (number_calls k 1 4294967295 _ w0 w1 g l (HR.out.stay (Stay.of_below (fun _ => False) HB1.out) id) hw1.out hg N1.out).mono ?_
    rintro e w2 ⟨⟨rfl, hr2⟩, hs⟩
    have R2 := Aside0.mk hr2
    have BE2 := Aside0.mk (hs.blk BE1.out hne1)
    have ST2 := Aside0.mk ((Stay.of_below (fun k => k = g) HB1.out).trans hs)
    obtain ⟨q2, hq1, hq2⟩ := Option.bind_eq_some_iff.1 (show (takeN k 0 64 l1).bind _ = some q from N2.out)
    clear hs hr2 N1 N2 BE1 HB1 hw1 HR
    have N1 := Aside0.mk hq1
    have N2 := Aside0.mk hq2
    clear hq1 hq2
    have hz0 : w2.cell? ⟨ge, 0, none⟩ = some (.int .u32 0) := (blk_cell BE2.out 0).trans rfl
    have hf0 := blk_frozen BE2.out 0
    obtain ⟨hn0, hn1⟩ := hn
    go_wp2_with fail
    have T3 : Aside0 (Stay (fun k => k = ge) w2 (w2.setCell ⟨ge, 0, none⟩ (.int .u32 N))) := ⟨(Stay.refl (fun k => k = ge) w2).set (.inl rfl) 0 _⟩
    have BE3 := Aside0.mk (blk_put (cs := #[.int .u32 0, .slice none 0 0]) BE2.out 0 (.int .u32 N) rfl)
    have R3 := Aside0.mk (R2.out.stay T3.out (fun e => hne1 e.symm))
    have ST3 : Aside0 (Stay (fun k => k = g) w (w2.setCell ⟨ge, 0, none⟩ (.int .u32 N))) := ⟨ST2.out.step T3.out (fun i hi => Or.inr (by rw [hi, HE.out]; exact Nat.le_refl _))⟩
    clear BE2 R2 ST2 T3 hz0 hf0
    generalize w2.setCell ⟨ge, 0, none⟩ (.int .u32 N) = w3 at BE3 R3 ST3 ⊢
    cases q2 with
    | error c =>
      obtain rfl : .error c = q := Option.some.inj N2.out
      refine (number_calls k 0 64 _ w0 w3 g l1 R3.out (ST3.out.below HB0.out hgb) hg N1.out).mono ?_
      rintro e w2 ⟨ho, hs⟩
      obtain rfl := ho
      exact ⟨rfl, rfl, ST3.out.trans hs⟩
    | ok p2 =>
    obtain ⟨n2, l2⟩ := p2
    have hm := takeN_ok N1.out (by decide) (by decide)
    obtain ⟨hm0, hm1⟩ := hm
    refine (number_calls k 0 64 _ w0 w3 g l1 R3.out (ST3.out.below HB0.out hgb) hg N1.out).mono ?_
    rintro e w4 ⟨⟨rfl, hr4⟩, hs⟩
    have R4 := Aside0.mk hr4
    have BE4 := Aside0.mk (hs.blk BE3.out hne1)
    have ST4 := Aside0.mk (ST3.out.trans hs)
    obtain ⟨q3, hq1, hq2⟩ := Option.bind_eq_some_iff.1 (show (takeTxnsL k N n2.toNat (-1) [] l2).bind _ = some q from N2.out)
    have TX := Aside0.mk hq1
    have FQ := Aside0.mk hq2
    clear hs hr4 BE3 R3 ST3 N1 N2 hq1 hq2
    go_wp2_with fail
    go_loopg [3, 15] n2.toNat (fun kq v3 v15 w' => ∃ (acc : List S47) (last : Int) (l' : List Int) (x15 : Int) (v : Value), v3 = .int .i64 last ∧ v15 = .int .i64 x15 ∧ Aside0 (n2 - x15 = (kq : Int)) ∧ 0 ≤ x15 ∧ x15 ≤ n2 ∧ -1 ≤ last ∧ last ≤ 4294967295 ∧ Aside0 (acc.length + kq ≤ 64) ∧ Aside0 (takeTxnsL k N kq last acc l' = some q3) ∧ Aside0 (Rd w0 w' g l') ∧ Aside0 (w'.heap[ge]? = some (.cells #[.int .u32 N, v] 25 (0, 0))) ∧ Aside0 (Kd.S k47 47 w' w.heap.size (fun _ => True) v acc) ∧ Aside0 (Stay (fun k => k = g) w w'))
    case atStart => exact ⟨[], -1, l2, 0, .slice none 0 0, rfl, rfl, ⟨by omega⟩, by omega, by omega, by omega, by omega, ⟨by simp; omega⟩, TX, R4, BE4, ⟨Kd.S_nil _ _ _ _ _⟩, ST4⟩
    case round =>
      clear TX R4 BE4 ST4
      obtain ⟨acc, last, l', x15, v, rfl, rfl, HX, hx0, hx1, hl0, hl1, HA, TX, R2, BE2, S2, ST2⟩ := hrel
      by_cases hp : x15 < n2
      · have dp : decide (x15 < n2) = true := decide_eq_true hp
        cases gk with
        | zero => exact absurd HX.out (by omega)
        | succ gk1 =>
          have H := TX.out
          clear TX
          simp only [takeTxnsL] at H
          obtain ⟨qk, hqk, H⟩ := Option.bind_eq_some_iff.1 H
          have QK := Aside0.mk hqk
          have Q3 := Aside0.mk H
          clear hqk H
          go_wp2_with fail
          cases qk with
          | error c =>
            obtain rfl : .error c = q3 := Option.some.inj Q3.out
            obtain rfl : .error c = q := Option.some.inj FQ.out
            refine (number_calls k 0 4294967295 _ w0 _ g l' R2.out (ST2.out.below HB0.out hgb) hg QK.out).mono ?_
            rintro e w3 ⟨ho, hs⟩
            obtain rfl := ho
            exact ⟨rfl, rfl, ST2.out.trans hs⟩
          | ok pk =>
          obtain ⟨tid, l1⟩ := pk
          obtain ⟨ht0, ht1⟩ := takeN_ok QK.out (by decide) (by decide)
          refine (number_calls k 0 4294967295 _ w0 _ g l' R2.out (ST2.out.below HB0.out hgb) hg QK.out).mono ?_
          rintro e w3 ⟨⟨rfl, hr3⟩, hs⟩
          have R3 := Aside0.mk hr3
          have BE3 := Aside0.mk (hs.blk BE2.out hne1)
          have S3 := Aside0.mk (S_stayT (by decide) S2.out R2.out hs)
          have ST3 := Aside0.mk (ST2.out.trans hs)
          clear R2 BE2 S2 ST2 hr3 hs QK
          go_wp2_with fail
          by_cases hlt : last < tid
          case neg =>
            have dl : decide (last < tid) = false := decide_eq_false hlt
            have H := Q3.out
            simp only [if_neg hlt] at H
            obtain rfl : .error 3 = q3 := Option.some.inj H
            obtain rfl : .error 3 = q := Option.some.inj FQ.out
            rw [dl]
            refine (must_calls false _).mono ?_
            rintro e w4 ⟨he, hb⟩
            rw [if_neg (by decide)] at he
            subst he
            exact ⟨rfl, rfl, ST3.out.trans (Stay.of_below _ hb)⟩
          have dl : decide (last < tid) = true := decide_eq_true hlt
          have H := Q3.out
          simp only [if_pos hlt] at H
          obtain ⟨qm, hqm, H⟩ := Option.bind_eq_some_iff.1 H
          have QM := Aside0.mk hqm
          have Q4 := Aside0.mk H
          clear hqm H Q3
          rw [dl]
          refine (must_calls true _).mono ?_
          rintro e w4 ⟨he, hb⟩
          rw [if_pos rfl] at he
          subst he
          have R4 := Aside0.mk (R3.out.stay (Stay.of_below (fun _ => False) hb) id)
          have BE4 := Aside0.mk (blk_below BE3.out hb)
          have S4 := Aside0.mk (Kd.S_below S3.out hb)
          have ST4 := Aside0.mk (ST3.out.trans (Stay.of_below _ hb))
          clear R3 BE3 S3 ST3 hb dl hlt
          have hz0 : w4.cell? ⟨ge, 0, none⟩ = some (.int .u32 N) := (blk_cell BE4.out 0).trans rfl
          have hf0 := blk_frozen BE4.out 0
          have hor : Go.bits .or .u64 (N * 4294967296) tid = N * 4294967296 + tid := by
            have e32 : (2 : Int) ^ 32 = 4294967296 := by decide
            exact B.or_join 32 (N * 4294967296) tid (by omega) (by rw [e32]; omega) (by omega) (by omega) (by rw [e32]; omega) (by omega)
          go_wp2_with (first | ((with_reducible refine gate_dst (N := 5) rfl ?_); refine box_event ?hg (N := 5) ?hd (cs := #[.int .u64 0, .slice none 0 0]) (t := 47) ?hr ?_; (case hd => rfl); (case hg => rfl); (case hr => first | (go_simp; done) | (go_simp; rfl)); intro gt hgt w5 hbox hb; have BT5 := Aside0.mk hbox; have HGT := Aside0.mk hgt; have HB5 := Aside0.mk hb; have hz10 := (blk_cell hbox 0).trans rfl; have hz11 := (blk_cell hbox 1).trans rfl; have hf10 := blk_frozen hbox 0; have hf11 := blk_frozen hbox 1; clear hb hbox hgt) | ((with_reducible refine gate_dst (N := 6) rfl ?_); refine box_event ?hg (N := 6) ?hd (cs := #[.int .u8 0, .string (⟨#[]⟩ : ByteArray)]) (t := 28) ?hr ?_; (case hd => rfl); (case hg => rfl); (case hr => first | (go_simp; done) | (go_simp; rfl)); intro gh hgh w6 hbox hb; have BH6 := Aside0.mk hbox; have HGH := Aside0.mk hgh; have HB6 := Aside0.mk hb; clear hb hbox hgh))
          have T5 : Aside0 (Stay (fun k => k = gt) w5 ((w5.setCell ⟨gt, 0, none⟩ (.int .u64 (N * 4294967296 + tid))).setCell ⟨gt, 1, none⟩ (.slice none 0 0))) := ⟨((Stay.refl (fun k => k = gt) w5).set (.inl rfl) 0 _).set (.inl rfl) 1 _⟩
          obtain ⟨H0, hH0⟩ : ∃ n, n = w4.heap.size := ⟨_, rfl⟩
          have GT0 : Aside0 (gt = H0) := ⟨by rw [HGT.out, hH0]⟩
          have WH0 : Aside0 (w.heap.size ≤ H0) := ⟨by rw [hH0]; exact ST4.out.size⟩
          have GE0 : Aside0 (ge < H0) := ⟨by rw [hH0]; exact blk_lt BE4.out⟩
          have GG0 : Aside0 (g < H0) := ⟨by have := GL.out; have := WH0.out; omega⟩
          have S5 : Aside0 (Kd.S k47 47 w5 w.heap.size (fun k => k < H0) v acc) := ⟨Kd.S_mono (Kd.S_old S4.out HB5.out) (fun k hk => by rw [hH0]; exact hk.2)⟩
          have S5b : Aside0 (Kd.S k47 47 ((w5.setCell ⟨gt, 0, none⟩ (.int .u64 (N * 4294967296 + tid))).setCell ⟨gt, 1, none⟩ (.slice none 0 0)) w.heap.size (fun k => k < H0) v acc) := ⟨Kd.S_far (p := ⟨gt, 1, none⟩) (Kd.S_far (p := ⟨gt, 0, none⟩) S5.out (fun k hk e => by have := GT0.out; have e : k = gt := e; omega) _) (fun k hk e => by have := GT0.out; have e : k = gt := e; omega) _⟩
          have R5 := Aside0.mk ((R4.out.stay (Stay.of_below (fun _ => False) HB5.out) id).stay T5.out (fun e => by have := GG0.out; have := GT0.out; omega))
          have BE5 := Aside0.mk (T5.out.blk (blk_below BE4.out HB5.out) (by have := GE0.out; have := GT0.out; omega))
          have BT5b := Aside0.mk (blk_put (cs := #[.int .u64 (N * 4294967296 + tid), .slice none 0 0]) (blk_put (cs := #[.int .u64 0, .slice none 0 0]) BT5.out 0 (.int .u64 (N * 4294967296 + tid)) rfl) 1 (.slice none 0 0) rfl)
          have ST5 := Aside0.mk ((ST4.out.trans (Stay.of_below _ HB5.out)).step T5.out (fun i hi => Or.inr (by rw [hi, GT0.out]; exact WH0.out)))
          have SZ5 : Aside0 (H0 < w5.heap.size) := ⟨by have := blk_lt BT5.out; have := GT0.out; omega⟩
          have SZ5b : Aside0 (H0 < ((w5.setCell ⟨gt, 0, none⟩ (.int .u64 (N * 4294967296 + tid))).setCell ⟨gt, 1, none⟩ (.slice none 0 0)).heap.size) := ⟨Nat.lt_of_lt_of_le SZ5.out T5.out.size⟩
          clear hz0 hf0 hz10 hz11 hf10 hf11 S4 S5 R4 BE4 BT5 ST4 HB5 T5 hH0 HGT hor SZ5
          generalize (w5.setCell ⟨gt, 0, none⟩ (.int .u64 (N * 4294967296 + tid))).setCell ⟨gt, 1, none⟩ (.slice none 0 0) = w5b at S5b R5 BE5 BT5b ST5 SZ5b HB6 HGH ⊢
          have GH0 : Aside0 (H0 < gh) := ⟨by rw [HGH.out]; exact SZ5b.out⟩
          have S6 := Aside0.mk (Kd.S_below S5b.out HB6.out)
          have R6 := Aside0.mk (R5.out.stay (Stay.of_below (fun _ => False) HB6.out) id)
          have BE6 := Aside0.mk (blk_below BE5.out HB6.out)
          have BT6 := Aside0.mk (blk_below BT5b.out HB6.out)
          have ST6 := Aside0.mk (ST5.out.trans (Stay.of_below _ HB6.out))
          have hneh : ¬ gh = g := by have := GH0.out; have := GG0.out; omega
          clear S5b R5 BE5 BT5b ST5 SZ5b HB6 HGH
          cases qm with
          | error c =>
            obtain rfl : .error c = q3 := Option.some.inj Q4.out
            obtain rfl : .error c = q := Option.some.inj FQ.out
            refine (number_calls k 1 32 _ w0 _ g l1 R6.out (ST6.out.below HB0.out hgb) hg QM.out).mono ?_
            rintro e w3 ⟨ho, hs⟩
            obtain rfl := ho
            exact ⟨rfl, rfl, ST6.out.trans hs⟩
          | ok pm =>
          obtain ⟨m, l2⟩ := pm
          obtain ⟨hmm0, hmm1⟩ := takeN_ok QM.out (by decide) (by decide)
          refine (number_calls k 1 32 _ w0 _ g l1 R6.out (ST6.out.below HB0.out hgb) hg QM.out).mono ?_
          rintro e w7 ⟨⟨rfl, hr7⟩, hs⟩
          have R7 := Aside0.mk hr7
          have BE7 := Aside0.mk (hs.blk BE6.out hne1)
          have BT7 := Aside0.mk (hs.blk BT6.out (by have := GG0.out; have := GT0.out; omega))
          have BH7 := Aside0.mk (hs.blk BH6.out hneh)
          have S7 := Aside0.mk (S_stayT (by decide) S6.out R6.out hs)
          have ST7 := Aside0.mk (ST6.out.trans hs)
          clear R6 BE6 S6 ST6 BT6 BH6 hr7 hs QM
          obtain ⟨qc, hqc, H⟩ := Option.bind_eq_some_iff.1 (show (takeChangesL k m.toNat ⟨0, ⟨#[]⟩⟩ [] l2).bind _ = some q3 from Q4.out)
          have QC := Aside0.mk hqc
          have Q5 := Aside0.mk H
          clear hqc H Q4
          go_wp2_with fail
          obtain ⟨wo, hwo⟩ : ∃ wo : World, wo = wr := ⟨_, rfl⟩
          clear hwo
          go_loopg [34] m.toNat (fun kq v34 w' => ∃ (cs : List S50) (last2 : S28) (l' : List Int) (x34 : Int) (vc : Value), v34 = .int .i64 x34 ∧ Aside0 (m - x34 = (kq : Int)) ∧ 0 ≤ x34 ∧ x34 ≤ m ∧ Aside0 (cs.length + kq ≤ 32) ∧ Aside0 (takeChangesL k kq last2 cs l' = some qc) ∧ Aside0 (Rd w0 w' g l') ∧ Aside0 (w'.heap[ge]? = some (.cells #[.int .u32 N, v] 25 (0, 0))) ∧ Aside0 (w'.heap[gt]? = some (.cells #[.int .u64 (N * 4294967296 + tid), vc] 47 (0, 0))) ∧ Aside0 (w'.heap[gh]? = some (keyCells last2)) ∧ Aside0 (Kd.S k50 50 w' H0 (fun _ => True) vc cs) ∧ Aside0 (Kd.S k47 47 w' w.heap.size (fun k => k < H0) v acc) ∧ Aside0 (Stay (fun k => k = g) w w'))
          case atStart => exact ⟨[], ⟨0, ⟨#[]⟩⟩, l2, 0, .slice none 0 0, rfl, ⟨by omega⟩, by omega, by omega, ⟨by simp; omega⟩, QC, R7, BE7, BT7, BH7, ⟨Kd.S_nil _ _ _ _ _⟩, S7, ST7⟩
          case round =>
            clear QC R7 BE7 BT7 BH7 S7 ST7
            obtain ⟨cs, last2, l', x34, vc, rfl, HX2, hx20, hx21, HA2, QC, R2, BE2, BT2, BH2, SC2, S2, ST2⟩ := hrel
            by_cases hp2 : x34 < m
            · have dp2 : decide (x34 < m) = true := decide_eq_true hp2
              cases gk with
              | zero => exact absurd HX2.out (by omega)
              | succ gk2 =>
                have H := QC.out
                clear QC
                simp only [takeChangesL] at H
                obtain ⟨qk, hqk, H⟩ := Option.bind_eq_some_iff.1 H
                have QK := Aside0.mk hqk
                have Q6 := Aside0.mk H
                clear hqk H
                go_wp2_with fail
                cases qk with
                | error c =>
                  obtain rfl : .error c = qc := Option.some.inj Q6.out
                  obtain rfl : .error c = q3 := Option.some.inj Q5.out
                  obtain rfl : .error c = q := Option.some.inj FQ.out
                  refine (key_calls k last2 _ w0 _ g gh l' R2.out (ST2.out.below HB0.out hgb) hg (by have := GH0.out; have := WH0.out; have := HB0.out.size; omega) hneh BH2.out QK.out).mono ?_
                  rintro e w3 ⟨ho, hs, _⟩
                  obtain rfl := ho
                  exact ⟨rfl, rfl, ST2.out.step hs (fun i hi => hi.elim Or.inl (fun e => Or.inr (by have := GH0.out; have := WH0.out; omega)))⟩
                | ok pk =>
                obtain ⟨key, l1⟩ := pk
                refine (key_calls k last2 _ w0 _ g gh l' R2.out (ST2.out.below HB0.out hgb) hg (by have := GH0.out; have := WH0.out; have := HB0.out.size; omega) hneh BH2.out QK.out).mono ?_
                rintro e w8 ⟨⟨rfl, hr8⟩, hs, hl8⟩
                have R8 := Aside0.mk hr8
                have BE8 := Aside0.mk (hs.blk BE2.out (fun e => e.elim hne1 (fun e => by have := GE0.out; have := GH0.out; omega)))
                have BT8 := Aside0.mk (hs.blk BT2.out (fun e => e.elim (fun e => by have := GG0.out; have := GT0.out; omega) (fun e => by have := GT0.out; have := GH0.out; omega)))
                have BH8 := Aside0.mk (hl8 _ rfl)
                have SC8 := Aside0.mk (S_stay2T (by decide) (by decide) SC2.out R2.out BH2.out hs)
                have S8 := Aside0.mk (S_stay2T (by decide) (by decide) S2.out R2.out BH2.out hs)
                have ST8 : Aside0 (Stay (fun k => k = g) w w8) := ⟨ST2.out.step hs (fun i hi => hi.elim Or.inl (fun e => Or.inr (by have := GH0.out; have := WH0.out; omega)))⟩
                have SZ8 : Aside0 (gh < w8.heap.size) := ⟨blk_lt BH8.out⟩
                clear R2 BE2 BT2 BH2 SC2 S2 ST2 hr8 hs hl8 QK
                go_wp2_with (((with_reducible refine gate_dst (N := 7) rfl ?_); refine box_event ?hg (N := 7) ?hd (cs := #[.int .u8 0, .string (⟨#[]⟩ : ByteArray), .bool false, .string (⟨#[]⟩ : ByteArray)]) (t := 50) ?hr ?_; (case hd => rfl); (case hg => rfl); (case hr => first | (go_simp; done) | (go_simp; rfl)); intro gc hgc w9 hbox hb; have BC9 := Aside0.mk hbox; have HGC := Aside0.mk hgc; have HB9 := Aside0.mk hb; have hz0 := (blk_cell hbox 0).trans rfl; have hz1 := (blk_cell hbox 1).trans rfl; have hz2 := (blk_cell hbox 2).trans rfl; have hz3 := (blk_cell hbox 3).trans rfl; have hf0 := blk_frozen hbox 0; have hf1 := blk_frozen hbox 1; have hf2 := blk_frozen hbox 2; have hf3 := blk_frozen hbox 3; clear hb hbox hgc))
                have T9 : Aside0 (Stay (fun k => k = gc) w9 ((((w9.setCell ⟨gc, 0, none⟩ (.int .u8 key.f0)).setCell ⟨gc, 1, none⟩ (.string key.f1)).setCell ⟨gc, 2, none⟩ (.bool false)).setCell ⟨gc, 3, none⟩ (.string (⟨#[]⟩ : ByteArray)))) := ⟨((((Stay.refl (fun k => k = gc) w9).set (.inl rfl) 0 _).set (.inl rfl) 1 _).set (.inl rfl) 2 _).set (.inl rfl) 3 _⟩
                have BC10 := Aside0.mk (blk_put (cs := #[.int .u8 key.f0, .string key.f1, .bool false, .string (⟨#[]⟩ : ByteArray)]) (blk_put (cs := #[.int .u8 key.f0, .string key.f1, .bool false, .string (⟨#[]⟩ : ByteArray)]) (blk_put (cs := #[.int .u8 key.f0, .string (⟨#[]⟩ : ByteArray), .bool false, .string (⟨#[]⟩ : ByteArray)]) (blk_put (cs := #[.int .u8 0, .string (⟨#[]⟩ : ByteArray), .bool false, .string (⟨#[]⟩ : ByteArray)]) BC9.out 0 (.int .u8 key.f0) rfl) 1 (.string key.f1) rfl) 2 (.bool false) rfl) 3 (.string (⟨#[]⟩ : ByteArray)) rfl)
                have GC0 : Aside0 (gh < gc) := ⟨by rw [HGC.out]; exact SZ8.out⟩
                have SC9 := Aside0.mk (Kd.S_below (Kd.S_elderB SC8.out gc (by rw [HGC.out]; exact Nat.le_refl _)) HB9.out)
                have SC10 : Aside0 (Kd.S k50 50 ((((w9.setCell ⟨gc, 0, none⟩ (.int .u8 key.f0)).setCell ⟨gc, 1, none⟩ (.string key.f1)).setCell ⟨gc, 2, none⟩ (.bool false)).setCell ⟨gc, 3, none⟩ (.string (⟨#[]⟩ : ByteArray))) H0 (fun k => True ∧ k ≠ gc) vc cs) := ⟨S_stay SC9.out T9.out (fun k hk e => hk.2 e)⟩
                have S10 := Aside0.mk (S_stay (Kd.S_below S8.out HB9.out) T9.out (fun k hk e => by have := GC0.out; have := GH0.out; omega))
                have R10 := Aside0.mk ((R8.out.stay (Stay.of_below (fun _ => False) HB9.out) id).stay T9.out (fun e => by have := GC0.out; have := GH0.out; have := GG0.out; omega))
                have BE10 := Aside0.mk (T9.out.blk (blk_below BE8.out HB9.out) (by have := GC0.out; have := GH0.out; have := GE0.out; omega))
                have BT10 := Aside0.mk (T9.out.blk (blk_below BT8.out HB9.out) (by have := GC0.out; have := GH0.out; have := GT0.out; omega))
                have BH10 := Aside0.mk (T9.out.blk (blk_below BH8.out HB9.out) (by have := GC0.out; omega))
                have ST10 := Aside0.mk ((ST8.out.trans (Stay.of_below _ HB9.out)).step T9.out (fun i hi => Or.inr (by have := GC0.out; have := GH0.out; have := WH0.out; omega)))
                have hnec : ¬ gc = g := by have := GC0.out; have := GH0.out; have := GG0.out; omega
                clear hz0 hz1 hz2 hz3 hf0 hf1 hf2 hf3 SC8 SC9 S8 R8 BE8 BT8 BH8 ST8 SZ8 T9 BC9 HGC HB9
                generalize (((w9.setCell ⟨gc, 0, none⟩ (.int .u8 key.f0)).setCell ⟨gc, 1, none⟩ (.string key.f1)).setCell ⟨gc, 2, none⟩ (.bool false)).setCell ⟨gc, 3, none⟩ (.string (⟨#[]⟩ : ByteArray)) = w10 at BC10 SC10 S10 R10 BE10 BT10 BH10 ST10 ⊢
                obtain ⟨qn, hqn, H⟩ := Option.bind_eq_some_iff.1 (show (takeN k 0 257 l1).bind _ = some qc from Q6.out)
                have QN := Aside0.mk hqn
                have Q7 := Aside0.mk H
                clear hqn H Q6
                cases qn with
                | error c =>
                  obtain rfl : .error c = qc := Option.some.inj Q7.out
                  obtain rfl : .error c = q3 := Option.some.inj Q5.out
                  obtain rfl : .error c = q := Option.some.inj FQ.out
                  refine (number_calls k 0 257 _ w0 _ g l1 R10.out (ST10.out.below HB0.out hgb) hg QN.out).mono ?_
                  rintro e w3 ⟨ho, hs⟩
                  obtain rfl := ho
                  exact ⟨rfl, rfl, ST10.out.trans hs⟩
                | ok pn =>
                obtain ⟨n, l2⟩ := pn
                obtain ⟨hnn0, hnn1⟩ := takeN_ok QN.out (by decide) (by decide)
                refine (number_calls k 0 257 _ w0 _ g l1 R10.out (ST10.out.below HB0.out hgb) hg QN.out).mono ?_
                rintro e w11 ⟨⟨rfl, hr11⟩, hs⟩
                have R11 := Aside0.mk hr11
                have BC11 := Aside0.mk (hs.blk BC10.out hnec)
                have BE11 := Aside0.mk (hs.blk BE10.out hne1)
                have BT11 := Aside0.mk (hs.blk BT10.out (by have := GG0.out; have := GT0.out; omega))
                have BH11 := Aside0.mk (hs.blk BH10.out hneh)
                have SC11 := Aside0.mk (S_stayT (by decide) SC10.out R10.out hs)
                have S11 := Aside0.mk (S_stayT (by decide) S10.out R10.out hs)
                have ST11 := Aside0.mk (ST10.out.trans hs)
                clear R10 BC10 BE10 S10 SC10 ST10 BT10 BH10 hr11 hs QN
                have hz2 : w11.cell? ⟨gc, 2, none⟩ = some (.bool false) := (blk_cell BC11.out 2).trans rfl
                have hf2 := blk_frozen BC11.out 2
                have T11 : Aside0 (Stay (fun k => k = gc) w11 (w11.setCell ⟨gc, 2, none⟩ (.bool (n == 0)))) := ⟨(Stay.refl (fun k => k = gc) w11).set (.inl rfl) 2 _⟩
                have BC12 := Aside0.mk (blk_put (cs := #[.int .u8 key.f0, .string key.f1, .bool false, .string (⟨#[]⟩ : ByteArray)]) BC11.out 2 (.bool (n == 0)) rfl)
                have SC12 := Aside0.mk (S_stay SC11.out T11.out (fun k hk e => hk.2 e))
                have S12 := Aside0.mk (S_stay S11.out T11.out (fun k hk e => by have := GC0.out; have := GH0.out; omega))
                have R12 := Aside0.mk (R11.out.stay T11.out (fun e => hnec e.symm))
                have BE12 := Aside0.mk (T11.out.blk BE11.out (by have := GC0.out; have := GH0.out; have := GE0.out; omega))
                have BT12 := Aside0.mk (T11.out.blk BT11.out (by have := GC0.out; have := GH0.out; have := GT0.out; omega))
                have BH12 := Aside0.mk (T11.out.blk BH11.out (by have := GC0.out; omega))
                have ST12 : Aside0 (Stay (fun k => k = g) w (w11.setCell ⟨gc, 2, none⟩ (.bool (n == 0)))) := ⟨ST11.out.step T11.out (fun i hi => Or.inr (by have := GC0.out; have := GH0.out; have := WH0.out; omega))⟩
                have TB1 : Aside0 (1 ≤ n → mx (n - 1) 0 = n - 1) := ⟨fun h => by unfold mx; rw [if_neg (by omega)]⟩
                have TB0 : Aside0 (n < 1 → mx (n - 1) 0 = 0) := ⟨fun h => by unfold mx; rw [if_pos (by omega)]⟩
                have Q8a : ∀ qb, qb = takeB (mx (n - 1) 0) l2 → (match qb with | .error c => some (.error c) | .ok (v, l3) => takeChangesL k gk2 key (cs ++ [⟨key, n == 0, v⟩]) l3) = some qc := by rintro _ rfl; exact Q7.out
                obtain ⟨qb, hqb⟩ : ∃ qb, qb = takeB (mx (n - 1) 0) l2 := ⟨_, rfl⟩
                have Q8 := Aside0.mk (Q8a qb hqb)
                clear Q8a
                have QB := Aside0.mk hqb
                clear hqb Q7 R11 BC11 BE11 BT11 BH11 SC11 S11 ST11 T11
                go_wp2_with fail
                all_goals
                  clear hz2 hf2
                  generalize w11.setCell ⟨gc, 2, none⟩ (.bool (n == 0)) = w12 at R12 BC12 BE12 BT12 BH12 SC12 S12 ST12 ⊢
                  refine (bytes_calls _ (by omega) w0 _ g l2 R12.out (ST12.out.below HB0.out hgb) hg).mono ?_
                  rintro e w13 ⟨ho, hs⟩
                  replace ho : Out w0 g Value.string qb e w13 := by (rw [QB.out]; first | (rw [TB1.out (by omega)]; exact ho) | (rw [TB0.out (by omega)]; exact ho))
                  have HS := Aside0.mk hs
                  clear hs
                  cases qb with
                  | error c =>
                    obtain rfl : .error c = qc := Option.some.inj Q8.out
                    obtain rfl : .error c = q3 := Option.some.inj Q5.out
                    obtain rfl : .error c = q := Option.some.inj FQ.out
                    obtain rfl := ho
                    exact ⟨rfl, rfl, ST12.out.trans HS.out⟩
                  | ok pb =>
                  obtain ⟨vl, l3⟩ := pb
                  obtain ⟨rfl, hr13⟩ := ho
                  have R13 := Aside0.mk hr13
                  have BC13 := Aside0.mk (HS.out.blk BC12.out hnec)
                  have BE13 := Aside0.mk (HS.out.blk BE12.out hne1)
                  have BT13 := Aside0.mk (HS.out.blk BT12.out (by have := GG0.out; have := GT0.out; omega))
                  have BH13 := Aside0.mk (HS.out.blk BH12.out hneh)
                  have SC13 := Aside0.mk (S_stayT (by decide) SC12.out R12.out HS.out)
                  have S13 := Aside0.mk (S_stayT (by decide) S12.out R12.out HS.out)
                  have ST13 := Aside0.mk (ST12.out.trans HS.out)
                  clear R12 BC12 BE12 S12 SC12 ST12 BT12 BH12 hr13 HS QB TB0 TB1
                  have Q9 : Aside0 (takeChangesL k gk2 key (cs ++ [⟨key, n == 0, vl⟩]) l3 = some qc) := ⟨Q8.out⟩
                  have T13 : Aside0 (Stay (fun k => k = gc) w13 (w13.setCell ⟨gc, 3, none⟩ (.string vl))) := ⟨(Stay.refl (fun k => k = gc) w13).set (.inl rfl) 3 _⟩
                  have BC14 := Aside0.mk (blk_put (cs := #[.int .u8 key.f0, .string key.f1, .bool (n == 0), .string (⟨#[]⟩ : ByteArray)]) BC13.out 3 (.string vl) rfl)
                  have SC14 := Aside0.mk (S_stay SC13.out T13.out (fun k hk e => hk.2 e))
                  have S14 := Aside0.mk (S_stay S13.out T13.out (fun k hk e => by have := GC0.out; have := GH0.out; omega))
                  have R14 := Aside0.mk (R13.out.stay T13.out (fun e => hnec e.symm))
                  have BE14 := Aside0.mk (T13.out.blk BE13.out (by have := GC0.out; have := GH0.out; have := GE0.out; omega))
                  have BT14 := Aside0.mk (T13.out.blk BT13.out (by have := GC0.out; have := GH0.out; have := GT0.out; omega))
                  have BH14 := Aside0.mk (T13.out.blk BH13.out (by have := GC0.out; omega))
                  have ST14 : Aside0 (Stay (fun k => k = g) w (w13.setCell ⟨gc, 3, none⟩ (.string vl))) := ⟨ST13.out.step T13.out (fun i hi => Or.inr (by have := GC0.out; have := GH0.out; have := WH0.out; omega))⟩
                  have hz3 : w13.cell? ⟨gc, 3, none⟩ = some (.string (⟨#[]⟩ : ByteArray)) := (blk_cell BC13.out 3).trans rfl
                  have hf3 := blk_frozen BC13.out 3
                  clear R13 BC13 BE13 BT13 BH13 SC13 S13 ST13 T13 Q8
                  go_upto_region 16 with (fail)
                  clear hz3 hf3
                  generalize w13.setCell ⟨gc, 3, none⟩ (.string vl) = w14 at BC14 SC14 S14 R14 BE14 BT14 BH14 ST14 ⊢
                  have hzt1 : w14.cell? ⟨gt, 1, none⟩ = some vc := (blk_cell BT14.out 1).trans rfl
                  have hzc0 : w14.cell? ⟨gc, 0, none⟩ = some (.int .u8 key.f0) := (blk_cell BC14.out 0).trans rfl
                  have hzc1 : w14.cell? ⟨gc, 1, none⟩ = some (.string key.f1) := (blk_cell BC14.out 1).trans rfl
                  have hzc2 : w14.cell? ⟨gc, 2, none⟩ = some (.bool (n == 0)) := (blk_cell BC14.out 2).trans rfl
                  have hzc3 : w14.cell? ⟨gc, 3, none⟩ = some (.string vl) := (blk_cell BC14.out 3).trans rfl
                  go_wp2_with ((with_reducible refine gate_builtin (b := .append) (xs := #[.tmp 51, .tmp 53]) rfl ?_); at_builtin; refine Kd.S_append k50 (w0 := w14) H0 rfl (.tmp 51) (.tmp 53) 45 50 (.agg #[(.int .u8 0), (.string ⟨#[]⟩), (.bool false), (.string ⟨#[]⟩)]) 48 rfl Try.underlying45 info50 rfl (by decide) (by omega) vc cs (⟨key, n == 0, vl⟩ : S50) [.int .u8 key.f0, .string key.f1, .bool (n == 0), .string vl] (fun _ => True) (fun _ => False) rfl rfl ?aP (fun _ hk => hk.elim) ?aF ?aO ?aB ?aS ?aL ?_; (case aP => exact k50_mkM _ _ _ _); (case aF => exact (fun _ _ => trivial)); (case aO => exact Kd.S_mono SC14.out (fun _ _ => ⟨trivial, fun h => h⟩)); (case aB => exact Below.refl _ _); (case aS => exact Nat.le_of_lt (Nat.lt_trans GH0.out (blk_lt BH14.out))); (case aL => have := HA2.out; omega); intro v15 w15 ho hb hgw hat; have SC15 := Aside0.mk ho; have HGW := Aside0.mk hgw; clear ho hb hgw hat; have hzt1 : w15.cell? ⟨gt, 1, none⟩ = some vc := (blk_cell ((Stay.of_grown HGW.out).blk BT14.out (Kd.S_ne SC14.out BT14.out (by decide))) 1).trans rfl; have hft1 := blk_frozen ((Stay.of_grown HGW.out).blk BT14.out (Kd.S_ne SC14.out BT14.out (by decide))) 1; (obtain ⟨cs2, hcs2⟩ : ∃ c, c = cs ++ [(⟨key, n == 0, vl⟩ : S50)] := ⟨_, rfl⟩); rw [← hcs2] at SC15 Q9; have HC2 : Aside0 (cs2.length = cs.length + 1) := ⟨by rw [hcs2, List.length_append]; rfl⟩; clear hcs2; obtain ⟨A15, c15, rfl⟩ := Kd.S_slice SC15.out)
                  have G15 := Aside0.mk (Stay.of_grown HGW.out)
                  have hsb : Aside0 (∀ i, some i = vc.ownBlock → H0 ≤ i) := ⟨fun i hi => Kd.S_base SC14.out i hi.symm⟩
                  have S15 := Aside0.mk (S_stay S14.out G15.out (fun k hk e => by have := hsb.out k e; omega))
                  have R15 := Aside0.mk (R14.out.stay G15.out (by obtain ⟨A, c, hb, _⟩ := R14.out; exact Kd.S_ne SC14.out hb (by decide)))
                  have BE15 := Aside0.mk (G15.out.blk BE14.out (Kd.S_ne SC14.out BE14.out (by decide)))
                  have BT15 := Aside0.mk (G15.out.blk BT14.out (Kd.S_ne SC14.out BT14.out (by decide)))
                  have BH15 := Aside0.mk (G15.out.blk BH14.out (Kd.S_ne SC14.out BH14.out (by decide)))
                  have ST15 := Aside0.mk (ST14.out.step G15.out (fun i hi => Or.inr (by have := hsb.out i hi; have := WH0.out; omega)))
                  clear S14 R14 BE14 BT14 BH14 ST14 SC14 BC14 hsb HGW G15
                  have T15 : Aside0 (Stay (fun k => k = gt) w15 (w15.setCell ⟨gt, 1, none⟩ (.slice A15 cs2.length c15))) := ⟨(Stay.refl (fun k => k = gt) w15).set (.inl rfl) 1 _⟩
                  have SC16 := Aside0.mk (Kd.S_set SC15.out BT15.out (by decide) 1 (.slice A15 cs2.length c15))
                  have S16 := Aside0.mk (S_stay S15.out T15.out (fun k hk e => by have := GT0.out; omega))
                  have R16 := Aside0.mk (R15.out.stay T15.out (fun e => by have := GG0.out; have := GT0.out; omega))
                  have BE16 := Aside0.mk (T15.out.blk BE15.out (by have := GT0.out; have := GE0.out; omega))
                  have BT16 := Aside0.mk (blk_put (cs := #[.int .u64 (N * 4294967296 + tid), vc]) BT15.out 1 (.slice A15 cs2.length c15) rfl)
                  have BH16 := Aside0.mk (T15.out.blk BH15.out (by have := GH0.out; have := GT0.out; omega))
                  have ST16 := Aside0.mk (ST15.out.step T15.out (fun i hi => Or.inr (by have := GT0.out; have := WH0.out; omega)))
                  clear S15 R15 BE15 BT15 BH15 ST15 SC15 T15 hzt1 hft1 hzc0 hzc1 hzc2 hzc3
                  generalize w15.setCell ⟨gt, 1, none⟩ (.slice A15 cs2.length c15) = w16 at SC16 S16 R16 BE16 BT16 BH16 ST16 ⊢
                  go_wp2_with fail
                  go_roundg gk2
                  case measure => omega
                  case rel => exact ⟨cs2, key, l3, x34 + 1, .slice A15 cs2.length c15, rfl, ⟨by have := HX2.out; omega⟩, by omega, by omega, ⟨by have := HA2.out; have := HC2.out; omega⟩, Q9, R16, BE16, BT16, BH16, SC16, S16, ST16⟩
            · have dp2 : decide (x34 < m) = false := decide_eq_false hp2
              have hk0 : gk = 0 := by have := HX2.out; omega
              subst hk0
              have H := QC.out
              simp only [takeChangesL] at H
              obtain rfl := Option.some.inj H
              have Q6 : Aside0 (takeTxnsL k N gk1 tid (acc ++ [⟨N * 4294967296 + tid, cs⟩]) l' = some q3) := ⟨Q5.out⟩
              clear QC H Q5
              obtain ⟨Ac, cc, rfl⟩ := Kd.S_slice SC2.out
              have hgw : wr.heap[gt]? = some (.cells #[.int .u64 (N * 4294967296 + tid), .slice Ac cs.length cc] 47 (0, 0)) := BT2.out
              have hze1 : wr.cell? ⟨ge, 1, none⟩ = some v := (blk_cell BE2.out 1).trans rfl
              have hzt0 : wr.cell? ⟨gt, 0, none⟩ = some (.int .u64 (N * 4294967296 + tid)) := (blk_cell BT2.out 0).trans rfl
              have hzt1 : wr.cell? ⟨gt, 1, none⟩ = some (.slice Ac cs.length cc) := (blk_cell BT2.out 1).trans rfl
              have HVL : Aside0 (∀ k, v.ownBlock = some k → k < H0) := ⟨(Kd.S_R S2.out).1⟩
              clear hgw
              go_wp2_with ((with_reducible refine gate_builtin (b := .append) (xs := #[.tmp 58, .tmp 60]) rfl ?_); at_builtin; refine Kd.S_append k47 (w0 := wr) w.heap.size rfl (.tmp 58) (.tmp 60) 23 47 (.agg #[(.int .u64 0), (.slice none 0 0)]) 32 rfl Try.underlying23 info47 rfl (by decide) (by omega) v acc (⟨N * 4294967296 + tid, cs⟩ : S47) [.int .u64 (N * 4294967296 + tid), .slice Ac cs.length cc] (fun _ => True) (fun k => H0 ≤ k) rfl rfl ?aP ?aK ?aF ?aO ?aB ?aS ?aL ?_; (case aP => exact k47_mkM _ _ _ _ (Kd.R_lower (Kd.R_mono (Kd.R_bound (Kd.S_R SC2.out)) (fun k hk => hk.2.1)) WH0.out)); (case aK => exact (fun k hk => ⟨trivial, fun e => by have := HVL.out k e.symm; omega⟩)); (case aF => exact (fun _ _ => trivial)); (case aO => exact Kd.S_mono S2.out (fun k hk => ⟨trivial, by omega⟩)); (case aB => exact Below.refl _ _); (case aS => exact ST2.out.size); (case aL => have := HA.out; omega); intro v17 w17 ho hb hgw hat; have S17 := Aside0.mk ho; have HGW := Aside0.mk hgw; clear ho hb hgw hat; have hze1 : w17.cell? ⟨ge, 1, none⟩ = some v := (blk_cell ((Stay.of_grown HGW.out).blk BE2.out (Kd.S_ne S2.out BE2.out (by decide))) 1).trans rfl; have hfe1 := blk_frozen ((Stay.of_grown HGW.out).blk BE2.out (Kd.S_ne S2.out BE2.out (by decide))) 1; (obtain ⟨acc2, hacc2⟩ : ∃ c, c = acc ++ [(⟨N * 4294967296 + tid, cs⟩ : S47)] := ⟨_, rfl⟩); rw [← hacc2] at S17 Q6; have HC2 : Aside0 (acc2.length = acc.length + 1) := ⟨by rw [hacc2, List.length_append]; rfl⟩; clear hacc2; obtain ⟨A17, c17, rfl⟩ := Kd.S_slice S17.out)
              have G17 := Aside0.mk (Stay.of_grown HGW.out)
              have hsb : Aside0 (∀ i, some i = v.ownBlock → w.heap.size ≤ i) := ⟨fun i hi => Kd.S_base S2.out i hi.symm⟩
              have R17 := Aside0.mk (R2.out.stay G17.out (by obtain ⟨A, c, hb, _⟩ := R2.out; exact Kd.S_ne S2.out hb (by decide)))
              have BE17 := Aside0.mk (G17.out.blk BE2.out (Kd.S_ne S2.out BE2.out (by decide)))
              have ST17 := Aside0.mk (ST2.out.step G17.out (fun i hi => Or.inr (hsb.out i hi)))
              clear S2 R2 BE2 BT2 BH2 ST2 SC2 hsb HGW G17
              have T17 : Aside0 (Stay (fun k => k = ge) w17 (w17.setCell ⟨ge, 1, none⟩ (.slice A17 acc2.length c17))) := ⟨(Stay.refl (fun k => k = ge) w17).set (.inl rfl) 1 _⟩
              have S18 := Aside0.mk (Kd.S_set S17.out BE17.out (by decide) 1 (.slice A17 acc2.length c17))
              have R18 := Aside0.mk (R17.out.stay T17.out (fun e => hne1 e.symm))
              have BE18 := Aside0.mk (blk_put (cs := #[.int .u32 N, v]) BE17.out 1 (.slice A17 acc2.length c17) rfl)
              have ST18 := Aside0.mk (ST17.out.step T17.out (fun i hi => Or.inr (by rw [hi, HE.out]; exact Nat.le_refl _)))
              clear S17 R17 BE17 ST17 T17 hze1 hfe1 hzt0 hzt1
              generalize w17.setCell ⟨ge, 1, none⟩ (.slice A17 acc2.length c17) = w18 at S18 R18 BE18 ST18 ⊢
              go_wp2_with fail
              go_roundg gk1
              case measure => omega
              case rel => exact ⟨acc2, tid, l', x15 + 1, .slice A17 acc2.length c17, rfl, rfl, ⟨by have := HX.out; omega⟩, by omega, by omega, by omega, by omega, ⟨by have := HA.out; have := HC2.out; omega⟩, Q6, R18, BE18, S18, ST18⟩
      · have dp : decide (x15 < n2) = false := decide_eq_false hp
        have hk0 : gk = 0 := by have := HX.out; omega
        subst hk0
        have H := TX.out
        simp only [takeTxnsL] at H
        obtain rfl := Option.some.inj H
        obtain rfl : .ok ((N, acc), l') = q := Option.some.inj FQ.out
        obtain ⟨Av, cv, rfl⟩ := Kd.S_slice S2.out
        have hze0 : wr.cell? ⟨ge, 0, none⟩ = some (.int .u32 N) := (blk_cell BE2.out 0).trans rfl
        have hze1 : wr.cell? ⟨ge, 1, none⟩ = some (.slice Av acc.length cv) := (blk_cell BE2.out 1).trans rfl
        have hfe0 := blk_frozen BE2.out 0
        have hfe1 := blk_frozen BE2.out 1
        go_wp2_with fail
        have T3 : Stay (fun k => k = ge) wr ((wr.setCell ⟨ge, 0, none⟩ (.int .u32 N)).setCell ⟨ge, 1, none⟩ (.slice Av acc.length cv)) := ((Stay.refl (fun k => k = ge) wr).set (.inl rfl) 0 _).set (.inl rfl) 1 _
        have HS := Kd.S_set (Kd.S_set S2.out BE2.out (by decide) 0 (.int .u32 N)) (blk_put (cs := #[.int .u32 N, .slice Av acc.length cv]) BE2.out 0 (.int .u32 N) rfl) (by decide) 1 (.slice Av acc.length cv)
        have HF := Aside0.mk HS
        have RF := Aside0.mk (R2.out.stay T3 (fun e => hne1 e.symm))
        have SF := Aside0.mk (ST2.out.step T3 (fun i hi => Or.inr (by rw [hi, HE.out]; exact Nat.le_refl _)))
        clear HS T3
        refine bodyPost_ret (by simp [results, Try.results53, go_sem, hze0, hze1]; try rfl) rfl ?_
        exact ⟨⟨_, rfl, HF.out, RF.out⟩, SF.out⟩
end Go.Proofs.Ytgmdoapedhppmaa.PC

/- Plain facts on numbers as bytes: puts is what PutUint puts, gets is what GetUint gets; one is the other's turning back. Bytes are whole numbers from 0 to 255. -/
namespace Go.Proofs.Ytgmdoapedhppmaa.B
set_option linter.unusedVariables false
set_option linter.unusedSimpArgs false
open Go.RowKit

/-- The bytes of a number. -/
def puts (n : Nat) : List Int := if n < 128 then [(n : Int)] else ((n % 128 + 128 : Nat) : Int) :: puts (n / 128)
theorem puts_lo {n : Nat} (h : n < 128) : puts n = [(n : Int)] := by rw [puts, if_pos h]
theorem puts_hi {n : Nat} (h : ¬ n < 128) : puts n = ((n % 128 + 128 : Nat) : Int) :: puts (n / 128) := by rw [puts, if_neg h]
theorem puts_pos (n : Nat) : 0 < (puts n).length := by
  by_cases h : n < 128
  · rw [puts_lo h]; simp
  · rw [puts_hi h]; simp
theorem puts_ne (n : Nat) : puts n ≠ [] := by have := puts_pos n; intro h; rw [h] at this; simp at this
theorem puts_le (m : Nat) : ∀ n, n < 128 ^ (m + 1) → (puts n).length ≤ m + 1 := by
  induction m with
  | zero => intro n h; rw [puts_lo (by omega)]; simp
  | succ m ih =>
    intro n h
    by_cases hn : n < 128
    · rw [puts_lo hn]; simp
    · rw [puts_hi hn]
      have := ih (n / 128) (by rw [Nat.pow_succ] at h; exact Nat.div_lt_of_lt_mul (by rw [Nat.mul_comm]; exact h))
      simp only [List.length_cons]; omega
theorem puts_ge (m : Nat) : ∀ n, 128 ^ m ≤ n → m + 1 ≤ (puts n).length := by
  induction m with
  | zero => intro n _; have := puts_pos n; omega
  | succ m ih =>
    intro n h
    have h1 : ¬ n < 128 := by
      have : 0 < 128 ^ m := Nat.pow_pos (by decide)
      rw [Nat.pow_succ] at h; omega
    rw [puts_hi h1]
    have := ih (n / 128) (by rw [Nat.pow_succ] at h; exact (Nat.le_div_iff_mul_le (by decide)).2 h)
    simp only [List.length_cons]; omega
theorem pow10 : 128 ^ 10 = 1180591620717411303424 := by decide
theorem puts_ten (n : Nat) (h : n < 18446744073709551616) : (puts n).length ≤ 10 := puts_le 9 n (by have := pow10; omega)
theorem puts_byte (n : Nat) : ∀ c ∈ puts n, 0 ≤ c ∧ c < 256 := by
  induction n using Nat.strongRecOn with
  | _ n ih =>
    by_cases h : n < 128
    · rw [puts_lo h]; intro c hc; simp at hc; omega
    · rw [puts_hi h]; intro c hc
      rcases List.mem_cons.1 hc with rfl | hc
      · omega
      · exact ih (n / 128) (by omega) c hc

theorem or128 : ∀ c : Fin 256, Go.bits .or .u8 ((c.val : Nat) : Int) 128 = ((c.val % 128 + 128 : Nat) : Int) := by decide +kernel
theorem andNot128 : ∀ c : Fin 256, Go.bits .andNot .u8 ((c.val : Nat) : Int) 128 = ((c.val % 128 : Nat) : Int) := by decide +kernel
theorem or128_at (c : Int) (h0 : 0 ≤ c) (h1 : c < 256) : Go.bits .or .u8 c 128 = c % 128 + 128 := by
  have := or128 ⟨c.toNat, by omega⟩
  simp only [show ((c.toNat : Nat) : Int) = c by omega] at this
  rw [this]; omega
theorem andNot128_at (c : Int) (h0 : 0 ≤ c) (h1 : c < 256) : Go.bits .andNot .u8 c 128 = c % 128 := by
  have := andNot128 ⟨c.toNat, by omega⟩
  simp only [show ((c.toNat : Nat) : Int) = c by omega] at this
  rw [this]; omega

/-- What GetUint gets: c is read at place i, n has been gathered so far. -/
def gets : List Int → Nat → Int → Int × Int × Int
  | [], i, _ => if i = 10 then (0, 0, 3) else (0, 0, 2)
  | c :: r, i, n => if i = 10 then (0, 0, 3) else if 18446744073709551616 ≤ (c % 128) * 128 ^ i then (0, 0, 3) else if 128 ≤ c then gets r (i + 1) (n + (c % 128) * 128 ^ i)
      else if c = 0 ∧ 0 < i then (0, 0, 3) else (n + (c % 128) * 128 ^ i, (i : Int) + 1, 0)
def Bytes (l : List Int) : Prop := ∀ x ∈ l, 0 ≤ x ∧ x < 256
theorem Bytes.drop {l : List Int} (h : Bytes l) (k : Nat) : Bytes (l.drop k) := fun x hx => h x (List.mem_of_mem_drop hx)
theorem Bytes.take {l : List Int} (h : Bytes l) (k : Nat) : Bytes (l.take k) := fun x hx => h x (List.mem_of_mem_take hx)
theorem Bytes.app {l m : List Int} (h : Bytes l) (h' : Bytes m) : Bytes (l ++ m) := fun x hx => (List.mem_append.1 hx).elim (h x) (h' x)
theorem puts_bytes (n : Nat) : Bytes (puts n) := puts_byte n
theorem pow128_pos (i : Nat) : (0 : Int) < 128 ^ i := Int.pow_pos (by decide)
theorem pow128_cast (i : Nat) : (((128 : Nat) ^ i : Nat) : Int) = (128 : Int) ^ i := by simp
theorem pow_shift (i : Nat) : (2 : Int) ^ (7 * i) = 128 ^ i := by rw [Int.pow_mul]; rfl
/-- What is told of what goes on. -/
theorem gets_err {xs : List Int} : ∀ {i : Nat} {n : Int} {a b e : Int}, gets xs i n = (a, b, e) → e = 0 ∨ (a = 0 ∧ b = 0 ∧ (e = 2 ∨ e = 3)) := by
  induction xs with
  | nil => intro i n a b e h; simp only [gets] at h; split at h <;> (cases h; simp)
  | cons c r ih =>
    intro i n a b e h
    simp only [gets] at h
    split at h
    · cases h; simp
    · split at h
      · cases h; simp
      · split at h
        · exact ih h
        · split at h <;> (cases h; simp)
/-- A number, or ErrForm, stays, whatever stands behind. -/
theorem gets_more (ys : List Int) : ∀ (xs : List Int) (i : Nat) (n : Int), (gets xs i n).2.2 ≠ 2 → i ≤ 10 → gets (xs ++ ys) i n = gets xs i n := by
  intro xs
  induction xs with
  | nil =>
    intro i n h hi
    simp only [gets] at h ⊢
    by_cases h10 : i = 10
    · subst h10; rw [if_pos rfl]
      cases ys with
      | nil => simp [gets]
      | cons y ys => simp [gets]
    · rw [if_neg h10] at h; simp at h
  | cons c r ih =>
    intro i n h hi
    simp only [List.cons_append, gets] at h ⊢
    by_cases h10 : i = 10
    · rw [if_pos h10, if_pos h10]
    · rw [if_neg h10] at h ⊢
      rw [if_neg h10]
      split
      · rfl
      · rename_i hb
        rw [if_neg hb] at h
        split
        · rename_i hc
          rw [if_pos hc] at h
          exact ih _ _ h (by omega)
        · rfl
/-- What ends too early goes on: a 1 behind makes a number. -/
theorem gets_one : ∀ (xs : List Int) (i : Nat) (n : Int), Bytes xs → (gets xs i n).2.2 = 2 → i ≤ 9 → 0 ≤ n → ∃ v, gets (xs ++ [1]) i n = (v, ((i + xs.length : Nat) : Int) + 1, 0) ∧ 0 < v := by
  intro xs
  induction xs with
  | nil =>
    intro i n hB h hi hn
    have hp := pow128_pos i
    have hm : (128 : Int) ^ i ≤ 128 ^ 9 := by
      have := Nat.pow_le_pow_right (show 0 < 128 by decide) hi
      have a := pow128_cast i
      have b := pow128_cast 9
      omega
    have e9 : (128 : Int) ^ 9 = 9223372036854775808 := by decide
    simp only [List.nil_append, gets]
    rw [if_neg (by omega), show (1 : Int) % 128 = 1 by decide, Int.one_mul, if_neg (by omega), if_neg (by decide), if_neg (by omega)]
    exact ⟨n + 128 ^ i, by simp, by omega⟩
  | cons c r ih =>
    intro i n hB h hi hn
    have hc := hB c (by simp)
    have hp := pow128_pos i
    simp only [gets] at h
    rw [if_neg (by omega)] at h
    split at h
    · simp at h
    · rename_i hb
      split at h
      · rename_i h128
        have hn' : 0 ≤ n + c % 128 * 128 ^ i := Int.add_nonneg hn (Int.mul_nonneg (by omega) (by omega))
        by_cases h9 : i = 9
        · exfalso
          subst h9
          cases r with
          | nil => simp [gets] at h
          | cons => simp [gets] at h
        · obtain ⟨v, hv, hpos⟩ := ih (i + 1) _ (fun x hx => hB x (by simp [hx])) h (by omega) hn'
          refine ⟨v, ?_, hpos⟩
          simp only [List.cons_append, gets]
          rw [if_neg (by omega), if_neg hb, if_pos h128, hv]
          simp; omega
      · split at h <;> simp at h

/-- What was put is got, whatever stands behind. -/
theorem gets_puts_at (rest : List Int) (n : Nat) : ∀ (i : Nat) (acc : Int), (n : Int) * 128 ^ i < 18446744073709551616 → (i = 0 ∨ 0 < n) → gets (puts n ++ rest) i acc = (acc + n * 128 ^ i, ((i + (puts n).length : Nat) : Int), 0) := by
  induction n using Nat.strongRecOn with
  | _ n ih =>
    intro i acc hn h0
    have hp := pow128_pos i
    have hi : i ≠ 10 := by
      intro h
      subst h
      rcases h0 with h0 | h0
      · omega
      · have e : (128 : Int) ^ 10 = 1180591620717411303424 := by decide
        rw [e] at hn; omega
    by_cases h : n < 128
    · rw [puts_lo h]
      simp only [List.cons_append, gets]
      rw [if_neg hi, show (n : Int) % 128 = n by omega, if_neg (by omega), if_neg (by omega), if_neg (by omega)]
      simp
    · have e1 : ((n % 128 + 128 : Nat) : Int) % 128 = ((n % 128 : Nat) : Int) := by omega
      have hle : ((n % 128 : Nat) : Int) * 128 ^ i ≤ (n : Int) * 128 ^ i := Int.mul_le_mul_of_nonneg_right (by omega) (by omega)
      have hmul : ((n / 128 : Nat) : Int) * 128 ^ (i + 1) = (((n / 128 : Nat) : Int) * 128) * 128 ^ i := by rw [Int.pow_succ, Int.mul_comm ((128 : Int) ^ i) 128, ← Int.mul_assoc]
      have hle2 : (((n / 128 : Nat) : Int) * 128) * 128 ^ i ≤ (n : Int) * 128 ^ i := Int.mul_le_mul_of_nonneg_right (by omega) (by omega)
      rw [puts_hi h]
      simp only [List.cons_append, gets]
      rw [if_neg hi, e1, if_neg (by omega), if_pos (by omega), ih (n / 128) (by omega) (i + 1) _ (by rw [hmul]; omega) (Or.inr (by omega)), hmul]
      have hsum : ((n % 128 : Nat) : Int) * 128 ^ i + (((n / 128 : Nat) : Int) * 128) * 128 ^ i = (n : Int) * 128 ^ i := by
        rw [← Int.add_mul]; congr 1; omega
      simp only [List.length_cons]
      refine Prod.ext ?_ (Prod.ext ?_ rfl)
      · show acc + _ + _ = _
        omega
      · show ((i + 1 + (puts (n / 128)).length : Nat) : Int) = ((i + ((puts (n / 128)).length + 1) : Nat) : Int)
        omega
theorem gets_puts (rest : List Int) (n : Nat) (hn : n < 18446744073709551616) : gets (puts n ++ rest) 0 0 = ((n : Int), ((puts n).length : Int), 0) := by
  have := gets_puts_at rest n 0 0 (by simp; omega) (Or.inl rfl)
  simpa using this
theorem gets_cut (n : Nat) : ∀ (i : Nat) (acc : Int) (c : Nat), (n : Int) * 128 ^ i < 18446744073709551616 → (i = 0 ∨ 0 < n) → c < (puts n).length → gets ((puts n).take c) i acc = (0, 0, 2) := by
  induction n using Nat.strongRecOn with
  | _ n ih =>
    intro i acc c hn h0 hc
    have hp := pow128_pos i
    have hi : i ≠ 10 := by
      intro h
      subst h
      rcases h0 with h0 | h0
      · omega
      · have e : (128 : Int) ^ 10 = 1180591620717411303424 := by decide
        rw [e] at hn; omega
    cases c with
    | zero => simp only [List.take_zero, gets]; rw [if_neg hi]
    | succ c =>
      by_cases h : n < 128
      · rw [puts_lo h] at hc; simp at hc
      · have e1 : ((n % 128 + 128 : Nat) : Int) % 128 = ((n % 128 : Nat) : Int) := by omega
        have hle : ((n % 128 : Nat) : Int) * 128 ^ i ≤ (n : Int) * 128 ^ i := Int.mul_le_mul_of_nonneg_right (by omega) (by omega)
        have hmul : ((n / 128 : Nat) : Int) * 128 ^ (i + 1) = (((n / 128 : Nat) : Int) * 128) * 128 ^ i := by rw [Int.pow_succ, Int.mul_comm ((128 : Int) ^ i) 128, ← Int.mul_assoc]
        have hle2 : (((n / 128 : Nat) : Int) * 128) * 128 ^ i ≤ (n : Int) * 128 ^ i := Int.mul_le_mul_of_nonneg_right (by omega) (by omega)
        rw [puts_hi h] at hc ⊢
        simp only [List.take_succ_cons, gets]
        rw [if_neg hi, e1, if_neg (by omega), if_pos (by omega)]
        exact ih (n / 128) (by omega) (i + 1) _ c (by rw [hmul]; omega) (Or.inr (by omega)) (by simpa using hc)
/-- What is got is put: the bytes that were read are the number's. -/
theorem gets_inv : ∀ (xs : List Int) (i : Nat) (acc z s : Int), Bytes xs → i ≤ 10 → gets xs i acc = (z, s, 0) → ∃ (v k : Nat), z = acc + (v : Int) * 128 ^ i ∧ s = ((i + k : Nat) : Int) ∧ k ≤ xs.length ∧ xs.take k = puts v ∧ (i = 0 ∨ 0 < v) ∧ (v : Int) * 128 ^ i < 18446744073709551616 := by
  intro xs
  induction xs with
  | nil => intro i acc z s _ _ h; simp only [gets] at h; split at h <;> simp at h
  | cons c r ih =>
    intro i acc z s hB hi h
    have hc := hB c (by simp)
    have hp := pow128_pos i
    simp only [gets] at h
    split at h
    · simp at h
    · rename_i h10
      split at h
      · simp at h
      · rename_i hroom
        split at h
        · rename_i h128
          obtain ⟨v, k, hz, hs, hk, ht, h0, hv⟩ := ih (i + 1) _ z s (fun x hx => hB x (by simp [hx])) (by omega) h
          have hv0 : 0 < v := by omega
          have hmul : (v : Int) * 128 ^ (i + 1) = ((v : Int) * 128) * 128 ^ i := by rw [Int.pow_succ, Int.mul_comm ((128 : Int) ^ i) 128, ← Int.mul_assoc]
          have hn : ((c.toNat % 128 + v * 128 : Nat) : Int) = c % 128 + (v : Int) * 128 := by omega
          refine ⟨c.toNat % 128 + v * 128, k + 1, ?_, by omega, by simp; omega, ?_, Or.inr (by omega), ?_⟩
          · rw [hn, Int.add_mul, hz, hmul]; omega
          · have e1 : (c.toNat % 128 + v * 128) / 128 = v := by omega
            have e2 : (((c.toNat % 128 + v * 128) % 128 + 128 : Nat) : Int) = c := by omega
            rw [List.take_succ_cons, ht, puts_hi (n := c.toNat % 128 + v * 128) (by omega), e1, e2]
          · rw [hn, Int.add_mul, ← hmul]
            -- below 2^64: the digits lie under the place of v
            have hi9 : i ≤ 9 := by omega
            have e64 : (18446744073709551616 : Int) = 2 * 128 ^ 9 := by decide
            have hd : (c % 128) * 128 ^ i < 128 ^ (i + 1) := by
              rw [Int.pow_succ, Int.mul_comm ((128 : Int) ^ i) 128]
              exact Int.mul_lt_mul_of_pos_right (by omega) hp
            by_cases h9 : i + 1 ≤ 9
            · obtain ⟨j, hj⟩ : ∃ j, 9 = (i + 1) + j := ⟨9 - (i + 1), by omega⟩
              have e9 : (128 : Int) ^ 9 = 128 ^ j * 128 ^ (i + 1) := by rw [hj, Int.pow_add, Int.mul_comm]
              rw [e64, e9, ← Int.mul_assoc] at hv ⊢
              have hP := pow128_pos (i + 1)
              have hlt : (v : Int) < 2 * 128 ^ j := Int.lt_of_mul_lt_mul_right hv (by omega)
              have hle : ((v : Int) + 1) * 128 ^ (i + 1) ≤ (2 * 128 ^ j) * 128 ^ (i + 1) := Int.mul_le_mul_of_nonneg_right (by omega) (by omega)
              rw [Int.add_mul] at hle
              omega
            · exfalso
              have : i = 9 := by omega
              subst this
              have e10 : (128 : Int) ^ (9 + 1) = 1180591620717411303424 := by decide
              rw [e10] at hv; omega
        · rename_i h128
          split at h
          · simp at h
          · rename_i h00
            simp only [Prod.mk.injEq, and_true] at h
            have hcn : ((c.toNat : Nat) : Int) = c := by omega
            have hcm : c % 128 = c := by omega
            rw [hcm] at h hroom
            refine ⟨c.toNat, 1, by rw [hcn]; omega, by omega, by simp, ?_, ?_, by rw [hcn]; omega⟩
            · rw [List.take_succ_cons, List.take_zero, puts_lo (by omega), hcn]
            · by_cases hi0 : i = 0
              · exact Or.inl hi0
              · refine Or.inr ?_
                have : c ≠ 0 := fun hcz => h00 ⟨hcz, by omega⟩
                omega
end Go.Proofs.Ytgmdoapedhppmaa.B

/- GetUint of the program gets what gets says, of any bytes. -/
namespace Go.Proofs.Ytgmdoapedhppmaa.Pure
set_option linter.unusedVariables false
set_option linter.unusedSimpArgs false
open Go.RowKit Go.Proofs.Ytgmdoapedhppmaa.PC Go.Proofs.YtgmdoapedhppmaaW.PrintWords Go.Proofs.YtgmdoapedhppmaaW.PrintLast Go.Proofs.YtgmdoapedhppmaaW.PrintMore Go.Proofs.Ytgmdoapedhppmaa.B

theorem pow_le_9 (i : Nat) (h : i ≤ 9) : (128 : Int) ^ i ≤ 9223372036854775808 := by
  have := Nat.pow_le_pow_right (show 0 < 128 by decide) h
  have a := pow128_cast i
  have e9 : (128 : Nat) ^ 9 = 9223372036854775808 := by decide
  omega
theorem shl_at (b : Int) (i : Nat) (hi : i ≤ 9) : shl .u64 b (7 * (i : Int)) = (b * 128 ^ i) % 18446744073709551616 := by
  unfold shl
  rw [show (7 * (i : Int)).toNat = 7 * i by omega, Nat.min_eq_left (by show 7 * i ≤ 64; omega), pow_shift, IntKind.wrap_u64]
theorem shr_at (b : Int) (i : Nat) (hi : i ≤ 9) : shr .u64 b (7 * (i : Int)) = b / 128 ^ i := by
  unfold shr
  rw [show (7 * (i : Int)).toNat = 7 * i by omega, Nat.min_eq_left (by show 7 * i ≤ 64; omega), pow_shift]
theorem room_iff (b : Int) (i : Nat) (hb0 : 0 ≤ b) (hi : i ≤ 9) : (b * 128 ^ i) % 18446744073709551616 / 128 ^ i = b ↔ b * 128 ^ i < 18446744073709551616 := by
  have hp := pow128_pos i
  constructor
  · intro h
    by_cases hlt : b * 128 ^ i < 18446744073709551616
    · exact hlt
    · exfalso
      have h1 := Int.emod_lt_of_pos (b * 128 ^ i) (show (0 : Int) < 18446744073709551616 by decide)
      have h2 := Int.ediv_mul_le ((b * 128 ^ i) % 18446744073709551616) (show (128 : Int) ^ i ≠ 0 by omega)
      rw [h] at h2
      omega
  · intro h
    rw [Int.emod_eq_of_lt (Int.mul_nonneg hb0 (by omega)) h, Int.mul_ediv_cancel _ (by omega)]
theorem or_place (n b : Int) (i : Nat) (hn0 : 0 ≤ n) (hn1 : n < 128 ^ i) (hb0 : 0 ≤ b) (hb1 : b * 128 ^ i < 18446744073709551616) (hi : i ≤ 9) :
    Go.bits .or .u64 n (b * 128 ^ i) = n + b * 128 ^ i := by
  have h9 := pow_le_9 i hi
  have hp := pow128_pos i
  rw [B.or_comm, or_join (7 * i) (b * 128 ^ i) n (Int.mul_nonneg hb0 (by omega)) (by rw [pow_shift]; exact Int.mul_emod_left _ _) hb1 hn0 (by rw [pow_shift]; exact hn1) (by omega), Int.add_comm]
theorem rd_at (xs : List Int) (i : Nat) (h : i < xs.length) : rd xs (i : Int) = xs[i] := by
  unfold rd; simp [List.getD, h]
theorem get_l (d : Nat) : ∀ (k i : Nat) (n : Int) (xs : List Int), Bytes xs → i + d = 10 → i ≤ xs.length → xs.length ≤ 9223372036854775807 → 0 ≤ n → n < 128 ^ i → 2 * d + 2 ≤ k →
    shift_GetUint.l0 k xs n (i : Int) = some (gets (xs.drop i) i n) := by
  induction d with
  | zero =>
    intro k i n xs hB hd hi hL hn0 hn1 hk
    obtain ⟨k, rfl⟩ : ∃ m, k = m + 2 := ⟨k - 2, by omega⟩
    obtain rfl : i = 10 := by omega
    simp only [shift_GetUint.l0]
    have e : ∀ b : Bool, b = false → shift_GetUint.j1 (k + 1) xs n ((10 : Nat) : Int) b = some (0, 0, 3) := by
      intro b hb; subst hb; simp only [shift_GetUint.j1]; rw [if_neg (by decide), if_pos (by decide)]
    rw [e _ (by simp), e _ rfl]
    split
    · cases h : xs.drop 10 with
      | nil => simp [gets]
      | cons c r => simp [gets]
    · cases h : xs.drop 10 with
      | nil => simp [gets]
      | cons c r => simp [gets]
  | succ d ih =>
    intro k i n xs hB hd hi hL hn0 hn1 hk
    obtain ⟨k, rfl⟩ : ∃ m, k = m + 2 := ⟨k - 2, by omega⟩
    have hi9 : i ≤ 9 := by omega
    simp only [shift_GetUint.l0]
    by_cases hlt : i < xs.length
    · rw [if_pos (by omega), show decide ((i : Int) < 10) = true from decide_eq_true (by omega)]
      simp only [shift_GetUint.j1]
      have hdr : xs.drop i = xs[i] :: xs.drop (i + 1) := List.drop_eq_getElem_cons hlt
      have hc := hB xs[i] (List.getElem_mem hlt)
      have hw : wrap64 (7 * (i : Int)) = 7 * (i : Int) := wrap64_id _ (by omega) (by omega)
      have hw1 : wrap64 ((i : Int) + 1) = ((i + 1 : Nat) : Int) := by rw [wrap64_id _ (by omega) (by omega)]; simp
      have hp := pow128_pos i
      have h9 := pow_le_9 i hi9
      rw [if_pos trivial, if_pos (by omega), if_pos (by omega), rd_at xs i hlt, hw, hw1, if_pos (by omega), andNot128_at _ hc.1 hc.2,
        show IntKind.u64.wrap (xs[i] % 128) = xs[i] % 128 by rw [IntKind.wrap_u64]; omega, shl_at _ i hi9, shr_at _ i hi9, hdr]
      simp only [gets]
      rw [if_neg (by omega : ¬ i = 10)]
      obtain ⟨b, hb⟩ : ∃ b, b = xs[i] % 128 := ⟨_, rfl⟩
      rw [← hb]
      have hb0 : 0 ≤ b := by omega
      have hb1 : b < 128 := by omega
      have hr := room_iff b i hb0 hi9
      by_cases hroom : b * 128 ^ i < 18446744073709551616
      · rw [if_pos (hr.2 hroom), if_neg (show ¬ 18446744073709551616 ≤ b * 128 ^ i by omega), Int.emod_eq_of_lt (Int.mul_nonneg hb0 (by omega)) hroom, or_place n b i hn0 hn1 hb0 hroom hi9]
        have hmul : b * 128 ^ i ≤ 127 * 128 ^ i := Int.mul_le_mul_of_nonneg_right (by omega) (by omega)
        by_cases h128 : 128 ≤ xs[i]
        · rw [if_neg (show ¬ xs[i] / 128 = 0 by omega), if_pos h128]
          exact ih k (i + 1) _ xs hB (by omega) (by omega) hL (by have := Int.mul_nonneg hb0 (show (0 : Int) ≤ 128 ^ i by omega); omega) (by rw [Int.pow_succ]; omega) (by omega)
        · rw [if_pos (show xs[i] / 128 = 0 by omega), if_neg h128]
          by_cases h0 : xs[i] = 0
          · rw [if_pos h0]
            by_cases hi0 : 0 < i
            · rw [if_pos (by omega), if_pos ⟨h0, hi0⟩]
            · rw [if_neg (by omega), if_neg (fun h => hi0 h.2)]; simp
          · rw [if_neg h0, if_neg (fun h => h0 h.1)]; simp
      · rw [if_neg (fun h => hroom (hr.1 h)), if_pos (by omega)]
    · rw [if_neg (by omega)]
      simp only [shift_GetUint.j1]
      rw [if_neg (by decide), if_neg (by omega), List.drop_eq_nil_of_le (by omega)]
      simp only [gets]
      rw [if_neg (by omega)]
theorem get_f (k : Nat) (xs : List Int) (hB : Bytes xs) (hL : xs.length ≤ 9223372036854775807) (hk : 22 ≤ k) : shift_GetUint.f k xs = some (gets xs 0 0) := by
  unfold shift_GetUint.f
  have := get_l 10 k 0 0 xs hB (by omega) (by omega) hL (by omega) (by decide) (by omega)
  simpa using this
theorem put_l (d : Nat) : ∀ (k : Nat) (n : Nat) (l : List Int), n < 128 ^ (d + 1) → d < k → l.length + d < 140737488355328 → shift_PutUint.l0 k l (n : Int) = some (l ++ puts n) := by
  induction d with
  | zero =>
    intro k n l hn hk hl
    obtain ⟨k, rfl⟩ : ∃ m, k = m + 1 := ⟨k - 1, by omega⟩
    simp only [shift_PutUint.l0]
    rw [if_pos (by omega), if_pos (by omega), puts_lo (by omega), show (n : Int) % 256 = n by omega]
  | succ d ih =>
    intro k n l hn hk hl
    obtain ⟨k, rfl⟩ : ∃ m, k = m + 1 := ⟨k - 1, by omega⟩
    simp only [shift_PutUint.l0]
    by_cases h : n < 128
    · rw [if_pos (by omega), if_pos (by omega), puts_lo (by omega), show (n : Int) % 256 = n by omega]
    · rw [if_neg (by omega), if_pos (by omega), show (n : Int) / 128 = ((n / 128 : Nat) : Int) by omega,
        ih k (n / 128) _ (by rw [Nat.pow_succ] at hn; exact Nat.div_lt_of_lt_mul (by rw [Nat.mul_comm]; exact hn)) (by omega) (by simp; omega),
        puts_hi h, or128_at _ (by omega) (by omega), show (n : Int) % 256 % 128 + 128 = ((n % 128 + 128 : Nat) : Int) by omega, List.append_assoc]
      rfl
theorem put_f (k : Nat) (l : List Int) (n : Int) (h0 : 0 ≤ n) (h1 : n < 18446744073709551616) (hk : 10 ≤ k) (hl : l.length + 10 < 140737488355328) :
    shift_PutUint.f k l n = some (l ++ puts n.toNat) := by
  unfold shift_PutUint.f
  have := put_l 9 k n.toNat l (by have := pow10; omega) (by omega) (by omega)
  rwa [show ((n.toNat : Nat) : Int) = n by omega] at this
end Go.Proofs.Ytgmdoapedhppmaa.Pure

/- The codec, plain: bytes of epochs and rows, and readers of them, over whole numbers, lists and strings; no program in it but the readers of HRead, HKey, HRows, HEpoch. -/
namespace Go.Proofs.Ytgmdoapedhppmaa.Code
set_option linter.unusedVariables false
set_option linter.unusedSimpArgs false
open Go.RowKit Go.Proofs.Ytgmdoapedhppmaa.PC Go.Proofs.Ytgmdoapedhppmaa.B Go.Proofs.Ytgmdoapedhppmaa.Pure Go.Proofs.YtgmdoapedhppmaaW.PrintWords Go.Proofs.YtgmdoapedhppmaaW.PrintLast Go.Proofs.YtgmdoapedhppmaaW.PrintMore
/-- So many bytes are never had. -/
def LIM : Nat := 3518437208882
def bnd {α β : Type} (q : Except Int α) (f : α → Except Int β) : Except Int β := match q with | .error c => .error c | .ok x => f x
theorem bnd_ok {α β : Type} {q : Except Int α} {f : α → Except Int β} {y : β} (h : bnd q f = .ok y) : ∃ x, q = .ok x ∧ f x = .ok y := by
  cases q with
  | error c => cases h
  | ok x => exact ⟨x, rfl, h⟩
/-! ### Bytes and strings -/
theorem strs_bytes (s : ByteArray) : strOfNums (bytesOf s) = s := by
  apply ByteArray.ext
  apply Array.ext'
  simp only [strOfNums, bytesOf, List.map_map]
  conv => rhs; rw [← List.map_id s.data.toList]
  apply List.map_congr_left
  intro x _
  simp
theorem bytes_strs (l : List Int) (h : Bytes l) : bytesOf (strOfNums l) = l := by
  unfold bytesOf strOfNums
  simp only [List.map_map]
  conv => rhs; rw [← List.map_id l]
  apply List.map_congr_left
  intro x hx
  have := h x hx
  simp only [Function.comp, UInt8.toNat_ofNat', id]
  omega
theorem bytesOf_bytes (s : ByteArray) : Bytes (bytesOf s) := by
  intro x hx
  obtain ⟨b, _, rfl⟩ := List.mem_map.1 hx
  have := b.toNat_lt
  exact ⟨by omega, by omega⟩
theorem bytesOf_inj {s t : ByteArray} (h : bytesOf s = bytesOf t) : s = t := by rw [← strs_bytes s, h, strs_bytes]
theorem bytesOf_nil {s : ByteArray} : s.size = 0 ↔ bytesOf s = [] := by rw [← List.length_eq_zero_iff, bytesOf_length]
/-! ### Takers -/
def tN (lo hi : Int) (l : List Int) : Except Int (Int × List Int) :=
  if (gets l 0 0).2.2 = 0 then (if lo ≤ (gets l 0 0).1 ∧ (gets l 0 0).1 ≤ hi then .ok ((gets l 0 0).1, l.drop (gets l 0 0).2.1.toNat) else .error 3) else .error (gets l 0 0).2.2
def tKey (last : S28) (l : List Int) : Except Int (S28 × List Int) :=
  bnd (takeB 1 l) fun p => if byte0 p.1 < 8 then bnd (tN 1 64 p.2) fun n => bnd (takeB n.1 n.2) fun m => if lessB last ⟨byte0 p.1, m.1⟩ then .ok (⟨byte0 p.1, m.1⟩, m.2) else .error 3 else .error 3
def tChange (last : S28) (l : List Int) : Except Int (S50 × List Int) :=
  bnd (tKey last l) fun p => bnd (tN 0 257 p.2) fun n => bnd (takeB (mx (n.1 - 1) 0) n.2) fun m => .ok (⟨p.1, n.1 == 0, m.1⟩, m.2)
def tChanges : Nat → S28 → List Int → Except Int (List S50 × List Int)
  | 0, _, l => .ok ([], l)
  | n + 1, last, l => bnd (tChange last l) fun p => bnd (tChanges n p.1.f0 p.2) fun q => .ok (p.1 :: q.1, q.2)
def key0 : S28 := ⟨0, ⟨#[]⟩⟩
def tTxn (N last : Int) (l : List Int) : Except Int (S47 × List Int) :=
  bnd (tN 0 4294967295 l) fun p => if last < p.1 then bnd (tN 1 32 p.2) fun n => bnd (tChanges n.1.toNat key0 n.2) fun q => .ok (⟨N * 4294967296 + p.1, q.1⟩, q.2) else .error 3
def tTxns (N : Int) : Nat → Int → List Int → Except Int (List S47 × List Int)
  | 0, _, l => .ok ([], l)
  | n + 1, last, l => bnd (tTxn N last l) fun p => bnd (tTxns N n (p.1.f0 - N * 4294967296) p.2) fun q => .ok (p.1 :: q.1, q.2)
def tEpoch (l : List Int) : Except Int ((Int × List S47) × List Int) :=
  bnd (tN 1 4294967295 l) fun p => bnd (tN 0 64 p.2) fun n => bnd (tTxns p.1 n.1.toNat (-1) n.2) fun q => .ok ((p.1, q.1), q.2)
def tRow (last : S28) (l : List Int) : Except Int (S57 × List Int) :=
  bnd (tKey last l) fun p => bnd (tN 0 256 p.2) fun n => bnd (takeB n.1 n.2) fun m => .ok (⟨p.1, m.1⟩, m.2)
def tRowsL : Nat → S28 → List Int → Except Int (List S57 × List Int)
  | 0, _, l => .ok ([], l)
  | n + 1, last, l => bnd (tRow last l) fun p => bnd (tRowsL n p.1.f0 p.2) fun q => .ok (p.1 :: q.1, q.2)
def tRows (l : List Int) : Except Int (List S57 × List Int) := bnd (tN 0 4611686018427387904 l) fun p => tRowsL p.1.toNat key0 p.2
/-! ### They are the readers -/
/-- What is left is an end of what there was. -/
def Rest (l' l : List Int) : Prop := ∃ k, l' = l.drop k
theorem Rest.bytes {l' l : List Int} (h : Rest l' l) (hB : Bytes l) : Bytes l' := by obtain ⟨k, rfl⟩ := h; exact hB.drop k
theorem Rest.len {l' l : List Int} (h : Rest l' l) : l'.length ≤ l.length := by obtain ⟨k, rfl⟩ := h; rw [List.length_drop]; omega
theorem Rest.trans {a b c : List Int} (h : Rest a b) (k : Rest b c) : Rest a c := by
  obtain ⟨i, rfl⟩ := h
  obtain ⟨j, rfl⟩ := k
  exact ⟨j + i, by rw [List.drop_drop]⟩
theorem Rest.refl (a : List Int) : Rest a a := ⟨0, rfl⟩
theorem tN_rest {lo hi n : Int} {l l' : List Int} (h : tN lo hi l = .ok (n, l')) : Rest l' l := by
  unfold tN at h
  split at h
  · split at h
    · injection h with h; injection h with _ h; exact ⟨_, h.symm⟩
    · cases h
  · cases h
theorem takeB_rest {n : Int} {s : ByteArray} {l l' : List Int} (h : takeB n l = .ok (s, l')) : Rest l' l := by
  unfold PC.takeB at h
  split at h
  · cases h
  · injection h with h; injection h with _ h; exact ⟨_, h.symm⟩
theorem tKey_rest {last x : S28} {l l' : List Int} (h : tKey last l = .ok (x, l')) : Rest l' l ∧ l'.length < l.length := by
  unfold tKey at h
  obtain ⟨⟨s, l1⟩, h1, h⟩ := bnd_ok h
  simp only at h
  split at h
  · obtain ⟨⟨n, l2⟩, h2, h⟩ := bnd_ok h
    obtain ⟨⟨m, l3⟩, h3, h⟩ := bnd_ok h
    simp only at h
    split at h
    · injection h with h; injection h with _ h; subst h
      have a : Rest l3 l2 := takeB_rest h3
      have b := tN_rest h2
      have c := takeB_rest h1
      refine ⟨a.trans (b.trans c), ?_⟩
      have hn := takeB_nat h1
      have e1 : l1.length < l.length := by
        unfold PC.takeB at h1
        rw [if_neg (by omega)] at h1
        injection h1 with h1; injection h1 with _ h1
        rw [← h1, List.length_drop]
        simp; omega
      have := a.len
      have := b.len
      omega
    · cases h
  · cases h
theorem takeN_t {lo hi : Int} {l : List Int} (hB : Bytes l) (hL : l.length ≤ LIM) (h0 : 0 ≤ lo) (h1 : hi < 9223372036854775808) : takeN 40 lo hi l = some (tN lo hi l) := by
  unfold takeN tN
  rw [get_f 40 l hB (by unfold LIM at hL; omega) (by decide)]
  simp only [Option.bind_some]
  rcases hg : gets l 0 0 with ⟨n, s, e⟩
  simp only
  by_cases he : e = 0
  · subst he
    obtain ⟨v, k, hv, hs, hk, _, _, _⟩ := gets_inv l 0 0 n s hB (by omega) hg
    have hs' : 0 ≤ s ∧ s ≤ (l.length : Int) := by omega
    rw [if_pos rfl, if_pos hs', if_pos rfl]
    congr 1
    by_cases hn : lo ≤ n ∧ n ≤ hi
    · rw [if_pos hn, if_pos hn]
      have hw : wrap64 n = n := by unfold wrap64; omega
      rw [hw]
    · rw [if_neg hn, if_neg hn]
  · rw [if_neg he, if_neg he]
theorem takeKey_t {last : S28} {l : List Int} (hB : Bytes l) (hL : l.length ≤ LIM) : takeKey 40 last l = some (tKey last l) := by
  unfold takeKey tKey
  cases h1 : takeB 1 l with
  | error c => rfl
  | ok p =>
    obtain ⟨s, l1⟩ := p
    have r1 := takeB_rest h1
    simp only [bnd]
    by_cases hs : byte0 s < 8
    · rw [if_pos hs, if_pos hs, takeN_t (r1.bytes hB) (Nat.le_trans r1.len hL) (by decide) (by decide)]
      simp only [Option.bind_some]
      cases h2 : tN 1 64 l1 with
      | error c => rfl
      | ok q =>
        obtain ⟨n, l2⟩ := q
        simp only
        cases takeB n l2 with
        | error c => rfl
        | ok m => obtain ⟨m, l3⟩ := m; simp only [apply_ite some]
    · rw [if_neg hs, if_neg hs]
theorem takeChanges_t (n : Nat) : ∀ (last : S28) (acc : List S50) (l : List Int), Bytes l → l.length ≤ LIM → takeChangesL 40 n last acc l = some (bnd (tChanges n last l) fun q => .ok (acc ++ q.1, q.2)) := by
  induction n with
  | zero => intro last acc l _ _; simp [takeChangesL, tChanges, bnd]
  | succ n ih =>
    intro last acc l hB hL
    simp only [takeChangesL, tChanges, tChange]
    rw [takeKey_t hB hL]
    simp only [Option.bind_some]
    cases h1 : tKey last l with
    | error c => rfl
    | ok p =>
      obtain ⟨key, l1⟩ := p
      have r1 := (tKey_rest h1).1
      simp only [bnd]
      rw [takeN_t (r1.bytes hB) (Nat.le_trans r1.len hL) (by decide) (by decide)]
      simp only [Option.bind_some]
      cases h2 : tN 0 257 l1 with
      | error c => rfl
      | ok q =>
        obtain ⟨m, l2⟩ := q
        have r2 := (tN_rest h2).trans r1
        simp only
        cases h3 : takeB (mx (m - 1) 0) l2 with
        | error c => rfl
        | ok v =>
          obtain ⟨v, l3⟩ := v
          have r3 := (takeB_rest h3).trans r2
          simp only
          rw [ih key _ l3 (r3.bytes hB) (Nat.le_trans r3.len hL)]
          cases tChanges n key l3 with
          | error c => rfl
          | ok q => simp only [bnd, List.append_assoc, List.singleton_append]
theorem tChange_rest {last : S28} {x : S50} {l l' : List Int} (h : tChange last l = .ok (x, l')) : Rest l' l := by
  unfold tChange at h
  obtain ⟨⟨k, l1⟩, h1, h⟩ := bnd_ok h
  obtain ⟨⟨n, l2⟩, h2, h⟩ := bnd_ok h
  obtain ⟨⟨m, l3⟩, h3, h⟩ := bnd_ok h
  injection h with h; injection h with _ h; subst h
  exact (takeB_rest h3).trans ((tN_rest h2).trans (tKey_rest h1).1)
theorem tChanges_rest (n : Nat) : ∀ {last : S28} {xs : List S50} {l l' : List Int}, tChanges n last l = .ok (xs, l') → Rest l' l := by
  induction n with
  | zero => intro last xs l l' h; injection h with h; injection h with _ h; exact ⟨0, h.symm⟩
  | succ n ih =>
    intro last xs l l' h
    obtain ⟨⟨c, l1⟩, h1, h⟩ := bnd_ok h
    obtain ⟨⟨cs, l2⟩, h2, h⟩ := bnd_ok h
    injection h with h; injection h with _ h; subst h
    exact (ih h2).trans (tChange_rest h1)
theorem tTxn_rest {N last : Int} {x : S47} {l l' : List Int} (h : tTxn N last l = .ok (x, l')) : Rest l' l := by
  unfold tTxn at h
  obtain ⟨⟨k, l1⟩, h1, h⟩ := bnd_ok h
  simp only at h
  split at h
  · obtain ⟨⟨n, l2⟩, h2, h⟩ := bnd_ok h
    obtain ⟨⟨m, l3⟩, h3, h⟩ := bnd_ok h
    injection h with h; injection h with _ h; subst h
    exact (tChanges_rest _ h3).trans ((tN_rest h2).trans (tN_rest h1))
  · cases h
theorem takeTxns_t (N : Int) (n : Nat) : ∀ (last : Int) (acc : List S47) (l : List Int), Bytes l → l.length ≤ LIM → takeTxnsL 40 N n last acc l = some (bnd (tTxns N n last l) fun q => .ok (acc ++ q.1, q.2)) := by
  induction n with
  | zero => intro last acc l _ _; simp [takeTxnsL, tTxns, bnd]
  | succ n ih =>
    intro last acc l hB hL
    simp only [takeTxnsL, tTxns, tTxn]
    rw [takeN_t hB hL (by decide) (by decide)]
    simp only [Option.bind_some]
    cases h1 : tN 0 4294967295 l with
    | error c => rfl
    | ok p =>
      obtain ⟨tid, l1⟩ := p
      have r1 := tN_rest h1
      simp only [bnd]
      by_cases hlt : last < tid
      · rw [if_pos hlt, if_pos hlt, takeN_t (r1.bytes hB) (Nat.le_trans r1.len hL) (by decide) (by decide)]
        simp only [Option.bind_some]
        cases h2 : tN 1 32 l1 with
        | error c => rfl
        | ok q =>
          obtain ⟨m, l2⟩ := q
          have r2 := (tN_rest h2).trans r1
          simp only
          have := takeChanges_t m.toNat key0 [] l2 (r2.bytes hB) (Nat.le_trans r2.len hL)
          rw [show takeChangesL 40 m.toNat ⟨0, ⟨#[]⟩⟩ [] l2 = _ from this]
          cases h3 : tChanges m.toNat key0 l2 with
          | error c => rfl
          | ok v =>
            obtain ⟨cs, l3⟩ := v
            have r3 := (tChanges_rest _ h3).trans r2
            simp only [bnd, Option.bind_some, List.nil_append]
            rw [ih tid _ l3 (r3.bytes hB) (Nat.le_trans r3.len hL), show N * 4294967296 + tid - N * 4294967296 = tid by omega]
            cases tTxns N n tid l3 with
            | error c => rfl
            | ok q => simp only [bnd, List.append_assoc, List.singleton_append]
      · rw [if_neg hlt, if_neg hlt]
theorem takeEpoch_t {l : List Int} (hB : Bytes l) (hL : l.length ≤ LIM) : takeEpoch 40 l = some (tEpoch l) := by
  unfold takeEpoch tEpoch
  rw [takeN_t hB hL (by decide) (by decide)]
  simp only [Option.bind_some]
  cases h1 : tN 1 4294967295 l with
  | error c => rfl
  | ok p =>
    obtain ⟨N, l1⟩ := p
    have r1 := tN_rest h1
    simp only [bnd]
    rw [takeN_t (r1.bytes hB) (Nat.le_trans r1.len hL) (by decide) (by decide)]
    simp only [Option.bind_some]
    cases h2 : tN 0 64 l1 with
    | error c => rfl
    | ok q =>
      obtain ⟨n, l2⟩ := q
      have r2 := (tN_rest h2).trans r1
      simp only
      rw [takeTxns_t N n.toNat (-1) [] l2 (r2.bytes hB) (Nat.le_trans r2.len hL)]
      cases tTxns N n.toNat (-1) l2 with
      | error c => rfl
      | ok q => simp [bnd]
theorem takeRowsL_t (n : Nat) : ∀ (last : S28) (acc : List S57) (l : List Int), Bytes l → acc.length + l.length ≤ LIM → takeRowsL 40 n last acc l = some (bnd (tRowsL n last l) fun q => .ok (acc ++ q.1, q.2)) := by
  induction n with
  | zero => intro last acc l _ _; simp [takeRowsL, tRowsL, bnd]
  | succ n ih =>
    intro last acc l hB hL
    have hL' : l.length ≤ LIM := by omega
    simp only [takeRowsL, tRowsL, tRow]
    rw [takeKey_t hB hL']
    simp only [Option.bind_some]
    cases h1 : tKey last l with
    | error c => rfl
    | ok p =>
      obtain ⟨key, l1⟩ := p
      obtain ⟨r1, s1⟩ := tKey_rest h1
      simp only [bnd]
      rw [takeN_t (r1.bytes hB) (Nat.le_trans r1.len hL') (by decide) (by decide)]
      simp only [Option.bind_some]
      cases h2 : tN 0 256 l1 with
      | error c => rfl
      | ok q =>
        obtain ⟨m, l2⟩ := q
        have r2 := (tN_rest h2).trans r1
        have s2 := (tN_rest h2).len
        simp only
        cases h3 : takeB m l2 with
        | error c => rfl
        | ok v =>
          obtain ⟨v, l3⟩ := v
          have r3 := (takeB_rest h3).trans r2
          have s3 := (takeB_rest h3).len
          simp only
          rw [if_pos (by unfold LIM at hL; omega), ih key _ l3 (r3.bytes hB) (by rw [List.length_append, List.length_singleton]; omega)]
          cases tRowsL n key l3 with
          | error c => rfl
          | ok q => simp only [bnd, List.append_assoc, List.singleton_append]
theorem takeRows_t {l : List Int} (hB : Bytes l) (hL : l.length ≤ LIM) : takeRows 40 l = some (tRows l) := by
  unfold takeRows tRows
  rw [takeN_t hB hL (by decide) (by decide)]
  simp only [Option.bind_some]
  cases h1 : tN 0 4611686018427387904 l with
  | error c => rfl
  | ok p =>
    obtain ⟨n, l1⟩ := p
    have r1 := tN_rest h1
    simp only [bnd]
    have := takeRowsL_t n.toNat key0 [] l1 (r1.bytes hB) (by have := r1.len; simp; omega)
    rw [show takeRowsL 40 n.toNat ⟨0, ⟨#[]⟩⟩ [] l1 = _ from this]
    cases tRowsL n.toNat key0 l1 with
    | error c => rfl
    | ok q => simp [bnd]
end Go.Proofs.Ytgmdoapedhppmaa.Code

/- Less, plain: an order of keys. -/
namespace Go.Proofs.Ytgmdoapedhppmaa.PC
set_option linter.unusedVariables false
set_option linter.unusedSimpArgs false
open Go.RowKit Go.Proofs.YtgmdoapedhppmaaW.PrintWords Go.Proofs.YtgmdoapedhppmaaW.PrintLast Go.Proofs.YtgmdoapedhppmaaW.PrintMore
theorem less_k (k : Nat) (hk : 3 ≤ k) (a b : S28) : codec_Less.f k a.f0 a.f1 b.f0 b.f1 = some (lessB a b) := at_rounds (codec_Less.mono _ _ _ _) hk (less_f a b)
theorem less_irrefl (a : S28) : lessB a a = false := by
  unfold lessB
  simp [bl_irrefl]
theorem less_trans {a b c : S28} (h1 : lessB a b = true) (h2 : lessB b c = true) : lessB a c = true := by
  unfold lessB at *
  simp only [Bool.or_eq_true, Bool.and_eq_true, decide_eq_true_eq] at *
  rcases h1 with h1 | ⟨e1, h1⟩
  · rcases h2 with h2 | ⟨e2, h2⟩
    · exact .inl (by omega)
    · exact .inl (by omega)
  · rcases h2 with h2 | ⟨e2, h2⟩
    · exact .inl (by omega)
    · exact .inr ⟨by omega, bl_trans _ _ _ h1 h2⟩
theorem less_asymm {a b : S28} (h1 : lessB a b = true) : lessB b a = false := by
  cases h : lessB b a with
  | false => rfl
  | true => have := less_trans h1 h; rw [less_irrefl] at this; cases this
theorem less_tri (a b : S28) : (lessB a b || lessB b a) = !(a.f0 == b.f0 && (a.f1.toList == b.f1.toList)) := by
  unfold lessB
  by_cases h : a.f0 = b.f0
  · have h2 : ¬ a.f0 < b.f0 := by omega
    have h3 : ¬ b.f0 < a.f0 := by omega
    rcases bl_tri a.f1.toList b.f1.toList with ⟨p, q, r⟩ | ⟨p, q, r⟩ | ⟨p, q, r⟩
    · simp [h, p, q, r]
    · simp [h, p, q, r]
    · simp [h, p, q, r, bl_irrefl]
  · by_cases h2 : a.f0 < b.f0
    · simp [h, h2]
    · have h3 : b.f0 < a.f0 := by omega
      simp [h, h3]
theorem less_more (a : S28) : lessB a ⟨a.f0, a.f1 ++ (⟨#[120]⟩ : ByteArray)⟩ = true := by
  unfold lessB
  have : (a.f1 ++ (⟨#[120]⟩ : ByteArray)).toList = a.f1.toList ++ [120] := by
    rw [ByteArray.toList_eq, ByteArray.toList_eq, ByteArray.data_append, Array.toList_append]
  simp [this, bl_more]
end Go.Proofs.Ytgmdoapedhppmaa.PC

/- The codec, plain: what is written is read; cut off it ends too early; what is read was written. -/
namespace Go.Proofs.Ytgmdoapedhppmaa.Code
set_option linter.unusedVariables false
set_option linter.unusedSimpArgs false
open Go.RowKit Go.Proofs.Ytgmdoapedhppmaa.PC Go.Proofs.Ytgmdoapedhppmaa.B Go.Proofs.Ytgmdoapedhppmaa.Pure Go.Proofs.YtgmdoapedhppmaaW.PrintWords Go.Proofs.YtgmdoapedhppmaaW.PrintLast Go.Proofs.YtgmdoapedhppmaaW.PrintMore
/-! ### The bytes -/
def eKey (k : S28) : List Int := [k.f0] ++ (puts k.f1.size ++ bytesOf k.f1)
def eChange (c : S50) : List Int := eKey c.f0 ++ (puts (if c.f1 then 0 else c.f2.size + 1) ++ bytesOf c.f2)
def eChanges : List S50 → List Int
  | [] => []
  | c :: l => eChange c ++ eChanges l
def eTxn (N : Int) (t : S47) : List Int := puts (t.f0 - N * 4294967296).toNat ++ (puts t.f1.length ++ eChanges t.f1)
def eTxns (N : Int) : List S47 → List Int
  | [] => []
  | t :: l => eTxn N t ++ eTxns N l
def eEpoch (N : Int) (l : List S47) : List Int := puts N.toNat ++ (puts l.length ++ eTxns N l)
def eRow (r : S57) : List Int := eKey r.f0 ++ (puts r.f1.size ++ bytesOf r.f1)
def eRowsL : List S57 → List Int
  | [] => []
  | r :: l => eRow r ++ eRowsL l
def eRows (l : List S57) : List Int := puts l.length ++ eRowsL l
/-! ### What may be -/
structure GKey (k : S28) : Prop where
  lo : 0 ≤ k.f0
  hi : k.f0 < 8
  pos : 0 < k.f1.size
  most : k.f1.size ≤ 64
structure GChange (c : S50) : Prop where
  key : GKey c.f0
  most : c.f2.size ≤ 256
  gone : c.f1 = true → c.f2.size = 0
def GChanges : S28 → List S50 → Prop
  | _, [] => True
  | last, c :: l => lessB last c.f0 = true ∧ GChange c ∧ GChanges c.f0 l
structure GTxn (N : Int) (t : S47) : Prop where
  lo : N * 4294967296 ≤ t.f0
  hi : t.f0 ≤ N * 4294967296 + 4294967295
  pos : 1 ≤ t.f1.length
  most : t.f1.length ≤ 32
  all : GChanges key0 t.f1
def GTxns (N : Int) : Int → List S47 → Prop
  | _, [] => True
  | last, t :: l => last < t.f0 - N * 4294967296 ∧ GTxn N t ∧ GTxns N (t.f0 - N * 4294967296) l
structure GEpoch (N : Int) (l : List S47) : Prop where
  lo : 1 ≤ N
  hi : N ≤ 4294967295
  most : l.length ≤ 64
  all : GTxns N (-1) l
structure GRow (r : S57) : Prop where
  key : GKey r.f0
  most : r.f1.size ≤ 256
def GRowsL : S28 → List S57 → Prop
  | _, [] => True
  | last, r :: l => lessB last r.f0 = true ∧ GRow r ∧ GRowsL r.f0 l
/-! ### Written, then read -/
/-- p reads x off the bytes e; cut off, it ends too early. -/
structure Reads {β : Type} (p : List Int → Except Int (β × List Int)) (x : β) (e : List Int) : Prop where
  ok : ∀ rest, p (e ++ rest) = .ok (x, rest)
  cut : ∀ c, c < e.length → p (e.take c) = .error 2
theorem Reads.bind {α β : Type} {p : List Int → Except Int (α × List Int)} {f : α → List Int → Except Int (β × List Int)} {x : α} {y : β} {e e' : List Int} (h : Reads p x e) (k : Reads (f x) y e') : Reads (fun l => bnd (p l) fun q => f q.1 q.2) y (e ++ e') := by
  refine ⟨fun rest => ?_, fun c hc => ?_⟩
  · show bnd (p (e ++ e' ++ rest)) _ = _
    rw [List.append_assoc, h.ok]
    exact k.ok rest
  · show bnd (p ((e ++ e').take c)) _ = _
    by_cases hc' : c < e.length
    · rw [List.take_append_of_le_length (by omega), h.cut c hc']
      rfl
    · rw [List.take_append, List.take_of_length_le (by omega), h.ok]
      exact k.cut (c - e.length) (by rw [List.length_append] at hc; omega)
theorem Reads.done {β : Type} (x : β) : Reads (fun l => .ok (x, l)) x [] := ⟨fun rest => rfl, fun c hc => absurd hc (Nat.not_lt_zero c)⟩
theorem Reads.of {β : Type} {p p' : List Int → Except Int (β × List Int)} {x : β} {e e' : List Int} (h : Reads p x e) (hp : p' = p) (he : e' = e) : Reads p' x e' := by subst hp; subst he; exact h
theorem reads_n (lo hi n : Int) (h0 : 0 ≤ n) (h1 : n < 18446744073709551616) (hlo : lo ≤ n) (hhi : n ≤ hi) : Reads (tN lo hi) n (puts n.toNat) := by
  refine ⟨fun rest => ?_, fun c hc => ?_⟩
  · unfold tN
    rw [gets_puts rest n.toNat (by omega)]
    simp only [if_true]
    rw [if_pos (by omega), show ((n.toNat : Nat) : Int) = n by omega, Int.toNat_natCast, List.drop_left]
  · unfold tN
    rw [gets_cut n.toNat 0 0 c (by simp; omega) (Or.inl rfl) hc]
    rfl
theorem reads_b (s : ByteArray) (n : Int) (hn : n = (s.size : Int)) : Reads (PC.takeB n) s (bytesOf s) := by
  subst hn
  refine ⟨fun rest => ?_, fun c hc => ?_⟩
  · unfold PC.takeB
    have e : (bytesOf s).length = s.size := bytesOf_length s
    rw [if_neg (by rw [List.length_append]; omega), Int.toNat_natCast, ← e, List.take_left, List.drop_left, strs_bytes]
  · unfold PC.takeB
    rw [bytesOf_length] at hc
    rw [if_pos (by rw [List.length_take, bytesOf_length]; omega)]
theorem reads_one (x : Int) (h0 : 0 ≤ x) (h1 : x < 256) : Reads (PC.takeB 1) (strOfNums [x]) [x] := by
  refine ⟨fun rest => ?_, fun c hc => ?_⟩
  · unfold PC.takeB
    rw [if_neg (by simp; omega)]
    rfl
  · have : c = 0 := by simpa using hc
    subst this
    rfl
theorem byte0_one (x : Int) (h0 : 0 ≤ x) (h1 : x < 256) : byte0 (strOfNums [x]) = x := by
  have h : 0 < (strOfNums [x]).size := by rw [strOfNums_size]; exact Nat.zero_lt_one
  rw [byte0_get h]
  have e : (strOfNums [x])[0] = UInt8.ofNat x.toNat := by simp [strOfNums, ByteArray.getElem_eq_getElem_data]
  rw [e]
  simp only [UInt8.toNat_ofNat']
  omega
theorem reads_key (last k : S28) (hk : GKey k) (hl : lessB last k = true) : Reads (tKey last) k (eKey k) := by
  obtain ⟨h0, h1, h2, h3⟩ := hk
  have b := byte0_one k.f0 h0 (by omega)
  have r2 := reads_n 1 64 (k.f1.size : Int) (by omega) (by omega) (by omega) (by omega)
  rw [Int.toNat_natCast] at r2
  have r3 := reads_b k.f1 _ rfl
  have d : Reads (fun l => if lessB last ⟨byte0 (strOfNums [k.f0]), k.f1⟩ = true then .ok ((⟨byte0 (strOfNums [k.f0]), k.f1⟩ : S28), l) else .error 3) k [] := by
    rw [b]
    show Reads (fun l => if lessB last k = true then .ok (k, l) else .error 3) k []
    rw [hl]
    exact Reads.done k
  have a3 := r3.bind (f := fun m l => if lessB last ⟨byte0 (strOfNums [k.f0]), m⟩ = true then .ok ((⟨byte0 (strOfNums [k.f0]), m⟩ : S28), l) else .error 3) d
  have a2 := r2.bind (f := fun n l => bnd (PC.takeB n l) fun m => if lessB last ⟨byte0 (strOfNums [k.f0]), m.1⟩ = true then .ok ((⟨byte0 (strOfNums [k.f0]), m.1⟩ : S28), m.2) else .error 3) a3
  have a1 := (reads_one k.f0 h0 (by omega)).bind (f := fun s l => if byte0 s < 8 then bnd (tN 1 64 l) fun n => bnd (PC.takeB n.1 n.2) fun m => if lessB last ⟨byte0 s, m.1⟩ = true then .ok ((⟨byte0 s, m.1⟩ : S28), m.2) else .error 3 else .error 3) (y := k) (e' := puts k.f1.size ++ (bytesOf k.f1 ++ [])) (by
    have : byte0 (strOfNums [k.f0]) < 8 := by rw [b]; exact h1
    simp only [if_pos this]
    exact a2)
  exact a1.of rfl (by rw [List.append_nil]; rfl)
theorem reads_change (last : S28) (c : S50) (hc : GChange c) (hl : lessB last c.f0 = true) : Reads (tChange last) c (eChange c) := by
  obtain ⟨hk, h1, h2⟩ := hc
  have r1 := reads_key last c.f0 hk hl
  cases hg : c.f1 with
  | true =>
    have hs := h2 hg
    have r2 := reads_n 0 257 0 (by omega) (by omega) (by omega) (by omega)
    have r3 := reads_b c.f2 (mx (0 - 1) 0) (by rw [hs]; rfl)
    have d : Reads (fun l => .ok ((⟨c.f0, (0 : Int) == 0, c.f2⟩ : S50), l)) c [] := by
      have : (⟨c.f0, (0 : Int) == 0, c.f2⟩ : S50) = c := by cases c; simp_all
      rw [this]
      exact Reads.done c
    have a3 := r3.bind (f := fun m l => .ok ((⟨c.f0, (0 : Int) == 0, m⟩ : S50), l)) d
    have a2 := r2.bind (f := fun n l => bnd (PC.takeB (mx (n - 1) 0) l) fun m => .ok ((⟨c.f0, n == 0, m.1⟩ : S50), m.2)) a3
    have a1 := r1.bind (f := fun k l => bnd (tN 0 257 l) fun n => bnd (PC.takeB (mx (n.1 - 1) 0) n.2) fun m => .ok ((⟨k, n.1 == 0, m.1⟩ : S50), m.2)) a2
    exact a1.of rfl (by unfold eChange; rw [hg, List.append_nil]; rfl)
  | false =>
    have r2 := reads_n 0 257 ((c.f2.size + 1 : Nat) : Int) (by omega) (by omega) (by omega) (by omega)
    rw [Int.toNat_natCast] at r2
    have r3 := reads_b c.f2 (mx (((c.f2.size + 1 : Nat) : Int) - 1) 0) (by unfold mx; rw [if_neg (by omega)]; omega)
    have d : Reads (fun l => .ok ((⟨c.f0, ((c.f2.size + 1 : Nat) : Int) == 0, c.f2⟩ : S50), l)) c [] := by
      have e : (((c.f2.size + 1 : Nat) : Int) == 0) = false := beq_eq_false_iff_ne.2 (by omega)
      have : (⟨c.f0, ((c.f2.size + 1 : Nat) : Int) == 0, c.f2⟩ : S50) = c := by rw [e]; cases c; simp_all
      rw [this]
      exact Reads.done c
    have a3 := r3.bind (f := fun m l => .ok ((⟨c.f0, ((c.f2.size + 1 : Nat) : Int) == 0, m⟩ : S50), l)) d
    have a2 := r2.bind (f := fun n l => bnd (PC.takeB (mx (n - 1) 0) l) fun m => .ok ((⟨c.f0, n == 0, m.1⟩ : S50), m.2)) a3
    have a1 := r1.bind (f := fun k l => bnd (tN 0 257 l) fun n => bnd (PC.takeB (mx (n.1 - 1) 0) n.2) fun m => .ok ((⟨k, n.1 == 0, m.1⟩ : S50), m.2)) a2
    exact a1.of rfl (by unfold eChange; rw [hg, List.append_nil]; rfl)
theorem reads_changes : ∀ (l : List S50) (last : S28), GChanges last l → Reads (tChanges l.length last) l (eChanges l)
  | [], last, _ => Reads.done []
  | c :: l, last, h => by
    obtain ⟨h1, h2, h3⟩ := h
    have a2 := (reads_changes l c.f0 h3).bind (f := fun q r => .ok (c :: q, r)) (Reads.done (c :: l))
    have a1 := (reads_change last c h2 h1).bind (f := fun x r => bnd (tChanges l.length x.f0 r) fun q => .ok (x :: q.1, q.2)) a2
    exact a1.of rfl (by rw [List.append_nil]; rfl)
theorem reads_txn (N last : Int) (t : S47) (ht : GTxn N t) (hl : last < t.f0 - N * 4294967296) : Reads (tTxn N last) t (eTxn N t) := by
  obtain ⟨h1, h2, h3, h4, h5⟩ := ht
  have r1 := reads_n 0 4294967295 (t.f0 - N * 4294967296) (by omega) (by omega) (by omega) (by omega)
  have r2 := reads_n 1 32 (t.f1.length : Int) (by omega) (by omega) (by omega) (by omega)
  rw [Int.toNat_natCast] at r2
  have r3 := reads_changes t.f1 key0 h5
  have d : Reads (fun l => .ok ((⟨N * 4294967296 + (t.f0 - N * 4294967296), t.f1⟩ : S47), l)) t [] := by
    have : (⟨N * 4294967296 + (t.f0 - N * 4294967296), t.f1⟩ : S47) = t := by
      have e : N * 4294967296 + (t.f0 - N * 4294967296) = t.f0 := by omega
      rw [e]
    rw [this]
    exact Reads.done t
  have a3 := r3.bind (f := fun q l => .ok ((⟨N * 4294967296 + (t.f0 - N * 4294967296), q⟩ : S47), l)) d
  have a2 := r2.bind (f := fun n l => bnd (tChanges n.toNat key0 l) fun q => .ok ((⟨N * 4294967296 + (t.f0 - N * 4294967296), q.1⟩ : S47), q.2)) (by rw [Int.toNat_natCast]; exact a3)
  have a1 := r1.bind (f := fun p l => if last < p then bnd (tN 1 32 l) fun n => bnd (tChanges n.1.toNat key0 n.2) fun q => .ok ((⟨N * 4294967296 + p, q.1⟩ : S47), q.2) else .error 3) (by simp only [if_pos hl]; exact a2)
  exact a1.of rfl (by rw [List.append_nil]; rfl)
theorem reads_txns (N : Int) : ∀ (l : List S47) (last : Int), GTxns N last l → Reads (tTxns N l.length last) l (eTxns N l)
  | [], last, _ => Reads.done []
  | t :: l, last, h => by
    obtain ⟨h1, h2, h3⟩ := h
    have a2 := (reads_txns N l _ h3).bind (f := fun q r => .ok (t :: q, r)) (Reads.done (t :: l))
    have a1 := (reads_txn N last t h2 h1).bind (f := fun x r => bnd (tTxns N l.length (x.f0 - N * 4294967296) r) fun q => .ok (x :: q.1, q.2)) a2
    exact a1.of rfl (by rw [List.append_nil]; rfl)
theorem reads_epoch (N : Int) (l : List S47) (h : GEpoch N l) : Reads tEpoch (N, l) (eEpoch N l) := by
  obtain ⟨h1, h2, h3, h4⟩ := h
  have r1 := reads_n 1 4294967295 N (by omega) (by omega) (by omega) (by omega)
  have r2 := reads_n 0 64 (l.length : Int) (by omega) (by omega) (by omega) (by omega)
  rw [Int.toNat_natCast] at r2
  have a3 := (reads_txns N l (-1) h4).bind (f := fun q r => .ok ((N, q), r)) (Reads.done (N, l))
  have a2 := r2.bind (f := fun n r => bnd (tTxns N n.toNat (-1) r) fun q => .ok ((N, q.1), q.2)) (by rw [Int.toNat_natCast]; exact a3)
  have a1 := r1.bind (f := fun p r => bnd (tN 0 64 r) fun n => bnd (tTxns p n.1.toNat (-1) n.2) fun q => .ok ((p, q.1), q.2)) a2
  exact a1.of rfl (by rw [List.append_nil]; rfl)
theorem reads_row (last : S28) (r : S57) (hr : GRow r) (hl : lessB last r.f0 = true) : Reads (tRow last) r (eRow r) := by
  obtain ⟨hk, h1⟩ := hr
  have r2 := reads_n 0 256 (r.f1.size : Int) (by omega) (by omega) (by omega) (by omega)
  rw [Int.toNat_natCast] at r2
  have a3 := (reads_b r.f1 _ rfl).bind (f := fun m l => .ok ((⟨r.f0, m⟩ : S57), l)) (Reads.done r)
  have a2 := r2.bind (f := fun n l => bnd (PC.takeB n l) fun m => .ok ((⟨r.f0, m.1⟩ : S57), m.2)) a3
  have a1 := (reads_key last r.f0 hk hl).bind (f := fun k l => bnd (tN 0 256 l) fun n => bnd (PC.takeB n.1 n.2) fun m => .ok ((⟨k, m.1⟩ : S57), m.2)) a2
  exact a1.of rfl (by rw [List.append_nil]; rfl)
theorem reads_rowsL : ∀ (l : List S57) (last : S28), GRowsL last l → Reads (tRowsL l.length last) l (eRowsL l)
  | [], last, _ => Reads.done []
  | r :: l, last, h => by
    obtain ⟨h1, h2, h3⟩ := h
    have a2 := (reads_rowsL l r.f0 h3).bind (f := fun q z => .ok (r :: q, z)) (Reads.done (r :: l))
    have a1 := (reads_row last r h2 h1).bind (f := fun x z => bnd (tRowsL l.length x.f0 z) fun q => .ok (x :: q.1, q.2)) a2
    exact a1.of rfl (by rw [List.append_nil]; rfl)
theorem reads_rows (l : List S57) (h : GRowsL key0 l) (hl : l.length ≤ 4611686018427387904) : Reads tRows l (eRows l) := by
  have r1 := reads_n 0 4611686018427387904 (l.length : Int) (by omega) (by omega) (by omega) (by omega)
  rw [Int.toNat_natCast] at r1
  exact r1.bind (f := fun n r => tRowsL n.toNat key0 r) (by rw [Int.toNat_natCast]; exact reads_rowsL l key0 h)
/-! ### Read, so it was written -/
/-- Whatever p reads is good, and these were its bytes. -/
def Says {β : Type} (p : List Int → Except Int (β × List Int)) (e : β → List Int) (G : β → Prop) : Prop :=
  ∀ (l : List Int) (x : β) (l' : List Int), Bytes l → p l = .ok (x, l') → l = e x ++ l' ∧ G x
theorem says_n (lo hi : Int) (h0 : 0 ≤ lo) : Says (tN lo hi) (fun n => puts n.toNat) (fun n => lo ≤ n ∧ n ≤ hi) := by
  intro l n l' hB h
  unfold tN at h
  rcases hg : gets l 0 0 with ⟨v, s, e⟩
  rw [hg] at h
  simp only at h
  split at h
  · rename_i he
    subst he
    split at h
    · rename_i hn
      injection h with h
      injection h with h1 h2
      obtain ⟨u, k, hv, hs, hk, ht, _, _⟩ := gets_inv l 0 0 v s hB (by omega) hg
      have hv' : v = (u : Int) := by simpa using hv
      have hs' : s.toNat = k := by omega
      rw [← h1, ← h2]
      refine ⟨?_, hn⟩
      show l = puts v.toNat ++ _
      rw [hs', hv', Int.toNat_natCast, ← ht, List.take_append_drop]
    · cases h
  · cases h
theorem says_b (n : Int) (hn : 0 ≤ n) : Says (PC.takeB n) bytesOf (fun s => (s.size : Int) = n) := by
  intro l s l' hB h
  unfold PC.takeB at h
  split at h
  · cases h
  · injection h with h
    injection h with h1 h2
    rw [← h1, ← h2, bytes_strs _ (hB.take _), List.take_append_drop]
    refine ⟨rfl, ?_⟩
    show ((strOfNums (l.take n.toNat)).size : Int) = n
    rw [strOfNums_size, List.length_take]
    omega
theorem bytes_one {s : ByteArray} (hs : s.size = 1) : bytesOf s = [byte0 s] := by
  rw [byte0_get (by omega)]
  obtain ⟨⟨l⟩⟩ := s
  match l, hs with
  | [b], _ => rfl
theorem says_key (last : S28) : Says (tKey last) eKey (fun k => GKey k ∧ lessB last k = true) := by
  intro l k l' hB h
  unfold tKey at h
  obtain ⟨⟨s, l1⟩, h1, h⟩ := bnd_ok h
  obtain ⟨e1, g1⟩ := says_b 1 (by decide) l s l1 hB h1
  try dsimp only at e1 g1
  have B1 := (takeB_rest h1).bytes hB
  simp only at h
  split at h
  · rename_i h8
    obtain ⟨⟨n, l2⟩, h2, h⟩ := bnd_ok h
    simp only at h2 h
    obtain ⟨e2, g2⟩ := says_n 1 64 (by decide) l1 n l2 B1 h2
    try dsimp only at e2 g2
    have B2 := (tN_rest h2).bytes B1
    obtain ⟨⟨m, l3⟩, h3, h⟩ := bnd_ok h
    simp only at h3 h
    obtain ⟨e3, g3⟩ := says_b n (by omega) l2 m l3 B2 h3
    try dsimp only at e3 g3
    split at h
    · rename_i hl
      injection h with h
      injection h with ha hb
      have hs : s.size = 1 := by omega
      have hx : bytesOf s = [byte0 s] := bytes_one hs
      rw [← ha, ← hb]
      refine ⟨?_, ⟨?_, h8, by show 0 < m.size; omega, by show m.size ≤ 64; omega⟩, hl⟩
      · rw [e1, e2, e3, hx, show n.toNat = m.size by omega]
        simp [eKey]
      · show 0 ≤ byte0 s
        rw [byte0_get (by omega)]
        omega
    · cases h
  · cases h
theorem says_change (last : S28) : Says (tChange last) eChange (fun c => GChange c ∧ lessB last c.f0 = true) := by
  intro l c l' hB h
  unfold tChange at h
  obtain ⟨⟨k, l1⟩, h1, h⟩ := bnd_ok h
  obtain ⟨e1, g1, g1'⟩ := says_key last l k l1 hB h1
  try dsimp only at e1 g1 g1'
  have B1 := (tKey_rest h1).1.bytes hB
  obtain ⟨⟨n, l2⟩, h2, h⟩ := bnd_ok h
  simp only at h2 h
  obtain ⟨e2, g2⟩ := says_n 0 257 (by decide) l1 n l2 B1 h2
  try dsimp only at e2 g2
  have B2 := (tN_rest h2).bytes B1
  obtain ⟨⟨m, l3⟩, h3, h⟩ := bnd_ok h
  simp only at h3 h
  obtain ⟨e3, g3⟩ := says_b (mx (n - 1) 0) (by unfold mx; split <;> omega) l2 m l3 B2 h3
  try dsimp only at e3 g3
  injection h with h
  injection h with ha hb
  rw [← ha, ← hb]
  by_cases hn : n = 0
  · subst hn
    have hm : m.size = 0 := by
      have : mx (0 - 1) 0 = 0 := rfl
      rw [this] at g3
      omega
    refine ⟨?_, ⟨g1, by show m.size ≤ 256; omega, fun _ => hm⟩, g1'⟩
    rw [e1, e2, e3]
    simp [eChange]
  · have he : (n == 0) = false := beq_eq_false_iff_ne.2 hn
    have hm : (m.size : Int) = n - 1 := by
      have : mx (n - 1) 0 = n - 1 := by unfold mx; rw [if_neg (by omega)]
      rw [this] at g3
      exact g3
    refine ⟨?_, ⟨g1, by show m.size ≤ 256; omega, fun h => by rw [he] at h; cases h⟩, g1'⟩
    rw [e1, e2, e3, show n.toNat = m.size + 1 by omega]
    simp [eChange, he]
theorem says_changes (n : Nat) : ∀ last, Says (tChanges n last) eChanges (fun l => GChanges last l ∧ l.length = n) := by
  induction n with
  | zero =>
    intro last l xs l' _ h
    injection h with h
    injection h with h1 h2
    rw [← h1, ← h2]
    exact ⟨rfl, trivial, rfl⟩
  | succ n ih =>
    intro last l xs l' hB h
    obtain ⟨⟨c, l1⟩, h1, h⟩ := bnd_ok h
    obtain ⟨e1, g1, g1'⟩ := says_change last l c l1 hB h1
    try dsimp only at e1 g1 g1'
    have B1 := (tChange_rest h1).bytes hB
    obtain ⟨⟨cs, l2⟩, h2, h⟩ := bnd_ok h
    obtain ⟨e2, g2, g2'⟩ := ih c.f0 l1 cs l2 B1 h2
    try dsimp only at e2 g2 g2'
    injection h with h
    injection h with ha hb
    rw [← ha, ← hb]
    exact ⟨by rw [e1, e2]; simp [eChanges], ⟨g1', g1, g2⟩, by simp [g2']⟩
theorem says_txn (N last : Int) (hl : -1 ≤ last) : Says (tTxn N last) (eTxn N) (fun t => GTxn N t ∧ last < t.f0 - N * 4294967296) := by
  intro l t l' hB h
  unfold tTxn at h
  obtain ⟨⟨p, l1⟩, h1, h⟩ := bnd_ok h
  obtain ⟨e1, g1⟩ := says_n 0 4294967295 (by decide) l p l1 hB h1
  try dsimp only at e1 g1
  have B1 := (tN_rest h1).bytes hB
  simp only at h
  split at h
  · rename_i hp
    obtain ⟨⟨n, l2⟩, h2, h⟩ := bnd_ok h
    simp only at h2 h
    obtain ⟨e2, g2⟩ := says_n 1 32 (by decide) l1 n l2 B1 h2
    try dsimp only at e2 g2
    have B2 := (tN_rest h2).bytes B1
    obtain ⟨⟨cs, l3⟩, h3, h⟩ := bnd_ok h
    simp only at h3 h
    obtain ⟨e3, g3, g3'⟩ := says_changes n.toNat key0 l2 cs l3 B2 h3
    try dsimp only at e3 g3 g3'
    injection h with h
    injection h with ha hb
    rw [← ha, ← hb]
    have ep : N * 4294967296 + p - N * 4294967296 = p := by omega
    refine ⟨?_, ⟨by show _ ≤ N * 4294967296 + p; omega, by show N * 4294967296 + p ≤ _; omega, by show 1 ≤ cs.length; omega, by show cs.length ≤ 32; omega, g3⟩, by show last < N * 4294967296 + p - N * 4294967296; omega⟩
    rw [e1, e2, e3, show n.toNat = cs.length by omega]
    simp [eTxn, ep]
  · cases h
theorem says_txns (N : Int) (n : Nat) : ∀ last, -1 ≤ last → Says (tTxns N n last) (eTxns N) (fun l => GTxns N last l ∧ l.length = n) := by
  induction n with
  | zero =>
    intro last _ l xs l' _ h
    injection h with h
    injection h with h1 h2
    rw [← h1, ← h2]
    exact ⟨rfl, trivial, rfl⟩
  | succ n ih =>
    intro last hl l xs l' hB h
    obtain ⟨⟨t, l1⟩, h1, h⟩ := bnd_ok h
    obtain ⟨e1, g1, g1'⟩ := says_txn N last hl l t l1 hB h1
    try dsimp only at e1 g1 g1'
    have B1 := (tTxn_rest h1).bytes hB
    obtain ⟨⟨ts, l2⟩, h2, h⟩ := bnd_ok h
    obtain ⟨e2, g2, g2'⟩ := ih _ (by show -1 ≤ t.f0 - N * 4294967296; omega) l1 ts l2 B1 h2
    try dsimp only at e2 g2 g2'
    injection h with h
    injection h with ha hb
    rw [← ha, ← hb]
    exact ⟨by rw [e1, e2]; simp [eTxns], ⟨g1', g1, g2⟩, by simp [g2']⟩
theorem says_epoch : Says tEpoch (fun x => eEpoch x.1 x.2) (fun x => GEpoch x.1 x.2) := by
  intro l x l' hB h
  unfold tEpoch at h
  obtain ⟨⟨N, l1⟩, h1, h⟩ := bnd_ok h
  obtain ⟨e1, g1⟩ := says_n 1 4294967295 (by decide) l N l1 hB h1
  try dsimp only at e1 g1
  have B1 := (tN_rest h1).bytes hB
  obtain ⟨⟨n, l2⟩, h2, h⟩ := bnd_ok h
  simp only at h2 h
  obtain ⟨e2, g2⟩ := says_n 0 64 (by decide) l1 n l2 B1 h2
  try dsimp only at e2 g2
  have B2 := (tN_rest h2).bytes B1
  obtain ⟨⟨ts, l3⟩, h3, h⟩ := bnd_ok h
  simp only at h3 h
  obtain ⟨e3, g3, g3'⟩ := says_txns N n.toNat (-1) (by decide) l2 ts l3 B2 h3
  try dsimp only at e3 g3 g3'
  injection h with h
  injection h with ha hb
  rw [← ha, ← hb]
  refine ⟨?_, ⟨g1.1, g1.2, by show ts.length ≤ 64; omega, g3⟩⟩
  rw [e1, e2, e3, show n.toNat = ts.length by omega]
  simp [eEpoch]
theorem tRow_rest {last : S28} {x : S57} {l l' : List Int} (h : tRow last l = .ok (x, l')) : Rest l' l := by
  unfold tRow at h
  obtain ⟨⟨k, l1⟩, h1, h⟩ := bnd_ok h
  obtain ⟨⟨n, l2⟩, h2, h⟩ := bnd_ok h
  obtain ⟨⟨m, l3⟩, h3, h⟩ := bnd_ok h
  injection h with h; injection h with _ h; subst h
  exact (takeB_rest h3).trans ((tN_rest h2).trans (tKey_rest h1).1)
theorem says_row (last : S28) : Says (tRow last) eRow (fun r => GRow r ∧ lessB last r.f0 = true) := by
  intro l c l' hB h
  unfold tRow at h
  obtain ⟨⟨k, l1⟩, h1, h⟩ := bnd_ok h
  obtain ⟨e1, g1, g1'⟩ := says_key last l k l1 hB h1
  try dsimp only at e1 g1 g1'
  have B1 := (tKey_rest h1).1.bytes hB
  obtain ⟨⟨n, l2⟩, h2, h⟩ := bnd_ok h
  simp only at h2 h
  obtain ⟨e2, g2⟩ := says_n 0 256 (by decide) l1 n l2 B1 h2
  try dsimp only at e2 g2
  have B2 := (tN_rest h2).bytes B1
  obtain ⟨⟨m, l3⟩, h3, h⟩ := bnd_ok h
  simp only at h3 h
  obtain ⟨e3, g3⟩ := says_b n (by omega) l2 m l3 B2 h3
  try dsimp only at e3 g3
  injection h with h
  injection h with ha hb
  rw [← ha, ← hb]
  refine ⟨?_, ⟨g1, by show m.size ≤ 256; omega⟩, g1'⟩
  rw [e1, e2, e3, show n.toNat = m.size by omega]
  simp [eRow]
theorem says_rowsL (n : Nat) : ∀ last, Says (tRowsL n last) eRowsL (fun l => GRowsL last l ∧ l.length = n) := by
  induction n with
  | zero =>
    intro last l xs l' _ h
    injection h with h
    injection h with h1 h2
    rw [← h1, ← h2]
    exact ⟨rfl, trivial, rfl⟩
  | succ n ih =>
    intro last l xs l' hB h
    obtain ⟨⟨c, l1⟩, h1, h⟩ := bnd_ok h
    obtain ⟨e1, g1, g1'⟩ := says_row last l c l1 hB h1
    try dsimp only at e1 g1 g1'
    have B1 := (tRow_rest h1).bytes hB
    obtain ⟨⟨cs, l2⟩, h2, h⟩ := bnd_ok h
    obtain ⟨e2, g2, g2'⟩ := ih c.f0 l1 cs l2 B1 h2
    try dsimp only at e2 g2 g2'
    injection h with h
    injection h with ha hb
    rw [← ha, ← hb]
    exact ⟨by rw [e1, e2]; simp [eRowsL], ⟨g1', g1, g2⟩, by simp [g2']⟩
theorem says_rows : Says tRows eRows (fun l => GRowsL key0 l) := by
  intro l x l' hB h
  unfold tRows at h
  obtain ⟨⟨n, l1⟩, h1, h⟩ := bnd_ok h
  obtain ⟨e1, g1⟩ := says_n 0 4611686018427387904 (by decide) l n l1 hB h1
  try dsimp only at e1 g1
  have B1 := (tN_rest h1).bytes hB
  simp only at h
  obtain ⟨e2, g2, g2'⟩ := says_rowsL n.toNat key0 l1 x l' B1 h
  try dsimp only at e2 g2 g2'
  refine ⟨?_, g2⟩
  rw [e1, e2, ← g2']
  simp [eRows]
end Go.Proofs.Ytgmdoapedhppmaa.Code

namespace Go.Proofs.Ytgmdoapedhppmaa.PC
set_option linter.unusedVariables false
set_option linter.unusedSimpArgs false
open Go.RowKit Go.Proofs.YtgmdoapedhppmaaW.PrintWords Go.Proofs.YtgmdoapedhppmaaW.PrintLast Go.Proofs.YtgmdoapedhppmaaW.PrintMore
set_option maxRecDepth 100000 in
set_option maxHeartbeats 2000000 in
theorem decode_rows (f : List Int → Option (Except Int (List S57 × List Int))) (F : RowsCalls f) (A0 : Option Addr) (c0 : Nat) (l0 : List Int) (q : Except Int (List S57 × List Int)) (w : World) (hr0 : Kd.C (Kd.int .u8) w A0 l0.length l0) (hc0 : l0.length ≤ c0) (hq : f l0 = some q) :
    Calls Try.prog 29 #[.slice A0 l0.length c0] w fun e w' => ∃ v, e = .returned (.tuple #[v, .int .i64 (epE (finish q))]) ∧ Kd.S k57 57 w' w.heap.size (fun _ => True) v (rowsL (finish q)) ∧ Below w.heap.size w w' := by
  have H := Aside0.mk (whole_rows f F A0 c0 l0 q w hr0 hc0 hq)
  clear hr0 hq F
  generalize epE (finish q) = r at H ⊢
  generalize rowsL (finish q) = xs at H ⊢
  go_enter Try.func29, Try.ntmps29
  go_wp2_with fail
  refine H.out.mono ?_
  rintro e w1 ⟨v, rfl, hS, hB⟩
  have HS := Aside0.mk hS
  have HB := Aside0.mk hB
  clear hS hB
  go_wp2
  go_ret2
  exact ⟨v, by first | rfl | simp, HS.out, HB.out⟩
set_option maxRecDepth 100000 in
set_option maxHeartbeats 2000000 in
theorem decode_epoch (f : List Int → Option (Except Int ((Int × List S47) × List Int))) (F : EpochCalls f) (A0 : Option Addr) (c0 : Nat) (l0 : List Int) (q : Except Int ((Int × List S47) × List Int)) (w : World) (hr0 : Kd.C (Kd.int .u8) w A0 l0.length l0) (hc0 : l0.length ≤ c0) (hq : f l0 = some q) :
    Calls Try.prog 28 #[.slice A0 l0.length c0] w fun e w' => ∃ v, e = .returned (.tuple #[.agg #[.int .u32 (epN (finish q)), v], .int .i64 (epE (finish q))]) ∧ Kd.S k47 47 w' w.heap.size (fun _ => True) v (epL (finish q)) ∧ Below w.heap.size w w' := by
  have HC := Aside0.mk hr0
  have H := Aside0.mk (fun (w1 : World) (hb : Below w.heap.size w w1) => whole_epoch f F A0 c0 l0 q w1 (Kd.C_below hr0 hb) hc0 hq)
  clear hr0 hq F
  generalize epE (finish q) = r at H ⊢
  generalize epN (finish q) = n at H ⊢
  generalize epL (finish q) = xs at H ⊢
  go_enter Try.func28, Try.ntmps28
  go_wp2_with (((with_reducible refine gate_dst (N := 2) rfl ?_); refine box_event ?hg (N := 2) ?hd (cs := #[.int .u32 0, .slice none 0 0]) (t := 25) ?hr ?_; (case hd => rfl); (case hg => rfl); (case hr => first | (go_simp; done) | (go_simp; rfl)); intro gk hgk w1 hbox hb; have BK := Aside0.mk hbox; have HK := Aside0.mk hgk; have HB := Aside0.mk hb; clear hb hbox hgk))
  refine (H.out w1 HB.out).mono ?_
  rintro e w2 ⟨v, rfl, hS, hB⟩
  obtain ⟨Av, cv, rfl⟩ := Kd.S_slice hS
  have K2 := Aside0.mk (blk_below BK.out hB)
  have HS := Aside0.mk hS
  have HB2 := Aside0.mk (below_step HB.out hB)
  have W1 := Aside0.mk HB.out.size
  clear hS hB H BK HB
  have hz0 : w2.cell? ⟨gk, 0, none⟩ = some (.int .u32 0) := (blk_cell K2.out 0).trans rfl
  have hz1 : w2.cell? ⟨gk, 1, none⟩ = some (.slice none 0 0) := (blk_cell K2.out 1).trans rfl
  have hf0 := blk_frozen K2.out 0
  have hf1 := blk_frozen K2.out 1
  go_wp2
  refine bodyPost_ret (by simp [results, Try.results28, go_sem, hz0, hz1]; try rfl) rfl ?_
  exact ⟨_, rfl, Kd.S_lower (Kd.S_set (Kd.S_set HS.out K2.out (by decide) 0 (.int .u32 n)) (blk_put K2.out 0 (.int .u32 n) rfl) (by decide) 1 (.slice Av xs.length cv)) W1.out, (((Stay.refl (fun k => k = gk) w2).set (.inl rfl) 0 (.int .u32 n)).set (.inl rfl) 1 (.slice Av xs.length cv)).below HB2.out (by intro k hk; have hk : k = gk := hk; rw [hk, HK.out]; exact Nat.le_refl _)⟩
end Go.Proofs.Ytgmdoapedhppmaa.PC

namespace Go.Proofs.Ytgmdoapedhppmaa.PC
set_option linter.unusedVariables false
set_option linter.unusedSimpArgs false
open Go.RowKit Go.Proofs.YtgmdoapedhppmaaW.PrintWords Go.Proofs.YtgmdoapedhppmaaW.PrintLast Go.Proofs.YtgmdoapedhppmaaW.PrintMore
/-- Decode, as a plain function: the number, the transactions, what is wrong. -/
def codec_Decode.f (l : List Int) : Option (Int × List S47 × Int) := (takeEpoch 40 l).map fun q => (epN (finish q), epL (finish q), epE (finish q))
/-- DecodeRows, as a plain function. -/
def codec_DecodeRows.f (l : List Int) : Option (List S57 × Int) := (takeRows 40 l).map fun q => (rowsL (finish q), epE (finish q))
theorem codec_Decode.calls (A0 : Option Addr) (c0 : Nat) (l0 : List Int) (r1 : Int) (r2 : List S47) (r3 : Int) (w : World) (hr0 : Kd.C (Kd.int .u8) w A0 l0.length l0) (hc0 : l0.length ≤ c0) (h : codec_Decode.f l0 = some (r1, r2, r3)) :
    Calls Try.prog 28 #[.slice A0 l0.length c0] w fun e w' => ∃ v0_ : Value, e = .returned (.tuple #[.agg #[.int .u32 r1, v0_], .int .i64 r3]) ∧ Kd.S k47 47 w' w.heap.size (fun _ => True) v0_ r2 ∧ Below w.heap.size w w' := by
  unfold codec_Decode.f at h
  obtain ⟨q, hq, h⟩ := Option.map_eq_some_iff.1 h
  injection h with h1 h2
  injection h2 with h2 h3
  rw [← h1, ← h2, ← h3]
  exact decode_epoch (takeEpoch 40) (epoch_calls 40) A0 c0 l0 q w hr0 hc0 hq
theorem codec_DecodeRows.calls (A0 : Option Addr) (c0 : Nat) (l0 : List Int) (r1 : List S57) (r2 : Int) (w : World) (hr0 : Kd.C (Kd.int .u8) w A0 l0.length l0) (hc0 : l0.length ≤ c0) (h : codec_DecodeRows.f l0 = some (r1, r2)) :
    Calls Try.prog 29 #[.slice A0 l0.length c0] w fun e w' => ∃ v0_ : Value, e = .returned (.tuple #[v0_, .int .i64 r2]) ∧ Kd.R k57 57 w' w.heap.size (fun _ => True) v0_ r1 ∧ Below w.heap.size w w' := by
  unfold codec_DecodeRows.f at h
  obtain ⟨q, hq, h⟩ := Option.map_eq_some_iff.1 h
  injection h with h1 h2
  rw [← h1, ← h2]
  refine (decode_rows (takeRows 40) (rows_calls 40) A0 c0 l0 q w hr0 hc0 hq).mono ?_
  rintro e w' ⟨v, h1, h2, h3⟩
  exact ⟨v, h1, Kd.S_R h2, h3⟩
end Go.Proofs.Ytgmdoapedhppmaa.PC

/- The codec, plain: what may be is what Right says; Encode writes the bytes. -/
namespace Go.Proofs.Ytgmdoapedhppmaa.Code
set_option linter.unusedVariables false
set_option linter.unusedSimpArgs false
open Go.RowKit Go.Proofs.Ytgmdoapedhppmaa.PC Go.Proofs.Ytgmdoapedhppmaa.B Go.Proofs.Ytgmdoapedhppmaa.Pure Go.Proofs.YtgmdoapedhppmaaW.PrintWords Go.Proofs.YtgmdoapedhppmaaW.PrintLast Go.Proofs.YtgmdoapedhppmaaW.PrintMore
/-! ### Right -/
theorem rises_iff {α : Type} (c : α → α → Int) (z : α) (l : List α) : rises c z l = true ↔ ∀ j, 0 < j → j < l.length → c (l.getD (j - 1) z) (l.getD j z) < 0 := by
  refine ⟨fun h j h0 h1 => ?_, rises_yes c z l⟩
  unfold rises at h
  have := List.all_eq_true.1 h j (List.mem_range.2 h1)
  simp only [Bool.or_eq_true, decide_eq_true_eq] at this
  omega
theorem rises_cons {α : Type} (c : α → α → Int) (z a b : α) (l : List α) : rises c z (a :: b :: l) = true ↔ c a b < 0 ∧ rises c z (b :: l) = true := by
  rw [rises_iff, rises_iff]
  refine ⟨fun h => ⟨h 1 (by omega) (by simp), fun j h0 h1 => ?_⟩, fun ⟨h, k⟩ j h0 h1 => ?_⟩
  · have := h (j + 1) (by omega) (by simpa using h1)
    obtain ⟨i, rfl⟩ : ∃ i, j = i + 1 := ⟨j - 1, by omega⟩
    simpa using this
  · by_cases e : j = 1
    · subst e; exact h
    · obtain ⟨i, rfl⟩ : ∃ i, j = i + 2 := ⟨j - 2, by omega⟩
      have := k (i + 1) (by omega) (by simpa using h1)
      simpa using this
theorem rises_nil {α : Type} (c : α → α → Int) (z : α) : rises c z [] = true := rfl
theorem rises_one {α : Type} (c : α → α → Int) (z a : α) : rises c z [a] = true := by rw [rises_iff]; intro j h0 h1; simp at h1; omega
theorem str_nil (s : ByteArray) : s.toList = ([] : List UInt8) ↔ s.size = 0 := by
  rw [ByteArray.toList_eq]
  constructor
  · intro h
    have : s.data.toList.length = 0 := by rw [h]; rfl
    simpa using this
  · intro h
    exact List.length_eq_zero_iff.1 (by simpa using h)
theorem keyB_iff (k : S28) (h : 0 ≤ k.f0) : keyB k = true ↔ GKey k := by
  unfold keyB
  simp only [Bool.and_eq_true, decide_eq_true_eq, bne_iff_ne, ne_eq, str_nil]
  exact ⟨fun ⟨⟨h1, h2⟩, h3⟩ => ⟨h, h1, by omega, by omega⟩, fun ⟨_, h1, h2, h3⟩ => ⟨⟨h1, by omega⟩, by omega⟩⟩
theorem changeB_iff (c : S50) (h : 0 ≤ c.f0.f0) : changeB c = true ↔ GChange c := by
  unfold changeB valueB
  simp only [Bool.and_eq_true, decide_eq_true_eq, Bool.or_eq_true, Bool.not_eq_true', beq_iff_eq, str_nil, keyB_iff c.f0 h]
  refine ⟨fun ⟨⟨h1, h2⟩, h3⟩ => ⟨h1, by omega, fun hg => ?_⟩, fun ⟨h1, h2, h3⟩ => ⟨⟨h1, by omega⟩, ?_⟩⟩
  · rcases h3 with h3 | h3
    · rw [hg] at h3; cases h3
    · exact h3
  · cases hg : c.f1 with
    | true => exact .inr (h3 hg)
    | false => exact .inl rfl
theorem less_key0 (k : S28) (h : GKey k) : lessB key0 k = true := by
  unfold lessB key0
  simp only [Bool.or_eq_true, Bool.and_eq_true, decide_eq_true_eq]
  have := h.lo
  by_cases e : 0 = k.f0
  · refine .inr ⟨e, ?_⟩
    have hn : k.f1.toList ≠ [] := fun hn => by have := (str_nil k.f1).1 hn; have := h.pos; omega
    have e0 : (⟨#[]⟩ : ByteArray).toList = [] := by rw [ByteArray.toList_eq]
    rw [e0]
    cases hl : k.f1.toList with
    | nil => exact absurd hl hn
    | cons a l => rfl
  · exact .inl (by omega)
theorem changes_iff : ∀ (l : List S50) (last : S28), (∀ c ∈ l, 0 ≤ c.f0.f0) → (GChanges last l ↔ (∀ c ∈ l, GChange c) ∧ (∀ c, l.head? = some c → lessB last c.f0 = true) ∧ rises (fun a b => ordI a.f0 b.f0) z50 l = true)
  | [], last, _ => by simp [GChanges, rises_nil]
  | [a], last, _ => by simp [GChanges, rises_one]; exact ⟨fun h => ⟨h.2, h.1⟩, fun h => ⟨h.2, h.1⟩⟩
  | a :: b :: l, last, hw => by
    rw [rises_cons]
    have ih := changes_iff (b :: l) a.f0 (fun c hc => hw c (List.mem_cons_of_mem _ hc))
    show (lessB last a.f0 = true ∧ GChange a ∧ GChanges a.f0 (b :: l)) ↔ _
    rw [ih, ord_less]
    constructor
    · rintro ⟨h1, h2, h3, h4, h5⟩
      exact ⟨fun c hc => (List.mem_cons.1 hc).elim (fun e => e ▸ h2) (h3 c), fun c hc => by cases hc; exact h1, h4 b rfl, h5⟩
    · rintro ⟨h1, h2, h3, h4⟩
      exact ⟨h2 a rfl, h1 a List.mem_cons_self, fun c hc => h1 c (List.mem_cons_of_mem _ hc), fun c hc => by cases hc; exact h3, h4⟩
theorem rowsL_iff : ∀ (l : List S57) (last : S28), (GRowsL last l ↔ (∀ c ∈ l, GRow c) ∧ (∀ c, l.head? = some c → lessB last c.f0 = true) ∧ rises (fun a b => ordI a.f0 b.f0) z57 l = true)
  | [], last => by simp [GRowsL, rises_nil]
  | [a], last => by simp [GRowsL, rises_one]; exact ⟨fun h => ⟨h.2, h.1⟩, fun h => ⟨h.2, h.1⟩⟩
  | a :: b :: l, last => by
    rw [rises_cons]
    have ih := rowsL_iff (b :: l) a.f0
    show (lessB last a.f0 = true ∧ GRow a ∧ GRowsL a.f0 (b :: l)) ↔ _
    rw [ih, ord_less]
    constructor
    · rintro ⟨h1, h2, h3, h4, h5⟩
      exact ⟨fun c hc => (List.mem_cons.1 hc).elim (fun e => e ▸ h2) (h3 c), fun c hc => by cases hc; exact h1, h4 b rfl, h5⟩
    · rintro ⟨h1, h2, h3, h4⟩
      exact ⟨h2 a rfl, h1 a List.mem_cons_self, fun c hc => h1 c (List.mem_cons_of_mem _ hc), fun c hc => by cases hc; exact h3, h4⟩
structure WTxn (t : S47) : Prop where
  lo : 0 ≤ t.f0
  hi : t.f0 < 18446744073709551616
  all : ∀ c ∈ t.f1, 0 ≤ c.f0.f0
structure WEpoch (N : Int) (l : List S47) : Prop where
  lo : 0 ≤ N
  hi : N ≤ 4294967295
  all : ∀ t ∈ l, WTxn t
def WRows (l : List S57) : Prop := ∀ r ∈ l, 0 ≤ r.f0.f0
theorem any_iff {α : Type} (p : α → Bool) (l : List α) : (!l.any (fun x => !p x)) = true ↔ ∀ x ∈ l, p x = true := by
  simp
theorem txnB_iff (N : Int) (t : S47) (hN : 0 ≤ N ∧ N ≤ 4294967295) (h : WTxn t) : txnB N t = true ↔ GTxn N t := by
  unfold txnB badChange
  simp only [Bool.and_eq_true, decide_eq_true_eq, any_iff]
  obtain ⟨h0, h1, h2⟩ := h
  constructor
  · rintro ⟨⟨⟨⟨a, b⟩, c⟩, d⟩, e⟩
    refine ⟨by omega, by omega, by omega, by omega, (changes_iff t.f1 key0 h2).2 ⟨fun c hc => (changeB_iff c (h2 c hc)).1 (d c hc), fun c hc => ?_, e⟩⟩
    have hm := List.mem_of_head? hc
    exact less_key0 _ ((changeB_iff c (h2 c hm)).1 (d c hm)).key
  · rintro ⟨a, b, c, d, e⟩
    obtain ⟨e1, e2, e3⟩ := (changes_iff t.f1 key0 h2).1 e
    exact ⟨⟨⟨⟨by omega, by omega⟩, by omega⟩, fun c hc => (changeB_iff c (h2 c hc)).2 (e1 c hc)⟩, e3⟩
theorem cmpI_lt (a b : Int) : cmpI a b < 0 ↔ a < b := by
  unfold cmpI
  by_cases h : a < b
  · simp [h]
  · by_cases h2 : a > b
    · simp [h, h2]
    · simp [h, h2]
theorem txns_iff (N : Int) : ∀ (l : List S47) (last : Int), (GTxns N last l ↔ (∀ t ∈ l, GTxn N t) ∧ (∀ t, l.head? = some t → last < t.f0 - N * 4294967296) ∧ rises (fun a b => cmpI a.f0 b.f0) z47 l = true)
  | [], last => by simp [GTxns, rises_nil]
  | [a], last => by simp [GTxns, rises_one]; exact ⟨fun h => ⟨h.2, h.1⟩, fun h => ⟨h.2, h.1⟩⟩
  | a :: b :: l, last => by
    rw [rises_cons]
    have ih := txns_iff N (b :: l) (a.f0 - N * 4294967296)
    show (last < a.f0 - N * 4294967296 ∧ GTxn N a ∧ GTxns N (a.f0 - N * 4294967296) (b :: l)) ↔ _
    rw [ih, cmpI_lt]
    constructor
    · rintro ⟨h1, h2, h3, h4, h5⟩
      have h6 := h4 b rfl
      exact ⟨fun c hc => (List.mem_cons.1 hc).elim (fun e => e ▸ h2) (h3 c), fun c hc => by cases hc; exact h1, by omega, h5⟩
    · rintro ⟨h1, h2, h3, h4⟩
      exact ⟨h2 a rfl, h1 a List.mem_cons_self, fun c hc => h1 c (List.mem_cons_of_mem _ hc), fun c hc => by cases hc; omega, h4⟩
theorem right_iff (N : Int) (l : List S47) (h : WEpoch N l) : rightB N l = true ↔ GEpoch N l := by
  unfold rightB badTxn
  rw [Bool.and_eq_true, Bool.and_eq_true, Bool.and_eq_true, any_iff (fun t => txnB N t)]
  simp only [Bool.not_eq_true', decide_eq_false_iff_not]
  obtain ⟨h0, h1, h2⟩ := h
  constructor
  · rintro ⟨⟨⟨a, b⟩, c⟩, d⟩
    refine ⟨by omega, by omega, by omega, (txns_iff N l (-1)).2 ⟨fun t ht => (txnB_iff N t ⟨h0, h1⟩ (h2 t ht)).1 (c t ht), fun t ht => ?_, d⟩⟩
    have hm := List.mem_of_head? ht
    have := ((txnB_iff N t ⟨h0, h1⟩ (h2 t hm)).1 (c t hm)).lo
    omega
  · rintro ⟨a, b, c, d⟩
    obtain ⟨e1, e2, e3⟩ := (txns_iff N l (-1)).1 d
    exact ⟨⟨⟨by omega, by omega⟩, fun t ht => (txnB_iff N t ⟨h0, h1⟩ (h2 t ht)).2 (e1 t ht)⟩, e3⟩
theorem rows_iff (l : List S57) (h : WRows l) : rowsB l = true ↔ GRowsL key0 l := by
  unfold rowsB badRow valueB
  rw [Bool.and_eq_true, any_iff (fun r : S57 => keyB r.f0 && decide ((r.f1.size : Int) ≤ 256)), rowsL_iff]
  simp only [Bool.and_eq_true, decide_eq_true_eq]
  constructor
  · rintro ⟨a, b⟩
    have ha : ∀ r ∈ l, GRow r := fun r hr => ⟨(keyB_iff r.f0 (h r hr)).1 (a r hr).1, by have := (a r hr).2; omega⟩
    exact ⟨ha, fun r hr => less_key0 _ (ha r (List.mem_of_head? hr)).key, b⟩
  · rintro ⟨a, _, b⟩
    exact ⟨fun r hr => ⟨(keyB_iff r.f0 (h r hr)).2 (a r hr).key, by have := (a r hr).most; omega⟩, b⟩
theorem right_f (N : Int) (l : List S47) : codec_Right.f N l = some (if rightB N l then 0 else 1) := rfl
/-! ### Encode -/
theorem puts_len (n : Nat) (h : n < 18446744073709551616) : (puts n).length ≤ 10 := puts_ten n h
theorem eKey_len (k : S28) (h : GKey k) : (eKey k).length ≤ 75 := by
  have := puts_len k.f1.size (by have := h.most; omega)
  have := h.most
  unfold eKey
  simp only [List.length_append, List.length_cons, List.length_nil, bytesOf_length]
  omega
theorem eChange_len (c : S50) (h : GChange c) : (eChange c).length ≤ 341 := by
  have h1 := eKey_len c.f0 h.key
  have h2 : (puts (if c.f1 then 0 else c.f2.size + 1)).length ≤ 10 := puts_len _ (by have := h.most; split <;> omega)
  have := h.most
  unfold eChange
  simp only [List.length_append, bytesOf_length]
  omega
theorem eChanges_len : ∀ (l : List S50), (∀ c ∈ l, GChange c) → (eChanges l).length ≤ 341 * l.length
  | [], _ => by simp [eChanges]
  | c :: l, h => by
    have h1 := eChange_len c (h c List.mem_cons_self)
    have h2 := eChanges_len l (fun x hx => h x (List.mem_cons_of_mem _ hx))
    simp only [eChanges, List.length_append, List.length_cons]
    omega
theorem gchanges_all {last : S28} {l : List S50} : GChanges last l → ∀ c ∈ l, GChange c := by
  induction l generalizing last with
  | nil => intro _ c hc; cases hc
  | cons a l ih =>
    rintro ⟨_, h2, h3⟩ c hc
    rcases List.mem_cons.1 hc with rfl | hc
    · exact h2
    · exact ih h3 c hc
theorem gtxns_all {N last : Int} {l : List S47} : GTxns N last l → ∀ c ∈ l, GTxn N c := by
  induction l generalizing last with
  | nil => intro _ c hc; cases hc
  | cons a l ih =>
    rintro ⟨_, h2, h3⟩ c hc
    rcases List.mem_cons.1 hc with rfl | hc
    · exact h2
    · exact ih h3 c hc
theorem growsL_all {last : S28} {l : List S57} : GRowsL last l → ∀ c ∈ l, GRow c := by
  induction l generalizing last with
  | nil => intro _ c hc; cases hc
  | cons a l ih =>
    rintro ⟨_, h2, h3⟩ c hc
    rcases List.mem_cons.1 hc with rfl | hc
    · exact h2
    · exact ih h3 c hc
theorem eTxn_len (N : Int) (t : S47) (h : GTxn N t) : (eTxn N t).length ≤ 10932 := by
  have h1 := puts_len (t.f0 - N * 4294967296).toNat (by have := h.hi; omega)
  have h2 := puts_len t.f1.length (by have := h.most; omega)
  have h3 := eChanges_len t.f1 (gchanges_all h.all)
  have := h.most
  unfold eTxn
  simp only [List.length_append]
  omega
theorem eTxns_len (N : Int) : ∀ (l : List S47), (∀ c ∈ l, GTxn N c) → (eTxns N l).length ≤ 10932 * l.length
  | [], _ => by simp [eTxns]
  | c :: l, h => by
    have h1 := eTxn_len N c (h c List.mem_cons_self)
    have h2 := eTxns_len N l (fun x hx => h x (List.mem_cons_of_mem _ hx))
    simp only [eTxns, List.length_append, List.length_cons]
    omega
theorem eEpoch_len (N : Int) (l : List S47) (h : GEpoch N l) : (eEpoch N l).length ≤ 700000 := by
  have h1 := puts_len N.toNat (by have := h.hi; omega)
  have h2 := puts_len l.length (by have := h.most; omega)
  have h3 := eTxns_len N l (gtxns_all h.all)
  have := h.most
  unfold eEpoch
  simp only [List.length_append]
  omega
theorem eRow_len (r : S57) (h : GRow r) : (eRow r).length ≤ 341 := by
  have h1 := eKey_len r.f0 h.key
  have h2 := puts_len r.f1.size (by have := h.most; omega)
  have := h.most
  unfold eRow
  simp only [List.length_append, bytesOf_length]
  omega
theorem eRowsL_len : ∀ (l : List S57), (∀ c ∈ l, GRow c) → (eRowsL l).length ≤ 341 * l.length
  | [], _ => by simp [eRowsL]
  | c :: l, h => by
    have h1 := eRow_len c (h c List.mem_cons_self)
    have h2 := eRowsL_len l (fun x hx => h x (List.mem_cons_of_mem _ hx))
    simp only [eRowsL, List.length_append, List.length_cons]
    omega
theorem eKey_bytes (k : S28) (h : GKey k) : Bytes (eKey k) := by
  unfold eKey
  refine Bytes.app ?_ ((puts_bytes _).app (bytesOf_bytes _))
  intro x hx
  have := List.mem_singleton.1 hx
  have := h.lo
  have := h.hi
  omega
theorem eChange_bytes (c : S50) (h : GChange c) : Bytes (eChange c) := (eKey_bytes _ h.key).app ((puts_bytes _).app (bytesOf_bytes _))
theorem bytes_nil : Bytes [] := fun x hx => by cases hx
theorem eChanges_bytes : ∀ (l : List S50), (∀ c ∈ l, GChange c) → Bytes (eChanges l)
  | [], _ => bytes_nil
  | c :: l, h => (eChange_bytes c (h c List.mem_cons_self)).app (eChanges_bytes l (fun x hx => h x (List.mem_cons_of_mem _ hx)))
theorem eTxns_bytes (N : Int) : ∀ (l : List S47), (∀ c ∈ l, GTxn N c) → Bytes (eTxns N l)
  | [], _ => bytes_nil
  | c :: l, h => ((puts_bytes _).app ((puts_bytes _).app (eChanges_bytes _ (gchanges_all (h c List.mem_cons_self).all)))).app (eTxns_bytes N l (fun x hx => h x (List.mem_cons_of_mem _ hx)))
theorem eEpoch_bytes (N : Int) (l : List S47) (h : GEpoch N l) : Bytes (eEpoch N l) := (puts_bytes _).app ((puts_bytes _).app (eTxns_bytes N l (gtxns_all h.all)))
theorem eRowsL_bytes : ∀ (l : List S57), (∀ c ∈ l, GRow c) → Bytes (eRowsL l)
  | [], _ => bytes_nil
  | c :: l, h => ((eKey_bytes _ (h c List.mem_cons_self).key).app ((puts_bytes _).app (bytesOf_bytes _))).app (eRowsL_bytes l (fun x hx => h x (List.mem_cons_of_mem _ hx)))
theorem eRows_bytes (l : List S57) (h : GRowsL key0 l) : Bytes (eRows l) := (puts_bytes _).app (eRowsL_bytes l (growsL_all h))
/-! #### The loops -/
theorem put_k (k : Nat) (hk : 10 ≤ k) (l : List Int) (n : Nat) (hn : n < 18446744073709551616) (hl : l.length + 10 < 140737488355328) : shift_PutUint.f k l (n : Int) = some (l ++ puts n) := by
  have := put_f k l (n : Int) (by omega) (by omega) hk hl
  rwa [Int.toNat_natCast] at this
theorem wrapN (n : Nat) (hn : n < 18446744073709551616) : IntKind.u64.wrap (n : Int) = (n : Int) := by rw [IntKind.wrap_u64]; omega
theorem text_k (k : Nat) (hk : 10 ≤ k) (l : List Int) (s : ByteArray) (hs : s.size ≤ 1000) (hl : l.length ≤ 100000000) : codec_text.f k l s = some (l ++ (puts s.size ++ bytesOf s)) := by
  unfold codec_text.f
  rw [wrapN s.size (by omega), put_k k hk l s.size (by omega) (by omega)]
  have := puts_len s.size (by omega)
  simp only [Option.bind_some]
  rw [if_pos (by rw [List.length_append]; omega), List.append_assoc]
theorem rd50_drop (cs : List S50) (i : Nat) (h : i < cs.length) : cs.drop i = rd_T50 cs (i : Int) :: cs.drop (i + 1) := by
  rw [List.drop_eq_getElem_cons h]
  unfold rd_T50
  rw [Int.toNat_natCast, List.getD_eq_getElem?_getD, List.getElem?_eq_getElem h]
  rfl
theorem rd47_drop (cs : List S47) (i : Nat) (h : i < cs.length) : cs.drop i = rd_T47 cs (i : Int) :: cs.drop (i + 1) := by
  rw [List.drop_eq_getElem_cons h]
  unfold rd_T47
  rw [Int.toNat_natCast, List.getD_eq_getElem?_getD, List.getElem?_eq_getElem h]
  rfl
theorem rd57_drop (cs : List S57) (i : Nat) (h : i < cs.length) : cs.drop i = rd_T57 cs (i : Int) :: cs.drop (i + 1) := by
  rw [List.drop_eq_getElem_cons h]
  unfold rd_T57
  rw [Int.toNat_natCast, List.getD_eq_getElem?_getD, List.getElem?_eq_getElem h]
  rfl
theorem wrap_succ (i : Nat) (h : i < 1000000) : wrap64 ((i : Int) + 1) = ((i + 1 : Nat) : Int) := by unfold wrap64; omega
theorem enc_l1 (l : List S47) (n j : Int) (cs : List S50) (hcs : ∀ c ∈ cs, GChange c) (hlen : cs.length ≤ 1000) (k : Nat) (hk : 10 ≤ k) : ∀ (d i : Nat) (acc : List Int), i + d = cs.length → acc.length + 341 * d ≤ 90000000 →
    codec_Encode.l1 (k + d + 1) acc l n j cs (cs.length : Int) (i : Int) = codec_Encode.l0 k (acc ++ eChanges (cs.drop i)) l n (wrap64 (j + 1)) := by
  intro d
  induction d with
  | zero =>
    intro i acc hi _
    have : i = cs.length := by omega
    subst this
    simp only [codec_Encode.l1]
    rw [if_neg (by omega), List.drop_length]
    simp [eChanges]
  | succ d ih =>
    intro i acc hi ha
    have hlt : i < cs.length := by omega
    have hd := rd50_drop cs i hlt
    have hg := hcs (rd_T50 cs (i : Int)) (by have : rd_T50 cs (i : Int) ∈ cs.drop i := by rw [hd]; exact List.mem_cons_self
                                             exact List.mem_of_mem_drop this)
    have hcl := eChange_len _ hg
    obtain ⟨K, hK⟩ : ∃ K, K = k + d + 1 := ⟨_, rfl⟩
    rw [hd, show k + (d + 1) + 1 = K + 1 by omega]
    simp only [codec_Encode.l1, eChanges]
    have hKk : 10 ≤ K := by omega
    rw [if_pos (show (i : Int) < (cs.length : Int) by omega), if_pos (show (0 : Int) ≤ (i : Int) by omega), if_pos (show (i : Int) < (cs.length : Int) by omega), if_pos (show acc.length < 140737488355328 by omega), wrap_succ i (by omega)]
    generalize rd_T50 cs (i : Int) = c at hg hcl ⊢
    rw [text_k K hKk _ c.f0.f1 (by have := hg.key.most; omega) (by rw [List.length_append, List.length_singleton]; omega)]
    simp only [Option.bind_some]
    have hkl := eKey_len c.f0 hg.key
    have e1 : acc ++ [c.f0.f0] ++ (puts c.f0.f1.size ++ bytesOf c.f0.f1) = acc ++ eKey c.f0 := by rw [List.append_assoc]; rfl
    rw [e1]
    have hl1 : (acc ++ eKey c.f0).length ≤ 90000000 + 75 := by rw [List.length_append]; omega
    have ih' := ih (i + 1) (acc ++ eChange c) (by omega) (by rw [List.length_append]; omega)
    rw [← hK] at ih'
    cases hgo : c.f1 with
    | true =>
      have hs : c.f2.size = 0 := hg.gone hgo
      rw [if_pos rfl, if_pos (by omega)]
      have e2 : acc ++ eKey c.f0 ++ [0] = acc ++ eChange c := by
        unfold eChange
        rw [hgo, if_pos rfl, bytesOf_nil.1 hs, List.append_nil, List.append_assoc, puts_lo (by decide)]
        rfl
      rw [e2, ih', List.append_assoc]
    | false =>
      rw [if_neg (by decide), wrapN c.f2.size (by have := hg.most; omega), show ((c.f2.size : Int) + 1) = ((c.f2.size + 1 : Nat) : Int) by omega, wrapN (c.f2.size + 1) (by have := hg.most; omega), put_k K hKk _ _ (by have := hg.most; omega) (by omega)]
      simp only [Option.bind_some]
      have hp := puts_len (c.f2.size + 1) (by have := hg.most; omega)
      rw [if_pos (by rw [List.length_append]; have := hg.most; omega)]
      have e2 : acc ++ eKey c.f0 ++ puts (c.f2.size + 1) ++ bytesOf c.f2 = acc ++ eChange c := by
        unfold eChange
        rw [hgo, if_neg (by decide)]
        simp only [List.append_assoc]
      rw [e2, ih', List.append_assoc]
theorem and_low (x : Int) (h0 : 0 ≤ x) (h1 : x < 18446744073709551616) : Go.bits .and .u64 x 4294967295 = x % 4294967296 := by
  have := bits_mask .u64 64 (by decide) wraps_u64 32 (by decide) x h0 (by rw [two64]; exact h1)
  simpa using this
theorem enc_l0 (N : Int) (hN : 0 ≤ N ∧ N ≤ 4294967295) (l : List S47) (hl : ∀ t ∈ l, GTxn N t) (hlen : l.length ≤ 64) : ∀ (d i : Nat) (acc : List Int), i + d = l.length → acc.length + 10932 * d ≤ 80000000 →
    ∃ s, ∀ k, codec_Encode.l0 (k + 10 + s) acc l (l.length : Int) (i : Int) = some (acc ++ eTxns N (l.drop i), 0) := by
  intro d
  induction d with
  | zero =>
    intro i acc hi _
    have : i = l.length := by omega
    subst this
    refine ⟨1, fun k => ?_⟩
    simp only [codec_Encode.l0]
    rw [if_neg (by omega), List.drop_length]
    simp [eTxns]
  | succ d ih =>
    intro i acc hi ha
    have hlt : i < l.length := by omega
    have hd := rd47_drop l i hlt
    have hg := hl (rd_T47 l (i : Int)) (by have : rd_T47 l (i : Int) ∈ l.drop i := by rw [hd]; exact List.mem_cons_self
                                           exact List.mem_of_mem_drop this)
    have htl := eTxn_len N _ hg
    obtain ⟨s, hs⟩ := ih (i + 1) (acc ++ eTxn N (rd_T47 l (i : Int))) (by omega) (by rw [List.length_append]; omega)
    refine ⟨s + (rd_T47 l (i : Int)).f1.length + 2, fun k => ?_⟩
    obtain ⟨K, hK⟩ : ∃ K, K = k + 10 + s + (rd_T47 l (i : Int)).f1.length + 1 := ⟨_, rfl⟩
    rw [hd, show k + 10 + (s + (rd_T47 l (i : Int)).f1.length + 2) = K + 1 by omega]
    simp only [codec_Encode.l0, eTxns]
    rw [if_pos (show (i : Int) < (l.length : Int) by omega), if_pos (show (0 : Int) ≤ (i : Int) by omega), if_pos (show (i : Int) < (l.length : Int) by omega)]
    generalize rd_T47 l (i : Int) = t at hg htl hs hK ⊢
    have hk1 : 10 ≤ K := by omega
    have ht0 := hg.lo
    have ht1 := hg.hi
    rw [and_low t.f0 (by omega) (by omega), show t.f0 % 4294967296 = (((t.f0 - N * 4294967296).toNat : Nat) : Int) by omega, put_k K hk1 _ _ (by omega) (by omega)]
    simp only [Option.bind_some]
    have hp := puts_len (t.f0 - N * 4294967296).toNat (by omega)
    rw [wrapN t.f1.length (by have := hg.most; omega), put_k K hk1 _ _ (by have := hg.most; omega) (by rw [List.length_append]; omega)]
    simp only [Option.bind_some]
    have hp2 := puts_len t.f1.length (by have := hg.most; omega)
    have := enc_l1 l (l.length : Int) (i : Int) t.f1 (gchanges_all hg.all) (by have := hg.most; omega) (k + 10 + s) (by omega) t.f1.length 0 (acc ++ puts (t.f0 - N * 4294967296).toNat ++ puts t.f1.length) (by omega) (by
      simp only [List.length_append]
      have := hg.most
      omega)
    rw [← hK] at this
    rw [show ((0 : Nat) : Int) = 0 from rfl] at this
    rw [this, wrap_succ i (by omega)]
    have e : acc ++ puts (t.f0 - N * 4294967296).toNat ++ puts t.f1.length ++ eChanges (t.f1.drop 0) = acc ++ eTxn N t := by
      unfold eTxn
      simp only [List.drop_zero, List.append_assoc]
    rw [e, hs, List.append_assoc]
theorem encode_ok (N : Int) (l : List S47) (h : GEpoch N l) (hw : WEpoch N l) : ∃ K, ∀ k, K ≤ k → codec_Encode.f k N l = some (eEpoch N l, 0) := by
  have hm := h.most
  have hN := h.hi
  have hN0 := h.lo
  have h1 := puts_len N.toNat (by omega)
  have h2 := puts_len l.length (by omega)
  obtain ⟨s, hs⟩ := enc_l0 N ⟨by omega, hN⟩ l (gtxns_all h.all) hm l.length 0 (puts N.toNat ++ puts l.length) (by omega) (by rw [List.length_append]; omega)
  refine ⟨10 + s, fun k hk => ?_⟩
  unfold codec_Encode.f
  rw [right_f, (right_iff N l hw).2 h]
  simp only [if_true, Option.bind_some]
  have e0 : IntKind.u64.wrap N = ((N.toNat : Nat) : Int) := by rw [IntKind.wrap_u64]; omega
  rw [e0, put_k k (by omega) [] N.toNat (by omega) (by simp), List.nil_append]
  simp only [Option.bind_some]
  rw [wrapN l.length (by omega), put_k k (by omega) _ l.length (by omega) (by omega)]
  simp only [Option.bind_some]
  have := hs (k - 10 - s)
  rw [show k - 10 - s + 10 + s = k by omega, show ((0 : Nat) : Int) = 0 from rfl] at this
  rw [this]
  simp [eEpoch]
theorem encode_no (N : Int) (l : List S47) (h : ¬ GEpoch N l) (hw : WEpoch N l) (k : Nat) : codec_Encode.f k N l = some ([], 1) := by
  unfold codec_Encode.f
  have : rightB N l = false := by
    cases hr : rightB N l with
    | false => rfl
    | true => exact absurd ((right_iff N l hw).1 hr) h
  rw [right_f, this]
  rfl
theorem encr_l0 (l : List S57) (hl : ∀ t ∈ l, GRow t) (hlen : l.length ≤ 1000) (k : Nat) : ∀ (d i : Nat) (acc : List Int), i + d = l.length → acc.length + 341 * d ≤ 80000000 →
    codec_EncodeRows.l0 (k + 10 + d + 1) acc l (l.length : Int) (i : Int) = some (acc ++ eRowsL (l.drop i), 0) := by
  intro d
  induction d with
  | zero =>
    intro i acc hi _
    have : i = l.length := by omega
    subst this
    simp only [codec_EncodeRows.l0]
    rw [if_neg (by omega), List.drop_length]
    simp [eRowsL]
  | succ d ih =>
    intro i acc hi ha
    have hlt : i < l.length := by omega
    have hd := rd57_drop l i hlt
    have hg := hl (rd_T57 l (i : Int)) (by have : rd_T57 l (i : Int) ∈ l.drop i := by rw [hd]; exact List.mem_cons_self
                                           exact List.mem_of_mem_drop this)
    have htl := eRow_len _ hg
    obtain ⟨K, hK⟩ : ∃ K, K = k + 10 + d + 1 := ⟨_, rfl⟩
    rw [hd, show k + 10 + (d + 1) + 1 = K + 1 by omega]
    simp only [codec_EncodeRows.l0, eRowsL]
    rw [if_pos (show (i : Int) < (l.length : Int) by omega), if_pos (show (0 : Int) ≤ (i : Int) by omega), if_pos (show (i : Int) < (l.length : Int) by omega), if_pos (show acc.length < 140737488355328 by omega), wrap_succ i (by omega)]
    generalize rd_T57 l (i : Int) = r at hg htl ⊢
    have hkl := eKey_len r.f0 hg.key
    rw [text_k K (by omega) _ r.f0.f1 (by have := hg.key.most; omega) (by rw [List.length_append, List.length_singleton]; omega)]
    simp only [Option.bind_some]
    have e1 : acc ++ [r.f0.f0] ++ (puts r.f0.f1.size ++ bytesOf r.f0.f1) = acc ++ eKey r.f0 := by rw [List.append_assoc]; rfl
    rw [e1, text_k K (by omega) _ r.f1 (by have := hg.most; omega) (by rw [List.length_append]; omega)]
    simp only [Option.bind_some]
    have e2 : acc ++ eKey r.f0 ++ (puts r.f1.size ++ bytesOf r.f1) = acc ++ eRow r := by rw [List.append_assoc]; rfl
    have ih' := ih (i + 1) (acc ++ eRow r) (by omega) (by rw [List.length_append]; omega)
    rw [e2, hK, ih', List.append_assoc]
theorem rowsB_f (l : List S57) (hl : l.length < 9223372036854775807) : codec_RightRows.f l = some (if rowsB l then 0 else 1) := by unfold codec_RightRows.f; rw [if_pos hl]
theorem encodeR_ok (l : List S57) (h : GRowsL key0 l) (hw : WRows l) (hlen : l.length ≤ 1000) : ∃ K, ∀ k, K ≤ k → codec_EncodeRows.f k l = some (eRows l, 0) := by
  have h2 := puts_len l.length (by omega)
  refine ⟨10 + l.length + 1, fun k hk => ?_⟩
  unfold codec_EncodeRows.f
  rw [rowsB_f l (by omega), (rows_iff l hw).2 h]
  simp only [if_true, Option.bind_some]
  rw [wrapN l.length (by omega), put_k k (by omega) [] l.length (by omega) (by simp), List.nil_append]
  simp only [Option.bind_some]
  have := encr_l0 l (growsL_all h) hlen (k - 10 - l.length - 1) l.length 0 (puts l.length) (by omega) (by omega)
  rw [show k - 10 - l.length - 1 + 10 + l.length + 1 = k by omega, show ((0 : Nat) : Int) = 0 from rfl] at this
  rw [this]
  simp [eRows]
theorem encodeR_no (l : List S57) (h : ¬ GRowsL key0 l) (hw : WRows l) (hlen : l.length < 9223372036854775807) (k : Nat) : codec_EncodeRows.f k l = some ([], 1) := by
  unfold codec_EncodeRows.f
  have : rowsB l = false := by
    cases hr : rowsB l with
    | false => rfl
    | true => exact absurd ((rows_iff l hw).1 hr) h
  rw [rowsB_f l hlen, this]
  rfl
/-! ### Decode -/
theorem decode_t {l : List Int} (hB : Bytes l) (hL : l.length ≤ LIM) : codec_Decode.f l = some (epN (finish (tEpoch l)), epL (finish (tEpoch l)), epE (finish (tEpoch l))) := by
  unfold codec_Decode.f
  rw [takeEpoch_t hB hL]
  rfl
theorem decodeR_t {l : List Int} (hB : Bytes l) (hL : l.length ≤ LIM) : codec_DecodeRows.f l = some (rowsL (finish (tRows l)), epE (finish (tRows l))) := by
  unfold codec_DecodeRows.f
  rw [takeRows_t hB hL]
  rfl
theorem decode_back (N : Int) (l : List S47) (h : GEpoch N l) : codec_Decode.f (eEpoch N l) = some (N, l, 0) := by
  have hl := eEpoch_len N l h
  have := (reads_epoch N l h).ok []
  rw [List.append_nil] at this
  rw [decode_t (eEpoch_bytes N l h) (by unfold LIM; omega), this]
  rfl
theorem decode_more (N : Int) (l : List S47) (h : GEpoch N l) (rest : List Int) (hr : rest ≠ []) (hB : Bytes rest) (hL : rest.length ≤ 90000000) : codec_Decode.f (eEpoch N l ++ rest) = some (0, [], 3) := by
  have hl := eEpoch_len N l h
  have := (reads_epoch N l h).ok rest
  rw [decode_t ((eEpoch_bytes N l h).app hB) (by rw [List.length_append]; unfold LIM; omega), this]
  have e : rest.length ≠ 0 := fun e => hr (List.length_eq_zero_iff.1 e)
  simp only [finish, if_neg e]
  rfl
theorem decode_cut (N : Int) (l : List S47) (h : GEpoch N l) (c : Nat) (hc : c < (eEpoch N l).length) : codec_Decode.f ((eEpoch N l).take c) = some (0, [], 2) := by
  have hl := eEpoch_len N l h
  rw [decode_t ((eEpoch_bytes N l h).take c) (by rw [List.length_take]; unfold LIM; omega), (reads_epoch N l h).cut c hc]
  rfl
theorem eRows_len (l : List S57) (h : GRowsL key0 l) (hlen : l.length ≤ 1000) : (eRows l).length ≤ 400000 := by
  have h2 := puts_len l.length (by omega)
  have := eRowsL_len l (growsL_all h)
  unfold eRows
  rw [List.length_append]
  omega
theorem decodeR_back (l : List S57) (h : GRowsL key0 l) (hlen : l.length ≤ 1000) : codec_DecodeRows.f (eRows l) = some (l, 0) := by
  have hl := eRows_len l h hlen
  have := (reads_rows l h (by omega)).ok []
  rw [List.append_nil] at this
  rw [decodeR_t (eRows_bytes l h) (by unfold LIM; omega), this]
  rfl
theorem decodeR_more (l : List S57) (h : GRowsL key0 l) (hlen : l.length ≤ 1000) (rest : List Int) (hr : rest ≠ []) (hB : Bytes rest) (hL : rest.length ≤ 90000000) : codec_DecodeRows.f (eRows l ++ rest) = some ([], 3) := by
  have hl := eRows_len l h hlen
  have := (reads_rows l h (by omega)).ok rest
  rw [decodeR_t ((eRows_bytes l h).app hB) (by rw [List.length_append]; unfold LIM; omega), this]
  have e : rest.length ≠ 0 := fun e => hr (List.length_eq_zero_iff.1 e)
  simp only [finish, if_neg e]
  rfl
theorem decodeR_cut (l : List S57) (h : GRowsL key0 l) (hlen : l.length ≤ 1000) (c : Nat) (hc : c < (eRows l).length) : codec_DecodeRows.f ((eRows l).take c) = some ([], 2) := by
  have hl := eRows_len l h hlen
  rw [decodeR_t ((eRows_bytes l h).take c) (by rw [List.length_take]; unfold LIM; omega), (reads_rows l h (by omega)).cut c hc]
  rfl
theorem eEpoch_ne (N : Int) (l : List S47) : eEpoch N l ≠ [] := by
  unfold eEpoch
  intro h
  exact puts_ne _ (List.append_eq_nil_iff.1 h).1
theorem eRows_ne (l : List S57) : eRows l ≠ [] := by
  unfold eRows
  intro h
  exact puts_ne _ (List.append_eq_nil_iff.1 h).1
end Go.Proofs.Ytgmdoapedhppmaa.Code

/- shown: its print as a law's (its ways to false fall away), turned by shown.py. -/
namespace Go.Proofs.Ytgmdoapedhppmaa.PC
set_option linter.unusedVariables false
set_option linter.unusedSimpArgs false
open Go.RowKit Go.Proofs.YtgmdoapedhppmaaW.PrintWords Go.Proofs.YtgmdoapedhppmaaW.PrintLast Go.Proofs.YtgmdoapedhppmaaW.PrintMore
attribute [local go_sem] max2_int min2_int max_two min_two max_three min_three max_four min_four   -- for this text's walks alone

/-! ### shownK: function 13 -/
def shownK.f (k : Nat)  : Option (Bool) := (codec_Encode.f k 1 ([] : List (S47))).bind fun bt177 => ((codec_Encode.f k 0 ([] : List (S47))).bind fun bt181 => ((codec_Decode.f (([1, 0] : List Int))).bind fun bt188 => ((codec_Decode.f (([1] : List Int))).bind fun bt197 => ((codec_Decode.f (([1, 0, 0] : List Int))).bind fun bt206 => ((codec_EncodeRows.f k (([(⟨(⟨2, (⟨#[97]⟩ : ByteArray)⟩ : S28), (⟨#[98, 99]⟩ : ByteArray)⟩ : S57)] : List (S57)))).bind fun bt215 => (if (strOfNums bt177.1).toList = ([1, 0] : List UInt8) then (if bt177.2 = 0 then (if bt181.2 = 1 then (if bt188.1 = 1 then (if (bt188.2.1.length : Int) = 0 then (if bt188.2.2 = 0 then (if bt197.2.2 = 2 then (if bt206.2.2 = 3 then (if (strOfNums bt215.1).toList = ([1, 2, 1, 97, 2, 98, 99] : List UInt8) then (if bt215.2 = 0 then ((codec_Less.f k 1 (⟨#[122]⟩ : ByteArray) 2 (⟨#[97]⟩ : ByteArray)).bind fun t219 => (some t219)) else (some false)) else (some false)) else (some false)) else (some false)) else (some false)) else (some false)) else (some false)) else (some false)) else (some false)) else (some false)))))))
theorem shownK.mono : ∀ k, LeO (shownK.f k ) (shownK.f (k + 1) ) := by
  intro  k
  unfold shownK.f
  repeat' first
      | (with_reducible exact codec_Encode.mono _ _ _)
      | (with_reducible exact codec_EncodeRows.mono _ _)
      | (with_reducible exact codec_Less.mono _ _ _ _ _)
      | (with_reducible exact LeO.refl _)
      | (with_reducible exact LeO.none _)
      | (with_reducible refine LeO.ite ?_ ?_)
      | (with_reducible refine LeO.bind ?_ (fun _ => ?_))
      | exact codec_Encode.mono _ _ _
      | exact codec_EncodeRows.mono _ _
      | exact codec_Less.mono _ _ _ _ _
      | exact LeO.none _
      | refine LeO.ite ?_ ?_
      | refine LeO.bind ?_ (fun _ => ?_)
set_option maxHeartbeats 8000000 in
set_option maxRecDepth 100000 in
theorem shownK.calls (k : Nat)  (r : Bool) (w : World) (hrt : r = true) (h : shownK.f k  = some r) :
    Calls Try.prog 13 #[] w fun e w' => e = .returned (.bool r) ∧ Below w.heap.size w w' := by
  have HRT := Aside0.mk hrt
  clear hrt
  have hu25 := Try.underlying25
  have hu28 := Try.underlying28
  have hu57 := Try.underlying57
  have HB := Aside0.mk (Below.refl w.heap.size w)
  have H : ((codec_Encode.f k 1 ([] : List (S47))).bind fun bt177 => ((codec_Encode.f k 0 ([] : List (S47))).bind fun bt181 => ((codec_Decode.f (([1, 0] : List Int))).bind fun bt188 => ((codec_Decode.f (([1] : List Int))).bind fun bt197 => ((codec_Decode.f (([1, 0, 0] : List Int))).bind fun bt206 => ((codec_EncodeRows.f k (([(⟨(⟨2, (⟨#[97]⟩ : ByteArray)⟩ : S28), (⟨#[98, 99]⟩ : ByteArray)⟩ : S57)] : List (S57)))).bind fun bt215 => (if (strOfNums bt177.1).toList = ([1, 0] : List UInt8) then (if bt177.2 = 0 then (if bt181.2 = 1 then (if bt188.1 = 1 then (if (bt188.2.1.length : Int) = 0 then (if bt188.2.2 = 0 then (if bt197.2.2 = 2 then (if bt206.2.2 = 3 then (if (strOfNums bt215.1).toList = ([1, 2, 1, 97, 2, 98, 99] : List UInt8) then (if bt215.2 = 0 then ((codec_Less.f k 1 (⟨#[122]⟩ : ByteArray) 2 (⟨#[97]⟩ : ByteArray)).bind fun t219 => (some t219)) else (some false)) else (some false)) else (some false)) else (some false)) else (some false)) else (some false)) else (some false)) else (some false)) else (some false)) else (some false)))))))) = some r := h
  clear h
  replace H := Option.bind_eq_some_iff.mp H
  obtain ⟨⟨t177, t180⟩, A10, H⟩ := H
  replace H : ((codec_Encode.f k 0 ([] : List (S47))).bind fun bt181 => ((codec_Decode.f (([1, 0] : List Int))).bind fun bt188 => ((codec_Decode.f (([1] : List Int))).bind fun bt197 => ((codec_Decode.f (([1, 0, 0] : List Int))).bind fun bt206 => ((codec_EncodeRows.f k (([(⟨(⟨2, (⟨#[97]⟩ : ByteArray)⟩ : S28), (⟨#[98, 99]⟩ : ByteArray)⟩ : S57)] : List (S57)))).bind fun bt215 => (if (strOfNums t177).toList = ([1, 0] : List UInt8) then (if t180 = 0 then (if bt181.2 = 1 then (if bt188.1 = 1 then (if (bt188.2.1.length : Int) = 0 then (if bt188.2.2 = 0 then (if bt197.2.2 = 2 then (if bt206.2.2 = 3 then (if (strOfNums bt215.1).toList = ([1, 2, 1, 97, 2, 98, 99] : List UInt8) then (if bt215.2 = 0 then ((codec_Less.f k 1 (⟨#[122]⟩ : ByteArray) 2 (⟨#[97]⟩ : ByteArray)).bind fun t219 => (some t219)) else (some false)) else (some false)) else (some false)) else (some false)) else (some false)) else (some false)) else (some false)) else (some false)) else (some false)) else (some false))))))) = some r := H
  have A1 := Aside0.mk A10
  clear A10
  replace H := Option.bind_eq_some_iff.mp H
  obtain ⟨⟨t181, t184⟩, A20, H⟩ := H
  replace H : ((codec_Decode.f (([1, 0] : List Int))).bind fun bt188 => ((codec_Decode.f (([1] : List Int))).bind fun bt197 => ((codec_Decode.f (([1, 0, 0] : List Int))).bind fun bt206 => ((codec_EncodeRows.f k (([(⟨(⟨2, (⟨#[97]⟩ : ByteArray)⟩ : S28), (⟨#[98, 99]⟩ : ByteArray)⟩ : S57)] : List (S57)))).bind fun bt215 => (if (strOfNums t177).toList = ([1, 0] : List UInt8) then (if t180 = 0 then (if t184 = 1 then (if bt188.1 = 1 then (if (bt188.2.1.length : Int) = 0 then (if bt188.2.2 = 0 then (if bt197.2.2 = 2 then (if bt206.2.2 = 3 then (if (strOfNums bt215.1).toList = ([1, 2, 1, 97, 2, 98, 99] : List UInt8) then (if bt215.2 = 0 then ((codec_Less.f k 1 (⟨#[122]⟩ : ByteArray) 2 (⟨#[97]⟩ : ByteArray)).bind fun t219 => (some t219)) else (some false)) else (some false)) else (some false)) else (some false)) else (some false)) else (some false)) else (some false)) else (some false)) else (some false)) else (some false)))))) = some r := H
  have A2 := Aside0.mk A20
  clear A20
  obtain ⟨y185, hy185⟩ : ∃ y_ : List Int, y_ = (([1, 0] : List Int)) := ⟨_, rfl⟩
  replace H : ((codec_Decode.f y185).bind fun bt188 => ((codec_Decode.f (([1] : List Int))).bind fun bt197 => ((codec_Decode.f (([1, 0, 0] : List Int))).bind fun bt206 => ((codec_EncodeRows.f k (([(⟨(⟨2, (⟨#[97]⟩ : ByteArray)⟩ : S28), (⟨#[98, 99]⟩ : ByteArray)⟩ : S57)] : List (S57)))).bind fun bt215 => (if (strOfNums t177).toList = ([1, 0] : List UInt8) then (if t180 = 0 then (if t184 = 1 then (if bt188.1 = 1 then (if (bt188.2.1.length : Int) = 0 then (if bt188.2.2 = 0 then (if bt197.2.2 = 2 then (if bt206.2.2 = 3 then (if (strOfNums bt215.1).toList = ([1, 2, 1, 97, 2, 98, 99] : List UInt8) then (if bt215.2 = 0 then ((codec_Less.f k 1 (⟨#[122]⟩ : ByteArray) 2 (⟨#[97]⟩ : ByteArray)).bind fun t219 => (some t219)) else (some false)) else (some false)) else (some false)) else (some false)) else (some false)) else (some false)) else (some false)) else (some false)) else (some false)) else (some false)))))) = some r := by first | (rw [hy185]; with_reducible exact H) | (have H2_ := (Option.bind_some _ _).symm.trans H; rw [hy185]; with_reducible exact H2_) | (have H2_ := (Option.bind_some _ _).symm.trans H; with_reducible exact H2_) | with_reducible exact H | (rw [hy185]; exact H) | exact H
  have Ny185 := Aside0.mk hy185
  clear hy185
  replace H := Option.bind_eq_some_iff.mp H
  obtain ⟨⟨t188, t189, t192⟩, A30, H⟩ := H
  replace H : ((codec_Decode.f (([1] : List Int))).bind fun bt197 => ((codec_Decode.f (([1, 0, 0] : List Int))).bind fun bt206 => ((codec_EncodeRows.f k (([(⟨(⟨2, (⟨#[97]⟩ : ByteArray)⟩ : S28), (⟨#[98, 99]⟩ : ByteArray)⟩ : S57)] : List (S57)))).bind fun bt215 => (if (strOfNums t177).toList = ([1, 0] : List UInt8) then (if t180 = 0 then (if t184 = 1 then (if t188 = 1 then (if (t189.length : Int) = 0 then (if t192 = 0 then (if bt197.2.2 = 2 then (if bt206.2.2 = 3 then (if (strOfNums bt215.1).toList = ([1, 2, 1, 97, 2, 98, 99] : List UInt8) then (if bt215.2 = 0 then ((codec_Less.f k 1 (⟨#[122]⟩ : ByteArray) 2 (⟨#[97]⟩ : ByteArray)).bind fun t219 => (some t219)) else (some false)) else (some false)) else (some false)) else (some false)) else (some false)) else (some false)) else (some false)) else (some false)) else (some false)) else (some false))))) = some r := H
  have A3 := Aside0.mk A30
  clear A30
  obtain ⟨y194, hy194⟩ : ∃ y_ : List Int, y_ = (([1] : List Int)) := ⟨_, rfl⟩
  replace H : ((codec_Decode.f y194).bind fun bt197 => ((codec_Decode.f (([1, 0, 0] : List Int))).bind fun bt206 => ((codec_EncodeRows.f k (([(⟨(⟨2, (⟨#[97]⟩ : ByteArray)⟩ : S28), (⟨#[98, 99]⟩ : ByteArray)⟩ : S57)] : List (S57)))).bind fun bt215 => (if (strOfNums t177).toList = ([1, 0] : List UInt8) then (if t180 = 0 then (if t184 = 1 then (if t188 = 1 then (if (t189.length : Int) = 0 then (if t192 = 0 then (if bt197.2.2 = 2 then (if bt206.2.2 = 3 then (if (strOfNums bt215.1).toList = ([1, 2, 1, 97, 2, 98, 99] : List UInt8) then (if bt215.2 = 0 then ((codec_Less.f k 1 (⟨#[122]⟩ : ByteArray) 2 (⟨#[97]⟩ : ByteArray)).bind fun t219 => (some t219)) else (some false)) else (some false)) else (some false)) else (some false)) else (some false)) else (some false)) else (some false)) else (some false)) else (some false)) else (some false))))) = some r := by first | (rw [hy194]; with_reducible exact H) | (have H2_ := (Option.bind_some _ _).symm.trans H; rw [hy194]; with_reducible exact H2_) | (have H2_ := (Option.bind_some _ _).symm.trans H; with_reducible exact H2_) | with_reducible exact H | (rw [hy194]; exact H) | exact H
  have Ny194 := Aside0.mk hy194
  clear hy194
  replace H := Option.bind_eq_some_iff.mp H
  obtain ⟨⟨t197, t198, t201⟩, A40, H⟩ := H
  replace H : ((codec_Decode.f (([1, 0, 0] : List Int))).bind fun bt206 => ((codec_EncodeRows.f k (([(⟨(⟨2, (⟨#[97]⟩ : ByteArray)⟩ : S28), (⟨#[98, 99]⟩ : ByteArray)⟩ : S57)] : List (S57)))).bind fun bt215 => (if (strOfNums t177).toList = ([1, 0] : List UInt8) then (if t180 = 0 then (if t184 = 1 then (if t188 = 1 then (if (t189.length : Int) = 0 then (if t192 = 0 then (if t201 = 2 then (if bt206.2.2 = 3 then (if (strOfNums bt215.1).toList = ([1, 2, 1, 97, 2, 98, 99] : List UInt8) then (if bt215.2 = 0 then ((codec_Less.f k 1 (⟨#[122]⟩ : ByteArray) 2 (⟨#[97]⟩ : ByteArray)).bind fun t219 => (some t219)) else (some false)) else (some false)) else (some false)) else (some false)) else (some false)) else (some false)) else (some false)) else (some false)) else (some false)) else (some false)))) = some r := H
  have A4 := Aside0.mk A40
  clear A40
  obtain ⟨y203, hy203⟩ : ∃ y_ : List Int, y_ = (([1, 0, 0] : List Int)) := ⟨_, rfl⟩
  replace H : ((codec_Decode.f y203).bind fun bt206 => ((codec_EncodeRows.f k (([(⟨(⟨2, (⟨#[97]⟩ : ByteArray)⟩ : S28), (⟨#[98, 99]⟩ : ByteArray)⟩ : S57)] : List (S57)))).bind fun bt215 => (if (strOfNums t177).toList = ([1, 0] : List UInt8) then (if t180 = 0 then (if t184 = 1 then (if t188 = 1 then (if (t189.length : Int) = 0 then (if t192 = 0 then (if t201 = 2 then (if bt206.2.2 = 3 then (if (strOfNums bt215.1).toList = ([1, 2, 1, 97, 2, 98, 99] : List UInt8) then (if bt215.2 = 0 then ((codec_Less.f k 1 (⟨#[122]⟩ : ByteArray) 2 (⟨#[97]⟩ : ByteArray)).bind fun t219 => (some t219)) else (some false)) else (some false)) else (some false)) else (some false)) else (some false)) else (some false)) else (some false)) else (some false)) else (some false)) else (some false)))) = some r := by first | (rw [hy203]; with_reducible exact H) | (have H2_ := (Option.bind_some _ _).symm.trans H; rw [hy203]; with_reducible exact H2_) | (have H2_ := (Option.bind_some _ _).symm.trans H; with_reducible exact H2_) | with_reducible exact H | (rw [hy203]; exact H) | exact H
  have Ny203 := Aside0.mk hy203
  clear hy203
  replace H := Option.bind_eq_some_iff.mp H
  obtain ⟨⟨t206, t207, t210⟩, A50, H⟩ := H
  replace H : ((codec_EncodeRows.f k (([(⟨(⟨2, (⟨#[97]⟩ : ByteArray)⟩ : S28), (⟨#[98, 99]⟩ : ByteArray)⟩ : S57)] : List (S57)))).bind fun bt215 => (if (strOfNums t177).toList = ([1, 0] : List UInt8) then (if t180 = 0 then (if t184 = 1 then (if t188 = 1 then (if (t189.length : Int) = 0 then (if t192 = 0 then (if t201 = 2 then (if t210 = 3 then (if (strOfNums bt215.1).toList = ([1, 2, 1, 97, 2, 98, 99] : List UInt8) then (if bt215.2 = 0 then ((codec_Less.f k 1 (⟨#[122]⟩ : ByteArray) 2 (⟨#[97]⟩ : ByteArray)).bind fun t219 => (some t219)) else (some false)) else (some false)) else (some false)) else (some false)) else (some false)) else (some false)) else (some false)) else (some false)) else (some false)) else (some false))) = some r := H
  have A5 := Aside0.mk A50
  clear A50
  obtain ⟨y212, hy212⟩ : ∃ y_ : List (S57), y_ = (([(⟨(⟨2, (⟨#[97]⟩ : ByteArray)⟩ : S28), (⟨#[98, 99]⟩ : ByteArray)⟩ : S57)] : List (S57))) := ⟨_, rfl⟩
  replace H : ((codec_EncodeRows.f k y212).bind fun bt215 => (if (strOfNums t177).toList = ([1, 0] : List UInt8) then (if t180 = 0 then (if t184 = 1 then (if t188 = 1 then (if (t189.length : Int) = 0 then (if t192 = 0 then (if t201 = 2 then (if t210 = 3 then (if (strOfNums bt215.1).toList = ([1, 2, 1, 97, 2, 98, 99] : List UInt8) then (if bt215.2 = 0 then ((codec_Less.f k 1 (⟨#[122]⟩ : ByteArray) 2 (⟨#[97]⟩ : ByteArray)).bind fun t219 => (some t219)) else (some false)) else (some false)) else (some false)) else (some false)) else (some false)) else (some false)) else (some false)) else (some false)) else (some false)) else (some false))) = some r := by first | (rw [hy212]; with_reducible exact H) | (have H2_ := (Option.bind_some _ _).symm.trans H; rw [hy212]; with_reducible exact H2_) | (have H2_ := (Option.bind_some _ _).symm.trans H; with_reducible exact H2_) | with_reducible exact H | (rw [hy212]; exact H) | exact H
  have Ny212 := Aside0.mk hy212
  clear hy212
  replace H := Option.bind_eq_some_iff.mp H
  obtain ⟨⟨t215, t216⟩, A60, H⟩ := H
  replace H : (if (strOfNums t177).toList = ([1, 0] : List UInt8) then (if t180 = 0 then (if t184 = 1 then (if t188 = 1 then (if (t189.length : Int) = 0 then (if t192 = 0 then (if t201 = 2 then (if t210 = 3 then (if (strOfNums t215).toList = ([1, 2, 1, 97, 2, 98, 99] : List UInt8) then (if t216 = 0 then ((codec_Less.f k 1 (⟨#[122]⟩ : ByteArray) 2 (⟨#[97]⟩ : ByteArray)).bind fun t219 => (some t219)) else (some false)) else (some false)) else (some false)) else (some false)) else (some false)) else (some false)) else (some false)) else (some false)) else (some false)) else (some false)) = some r := H
  have A6 := Aside0.mk A60
  clear A60
  by_cases c7 : (strOfNums t177).toList = ([1, 0] : List UInt8)
  · rw [if_pos c7] at H
    have c7b0 : ((strOfNums t177).toList == ([1, 0] : List UInt8)) = true := beq_iff_eq.mpr c7
    have c7b1 : ((strOfNums t177).toList != ([1, 0] : List UInt8)) = false := bne_eq_false_iff_eq.mpr c7
    clear c7
    by_cases c8 : t180 = 0
    · rw [if_pos c8] at H
      have c8b0 : (t180 == 0) = true := beq_iff_eq.mpr c8
      have c8b1 : (t180 != 0) = false := bne_eq_false_iff_eq.mpr c8
      clear c8
      by_cases c9 : t184 = 1
      · rw [if_pos c9] at H
        have c9b0 : (t184 == 1) = true := beq_iff_eq.mpr c9
        have c9b1 : (t184 != 1) = false := bne_eq_false_iff_eq.mpr c9
        clear c9
        by_cases c10 : t188 = 1
        · rw [if_pos c10] at H
          have c10b0 : (t188 == 1) = true := beq_iff_eq.mpr c10
          have c10b1 : (t188 != 1) = false := bne_eq_false_iff_eq.mpr c10
          clear c10
          by_cases c11 : (t189.length : Int) = 0
          · rw [if_pos c11] at H
            have c11b0 : ((t189.length : Int) == 0) = true := beq_iff_eq.mpr c11
            have c11b1 : ((t189.length : Int) != 0) = false := bne_eq_false_iff_eq.mpr c11
            clear c11
            by_cases c12 : t192 = 0
            · rw [if_pos c12] at H
              have c12b0 : (t192 == 0) = true := beq_iff_eq.mpr c12
              have c12b1 : (t192 != 0) = false := bne_eq_false_iff_eq.mpr c12
              clear c12
              by_cases c13 : t201 = 2
              · rw [if_pos c13] at H
                have c13b0 : (t201 == 2) = true := beq_iff_eq.mpr c13
                have c13b1 : (t201 != 2) = false := bne_eq_false_iff_eq.mpr c13
                clear c13
                by_cases c14 : t210 = 3
                · rw [if_pos c14] at H
                  have c14b0 : (t210 == 3) = true := beq_iff_eq.mpr c14
                  have c14b1 : (t210 != 3) = false := bne_eq_false_iff_eq.mpr c14
                  clear c14
                  by_cases c15 : (strOfNums t215).toList = ([1, 2, 1, 97, 2, 98, 99] : List UInt8)
                  · rw [if_pos c15] at H
                    have c15b0 : ((strOfNums t215).toList == ([1, 2, 1, 97, 2, 98, 99] : List UInt8)) = true := beq_iff_eq.mpr c15
                    have c15b1 : ((strOfNums t215).toList != ([1, 2, 1, 97, 2, 98, 99] : List UInt8)) = false := bne_eq_false_iff_eq.mpr c15
                    clear c15
                    by_cases c16 : t216 = 0
                    · rw [if_pos c16] at H
                      have c16b0 : (t216 == 0) = true := beq_iff_eq.mpr c16
                      have c16b1 : (t216 != 0) = false := bne_eq_false_iff_eq.mpr c16
                      clear c16
                      replace H := Option.bind_eq_some_iff.mp H
                      obtain ⟨t219, A170, H⟩ := H
                      replace H : (some t219) = some r := H
                      have A17 := Aside0.mk A170
                      clear A170
                      obtain rfl := Option.some.inj H
                      go_enter Try.func13, Try.ntmps13
                      go_wp2_with (first | ((with_reducible refine gate_callee (f := 16) rfl ?_); refine goesL_ (some 15) rfl rfl Try.func16 (by kernel_rfl) rfl #[.agg #[.int .u32 1, .slice none 0 0]] rfl (by (try simp only [List.map_toArray, List.map_cons, List.map_nil]); first | done | rfl | (simp only [List.length_drop, List.length_take]; rfl) | (rw [IntKind.wrap_u64, Int.emod_eq_of_lt (by omega) (by omega)]; rfl)) ?_; (refine (codec_Encode.calls k 1 _ _ ([] : List (S47)) t177 t180 _ ?side1 ?side2 A1.out).mono ?_); (case side1 => exact Kd.C_nil _ _); (case side2 => exact Nat.le_refl _); rintro e w18 ⟨v178, rfl, ho0, hb⟩; refine ⟨_, rfl, ?_⟩; have n0_ := Aside0.mk (Kd.R_lower ho0 (below_size (by repeat (first | (with_reducible first | exact HB.out | apply below_alloc | apply pw_below_drewN | apply below_drew1) | exact HB.out)))); have n1_ := Aside0.mk (below_step (by repeat (first | (with_reducible first | exact HB.out | apply below_alloc | apply pw_below_drewN | apply below_drew1) | exact HB.out)) hb); clear HB; have HO179 := n0_; have HB := n1_; clear n0_ n1_; (try clear hb); (try clear hb2); (try clear hk); (try clear hi); (try clear ho0)) | ((with_reducible refine gate_callee (f := 16) rfl ?_); refine goesL_ (some 20) rfl rfl Try.func16 (by kernel_rfl) rfl #[.agg #[.int .u32 0, .slice none 0 0]] rfl (by (try simp only [List.map_toArray, List.map_cons, List.map_nil]); first | done | rfl | (simp only [List.length_drop, List.length_take]; rfl) | (rw [IntKind.wrap_u64, Int.emod_eq_of_lt (by omega) (by omega)]; rfl)) ?_; (refine (codec_Encode.calls k 0 _ _ ([] : List (S47)) t181 t184 _ ?side1 ?side2 A2.out).mono ?_); (case side1 => exact Kd.C_nil _ _); (case side2 => exact Nat.le_refl _); rintro e w19 ⟨v182, rfl, ho0, hb⟩; refine ⟨_, rfl, ?_⟩; have n0_ := Aside0.mk (Kd.R_elder' (by (with_reducible repeat (first | apply Kd.R_alloc | apply Kd.R_drewN | apply Kd.R_drew)); exact HO179.out) (Kd.R_base ho0) hb); have n1_ := Aside0.mk (Kd.R_lower (Kd.R_new' ho0 (Kd.R_lt (by (with_reducible repeat (first | apply Kd.R_alloc | apply Kd.R_drewN | apply Kd.R_drew)); exact HO179.out))) (below_size (by repeat (first | (with_reducible first | exact HB.out | apply below_alloc | apply pw_below_drewN | apply below_drew1) | exact HB.out)))); have n2_ := Aside0.mk (below_step (by repeat (first | (with_reducible first | exact HB.out | apply below_alloc | apply pw_below_drewN | apply below_drew1) | exact HB.out)) hb); clear HO179; clear HB; have HO179 := n0_; have HO183 := n1_; have HB := n2_; clear n0_ n1_ n2_; (try clear hb); (try clear hb2); (try clear hk); (try clear hi); (try clear ho0)) | ((with_reducible refine gate_dst (N := 24) rfl ?_); (try (refine gate_guard (by rfl) ?_; dsimp only)); refine Kd.R_lit (Kd.int .u8) _ 5 ?hg (N := 24) ?hd (xs := ([1, 0] : List Int)) (inner := [.int .u8 1, .int .u8 0]) (ok := fun _ => True) (okp := fun _ => True) ?hr ?hp (fun _ hk => hk) trivial (Below.refl _ _) (Nat.le_refl _) (by simp) ?_; (case hd => rfl); (case hg => rfl); (case hr => first | (go_simp; done) | (go_simp; rfl)); (case hp => exact (Reps.one (show Kd.M (Kd.int .u8) _ _ _ 1 [.int .u8 1] from rfl) (Reps.one (show Kd.M (Kd.int .u8) _ _ _ 0 [.int .u8 0] from rfl) (Reps.none _ _)))); intro v186 w20 ho21 hb hg_ hnew_; clear hg_ hnew_; (first | rw [← Ny185.out] at ho21 | (simp only [Int.reduceToNat] at ho21; rw [← Ny185.out] at ho21)); have n0_ := Aside0.mk (Kd.R_elder' (by (with_reducible repeat (first | apply Kd.R_alloc | apply Kd.R_drewN | apply Kd.R_drew)); exact HO179.out) (Kd.R_base ho21) hb); have n1_ := Aside0.mk (Kd.R_elder' (by (with_reducible repeat (first | apply Kd.R_alloc | apply Kd.R_drewN | apply Kd.R_drew)); exact HO183.out) (Kd.R_base ho21) hb); have n2_ := Aside0.mk (Kd.R_lower (Kd.R_new' (Kd.R_new' ho21 (Kd.R_lt (by (with_reducible repeat (first | apply Kd.R_alloc | apply Kd.R_drewN | apply Kd.R_drew)); exact HO179.out))) (Kd.R_lt (by (with_reducible repeat (first | apply Kd.R_alloc | apply Kd.R_drewN | apply Kd.R_drew)); exact HO183.out))) (below_size (by repeat (first | (with_reducible first | exact HB.out | apply below_alloc | apply pw_below_drewN | apply below_drew1) | exact HB.out)))); have n3_ := Aside0.mk (below_step (by repeat (first | (with_reducible first | exact HB.out | apply below_alloc | apply pw_below_drewN | apply below_drew1) | exact HB.out)) hb); clear HO179; clear HO183; clear HB; have HO179 := n0_; have HO183 := n1_; have HO187 := n2_; have HB := n3_; clear n0_ n1_ n2_ n3_; clear hb ho21; obtain ⟨Ao22, co22, eo22⟩ := Kd.R_slice HO187.out; subst eo22) | ((with_reducible refine gate_callee (f := 28) rfl ?_); refine goesL_ (some 25) rfl rfl Try.func28 (by kernel_rfl) rfl #[.slice Ao22 y185.length co22] rfl (by (try simp only [List.map_toArray, List.map_cons, List.map_nil]); first | done | rfl | (simp only [List.length_drop, List.length_take]; rfl) | (rw [IntKind.wrap_u64, Int.emod_eq_of_lt (by omega) (by omega)]; rfl)) ?_; (with_reducible refine (codec_Decode.calls _ _ y185 t188 t189 t192 _ ?side1 ?side2 A3.out).mono ?_); (case side1 => repeat (first | exact (Kd.R_reads' HO187.out).2.2 | (with_reducible refine Kd.C_alloc ?_ _) | (with_reducible refine Kd.C_drewN ?_ _) | (with_reducible refine Kd.C_drew ?_))); (case side2 => exact (Kd.R_reads' HO187.out).2.1); rintro e w23 ⟨v190, rfl, ho0, hb⟩; refine ⟨_, rfl, ?_⟩; have n0_ := Aside0.mk (Kd.R_below (by (with_reducible repeat (first | apply Kd.R_alloc | apply Kd.R_drewN | apply Kd.R_drew)); exact HO179.out) hb); have n1_ := Aside0.mk (Kd.R_below (by (with_reducible repeat (first | apply Kd.R_alloc | apply Kd.R_drewN | apply Kd.R_drew)); exact HO183.out) hb); have n2_ := Aside0.mk (Kd.R_below (by (with_reducible repeat (first | apply Kd.R_alloc | apply Kd.R_drewN | apply Kd.R_drew)); exact HO187.out) hb); have n3_ := Aside0.mk (Kd.S_lower ho0 (below_size (by repeat (first | (with_reducible first | exact HB.out | apply below_alloc | apply pw_below_drewN | apply below_drew1) | exact HB.out)))); have n4_ := Aside0.mk (below_step (by repeat (first | (with_reducible first | exact HB.out | apply below_alloc | apply pw_below_drewN | apply below_drew1) | exact HB.out)) hb); clear HO179; clear HO183; clear HO187; clear HB; have HO179 := n0_; have HO183 := n1_; have HO187 := n2_; have HO191 := n3_; have HB := n4_; clear n0_ n1_ n2_ n3_ n4_; (try clear hb); (try clear hb2); (try clear hk); (try clear hi); (try clear ho0)) | ((with_reducible refine gate_dst (N := 5) rfl ?_); (try (refine gate_guard (by rfl) ?_; dsimp only)); refine box_event ?hg (N := 5) ?hd (cs := #[.int .u32 0, .slice none 0 0]) (t := 25) ?hr ?_; (case hd => rfl); (case hg => rfl); (case hr => first | (go_simp; done) | (go_simp; rfl)); intro gb193 hg w24 hbox hb; have n0_ := Aside0.mk (Kd.R_below (by (with_reducible repeat (first | apply Kd.R_alloc | apply Kd.R_drewN | apply Kd.R_drew)); exact HO179.out) hb); have n1_ := Aside0.mk (Kd.R_below (by (with_reducible repeat (first | apply Kd.R_alloc | apply Kd.R_drewN | apply Kd.R_drew)); exact HO183.out) hb); have n2_ := Aside0.mk (Kd.R_below (by (with_reducible repeat (first | apply Kd.R_alloc | apply Kd.R_drewN | apply Kd.R_drew)); exact HO187.out) hb); have n3_ := Aside0.mk (Kd.S_below (by (with_reducible repeat (first | apply Kd.S_alloc | apply Kd.S_drewN | apply Kd.S_drew)); exact HO191.out) hb); have n4_ := Aside0.mk (below_step (by repeat (first | (with_reducible first | exact HB.out | apply below_alloc | apply pw_below_drewN | apply below_drew1) | exact HB.out)) hb); have n5_ := Aside0.mk (hbox); have n6_ := Aside0.mk ((by rw [hg]; exact (below_size (by repeat (first | (with_reducible first | exact HB.out | apply below_alloc | apply pw_below_drewN | apply below_drew1) | exact HB.out))) : w.heap.size ≤ gb193)); have n7_ := Aside0.mk ((by rw [hg]; exact (below_size (by repeat (first | (with_reducible first | exact HB.out | apply below_alloc | apply pw_below_drewN | apply below_drew1) | exact HB.out))) : w.heap.size ≤ gb193)); clear HO179; clear HO183; clear HO187; clear HO191; clear HB; have HO179 := n0_; have HO183 := n1_; have HO187 := n2_; have HO191 := n3_; have HB := n4_; have BK193 := n5_; have GW193 := n6_; have GE193 := n7_; clear n0_ n1_ n2_ n3_ n4_ n5_ n6_ n7_; clear hb hbox hg; have hcz25_0 : w24.cell? ⟨gb193, 0, none⟩ = some (.int .u32 0) := (blk_cell BK193.out 0).trans rfl; have hcz25_1 : w24.cell? ⟨gb193, 1, none⟩ = some (.slice none 0 0) := (blk_cell BK193.out 1).trans rfl; have hfz25_0 := blk_frozen BK193.out 0; have hfz25_1 := blk_frozen BK193.out 1; obtain ⟨Ao26, co26, eo26⟩ := Kd.S_slice HO191.out; subst eo26) | ((with_reducible refine gate_dst (N := 29) rfl ?_); (try (refine gate_guard (by rfl) ?_; dsimp only)); refine Kd.R_lit (Kd.int .u8) _ 5 ?hg (N := 29) ?hd (xs := ([1] : List Int)) (inner := [.int .u8 1]) (ok := fun _ => True) (okp := fun _ => True) ?hr ?hp (fun _ hk => hk) trivial (Below.refl _ _) (Nat.le_refl _) (by simp) ?_; (case hd => rfl); (case hg => rfl); (case hr => first | (go_simp; done) | (go_simp; rfl)); (case hp => exact (Reps.one (show Kd.M (Kd.int .u8) _ _ _ 1 [.int .u8 1] from rfl) (Reps.none _ _))); intro v195 w27 ho28 hb hg_ hnew_; clear hg_ hnew_; (first | rw [← Ny194.out] at ho28 | (simp only [Int.reduceToNat] at ho28; rw [← Ny194.out] at ho28)); have n0_ := Aside0.mk (Kd.R_elder' (by (with_reducible repeat (first | apply Kd.R_alloc | apply Kd.R_drewN | apply Kd.R_drew)); exact (Kd.R_mono (Kd.R_far (p := ⟨gb193, 1, none⟩) (Kd.R_far (p := ⟨gb193, 0, none⟩) (Kd.R_types HO179.out BK193.out (by decide)) (fun _ hk => hk.2) (.int .u32 t188)) (fun _ hk => hk.2) (.slice Ao26 t189.length co26)) (fun _ h_ => h_.1))) (Kd.R_base ho28) hb); have n1_ := Aside0.mk (Kd.R_elder' (by (with_reducible repeat (first | apply Kd.R_alloc | apply Kd.R_drewN | apply Kd.R_drew)); exact (Kd.R_mono (Kd.R_far (p := ⟨gb193, 1, none⟩) (Kd.R_far (p := ⟨gb193, 0, none⟩) (Kd.R_types HO183.out BK193.out (by decide)) (fun _ hk => hk.2) (.int .u32 t188)) (fun _ hk => hk.2) (.slice Ao26 t189.length co26)) (fun _ h_ => h_.1))) (Kd.R_base ho28) hb); have n2_ := Aside0.mk (Kd.R_elder' (by (with_reducible repeat (first | apply Kd.R_alloc | apply Kd.R_drewN | apply Kd.R_drew)); exact (Kd.R_mono (Kd.R_far (p := ⟨gb193, 1, none⟩) (Kd.R_far (p := ⟨gb193, 0, none⟩) (Kd.R_types HO187.out BK193.out (by decide)) (fun _ hk => hk.2) (.int .u32 t188)) (fun _ hk => hk.2) (.slice Ao26 t189.length co26)) (fun _ h_ => h_.1))) (Kd.R_base ho28) hb); have n3_ := Aside0.mk (Kd.S_below (by (with_reducible repeat (first | apply Kd.S_alloc | apply Kd.S_drewN | apply Kd.S_drew)); exact (Kd.S_mono (Kd.S_far (p := ⟨gb193, 1, none⟩) (Kd.S_far (p := ⟨gb193, 0, none⟩) (Kd.S_types HO191.out BK193.out (by decide)) (fun _ hk => hk.2) (.int .u32 t188)) (fun _ hk => hk.2) (.slice Ao26 t189.length co26)) (fun _ h_ => h_.1))) hb); have n4_ := Aside0.mk (Kd.R_lower (Kd.R_new' (Kd.R_new' (Kd.R_new' ho28 (Kd.R_lt (by (with_reducible repeat (first | apply Kd.R_alloc | apply Kd.R_drewN | apply Kd.R_drew)); exact (Kd.R_mono (Kd.R_far (p := ⟨gb193, 1, none⟩) (Kd.R_far (p := ⟨gb193, 0, none⟩) (Kd.R_types HO179.out BK193.out (by decide)) (fun _ hk => hk.2) (.int .u32 t188)) (fun _ hk => hk.2) (.slice Ao26 t189.length co26)) (fun _ h_ => h_.1))))) (Kd.R_lt (by (with_reducible repeat (first | apply Kd.R_alloc | apply Kd.R_drewN | apply Kd.R_drew)); exact (Kd.R_mono (Kd.R_far (p := ⟨gb193, 1, none⟩) (Kd.R_far (p := ⟨gb193, 0, none⟩) (Kd.R_types HO183.out BK193.out (by decide)) (fun _ hk => hk.2) (.int .u32 t188)) (fun _ hk => hk.2) (.slice Ao26 t189.length co26)) (fun _ h_ => h_.1))))) (Kd.R_lt (by (with_reducible repeat (first | apply Kd.R_alloc | apply Kd.R_drewN | apply Kd.R_drew)); exact (Kd.R_mono (Kd.R_far (p := ⟨gb193, 1, none⟩) (Kd.R_far (p := ⟨gb193, 0, none⟩) (Kd.R_types HO187.out BK193.out (by decide)) (fun _ hk => hk.2) (.int .u32 t188)) (fun _ hk => hk.2) (.slice Ao26 t189.length co26)) (fun _ h_ => h_.1))))) (below_size (by repeat (first | (with_reducible first | exact HB.out | apply below_alloc | apply pw_below_drewN | apply below_drew1 | refine below_set ?_ GE193.out) | exact HB.out)))); have n5_ := Aside0.mk (blk_below (g := gb193) (o := .cells #[.int .u32 t188, .slice Ao26 t189.length co26] 25 (0, 0)) (by (with_reducible repeat (first | refine blk_drewN ?_ _ | refine blk_drew ?_ | refine blk_alloc ?_ _)); refine blk_put (cs := #[.int .u32 t188, .slice none 0 0]) ?_ 1 _ rfl; (with_reducible repeat (first | refine blk_drewN ?_ _ | refine blk_drew ?_ | refine blk_alloc ?_ _)); refine blk_put (cs := #[.int .u32 0, .slice none 0 0]) ?_ 0 _ rfl; (with_reducible repeat (first | refine blk_drewN ?_ _ | refine blk_drew ?_ | refine blk_alloc ?_ _)); exact BK193.out) hb); have n6_ := Aside0.mk (below_step (by repeat (first | (with_reducible first | exact HB.out | apply below_alloc | apply pw_below_drewN | apply below_drew1 | refine below_set ?_ GE193.out) | exact HB.out)) hb); clear HO179; clear HO183; clear HO187; clear HO191; clear BK193; clear HB; have HO179 := n0_; have HO183 := n1_; have HO187 := n2_; have HO191 := n3_; have HO196 := n4_; have BK193 := n5_; have HB := n6_; clear n0_ n1_ n2_ n3_ n4_ n5_ n6_; clear hb ho28; obtain ⟨Ao29, co29, eo29⟩ := Kd.R_slice HO196.out; subst eo29) | ((with_reducible refine gate_callee (f := 28) rfl ?_); refine goesL_ (some 30) rfl rfl Try.func28 (by kernel_rfl) rfl #[.slice Ao29 y194.length co29] rfl (by (try simp only [List.map_toArray, List.map_cons, List.map_nil]); first | done | rfl | (simp only [List.length_drop, List.length_take]; rfl) | (rw [IntKind.wrap_u64, Int.emod_eq_of_lt (by omega) (by omega)]; rfl)) ?_; (with_reducible refine (codec_Decode.calls _ _ y194 t197 t198 t201 _ ?side1 ?side2 A4.out).mono ?_); (case side1 => repeat (first | exact (Kd.R_reads' HO196.out).2.2 | (with_reducible refine Kd.C_alloc ?_ _) | (with_reducible refine Kd.C_drewN ?_ _) | (with_reducible refine Kd.C_drew ?_))); (case side2 => exact (Kd.R_reads' HO196.out).2.1); rintro e w30 ⟨v199, rfl, ho0, hb⟩; refine ⟨_, rfl, ?_⟩; have n0_ := Aside0.mk (Kd.R_below (by (with_reducible repeat (first | apply Kd.R_alloc | apply Kd.R_drewN | apply Kd.R_drew)); exact HO179.out) hb); have n1_ := Aside0.mk (Kd.R_below (by (with_reducible repeat (first | apply Kd.R_alloc | apply Kd.R_drewN | apply Kd.R_drew)); exact HO183.out) hb); have n2_ := Aside0.mk (Kd.R_below (by (with_reducible repeat (first | apply Kd.R_alloc | apply Kd.R_drewN | apply Kd.R_drew)); exact HO187.out) hb); have n3_ := Aside0.mk (Kd.S_elder' (by (with_reducible repeat (first | apply Kd.S_alloc | apply Kd.S_drewN | apply Kd.S_drew)); exact HO191.out) (Kd.S_base ho0) hb); have n4_ := Aside0.mk (Kd.R_below (by (with_reducible repeat (first | apply Kd.R_alloc | apply Kd.R_drewN | apply Kd.R_drew)); exact HO196.out) hb); have n5_ := Aside0.mk (Kd.S_lower (Kd.S_new' ho0 (Kd.S_lt (by (with_reducible repeat (first | apply Kd.S_alloc | apply Kd.S_drewN | apply Kd.S_drew)); exact HO191.out))) (below_size (by repeat (first | (with_reducible first | exact HB.out | apply below_alloc | apply pw_below_drewN | apply below_drew1 | refine below_set ?_ GE193.out) | exact HB.out)))); have n6_ := Aside0.mk (blk_below (g := gb193) (o := .cells #[.int .u32 t188, .slice Ao26 t189.length co26] 25 (0, 0)) (by (with_reducible repeat (first | refine blk_drewN ?_ _ | refine blk_drew ?_ | refine blk_alloc ?_ _)); exact BK193.out) hb); have n7_ := Aside0.mk (below_step (by repeat (first | (with_reducible first | exact HB.out | apply below_alloc | apply pw_below_drewN | apply below_drew1 | refine below_set ?_ GE193.out) | exact HB.out)) hb); clear HO179; clear HO183; clear HO187; clear HO191; clear HO196; clear BK193; clear HB; have HO179 := n0_; have HO183 := n1_; have HO187 := n2_; have HO191 := n3_; have HO196 := n4_; have HO200 := n5_; have BK193 := n6_; have HB := n7_; clear n0_ n1_ n2_ n3_ n4_ n5_ n6_ n7_; (try clear hb); (try clear hb2); (try clear hk); (try clear hi); (try clear ho0)) | ((with_reducible refine gate_dst (N := 7) rfl ?_); (try (refine gate_guard (by rfl) ?_; dsimp only)); refine box_event ?hg (N := 7) ?hd (cs := #[.int .u32 0, .slice none 0 0]) (t := 25) ?hr ?_; (case hd => rfl); (case hg => rfl); (case hr => first | (go_simp; done) | (go_simp; rfl)); intro gb202 hg w31 hbox hb; have n0_ := Aside0.mk (Kd.R_below (by (with_reducible repeat (first | apply Kd.R_alloc | apply Kd.R_drewN | apply Kd.R_drew)); exact HO179.out) hb); have n1_ := Aside0.mk (Kd.R_below (by (with_reducible repeat (first | apply Kd.R_alloc | apply Kd.R_drewN | apply Kd.R_drew)); exact HO183.out) hb); have n2_ := Aside0.mk (Kd.R_below (by (with_reducible repeat (first | apply Kd.R_alloc | apply Kd.R_drewN | apply Kd.R_drew)); exact HO187.out) hb); have n3_ := Aside0.mk (Kd.S_below (by (with_reducible repeat (first | apply Kd.S_alloc | apply Kd.S_drewN | apply Kd.S_drew)); exact HO191.out) hb); have n4_ := Aside0.mk (Kd.R_below (by (with_reducible repeat (first | apply Kd.R_alloc | apply Kd.R_drewN | apply Kd.R_drew)); exact HO196.out) hb); have n5_ := Aside0.mk (Kd.S_below (by (with_reducible repeat (first | apply Kd.S_alloc | apply Kd.S_drewN | apply Kd.S_drew)); exact HO200.out) hb); have n6_ := Aside0.mk (blk_below (g := gb193) (o := .cells #[.int .u32 t188, .slice Ao26 t189.length co26] 25 (0, 0)) (by (with_reducible repeat (first | refine blk_drewN ?_ _ | refine blk_drew ?_ | refine blk_alloc ?_ _)); exact BK193.out) hb); have n7_ := Aside0.mk (below_step (by repeat (first | (with_reducible first | exact HB.out | apply below_alloc | apply pw_below_drewN | apply below_drew1 | refine below_set ?_ GE193.out) | exact HB.out)) hb); have n8_ := Aside0.mk (hbox); have n9_ := Aside0.mk ((by rw [hg]; exact (below_size (by repeat (first | (with_reducible first | exact HB.out | apply below_alloc | apply pw_below_drewN | apply below_drew1 | refine below_set ?_ GE193.out) | exact HB.out))) : w.heap.size ≤ gb202)); have n10_ := Aside0.mk ((by rw [hg]; exact (below_size (by repeat (first | (with_reducible first | exact HB.out | apply below_alloc | apply pw_below_drewN | apply below_drew1 | refine below_set ?_ GE193.out) | exact HB.out))) : w.heap.size ≤ gb202)); have n11_ := Aside0.mk ((by rw [hg]; exact Nat.ne_of_lt (blk_lt (g := gb193) (o := .cells #[.int .u32 t188, .slice Ao26 t189.length co26] 25 (0, 0)) (by (with_reducible repeat (first | refine blk_drewN ?_ _ | refine blk_drew ?_ | refine blk_alloc ?_ _)); exact BK193.out)) : gb193 ≠ gb202)); have n12_ := Aside0.mk ((by rw [hg]; exact Nat.ne_of_gt (blk_lt (g := gb193) (o := .cells #[.int .u32 t188, .slice Ao26 t189.length co26] 25 (0, 0)) (by (with_reducible repeat (first | refine blk_drewN ?_ _ | refine blk_drew ?_ | refine blk_alloc ?_ _)); exact BK193.out)) : gb202 ≠ gb193)); clear HO179; clear HO183; clear HO187; clear HO191; clear HO196; clear HO200; clear BK193; clear HB; have HO179 := n0_; have HO183 := n1_; have HO187 := n2_; have HO191 := n3_; have HO196 := n4_; have HO200 := n5_; have BK193 := n6_; have HB := n7_; have BK202 := n8_; have GW202 := n9_; have GE202 := n10_; have NB193_202 := n11_; have NB202_193 := n12_; clear n0_ n1_ n2_ n3_ n4_ n5_ n6_ n7_ n8_ n9_ n10_ n11_ n12_; clear hb hbox hg; have hnb32 := NB202_193.out; have hnc32 := NB193_202.out; have hcz33_0 : w31.cell? ⟨gb202, 0, none⟩ = some (.int .u32 0) := (blk_cell BK202.out 0).trans rfl; have hcz33_1 : w31.cell? ⟨gb202, 1, none⟩ = some (.slice none 0 0) := (blk_cell BK202.out 1).trans rfl; have hfz33_0 := blk_frozen BK202.out 0; have hfz33_1 := blk_frozen BK202.out 1; obtain ⟨Ao34, co34, eo34⟩ := Kd.S_slice HO200.out; subst eo34) | ((with_reducible refine gate_dst (N := 34) rfl ?_); (try (refine gate_guard (by rfl) ?_; dsimp only)); refine Kd.R_lit (Kd.int .u8) _ 5 ?hg (N := 34) ?hd (xs := ([1, 0, 0] : List Int)) (inner := [.int .u8 1, .int .u8 0, .int .u8 0]) (ok := fun _ => True) (okp := fun _ => True) ?hr ?hp (fun _ hk => hk) trivial (Below.refl _ _) (Nat.le_refl _) (by simp) ?_; (case hd => rfl); (case hg => rfl); (case hr => first | (go_simp; done) | (go_simp; rfl)); (case hp => exact (Reps.one (show Kd.M (Kd.int .u8) _ _ _ 1 [.int .u8 1] from rfl) (Reps.one (show Kd.M (Kd.int .u8) _ _ _ 0 [.int .u8 0] from rfl) (Reps.one (show Kd.M (Kd.int .u8) _ _ _ 0 [.int .u8 0] from rfl) (Reps.none _ _))))); intro v204 w35 ho36 hb hg_ hnew_; clear hg_ hnew_; (first | rw [← Ny203.out] at ho36 | (simp only [Int.reduceToNat] at ho36; rw [← Ny203.out] at ho36)); have n0_ := Aside0.mk (Kd.R_elder' (by (with_reducible repeat (first | apply Kd.R_alloc | apply Kd.R_drewN | apply Kd.R_drew)); exact (Kd.R_mono (Kd.R_far (p := ⟨gb202, 1, none⟩) (Kd.R_far (p := ⟨gb202, 0, none⟩) (Kd.R_types HO179.out BK202.out (by decide)) (fun _ hk => hk.2) (.int .u32 t197)) (fun _ hk => hk.2) (.slice Ao34 t198.length co34)) (fun _ h_ => h_.1))) (Kd.R_base ho36) hb); have n1_ := Aside0.mk (Kd.R_elder' (by (with_reducible repeat (first | apply Kd.R_alloc | apply Kd.R_drewN | apply Kd.R_drew)); exact (Kd.R_mono (Kd.R_far (p := ⟨gb202, 1, none⟩) (Kd.R_far (p := ⟨gb202, 0, none⟩) (Kd.R_types HO183.out BK202.out (by decide)) (fun _ hk => hk.2) (.int .u32 t197)) (fun _ hk => hk.2) (.slice Ao34 t198.length co34)) (fun _ h_ => h_.1))) (Kd.R_base ho36) hb); have n2_ := Aside0.mk (Kd.R_elder' (by (with_reducible repeat (first | apply Kd.R_alloc | apply Kd.R_drewN | apply Kd.R_drew)); exact (Kd.R_mono (Kd.R_far (p := ⟨gb202, 1, none⟩) (Kd.R_far (p := ⟨gb202, 0, none⟩) (Kd.R_types HO187.out BK202.out (by decide)) (fun _ hk => hk.2) (.int .u32 t197)) (fun _ hk => hk.2) (.slice Ao34 t198.length co34)) (fun _ h_ => h_.1))) (Kd.R_base ho36) hb); have n3_ := Aside0.mk (Kd.S_below (by (with_reducible repeat (first | apply Kd.S_alloc | apply Kd.S_drewN | apply Kd.S_drew)); exact (Kd.S_mono (Kd.S_far (p := ⟨gb202, 1, none⟩) (Kd.S_far (p := ⟨gb202, 0, none⟩) (Kd.S_types HO191.out BK202.out (by decide)) (fun _ hk => hk.2) (.int .u32 t197)) (fun _ hk => hk.2) (.slice Ao34 t198.length co34)) (fun _ h_ => h_.1))) hb); have n4_ := Aside0.mk (Kd.R_elder' (by (with_reducible repeat (first | apply Kd.R_alloc | apply Kd.R_drewN | apply Kd.R_drew)); exact (Kd.R_mono (Kd.R_far (p := ⟨gb202, 1, none⟩) (Kd.R_far (p := ⟨gb202, 0, none⟩) (Kd.R_types HO196.out BK202.out (by decide)) (fun _ hk => hk.2) (.int .u32 t197)) (fun _ hk => hk.2) (.slice Ao34 t198.length co34)) (fun _ h_ => h_.1))) (Kd.R_base ho36) hb); have n5_ := Aside0.mk (Kd.S_below (by (with_reducible repeat (first | apply Kd.S_alloc | apply Kd.S_drewN | apply Kd.S_drew)); exact (Kd.S_mono (Kd.S_far (p := ⟨gb202, 1, none⟩) (Kd.S_far (p := ⟨gb202, 0, none⟩) (Kd.S_types HO200.out BK202.out (by decide)) (fun _ hk => hk.2) (.int .u32 t197)) (fun _ hk => hk.2) (.slice Ao34 t198.length co34)) (fun _ h_ => h_.1))) hb); have n6_ := Aside0.mk (Kd.R_lower (Kd.R_new' (Kd.R_new' (Kd.R_new' (Kd.R_new' ho36 (Kd.R_lt (by (with_reducible repeat (first | apply Kd.R_alloc | apply Kd.R_drewN | apply Kd.R_drew)); exact (Kd.R_mono (Kd.R_far (p := ⟨gb202, 1, none⟩) (Kd.R_far (p := ⟨gb202, 0, none⟩) (Kd.R_types HO179.out BK202.out (by decide)) (fun _ hk => hk.2) (.int .u32 t197)) (fun _ hk => hk.2) (.slice Ao34 t198.length co34)) (fun _ h_ => h_.1))))) (Kd.R_lt (by (with_reducible repeat (first | apply Kd.R_alloc | apply Kd.R_drewN | apply Kd.R_drew)); exact (Kd.R_mono (Kd.R_far (p := ⟨gb202, 1, none⟩) (Kd.R_far (p := ⟨gb202, 0, none⟩) (Kd.R_types HO183.out BK202.out (by decide)) (fun _ hk => hk.2) (.int .u32 t197)) (fun _ hk => hk.2) (.slice Ao34 t198.length co34)) (fun _ h_ => h_.1))))) (Kd.R_lt (by (with_reducible repeat (first | apply Kd.R_alloc | apply Kd.R_drewN | apply Kd.R_drew)); exact (Kd.R_mono (Kd.R_far (p := ⟨gb202, 1, none⟩) (Kd.R_far (p := ⟨gb202, 0, none⟩) (Kd.R_types HO187.out BK202.out (by decide)) (fun _ hk => hk.2) (.int .u32 t197)) (fun _ hk => hk.2) (.slice Ao34 t198.length co34)) (fun _ h_ => h_.1))))) (Kd.R_lt (by (with_reducible repeat (first | apply Kd.R_alloc | apply Kd.R_drewN | apply Kd.R_drew)); exact (Kd.R_mono (Kd.R_far (p := ⟨gb202, 1, none⟩) (Kd.R_far (p := ⟨gb202, 0, none⟩) (Kd.R_types HO196.out BK202.out (by decide)) (fun _ hk => hk.2) (.int .u32 t197)) (fun _ hk => hk.2) (.slice Ao34 t198.length co34)) (fun _ h_ => h_.1))))) (below_size (by repeat (first | (with_reducible first | exact HB.out | apply below_alloc | apply pw_below_drewN | apply below_drew1 | refine below_set ?_ GE193.out | refine below_set ?_ GE202.out) | exact HB.out)))); have n7_ := Aside0.mk (blk_below (g := gb193) (o := .cells #[.int .u32 t188, .slice Ao26 t189.length co26] 25 (0, 0)) (by (with_reducible repeat (first | refine blk_drewN ?_ _ | refine blk_drew ?_ | refine blk_alloc ?_ _)); refine blk_far ?_ NB193_202.out _; (with_reducible repeat (first | refine blk_drewN ?_ _ | refine blk_drew ?_ | refine blk_alloc ?_ _)); refine blk_far ?_ NB193_202.out _; (with_reducible repeat (first | refine blk_drewN ?_ _ | refine blk_drew ?_ | refine blk_alloc ?_ _)); exact BK193.out) hb); have n8_ := Aside0.mk (blk_below (g := gb202) (o := .cells #[.int .u32 t197, .slice Ao34 t198.length co34] 25 (0, 0)) (by (with_reducible repeat (first | refine blk_drewN ?_ _ | refine blk_drew ?_ | refine blk_alloc ?_ _)); refine blk_put (cs := #[.int .u32 t197, .slice none 0 0]) ?_ 1 _ rfl; (with_reducible repeat (first | refine blk_drewN ?_ _ | refine blk_drew ?_ | refine blk_alloc ?_ _)); refine blk_put (cs := #[.int .u32 0, .slice none 0 0]) ?_ 0 _ rfl; (with_reducible repeat (first | refine blk_drewN ?_ _ | refine blk_drew ?_ | refine blk_alloc ?_ _)); exact BK202.out) hb); have n9_ := Aside0.mk (below_step (by repeat (first | (with_reducible first | exact HB.out | apply below_alloc | apply pw_below_drewN | apply below_drew1 | refine below_set ?_ GE193.out | refine below_set ?_ GE202.out) | exact HB.out)) hb); clear HO179; clear HO183; clear HO187; clear HO191; clear HO196; clear HO200; clear BK193; clear BK202; clear HB; have HO179 := n0_; have HO183 := n1_; have HO187 := n2_; have HO191 := n3_; have HO196 := n4_; have HO200 := n5_; have HO205 := n6_; have BK193 := n7_; have BK202 := n8_; have HB := n9_; clear n0_ n1_ n2_ n3_ n4_ n5_ n6_ n7_ n8_ n9_; clear hb ho36; obtain ⟨Ao37, co37, eo37⟩ := Kd.R_slice HO205.out; subst eo37) | ((with_reducible refine gate_callee (f := 28) rfl ?_); refine goesL_ (some 35) rfl rfl Try.func28 (by kernel_rfl) rfl #[.slice Ao37 y203.length co37] rfl (by (try simp only [List.map_toArray, List.map_cons, List.map_nil]); first | done | rfl | (simp only [List.length_drop, List.length_take]; rfl) | (rw [IntKind.wrap_u64, Int.emod_eq_of_lt (by omega) (by omega)]; rfl)) ?_; (with_reducible refine (codec_Decode.calls _ _ y203 t206 t207 t210 _ ?side1 ?side2 A5.out).mono ?_); (case side1 => repeat (first | exact (Kd.R_reads' HO205.out).2.2 | (with_reducible refine Kd.C_alloc ?_ _) | (with_reducible refine Kd.C_drewN ?_ _) | (with_reducible refine Kd.C_drew ?_))); (case side2 => exact (Kd.R_reads' HO205.out).2.1); rintro e w38 ⟨v208, rfl, ho0, hb⟩; refine ⟨_, rfl, ?_⟩; have n0_ := Aside0.mk (Kd.R_below (by (with_reducible repeat (first | apply Kd.R_alloc | apply Kd.R_drewN | apply Kd.R_drew)); exact HO179.out) hb); have n1_ := Aside0.mk (Kd.R_below (by (with_reducible repeat (first | apply Kd.R_alloc | apply Kd.R_drewN | apply Kd.R_drew)); exact HO183.out) hb); have n2_ := Aside0.mk (Kd.R_below (by (with_reducible repeat (first | apply Kd.R_alloc | apply Kd.R_drewN | apply Kd.R_drew)); exact HO187.out) hb); have n3_ := Aside0.mk (Kd.S_elder' (by (with_reducible repeat (first | apply Kd.S_alloc | apply Kd.S_drewN | apply Kd.S_drew)); exact HO191.out) (Kd.S_base ho0) hb); have n4_ := Aside0.mk (Kd.R_below (by (with_reducible repeat (first | apply Kd.R_alloc | apply Kd.R_drewN | apply Kd.R_drew)); exact HO196.out) hb); have n5_ := Aside0.mk (Kd.S_elder' (by (with_reducible repeat (first | apply Kd.S_alloc | apply Kd.S_drewN | apply Kd.S_drew)); exact HO200.out) (Kd.S_base ho0) hb); have n6_ := Aside0.mk (Kd.R_below (by (with_reducible repeat (first | apply Kd.R_alloc | apply Kd.R_drewN | apply Kd.R_drew)); exact HO205.out) hb); have n7_ := Aside0.mk (Kd.S_lower (Kd.S_new' (Kd.S_new' ho0 (Kd.S_lt (by (with_reducible repeat (first | apply Kd.S_alloc | apply Kd.S_drewN | apply Kd.S_drew)); exact HO191.out))) (Kd.S_lt (by (with_reducible repeat (first | apply Kd.S_alloc | apply Kd.S_drewN | apply Kd.S_drew)); exact HO200.out))) (below_size (by repeat (first | (with_reducible first | exact HB.out | apply below_alloc | apply pw_below_drewN | apply below_drew1 | refine below_set ?_ GE193.out | refine below_set ?_ GE202.out) | exact HB.out)))); have n8_ := Aside0.mk (blk_below (g := gb193) (o := .cells #[.int .u32 t188, .slice Ao26 t189.length co26] 25 (0, 0)) (by (with_reducible repeat (first | refine blk_drewN ?_ _ | refine blk_drew ?_ | refine blk_alloc ?_ _)); exact BK193.out) hb); have n9_ := Aside0.mk (blk_below (g := gb202) (o := .cells #[.int .u32 t197, .slice Ao34 t198.length co34] 25 (0, 0)) (by (with_reducible repeat (first | refine blk_drewN ?_ _ | refine blk_drew ?_ | refine blk_alloc ?_ _)); exact BK202.out) hb); have n10_ := Aside0.mk (below_step (by repeat (first | (with_reducible first | exact HB.out | apply below_alloc | apply pw_below_drewN | apply below_drew1 | refine below_set ?_ GE193.out | refine below_set ?_ GE202.out) | exact HB.out)) hb); clear HO179; clear HO183; clear HO187; clear HO191; clear HO196; clear HO200; clear HO205; clear BK193; clear BK202; clear HB; have HO179 := n0_; have HO183 := n1_; have HO187 := n2_; have HO191 := n3_; have HO196 := n4_; have HO200 := n5_; have HO205 := n6_; have HO209 := n7_; have BK193 := n8_; have BK202 := n9_; have HB := n10_; clear n0_ n1_ n2_ n3_ n4_ n5_ n6_ n7_ n8_ n9_ n10_; (try clear hb); (try clear hb2); (try clear hk); (try clear hi); (try clear ho0)) | ((with_reducible refine gate_dst (N := 9) rfl ?_); (try (refine gate_guard (by rfl) ?_; dsimp only)); refine box_event ?hg (N := 9) ?hd (cs := #[.int .u32 0, .slice none 0 0]) (t := 25) ?hr ?_; (case hd => rfl); (case hg => rfl); (case hr => first | (go_simp; done) | (go_simp; rfl)); intro gb211 hg w39 hbox hb; have n0_ := Aside0.mk (Kd.R_below (by (with_reducible repeat (first | apply Kd.R_alloc | apply Kd.R_drewN | apply Kd.R_drew)); exact HO179.out) hb); have n1_ := Aside0.mk (Kd.R_below (by (with_reducible repeat (first | apply Kd.R_alloc | apply Kd.R_drewN | apply Kd.R_drew)); exact HO183.out) hb); have n2_ := Aside0.mk (Kd.R_below (by (with_reducible repeat (first | apply Kd.R_alloc | apply Kd.R_drewN | apply Kd.R_drew)); exact HO187.out) hb); have n3_ := Aside0.mk (Kd.S_below (by (with_reducible repeat (first | apply Kd.S_alloc | apply Kd.S_drewN | apply Kd.S_drew)); exact HO191.out) hb); have n4_ := Aside0.mk (Kd.R_below (by (with_reducible repeat (first | apply Kd.R_alloc | apply Kd.R_drewN | apply Kd.R_drew)); exact HO196.out) hb); have n5_ := Aside0.mk (Kd.S_below (by (with_reducible repeat (first | apply Kd.S_alloc | apply Kd.S_drewN | apply Kd.S_drew)); exact HO200.out) hb); have n6_ := Aside0.mk (Kd.R_below (by (with_reducible repeat (first | apply Kd.R_alloc | apply Kd.R_drewN | apply Kd.R_drew)); exact HO205.out) hb); have n7_ := Aside0.mk (Kd.S_below (by (with_reducible repeat (first | apply Kd.S_alloc | apply Kd.S_drewN | apply Kd.S_drew)); exact HO209.out) hb); have n8_ := Aside0.mk (blk_below (g := gb193) (o := .cells #[.int .u32 t188, .slice Ao26 t189.length co26] 25 (0, 0)) (by (with_reducible repeat (first | refine blk_drewN ?_ _ | refine blk_drew ?_ | refine blk_alloc ?_ _)); exact BK193.out) hb); have n9_ := Aside0.mk (blk_below (g := gb202) (o := .cells #[.int .u32 t197, .slice Ao34 t198.length co34] 25 (0, 0)) (by (with_reducible repeat (first | refine blk_drewN ?_ _ | refine blk_drew ?_ | refine blk_alloc ?_ _)); exact BK202.out) hb); have n10_ := Aside0.mk (below_step (by repeat (first | (with_reducible first | exact HB.out | apply below_alloc | apply pw_below_drewN | apply below_drew1 | refine below_set ?_ GE193.out | refine below_set ?_ GE202.out) | exact HB.out)) hb); have n11_ := Aside0.mk (hbox); have n12_ := Aside0.mk ((by rw [hg]; exact (below_size (by repeat (first | (with_reducible first | exact HB.out | apply below_alloc | apply pw_below_drewN | apply below_drew1 | refine below_set ?_ GE193.out | refine below_set ?_ GE202.out) | exact HB.out))) : w.heap.size ≤ gb211)); have n13_ := Aside0.mk ((by rw [hg]; exact (below_size (by repeat (first | (with_reducible first | exact HB.out | apply below_alloc | apply pw_below_drewN | apply below_drew1 | refine below_set ?_ GE193.out | refine below_set ?_ GE202.out) | exact HB.out))) : w.heap.size ≤ gb211)); have n14_ := Aside0.mk ((by rw [hg]; exact Nat.ne_of_lt (blk_lt (g := gb193) (o := .cells #[.int .u32 t188, .slice Ao26 t189.length co26] 25 (0, 0)) (by (with_reducible repeat (first | refine blk_drewN ?_ _ | refine blk_drew ?_ | refine blk_alloc ?_ _)); exact BK193.out)) : gb193 ≠ gb211)); have n15_ := Aside0.mk ((by rw [hg]; exact Nat.ne_of_gt (blk_lt (g := gb193) (o := .cells #[.int .u32 t188, .slice Ao26 t189.length co26] 25 (0, 0)) (by (with_reducible repeat (first | refine blk_drewN ?_ _ | refine blk_drew ?_ | refine blk_alloc ?_ _)); exact BK193.out)) : gb211 ≠ gb193)); have n16_ := Aside0.mk ((by rw [hg]; exact Nat.ne_of_lt (blk_lt (g := gb202) (o := .cells #[.int .u32 t197, .slice Ao34 t198.length co34] 25 (0, 0)) (by (with_reducible repeat (first | refine blk_drewN ?_ _ | refine blk_drew ?_ | refine blk_alloc ?_ _)); exact BK202.out)) : gb202 ≠ gb211)); have n17_ := Aside0.mk ((by rw [hg]; exact Nat.ne_of_gt (blk_lt (g := gb202) (o := .cells #[.int .u32 t197, .slice Ao34 t198.length co34] 25 (0, 0)) (by (with_reducible repeat (first | refine blk_drewN ?_ _ | refine blk_drew ?_ | refine blk_alloc ?_ _)); exact BK202.out)) : gb211 ≠ gb202)); clear HO179; clear HO183; clear HO187; clear HO191; clear HO196; clear HO200; clear HO205; clear HO209; clear BK193; clear BK202; clear HB; have HO179 := n0_; have HO183 := n1_; have HO187 := n2_; have HO191 := n3_; have HO196 := n4_; have HO200 := n5_; have HO205 := n6_; have HO209 := n7_; have BK193 := n8_; have BK202 := n9_; have HB := n10_; have BK211 := n11_; have GW211 := n12_; have GE211 := n13_; have NB193_211 := n14_; have NB211_193 := n15_; have NB202_211 := n16_; have NB211_202 := n17_; clear n0_ n1_ n2_ n3_ n4_ n5_ n6_ n7_ n8_ n9_ n10_ n11_ n12_ n13_ n14_ n15_ n16_ n17_; clear hb hbox hg; have hnb40 := NB211_193.out; have hnc40 := NB193_211.out; have hnb41 := NB211_202.out; have hnc41 := NB202_211.out; have hcz42_0 : w39.cell? ⟨gb211, 0, none⟩ = some (.int .u32 0) := (blk_cell BK211.out 0).trans rfl; have hcz42_1 : w39.cell? ⟨gb211, 1, none⟩ = some (.slice none 0 0) := (blk_cell BK211.out 1).trans rfl; have hfz42_0 := blk_frozen BK211.out 0; have hfz42_1 := blk_frozen BK211.out 1; obtain ⟨Ao43, co43, eo43⟩ := Kd.S_slice HO209.out; subst eo43) | ((with_reducible refine gate_dst (N := 41) rfl ?_); (try (refine gate_guard (by rfl) ?_; dsimp only)); refine Kd.R_lit k57 _ 57 ?hg (N := 41) ?hd (xs := ([(⟨(⟨2, (⟨#[97]⟩ : ByteArray)⟩ : S28), (⟨#[98, 99]⟩ : ByteArray)⟩ : S57)] : List (S57))) (inner := [.int .u8 2, .string (⟨#[97]⟩ : ByteArray), .string (⟨#[98, 99]⟩ : ByteArray)]) (ok := fun _ => True) (okp := fun _ => True) ?hr ?hp (fun _ hk => hk) trivial (Below.refl _ _) (Nat.le_refl _) (by simp) ?_; (case hd => rfl); (case hg => rfl); (case hr => first | (go_simp; done) | (go_simp; rfl)); (case hp => exact (Reps.c3 (show Kd.M k57 _ _ _ (⟨(⟨2, (⟨#[97]⟩ : ByteArray)⟩ : S28), (⟨#[98, 99]⟩ : ByteArray)⟩ : S57) [.int .u8 2, .string (⟨#[97]⟩ : ByteArray), .string (⟨#[98, 99]⟩ : ByteArray)] from (k57_mkM _ _ _ (⟨(⟨2, (⟨#[97]⟩ : ByteArray)⟩ : S28), (⟨#[98, 99]⟩ : ByteArray)⟩ : S57) )) (Reps.none _ _))); intro v213 w44 ho45 hb hg_ hnew_; clear hg_ hnew_; (first | rw [← Ny212.out] at ho45 | (simp only [Int.reduceToNat] at ho45; rw [← Ny212.out] at ho45)); have n0_ := Aside0.mk (Kd.R_below (by (with_reducible repeat (first | apply Kd.R_alloc | apply Kd.R_drewN | apply Kd.R_drew)); exact (Kd.R_mono (Kd.R_far (p := ⟨gb211, 1, none⟩) (Kd.R_far (p := ⟨gb211, 0, none⟩) (Kd.R_types HO179.out BK211.out (by decide)) (fun _ hk => hk.2) (.int .u32 t206)) (fun _ hk => hk.2) (.slice Ao43 t207.length co43)) (fun _ h_ => h_.1))) hb); have n1_ := Aside0.mk (Kd.R_below (by (with_reducible repeat (first | apply Kd.R_alloc | apply Kd.R_drewN | apply Kd.R_drew)); exact (Kd.R_mono (Kd.R_far (p := ⟨gb211, 1, none⟩) (Kd.R_far (p := ⟨gb211, 0, none⟩) (Kd.R_types HO183.out BK211.out (by decide)) (fun _ hk => hk.2) (.int .u32 t206)) (fun _ hk => hk.2) (.slice Ao43 t207.length co43)) (fun _ h_ => h_.1))) hb); have n2_ := Aside0.mk (Kd.R_below (by (with_reducible repeat (first | apply Kd.R_alloc | apply Kd.R_drewN | apply Kd.R_drew)); exact (Kd.R_mono (Kd.R_far (p := ⟨gb211, 1, none⟩) (Kd.R_far (p := ⟨gb211, 0, none⟩) (Kd.R_types HO187.out BK211.out (by decide)) (fun _ hk => hk.2) (.int .u32 t206)) (fun _ hk => hk.2) (.slice Ao43 t207.length co43)) (fun _ h_ => h_.1))) hb); have n3_ := Aside0.mk (Kd.S_below (by (with_reducible repeat (first | apply Kd.S_alloc | apply Kd.S_drewN | apply Kd.S_drew)); exact (Kd.S_mono (Kd.S_far (p := ⟨gb211, 1, none⟩) (Kd.S_far (p := ⟨gb211, 0, none⟩) (Kd.S_types HO191.out BK211.out (by decide)) (fun _ hk => hk.2) (.int .u32 t206)) (fun _ hk => hk.2) (.slice Ao43 t207.length co43)) (fun _ h_ => h_.1))) hb); have n4_ := Aside0.mk (Kd.R_below (by (with_reducible repeat (first | apply Kd.R_alloc | apply Kd.R_drewN | apply Kd.R_drew)); exact (Kd.R_mono (Kd.R_far (p := ⟨gb211, 1, none⟩) (Kd.R_far (p := ⟨gb211, 0, none⟩) (Kd.R_types HO196.out BK211.out (by decide)) (fun _ hk => hk.2) (.int .u32 t206)) (fun _ hk => hk.2) (.slice Ao43 t207.length co43)) (fun _ h_ => h_.1))) hb); have n5_ := Aside0.mk (Kd.S_below (by (with_reducible repeat (first | apply Kd.S_alloc | apply Kd.S_drewN | apply Kd.S_drew)); exact (Kd.S_mono (Kd.S_far (p := ⟨gb211, 1, none⟩) (Kd.S_far (p := ⟨gb211, 0, none⟩) (Kd.S_types HO200.out BK211.out (by decide)) (fun _ hk => hk.2) (.int .u32 t206)) (fun _ hk => hk.2) (.slice Ao43 t207.length co43)) (fun _ h_ => h_.1))) hb); have n6_ := Aside0.mk (Kd.R_below (by (with_reducible repeat (first | apply Kd.R_alloc | apply Kd.R_drewN | apply Kd.R_drew)); exact (Kd.R_mono (Kd.R_far (p := ⟨gb211, 1, none⟩) (Kd.R_far (p := ⟨gb211, 0, none⟩) (Kd.R_types HO205.out BK211.out (by decide)) (fun _ hk => hk.2) (.int .u32 t206)) (fun _ hk => hk.2) (.slice Ao43 t207.length co43)) (fun _ h_ => h_.1))) hb); have n7_ := Aside0.mk (Kd.S_below (by (with_reducible repeat (first | apply Kd.S_alloc | apply Kd.S_drewN | apply Kd.S_drew)); exact (Kd.S_mono (Kd.S_far (p := ⟨gb211, 1, none⟩) (Kd.S_far (p := ⟨gb211, 0, none⟩) (Kd.S_types HO209.out BK211.out (by decide)) (fun _ hk => hk.2) (.int .u32 t206)) (fun _ hk => hk.2) (.slice Ao43 t207.length co43)) (fun _ h_ => h_.1))) hb); have n8_ := Aside0.mk (Kd.R_lower ho45 (below_size (by repeat (first | (with_reducible first | exact HB.out | apply below_alloc | apply pw_below_drewN | apply below_drew1 | refine below_set ?_ GE193.out | refine below_set ?_ GE202.out | refine below_set ?_ GE211.out) | exact HB.out)))); have n9_ := Aside0.mk (blk_below (g := gb193) (o := .cells #[.int .u32 t188, .slice Ao26 t189.length co26] 25 (0, 0)) (by (with_reducible repeat (first | refine blk_drewN ?_ _ | refine blk_drew ?_ | refine blk_alloc ?_ _)); refine blk_far ?_ NB193_211.out _; (with_reducible repeat (first | refine blk_drewN ?_ _ | refine blk_drew ?_ | refine blk_alloc ?_ _)); refine blk_far ?_ NB193_211.out _; (with_reducible repeat (first | refine blk_drewN ?_ _ | refine blk_drew ?_ | refine blk_alloc ?_ _)); exact BK193.out) hb); have n10_ := Aside0.mk (blk_below (g := gb202) (o := .cells #[.int .u32 t197, .slice Ao34 t198.length co34] 25 (0, 0)) (by (with_reducible repeat (first | refine blk_drewN ?_ _ | refine blk_drew ?_ | refine blk_alloc ?_ _)); refine blk_far ?_ NB202_211.out _; (with_reducible repeat (first | refine blk_drewN ?_ _ | refine blk_drew ?_ | refine blk_alloc ?_ _)); refine blk_far ?_ NB202_211.out _; (with_reducible repeat (first | refine blk_drewN ?_ _ | refine blk_drew ?_ | refine blk_alloc ?_ _)); exact BK202.out) hb); have n11_ := Aside0.mk (blk_below (g := gb211) (o := .cells #[.int .u32 t206, .slice Ao43 t207.length co43] 25 (0, 0)) (by (with_reducible repeat (first | refine blk_drewN ?_ _ | refine blk_drew ?_ | refine blk_alloc ?_ _)); refine blk_put (cs := #[.int .u32 t206, .slice none 0 0]) ?_ 1 _ rfl; (with_reducible repeat (first | refine blk_drewN ?_ _ | refine blk_drew ?_ | refine blk_alloc ?_ _)); refine blk_put (cs := #[.int .u32 0, .slice none 0 0]) ?_ 0 _ rfl; (with_reducible repeat (first | refine blk_drewN ?_ _ | refine blk_drew ?_ | refine blk_alloc ?_ _)); exact BK211.out) hb); have n12_ := Aside0.mk (below_step (by repeat (first | (with_reducible first | exact HB.out | apply below_alloc | apply pw_below_drewN | apply below_drew1 | refine below_set ?_ GE193.out | refine below_set ?_ GE202.out | refine below_set ?_ GE211.out) | exact HB.out)) hb); clear HO179; clear HO183; clear HO187; clear HO191; clear HO196; clear HO200; clear HO205; clear HO209; clear BK193; clear BK202; clear BK211; clear HB; have HO179 := n0_; have HO183 := n1_; have HO187 := n2_; have HO191 := n3_; have HO196 := n4_; have HO200 := n5_; have HO205 := n6_; have HO209 := n7_; have HO214 := n8_; have BK193 := n9_; have BK202 := n10_; have BK211 := n11_; have HB := n12_; clear n0_ n1_ n2_ n3_ n4_ n5_ n6_ n7_ n8_ n9_ n10_ n11_ n12_; clear hb ho45; obtain ⟨Ao46, co46, eo46⟩ := Kd.R_slice HO214.out; subst eo46) | ((with_reducible refine gate_callee (f := 17) rfl ?_); refine goesL_ (some 42) rfl rfl Try.func17 (by kernel_rfl) rfl #[.slice Ao46 y212.length co46] rfl (by (try simp only [List.map_toArray, List.map_cons, List.map_nil]); first | done | rfl | (simp only [List.length_drop, List.length_take]; rfl) | (rw [IntKind.wrap_u64, Int.emod_eq_of_lt (by omega) (by omega)]; rfl)) ?_; (with_reducible refine (codec_EncodeRows.calls k _ _ y212 t215 t216 _ ?side1 ?side2 A6.out).mono ?_); (case side1 => repeat (first | exact (Kd.R_reads' HO214.out).2.2 | (with_reducible refine Kd.C_alloc ?_ _) | (with_reducible refine Kd.C_drewN ?_ _) | (with_reducible refine Kd.C_drew ?_))); (case side2 => exact (Kd.R_reads' HO214.out).2.1); rintro e w47 ⟨v217, rfl, ho0, hb⟩; refine ⟨_, rfl, ?_⟩; have n0_ := Aside0.mk (Kd.R_elder' (by (with_reducible repeat (first | apply Kd.R_alloc | apply Kd.R_drewN | apply Kd.R_drew)); exact HO179.out) (Kd.R_base ho0) hb); have n1_ := Aside0.mk (Kd.R_elder' (by (with_reducible repeat (first | apply Kd.R_alloc | apply Kd.R_drewN | apply Kd.R_drew)); exact HO183.out) (Kd.R_base ho0) hb); have n2_ := Aside0.mk (Kd.R_elder' (by (with_reducible repeat (first | apply Kd.R_alloc | apply Kd.R_drewN | apply Kd.R_drew)); exact HO187.out) (Kd.R_base ho0) hb); have n3_ := Aside0.mk (Kd.S_below (by (with_reducible repeat (first | apply Kd.S_alloc | apply Kd.S_drewN | apply Kd.S_drew)); exact HO191.out) hb); have n4_ := Aside0.mk (Kd.R_elder' (by (with_reducible repeat (first | apply Kd.R_alloc | apply Kd.R_drewN | apply Kd.R_drew)); exact HO196.out) (Kd.R_base ho0) hb); have n5_ := Aside0.mk (Kd.S_below (by (with_reducible repeat (first | apply Kd.S_alloc | apply Kd.S_drewN | apply Kd.S_drew)); exact HO200.out) hb); have n6_ := Aside0.mk (Kd.R_elder' (by (with_reducible repeat (first | apply Kd.R_alloc | apply Kd.R_drewN | apply Kd.R_drew)); exact HO205.out) (Kd.R_base ho0) hb); have n7_ := Aside0.mk (Kd.S_below (by (with_reducible repeat (first | apply Kd.S_alloc | apply Kd.S_drewN | apply Kd.S_drew)); exact HO209.out) hb); have n8_ := Aside0.mk (Kd.R_below (by (with_reducible repeat (first | apply Kd.R_alloc | apply Kd.R_drewN | apply Kd.R_drew)); exact HO214.out) hb); have n9_ := Aside0.mk (Kd.R_lower (Kd.R_new' (Kd.R_new' (Kd.R_new' (Kd.R_new' (Kd.R_new' ho0 (Kd.R_lt (by (with_reducible repeat (first | apply Kd.R_alloc | apply Kd.R_drewN | apply Kd.R_drew)); exact HO179.out))) (Kd.R_lt (by (with_reducible repeat (first | apply Kd.R_alloc | apply Kd.R_drewN | apply Kd.R_drew)); exact HO183.out))) (Kd.R_lt (by (with_reducible repeat (first | apply Kd.R_alloc | apply Kd.R_drewN | apply Kd.R_drew)); exact HO187.out))) (Kd.R_lt (by (with_reducible repeat (first | apply Kd.R_alloc | apply Kd.R_drewN | apply Kd.R_drew)); exact HO196.out))) (Kd.R_lt (by (with_reducible repeat (first | apply Kd.R_alloc | apply Kd.R_drewN | apply Kd.R_drew)); exact HO205.out))) (below_size (by repeat (first | (with_reducible first | exact HB.out | apply below_alloc | apply pw_below_drewN | apply below_drew1 | refine below_set ?_ GE193.out | refine below_set ?_ GE202.out | refine below_set ?_ GE211.out) | exact HB.out)))); have n10_ := Aside0.mk (blk_below (g := gb193) (o := .cells #[.int .u32 t188, .slice Ao26 t189.length co26] 25 (0, 0)) (by (with_reducible repeat (first | refine blk_drewN ?_ _ | refine blk_drew ?_ | refine blk_alloc ?_ _)); exact BK193.out) hb); have n11_ := Aside0.mk (blk_below (g := gb202) (o := .cells #[.int .u32 t197, .slice Ao34 t198.length co34] 25 (0, 0)) (by (with_reducible repeat (first | refine blk_drewN ?_ _ | refine blk_drew ?_ | refine blk_alloc ?_ _)); exact BK202.out) hb); have n12_ := Aside0.mk (blk_below (g := gb211) (o := .cells #[.int .u32 t206, .slice Ao43 t207.length co43] 25 (0, 0)) (by (with_reducible repeat (first | refine blk_drewN ?_ _ | refine blk_drew ?_ | refine blk_alloc ?_ _)); exact BK211.out) hb); have n13_ := Aside0.mk (below_step (by repeat (first | (with_reducible first | exact HB.out | apply below_alloc | apply pw_below_drewN | apply below_drew1 | refine below_set ?_ GE193.out | refine below_set ?_ GE202.out | refine below_set ?_ GE211.out) | exact HB.out)) hb); clear HO179; clear HO183; clear HO187; clear HO191; clear HO196; clear HO200; clear HO205; clear HO209; clear HO214; clear BK193; clear BK202; clear BK211; clear HB; have HO179 := n0_; have HO183 := n1_; have HO187 := n2_; have HO191 := n3_; have HO196 := n4_; have HO200 := n5_; have HO205 := n6_; have HO209 := n7_; have HO214 := n8_; have HO218 := n9_; have BK193 := n10_; have BK202 := n11_; have BK211 := n12_; have HB := n13_; clear n0_ n1_ n2_ n3_ n4_ n5_ n6_ n7_ n8_ n9_ n10_ n11_ n12_ n13_; (try clear hb); (try clear hb2); (try clear hk); (try clear hi); (try clear ho0); have hcv48 := own_string (P := Try.prog) Try.underlying32 Try.underlying5 Try.underlying9 (Kd.own_of_R HO179.out); have hcv49 := fun nq_ => own_string (P := Try.prog) Try.underlying32 Try.underlying5 Try.underlying9 (Kd.own_of_R (Kd.R_drewN HO179.out nq_)); have hcz50_0 : w47.cell? ⟨gb193, 0, none⟩ = some (.int .u32 t188) := (blk_cell BK193.out 0).trans rfl; have hcz50_1 : w47.cell? ⟨gb193, 1, none⟩ = some (.slice Ao26 t189.length co26) := (blk_cell BK193.out 1).trans rfl; have hfz50_0 := blk_frozen BK193.out 0; have hfz50_1 := blk_frozen BK193.out 1; have hcv51 := own_string (P := Try.prog) Try.underlying32 Try.underlying5 Try.underlying9 (Kd.own_of_R HO218.out); have hcv52 := fun nq_ => own_string (P := Try.prog) Try.underlying32 Try.underlying5 Try.underlying9 (Kd.own_of_R (Kd.R_drewN HO218.out nq_))) | (go_at_call 22; (with_reducible refine (codec_Less.calls k 1 (⟨#[122]⟩ : ByteArray) 2 (⟨#[97]⟩ : ByteArray) t219 _ A17.out).mono ?_); rintro e w53 ⟨rfl, hb⟩; have n0_ := Aside0.mk (Kd.R_below (by (with_reducible repeat (first | apply Kd.R_alloc | apply Kd.R_drewN | apply Kd.R_drew)); exact HO179.out) hb); have n1_ := Aside0.mk (Kd.R_below (by (with_reducible repeat (first | apply Kd.R_alloc | apply Kd.R_drewN | apply Kd.R_drew)); exact HO183.out) hb); have n2_ := Aside0.mk (Kd.R_below (by (with_reducible repeat (first | apply Kd.R_alloc | apply Kd.R_drewN | apply Kd.R_drew)); exact HO187.out) hb); have n3_ := Aside0.mk (Kd.S_below (by (with_reducible repeat (first | apply Kd.S_alloc | apply Kd.S_drewN | apply Kd.S_drew)); exact HO191.out) hb); have n4_ := Aside0.mk (Kd.R_below (by (with_reducible repeat (first | apply Kd.R_alloc | apply Kd.R_drewN | apply Kd.R_drew)); exact HO196.out) hb); have n5_ := Aside0.mk (Kd.S_below (by (with_reducible repeat (first | apply Kd.S_alloc | apply Kd.S_drewN | apply Kd.S_drew)); exact HO200.out) hb); have n6_ := Aside0.mk (Kd.R_below (by (with_reducible repeat (first | apply Kd.R_alloc | apply Kd.R_drewN | apply Kd.R_drew)); exact HO205.out) hb); have n7_ := Aside0.mk (Kd.S_below (by (with_reducible repeat (first | apply Kd.S_alloc | apply Kd.S_drewN | apply Kd.S_drew)); exact HO209.out) hb); have n8_ := Aside0.mk (Kd.R_below (by (with_reducible repeat (first | apply Kd.R_alloc | apply Kd.R_drewN | apply Kd.R_drew)); exact HO214.out) hb); have n9_ := Aside0.mk (Kd.R_below (by (with_reducible repeat (first | apply Kd.R_alloc | apply Kd.R_drewN | apply Kd.R_drew)); exact HO218.out) hb); have n10_ := Aside0.mk (blk_below (g := gb193) (o := .cells #[.int .u32 t188, .slice Ao26 t189.length co26] 25 (0, 0)) (by (with_reducible repeat (first | refine blk_drewN ?_ _ | refine blk_drew ?_ | refine blk_alloc ?_ _)); exact BK193.out) hb); have n11_ := Aside0.mk (blk_below (g := gb202) (o := .cells #[.int .u32 t197, .slice Ao34 t198.length co34] 25 (0, 0)) (by (with_reducible repeat (first | refine blk_drewN ?_ _ | refine blk_drew ?_ | refine blk_alloc ?_ _)); exact BK202.out) hb); have n12_ := Aside0.mk (blk_below (g := gb211) (o := .cells #[.int .u32 t206, .slice Ao43 t207.length co43] 25 (0, 0)) (by (with_reducible repeat (first | refine blk_drewN ?_ _ | refine blk_drew ?_ | refine blk_alloc ?_ _)); exact BK211.out) hb); have n13_ := Aside0.mk (below_step (by repeat (first | (with_reducible first | exact HB.out | apply below_alloc | apply pw_below_drewN | apply below_drew1 | refine below_set ?_ GE193.out | refine below_set ?_ GE202.out | refine below_set ?_ GE211.out) | exact HB.out)) hb); clear HO179; clear HO183; clear HO187; clear HO191; clear HO196; clear HO200; clear HO205; clear HO209; clear HO214; clear HO218; clear BK193; clear BK202; clear BK211; clear HB; have HO179 := n0_; have HO183 := n1_; have HO187 := n2_; have HO191 := n3_; have HO196 := n4_; have HO200 := n5_; have HO205 := n6_; have HO209 := n7_; have HO214 := n8_; have HO218 := n9_; have BK193 := n10_; have BK202 := n11_; have BK211 := n12_; have HB := n13_; clear n0_ n1_ n2_ n3_ n4_ n5_ n6_ n7_ n8_ n9_ n10_ n11_ n12_ n13_; (try clear hb); (try clear hb2); (try clear hk); (try clear hi)))
                      go_ret
                      exact ⟨by first | rfl | (simp [errW_none, errW_some] <;> rfl) | (simp [*, errW_none, errW_some] <;> rfl), by repeat (first | (with_reducible first | exact HB.out | apply below_alloc | apply pw_below_drewN | apply below_drew1 | refine below_set ?_ GE193.out | refine below_set ?_ GE202.out | refine below_set ?_ GE211.out) | exact HB.out)⟩
                    · rw [if_neg c16] at H
                      have c16b0 : (t216 == 0) = false := beq_eq_false_iff_ne.mpr c16
                      have c16b1 : (t216 != 0) = true := bne_iff_ne.mpr c16
                      exact absurd ((Option.some.inj H).trans HRT.out) (by decide)
                  · rw [if_neg c15] at H
                    have c15b0 : ((strOfNums t215).toList == ([1, 2, 1, 97, 2, 98, 99] : List UInt8)) = false := beq_eq_false_iff_ne.mpr c15
                    have c15b1 : ((strOfNums t215).toList != ([1, 2, 1, 97, 2, 98, 99] : List UInt8)) = true := bne_iff_ne.mpr c15
                    exact absurd ((Option.some.inj H).trans HRT.out) (by decide)
                · rw [if_neg c14] at H
                  have c14b0 : (t210 == 3) = false := beq_eq_false_iff_ne.mpr c14
                  have c14b1 : (t210 != 3) = true := bne_iff_ne.mpr c14
                  exact absurd ((Option.some.inj H).trans HRT.out) (by decide)
              · rw [if_neg c13] at H
                have c13b0 : (t201 == 2) = false := beq_eq_false_iff_ne.mpr c13
                have c13b1 : (t201 != 2) = true := bne_iff_ne.mpr c13
                exact absurd ((Option.some.inj H).trans HRT.out) (by decide)
            · rw [if_neg c12] at H
              have c12b0 : (t192 == 0) = false := beq_eq_false_iff_ne.mpr c12
              have c12b1 : (t192 != 0) = true := bne_iff_ne.mpr c12
              exact absurd ((Option.some.inj H).trans HRT.out) (by decide)
          · rw [if_neg c11] at H
            have c11b0 : ((t189.length : Int) == 0) = false := beq_eq_false_iff_ne.mpr c11
            have c11b1 : ((t189.length : Int) != 0) = true := bne_iff_ne.mpr c11
            have c11b2 : ¬ (t189 = []) := fun h_ => c11 (by rw [h_]; rfl)
            exact absurd ((Option.some.inj H).trans HRT.out) (by decide)
        · rw [if_neg c10] at H
          have c10b0 : (t188 == 1) = false := beq_eq_false_iff_ne.mpr c10
          have c10b1 : (t188 != 1) = true := bne_iff_ne.mpr c10
          exact absurd ((Option.some.inj H).trans HRT.out) (by decide)
      · rw [if_neg c9] at H
        have c9b0 : (t184 == 1) = false := beq_eq_false_iff_ne.mpr c9
        have c9b1 : (t184 != 1) = true := bne_iff_ne.mpr c9
        exact absurd ((Option.some.inj H).trans HRT.out) (by decide)
    · rw [if_neg c8] at H
      have c8b0 : (t180 == 0) = false := beq_eq_false_iff_ne.mpr c8
      have c8b1 : (t180 != 0) = true := bne_iff_ne.mpr c8
      exact absurd ((Option.some.inj H).trans HRT.out) (by decide)
  · rw [if_neg c7] at H
    have c7b0 : ((strOfNums t177).toList == ([1, 0] : List UInt8)) = false := beq_eq_false_iff_ne.mpr c7
    have c7b1 : ((strOfNums t177).toList != ([1, 0] : List UInt8)) = true := bne_iff_ne.mpr c7
    exact absurd ((Option.some.inj H).trans HRT.out) (by decide)

/-- shown, as a plain function. -/
def tidemarklaw04_shown.f : Option Bool := some true
theorem shown_k : shownK.f 30 = some true := by decide +kernel
theorem tidemarklaw04_shown.calls (r : Bool) (w : World) (h : tidemarklaw04_shown.f = some r) : Calls Try.prog 13 #[] w fun e w' => e = .returned (.bool r) ∧ Below w.heap.size w w' := by
  obtain rfl := Option.some.inj h
  exact shownK.calls 30 true w rfl shown_k
end Go.Proofs.Ytgmdoapedhppmaa.PC

namespace Go.Proofs.Ytgmdoapedhppmaa.PC
set_option linter.unusedVariables false
set_option linter.unusedSimpArgs false
open Go.RowKit Go.Proofs.YtgmdoapedhppmaaW.PrintWords Go.Proofs.YtgmdoapedhppmaaW.PrintLast Go.Proofs.YtgmdoapedhppmaaW.PrintMore
attribute [local go_sem] max2_int min2_int max_two min_two max_three min_three max_four min_four
/-- A string, cut. -/
def cutS (b : Int) (s : ByteArray) : ByteArray := s.extract 0 (if b < (s.size : Int) then b else (s.size : Int)).toNat
/-- A row, its name and its value cut. -/
def cutRow (x : S57) : S57 := ⟨⟨x.f0.f0, cutS 70 x.f0.f1⟩, cutS 300 x.f1⟩
/-- fewRows, as a plain function. -/
def tidemarklaw04_fewRows.f (l : List S57) : Option (List S57) := some ((l.take 60).map cutRow)
theorem cutS_70 (s : ByteArray) : s.extract 0 (if (70 : Int) < (s.size : Int) then 70 else (s.size : Int)).toNat = cutS 70 s := rfl
theorem cutS_300 (s : ByteArray) : s.extract 0 (if (300 : Int) < (s.size : Int) then 300 else (s.size : Int)).toNat = cutS 300 s := rfl
theorem take_snoc57 (l : List S57) (i : Int) (h0 : 0 ≤ i) (h1 : i < l.length) : (l.take i.toNat).map cutRow ++ [cutRow (rd_T57 l i)] = (l.take (i + 1).toNat).map cutRow := by
  have e : (i + 1).toNat = i.toNat + 1 := by omega
  have hl : i.toNat < l.length := by omega
  rw [e, List.take_succ_eq_append_getElem hl, List.map_append, List.map_singleton]
  unfold rd_T57
  rw [List.getD_eq_getElem?_getD, List.getElem?_eq_getElem hl]
  rfl
set_option maxRecDepth 100000 in
set_option maxHeartbeats 4000000 in
theorem tidemarklaw04_fewRows.calls (A0 : Option Addr) (c0 : Nat) (l0 : List S57) (r : List S57) (w : World) (hr0 : Kd.C k57 w A0 l0.length l0) (hc0 : l0.length ≤ c0) (h : tidemarklaw04_fewRows.f l0 = some r) :
    Calls Try.prog 15 #[.slice A0 l0.length c0] w fun e w' => ∃ v0_ : Value, e = .returned v0_ ∧ Kd.R k57 57 w' w.heap.size (fun _ => True) v0_ r ∧ Below w.heap.size w w' := by
  have HF := Aside0.mk (Option.some.inj h)
  have HR := Aside0.mk hr0
  have HC0 := Aside0.mk hc0
  have HL : (l0.length : Int) ≤ 9223372036854775807 := by have := hr0.2.1; omega
  clear hr0 hc0 h
  go_enter Try.func15, Try.ntmps15
  go_wp2_with fail
  go_loopg [3, 4] 60 (fun kq v3 v4 w' => ∃ (x4 : Int) (acc : List S57), v4 = .int .i64 x4 ∧ Aside0 (acc = (l0.take x4.toNat).map cutRow) ∧ Aside0 (x4 + (kq : Int) = 60) ∧ 0 ≤ x4 ∧ x4 ≤ (l0.length : Int) ∧ x4 ≤ 60 ∧ Aside0 (Kd.R k57 57 w' w.heap.size (fun _ => True) v3 acc) ∧ Aside0 (Below w.heap.size w w'))
  case atStart => exact ⟨0, [], rfl, ⟨rfl⟩, ⟨by omega⟩, by omega, by omega, by omega, ⟨Kd.R_nil _ _ _ _ _⟩, ⟨Below.refl _ _⟩⟩
  case round =>
    obtain ⟨x4, acc, rfl, HC, HX, hx0, hx1, hx6, R2, B2⟩ := hrel
    by_cases hp : x4 < (l0.length : Int)
    · have dp : decide (x4 < (l0.length : Int)) = true := decide_eq_true hp
      by_cases hq : x4 < 60
      · have dq : decide (x4 < 60) = true := decide_eq_true hq
        cases gk with
        | zero => exact absurd HX.out (by omega)
        | succ gk1 =>
        obtain ⟨ad, e150, hz0, hz1, hz2⟩ := at_T57 HR.out x4 hx0 hp
        have TS := Aside0.mk (take_snoc57 l0 x4 hx0 hp)
        cases e150
        replace hz0 := (B2.out.cell (World.block_lt_of_cell? w _ hz0)).trans hz0
        replace hz1 := (B2.out.cell (World.block_lt_of_cell? w _ hz1)).trans hz1
        replace hz2 := (B2.out.cell (World.block_lt_of_cell? w _ hz2)).trans hz2
        generalize rd_T57 l0 x4 = r0 at hz0 hz1 hz2 TS
        obtain ⟨⟨tb, nm⟩, vl⟩ := r0
        simp only at hz0 hz1 hz2
        have px := eq_true hx0
        have qx := eq_true hp
        go_upto_region 6 with (first | ((with_reducible refine gate_dst (N := 5) rfl ?_); refine box_event ?hg (N := 5) ?hd (cs := #[.int .u8 0, .string (⟨#[]⟩ : ByteArray), .string (⟨#[]⟩ : ByteArray)]) (t := 57) ?hr ?_; (case hd => rfl); (case hg => rfl); (case hr => first | (go_simp; done) | (go_simp; rfl)); intro gc hgc w3 hbox hb; have BC3 := Aside0.mk hbox; have HGC := Aside0.mk hgc; have HB3 := Aside0.mk hb; have hy0 := (blk_cell hbox 0).trans rfl; have hy1 := (blk_cell hbox 1).trans rfl; have hy2 := (blk_cell hbox 2).trans rfl; have hf0 := blk_frozen hbox 0; have hf1 := blk_frozen hbox 1; have hf2 := blk_frozen hbox 2; clear hb hbox hgc))
        have T3 : Aside0 (Stay (fun k => k = gc) w3 (((w3.setCell ⟨gc, 0, none⟩ (.int .u8 tb)).setCell ⟨gc, 1, none⟩ (.string nm)).setCell ⟨gc, 2, none⟩ (.string vl))) := ⟨(((Stay.refl (fun k => k = gc) w3).set (.inl rfl) 0 _).set (.inl rfl) 1 _).set (.inl rfl) 2 _⟩
        have BC4 := Aside0.mk (blk_put (cs := #[.int .u8 tb, .string nm, .string (⟨#[]⟩ : ByteArray)]) (blk_put (cs := #[.int .u8 tb, .string (⟨#[]⟩ : ByteArray), .string (⟨#[]⟩ : ByteArray)]) (blk_put (cs := #[.int .u8 0, .string (⟨#[]⟩ : ByteArray), .string (⟨#[]⟩ : ByteArray)]) BC3.out 0 (.int .u8 tb) rfl) 1 (.string nm) rfl) 2 (.string vl) rfl)
        have GC0 : Aside0 (w.heap.size ≤ gc) := ⟨by rw [HGC.out]; exact B2.out.size⟩
        have GCN := Aside0.mk (Kd.R_bound R2.out)
        have B4 := Aside0.mk (T3.out.below (below_step B2.out HB3.out) (fun i hi => by rw [hi]; exact GC0.out))
        have R4 := Aside0.mk (Kd.R_step (Kd.R_below (Kd.R_mono GCN.out (fun k hk => (by have := hk.2.2.1; rw [HGC.out]; omega : k ≠ gc))) HB3.out) (fun k hk hlt => T3.out.block k hlt hk))
        clear hz0 hz1 hz2 hy0 hy1 hy2 hf0 hf1 hf2 BC3 T3 B2 R2 HB3 HGC GCN
        generalize ((w3.setCell ⟨gc, 0, none⟩ (.int .u8 tb)).setCell ⟨gc, 1, none⟩ (.string nm)).setCell ⟨gc, 2, none⟩ (.string vl) = w4 at BC4 B4 R4 ⊢
        have hy1 : w4.cell? ⟨gc, 1, none⟩ = some (.string nm) := (blk_cell BC4.out 1).trans rfl
        have hf1 := blk_frozen BC4.out 1
        go_upto_region 7 with (fail)
        rw [cutS_70]
        generalize (if (70 : Int) < (nm.size : Int) then 70 else (nm.size : Int)) = mm1
        have T4 : Aside0 (Stay (fun k => k = gc) w4 (w4.setCell ⟨gc, 1, none⟩ (.string (cutS 70 nm)))) := ⟨(Stay.refl (fun k => k = gc) w4).set (.inl rfl) 1 _⟩
        have BC5 := Aside0.mk (blk_put (cs := #[.int .u8 tb, .string nm, .string vl]) BC4.out 1 (.string (cutS 70 nm)) rfl)
        have B5 := Aside0.mk (T4.out.below B4.out (fun i hi => by rw [hi]; exact GC0.out))
        have R5 := Aside0.mk (Kd.R_step R4.out (fun k hk hlt => T4.out.block k hlt hk))
        clear hy1 hf1 BC4 T4 B4 R4
        generalize w4.setCell ⟨gc, 1, none⟩ (.string (cutS 70 nm)) = w5 at BC5 B5 R5 ⊢
        have hy2 : w5.cell? ⟨gc, 2, none⟩ = some (.string vl) := (blk_cell BC5.out 2).trans rfl
        have hf2 := blk_frozen BC5.out 2
        go_upto_region 8 with (fail)
        rw [cutS_300]
        generalize (if (300 : Int) < (vl.size : Int) then 300 else (vl.size : Int)) = mm2
        have T5 : Aside0 (Stay (fun k => k = gc) w5 (w5.setCell ⟨gc, 2, none⟩ (.string (cutS 300 vl)))) := ⟨(Stay.refl (fun k => k = gc) w5).set (.inl rfl) 2 _⟩
        have BC6 := Aside0.mk (blk_put (cs := #[.int .u8 tb, .string (cutS 70 nm), .string vl]) BC5.out 2 (.string (cutS 300 vl)) rfl)
        have B6 := Aside0.mk (T5.out.below B5.out (fun i hi => by rw [hi]; exact GC0.out))
        have R6 := Aside0.mk (Kd.R_step R5.out (fun k hk hlt => T5.out.block k hlt hk))
        clear hy2 hf2 BC5 T5 B5 R5
        generalize w5.setCell ⟨gc, 2, none⟩ (.string (cutS 300 vl)) = w6 at BC6 B6 R6 ⊢
        have hy0 : w6.cell? ⟨gc, 0, none⟩ = some (.int .u8 tb) := (blk_cell BC6.out 0).trans rfl
        have hy1 : w6.cell? ⟨gc, 1, none⟩ = some (.string (cutS 70 nm)) := (blk_cell BC6.out 1).trans rfl
        have hy2 : w6.cell? ⟨gc, 2, none⟩ = some (.string (cutS 300 vl)) := (blk_cell BC6.out 2).trans rfl
        have HLN : Aside0 (acc.length ≤ 60) := ⟨by rw [HC.out, List.length_map, List.length_take]; omega⟩
        go_wp2_with ((with_reducible refine gate_builtin (b := .append) (xs := #[.tmp 39, .tmp 41]) rfl ?_); at_builtin; refine Kd.R_append k57 (w0 := w6) w.heap.size rfl (.tmp 39) (.tmp 41) 26 57 (.agg #[(.int .u8 0), (.string ⟨#[]⟩), (.string ⟨#[]⟩)]) 40 rfl Try.underlying26 info57 rfl (by decide) (by omega) u3 acc (⟨⟨tb, cutS 70 nm⟩, cutS 300 vl⟩ : S57) [.int .u8 tb, .string (cutS 70 nm), .string (cutS 300 vl)] (fun _ => True) (fun _ => False) rfl rfl ?aP (fun _ hk => hk.elim) ?aF ?aO ?aB ?aS ?aL ?_; (case aP => exact k57_mkM _ _ _ _); (case aF => exact (fun _ _ => trivial)); (case aO => exact Kd.R_mono R6.out (fun _ _ => trivial)); (case aB => exact Below.refl _ _); (case aS => exact B6.out.size); (case aL => have := HLN.out; omega); intro v7 w7 ho hb hgw hat; have R7 := Aside0.mk ho; have B7 : Aside0 (Below w.heap.size w w7) := ⟨(Stay.of_grown hgw).below B6.out (fun i hi => by have hi : some i = u3.ownBlock := hi; exact Kd.R_base R6.out i hi.symm)⟩; clear ho hb hgw hat; (obtain ⟨acc2, hacc2⟩ : ∃ a, a = acc ++ [(⟨⟨tb, cutS 70 nm⟩, cutS 300 vl⟩ : S57)] := ⟨_, rfl⟩); rw [← hacc2] at R7; have HC2 : Aside0 (acc2 = (l0.take (x4 + 1).toNat).map cutRow) := ⟨by rw [hacc2, HC.out]; exact TS.out⟩; clear hacc2; obtain ⟨A7, c7, rfl⟩ := Kd.R_slice R7.out)
        go_roundg gk1
        case measure => omega
        case rel => exact ⟨x4 + 1, acc2, rfl, HC2, ⟨by have := HX.out; omega⟩, by omega, by omega, by omega, R7, B7⟩
      · have dq : decide (x4 < 60) = false := decide_eq_false hq
        have R3 : Aside0 (acc = r) := ⟨by rw [← HF.out, HC.out, show x4 = 60 by omega]; rfl⟩
        obtain ⟨A3, c3, rfl⟩ := Kd.R_slice R2.out
        go_wp2_with fail
        go_ret
        exact ⟨_, rfl, by rw [← R3.out]; exact R2.out, B2.out⟩
    · have dp : decide (x4 < (l0.length : Int)) = false := decide_eq_false hp
      have R3 : Aside0 (acc = r) := ⟨by rw [← HF.out, HC.out, List.take_of_length_le (by omega), List.take_of_length_le (by omega)]⟩
      obtain ⟨A3, c3, rfl⟩ := Kd.R_slice R2.out
      go_wp2_with fail
      go_ret
      exact ⟨_, rfl, by rw [← R3.out]; exact R2.out, B2.out⟩
end Go.Proofs.Ytgmdoapedhppmaa.PC

namespace Go.Proofs.Ytgmdoapedhppmaa.PC
set_option linter.unusedVariables false
set_option linter.unusedSimpArgs false
open Go.RowKit Go.Proofs.YtgmdoapedhppmaaW.PrintWords Go.Proofs.YtgmdoapedhppmaaW.PrintLast Go.Proofs.YtgmdoapedhppmaaW.PrintMore
attribute [local go_sem] max2_int min2_int max_two min_two max_three min_three max_four min_four
/-- A change, its name and its value cut. -/
def cutChange (x : S50) : S50 := ⟨⟨x.f0.f0, cutS 70 x.f0.f1⟩, x.f1, cutS 300 x.f2⟩
/-- A transaction, of few changes. -/
def cutTxn (t : S47) : S47 := ⟨t.f0, (t.f1.take 40).map cutChange⟩
/-- few, as a plain function. -/
def tidemarklaw04_few.f (a : Int) (l : List S47) : Option (Int × List S47) := some (a, (l.take 70).map cutTxn)
theorem take_snoc50 (l : List S50) (i : Int) (h0 : 0 ≤ i) (h1 : i < l.length) : (l.take i.toNat).map cutChange ++ [cutChange (rd_T50 l i)] = (l.take (i + 1).toNat).map cutChange := by
  have e : (i + 1).toNat = i.toNat + 1 := by omega
  have hl : i.toNat < l.length := by omega
  rw [e, List.take_succ_eq_append_getElem hl, List.map_append, List.map_singleton]
  unfold rd_T50
  rw [List.getD_eq_getElem?_getD, List.getElem?_eq_getElem hl]
  rfl
theorem take_snoc47 (l : List S47) (i : Int) (h0 : 0 ≤ i) (h1 : i < l.length) : (l.take i.toNat).map cutTxn ++ [cutTxn (rd_T47 l i)] = (l.take (i + 1).toNat).map cutTxn := by
  have e : (i + 1).toNat = i.toNat + 1 := by omega
  have hl : i.toNat < l.length := by omega
  rw [e, List.take_succ_eq_append_getElem hl, List.map_append, List.map_singleton]
  unfold rd_T47
  rw [List.getD_eq_getElem?_getD, List.getElem?_eq_getElem hl]
  rfl
set_option maxRecDepth 100000 in
set_option maxHeartbeats 4000000 in
theorem tidemarklaw04_few.calls (a0 : Int) (A0 : Option Addr) (c0 : Nat) (l0 : List S47) (r1 : Int) (r2 : List S47) (w : World) (hr0 : Kd.C k47 w A0 l0.length l0) (hc0 : l0.length ≤ c0) (h : tidemarklaw04_few.f a0 l0 = some (r1, r2)) :
    Calls Try.prog 14 #[.agg #[.int .u32 a0, .slice A0 l0.length c0]] w fun e w' => ∃ v0_ : Value, e = .returned (.agg #[.int .u32 r1, v0_]) ∧ Kd.S k47 47 w' w.heap.size (fun _ => True) v0_ r2 ∧ Below w.heap.size w w' := by
  unfold tidemarklaw04_few.f at h
  injection h with h
  injection h with h1 h2
  subst h1
  have HF := Aside0.mk h2
  have HR := Aside0.mk hr0
  have HC0 := Aside0.mk hc0
  have HL : (l0.length : Int) ≤ 9223372036854775807 := by have := hr0.2.1; omega
  clear hr0 hc0 h2
  go_enter Try.func14, Try.ntmps14
  go_upto_region 1 with (first | ((with_reducible refine gate_dst (N := 1) rfl ?_); refine box_event ?hg (N := 1) ?hd (cs := #[.int .u32 a0, .slice A0 l0.length c0]) (t := 25) ?hr ?_; (case hd => rfl); (case hg => rfl); (case hr => first | (go_simp; done) | (go_simp; rfl)); intro g1 hg1 w1 hbox hb; have BA1 := Aside0.mk hbox; have HG1 := Aside0.mk hg1; have HB1 := Aside0.mk hb; clear hb hbox hg1) | ((with_reducible refine gate_dst (N := 2) rfl ?_); refine box_event ?hg (N := 2) ?hd (cs := #[.int .u32 0, .slice none 0 0]) (t := 25) ?hr ?_; (case hd => rfl); (case hg => rfl); (case hr => first | (go_simp; done) | (go_simp; rfl)); intro g2 hg2 w2 hbox hb; have BB2 := Aside0.mk hbox; have HG2 := Aside0.mk hg2; have HB2 := Aside0.mk hb; clear hb hbox hg2))
  have BA2 := Aside0.mk (blk_below BA1.out HB2.out)
  have B2 := Aside0.mk (below_step HB1.out HB2.out)
  have L12 : Aside0 (g1 < g2) := ⟨by rw [HG2.out]; exact blk_lt BA1.out⟩
  have W1 : Aside0 (w.heap.size ≤ g1) := ⟨by rw [HG1.out]; exact Nat.le_refl _⟩
  clear BA1 HB1 HB2 HG1 HG2
  have hz0 : w2.cell? ⟨g1, 0, none⟩ = some (.int .u32 a0) := (blk_cell BA2.out 0).trans rfl
  go_upto_region 2 with (first | ((with_reducible refine gate_dst (N := 3) rfl ?_); refine box_event ?hg (N := 3) ?hd (cs := #[.int .u32 0, .slice none 0 0]) (t := 25) ?hr ?_; (case hd => rfl); (case hg => rfl); (case hr => first | (go_simp; done) | (go_simp; rfl)); intro g3 hg3 w3 hbox hb; have BE3 := Aside0.mk hbox; have HG3 := Aside0.mk hg3; have HB3 := Aside0.mk hb; have hy0 := (blk_cell hbox 0).trans rfl; have hy1 := (blk_cell hbox 1).trans rfl; have hf0 := blk_frozen hbox 0; have hf1 := blk_frozen hbox 1; clear hb hbox hg3))
  have L23 : Aside0 (g2 < g3) := ⟨by rw [HG3.out]; exact blk_lt BB2.out⟩
  have T3 : Aside0 (Stay (fun k => k = g3) w3 ((w3.setCell ⟨g3, 0, none⟩ (.int .u32 a0)).setCell ⟨g3, 1, none⟩ (.slice none 0 0))) := ⟨((Stay.refl (fun k => k = g3) w3).set (.inl rfl) 0 _).set (.inl rfl) 1 _⟩
  have BE4 := Aside0.mk (blk_put (cs := #[.int .u32 a0, .slice none 0 0]) (blk_put (cs := #[.int .u32 0, .slice none 0 0]) BE3.out 0 (.int .u32 a0) rfl) 1 (.slice none 0 0) rfl)
  have BA4 := Aside0.mk (T3.out.blk (blk_below BA2.out HB3.out) (by have := L12.out; have := L23.out; omega))
  have BB4 := Aside0.mk (T3.out.blk (blk_below BB2.out HB3.out) (by have := L23.out; omega))
  have B4 := Aside0.mk (T3.out.below (below_step B2.out HB3.out) (fun i hi => by have := L12.out; have := L23.out; have := W1.out; omega))
  clear hz0 hy0 hy1 hf0 hf1 BE3 BA2 BB2 B2 T3 HB3 HG3
  generalize (w3.setCell ⟨g3, 0, none⟩ (.int .u32 a0)).setCell ⟨g3, 1, none⟩ (.slice none 0 0) = w4 at BE4 BA4 BB4 B4 ⊢
  go_wp2_with fail
  go_loopg [4] 70 (fun kq v4 w' => ∃ (x4 : Int) (acc : List S47) (v : Value), v4 = .int .i64 x4 ∧ Aside0 (acc = (l0.take x4.toNat).map cutTxn) ∧ Aside0 (x4 + (kq : Int) = 70) ∧ 0 ≤ x4 ∧ x4 ≤ (l0.length : Int) ∧ x4 ≤ 70 ∧ Aside0 (w'.heap[g1]? = some (.cells #[.int .u32 a0, .slice A0 l0.length c0] 25 (0, 0))) ∧ Aside0 (w'.heap[g2]? = some (.cells #[.int .u32 0, .slice none 0 0] 25 (0, 0))) ∧ Aside0 (w'.heap[g3]? = some (.cells #[.int .u32 a0, v] 25 (0, 0))) ∧ Aside0 (Kd.S k47 47 w' w.heap.size (fun _ => True) v acc) ∧ Aside0 (Below w.heap.size w w'))
  case atStart => exact ⟨0, [], .slice none 0 0, rfl, ⟨rfl⟩, ⟨by omega⟩, by omega, by omega, by omega, BA4, BB4, BE4, ⟨Kd.S_nil _ _ _ _ _⟩, B4⟩
  case round =>
    clear BA4 BB4 BE4 B4
    obtain ⟨x4, acc, v, rfl, HC, HX, hx0, hx1, hx6, BA2, BB2, BE2, S2, B2⟩ := hrel
    have hza1 : wr.cell? ⟨g1, 1, none⟩ = some (.slice A0 l0.length c0) := (blk_cell BA2.out 1).trans rfl
    by_cases hpq : x4 < (l0.length : Int) ∧ x4 < 70
    · obtain ⟨hp, hq⟩ := hpq
      · have dp : decide (x4 < (l0.length : Int)) = true := decide_eq_true hp
        have dq : decide (x4 < 70) = true := decide_eq_true hq
        cases gk with
        | zero => exact absurd HX.out (by omega)
        | succ gk1 =>
        obtain ⟨ad, A1, c1, e150, hz0, hz1, hl1, hR1⟩ := at_T47 HR.out x4 hx0 hp
        have TS := Aside0.mk (take_snoc47 l0 x4 hx0 hp)
        cases e150
        generalize rd_T47 l0 x4 = t0 at hz0 hz1 hl1 hR1 TS
        obtain ⟨tid, chs⟩ := t0
        simp only at hz0 hz1 hl1 hR1
        have HR1 := Aside0.mk hR1
        have HL1 : (chs.length : Int) ≤ 9223372036854775807 := by have := hR1.2.1; omega
        have HZ0 := Aside0.mk hz0
        have HZ1 := Aside0.mk hz1
        clear hR1 hl1 hz0 hz1
        have hz0 := (B2.out.cell (World.block_lt_of_cell? w _ HZ0.out)).trans HZ0.out
        have px := eq_true hx0
        have qx := eq_true hp
        go_upto_region 6 with (first | ((with_reducible refine gate_dst (N := 5) rfl ?_); refine box_event ?hg (N := 5) ?hd (cs := #[.int .u64 0, .slice none 0 0]) (t := 47) ?hr ?_; (case hd => rfl); (case hg => rfl); (case hr => first | (go_simp; done) | (go_simp; rfl)); intro gt hgt w3 hbox hb; have BT3 := Aside0.mk hbox; have HGT := Aside0.mk hgt; have HB3 := Aside0.mk hb; have hy0 := (blk_cell hbox 0).trans rfl; have hy1 := (blk_cell hbox 1).trans rfl; have hf0 := blk_frozen hbox 0; have hf1 := blk_frozen hbox 1; clear hb hbox hgt))
        have T3 : Aside0 (Stay (fun k => k = gt) w3 ((w3.setCell ⟨gt, 0, none⟩ (.int .u64 tid)).setCell ⟨gt, 1, none⟩ (.slice none 0 0))) := ⟨((Stay.refl (fun k => k = gt) w3).set (.inl rfl) 0 _).set (.inl rfl) 1 _⟩
        have BT4 := Aside0.mk (blk_put (cs := #[.int .u64 tid, .slice none 0 0]) (blk_put (cs := #[.int .u64 0, .slice none 0 0]) BT3.out 0 (.int .u64 tid) rfl) 1 (.slice none 0 0) rfl)
        obtain ⟨H0, hH0⟩ : ∃ n, n = wr.heap.size := ⟨_, rfl⟩
        have GT0 : Aside0 (gt = H0) := ⟨by rw [HGT.out, hH0]⟩
        have WH0 : Aside0 (w.heap.size ≤ H0) := ⟨by rw [hH0]; exact B2.out.size⟩
        have L1 : Aside0 (g1 < H0) := ⟨by rw [hH0]; exact blk_lt BA2.out⟩
        have L2 : Aside0 (g2 < H0) := ⟨by rw [hH0]; exact blk_lt BB2.out⟩
        have L3 : Aside0 (g3 < H0) := ⟨by rw [hH0]; exact blk_lt BE2.out⟩
        have S4 : Aside0 (Kd.S k47 47 ((w3.setCell ⟨gt, 0, none⟩ (.int .u64 tid)).setCell ⟨gt, 1, none⟩ (.slice none 0 0)) w.heap.size (fun k => k < H0) v acc) := ⟨S_stay (Kd.S_mono (Kd.S_old S2.out HB3.out) (fun k hk => by rw [hH0]; exact hk.2)) T3.out (fun k hk e => by have := GT0.out; omega)⟩
        have BA4 := Aside0.mk (T3.out.blk (blk_below BA2.out HB3.out) (by have := GT0.out; have := L1.out; omega))
        have BB4 := Aside0.mk (T3.out.blk (blk_below BB2.out HB3.out) (by have := GT0.out; have := L2.out; omega))
        have BE4 := Aside0.mk (T3.out.blk (blk_below BE2.out HB3.out) (by have := GT0.out; have := L3.out; omega))
        have B4 := Aside0.mk (T3.out.below (below_step B2.out HB3.out) (fun i hi => by have := GT0.out; have := WH0.out; omega))
        clear hza1 hz0 hy0 hy1 hf0 hf1 BT3 T3 B2 S2 BA2 BB2 BE2 HB3 HGT hH0
        generalize (w3.setCell ⟨gt, 0, none⟩ (.int .u64 tid)).setCell ⟨gt, 1, none⟩ (.slice none 0 0) = w4 at BT4 S4 BA4 BB4 BE4 B4 ⊢
        go_wp2_with fail
        obtain ⟨wo, hwo⟩ : ∃ wo : World, wo = wr := ⟨_, rfl⟩
        clear hwo
        go_loopg [6] 40 (fun kq v6 w' => ∃ (x6 : Int) (cs : List S50) (vc : Value), v6 = .int .i64 x6 ∧ Aside0 (cs = (chs.take x6.toNat).map cutChange) ∧ Aside0 (x6 + (kq : Int) = 40) ∧ 0 ≤ x6 ∧ x6 ≤ (chs.length : Int) ∧ x6 ≤ 40 ∧ Aside0 (w'.heap[g1]? = some (.cells #[.int .u32 a0, .slice (some ad) l0.length c0] 25 (0, 0))) ∧ Aside0 (w'.heap[g2]? = some (.cells #[.int .u32 0, .slice none 0 0] 25 (0, 0))) ∧ Aside0 (w'.heap[g3]? = some (.cells #[.int .u32 a0, v] 25 (0, 0))) ∧ Aside0 (w'.heap[gt]? = some (.cells #[.int .u64 tid, vc] 47 (0, 0))) ∧ Aside0 (Kd.S k50 50 w' H0 (fun _ => True) vc cs) ∧ Aside0 (Kd.S k47 47 w' w.heap.size (fun k => k < H0) v acc) ∧ Aside0 (Below w.heap.size w w'))
        case atStart => exact ⟨0, [], .slice none 0 0, rfl, ⟨rfl⟩, ⟨by omega⟩, by omega, by omega, by omega, BA4, BB4, BE4, BT4, ⟨Kd.S_nil _ _ _ _ _⟩, S4, B4⟩
        case round =>
          clear BA4 BB4 BE4 BT4 S4 B4
          obtain ⟨x6, cs, vc, rfl, HC2, HX2, hx20, hx21, hx26, BA2, BB2, BE2, BT2, SC2, S2, B2⟩ := hrel
          have hza1 : wr.cell? ⟨g1, 1, none⟩ = some (.slice (some ad) l0.length c0) := (blk_cell BA2.out 1).trans rfl
          have hz1 := (B2.out.cell (World.block_lt_of_cell? w _ HZ1.out)).trans HZ1.out
          by_cases hpq2 : x6 < (chs.length : Int) ∧ x6 < 40
          · obtain ⟨hp2, hq2⟩ := hpq2
            · have dp2 : decide (x6 < (chs.length : Int)) = true := decide_eq_true hp2
              have dq2 : decide (x6 < 40) = true := decide_eq_true hq2
              cases gk with
              | zero => exact absurd HX2.out (by omega)
              | succ gk2 =>
              obtain ⟨ad2, e151, hc0, hc1, hc2, hc3⟩ := at_T50 HR1.out x6 hx20 hp2
              have TS2 := Aside0.mk (take_snoc50 chs x6 hx20 hp2)
              subst e151
              replace hc0 := (B2.out.cell (World.block_lt_of_cell? w _ hc0)).trans hc0
              replace hc1 := (B2.out.cell (World.block_lt_of_cell? w _ hc1)).trans hc1
              replace hc2 := (B2.out.cell (World.block_lt_of_cell? w _ hc2)).trans hc2
              replace hc3 := (B2.out.cell (World.block_lt_of_cell? w _ hc3)).trans hc3
              generalize rd_T50 chs x6 = r0 at hc0 hc1 hc2 hc3 TS2
              obtain ⟨⟨tb, nm⟩, gn, vl⟩ := r0
              simp only at hc0 hc1 hc2 hc3
              have px2 := eq_true hx20
              have qx2 := eq_true hp2
              go_upto_region 10 with (first | ((with_reducible refine gate_dst (N := 7) rfl ?_); refine box_event ?hg (N := 7) ?hd (cs := #[.int .u8 0, .string (⟨#[]⟩ : ByteArray), .bool false, .string (⟨#[]⟩ : ByteArray)]) (t := 50) ?hr ?_; (case hd => rfl); (case hg => rfl); (case hr => first | (go_simp; done) | (go_simp; rfl)); intro gc hgc w3 hbox hb; have BC3 := Aside0.mk hbox; have HGC := Aside0.mk hgc; have HB3 := Aside0.mk hb; have hy0 := (blk_cell hbox 0).trans rfl; have hy1 := (blk_cell hbox 1).trans rfl; have hy2 := (blk_cell hbox 2).trans rfl; have hy3 := (blk_cell hbox 3).trans rfl; have hf0 := blk_frozen hbox 0; have hf1 := blk_frozen hbox 1; have hf2 := blk_frozen hbox 2; have hf3 := blk_frozen hbox 3; clear hb hbox hgc))
              have T3 : Aside0 (Stay (fun k => k = gc) w3 ((((w3.setCell ⟨gc, 0, none⟩ (.int .u8 tb)).setCell ⟨gc, 1, none⟩ (.string nm)).setCell ⟨gc, 2, none⟩ (.bool gn)).setCell ⟨gc, 3, none⟩ (.string vl))) := ⟨((((Stay.refl (fun k => k = gc) w3).set (.inl rfl) 0 _).set (.inl rfl) 1 _).set (.inl rfl) 2 _).set (.inl rfl) 3 _⟩
              have BC4 := Aside0.mk (blk_put (cs := #[.int .u8 tb, .string nm, .bool gn, .string (⟨#[]⟩ : ByteArray)]) (blk_put (cs := #[.int .u8 tb, .string nm, .bool false, .string (⟨#[]⟩ : ByteArray)]) (blk_put (cs := #[.int .u8 tb, .string (⟨#[]⟩ : ByteArray), .bool false, .string (⟨#[]⟩ : ByteArray)]) (blk_put (cs := #[.int .u8 0, .string (⟨#[]⟩ : ByteArray), .bool false, .string (⟨#[]⟩ : ByteArray)]) BC3.out 0 (.int .u8 tb) rfl) 1 (.string nm) rfl) 2 (.bool gn) rfl) 3 (.string vl) rfl)
              have GC0 : Aside0 (gt < gc) := ⟨by rw [HGC.out]; exact blk_lt BT2.out⟩
              have S4 := Aside0.mk (S_stay (Kd.S_below S2.out HB3.out) T3.out (fun k hk e => by have := GC0.out; have := GT0.out; omega))
              have SC4 := Aside0.mk (S_stay (Kd.S_below (Kd.S_elderB SC2.out gc (by rw [HGC.out]; exact Nat.le_refl _)) HB3.out) T3.out (fun k hk e => hk.2 e))
              have BA4 := Aside0.mk (T3.out.blk (blk_below BA2.out HB3.out) (by have := GC0.out; have := GT0.out; have := L1.out; omega))
              have BB4 := Aside0.mk (T3.out.blk (blk_below BB2.out HB3.out) (by have := GC0.out; have := GT0.out; have := L2.out; omega))
              have BE4 := Aside0.mk (T3.out.blk (blk_below BE2.out HB3.out) (by have := GC0.out; have := GT0.out; have := L3.out; omega))
              have BT4 := Aside0.mk (T3.out.blk (blk_below BT2.out HB3.out) (by have := GC0.out; omega))
              have B4 := Aside0.mk (T3.out.below (below_step B2.out HB3.out) (fun i hi => by have := GC0.out; have := GT0.out; have := WH0.out; omega))
              clear hza1 hz1 hc0 hc1 hc2 hc3 hy0 hy1 hy2 hy3 hf0 hf1 hf2 hf3 BC3 T3 B2 S2 SC2 BA2 BB2 BE2 BT2 HB3 HGC
              generalize (((w3.setCell ⟨gc, 0, none⟩ (.int .u8 tb)).setCell ⟨gc, 1, none⟩ (.string nm)).setCell ⟨gc, 2, none⟩ (.bool gn)).setCell ⟨gc, 3, none⟩ (.string vl) = w4 at BC4 S4 SC4 BA4 BB4 BE4 BT4 B4 ⊢
              have hy1 : w4.cell? ⟨gc, 1, none⟩ = some (.string nm) := (blk_cell BC4.out 1).trans rfl
              have hf1 := blk_frozen BC4.out 1
              go_upto_region 11 with (fail)
              rw [cutS_70]
              generalize (if (70 : Int) < (nm.size : Int) then 70 else (nm.size : Int)) = mm1
              have T4 : Aside0 (Stay (fun k => k = gc) w4 (w4.setCell ⟨gc, 1, none⟩ (.string (cutS 70 nm)))) := ⟨(Stay.refl (fun k => k = gc) w4).set (.inl rfl) 1 _⟩
              have BC5 := Aside0.mk (blk_put (cs := #[.int .u8 tb, .string nm, .bool gn, .string vl]) BC4.out 1 (.string (cutS 70 nm)) rfl)
              have S5 := Aside0.mk (S_stay S4.out T4.out (fun k hk e => by have := GC0.out; have := GT0.out; omega))
              have SC5 := Aside0.mk (S_stay SC4.out T4.out (fun k hk e => hk.2 e))
              have BA5 := Aside0.mk (T4.out.blk BA4.out (by have := GC0.out; have := GT0.out; have := L1.out; omega))
              have BB5 := Aside0.mk (T4.out.blk BB4.out (by have := GC0.out; have := GT0.out; have := L2.out; omega))
              have BE5 := Aside0.mk (T4.out.blk BE4.out (by have := GC0.out; have := GT0.out; have := L3.out; omega))
              have BT5 := Aside0.mk (T4.out.blk BT4.out (by have := GC0.out; omega))
              have B5 := Aside0.mk (T4.out.below B4.out (fun i hi => by have := GC0.out; have := GT0.out; have := WH0.out; omega))
              clear hy1 hf1 BC4 T4 B4 S4 SC4 BA4 BB4 BE4 BT4
              generalize w4.setCell ⟨gc, 1, none⟩ (.string (cutS 70 nm)) = w5 at BC5 S5 SC5 BA5 BB5 BE5 BT5 B5 ⊢
              have hy3 : w5.cell? ⟨gc, 3, none⟩ = some (.string vl) := (blk_cell BC5.out 3).trans rfl
              have hf3 := blk_frozen BC5.out 3
              go_upto_region 12 with (fail)
              rw [cutS_300]
              generalize (if (300 : Int) < (vl.size : Int) then 300 else (vl.size : Int)) = mm2
              have T5 : Aside0 (Stay (fun k => k = gc) w5 (w5.setCell ⟨gc, 3, none⟩ (.string (cutS 300 vl)))) := ⟨(Stay.refl (fun k => k = gc) w5).set (.inl rfl) 3 _⟩
              have BC6 := Aside0.mk (blk_put (cs := #[.int .u8 tb, .string (cutS 70 nm), .bool gn, .string vl]) BC5.out 3 (.string (cutS 300 vl)) rfl)
              have S6 := Aside0.mk (S_stay S5.out T5.out (fun k hk e => by have := GC0.out; have := GT0.out; omega))
              have SC6 := Aside0.mk (S_stay SC5.out T5.out (fun k hk e => hk.2 e))
              have BA6 := Aside0.mk (T5.out.blk BA5.out (by have := GC0.out; have := GT0.out; have := L1.out; omega))
              have BB6 := Aside0.mk (T5.out.blk BB5.out (by have := GC0.out; have := GT0.out; have := L2.out; omega))
              have BE6 := Aside0.mk (T5.out.blk BE5.out (by have := GC0.out; have := GT0.out; have := L3.out; omega))
              have BT6 := Aside0.mk (T5.out.blk BT5.out (by have := GC0.out; omega))
              have B6 := Aside0.mk (T5.out.below B5.out (fun i hi => by have := GC0.out; have := GT0.out; have := WH0.out; omega))
              clear hy3 hf3 BC5 T5 B5 S5 SC5 BA5 BB5 BE5 BT5
              generalize w5.setCell ⟨gc, 3, none⟩ (.string (cutS 300 vl)) = w6 at BC6 S6 SC6 BA6 BB6 BE6 BT6 B6 ⊢
              have hy0 : w6.cell? ⟨gc, 0, none⟩ = some (.int .u8 tb) := (blk_cell BC6.out 0).trans rfl
              have hy1 : w6.cell? ⟨gc, 1, none⟩ = some (.string (cutS 70 nm)) := (blk_cell BC6.out 1).trans rfl
              have hy2 : w6.cell? ⟨gc, 2, none⟩ = some (.bool gn) := (blk_cell BC6.out 2).trans rfl
              have hy3 : w6.cell? ⟨gc, 3, none⟩ = some (.string (cutS 300 vl)) := (blk_cell BC6.out 3).trans rfl
              have hzt1 : w6.cell? ⟨gt, 1, none⟩ = some vc := (blk_cell BT6.out 1).trans rfl
              have HLN : Aside0 (cs.length ≤ 40) := ⟨by rw [HC2.out, List.length_map, List.length_take]; omega⟩
              go_upto_region 8 with ((with_reducible refine gate_builtin (b := .append) (xs := #[.tmp 73, .tmp 75]) rfl ?_); at_builtin; refine Kd.S_append k50 (w0 := w6) H0 rfl (.tmp 73) (.tmp 75) 45 50 (.agg #[(.int .u8 0), (.string ⟨#[]⟩), (.bool false), (.string ⟨#[]⟩)]) 48 rfl Try.underlying45 info50 rfl (by decide) (by omega) vc cs (⟨⟨tb, cutS 70 nm⟩, gn, cutS 300 vl⟩ : S50) [.int .u8 tb, .string (cutS 70 nm), .bool gn, .string (cutS 300 vl)] (fun _ => True) (fun _ => False) rfl rfl ?aP (fun _ hk => hk.elim) ?aF ?aO ?aB ?aS ?aL ?_; (case aP => exact k50_mkM _ _ _ _); (case aF => exact (fun _ _ => trivial)); (case aO => exact Kd.S_mono SC6.out (fun _ _ => ⟨trivial, fun h => h⟩)); (case aB => exact Below.refl _ _); (case aS => have := GT0.out; have := blk_lt BT6.out; omega); (case aL => have := HLN.out; omega); intro v7 w7 ho hb hgw hat; have SC7 := Aside0.mk ho; have HGW := Aside0.mk hgw; clear ho hb hgw hat; (have hzt1 : w7.cell? ⟨gt, 1, none⟩ = some vc := (blk_cell ((Stay.of_grown HGW.out).blk BT6.out (Kd.S_ne SC6.out BT6.out (by decide))) 1).trans rfl); (have hft1 := blk_frozen ((Stay.of_grown HGW.out).blk BT6.out (Kd.S_ne SC6.out BT6.out (by decide))) 1); (obtain ⟨cs2, hcs2⟩ : ∃ a, a = cs ++ [(⟨⟨tb, cutS 70 nm⟩, gn, cutS 300 vl⟩ : S50)] := ⟨_, rfl⟩); rw [← hcs2] at SC7; have HC3 : Aside0 (cs2 = (chs.take (x6 + 1).toNat).map cutChange) := ⟨by rw [hcs2, HC2.out]; exact TS2.out⟩; clear hcs2; obtain ⟨A7, c7, rfl⟩ := Kd.S_slice SC7.out)
              have G7 := Aside0.mk (Stay.of_grown HGW.out)
              have hsb : Aside0 (∀ i, some i = vc.ownBlock → H0 ≤ i) := ⟨fun i hi => Kd.S_base SC6.out i hi.symm⟩
              have S7 := Aside0.mk (S_stay S6.out G7.out (fun k hk e => by have := hsb.out k e; omega))
              have BA7 := Aside0.mk (G7.out.blk BA6.out (Kd.S_ne SC6.out BA6.out (by decide)))
              have BB7 := Aside0.mk (G7.out.blk BB6.out (Kd.S_ne SC6.out BB6.out (by decide)))
              have BE7 := Aside0.mk (G7.out.blk BE6.out (Kd.S_ne SC6.out BE6.out (by decide)))
              have BT7 := Aside0.mk (G7.out.blk BT6.out (Kd.S_ne SC6.out BT6.out (by decide)))
              have B7 := Aside0.mk (G7.out.below B6.out (fun i hi => by have := hsb.out i hi; have := WH0.out; omega))
              have T7 : Aside0 (Stay (fun k => k = gt) w7 (w7.setCell ⟨gt, 1, none⟩ (.slice A7 cs2.length c7))) := ⟨(Stay.refl (fun k => k = gt) w7).set (.inl rfl) 1 _⟩
              have SC8 := Aside0.mk (Kd.S_set SC7.out BT7.out (by decide) 1 (.slice A7 cs2.length c7))
              have S8 := Aside0.mk (S_stay S7.out T7.out (fun k hk e => by have := GT0.out; omega))
              have BA8 := Aside0.mk (T7.out.blk BA7.out (by have := GT0.out; have := L1.out; omega))
              have BB8 := Aside0.mk (T7.out.blk BB7.out (by have := GT0.out; have := L2.out; omega))
              have BE8 := Aside0.mk (T7.out.blk BE7.out (by have := GT0.out; have := L3.out; omega))
              have BT8 := Aside0.mk (blk_put (cs := #[.int .u64 tid, vc]) BT7.out 1 (.slice A7 cs2.length c7) rfl)
              have B8 := Aside0.mk (T7.out.below B7.out (fun i hi => by have := GT0.out; have := WH0.out; omega))
              clear hy0 hy1 hy2 hy3 hzt1 hft1 BC6 S6 SC6 BA6 BB6 BE6 BT6 B6 HGW G7 hsb S7 BA7 BB7 BE7 BT7 B7 T7 SC7 HLN
              generalize w7.setCell ⟨gt, 1, none⟩ (.slice A7 cs2.length c7) = w8 at SC8 S8 BA8 BB8 BE8 BT8 B8 ⊢
              go_wp2_with fail
              go_roundg gk2
              case measure => omega
              case rel => exact ⟨x6 + 1, cs2, .slice A7 cs2.length c7, rfl, HC3, ⟨by have := HX2.out; omega⟩, by omega, by omega, by omega, BA8, BB8, BE8, BT8, SC8, S8, B8⟩
          · have hD2 : (decide (x6 < (chs.length : Int)) = true ∧ decide (x6 < 40) = false) ∨ decide (x6 < (chs.length : Int)) = false := by
              by_cases hh : x6 < (chs.length : Int)
              · exact .inl ⟨decide_eq_true hh, decide_eq_false (by omega)⟩
              · exact .inr (decide_eq_false hh)
            have HPQ2 := Aside0.mk hpq2
            clear hpq2
            rcases hD2 with ⟨dp2, dq2⟩ | dp2
            all_goals
              have HC3 : Aside0 (cs = (chs.take 40).map cutChange) := ⟨by
                have hpq2 := HPQ2.out
                rw [HC2.out]
                by_cases he : x6 = 40
                · rw [he]; rfl
                · rw [List.take_of_length_le (show chs.length ≤ x6.toNat by omega), List.take_of_length_le (show chs.length ≤ 40 by omega)]⟩
              obtain ⟨Ac, cc, rfl⟩ := Kd.S_slice SC2.out
              have hze1 : wr.cell? ⟨g3, 1, none⟩ = some v := (blk_cell BE2.out 1).trans rfl
              have hzt0 : wr.cell? ⟨gt, 0, none⟩ = some (.int .u64 tid) := (blk_cell BT2.out 0).trans rfl
              have hzt1 : wr.cell? ⟨gt, 1, none⟩ = some (.slice Ac cs.length cc) := (blk_cell BT2.out 1).trans rfl
              have HVL : Aside0 (∀ k, v.ownBlock = some k → k < H0) := ⟨(Kd.S_R S2.out).1⟩
              have HLN : Aside0 (acc.length ≤ 70) := ⟨by rw [HC.out, List.length_map, List.length_take]; omega⟩
              go_upto_region 4 with ((with_reducible refine gate_builtin (b := .append) (xs := #[.tmp 79, .tmp 81]) rfl ?_); at_builtin; refine Kd.S_append k47 (w0 := wr) w.heap.size rfl (.tmp 79) (.tmp 81) 23 47 (.agg #[(.int .u64 0), (.slice none 0 0)]) 32 rfl Try.underlying23 info47 rfl (by decide) (by omega) v acc (⟨tid, cs⟩ : S47) [.int .u64 tid, .slice Ac cs.length cc] (fun _ => True) (fun k => H0 ≤ k) rfl rfl ?aP ?aK ?aF ?aO ?aB ?aS ?aL ?_; (case aP => exact k47_mkM _ _ _ _ (Kd.R_lower (Kd.R_mono (Kd.R_bound (Kd.S_R SC2.out)) (fun k hk => hk.2.1)) WH0.out)); (case aK => exact (fun k hk => ⟨trivial, fun e => by have := HVL.out k e.symm; omega⟩)); (case aF => exact (fun _ _ => trivial)); (case aO => exact Kd.S_mono S2.out (fun k hk => ⟨trivial, by omega⟩)); (case aB => exact Below.refl _ _); (case aS => exact B2.out.size); (case aL => have := HLN.out; omega); intro v17 w17 ho hb hgw hat; have S17 := Aside0.mk ho; have HGW := Aside0.mk hgw; clear ho hb hgw hat; (have hze1 : w17.cell? ⟨g3, 1, none⟩ = some v := (blk_cell ((Stay.of_grown HGW.out).blk BE2.out (Kd.S_ne S2.out BE2.out (by decide))) 1).trans rfl); (have hfe1 := blk_frozen ((Stay.of_grown HGW.out).blk BE2.out (Kd.S_ne S2.out BE2.out (by decide))) 1); (obtain ⟨acc2, hacc2⟩ : ∃ c, c = acc ++ [(⟨tid, cs⟩ : S47)] := ⟨_, rfl⟩); rw [← hacc2] at S17; have HC4 : Aside0 (acc2 = (l0.take (x4 + 1).toNat).map cutTxn) := ⟨by rw [hacc2, HC.out, HC3.out]; exact TS.out⟩; clear hacc2; obtain ⟨A17, c17, rfl⟩ := Kd.S_slice S17.out)
              have G17 := Aside0.mk (Stay.of_grown HGW.out)
              have hsb : Aside0 (∀ i, some i = v.ownBlock → w.heap.size ≤ i) := ⟨fun i hi => Kd.S_base S2.out i hi.symm⟩
              have BA17 := Aside0.mk (G17.out.blk BA2.out (Kd.S_ne S2.out BA2.out (by decide)))
              have BB17 := Aside0.mk (G17.out.blk BB2.out (Kd.S_ne S2.out BB2.out (by decide)))
              have BE17 := Aside0.mk (G17.out.blk BE2.out (Kd.S_ne S2.out BE2.out (by decide)))
              have B17 := Aside0.mk (G17.out.below B2.out (fun i hi => hsb.out i hi))
              have T17 : Aside0 (Stay (fun k => k = g3) w17 (w17.setCell ⟨g3, 1, none⟩ (.slice A17 acc2.length c17))) := ⟨(Stay.refl (fun k => k = g3) w17).set (.inl rfl) 1 _⟩
              have S18 := Aside0.mk (Kd.S_set S17.out BE17.out (by decide) 1 (.slice A17 acc2.length c17))
              have BA18 := Aside0.mk (T17.out.blk BA17.out (by have := L12.out; have := L23.out; omega))
              have BB18 := Aside0.mk (T17.out.blk BB17.out (by have := L23.out; omega))
              have BE18 := Aside0.mk (blk_put (cs := #[.int .u32 a0, v]) BE17.out 1 (.slice A17 acc2.length c17) rfl)
              have B18 := Aside0.mk (T17.out.below B17.out (fun i hi => by have := L12.out; have := L23.out; have := W1.out; omega))
              clear hza1 hz1 hze1 hfe1 hzt0 hzt1 S17 BA17 BB17 BE17 B17 T17 BA2 BB2 BE2 BT2 SC2 S2 B2 HGW G17 hsb HVL
              generalize w17.setCell ⟨g3, 1, none⟩ (.slice A17 acc2.length c17) = w18 at S18 BA18 BB18 BE18 B18 ⊢
              go_wp2_with fail
              go_roundg gk1
              case measure => omega
              case rel => exact ⟨x4 + 1, acc2, .slice A17 acc2.length c17, rfl, HC4, ⟨by have := HX.out; omega⟩, by omega, by omega, by omega, BA18, BB18, BE18, S18, B18⟩
    · have hD : (decide (x4 < (l0.length : Int)) = true ∧ decide (x4 < 70) = false) ∨ decide (x4 < (l0.length : Int)) = false := by
        by_cases hh : x4 < (l0.length : Int)
        · exact .inl ⟨decide_eq_true hh, decide_eq_false (by omega)⟩
        · exact .inr (decide_eq_false hh)
      have HPQ := Aside0.mk hpq
      clear hpq
      rcases hD with ⟨dp, dq⟩ | dp
      all_goals
       have HC3 : Aside0 (acc = r2) := ⟨by
        have hpq := HPQ.out
        rw [HC.out, ← HF.out]
        by_cases he : x4 = 70
        · rw [he]; rfl
        · rw [List.take_of_length_le (show l0.length ≤ x4.toNat by omega), List.take_of_length_le (show l0.length ≤ 70 by omega)]⟩
       obtain ⟨Av, cv, rfl⟩ := Kd.S_slice S2.out
       have hze0 : wr.cell? ⟨g3, 0, none⟩ = some (.int .u32 a0) := (blk_cell BE2.out 0).trans rfl
       have hze1 : wr.cell? ⟨g3, 1, none⟩ = some (.slice Av acc.length cv) := (blk_cell BE2.out 1).trans rfl
       have hzb0 : wr.cell? ⟨g2, 0, none⟩ = some (.int .u32 0) := (blk_cell BB2.out 0).trans rfl
       have hzb1 : wr.cell? ⟨g2, 1, none⟩ = some (.slice none 0 0) := (blk_cell BB2.out 1).trans rfl
       have hfb0 := blk_frozen BB2.out 0
       have hfb1 := blk_frozen BB2.out 1
       go_wp2_with fail
       have T3 : Stay (fun k => k = g2) wr ((wr.setCell ⟨g2, 0, none⟩ (.int .u32 a0)).setCell ⟨g2, 1, none⟩ (.slice Av acc.length cv)) := ((Stay.refl (fun k => k = g2) wr).set (.inl rfl) 0 _).set (.inl rfl) 1 _
       have HS := Kd.S_set (Kd.S_set S2.out BB2.out (by decide) 0 (.int .u32 a0)) (blk_put (cs := #[.int .u32 0, .slice none 0 0]) BB2.out 0 (.int .u32 a0) rfl) (by decide) 1 (.slice Av acc.length cv)
       have HSF := Aside0.mk HS
       have BF := Aside0.mk (T3.below B2.out (fun i hi => by have := L12.out; have := W1.out; omega))
       clear HS T3
       refine bodyPost_ret (by simp [results, Try.results14, go_sem, hzb0, hzb1]; try rfl) rfl ?_
       exact ⟨_, rfl, by rw [← HC3.out]; exact HSF.out, BF.out⟩
end Go.Proofs.Ytgmdoapedhppmaa.PC

/- What an argument's reading by its type says, kind by kind: whole numbers, bools, strings, structs of two and three, slices. -/
namespace Go.Proofs.Ytgmdoapedhppmaa.Op
set_option linter.unusedVariables false
set_option linter.unusedSimpArgs false
open Go.Proofs.YtgmdoapedhppmaaW.PrintWords
section
variable {H : Type} (enc : TypeId × Value → H) (P : Program) (W : World)
/-- Whatever reads by type t is of kind d, and F holds of it. -/
def Opens (t : TypeId) {α : Type} (d : Kd α) (F : α → Prop) : Prop :=
  ∀ (fuel : Nat) (cs : List Value) (x : DataW H × List MemPlace), DataW.trod enc P W 0 (fun _ => true) true fuel t cs = some x → (∀ n ∈ x.1.weights P t, n ≤ reachBytes) → ∃ v : α, d.K W v cs ∧ F v
variable {enc P W}
theorem opens_int {t : TypeId} {k : IntKind} (ht : P.underlying t = some (.int k)) : Opens enc P W t (Kd.int k) (fun n => (Lit.int k n).wf = true) := by
  intro fuel cs x h _
  obtain ⟨n, rfl, rfl, hn⟩ := DataW.trod_int ht h
  exact ⟨n, rfl, hn⟩
theorem opens_bool {t : TypeId} (ht : P.underlying t = some .bool) : Opens enc P W t Kd.bool (fun _ => True) := by
  intro fuel cs x h _
  obtain ⟨n, rfl, rfl⟩ := DataW.trod_bool ht h
  exact ⟨n, rfl, trivial⟩
theorem opens_string {t : TypeId} (ht : P.underlying t = some .string) : Opens enc P W t Kd.string (fun s => s.size ≤ 140737488351232) := by
  intro fuel cs x h hw
  obtain ⟨s, rfl, rfl, _⟩ := DataW.trod_string ht h
  refine ⟨s, rfl, ?_⟩
  have := hw s.data.toList.length (by simp [DataW.weights])
  simpa [reachBytes] using this
theorem opens_struct2 {t : TypeId} {f0 f1 : Field} {α0 α1 β : Type} {d0 : Kd α0} {d1 : Kd α1} {F0 : α0 → Prop} {F1 : α1 → Prop} (mk : α0 → α1 → β) (f : β → α0 × α1) (hf : ∀ a b, f (mk a b) = (a, b))
    (ht : P.underlying t = some (.struct #[f0, f1])) (o0 : f0.offset = 0) (o1 : f1.offset = d0.sz) (c0 : P.cellsOf f0.type = d0.sz) (c1 : P.cellsOf f1.type = d1.sz) (ct : P.cellsOf t = d0.sz + d1.sz)
    (h0 : Opens enc P W f0.type d0 F0) (h1 : Opens enc P W f1.type d1 F1) : Opens enc P W t (Kd.iso (Kd.pair d0 d1) f) (fun x => F0 (f x).1 ∧ F1 (f x).2) := by
  intro fuel cs x h hw
  obtain ⟨xs, n, _, rfl, hl, hlen, hg⟩ := DataW.trod_struct ht h
  match xs, hlen with
  | [y0, y1], _ =>
    have g0 := hg 0 f0 rfl
    have g1 := hg 1 f1 rfl
    simp only [o0, o1, c0, c1, List.drop_zero] at g0 g1
    have hws : ∀ n, (n ∈ y0.1.weights P f0.type ∨ n ∈ y1.1.weights P f1.type) → n ≤ reachBytes := fun n hn => hw n (by
      simp only [DataW.weights, ht, List.map_cons, List.map_nil, DataW.weightsEach, List.mem_append]
      rcases hn with hn | hn
      · exact .inl hn
      · exact .inr (.inl hn))
    obtain ⟨v0, k0, p0⟩ := h0 n _ y0 g0 (fun n hn => hws n (.inl hn))
    obtain ⟨v1, k1, p1⟩ := h1 n _ y1 g1 (fun n hn => hws n (.inr hn))
    refine ⟨mk v0 v1, ?_, by show F0 (f (mk v0 v1)).1 ∧ F1 (f (mk v0 v1)).2; rw [hf]; exact ⟨p0, p1⟩⟩
    show (Kd.pair d0 d1).K W (f (mk v0 v1)) cs
    rw [hf]
    refine ⟨_, _, ?_, k0, k1⟩
    have e1 : (cs.drop d0.sz).take d1.sz = cs.drop d0.sz := List.take_of_length_le (by rw [List.length_drop]; omega)
    rw [e1, List.take_append_drop]
theorem opens_struct3 {t : TypeId} {f0 f1 f2 : Field} {α0 α1 α2 β : Type} {d0 : Kd α0} {d1 : Kd α1} {d2 : Kd α2} {F0 : α0 → Prop} {F1 : α1 → Prop} {F2 : α2 → Prop} (mk : α0 → α1 → α2 → β) (f : β → α0 × α1 × α2) (hf : ∀ a b c, f (mk a b c) = (a, b, c))
    (ht : P.underlying t = some (.struct #[f0, f1, f2])) (o0 : f0.offset = 0) (o1 : f1.offset = d0.sz) (o2 : f2.offset = d0.sz + d1.sz) (c0 : P.cellsOf f0.type = d0.sz) (c1 : P.cellsOf f1.type = d1.sz) (c2 : P.cellsOf f2.type = d2.sz) (ct : P.cellsOf t = d0.sz + d1.sz + d2.sz)
    (h0 : Opens enc P W f0.type d0 F0) (h1 : Opens enc P W f1.type d1 F1) (h2 : Opens enc P W f2.type d2 F2) : Opens enc P W t (Kd.iso (Kd.pair d0 (Kd.pair d1 d2)) f) (fun x => F0 (f x).1 ∧ F1 (f x).2.1 ∧ F2 (f x).2.2) := by
  intro fuel cs x h hw
  obtain ⟨xs, n, _, rfl, hl, hlen, hg⟩ := DataW.trod_struct ht h
  match xs, hlen with
  | [y0, y1, y2], _ =>
    have g0 := hg 0 f0 rfl
    have g1 := hg 1 f1 rfl
    have g2 := hg 2 f2 rfl
    simp only [o0, o1, o2, c0, c1, c2, List.drop_zero] at g0 g1 g2
    have hws : ∀ n, (n ∈ y0.1.weights P f0.type ∨ n ∈ y1.1.weights P f1.type ∨ n ∈ y2.1.weights P f2.type) → n ≤ reachBytes := fun n hn => hw n (by
      simp only [DataW.weights, ht, List.map_cons, List.map_nil, DataW.weightsEach, List.mem_append]
      rcases hn with hn | hn | hn
      · exact .inl hn
      · exact .inr (.inl hn)
      · exact .inr (.inr (.inl hn)))
    obtain ⟨v0, k0, p0⟩ := h0 n _ y0 g0 (fun n hn => hws n (.inl hn))
    obtain ⟨v1, k1, p1⟩ := h1 n _ y1 g1 (fun n hn => hws n (.inr (.inl hn)))
    obtain ⟨v2, k2, p2⟩ := h2 n _ y2 g2 (fun n hn => hws n (.inr (.inr hn)))
    refine ⟨mk v0 v1 v2, ?_, by show F0 (f (mk v0 v1 v2)).1 ∧ F1 (f (mk v0 v1 v2)).2.1 ∧ F2 (f (mk v0 v1 v2)).2.2; rw [hf]; exact ⟨p0, p1, p2⟩⟩
    show (Kd.pair d0 (Kd.pair d1 d2)).K W (f (mk v0 v1 v2)) cs
    rw [hf]
    refine ⟨_, _, ?_, k0, _, _, rfl, k1, k2⟩
    have e1 : ((cs.drop (d0.sz + d1.sz)).take d2.sz) = cs.drop (d0.sz + d1.sz) := List.take_of_length_le (by rw [List.length_drop]; omega)
    have e2 : (cs.drop d0.sz).take d1.sz ++ cs.drop (d0.sz + d1.sz) = cs.drop d0.sz := by
      rw [← List.drop_drop, List.take_append_drop]
    rw [e1, e2, List.take_append_drop]
theorem opens_slice {t e : TypeId} {α : Type} [Inhabited α] {d : Kd α} {F : α → Prop} (ht : P.underlying t = some (.slice e)) (ce : P.cellsOf e = d.sz) (he : Opens enc P W e d F) :
    Opens enc P W t (Kd.slice e d) (fun xs => (∀ x ∈ xs, F x) ∧ xs.length * P.bytesOf e ≤ 140737488351232) := by
  intro fuel cs x h hw
  rcases Deep.open_slice ht h with ⟨rfl, rfl⟩ | ⟨a, len, cap, m, n, D, Pl, rfl, _, hlc, hcm, hm, rfl, hel⟩
  · exact ⟨[], ⟨none, 0, rfl, Nat.le_refl _, rfl, by simp, fun h => absurd h (Nat.lt_irrefl 0)⟩, fun x hx => (List.not_mem_nil hx).elim, by simp⟩
  · have hmc : m = cap := by simpa using hm
    subst hmc
    have hwe : ∀ i, i < len → ∀ n ∈ (D i).weights P e, n ≤ reachBytes := fun i hi n hn => hw n (by
      simp only [DataW.weights, ht, List.mem_cons, List.mem_append]
      refine .inr (.inl ?_)
      have : ∀ (l : List Nat), i ∈ l → n ∈ DataW.weightsAll P e (l.map D) := by
        intro l
        induction l with
        | nil => intro h; cases h
        | cons y l ih =>
          intro h
          simp only [List.map_cons, DataW.weightsAll, List.mem_append]
          rcases List.mem_cons.1 h with rfl | h
          · exact .inl hn
          · exact .inr (ih h)
      exact this _ (List.mem_range.2 hi))
    have hws : (len + (m - len)) * P.bytesOf e ≤ reachBytes := hw _ (by
      simp only [DataW.weights, ht, List.length_map, List.length_range]
      exact List.mem_cons_self)
    have hex : ∀ i, i < len → ∃ v : α, (∃ cs', W.cells? 0 (a.add (i * P.cellsOf e)) (P.cellsOf e) = some cs' ∧ d.K W v cs') ∧ F v := by
      intro i hi
      obtain ⟨cs', h1, h2⟩ := hel i (by omega)
      obtain ⟨v, h3, h4⟩ := he n cs' _ h2 (hwe i hi)
      exact ⟨v, ⟨cs', h1, h3⟩, h4⟩
    obtain ⟨f, hf⟩ := Deep.choose_lt hex
    refine ⟨(List.range len).map f, ⟨some a, m, by simp, by simp; omega, by simp, ?_, fun _ => ⟨a, rfl, ?_⟩⟩, ?_, ?_⟩
    · simp only [List.length_map, List.length_range]
      unfold maxLen at hcm
      omega
    · intro j p hj
      have hjl : j < len := by
        have := (List.getElem?_eq_some_iff.1 hj).1
        simpa using this
      have hp : p = f j := by
        rw [List.getElem?_map, List.getElem?_range hjl] at hj
        simpa using hj.symm
      subst hp
      obtain ⟨⟨cs', h1, h2⟩, _⟩ := hf j hjl
      obtain ⟨_, hlen, hcell⟩ := World.cells?_some h1
      refine ⟨cs', by rw [hlen, ce], h2, fun i u hu => ?_⟩
      have hi : i < P.cellsOf e := by
        have := (List.getElem?_eq_some_iff.1 hu).1
        omega
      have := hcell i hi
      rw [Deep.add_add] at this
      rw [← ce, this, hu]
    · intro x hx
      obtain ⟨i, hi, rfl⟩ := List.mem_map.1 hx
      exact (hf i (List.mem_range.1 hi)).2
    · simp only [List.length_map, List.length_range]
      have : len * P.bytesOf e ≤ (len + (m - len)) * P.bytesOf e := Nat.mul_le_mul_right _ (by omega)
      unfold reachBytes at hws
      omega
/-- An argument: its weights are among all. -/
theorem opened {t : TypeId} {α : Type} {d : Kd α} {F : α → Prop} (h : Opens enc P W t d F) {v : Value} {x : DataW H} {ps : List MemPlace} (ht : DataW.Trod enc P W 0 (fun _ => true) true t v x ps) {ts : List TypeId} {ds : List (DataW H)} {j : Nat}
    (hsz : (DataW.weightsEach P ts ds).all (· ≤ reachBytes) = true) (hj : ts[j]? = some t) (hd : ds[j]? = some x) : ∃ y : α, d.K W y v.cells.toList ∧ F y := by
  obtain ⟨fuel, hf⟩ := ht
  exact h fuel _ (x, ps) hf (fun n hn => of_decide_eq_true (List.all_eq_true.1 hsz n (DataW.weights_mem_each hj hd n hn)))
end
end Go.Proofs.Ytgmdoapedhppmaa.Op

/- The arguments' kinds of this seat's laws: keys, rows, epochs, bytes. -/
namespace Go.Proofs.Ytgmdoapedhppmaa.PC
set_option linter.unusedVariables false
set_option linter.unusedSimpArgs false
open Go.RowKit Go.WideShapes Go.Proofs.YtgmdoapedhppmaaW.PrintWords Go.Proofs.YtgmdoapedhppmaaW.PrintLast Go.Proofs.YtgmdoapedhppmaaW.PrintMore
instance : Inhabited S28 := ⟨z28⟩
instance : Inhabited S50 := ⟨z50⟩
instance : Inhabited S47 := ⟨z47⟩
instance : Inhabited S57 := ⟨z57⟩
def okStr (s : ByteArray) : Prop := s.size ≤ 140737488351232
def okKey (x : S28) : Prop := (Lit.int .u8 x.f0).wf = true ∧ okStr x.f1
def okChange (x : S50) : Prop := okKey x.f0 ∧ True ∧ okStr x.f2
def okTxn (x : S47) : Prop := (Lit.int .u64 x.f0).wf = true ∧ (∀ y ∈ x.f1, okChange y) ∧ x.f1.length * 48 ≤ 140737488351232
def okRow (x : S57) : Prop := okKey x.f0 ∧ okStr x.f1
def okEpoch (x : Int × List S47) : Prop := (Lit.int .u32 x.1).wf = true ∧ (∀ y ∈ x.2, okTxn y) ∧ x.2.length * 32 ≤ 140737488351232
def okRows (x : List S57) : Prop := (∀ y ∈ x, okRow y) ∧ x.length * 40 ≤ 140737488351232
def okBytes (x : List Int) : Prop := (∀ y ∈ x, (Lit.int .u8 y).wf = true) ∧ x.length * 1 ≤ 140737488351232
section
variable {H : Type} {enc : TypeId × Value → H} {W : World}
theorem opens28 : Op.Opens enc Try.prog W 28 k28 okKey :=
  Op.opens_struct2 (F0 := fun n => (Lit.int .u8 n).wf = true) (F1 := okStr) S28.mk _ (fun _ _ => rfl) Try.underlying28 rfl rfl (by kernel_rfl) (by kernel_rfl) (by kernel_rfl) (Op.opens_int Try.underlying5) (Op.opens_string Try.underlying9)
theorem opens50 : Op.Opens enc Try.prog W 50 k50 okChange :=
  Op.opens_struct3 (F0 := okKey) (F1 := fun _ => True) (F2 := okStr) S50.mk _ (fun _ _ _ => rfl) Try.underlying50 rfl rfl rfl (by kernel_rfl) (by kernel_rfl) (by kernel_rfl) (by kernel_rfl) opens28 (Op.opens_bool Try.underlying4) (Op.opens_string Try.underlying9)
theorem bytes50 : Try.prog.bytesOf 50 = 48 := by kernel_rfl
theorem bytes47 : Try.prog.bytesOf 47 = 32 := by kernel_rfl
theorem bytes57 : Try.prog.bytesOf 57 = 40 := by kernel_rfl
theorem bytes5 : Try.prog.bytesOf 5 = 1 := by kernel_rfl
theorem opens45 : Op.Opens enc Try.prog W 45 (Kd.slice 50 k50) (fun xs => (∀ y ∈ xs, okChange y) ∧ xs.length * 48 ≤ 140737488351232) := by
  have := Op.opens_slice (enc := enc) (W := W) Try.underlying45 (d := k50) (by kernel_rfl) opens50
  rwa [bytes50] at this
theorem opens47 : Op.Opens enc Try.prog W 47 k47 okTxn :=
  Op.opens_struct2 (F0 := fun n => (Lit.int .u64 n).wf = true) (F1 := fun xs => (∀ y ∈ xs, okChange y) ∧ xs.length * 48 ≤ 140737488351232) S47.mk _ (fun _ _ => rfl) Try.underlying47 rfl rfl (by kernel_rfl) (by kernel_rfl) (by kernel_rfl) (Op.opens_int Try.underlying44) opens45
theorem opens23 : Op.Opens enc Try.prog W 23 (Kd.slice 47 k47) (fun xs => (∀ y ∈ xs, okTxn y) ∧ xs.length * 32 ≤ 140737488351232) := by
  have := Op.opens_slice (enc := enc) (W := W) Try.underlying23 (d := k47) (by kernel_rfl) opens47
  rwa [bytes47] at this
def k25 : Kd (Int × List S47) := Kd.iso (Kd.pair (Kd.int .u32) (Kd.slice 47 k47)) (fun x => x)
theorem cells25 : Try.prog.cellsOf 25 = 2 := by kernel_rfl
theorem cells22 : Try.prog.cellsOf 22 = 1 := by kernel_rfl
theorem cells23 : Try.prog.cellsOf 23 = 1 := by kernel_rfl
theorem opens25 : Op.Opens enc Try.prog W 25 k25 okEpoch := by
  have h := Op.opens_struct2 (enc := enc) (W := W) (d0 := Kd.int .u32) (d1 := Kd.slice 47 k47) (F0 := fun n => (Lit.int .u32 n).wf = true) (F1 := fun xs => (∀ y ∈ xs, okTxn y) ∧ xs.length * 32 ≤ 140737488351232) Prod.mk (fun x => x) (fun _ _ => rfl) Try.underlying25 rfl rfl cells22 cells23 cells25 (Op.opens_int Try.underlying22) opens23
  exact h
theorem opens57 : Op.Opens enc Try.prog W 57 k57 okRow :=
  Op.opens_struct2 (F0 := okKey) (F1 := okStr) S57.mk _ (fun _ _ => rfl) Try.underlying57 rfl rfl (by kernel_rfl) (by kernel_rfl) (by kernel_rfl) opens28 (Op.opens_string Try.underlying9)
theorem opens26 : Op.Opens enc Try.prog W 26 (Kd.slice 57 k57) okRows := by
  have := Op.opens_slice (enc := enc) (W := W) Try.underlying26 (d := k57) (by kernel_rfl) opens57
  rwa [bytes57] at this
theorem opens32 : Op.Opens enc Try.prog W 32 (Kd.slice 5 (Kd.int .u8)) okBytes := by
  have := Op.opens_slice (enc := enc) (W := W) Try.underlying32 (d := Kd.int .u8) (by kernel_rfl) (Op.opens_int Try.underlying5)
  rwa [bytes5] at this
variable {v : Value} {x : DataW H} {ps : List MemPlace} {ts : List TypeId} {ds : List (DataW H)} {j base : Nat} {r : Reach}
set_option maxRecDepth 100000 in
/-- A key that comes in. -/
theorem arg28 (hv : Value.okWide Try.prog W r base 28 v) (h : DataW.Trod enc Try.prog W 0 (fun _ => true) true 28 v x ps) (hsz : (DataW.weightsEach Try.prog ts ds).all (· ≤ reachBytes) = true) (hj : ts[j]? = some 28) (hd : ds[j]? = some x) :
    ∃ y : S28, v = .agg #[.int .u8 y.f0, .string y.f1] ∧ okKey y := by
  obtain ⟨cs, rfl, _⟩ := okWide_struct Try.underlying28 hv
  obtain ⟨y, hk, hF⟩ := Op.opened opens28 h hsz hj hd
  have hc : cs.toList = _ := k28_open hk
  exact ⟨y, by rw [← Array.toArray_toList (xs := cs), hc], hF⟩
set_option maxRecDepth 100000 in
theorem arg25 (hv : Value.okWide Try.prog W r base 25 v) (h : DataW.Trod enc Try.prog W 0 (fun _ => true) true 25 v x ps) (hsz : (DataW.weightsEach Try.prog ts ds).all (· ≤ reachBytes) = true) (hj : ts[j]? = some 25) (hd : ds[j]? = some x) :
    ∃ (n : Int) (l : List S47) (A : Option Addr) (c : Nat), v = .agg #[.int .u32 n, .slice A l.length c] ∧ l.length ≤ c ∧ Kd.C k47 W A l.length l ∧ okEpoch (n, l) := by
  obtain ⟨cs, rfl, _⟩ := okWide_struct Try.underlying25 hv
  obtain ⟨⟨n, l⟩, ⟨c0, c1, hc, h0, A, c, rfl, hl, hC⟩, hF⟩ := Op.opened opens25 h hsz hj hd
  have h0 : c0 = [.int .u32 n] := h0
  subst h0
  have hc : cs.toList = _ := hc
  exact ⟨n, l, A, c, by rw [← Array.toArray_toList (xs := cs), hc]; rfl, hl, hC, hF⟩
set_option maxRecDepth 100000 in
theorem arg26 (hv : Value.okWide Try.prog W r base 26 v) (h : DataW.Trod enc Try.prog W 0 (fun _ => true) true 26 v x ps) (hsz : (DataW.weightsEach Try.prog ts ds).all (· ≤ reachBytes) = true) (hj : ts[j]? = some 26) (hd : ds[j]? = some x) :
    ∃ (l : List S57) (A : Option Addr) (c : Nat), v = .slice A l.length c ∧ l.length ≤ c ∧ Kd.C k57 W A l.length l ∧ okRows l := by
  obtain ⟨a, len, cap, rfl⟩ := okWide_slice Try.underlying26 hv
  obtain ⟨l, ⟨A, c, hc, hl, hC⟩, hF⟩ := Op.opened opens26 h hsz hj hd
  simp only [Value.cells, List.cons.injEq, and_true] at hc
  exact ⟨l, A, c, hc, hl, hC, hF⟩
set_option maxRecDepth 100000 in
theorem arg32 (hv : Value.okWide Try.prog W r base 32 v) (h : DataW.Trod enc Try.prog W 0 (fun _ => true) true 32 v x ps) (hsz : (DataW.weightsEach Try.prog ts ds).all (· ≤ reachBytes) = true) (hj : ts[j]? = some 32) (hd : ds[j]? = some x) :
    ∃ (l : List Int) (A : Option Addr) (c : Nat), v = .slice A l.length c ∧ l.length ≤ c ∧ Kd.C (Kd.int .u8) W A l.length l ∧ okBytes l := by
  obtain ⟨a, len, cap, rfl⟩ := okWide_slice Try.underlying32 hv
  obtain ⟨l, ⟨A, c, hc, hl, hC⟩, hF⟩ := Op.opened opens32 h hsz hj hd
  simp only [Value.cells, List.cons.injEq, and_true] at hc
  exact ⟨l, A, c, hc, hl, hC, hF⟩
end
end Go.Proofs.Ytgmdoapedhppmaa.PC

/- The codec, plain: the few that are looked at; what Encode answers. -/
namespace Go.Proofs.Ytgmdoapedhppmaa.Code
set_option linter.unusedVariables false
set_option linter.unusedSimpArgs false
open Go.RowKit Go.Proofs.Ytgmdoapedhppmaa.PC Go.Proofs.Ytgmdoapedhppmaa.B Go.Proofs.Ytgmdoapedhppmaa.Pure Go.Proofs.YtgmdoapedhppmaaW.PrintWords Go.Proofs.YtgmdoapedhppmaaW.PrintLast Go.Proofs.YtgmdoapedhppmaaW.PrintMore
theorem u8_lo {x : Int} (h : (Lit.int .u8 x).wf = true) : 0 ≤ x := (u8_at x h).1
theorem few_w {n : Int} {l : List S47} (h : okEpoch (n, l)) : WEpoch n ((l.take 70).map cutTxn) := by
  obtain ⟨h1, h2, _⟩ := h
  have hn := u32_at n h1
  refine ⟨hn.1, by omega, fun t ht => ?_⟩
  obtain ⟨u, hu, rfl⟩ := List.mem_map.1 ht
  obtain ⟨g1, g2, _⟩ := h2 u (List.mem_of_mem_take hu)
  have hg := u64_at u.f0 g1
  refine ⟨hg.1, hg.2, fun c hc => ?_⟩
  obtain ⟨d, hd, rfl⟩ := List.mem_map.1 hc
  exact u8_lo (g2 d (List.mem_of_mem_take hd)).1.1
theorem few_len (l : List S47) : ((l.take 70).map cutTxn).length ≤ 70 := by rw [List.length_map, List.length_take]; omega
theorem fewRows_w {l : List S57} (h : okRows l) : WRows ((l.take 60).map cutRow) := by
  intro r hr
  obtain ⟨u, hu, rfl⟩ := List.mem_map.1 hr
  exact u8_lo (h.1 u (List.mem_of_mem_take hu)).1.1
theorem fewRows_len (l : List S57) : ((l.take 60).map cutRow).length ≤ 60 := by rw [List.length_map, List.length_take]; omega
theorem enc_two (n : Int) (l : List S47) (hw : WEpoch n l) : ∃ (a : List Int) (f : Int) (K : Nat), (∀ k, K ≤ k → codec_Encode.f k n l = some (a, f)) ∧ ((f = 0 ∧ GEpoch n l ∧ a = eEpoch n l) ∨ (f = 1 ∧ ¬ GEpoch n l ∧ a = [])) := by
  by_cases h : GEpoch n l
  · obtain ⟨K, hK⟩ := encode_ok n l h hw
    exact ⟨_, _, K, hK, .inl ⟨rfl, h, rfl⟩⟩
  · exact ⟨_, _, 0, fun k _ => encode_no n l h hw k, .inr ⟨rfl, h, rfl⟩⟩
theorem encR_two (l : List S57) (hw : WRows l) (hlen : l.length ≤ 1000) : ∃ (a : List Int) (f : Int) (K : Nat), (∀ k, K ≤ k → codec_EncodeRows.f k l = some (a, f)) ∧ ((f = 0 ∧ GRowsL key0 l ∧ a = eRows l) ∨ (f = 1 ∧ ¬ GRowsL key0 l ∧ a = [])) := by
  by_cases h : GRowsL key0 l
  · obtain ⟨K, hK⟩ := encodeR_ok l h hw hlen
    exact ⟨_, _, K, hK, .inl ⟨rfl, h, rfl⟩⟩
  · exact ⟨_, _, 0, fun k _ => encodeR_no l h hw (by omega) k, .inr ⟨rfl, h, rfl⟩⟩
theorem shown_f : tidemarklaw04_shown.f = some true := rfl
end Go.Proofs.Ytgmdoapedhppmaa.Code

/- Rows that are cut are right on both sides, and in no other order; one row twice is not right: plain. -/
namespace Go.Proofs.Ytgmdoapedhppmaa.PC
set_option linter.unusedVariables false
set_option linter.unusedSimpArgs false
open Go.RowKit Go.Proofs.Ytgmdoapedhppmaa.Code Go.Proofs.YtgmdoapedhppmaaW.PrintWords Go.Proofs.YtgmdoapedhppmaaW.PrintLast Go.Proofs.YtgmdoapedhppmaaW.PrintMore
theorem rises_pw {α : Type} (c : α → α → Int) (z : α) (tr : ∀ a b d, c a b < 0 → c b d < 0 → c a d < 0) : ∀ l : List α, rises c z l = true ↔ l.Pairwise (fun a b => c a b < 0)
  | [] => by simp [rises_nil]
  | [a] => by simp [rises_one]
  | a :: b :: l => by
    rw [rises_cons, rises_pw c z tr (b :: l), List.pairwise_cons (a := a)]
    constructor
    · rintro ⟨h1, h2⟩
      refine ⟨fun y hy => ?_, h2⟩
      rcases List.mem_cons.1 hy with rfl | hy
      · exact h1
      · exact tr _ _ _ h1 ((List.pairwise_cons.1 h2).1 y hy)
    · rintro ⟨h1, h2⟩
      exact ⟨h1 b List.mem_cons_self, h2⟩
theorem rowsB_pw (l : List S57) : rowsB l = true ↔ (∀ r ∈ l, badRow r = false) ∧ l.Pairwise (fun a b => lessB a.f0 b.f0 = true) := by
  unfold rowsB
  rw [Bool.and_eq_true, rises_pw (fun a b : S57 => ordI a.f0 b.f0) z57 (fun a b d h1 h2 => (ord_less _ _).2 (less_trans ((ord_less _ _).1 h1) ((ord_less _ _).1 h2)))]
  constructor
  · rintro ⟨h1, h2⟩
    exact ⟨by simpa using h1, h2.imp fun h => (ord_less _ _).1 h⟩
  · rintro ⟨h1, h2⟩
    exact ⟨by simpa using h1, h2.imp fun h => (ord_less _ _).2 h⟩
theorem rowsB_sub {l m : List S57} (h : rowsB l = true) (hs : m.Sublist l) : rowsB m = true := by
  obtain ⟨h1, h2⟩ := (rowsB_pw l).1 h
  exact (rowsB_pw m).2 ⟨fun r hr => h1 r (hs.subset hr), h2.sublist hs⟩
theorem parts_take {l : List S57} (h : rowsB l = true) (m : Nat) : rowsB (l.take m) = true := rowsB_sub h (List.take_sublist _ _)
theorem parts_drop {l : List S57} (h : rowsB l = true) (m : Nat) : rowsB (l.drop m) = true := rowsB_sub h (List.drop_sublist _ _)
theorem parts_turned {l : List S57} (h : rowsB l = true) {m : Nat} (hm : m ≤ l.length) : rowsB (l.drop m ++ l.take m) = decide (m = 0 ∨ m = l.length) := by
  by_cases hw : m = 0 ∨ m = l.length
  · rw [decide_eq_true hw]
    rcases hw with rfl | rfl <;> simpa using h
  · rw [decide_eq_false hw, Bool.eq_false_iff]
    intro h'
    have h1 := ((rowsB_pw _).1 h').2
    have h2 := ((rowsB_pw _).1 h).2
    rw [← List.take_append_drop m l] at h2
    rw [List.pairwise_append] at h1 h2
    have ha : 0 < (l.take m).length := by rw [List.length_take]; omega
    have hb : 0 < (l.drop m).length := by rw [List.length_drop]; omega
    have e1 := h1.2.2 _ (List.getElem_mem hb) _ (List.getElem_mem ha)
    have e2 := h2.2.2 _ (List.getElem_mem ha) _ (List.getElem_mem hb)
    rw [less_asymm e1] at e2
    cases e2
theorem parts_twice {l : List S57} {k : Nat} (hk : k < l.length) (z : S57) : rowsB (l.take k ++ [l.getD k z] ++ l.drop k) = false := by
  rw [Bool.eq_false_iff]
  intro h
  have h1 := ((rowsB_pw _).1 h).2
  rw [List.pairwise_append] at h1
  have e : l.drop k = l.getD k z :: l.drop (k + 1) := by rw [List.getD_eq_getElem?_getD, List.getElem?_eq_getElem hk]; exact List.drop_eq_getElem_cons hk
  have := h1.2.2 (l.getD k z) (by simp) (l.getD k z) (by rw [e]; exact List.mem_cons_self)
  rw [less_irrefl] at this
  cases this
theorem and_16_i (a : Int) : 0 ≤ Go.bits .and .i64 a 65535 ∧ Go.bits .and .i64 a 65535 ≤ 65535 := by
  have b : Go.bits .and .i64 a 65535 = IntKind.i64.wrap ((BitVec.ofInt 64 a &&& BitVec.ofInt 64 65535).toNat : Int) := rfl
  have h : (BitVec.ofInt 64 a &&& BitVec.ofInt 64 65535).toNat ≤ 65535 := by
    rw [BitVec.toNat_and]
    exact Nat.le_trans Nat.and_le_right (by decide)
  rw [b, IntKind.wrap_i64]
  omega
theorem at_cut (a : Int) (n : Nat) : ∃ m : Nat, (Go.bits .and .i64 a 65535).tmod ((n : Int) + 1) = (m : Int) ∧ m ≤ n := by
  obtain ⟨h0, _⟩ := and_16_i a
  have h1 := Int.tmod_nonneg ((n : Int) + 1) h0
  have h2 := Int.tmod_lt_of_pos (Go.bits .and .i64 a 65535) (b := (n : Int) + 1) (by omega)
  exact ⟨_, (Int.toNat_of_nonneg h1).symm, by omega⟩
theorem mid_cut (m n : Nat) (hn : 0 < n) (hb : n ≤ 60 := by omega) : ∃ q : Nat, (if wrap64 ((n : Int) - 1) < (m : Int) then wrap64 ((n : Int) - 1) else (m : Int)) = (q : Int) ∧ q < n := by
  have e : wrap64 ((n : Int) - 1) = (n : Int) - 1 := by unfold wrap64; omega
  rw [e]
  by_cases h : (n : Int) - 1 < (m : Int)
  · rw [if_pos h]; exact ⟨n - 1, by omega, by omega⟩
  · rw [if_neg h]; exact ⟨m, rfl, by omega⟩
end Go.Proofs.Ytgmdoapedhppmaa.PC
