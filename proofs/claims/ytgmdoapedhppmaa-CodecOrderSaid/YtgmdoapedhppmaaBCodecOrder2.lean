/- Texts of this session in one: HEpoch, HDecode, HShown, PCx60, HOpen, HOpen2, HPureOrder. Plain functions, and that the program's come to them. -/
import Derived.Test.YtgmdoapedhppmaaWWords
import Derived.Deep.Slices
import Derived.SizedLaws
import Derived.ChangeArms
import Derived.WideShapes
import Derived.Test.YtgmdoapedhppmaaBCodecOrder0
import Derived.Test.YtgmdoapedhppmaaBCodecOrder1

namespace Go.Proofs.Ytgmdoapedhppmaa.PC
set_option linter.unusedVariables false
set_option linter.unusedSimpArgs false
open Go.RowKit Go.Proofs.YtgmdoapedhppmaaW.PrintWords Go.Proofs.YtgmdoapedhppmaaW.PrintLast Go.Proofs.YtgmdoapedhppmaaW.PrintMore
attribute [local go_sem] max2_int min2_int max_two min_two max_three min_three max_four min_four
def takeChangesL (k : Nat) : Nat → S28 → List S50 → List Int → Option (Except Int (List S50 × List Int))
  | 0, _, acc, l => some (.ok (acc, l))
  | n + 1, last, acc, l => (takeKey k last l).bind fun q => match q with
    | .error c => some (.error c)
    | .ok (key, l1) => (takeN k 0 257 l1).bind fun q => match q with
      | .error c => some (.error c)
      | .ok (m, l2) => match takeB (mx (m - 1) 0) l2 with
        | .error c => some (.error c)
        | .ok (v, l3) => takeChangesL k n key (acc ++ [⟨key, m == 0, v⟩]) l3
def takeTxnsL (k : Nat) (N : Int) : Nat → Int → List S47 → List Int → Option (Except Int (List S47 × List Int))
  | 0, _, acc, l => some (.ok (acc, l))
  | n + 1, last, acc, l => (takeN k 0 4294967295 l).bind fun q => match q with
    | .error c => some (.error c)
    | .ok (tid, l1) => if last < tid then (takeN k 1 32 l1).bind fun q => match q with
        | .error c => some (.error c)
        | .ok (m, l2) => (takeChangesL k m.toNat ⟨0, ⟨#[]⟩⟩ [] l2).bind fun q => match q with
          | .error c => some (.error c)
          | .ok (cs, l3) => takeTxnsL k N n tid (acc ++ [⟨N * 4294967296 + tid, cs⟩]) l3
      else some (.error 3)
def takeEpoch (k : Nat) (l : List Int) : Option (Except Int ((Int × List S47) × List Int)) :=
  (takeN k 1 4294967295 l).bind fun q => match q with
    | .error c => some (.error c)
    | .ok (N, l1) => (takeN k 0 64 l1).bind fun q => match q with
      | .error c => some (.error c)
      | .ok (n, l2) => (takeTxnsL k N n.toNat (-1) [] l2).bind fun q => match q with
        | .error c => some (.error c)
        | .ok (xs, l3) => some (.ok ((N, xs), l3))
set_option maxRecDepth 100000 in
set_option maxHeartbeats 4000000 in
theorem epoch_calls (k : Nat) : EpochCalls (takeEpoch k) := by
  intro w0 w g l q hR hB hg hq
  have HR := Aside0.mk hR
  have HB0 := Aside0.mk hB
  have GL : Aside0 (g < w.heap.size) := ⟨by obtain ⟨_, _, hb, _⟩ := hR; exact blk_lt hb⟩
  obtain ⟨q1, hq1, hq2⟩ := Option.bind_eq_some_iff.1 (show (takeN k 1 4294967295 l).bind _ = some q from hq)
  have hgb : ∀ i, i = g → w0.heap.size ≤ i := fun i hi => by rw [hi]; exact hg
  have N1 := Aside0.mk hq1
  have N2 := Aside0.mk hq2
  clear hR hB hq hq1 hq2
  go_enter Try.func53, Try.ntmps53
  go_wp2_with (((with_reducible refine gate_dst (N := 2) rfl ?_); refine box_event ?hg (N := 2) ?hd (cs := #[.int .u32 0, .slice none 0 0]) (t := 25) ?hr ?_; (case hd => rfl); (case hg => rfl); (case hr => first | (go_simp; done) | (go_simp; rfl)); intro ge hge w1 hbox hb; have BE1 := Aside0.mk hbox; have HE := Aside0.mk hge; have HB1 := Aside0.mk hb; clear hb hbox hge))
  have hw1 : Aside0 (Below w0.heap.size w0 w1) := ⟨below_step HB0.out HB1.out⟩
  have hne1 : ¬ ge = g := by rw [HE.out]; have := GL.out; omega
  cases q1 with
  | error c =>
    obtain rfl : .error c = q := Option.some.inj N2.out
    refine (number_calls k 1 4294967295 _ w0 w1 g l (HR.out.stay (Stay.of_below (fun _ => False) HB1.out) id) hw1.out hg N1.out).mono ?_
    rintro e w2 ⟨ho, hs⟩
    obtain rfl := ho
    exact ⟨rfl, rfl, (Stay.of_below _ HB1.out).trans hs⟩
  | ok p1 =>
    obtain ⟨N, l1⟩ := p1
    have hn := takeN_ok N1.out (by decide) (by decide)
    refine (number_calls k 1 4294967295 _ w0 w1 g l (HR.out.stay (Stay.of_below (fun _ => False) HB1.out) id) hw1.out hg N1.out).mono ?_
    rintro e w2 ⟨⟨rfl, hr2⟩, hs⟩
    have R2 := Aside0.mk hr2
    have BE2 := Aside0.mk (hs.blk BE1.out hne1)
    have ST2 := Aside0.mk ((Stay.of_below (fun k => k = g) HB1.out).trans hs)
    obtain ⟨q2, hq1, hq2⟩ := Option.bind_eq_some_iff.1 (show (takeN k 0 64 l1).bind _ = some q from N2.out)
    clear hs hr2 N1 N2 BE1 HB1 hw1 HR
    have N1 := Aside0.mk hq1
    have N2 := Aside0.mk hq2
    clear hq1 hq2
    have hz0 : w2.cell? ⟨ge, 0, none⟩ = some (.int .u32 0) := (blk_cell BE2.out 0).trans rfl
    have hf0 := blk_frozen BE2.out 0
    obtain ⟨hn0, hn1⟩ := hn
    go_wp2_with fail
    have T3 : Aside0 (Stay (fun k => k = ge) w2 (w2.setCell ⟨ge, 0, none⟩ (.int .u32 N))) := ⟨(Stay.refl (fun k => k = ge) w2).set (.inl rfl) 0 _⟩
    have BE3 := Aside0.mk (blk_put (cs := #[.int .u32 0, .slice none 0 0]) BE2.out 0 (.int .u32 N) rfl)
    have R3 := Aside0.mk (R2.out.stay T3.out (fun e => hne1 e.symm))
    have ST3 : Aside0 (Stay (fun k => k = g) w (w2.setCell ⟨ge, 0, none⟩ (.int .u32 N))) := ⟨ST2.out.step T3.out (fun i hi => Or.inr (by rw [hi, HE.out]; exact Nat.le_refl _))⟩
    clear BE2 R2 ST2 T3 hz0 hf0
    generalize w2.setCell ⟨ge, 0, none⟩ (.int .u32 N) = w3 at BE3 R3 ST3 ⊢
    cases q2 with
    | error c =>
      obtain rfl : .error c = q := Option.some.inj N2.out
      refine (number_calls k 0 64 _ w0 w3 g l1 R3.out (ST3.out.below HB0.out hgb) hg N1.out).mono ?_
      rintro e w2 ⟨ho, hs⟩
      obtain rfl := ho
      exact ⟨rfl, rfl, ST3.out.trans hs⟩
    | ok p2 =>
    obtain ⟨n2, l2⟩ := p2
    have hm := takeN_ok N1.out (by decide) (by decide)
    obtain ⟨hm0, hm1⟩ := hm
    refine (number_calls k 0 64 _ w0 w3 g l1 R3.out (ST3.out.below HB0.out hgb) hg N1.out).mono ?_
    rintro e w4 ⟨⟨rfl, hr4⟩, hs⟩
    have R4 := Aside0.mk hr4
    have BE4 := Aside0.mk (hs.blk BE3.out hne1)
    have ST4 := Aside0.mk (ST3.out.trans hs)
    obtain ⟨q3, hq1, hq2⟩ := Option.bind_eq_some_iff.1 (show (takeTxnsL k N n2.toNat (-1) [] l2).bind _ = some q from N2.out)
    have TX := Aside0.mk hq1
    have FQ := Aside0.mk hq2
    clear hs hr4 BE3 R3 ST3 N1 N2 hq1 hq2
    go_wp2_with fail
    go_loopg [3, 15] n2.toNat (fun kq v3 v15 w' => ∃ (acc : List S47) (last : Int) (l' : List Int) (x15 : Int) (v : Value), v3 = .int .i64 last ∧ v15 = .int .i64 x15 ∧ Aside0 (n2 - x15 = (kq : Int)) ∧ 0 ≤ x15 ∧ x15 ≤ n2 ∧ -1 ≤ last ∧ last ≤ 4294967295 ∧ Aside0 (acc.length + kq ≤ 64) ∧ Aside0 (takeTxnsL k N kq last acc l' = some q3) ∧ Aside0 (Rd w0 w' g l') ∧ Aside0 (w'.heap[ge]? = some (.cells #[.int .u32 N, v] 25 (0, 0))) ∧ Aside0 (Kd.S k47 47 w' w.heap.size (fun _ => True) v acc) ∧ Aside0 (Stay (fun k => k = g) w w'))
    case atStart => exact ⟨[], -1, l2, 0, .slice none 0 0, rfl, rfl, ⟨by omega⟩, by omega, by omega, by omega, by omega, ⟨by simp; omega⟩, TX, R4, BE4, ⟨Kd.S_nil _ _ _ _ _⟩, ST4⟩
    case round =>
      clear TX R4 BE4 ST4
      obtain ⟨acc, last, l', x15, v, rfl, rfl, HX, hx0, hx1, hl0, hl1, HA, TX, R2, BE2, S2, ST2⟩ := hrel
      by_cases hp : x15 < n2
      · have dp : decide (x15 < n2) = true := decide_eq_true hp
        cases gk with
        | zero => exact absurd HX.out (by omega)
        | succ gk1 =>
          have H := TX.out
          clear TX
          simp only [takeTxnsL] at H
          obtain ⟨qk, hqk, H⟩ := Option.bind_eq_some_iff.1 H
          have QK := Aside0.mk hqk
          have Q3 := Aside0.mk H
          clear hqk H
          go_wp2_with fail
          cases qk with
          | error c =>
            obtain rfl : .error c = q3 := Option.some.inj Q3.out
            obtain rfl : .error c = q := Option.some.inj FQ.out
            refine (number_calls k 0 4294967295 _ w0 _ g l' R2.out (ST2.out.below HB0.out hgb) hg QK.out).mono ?_
            rintro e w3 ⟨ho, hs⟩
            obtain rfl := ho
            exact ⟨rfl, rfl, ST2.out.trans hs⟩
          | ok pk =>
          obtain ⟨tid, l1⟩ := pk
          obtain ⟨ht0, ht1⟩ := takeN_ok QK.out (by decide) (by decide)
          refine (number_calls k 0 4294967295 _ w0 _ g l' R2.out (ST2.out.below HB0.out hgb) hg QK.out).mono ?_
          rintro e w3 ⟨⟨rfl, hr3⟩, hs⟩
          have R3 := Aside0.mk hr3
          have BE3 := Aside0.mk (hs.blk BE2.out hne1)
          have S3 := Aside0.mk (S_stayT (by decide) S2.out R2.out hs)
          have ST3 := Aside0.mk (ST2.out.trans hs)
          clear R2 BE2 S2 ST2 hr3 hs QK
          go_wp2_with fail
          by_cases hlt : last < tid
          case neg =>
            have dl : decide (last < tid) = false := decide_eq_false hlt
            have H := Q3.out
            simp only [if_neg hlt] at H
            obtain rfl : .error 3 = q3 := Option.some.inj H
            obtain rfl : .error 3 = q := Option.some.inj FQ.out
            rw [dl]
            refine (must_calls false _).mono ?_
            rintro e w4 ⟨he, hb⟩
            rw [if_neg (by decide)] at he
            subst he
            exact ⟨rfl, rfl, ST3.out.trans (Stay.of_below _ hb)⟩
          have dl : decide (last < tid) = true := decide_eq_true hlt
          have H := Q3.out
          simp only [if_pos hlt] at H
          obtain ⟨qm, hqm, H⟩ := Option.bind_eq_some_iff.1 H
          have QM := Aside0.mk hqm
          have Q4 := Aside0.mk H
          clear hqm H Q3
          rw [dl]
          refine (must_calls true _).mono ?_
          rintro e w4 ⟨he, hb⟩
          rw [if_pos rfl] at he
          subst he
          have R4 := Aside0.mk (R3.out.stay (Stay.of_below (fun _ => False) hb) id)
          have BE4 := Aside0.mk (blk_below BE3.out hb)
          have S4 := Aside0.mk (Kd.S_below S3.out hb)
          have ST4 := Aside0.mk (ST3.out.trans (Stay.of_below _ hb))
          clear R3 BE3 S3 ST3 hb dl hlt
          have hz0 : w4.cell? ⟨ge, 0, none⟩ = some (.int .u32 N) := (blk_cell BE4.out 0).trans rfl
          have hf0 := blk_frozen BE4.out 0
          have hor : Go.bits .or .u64 (N * 4294967296) tid = N * 4294967296 + tid := by
            have e32 : (2 : Int) ^ 32 = 4294967296 := by decide
            exact B.or_join 32 (N * 4294967296) tid (by omega) (by rw [e32]; omega) (by omega) (by omega) (by rw [e32]; omega) (by omega)
          go_wp2_with (first | ((with_reducible refine gate_dst (N := 5) rfl ?_); refine box_event ?hg (N := 5) ?hd (cs := #[.int .u64 0, .slice none 0 0]) (t := 47) ?hr ?_; (case hd => rfl); (case hg => rfl); (case hr => first | (go_simp; done) | (go_simp; rfl)); intro gt hgt w5 hbox hb; have BT5 := Aside0.mk hbox; have HGT := Aside0.mk hgt; have HB5 := Aside0.mk hb; have hz10 := (blk_cell hbox 0).trans rfl; have hz11 := (blk_cell hbox 1).trans rfl; have hf10 := blk_frozen hbox 0; have hf11 := blk_frozen hbox 1; clear hb hbox hgt) | ((with_reducible refine gate_dst (N := 6) rfl ?_); refine box_event ?hg (N := 6) ?hd (cs := #[.int .u8 0, .string (⟨#[]⟩ : ByteArray)]) (t := 28) ?hr ?_; (case hd => rfl); (case hg => rfl); (case hr => first | (go_simp; done) | (go_simp; rfl)); intro gh hgh w6 hbox hb; have BH6 := Aside0.mk hbox; have HGH := Aside0.mk hgh; have HB6 := Aside0.mk hb; clear hb hbox hgh))
          have T5 : Aside0 (Stay (fun k => k = gt) w5 ((w5.setCell ⟨gt, 0, none⟩ (.int .u64 (N * 4294967296 + tid))).setCell ⟨gt, 1, none⟩ (.slice none 0 0))) := ⟨((Stay.refl (fun k => k = gt) w5).set (.inl rfl) 0 _).set (.inl rfl) 1 _⟩
          obtain ⟨H0, hH0⟩ : ∃ n, n = w4.heap.size := ⟨_, rfl⟩
          have GT0 : Aside0 (gt = H0) := ⟨by rw [HGT.out, hH0]⟩
          have WH0 : Aside0 (w.heap.size ≤ H0) := ⟨by rw [hH0]; exact ST4.out.size⟩
          have GE0 : Aside0 (ge < H0) := ⟨by rw [hH0]; exact blk_lt BE4.out⟩
          have GG0 : Aside0 (g < H0) := ⟨by have := GL.out; have := WH0.out; omega⟩
          have S5 : Aside0 (Kd.S k47 47 w5 w.heap.size (fun k => k < H0) v acc) := ⟨Kd.S_mono (Kd.S_old S4.out HB5.out) (fun k hk => by rw [hH0]; exact hk.2)⟩
          have S5b : Aside0 (Kd.S k47 47 ((w5.setCell ⟨gt, 0, none⟩ (.int .u64 (N * 4294967296 + tid))).setCell ⟨gt, 1, none⟩ (.slice none 0 0)) w.heap.size (fun k => k < H0) v acc) := ⟨Kd.S_far (p := ⟨gt, 1, none⟩) (Kd.S_far (p := ⟨gt, 0, none⟩) S5.out (fun k hk e => by have := GT0.out; have e : k = gt := e; omega) _) (fun k hk e => by have := GT0.out; have e : k = gt := e; omega) _⟩
          have R5 := Aside0.mk ((R4.out.stay (Stay.of_below (fun _ => False) HB5.out) id).stay T5.out (fun e => by have := GG0.out; have := GT0.out; omega))
          have BE5 := Aside0.mk (T5.out.blk (blk_below BE4.out HB5.out) (by have := GE0.out; have := GT0.out; omega))
          have BT5b := Aside0.mk (blk_put (cs := #[.int .u64 (N * 4294967296 + tid), .slice none 0 0]) (blk_put (cs := #[.int .u64 0, .slice none 0 0]) BT5.out 0 (.int .u64 (N * 4294967296 + tid)) rfl) 1 (.slice none 0 0) rfl)
          have ST5 := Aside0.mk ((ST4.out.trans (Stay.of_below _ HB5.out)).step T5.out (fun i hi => Or.inr (by rw [hi, GT0.out]; exact WH0.out)))
          have SZ5 : Aside0 (H0 < w5.heap.size) := ⟨by have := blk_lt BT5.out; have := GT0.out; omega⟩
          have SZ5b : Aside0 (H0 < ((w5.setCell ⟨gt, 0, none⟩ (.int .u64 (N * 4294967296 + tid))).setCell ⟨gt, 1, none⟩ (.slice none 0 0)).heap.size) := ⟨Nat.lt_of_lt_of_le SZ5.out T5.out.size⟩
          clear hz0 hf0 hz10 hz11 hf10 hf11 S4 S5 R4 BE4 BT5 ST4 HB5 T5 hH0 HGT hor SZ5
          generalize (w5.setCell ⟨gt, 0, none⟩ (.int .u64 (N * 4294967296 + tid))).setCell ⟨gt, 1, none⟩ (.slice none 0 0) = w5b at S5b R5 BE5 BT5b ST5 SZ5b HB6 HGH ⊢
          have GH0 : Aside0 (H0 < gh) := ⟨by rw [HGH.out]; exact SZ5b.out⟩
          have S6 := Aside0.mk (Kd.S_below S5b.out HB6.out)
          have R6 := Aside0.mk (R5.out.stay (Stay.of_below (fun _ => False) HB6.out) id)
          have BE6 := Aside0.mk (blk_below BE5.out HB6.out)
          have BT6 := Aside0.mk (blk_below BT5b.out HB6.out)
          have ST6 := Aside0.mk (ST5.out.trans (Stay.of_below _ HB6.out))
          have hneh : ¬ gh = g := by have := GH0.out; have := GG0.out; omega
          clear S5b R5 BE5 BT5b ST5 SZ5b HB6 HGH
          cases qm with
          | error c =>
            obtain rfl : .error c = q3 := Option.some.inj Q4.out
            obtain rfl : .error c = q := Option.some.inj FQ.out
            refine (number_calls k 1 32 _ w0 _ g l1 R6.out (ST6.out.below HB0.out hgb) hg QM.out).mono ?_
            rintro e w3 ⟨ho, hs⟩
            obtain rfl := ho
            exact ⟨rfl, rfl, ST6.out.trans hs⟩
          | ok pm =>
          obtain ⟨m, l2⟩ := pm
          obtain ⟨hmm0, hmm1⟩ := takeN_ok QM.out (by decide) (by decide)
          refine (number_calls k 1 32 _ w0 _ g l1 R6.out (ST6.out.below HB0.out hgb) hg QM.out).mono ?_
          rintro e w7 ⟨⟨rfl, hr7⟩, hs⟩
          have R7 := Aside0.mk hr7
          have BE7 := Aside0.mk (hs.blk BE6.out hne1)
          have BT7 := Aside0.mk (hs.blk BT6.out (by have := GG0.out; have := GT0.out; omega))
          have BH7 := Aside0.mk (hs.blk BH6.out hneh)
          have S7 := Aside0.mk (S_stayT (by decide) S6.out R6.out hs)
          have ST7 := Aside0.mk (ST6.out.trans hs)
          clear R6 BE6 S6 ST6 BT6 BH6 hr7 hs QM
          obtain ⟨qc, hqc, H⟩ := Option.bind_eq_some_iff.1 (show (takeChangesL k m.toNat ⟨0, ⟨#[]⟩⟩ [] l2).bind _ = some q3 from Q4.out)
          have QC := Aside0.mk hqc
          have Q5 := Aside0.mk H
          clear hqc H Q4
          go_wp2_with fail
          obtain ⟨wo, hwo⟩ : ∃ wo : World, wo = wr := ⟨_, rfl⟩
          clear hwo
          go_loopg [34] m.toNat (fun kq v34 w' => ∃ (cs : List S50) (last2 : S28) (l' : List Int) (x34 : Int) (vc : Value), v34 = .int .i64 x34 ∧ Aside0 (m - x34 = (kq : Int)) ∧ 0 ≤ x34 ∧ x34 ≤ m ∧ Aside0 (cs.length + kq ≤ 32) ∧ Aside0 (takeChangesL k kq last2 cs l' = some qc) ∧ Aside0 (Rd w0 w' g l') ∧ Aside0 (w'.heap[ge]? = some (.cells #[.int .u32 N, v] 25 (0, 0))) ∧ Aside0 (w'.heap[gt]? = some (.cells #[.int .u64 (N * 4294967296 + tid), vc] 47 (0, 0))) ∧ Aside0 (w'.heap[gh]? = some (keyCells last2)) ∧ Aside0 (Kd.S k50 50 w' H0 (fun _ => True) vc cs) ∧ Aside0 (Kd.S k47 47 w' w.heap.size (fun k => k < H0) v acc) ∧ Aside0 (Stay (fun k => k = g) w w'))
          case atStart => exact ⟨[], ⟨0, ⟨#[]⟩⟩, l2, 0, .slice none 0 0, rfl, ⟨by omega⟩, by omega, by omega, ⟨by simp; omega⟩, QC, R7, BE7, BT7, BH7, ⟨Kd.S_nil _ _ _ _ _⟩, S7, ST7⟩
          case round =>
            clear QC R7 BE7 BT7 BH7 S7 ST7
            obtain ⟨cs, last2, l', x34, vc, rfl, HX2, hx20, hx21, HA2, QC, R2, BE2, BT2, BH2, SC2, S2, ST2⟩ := hrel
            by_cases hp2 : x34 < m
            · have dp2 : decide (x34 < m) = true := decide_eq_true hp2
              cases gk with
              | zero => exact absurd HX2.out (by omega)
              | succ gk2 =>
                have H := QC.out
                clear QC
                simp only [takeChangesL] at H
                obtain ⟨qk, hqk, H⟩ := Option.bind_eq_some_iff.1 H
                have QK := Aside0.mk hqk
                have Q6 := Aside0.mk H
                clear hqk H
                go_wp2_with fail
                cases qk with
                | error c =>
                  obtain rfl : .error c = qc := Option.some.inj Q6.out
                  obtain rfl : .error c = q3 := Option.some.inj Q5.out
                  obtain rfl : .error c = q := Option.some.inj FQ.out
                  refine (key_calls k last2 _ w0 _ g gh l' R2.out (ST2.out.below HB0.out hgb) hg (by have := GH0.out; have := WH0.out; have := HB0.out.size; omega) hneh BH2.out QK.out).mono ?_
                  rintro e w3 ⟨ho, hs, _⟩
                  obtain rfl := ho
                  exact ⟨rfl, rfl, ST2.out.step hs (fun i hi => hi.elim Or.inl (fun e => Or.inr (by have := GH0.out; have := WH0.out; omega)))⟩
                | ok pk =>
                obtain ⟨key, l1⟩ := pk
                refine (key_calls k last2 _ w0 _ g gh l' R2.out (ST2.out.below HB0.out hgb) hg (by have := GH0.out; have := WH0.out; have := HB0.out.size; omega) hneh BH2.out QK.out).mono ?_
                rintro e w8 ⟨⟨rfl, hr8⟩, hs, hl8⟩
                have R8 := Aside0.mk hr8
                have BE8 := Aside0.mk (hs.blk BE2.out (fun e => e.elim hne1 (fun e => by have := GE0.out; have := GH0.out; omega)))
                have BT8 := Aside0.mk (hs.blk BT2.out (fun e => e.elim (fun e => by have := GG0.out; have := GT0.out; omega) (fun e => by have := GT0.out; have := GH0.out; omega)))
                have BH8 := Aside0.mk (hl8 _ rfl)
                have SC8 := Aside0.mk (S_stay2T (by decide) (by decide) SC2.out R2.out BH2.out hs)
                have S8 := Aside0.mk (S_stay2T (by decide) (by decide) S2.out R2.out BH2.out hs)
                have ST8 : Aside0 (Stay (fun k => k = g) w w8) := ⟨ST2.out.step hs (fun i hi => hi.elim Or.inl (fun e => Or.inr (by have := GH0.out; have := WH0.out; omega)))⟩
                have SZ8 : Aside0 (gh < w8.heap.size) := ⟨blk_lt BH8.out⟩
                clear R2 BE2 BT2 BH2 SC2 S2 ST2 hr8 hs hl8 QK
                go_wp2_with (((with_reducible refine gate_dst (N := 7) rfl ?_); refine box_event ?hg (N := 7) ?hd (cs := #[.int .u8 0, .string (⟨#[]⟩ : ByteArray), .bool false, .string (⟨#[]⟩ : ByteArray)]) (t := 50) ?hr ?_; (case hd => rfl); (case hg => rfl); (case hr => first | (go_simp; done) | (go_simp; rfl)); intro gc hgc w9 hbox hb; have BC9 := Aside0.mk hbox; have HGC := Aside0.mk hgc; have HB9 := Aside0.mk hb; have hz0 := (blk_cell hbox 0).trans rfl; have hz1 := (blk_cell hbox 1).trans rfl; have hz2 := (blk_cell hbox 2).trans rfl; have hz3 := (blk_cell hbox 3).trans rfl; have hf0 := blk_frozen hbox 0; have hf1 := blk_frozen hbox 1; have hf2 := blk_frozen hbox 2; have hf3 := blk_frozen hbox 3; clear hb hbox hgc))
                have T9 : Aside0 (Stay (fun k => k = gc) w9 ((((w9.setCell ⟨gc, 0, none⟩ (.int .u8 key.f0)).setCell ⟨gc, 1, none⟩ (.string key.f1)).setCell ⟨gc, 2, none⟩ (.bool false)).setCell ⟨gc, 3, none⟩ (.string (⟨#[]⟩ : ByteArray)))) := ⟨((((Stay.refl (fun k => k = gc) w9).set (.inl rfl) 0 _).set (.inl rfl) 1 _).set (.inl rfl) 2 _).set (.inl rfl) 3 _⟩
                have BC10 := Aside0.mk (blk_put (cs := #[.int .u8 key.f0, .string key.f1, .bool false, .string (⟨#[]⟩ : ByteArray)]) (blk_put (cs := #[.int .u8 key.f0, .string key.f1, .bool false, .string (⟨#[]⟩ : ByteArray)]) (blk_put (cs := #[.int .u8 key.f0, .string (⟨#[]⟩ : ByteArray), .bool false, .string (⟨#[]⟩ : ByteArray)]) (blk_put (cs := #[.int .u8 0, .string (⟨#[]⟩ : ByteArray), .bool false, .string (⟨#[]⟩ : ByteArray)]) BC9.out 0 (.int .u8 key.f0) rfl) 1 (.string key.f1) rfl) 2 (.bool false) rfl) 3 (.string (⟨#[]⟩ : ByteArray)) rfl)
                have GC0 : Aside0 (gh < gc) := ⟨by rw [HGC.out]; exact SZ8.out⟩
                have SC9 := Aside0.mk (Kd.S_below (Kd.S_elderB SC8.out gc (by rw [HGC.out]; exact Nat.le_refl _)) HB9.out)
                have SC10 : Aside0 (Kd.S k50 50 ((((w9.setCell ⟨gc, 0, none⟩ (.int .u8 key.f0)).setCell ⟨gc, 1, none⟩ (.string key.f1)).setCell ⟨gc, 2, none⟩ (.bool false)).setCell ⟨gc, 3, none⟩ (.string (⟨#[]⟩ : ByteArray))) H0 (fun k => True ∧ k ≠ gc) vc cs) := ⟨S_stay SC9.out T9.out (fun k hk e => hk.2 e)⟩
                have S10 := Aside0.mk (S_stay (Kd.S_below S8.out HB9.out) T9.out (fun k hk e => by have := GC0.out; have := GH0.out; omega))
                have R10 := Aside0.mk ((R8.out.stay (Stay.of_below (fun _ => False) HB9.out) id).stay T9.out (fun e => by have := GC0.out; have := GH0.out; have := GG0.out; omega))
                have BE10 := Aside0.mk (T9.out.blk (blk_below BE8.out HB9.out) (by have := GC0.out; have := GH0.out; have := GE0.out; omega))
                have BT10 := Aside0.mk (T9.out.blk (blk_below BT8.out HB9.out) (by have := GC0.out; have := GH0.out; have := GT0.out; omega))
                have BH10 := Aside0.mk (T9.out.blk (blk_below BH8.out HB9.out) (by have := GC0.out; omega))
                have ST10 := Aside0.mk ((ST8.out.trans (Stay.of_below _ HB9.out)).step T9.out (fun i hi => Or.inr (by have := GC0.out; have := GH0.out; have := WH0.out; omega)))
                have hnec : ¬ gc = g := by have := GC0.out; have := GH0.out; have := GG0.out; omega
                clear hz0 hz1 hz2 hz3 hf0 hf1 hf2 hf3 SC8 SC9 S8 R8 BE8 BT8 BH8 ST8 SZ8 T9 BC9 HGC HB9
                generalize (((w9.setCell ⟨gc, 0, none⟩ (.int .u8 key.f0)).setCell ⟨gc, 1, none⟩ (.string key.f1)).setCell ⟨gc, 2, none⟩ (.bool false)).setCell ⟨gc, 3, none⟩ (.string (⟨#[]⟩ : ByteArray)) = w10 at BC10 SC10 S10 R10 BE10 BT10 BH10 ST10 ⊢
                obtain ⟨qn, hqn, H⟩ := Option.bind_eq_some_iff.1 (show (takeN k 0 257 l1).bind _ = some qc from Q6.out)
                have QN := Aside0.mk hqn
                have Q7 := Aside0.mk H
                clear hqn H Q6
                cases qn with
                | error c =>
                  obtain rfl : .error c = qc := Option.some.inj Q7.out
                  obtain rfl : .error c = q3 := Option.some.inj Q5.out
                  obtain rfl : .error c = q := Option.some.inj FQ.out
                  refine (number_calls k 0 257 _ w0 _ g l1 R10.out (ST10.out.below HB0.out hgb) hg QN.out).mono ?_
                  rintro e w3 ⟨ho, hs⟩
                  obtain rfl := ho
                  exact ⟨rfl, rfl, ST10.out.trans hs⟩
                | ok pn =>
                obtain ⟨n, l2⟩ := pn
                obtain ⟨hnn0, hnn1⟩ := takeN_ok QN.out (by decide) (by decide)
                refine (number_calls k 0 257 _ w0 _ g l1 R10.out (ST10.out.below HB0.out hgb) hg QN.out).mono ?_
                rintro e w11 ⟨⟨rfl, hr11⟩, hs⟩
                have R11 := Aside0.mk hr11
                have BC11 := Aside0.mk (hs.blk BC10.out hnec)
                have BE11 := Aside0.mk (hs.blk BE10.out hne1)
                have BT11 := Aside0.mk (hs.blk BT10.out (by have := GG0.out; have := GT0.out; omega))
                have BH11 := Aside0.mk (hs.blk BH10.out hneh)
                have SC11 := Aside0.mk (S_stayT (by decide) SC10.out R10.out hs)
                have S11 := Aside0.mk (S_stayT (by decide) S10.out R10.out hs)
                have ST11 := Aside0.mk (ST10.out.trans hs)
                clear R10 BC10 BE10 S10 SC10 ST10 BT10 BH10 hr11 hs QN
                have hz2 : w11.cell? ⟨gc, 2, none⟩ = some (.bool false) := (blk_cell BC11.out 2).trans rfl
                have hf2 := blk_frozen BC11.out 2
                have T11 : Aside0 (Stay (fun k => k = gc) w11 (w11.setCell ⟨gc, 2, none⟩ (.bool (n == 0)))) := ⟨(Stay.refl (fun k => k = gc) w11).set (.inl rfl) 2 _⟩
                have BC12 := Aside0.mk (blk_put (cs := #[.int .u8 key.f0, .string key.f1, .bool false, .string (⟨#[]⟩ : ByteArray)]) BC11.out 2 (.bool (n == 0)) rfl)
                have SC12 := Aside0.mk (S_stay SC11.out T11.out (fun k hk e => hk.2 e))
                have S12 := Aside0.mk (S_stay S11.out T11.out (fun k hk e => by have := GC0.out; have := GH0.out; omega))
                have R12 := Aside0.mk (R11.out.stay T11.out (fun e => hnec e.symm))
                have BE12 := Aside0.mk (T11.out.blk BE11.out (by have := GC0.out; have := GH0.out; have := GE0.out; omega))
                have BT12 := Aside0.mk (T11.out.blk BT11.out (by have := GC0.out; have := GH0.out; have := GT0.out; omega))
                have BH12 := Aside0.mk (T11.out.blk BH11.out (by have := GC0.out; omega))
                have ST12 : Aside0 (Stay (fun k => k = g) w (w11.setCell ⟨gc, 2, none⟩ (.bool (n == 0)))) := ⟨ST11.out.step T11.out (fun i hi => Or.inr (by have := GC0.out; have := GH0.out; have := WH0.out; omega))⟩
                have TB1 : Aside0 (1 ≤ n → mx (n - 1) 0 = n - 1) := ⟨fun h => by unfold mx; rw [if_neg (by omega)]⟩
                have TB0 : Aside0 (n < 1 → mx (n - 1) 0 = 0) := ⟨fun h => by unfold mx; rw [if_pos (by omega)]⟩
                have Q8a : ∀ qb, qb = takeB (mx (n - 1) 0) l2 → (match qb with | .error c => some (.error c) | .ok (v, l3) => takeChangesL k gk2 key (cs ++ [⟨key, n == 0, v⟩]) l3) = some qc := by rintro _ rfl; exact Q7.out
                obtain ⟨qb, hqb⟩ : ∃ qb, qb = takeB (mx (n - 1) 0) l2 := ⟨_, rfl⟩
                have Q8 := Aside0.mk (Q8a qb hqb)
                clear Q8a
                have QB := Aside0.mk hqb
                clear hqb Q7 R11 BC11 BE11 BT11 BH11 SC11 S11 ST11 T11
                go_wp2_with fail
                all_goals
                  clear hz2 hf2
                  generalize w11.setCell ⟨gc, 2, none⟩ (.bool (n == 0)) = w12 at R12 BC12 BE12 BT12 BH12 SC12 S12 ST12 ⊢
                  refine (bytes_calls _ (by omega) w0 _ g l2 R12.out (ST12.out.below HB0.out hgb) hg).mono ?_
                  rintro e w13 ⟨ho, hs⟩
                  replace ho : Out w0 g Value.string qb e w13 := by (rw [QB.out]; first | (rw [TB1.out (by omega)]; exact ho) | (rw [TB0.out (by omega)]; exact ho))
                  have HS := Aside0.mk hs
                  clear hs
                  cases qb with
                  | error c =>
                    obtain rfl : .error c = qc := Option.some.inj Q8.out
                    obtain rfl : .error c = q3 := Option.some.inj Q5.out
                    obtain rfl : .error c = q := Option.some.inj FQ.out
                    obtain rfl := ho
                    exact ⟨rfl, rfl, ST12.out.trans HS.out⟩
                  | ok pb =>
                  obtain ⟨vl, l3⟩ := pb
                  obtain ⟨rfl, hr13⟩ := ho
                  have R13 := Aside0.mk hr13
                  have BC13 := Aside0.mk (HS.out.blk BC12.out hnec)
                  have BE13 := Aside0.mk (HS.out.blk BE12.out hne1)
                  have BT13 := Aside0.mk (HS.out.blk BT12.out (by have := GG0.out; have := GT0.out; omega))
                  have BH13 := Aside0.mk (HS.out.blk BH12.out hneh)
                  have SC13 := Aside0.mk (S_stayT (by decide) SC12.out R12.out HS.out)
                  have S13 := Aside0.mk (S_stayT (by decide) S12.out R12.out HS.out)
                  have ST13 := Aside0.mk (ST12.out.trans HS.out)
                  clear R12 BC12 BE12 S12 SC12 ST12 BT12 BH12 hr13 HS QB TB0 TB1
                  have Q9 : Aside0 (takeChangesL k gk2 key (cs ++ [⟨key, n == 0, vl⟩]) l3 = some qc) := ⟨Q8.out⟩
                  have T13 : Aside0 (Stay (fun k => k = gc) w13 (w13.setCell ⟨gc, 3, none⟩ (.string vl))) := ⟨(Stay.refl (fun k => k = gc) w13).set (.inl rfl) 3 _⟩
                  have BC14 := Aside0.mk (blk_put (cs := #[.int .u8 key.f0, .string key.f1, .bool (n == 0), .string (⟨#[]⟩ : ByteArray)]) BC13.out 3 (.string vl) rfl)
                  have SC14 := Aside0.mk (S_stay SC13.out T13.out (fun k hk e => hk.2 e))
                  have S14 := Aside0.mk (S_stay S13.out T13.out (fun k hk e => by have := GC0.out; have := GH0.out; omega))
                  have R14 := Aside0.mk (R13.out.stay T13.out (fun e => hnec e.symm))
                  have BE14 := Aside0.mk (T13.out.blk BE13.out (by have := GC0.out; have := GH0.out; have := GE0.out; omega))
                  have BT14 := Aside0.mk (T13.out.blk BT13.out (by have := GC0.out; have := GH0.out; have := GT0.out; omega))
                  have BH14 := Aside0.mk (T13.out.blk BH13.out (by have := GC0.out; omega))
                  have ST14 : Aside0 (Stay (fun k => k = g) w (w13.setCell ⟨gc, 3, none⟩ (.string vl))) := ⟨ST13.out.step T13.out (fun i hi => Or.inr (by have := GC0.out; have := GH0.out; have := WH0.out; omega))⟩
                  have hz3 : w13.cell? ⟨gc, 3, none⟩ = some (.string (⟨#[]⟩ : ByteArray)) := (blk_cell BC13.out 3).trans rfl
                  have hf3 := blk_frozen BC13.out 3
                  clear R13 BC13 BE13 BT13 BH13 SC13 S13 ST13 T13 Q8
                  go_upto_region 16 with (fail)
                  clear hz3 hf3
                  generalize w13.setCell ⟨gc, 3, none⟩ (.string vl) = w14 at BC14 SC14 S14 R14 BE14 BT14 BH14 ST14 ⊢
                  have hzt1 : w14.cell? ⟨gt, 1, none⟩ = some vc := (blk_cell BT14.out 1).trans rfl
                  have hzc0 : w14.cell? ⟨gc, 0, none⟩ = some (.int .u8 key.f0) := (blk_cell BC14.out 0).trans rfl
                  have hzc1 : w14.cell? ⟨gc, 1, none⟩ = some (.string key.f1) := (blk_cell BC14.out 1).trans rfl
                  have hzc2 : w14.cell? ⟨gc, 2, none⟩ = some (.bool (n == 0)) := (blk_cell BC14.out 2).trans rfl
                  have hzc3 : w14.cell? ⟨gc, 3, none⟩ = some (.string vl) := (blk_cell BC14.out 3).trans rfl
                  go_wp2_with ((with_reducible refine gate_builtin (b := .append) (xs := #[.tmp 51, .tmp 53]) rfl ?_); at_builtin; refine Kd.S_append k50 (w0 := w14) H0 rfl (.tmp 51) (.tmp 53) 45 50 (.agg #[(.int .u8 0), (.string ⟨#[]⟩), (.bool false), (.string ⟨#[]⟩)]) 48 rfl Try.underlying45 info50 rfl (by decide) (by omega) vc cs (⟨key, n == 0, vl⟩ : S50) [.int .u8 key.f0, .string key.f1, .bool (n == 0), .string vl] (fun _ => True) (fun _ => False) rfl rfl ?aP (fun _ hk => hk.elim) ?aF ?aO ?aB ?aS ?aL ?_; (case aP => exact k50_mkM _ _ _ _); (case aF => exact (fun _ _ => trivial)); (case aO => exact Kd.S_mono SC14.out (fun _ _ => ⟨trivial, fun h => h⟩)); (case aB => exact Below.refl _ _); (case aS => exact Nat.le_of_lt (Nat.lt_trans GH0.out (blk_lt BH14.out))); (case aL => have := HA2.out; omega); intro v15 w15 ho hb hgw hat; have SC15 := Aside0.mk ho; have HGW := Aside0.mk hgw; clear ho hb hgw hat; have hzt1 : w15.cell? ⟨gt, 1, none⟩ = some vc := (blk_cell ((Stay.of_grown HGW.out).blk BT14.out (Kd.S_ne SC14.out BT14.out (by decide))) 1).trans rfl; have hft1 := blk_frozen ((Stay.of_grown HGW.out).blk BT14.out (Kd.S_ne SC14.out BT14.out (by decide))) 1; (obtain ⟨cs2, hcs2⟩ : ∃ c, c = cs ++ [(⟨key, n == 0, vl⟩ : S50)] := ⟨_, rfl⟩); rw [← hcs2] at SC15 Q9; have HC2 : Aside0 (cs2.length = cs.length + 1) := ⟨by rw [hcs2, List.length_append]; rfl⟩; clear hcs2; obtain ⟨A15, c15, rfl⟩ := Kd.S_slice SC15.out)
                  have G15 := Aside0.mk (Stay.of_grown HGW.out)
                  have hsb : Aside0 (∀ i, some i = vc.ownBlock → H0 ≤ i) := ⟨fun i hi => Kd.S_base SC14.out i hi.symm⟩
                  have S15 := Aside0.mk (S_stay S14.out G15.out (fun k hk e => by have := hsb.out k e; omega))
                  have R15 := Aside0.mk (R14.out.stay G15.out (by obtain ⟨A, c, hb, _⟩ := R14.out; exact Kd.S_ne SC14.out hb (by decide)))
                  have BE15 := Aside0.mk (G15.out.blk BE14.out (Kd.S_ne SC14.out BE14.out (by decide)))
                  have BT15 := Aside0.mk (G15.out.blk BT14.out (Kd.S_ne SC14.out BT14.out (by decide)))
                  have BH15 := Aside0.mk (G15.out.blk BH14.out (Kd.S_ne SC14.out BH14.out (by decide)))
                  have ST15 := Aside0.mk (ST14.out.step G15.out (fun i hi => Or.inr (by have := hsb.out i hi; have := WH0.out; omega)))
                  clear S14 R14 BE14 BT14 BH14 ST14 SC14 BC14 hsb HGW G15
                  have T15 : Aside0 (Stay (fun k => k = gt) w15 (w15.setCell ⟨gt, 1, none⟩ (.slice A15 cs2.length c15))) := ⟨(Stay.refl (fun k => k = gt) w15).set (.inl rfl) 1 _⟩
                  have SC16 := Aside0.mk (Kd.S_set SC15.out BT15.out (by decide) 1 (.slice A15 cs2.length c15))
                  have S16 := Aside0.mk (S_stay S15.out T15.out (fun k hk e => by have := GT0.out; omega))
                  have R16 := Aside0.mk (R15.out.stay T15.out (fun e => by have := GG0.out; have := GT0.out; omega))
                  have BE16 := Aside0.mk (T15.out.blk BE15.out (by have := GT0.out; have := GE0.out; omega))
                  have BT16 := Aside0.mk (blk_put (cs := #[.int .u64 (N * 4294967296 + tid), vc]) BT15.out 1 (.slice A15 cs2.length c15) rfl)
                  have BH16 := Aside0.mk (T15.out.blk BH15.out (by have := GH0.out; have := GT0.out; omega))
                  have ST16 := Aside0.mk (ST15.out.step T15.out (fun i hi => Or.inr (by have := GT0.out; have := WH0.out; omega)))
                  clear S15 R15 BE15 BT15 BH15 ST15 SC15 T15 hzt1 hft1 hzc0 hzc1 hzc2 hzc3
                  generalize w15.setCell ⟨gt, 1, none⟩ (.slice A15 cs2.length c15) = w16 at SC16 S16 R16 BE16 BT16 BH16 ST16 ⊢
                  go_wp2_with fail
                  go_roundg gk2
                  case measure => omega
                  case rel => exact ⟨cs2, key, l3, x34 + 1, .slice A15 cs2.length c15, rfl, ⟨by have := HX2.out; omega⟩, by omega, by omega, ⟨by have := HA2.out; have := HC2.out; omega⟩, Q9, R16, BE16, BT16, BH16, SC16, S16, ST16⟩
            · have dp2 : decide (x34 < m) = false := decide_eq_false hp2
              have hk0 : gk = 0 := by have := HX2.out; omega
              subst hk0
              have H := QC.out
              simp only [takeChangesL] at H
              obtain rfl := Option.some.inj H
              have Q6 : Aside0 (takeTxnsL k N gk1 tid (acc ++ [⟨N * 4294967296 + tid, cs⟩]) l' = some q3) := ⟨Q5.out⟩
              clear QC H Q5
              obtain ⟨Ac, cc, rfl⟩ := Kd.S_slice SC2.out
              have hgw : wr.heap[gt]? = some (.cells #[.int .u64 (N * 4294967296 + tid), .slice Ac cs.length cc] 47 (0, 0)) := BT2.out
              have hze1 : wr.cell? ⟨ge, 1, none⟩ = some v := (blk_cell BE2.out 1).trans rfl
              have hzt0 : wr.cell? ⟨gt, 0, none⟩ = some (.int .u64 (N * 4294967296 + tid)) := (blk_cell BT2.out 0).trans rfl
              have hzt1 : wr.cell? ⟨gt, 1, none⟩ = some (.slice Ac cs.length cc) := (blk_cell BT2.out 1).trans rfl
              have HVL : Aside0 (∀ k, v.ownBlock = some k → k < H0) := ⟨(Kd.S_R S2.out).1⟩
              clear hgw
              go_wp2_with ((with_reducible refine gate_builtin (b := .append) (xs := #[.tmp 58, .tmp 60]) rfl ?_); at_builtin; refine Kd.S_append k47 (w0 := wr) w.heap.size rfl (.tmp 58) (.tmp 60) 23 47 (.agg #[(.int .u64 0), (.slice none 0 0)]) 32 rfl Try.underlying23 info47 rfl (by decide) (by omega) v acc (⟨N * 4294967296 + tid, cs⟩ : S47) [.int .u64 (N * 4294967296 + tid), .slice Ac cs.length cc] (fun _ => True) (fun k => H0 ≤ k) rfl rfl ?aP ?aK ?aF ?aO ?aB ?aS ?aL ?_; (case aP => exact k47_mkM _ _ _ _ (Kd.R_lower (Kd.R_mono (Kd.R_bound (Kd.S_R SC2.out)) (fun k hk => hk.2.1)) WH0.out)); (case aK => exact (fun k hk => ⟨trivial, fun e => by have := HVL.out k e.symm; omega⟩)); (case aF => exact (fun _ _ => trivial)); (case aO => exact Kd.S_mono S2.out (fun k hk => ⟨trivial, by omega⟩)); (case aB => exact Below.refl _ _); (case aS => exact ST2.out.size); (case aL => have := HA.out; omega); intro v17 w17 ho hb hgw hat; have S17 := Aside0.mk ho; have HGW := Aside0.mk hgw; clear ho hb hgw hat; have hze1 : w17.cell? ⟨ge, 1, none⟩ = some v := (blk_cell ((Stay.of_grown HGW.out).blk BE2.out (Kd.S_ne S2.out BE2.out (by decide))) 1).trans rfl; have hfe1 := blk_frozen ((Stay.of_grown HGW.out).blk BE2.out (Kd.S_ne S2.out BE2.out (by decide))) 1; (obtain ⟨acc2, hacc2⟩ : ∃ c, c = acc ++ [(⟨N * 4294967296 + tid, cs⟩ : S47)] := ⟨_, rfl⟩); rw [← hacc2] at S17 Q6; have HC2 : Aside0 (acc2.length = acc.length + 1) := ⟨by rw [hacc2, List.length_append]; rfl⟩; clear hacc2; obtain ⟨A17, c17, rfl⟩ := Kd.S_slice S17.out)
              have G17 := Aside0.mk (Stay.of_grown HGW.out)
              have hsb : Aside0 (∀ i, some i = v.ownBlock → w.heap.size ≤ i) := ⟨fun i hi => Kd.S_base S2.out i hi.symm⟩
              have R17 := Aside0.mk (R2.out.stay G17.out (by obtain ⟨A, c, hb, _⟩ := R2.out; exact Kd.S_ne S2.out hb (by decide)))
              have BE17 := Aside0.mk (G17.out.blk BE2.out (Kd.S_ne S2.out BE2.out (by decide)))
              have ST17 := Aside0.mk (ST2.out.step G17.out (fun i hi => Or.inr (hsb.out i hi)))
              clear S2 R2 BE2 BT2 BH2 ST2 SC2 hsb HGW G17
              have T17 : Aside0 (Stay (fun k => k = ge) w17 (w17.setCell ⟨ge, 1, none⟩ (.slice A17 acc2.length c17))) := ⟨(Stay.refl (fun k => k = ge) w17).set (.inl rfl) 1 _⟩
              have S18 := Aside0.mk (Kd.S_set S17.out BE17.out (by decide) 1 (.slice A17 acc2.length c17))
              have R18 := Aside0.mk (R17.out.stay T17.out (fun e => hne1 e.symm))
              have BE18 := Aside0.mk (blk_put (cs := #[.int .u32 N, v]) BE17.out 1 (.slice A17 acc2.length c17) rfl)
              have ST18 := Aside0.mk (ST17.out.step T17.out (fun i hi => Or.inr (by rw [hi, HE.out]; exact Nat.le_refl _)))
              clear S17 R17 BE17 ST17 T17 hze1 hfe1 hzt0 hzt1
              generalize w17.setCell ⟨ge, 1, none⟩ (.slice A17 acc2.length c17) = w18 at S18 R18 BE18 ST18 ⊢
              go_wp2_with fail
              go_roundg gk1
              case measure => omega
              case rel => exact ⟨acc2, tid, l', x15 + 1, .slice A17 acc2.length c17, rfl, rfl, ⟨by have := HX.out; omega⟩, by omega, by omega, by omega, by omega, ⟨by have := HA.out; have := HC2.out; omega⟩, Q6, R18, BE18, S18, ST18⟩
      · have dp : decide (x15 < n2) = false := decide_eq_false hp
        have hk0 : gk = 0 := by have := HX.out; omega
        subst hk0
        have H := TX.out
        simp only [takeTxnsL] at H
        obtain rfl := Option.some.inj H
        obtain rfl : .ok ((N, acc), l') = q := Option.some.inj FQ.out
        obtain ⟨Av, cv, rfl⟩ := Kd.S_slice S2.out
        have hze0 : wr.cell? ⟨ge, 0, none⟩ = some (.int .u32 N) := (blk_cell BE2.out 0).trans rfl
        have hze1 : wr.cell? ⟨ge, 1, none⟩ = some (.slice Av acc.length cv) := (blk_cell BE2.out 1).trans rfl
        have hfe0 := blk_frozen BE2.out 0
        have hfe1 := blk_frozen BE2.out 1
        go_wp2_with fail
        have T3 : Stay (fun k => k = ge) wr ((wr.setCell ⟨ge, 0, none⟩ (.int .u32 N)).setCell ⟨ge, 1, none⟩ (.slice Av acc.length cv)) := ((Stay.refl (fun k => k = ge) wr).set (.inl rfl) 0 _).set (.inl rfl) 1 _
        have HS := Kd.S_set (Kd.S_set S2.out BE2.out (by decide) 0 (.int .u32 N)) (blk_put (cs := #[.int .u32 N, .slice Av acc.length cv]) BE2.out 0 (.int .u32 N) rfl) (by decide) 1 (.slice Av acc.length cv)
        have HF := Aside0.mk HS
        have RF := Aside0.mk (R2.out.stay T3 (fun e => hne1 e.symm))
        have SF := Aside0.mk (ST2.out.step T3 (fun i hi => Or.inr (by rw [hi, HE.out]; exact Nat.le_refl _)))
        clear HS T3
        refine bodyPost_ret (by simp [results, Try.results53, go_sem, hze0, hze1]; try rfl) rfl ?_
        exact ⟨⟨_, rfl, HF.out, RF.out⟩, SF.out⟩
end Go.Proofs.Ytgmdoapedhppmaa.PC

namespace Go.Proofs.Ytgmdoapedhppmaa.PC
set_option linter.unusedVariables false
set_option linter.unusedSimpArgs false
open Go.RowKit Go.Proofs.YtgmdoapedhppmaaW.PrintWords Go.Proofs.YtgmdoapedhppmaaW.PrintLast Go.Proofs.YtgmdoapedhppmaaW.PrintMore
/-- Decode, as a plain function: the number, the transactions, what is wrong. -/
def codec_Decode.f (l : List Int) : Option (Int × List S47 × Int) := (takeEpoch 40 l).map fun q => (epN (finish q), epL (finish q), epE (finish q))
/-- DecodeRows, as a plain function. -/
def codec_DecodeRows.f (l : List Int) : Option (List S57 × Int) := (takeRows 40 l).map fun q => (rowsL (finish q), epE (finish q))
theorem codec_Decode.calls (A0 : Option Addr) (c0 : Nat) (l0 : List Int) (r1 : Int) (r2 : List S47) (r3 : Int) (w : World) (hr0 : Kd.C (Kd.int .u8) w A0 l0.length l0) (hc0 : l0.length ≤ c0) (h : codec_Decode.f l0 = some (r1, r2, r3)) :
    Calls Try.prog 28 #[.slice A0 l0.length c0] w fun e w' => ∃ v0_ : Value, e = .returned (.tuple #[.agg #[.int .u32 r1, v0_], .int .i64 r3]) ∧ Kd.S k47 47 w' w.heap.size (fun _ => True) v0_ r2 ∧ Below w.heap.size w w' := by
  unfold codec_Decode.f at h
  obtain ⟨q, hq, h⟩ := Option.map_eq_some_iff.1 h
  injection h with h1 h2
  injection h2 with h2 h3
  rw [← h1, ← h2, ← h3]
  exact decode_epoch (takeEpoch 40) (epoch_calls 40) A0 c0 l0 q w hr0 hc0 hq
theorem codec_DecodeRows.calls (A0 : Option Addr) (c0 : Nat) (l0 : List Int) (r1 : List S57) (r2 : Int) (w : World) (hr0 : Kd.C (Kd.int .u8) w A0 l0.length l0) (hc0 : l0.length ≤ c0) (h : codec_DecodeRows.f l0 = some (r1, r2)) :
    Calls Try.prog 29 #[.slice A0 l0.length c0] w fun e w' => ∃ v0_ : Value, e = .returned (.tuple #[v0_, .int .i64 r2]) ∧ Kd.R k57 57 w' w.heap.size (fun _ => True) v0_ r1 ∧ Below w.heap.size w w' := by
  unfold codec_DecodeRows.f at h
  obtain ⟨q, hq, h⟩ := Option.map_eq_some_iff.1 h
  injection h with h1 h2
  rw [← h1, ← h2]
  refine (decode_rows (takeRows 40) (rows_calls 40) A0 c0 l0 q w hr0 hc0 hq).mono ?_
  rintro e w' ⟨v, h1, h2, h3⟩
  exact ⟨v, h1, Kd.S_R h2, h3⟩
end Go.Proofs.Ytgmdoapedhppmaa.PC

/- shown: its print as a law's (its ways to false fall away), turned by shown.py. -/
namespace Go.Proofs.Ytgmdoapedhppmaa.PC
set_option linter.unusedVariables false
set_option linter.unusedSimpArgs false
open Go.RowKit Go.Proofs.YtgmdoapedhppmaaW.PrintWords Go.Proofs.YtgmdoapedhppmaaW.PrintLast Go.Proofs.YtgmdoapedhppmaaW.PrintMore
attribute [local go_sem] max2_int min2_int max_two min_two max_three min_three max_four min_four   -- for this text's walks alone

/-! ### shownK: function 13 -/
def shownK.f (k : Nat)  : Option (Bool) := (codec_Encode.f k 1 ([] : List (S47))).bind fun bt177 => ((codec_Encode.f k 0 ([] : List (S47))).bind fun bt181 => ((codec_Decode.f (([1, 0] : List Int))).bind fun bt188 => ((codec_Decode.f (([1] : List Int))).bind fun bt197 => ((codec_Decode.f (([1, 0, 0] : List Int))).bind fun bt206 => ((codec_EncodeRows.f k (([(⟨(⟨2, (⟨#[97]⟩ : ByteArray)⟩ : S28), (⟨#[98, 99]⟩ : ByteArray)⟩ : S57)] : List (S57)))).bind fun bt215 => (if (strOfNums bt177.1).toList = ([1, 0] : List UInt8) then (if bt177.2 = 0 then (if bt181.2 = 1 then (if bt188.1 = 1 then (if (bt188.2.1.length : Int) = 0 then (if bt188.2.2 = 0 then (if bt197.2.2 = 2 then (if bt206.2.2 = 3 then (if (strOfNums bt215.1).toList = ([1, 2, 1, 97, 2, 98, 99] : List UInt8) then (if bt215.2 = 0 then ((codec_Less.f k 1 (⟨#[122]⟩ : ByteArray) 2 (⟨#[97]⟩ : ByteArray)).bind fun t219 => (some t219)) else (some false)) else (some false)) else (some false)) else (some false)) else (some false)) else (some false)) else (some false)) else (some false)) else (some false)) else (some false)))))))
theorem shownK.mono : ∀ k, LeO (shownK.f k ) (shownK.f (k + 1) ) := by
  intro  k
  unfold shownK.f
  repeat' first
      | (with_reducible exact codec_Encode.mono _ _ _)
      | (with_reducible exact codec_EncodeRows.mono _ _)
      | (with_reducible exact codec_Less.mono _ _ _ _ _)
      | (with_reducible exact LeO.refl _)
      | (with_reducible exact LeO.none _)
      | (with_reducible refine LeO.ite ?_ ?_)
      | (with_reducible refine LeO.bind ?_ (fun _ => ?_))
      | exact codec_Encode.mono _ _ _
      | exact codec_EncodeRows.mono _ _
      | exact codec_Less.mono _ _ _ _ _
      | exact LeO.none _
      | refine LeO.ite ?_ ?_
      | refine LeO.bind ?_ (fun _ => ?_)
set_option maxHeartbeats 8000000 in
set_option maxRecDepth 100000 in
theorem shownK.calls (k : Nat)  (r : Bool) (w : World) (hrt : r = true) (h : shownK.f k  = some r) :
    Calls Try.prog 13 #[] w fun e w' => e = .returned (.bool r) ∧ Below w.heap.size w w' := by
  have HRT := Aside0.mk hrt
  clear hrt
  have hu25 := Try.underlying25
  have hu28 := Try.underlying28
  have hu57 := Try.underlying57
  have HB := Aside0.mk (Below.refl w.heap.size w)
  have H : ((codec_Encode.f k 1 ([] : List (S47))).bind fun bt177 => ((codec_Encode.f k 0 ([] : List (S47))).bind fun bt181 => ((codec_Decode.f (([1, 0] : List Int))).bind fun bt188 => ((codec_Decode.f (([1] : List Int))).bind fun bt197 => ((codec_Decode.f (([1, 0, 0] : List Int))).bind fun bt206 => ((codec_EncodeRows.f k (([(⟨(⟨2, (⟨#[97]⟩ : ByteArray)⟩ : S28), (⟨#[98, 99]⟩ : ByteArray)⟩ : S57)] : List (S57)))).bind fun bt215 => (if (strOfNums bt177.1).toList = ([1, 0] : List UInt8) then (if bt177.2 = 0 then (if bt181.2 = 1 then (if bt188.1 = 1 then (if (bt188.2.1.length : Int) = 0 then (if bt188.2.2 = 0 then (if bt197.2.2 = 2 then (if bt206.2.2 = 3 then (if (strOfNums bt215.1).toList = ([1, 2, 1, 97, 2, 98, 99] : List UInt8) then (if bt215.2 = 0 then ((codec_Less.f k 1 (⟨#[122]⟩ : ByteArray) 2 (⟨#[97]⟩ : ByteArray)).bind fun t219 => (some t219)) else (some false)) else (some false)) else (some false)) else (some false)) else (some false)) else (some false)) else (some false)) else (some false)) else (some false)) else (some false)))))))) = some r := h
  clear h
  replace H := Option.bind_eq_some_iff.mp H
  obtain ⟨⟨t177, t180⟩, A10, H⟩ := H
  replace H : ((codec_Encode.f k 0 ([] : List (S47))).bind fun bt181 => ((codec_Decode.f (([1, 0] : List Int))).bind fun bt188 => ((codec_Decode.f (([1] : List Int))).bind fun bt197 => ((codec_Decode.f (([1, 0, 0] : List Int))).bind fun bt206 => ((codec_EncodeRows.f k (([(⟨(⟨2, (⟨#[97]⟩ : ByteArray)⟩ : S28), (⟨#[98, 99]⟩ : ByteArray)⟩ : S57)] : List (S57)))).bind fun bt215 => (if (strOfNums t177).toList = ([1, 0] : List UInt8) then (if t180 = 0 then (if bt181.2 = 1 then (if bt188.1 = 1 then (if (bt188.2.1.length : Int) = 0 then (if bt188.2.2 = 0 then (if bt197.2.2 = 2 then (if bt206.2.2 = 3 then (if (strOfNums bt215.1).toList = ([1, 2, 1, 97, 2, 98, 99] : List UInt8) then (if bt215.2 = 0 then ((codec_Less.f k 1 (⟨#[122]⟩ : ByteArray) 2 (⟨#[97]⟩ : ByteArray)).bind fun t219 => (some t219)) else (some false)) else (some false)) else (some false)) else (some false)) else (some false)) else (some false)) else (some false)) else (some false)) else (some false)) else (some false))))))) = some r := H
  have A1 := Aside0.mk A10
  clear A10
  replace H := Option.bind_eq_some_iff.mp H
  obtain ⟨⟨t181, t184⟩, A20, H⟩ := H
  replace H : ((codec_Decode.f (([1, 0] : List Int))).bind fun bt188 => ((codec_Decode.f (([1] : List Int))).bind fun bt197 => ((codec_Decode.f (([1, 0, 0] : List Int))).bind fun bt206 => ((codec_EncodeRows.f k (([(⟨(⟨2, (⟨#[97]⟩ : ByteArray)⟩ : S28), (⟨#[98, 99]⟩ : ByteArray)⟩ : S57)] : List (S57)))).bind fun bt215 => (if (strOfNums t177).toList = ([1, 0] : List UInt8) then (if t180 = 0 then (if t184 = 1 then (if bt188.1 = 1 then (if (bt188.2.1.length : Int) = 0 then (if bt188.2.2 = 0 then (if bt197.2.2 = 2 then (if bt206.2.2 = 3 then (if (strOfNums bt215.1).toList = ([1, 2, 1, 97, 2, 98, 99] : List UInt8) then (if bt215.2 = 0 then ((codec_Less.f k 1 (⟨#[122]⟩ : ByteArray) 2 (⟨#[97]⟩ : ByteArray)).bind fun t219 => (some t219)) else (some false)) else (some false)) else (some false)) else (some false)) else (some false)) else (some false)) else (some false)) else (some false)) else (some false)) else (some false)))))) = some r := H
  have A2 := Aside0.mk A20
  clear A20
  obtain ⟨y185, hy185⟩ : ∃ y_ : List Int, y_ = (([1, 0] : List Int)) := ⟨_, rfl⟩
  replace H : ((codec_Decode.f y185).bind fun bt188 => ((codec_Decode.f (([1] : List Int))).bind fun bt197 => ((codec_Decode.f (([1, 0, 0] : List Int))).bind fun bt206 => ((codec_EncodeRows.f k (([(⟨(⟨2, (⟨#[97]⟩ : ByteArray)⟩ : S28), (⟨#[98, 99]⟩ : ByteArray)⟩ : S57)] : List (S57)))).bind fun bt215 => (if (strOfNums t177).toList = ([1, 0] : List UInt8) then (if t180 = 0 then (if t184 = 1 then (if bt188.1 = 1 then (if (bt188.2.1.length : Int) = 0 then (if bt188.2.2 = 0 then (if bt197.2.2 = 2 then (if bt206.2.2 = 3 then (if (strOfNums bt215.1).toList = ([1, 2, 1, 97, 2, 98, 99] : List UInt8) then (if bt215.2 = 0 then ((codec_Less.f k 1 (⟨#[122]⟩ : ByteArray) 2 (⟨#[97]⟩ : ByteArray)).bind fun t219 => (some t219)) else (some false)) else (some false)) else (some false)) else (some false)) else (some false)) else (some false)) else (some false)) else (some false)) else (some false)) else (some false)))))) = some r := by first | (rw [hy185]; with_reducible exact H) | (have H2_ := (Option.bind_some _ _).symm.trans H; rw [hy185]; with_reducible exact H2_) | (have H2_ := (Option.bind_some _ _).symm.trans H; with_reducible exact H2_) | with_reducible exact H | (rw [hy185]; exact H) | exact H
  have Ny185 := Aside0.mk hy185
  clear hy185
  replace H := Option.bind_eq_some_iff.mp H
  obtain ⟨⟨t188, t189, t192⟩, A30, H⟩ := H
  replace H : ((codec_Decode.f (([1] : List Int))).bind fun bt197 => ((codec_Decode.f (([1, 0, 0] : List Int))).bind fun bt206 => ((codec_EncodeRows.f k (([(⟨(⟨2, (⟨#[97]⟩ : ByteArray)⟩ : S28), (⟨#[98, 99]⟩ : ByteArray)⟩ : S57)] : List (S57)))).bind fun bt215 => (if (strOfNums t177).toList = ([1, 0] : List UInt8) then (if t180 = 0 then (if t184 = 1 then (if t188 = 1 then (if (t189.length : Int) = 0 then (if t192 = 0 then (if bt197.2.2 = 2 then (if bt206.2.2 = 3 then (if (strOfNums bt215.1).toList = ([1, 2, 1, 97, 2, 98, 99] : List UInt8) then (if bt215.2 = 0 then ((codec_Less.f k 1 (⟨#[122]⟩ : ByteArray) 2 (⟨#[97]⟩ : ByteArray)).bind fun t219 => (some t219)) else (some false)) else (some false)) else (some false)) else (some false)) else (some false)) else (some false)) else (some false)) else (some false)) else (some false)) else (some false))))) = some r := H
  have A3 := Aside0.mk A30
  clear A30
  obtain ⟨y194, hy194⟩ : ∃ y_ : List Int, y_ = (([1] : List Int)) := ⟨_, rfl⟩
  replace H : ((codec_Decode.f y194).bind fun bt197 => ((codec_Decode.f (([1, 0, 0] : List Int))).bind fun bt206 => ((codec_EncodeRows.f k (([(⟨(⟨2, (⟨#[97]⟩ : ByteArray)⟩ : S28), (⟨#[98, 99]⟩ : ByteArray)⟩ : S57)] : List (S57)))).bind fun bt215 => (if (strOfNums t177).toList = ([1, 0] : List UInt8) then (if t180 = 0 then (if t184 = 1 then (if t188 = 1 then (if (t189.length : Int) = 0 then (if t192 = 0 then (if bt197.2.2 = 2 then (if bt206.2.2 = 3 then (if (strOfNums bt215.1).toList = ([1, 2, 1, 97, 2, 98, 99] : List UInt8) then (if bt215.2 = 0 then ((codec_Less.f k 1 (⟨#[122]⟩ : ByteArray) 2 (⟨#[97]⟩ : ByteArray)).bind fun t219 => (some t219)) else (some false)) else (some false)) else (some false)) else (some false)) else (some false)) else (some false)) else (some false)) else (some false)) else (some false)) else (some false))))) = some r := by first | (rw [hy194]; with_reducible exact H) | (have H2_ := (Option.bind_some _ _).symm.trans H; rw [hy194]; with_reducible exact H2_) | (have H2_ := (Option.bind_some _ _).symm.trans H; with_reducible exact H2_) | with_reducible exact H | (rw [hy194]; exact H) | exact H
  have Ny194 := Aside0.mk hy194
  clear hy194
  replace H := Option.bind_eq_some_iff.mp H
  obtain ⟨⟨t197, t198, t201⟩, A40, H⟩ := H
  replace H : ((codec_Decode.f (([1, 0, 0] : List Int))).bind fun bt206 => ((codec_EncodeRows.f k (([(⟨(⟨2, (⟨#[97]⟩ : ByteArray)⟩ : S28), (⟨#[98, 99]⟩ : ByteArray)⟩ : S57)] : List (S57)))).bind fun bt215 => (if (strOfNums t177).toList = ([1, 0] : List UInt8) then (if t180 = 0 then (if t184 = 1 then (if t188 = 1 then (if (t189.length : Int) = 0 then (if t192 = 0 then (if t201 = 2 then (if bt206.2.2 = 3 then (if (strOfNums bt215.1).toList = ([1, 2, 1, 97, 2, 98, 99] : List UInt8) then (if bt215.2 = 0 then ((codec_Less.f k 1 (⟨#[122]⟩ : ByteArray) 2 (⟨#[97]⟩ : ByteArray)).bind fun t219 => (some t219)) else (some false)) else (some false)) else (some false)) else (some false)) else (some false)) else (some false)) else (some false)) else (some false)) else (some false)) else (some false)))) = some r := H
  have A4 := Aside0.mk A40
  clear A40
  obtain ⟨y203, hy203⟩ : ∃ y_ : List Int, y_ = (([1, 0, 0] : List Int)) := ⟨_, rfl⟩
  replace H : ((codec_Decode.f y203).bind fun bt206 => ((codec_EncodeRows.f k (([(⟨(⟨2, (⟨#[97]⟩ : ByteArray)⟩ : S28), (⟨#[98, 99]⟩ : ByteArray)⟩ : S57)] : List (S57)))).bind fun bt215 => (if (strOfNums t177).toList = ([1, 0] : List UInt8) then (if t180 = 0 then (if t184 = 1 then (if t188 = 1 then (if (t189.length : Int) = 0 then (if t192 = 0 then (if t201 = 2 then (if bt206.2.2 = 3 then (if (strOfNums bt215.1).toList = ([1, 2, 1, 97, 2, 98, 99] : List UInt8) then (if bt215.2 = 0 then ((codec_Less.f k 1 (⟨#[122]⟩ : ByteArray) 2 (⟨#[97]⟩ : ByteArray)).bind fun t219 => (some t219)) else (some false)) else (some false)) else (some false)) else (some false)) else (some false)) else (some false)) else (some false)) else (some false)) else (some false)) else (some false)))) = some r := by first | (rw [hy203]; with_reducible exact H) | (have H2_ := (Option.bind_some _ _).symm.trans H; rw [hy203]; with_reducible exact H2_) | (have H2_ := (Option.bind_some _ _).symm.trans H; with_reducible exact H2_) | with_reducible exact H | (rw [hy203]; exact H) | exact H
  have Ny203 := Aside0.mk hy203
  clear hy203
  replace H := Option.bind_eq_some_iff.mp H
  obtain ⟨⟨t206, t207, t210⟩, A50, H⟩ := H
  replace H : ((codec_EncodeRows.f k (([(⟨(⟨2, (⟨#[97]⟩ : ByteArray)⟩ : S28), (⟨#[98, 99]⟩ : ByteArray)⟩ : S57)] : List (S57)))).bind fun bt215 => (if (strOfNums t177).toList = ([1, 0] : List UInt8) then (if t180 = 0 then (if t184 = 1 then (if t188 = 1 then (if (t189.length : Int) = 0 then (if t192 = 0 then (if t201 = 2 then (if t210 = 3 then (if (strOfNums bt215.1).toList = ([1, 2, 1, 97, 2, 98, 99] : List UInt8) then (if bt215.2 = 0 then ((codec_Less.f k 1 (⟨#[122]⟩ : ByteArray) 2 (⟨#[97]⟩ : ByteArray)).bind fun t219 => (some t219)) else (some false)) else (some false)) else (some false)) else (some false)) else (some false)) else (some false)) else (some false)) else (some false)) else (some false)) else (some false))) = some r := H
  have A5 := Aside0.mk A50
  clear A50
  obtain ⟨y212, hy212⟩ : ∃ y_ : List (S57), y_ = (([(⟨(⟨2, (⟨#[97]⟩ : ByteArray)⟩ : S28), (⟨#[98, 99]⟩ : ByteArray)⟩ : S57)] : List (S57))) := ⟨_, rfl⟩
  replace H : ((codec_EncodeRows.f k y212).bind fun bt215 => (if (strOfNums t177).toList = ([1, 0] : List UInt8) then (if t180 = 0 then (if t184 = 1 then (if t188 = 1 then (if (t189.length : Int) = 0 then (if t192 = 0 then (if t201 = 2 then (if t210 = 3 then (if (strOfNums bt215.1).toList = ([1, 2, 1, 97, 2, 98, 99] : List UInt8) then (if bt215.2 = 0 then ((codec_Less.f k 1 (⟨#[122]⟩ : ByteArray) 2 (⟨#[97]⟩ : ByteArray)).bind fun t219 => (some t219)) else (some false)) else (some false)) else (some false)) else (some false)) else (some false)) else (some false)) else (some false)) else (some false)) else (some false)) else (some false))) = some r := by first | (rw [hy212]; with_reducible exact H) | (have H2_ := (Option.bind_some _ _).symm.trans H; rw [hy212]; with_reducible exact H2_) | (have H2_ := (Option.bind_some _ _).symm.trans H; with_reducible exact H2_) | with_reducible exact H | (rw [hy212]; exact H) | exact H
  have Ny212 := Aside0.mk hy212
  clear hy212
  replace H := Option.bind_eq_some_iff.mp H
  obtain ⟨⟨t215, t216⟩, A60, H⟩ := H
  replace H : (if (strOfNums t177).toList = ([1, 0] : List UInt8) then (if t180 = 0 then (if t184 = 1 then (if t188 = 1 then (if (t189.length : Int) = 0 then (if t192 = 0 then (if t201 = 2 then (if t210 = 3 then (if (strOfNums t215).toList = ([1, 2, 1, 97, 2, 98, 99] : List UInt8) then (if t216 = 0 then ((codec_Less.f k 1 (⟨#[122]⟩ : ByteArray) 2 (⟨#[97]⟩ : ByteArray)).bind fun t219 => (some t219)) else (some false)) else (some false)) else (some false)) else (some false)) else (some false)) else (some false)) else (some false)) else (some false)) else (some false)) else (some false)) = some r := H
  have A6 := Aside0.mk A60
  clear A60
  by_cases c7 : (strOfNums t177).toList = ([1, 0] : List UInt8)
  · rw [if_pos c7] at H
    have c7b0 : ((strOfNums t177).toList == ([1, 0] : List UInt8)) = true := beq_iff_eq.mpr c7
    have c7b1 : ((strOfNums t177).toList != ([1, 0] : List UInt8)) = false := bne_eq_false_iff_eq.mpr c7
    clear c7
    by_cases c8 : t180 = 0
    · rw [if_pos c8] at H
      have c8b0 : (t180 == 0) = true := beq_iff_eq.mpr c8
      have c8b1 : (t180 != 0) = false := bne_eq_false_iff_eq.mpr c8
      clear c8
      by_cases c9 : t184 = 1
      · rw [if_pos c9] at H
        have c9b0 : (t184 == 1) = true := beq_iff_eq.mpr c9
        have c9b1 : (t184 != 1) = false := bne_eq_false_iff_eq.mpr c9
        clear c9
        by_cases c10 : t188 = 1
        · rw [if_pos c10] at H
          have c10b0 : (t188 == 1) = true := beq_iff_eq.mpr c10
          have c10b1 : (t188 != 1) = false := bne_eq_false_iff_eq.mpr c10
          clear c10
          by_cases c11 : (t189.length : Int) = 0
          · rw [if_pos c11] at H
            have c11b0 : ((t189.length : Int) == 0) = true := beq_iff_eq.mpr c11
            have c11b1 : ((t189.length : Int) != 0) = false := bne_eq_false_iff_eq.mpr c11
            clear c11
            by_cases c12 : t192 = 0
            · rw [if_pos c12] at H
              have c12b0 : (t192 == 0) = true := beq_iff_eq.mpr c12
              have c12b1 : (t192 != 0) = false := bne_eq_false_iff_eq.mpr c12
              clear c12
              by_cases c13 : t201 = 2
              · rw [if_pos c13] at H
                have c13b0 : (t201 == 2) = true := beq_iff_eq.mpr c13
                have c13b1 : (t201 != 2) = false := bne_eq_false_iff_eq.mpr c13
                clear c13
                by_cases c14 : t210 = 3
                · rw [if_pos c14] at H
                  have c14b0 : (t210 == 3) = true := beq_iff_eq.mpr c14
                  have c14b1 : (t210 != 3) = false := bne_eq_false_iff_eq.mpr c14
                  clear c14
                  by_cases c15 : (strOfNums t215).toList = ([1, 2, 1, 97, 2, 98, 99] : List UInt8)
                  · rw [if_pos c15] at H
                    have c15b0 : ((strOfNums t215).toList == ([1, 2, 1, 97, 2, 98, 99] : List UInt8)) = true := beq_iff_eq.mpr c15
                    have c15b1 : ((strOfNums t215).toList != ([1, 2, 1, 97, 2, 98, 99] : List UInt8)) = false := bne_eq_false_iff_eq.mpr c15
                    clear c15
                    by_cases c16 : t216 = 0
                    · rw [if_pos c16] at H
                      have c16b0 : (t216 == 0) = true := beq_iff_eq.mpr c16
                      have c16b1 : (t216 != 0) = false := bne_eq_false_iff_eq.mpr c16
                      clear c16
                      replace H := Option.bind_eq_some_iff.mp H
                      obtain ⟨t219, A170, H⟩ := H
                      replace H : (some t219) = some r := H
                      have A17 := Aside0.mk A170
                      clear A170
                      obtain rfl := Option.some.inj H
                      go_enter Try.func13, Try.ntmps13
                      go_wp2_with (first | ((with_reducible refine gate_callee (f := 16) rfl ?_); refine goesL_ (some 15) rfl rfl Try.func16 (by kernel_rfl) rfl #[.agg #[.int .u32 1, .slice none 0 0]] rfl (by (try simp only [List.map_toArray, List.map_cons, List.map_nil]); first | done | rfl | (simp only [List.length_drop, List.length_take]; rfl) | (rw [IntKind.wrap_u64, Int.emod_eq_of_lt (by omega) (by omega)]; rfl)) ?_; (refine (codec_Encode.calls k 1 _ _ ([] : List (S47)) t177 t180 _ ?side1 ?side2 A1.out).mono ?_); (case side1 => exact Kd.C_nil _ _); (case side2 => exact Nat.le_refl _); rintro e w18 ⟨v178, rfl, ho0, hb⟩; refine ⟨_, rfl, ?_⟩; have n0_ := Aside0.mk (Kd.R_lower ho0 (below_size (by repeat (first | (with_reducible first | exact HB.out | apply below_alloc | apply pw_below_drewN | apply below_drew1) | exact HB.out)))); have n1_ := Aside0.mk (below_step (by repeat (first | (with_reducible first | exact HB.out | apply below_alloc | apply pw_below_drewN | apply below_drew1) | exact HB.out)) hb); clear HB; have HO179 := n0_; have HB := n1_; clear n0_ n1_; (try clear hb); (try clear hb2); (try clear hk); (try clear hi); (try clear ho0)) | ((with_reducible refine gate_callee (f := 16) rfl ?_); refine goesL_ (some 20) rfl rfl Try.func16 (by kernel_rfl) rfl #[.agg #[.int .u32 0, .slice none 0 0]] rfl (by (try simp only [List.map_toArray, List.map_cons, List.map_nil]); first | done | rfl | (simp only [List.length_drop, List.length_take]; rfl) | (rw [IntKind.wrap_u64, Int.emod_eq_of_lt (by omega) (by omega)]; rfl)) ?_; (refine (codec_Encode.calls k 0 _ _ ([] : List (S47)) t181 t184 _ ?side1 ?side2 A2.out).mono ?_); (case side1 => exact Kd.C_nil _ _); (case side2 => exact Nat.le_refl _); rintro e w19 ⟨v182, rfl, ho0, hb⟩; refine ⟨_, rfl, ?_⟩; have n0_ := Aside0.mk (Kd.R_elder' (by (with_reducible repeat (first | apply Kd.R_alloc | apply Kd.R_drewN | apply Kd.R_drew)); exact HO179.out) (Kd.R_base ho0) hb); have n1_ := Aside0.mk (Kd.R_lower (Kd.R_new' ho0 (Kd.R_lt (by (with_reducible repeat (first | apply Kd.R_alloc | apply Kd.R_drewN | apply Kd.R_drew)); exact HO179.out))) (below_size (by repeat (first | (with_reducible first | exact HB.out | apply below_alloc | apply pw_below_drewN | apply below_drew1) | exact HB.out)))); have n2_ := Aside0.mk (below_step (by repeat (first | (with_reducible first | exact HB.out | apply below_alloc | apply pw_below_drewN | apply below_drew1) | exact HB.out)) hb); clear HO179; clear HB; have HO179 := n0_; have HO183 := n1_; have HB := n2_; clear n0_ n1_ n2_; (try clear hb); (try clear hb2); (try clear hk); (try clear hi); (try clear ho0)) | ((with_reducible refine gate_dst (N := 24) rfl ?_); (try (refine gate_guard (by rfl) ?_; dsimp only)); refine Kd.R_lit (Kd.int .u8) _ 5 ?hg (N := 24) ?hd (xs := ([1, 0] : List Int)) (inner := [.int .u8 1, .int .u8 0]) (ok := fun _ => True) (okp := fun _ => True) ?hr ?hp (fun _ hk => hk) trivial (Below.refl _ _) (Nat.le_refl _) (by simp) ?_; (case hd => rfl); (case hg => rfl); (case hr => first | (go_simp; done) | (go_simp; rfl)); (case hp => exact (Reps.one (show Kd.M (Kd.int .u8) _ _ _ 1 [.int .u8 1] from rfl) (Reps.one (show Kd.M (Kd.int .u8) _ _ _ 0 [.int .u8 0] from rfl) (Reps.none _ _)))); intro v186 w20 ho21 hb hg_ hnew_; clear hg_ hnew_; (first | rw [← Ny185.out] at ho21 | (simp only [Int.reduceToNat] at ho21; rw [← Ny185.out] at ho21)); have n0_ := Aside0.mk (Kd.R_elder' (by (with_reducible repeat (first | apply Kd.R_alloc | apply Kd.R_drewN | apply Kd.R_drew)); exact HO179.out) (Kd.R_base ho21) hb); have n1_ := Aside0.mk (Kd.R_elder' (by (with_reducible repeat (first | apply Kd.R_alloc | apply Kd.R_drewN | apply Kd.R_drew)); exact HO183.out) (Kd.R_base ho21) hb); have n2_ := Aside0.mk (Kd.R_lower (Kd.R_new' (Kd.R_new' ho21 (Kd.R_lt (by (with_reducible repeat (first | apply Kd.R_alloc | apply Kd.R_drewN | apply Kd.R_drew)); exact HO179.out))) (Kd.R_lt (by (with_reducible repeat (first | apply Kd.R_alloc | apply Kd.R_drewN | apply Kd.R_drew)); exact HO183.out))) (below_size (by repeat (first | (with_reducible first | exact HB.out | apply below_alloc | apply pw_below_drewN | apply below_drew1) | exact HB.out)))); have n3_ := Aside0.mk (below_step (by repeat (first | (with_reducible first | exact HB.out | apply below_alloc | apply pw_below_drewN | apply below_drew1) | exact HB.out)) hb); clear HO179; clear HO183; clear HB; have HO179 := n0_; have HO183 := n1_; have HO187 := n2_; have HB := n3_; clear n0_ n1_ n2_ n3_; clear hb ho21; obtain ⟨Ao22, co22, eo22⟩ := Kd.R_slice HO187.out; subst eo22) | ((with_reducible refine gate_callee (f := 28) rfl ?_); refine goesL_ (some 25) rfl rfl Try.func28 (by kernel_rfl) rfl #[.slice Ao22 y185.length co22] rfl (by (try simp only [List.map_toArray, List.map_cons, List.map_nil]); first | done | rfl | (simp only [List.length_drop, List.length_take]; rfl) | (rw [IntKind.wrap_u64, Int.emod_eq_of_lt (by omega) (by omega)]; rfl)) ?_; (with_reducible refine (codec_Decode.calls _ _ y185 t188 t189 t192 _ ?side1 ?side2 A3.out).mono ?_); (case side1 => repeat (first | exact (Kd.R_reads' HO187.out).2.2 | (with_reducible refine Kd.C_alloc ?_ _) | (with_reducible refine Kd.C_drewN ?_ _) | (with_reducible refine Kd.C_drew ?_))); (case side2 => exact (Kd.R_reads' HO187.out).2.1); rintro e w23 ⟨v190, rfl, ho0, hb⟩; refine ⟨_, rfl, ?_⟩; have n0_ := Aside0.mk (Kd.R_below (by (with_reducible repeat (first | apply Kd.R_alloc | apply Kd.R_drewN | apply Kd.R_drew)); exact HO179.out) hb); have n1_ := Aside0.mk (Kd.R_below (by (with_reducible repeat (first | apply Kd.R_alloc | apply Kd.R_drewN | apply Kd.R_drew)); exact HO183.out) hb); have n2_ := Aside0.mk (Kd.R_below (by (with_reducible repeat (first | apply Kd.R_alloc | apply Kd.R_drewN | apply Kd.R_drew)); exact HO187.out) hb); have n3_ := Aside0.mk (Kd.S_lower ho0 (below_size (by repeat (first | (with_reducible first | exact HB.out | apply below_alloc | apply pw_below_drewN | apply below_drew1) | exact HB.out)))); have n4_ := Aside0.mk (below_step (by repeat (first | (with_reducible first | exact HB.out | apply below_alloc | apply pw_below_drewN | apply below_drew1) | exact HB.out)) hb); clear HO179; clear HO183; clear HO187; clear HB; have HO179 := n0_; have HO183 := n1_; have HO187 := n2_; have HO191 := n3_; have HB := n4_; clear n0_ n1_ n2_ n3_ n4_; (try clear hb); (try clear hb2); (try clear hk); (try clear hi); (try clear ho0)) | ((with_reducible refine gate_dst (N := 5) rfl ?_); (try (refine gate_guard (by rfl) ?_; dsimp only)); refine box_event ?hg (N := 5) ?hd (cs := #[.int .u32 0, .slice none 0 0]) (t := 25) ?hr ?_; (case hd => rfl); (case hg => rfl); (case hr => first | (go_simp; done) | (go_simp; rfl)); intro gb193 hg w24 hbox hb; have n0_ := Aside0.mk (Kd.R_below (by (with_reducible repeat (first | apply Kd.R_alloc | apply Kd.R_drewN | apply Kd.R_drew)); exact HO179.out) hb); have n1_ := Aside0.mk (Kd.R_below (by (with_reducible repeat (first | apply Kd.R_alloc | apply Kd.R_drewN | apply Kd.R_drew)); exact HO183.out) hb); have n2_ := Aside0.mk (Kd.R_below (by (with_reducible repeat (first | apply Kd.R_alloc | apply Kd.R_drewN | apply Kd.R_drew)); exact HO187.out) hb); have n3_ := Aside0.mk (Kd.S_below (by (with_reducible repeat (first | apply Kd.S_alloc | apply Kd.S_drewN | apply Kd.S_drew)); exact HO191.out) hb); have n4_ := Aside0.mk (below_step (by repeat (first | (with_reducible first | exact HB.out | apply below_alloc | apply pw_below_drewN | apply below_drew1) | exact HB.out)) hb); have n5_ := Aside0.mk (hbox); have n6_ := Aside0.mk ((by rw [hg]; exact (below_size (by repeat (first | (with_reducible first | exact HB.out | apply below_alloc | apply pw_below_drewN | apply below_drew1) | exact HB.out))) : w.heap.size ≤ gb193)); have n7_ := Aside0.mk ((by rw [hg]; exact (below_size (by repeat (first | (with_reducible first | exact HB.out | apply below_alloc | apply pw_below_drewN | apply below_drew1) | exact HB.out))) : w.heap.size ≤ gb193)); clear HO179; clear HO183; clear HO187; clear HO191; clear HB; have HO179 := n0_; have HO183 := n1_; have HO187 := n2_; have HO191 := n3_; have HB := n4_; have BK193 := n5_; have GW193 := n6_; have GE193 := n7_; clear n0_ n1_ n2_ n3_ n4_ n5_ n6_ n7_; clear hb hbox hg; have hcz25_0 : w24.cell? ⟨gb193, 0, none⟩ = some (.int .u32 0) := (blk_cell BK193.out 0).trans rfl; have hcz25_1 : w24.cell? ⟨gb193, 1, none⟩ = some (.slice none 0 0) := (blk_cell BK193.out 1).trans rfl; have hfz25_0 := blk_frozen BK193.out 0; have hfz25_1 := blk_frozen BK193.out 1; obtain ⟨Ao26, co26, eo26⟩ := Kd.S_slice HO191.out; subst eo26) | ((with_reducible refine gate_dst (N := 29) rfl ?_); (try (refine gate_guard (by rfl) ?_; dsimp only)); refine Kd.R_lit (Kd.int .u8) _ 5 ?hg (N := 29) ?hd (xs := ([1] : List Int)) (inner := [.int .u8 1]) (ok := fun _ => True) (okp := fun _ => True) ?hr ?hp (fun _ hk => hk) trivial (Below.refl _ _) (Nat.le_refl _) (by simp) ?_; (case hd => rfl); (case hg => rfl); (case hr => first | (go_simp; done) | (go_simp; rfl)); (case hp => exact (Reps.one (show Kd.M (Kd.int .u8) _ _ _ 1 [.int .u8 1] from rfl) (Reps.none _ _))); intro v195 w27 ho28 hb hg_ hnew_; clear hg_ hnew_; (first | rw [← Ny194.out] at ho28 | (simp only [Int.reduceToNat] at ho28; rw [← Ny194.out] at ho28)); have n0_ := Aside0.mk (Kd.R_elder' (by (with_reducible repeat (first | apply Kd.R_alloc | apply Kd.R_drewN | apply Kd.R_drew)); exact (Kd.R_mono (Kd.R_far (p := ⟨gb193, 1, none⟩) (Kd.R_far (p := ⟨gb193, 0, none⟩) (Kd.R_types HO179.out BK193.out (by decide)) (fun _ hk => hk.2) (.int .u32 t188)) (fun _ hk => hk.2) (.slice Ao26 t189.length co26)) (fun _ h_ => h_.1))) (Kd.R_base ho28) hb); have n1_ := Aside0.mk (Kd.R_elder' (by (with_reducible repeat (first | apply Kd.R_alloc | apply Kd.R_drewN | apply Kd.R_drew)); exact (Kd.R_mono (Kd.R_far (p := ⟨gb193, 1, none⟩) (Kd.R_far (p := ⟨gb193, 0, none⟩) (Kd.R_types HO183.out BK193.out (by decide)) (fun _ hk => hk.2) (.int .u32 t188)) (fun _ hk => hk.2) (.slice Ao26 t189.length co26)) (fun _ h_ => h_.1))) (Kd.R_base ho28) hb); have n2_ := Aside0.mk (Kd.R_elder' (by (with_reducible repeat (first | apply Kd.R_alloc | apply Kd.R_drewN | apply Kd.R_drew)); exact (Kd.R_mono (Kd.R_far (p := ⟨gb193, 1, none⟩) (Kd.R_far (p := ⟨gb193, 0, none⟩) (Kd.R_types HO187.out BK193.out (by decide)) (fun _ hk => hk.2) (.int .u32 t188)) (fun _ hk => hk.2) (.slice Ao26 t189.length co26)) (fun _ h_ => h_.1))) (Kd.R_base ho28) hb); have n3_ := Aside0.mk (Kd.S_below (by (with_reducible repeat (first | apply Kd.S_alloc | apply Kd.S_drewN | apply Kd.S_drew)); exact (Kd.S_mono (Kd.S_far (p := ⟨gb193, 1, none⟩) (Kd.S_far (p := ⟨gb193, 0, none⟩) (Kd.S_types HO191.out BK193.out (by decide)) (fun _ hk => hk.2) (.int .u32 t188)) (fun _ hk => hk.2) (.slice Ao26 t189.length co26)) (fun _ h_ => h_.1))) hb); have n4_ := Aside0.mk (Kd.R_lower (Kd.R_new' (Kd.R_new' (Kd.R_new' ho28 (Kd.R_lt (by (with_reducible repeat (first | apply Kd.R_alloc | apply Kd.R_drewN | apply Kd.R_drew)); exact (Kd.R_mono (Kd.R_far (p := ⟨gb193, 1, none⟩) (Kd.R_far (p := ⟨gb193, 0, none⟩) (Kd.R_types HO179.out BK193.out (by decide)) (fun _ hk => hk.2) (.int .u32 t188)) (fun _ hk => hk.2) (.slice Ao26 t189.length co26)) (fun _ h_ => h_.1))))) (Kd.R_lt (by (with_reducible repeat (first | apply Kd.R_alloc | apply Kd.R_drewN | apply Kd.R_drew)); exact (Kd.R_mono (Kd.R_far (p := ⟨gb193, 1, none⟩) (Kd.R_far (p := ⟨gb193, 0, none⟩) (Kd.R_types HO183.out BK193.out (by decide)) (fun _ hk => hk.2) (.int .u32 t188)) (fun _ hk => hk.2) (.slice Ao26 t189.length co26)) (fun _ h_ => h_.1))))) (Kd.R_lt (by (with_reducible repeat (first | apply Kd.R_alloc | apply Kd.R_drewN | apply Kd.R_drew)); exact (Kd.R_mono (Kd.R_far (p := ⟨gb193, 1, none⟩) (Kd.R_far (p := ⟨gb193, 0, none⟩) (Kd.R_types HO187.out BK193.out (by decide)) (fun _ hk => hk.2) (.int .u32 t188)) (fun _ hk => hk.2) (.slice Ao26 t189.length co26)) (fun _ h_ => h_.1))))) (below_size (by repeat (first | (with_reducible first | exact HB.out | apply below_alloc | apply pw_below_drewN | apply below_drew1 | refine below_set ?_ GE193.out) | exact HB.out)))); have n5_ := Aside0.mk (blk_below (g := gb193) (o := .cells #[.int .u32 t188, .slice Ao26 t189.length co26] 25 (0, 0)) (by (with_reducible repeat (first | refine blk_drewN ?_ _ | refine blk_drew ?_ | refine blk_alloc ?_ _)); refine blk_put (cs := #[.int .u32 t188, .slice none 0 0]) ?_ 1 _ rfl; (with_reducible repeat (first | refine blk_drewN ?_ _ | refine blk_drew ?_ | refine blk_alloc ?_ _)); refine blk_put (cs := #[.int .u32 0, .slice none 0 0]) ?_ 0 _ rfl; (with_reducible repeat (first | refine blk_drewN ?_ _ | refine blk_drew ?_ | refine blk_alloc ?_ _)); exact BK193.out) hb); have n6_ := Aside0.mk (below_step (by repeat (first | (with_reducible first | exact HB.out | apply below_alloc | apply pw_below_drewN | apply below_drew1 | refine below_set ?_ GE193.out) | exact HB.out)) hb); clear HO179; clear HO183; clear HO187; clear HO191; clear BK193; clear HB; have HO179 := n0_; have HO183 := n1_; have HO187 := n2_; have HO191 := n3_; have HO196 := n4_; have BK193 := n5_; have HB := n6_; clear n0_ n1_ n2_ n3_ n4_ n5_ n6_; clear hb ho28; obtain ⟨Ao29, co29, eo29⟩ := Kd.R_slice HO196.out; subst eo29) | ((with_reducible refine gate_callee (f := 28) rfl ?_); refine goesL_ (some 30) rfl rfl Try.func28 (by kernel_rfl) rfl #[.slice Ao29 y194.length co29] rfl (by (try simp only [List.map_toArray, List.map_cons, List.map_nil]); first | done | rfl | (simp only [List.length_drop, List.length_take]; rfl) | (rw [IntKind.wrap_u64, Int.emod_eq_of_lt (by omega) (by omega)]; rfl)) ?_; (with_reducible refine (codec_Decode.calls _ _ y194 t197 t198 t201 _ ?side1 ?side2 A4.out).mono ?_); (case side1 => repeat (first | exact (Kd.R_reads' HO196.out).2.2 | (with_reducible refine Kd.C_alloc ?_ _) | (with_reducible refine Kd.C_drewN ?_ _) | (with_reducible refine Kd.C_drew ?_))); (case side2 => exact (Kd.R_reads' HO196.out).2.1); rintro e w30 ⟨v199, rfl, ho0, hb⟩; refine ⟨_, rfl, ?_⟩; have n0_ := Aside0.mk (Kd.R_below (by (with_reducible repeat (first | apply Kd.R_alloc | apply Kd.R_drewN | apply Kd.R_drew)); exact HO179.out) hb); have n1_ := Aside0.mk (Kd.R_below (by (with_reducible repeat (first | apply Kd.R_alloc | apply Kd.R_drewN | apply Kd.R_drew)); exact HO183.out) hb); have n2_ := Aside0.mk (Kd.R_below (by (with_reducible repeat (first | apply Kd.R_alloc | apply Kd.R_drewN | apply Kd.R_drew)); exact HO187.out) hb); have n3_ := Aside0.mk (Kd.S_elder' (by (with_reducible repeat (first | apply Kd.S_alloc | apply Kd.S_drewN | apply Kd.S_drew)); exact HO191.out) (Kd.S_base ho0) hb); have n4_ := Aside0.mk (Kd.R_below (by (with_reducible repeat (first | apply Kd.R_alloc | apply Kd.R_drewN | apply Kd.R_drew)); exact HO196.out) hb); have n5_ := Aside0.mk (Kd.S_lower (Kd.S_new' ho0 (Kd.S_lt (by (with_reducible repeat (first | apply Kd.S_alloc | apply Kd.S_drewN | apply Kd.S_drew)); exact HO191.out))) (below_size (by repeat (first | (with_reducible first | exact HB.out | apply below_alloc | apply pw_below_drewN | apply below_drew1 | refine below_set ?_ GE193.out) | exact HB.out)))); have n6_ := Aside0.mk (blk_below (g := gb193) (o := .cells #[.int .u32 t188, .slice Ao26 t189.length co26] 25 (0, 0)) (by (with_reducible repeat (first | refine blk_drewN ?_ _ | refine blk_drew ?_ | refine blk_alloc ?_ _)); exact BK193.out) hb); have n7_ := Aside0.mk (below_step (by repeat (first | (with_reducible first | exact HB.out | apply below_alloc | apply pw_below_drewN | apply below_drew1 | refine below_set ?_ GE193.out) | exact HB.out)) hb); clear HO179; clear HO183; clear HO187; clear HO191; clear HO196; clear BK193; clear HB; have HO179 := n0_; have HO183 := n1_; have HO187 := n2_; have HO191 := n3_; have HO196 := n4_; have HO200 := n5_; have BK193 := n6_; have HB := n7_; clear n0_ n1_ n2_ n3_ n4_ n5_ n6_ n7_; (try clear hb); (try clear hb2); (try clear hk); (try clear hi); (try clear ho0)) | ((with_reducible refine gate_dst (N := 7) rfl ?_); (try (refine gate_guard (by rfl) ?_; dsimp only)); refine box_event ?hg (N := 7) ?hd (cs := #[.int .u32 0, .slice none 0 0]) (t := 25) ?hr ?_; (case hd => rfl); (case hg => rfl); (case hr => first | (go_simp; done) | (go_simp; rfl)); intro gb202 hg w31 hbox hb; have n0_ := Aside0.mk (Kd.R_below (by (with_reducible repeat (first | apply Kd.R_alloc | apply Kd.R_drewN | apply Kd.R_drew)); exact HO179.out) hb); have n1_ := Aside0.mk (Kd.R_below (by (with_reducible repeat (first | apply Kd.R_alloc | apply Kd.R_drewN | apply Kd.R_drew)); exact HO183.out) hb); have n2_ := Aside0.mk (Kd.R_below (by (with_reducible repeat (first | apply Kd.R_alloc | apply Kd.R_drewN | apply Kd.R_drew)); exact HO187.out) hb); have n3_ := Aside0.mk (Kd.S_below (by (with_reducible repeat (first | apply Kd.S_alloc | apply Kd.S_drewN | apply Kd.S_drew)); exact HO191.out) hb); have n4_ := Aside0.mk (Kd.R_below (by (with_reducible repeat (first | apply Kd.R_alloc | apply Kd.R_drewN | apply Kd.R_drew)); exact HO196.out) hb); have n5_ := Aside0.mk (Kd.S_below (by (with_reducible repeat (first | apply Kd.S_alloc | apply Kd.S_drewN | apply Kd.S_drew)); exact HO200.out) hb); have n6_ := Aside0.mk (blk_below (g := gb193) (o := .cells #[.int .u32 t188, .slice Ao26 t189.length co26] 25 (0, 0)) (by (with_reducible repeat (first | refine blk_drewN ?_ _ | refine blk_drew ?_ | refine blk_alloc ?_ _)); exact BK193.out) hb); have n7_ := Aside0.mk (below_step (by repeat (first | (with_reducible first | exact HB.out | apply below_alloc | apply pw_below_drewN | apply below_drew1 | refine below_set ?_ GE193.out) | exact HB.out)) hb); have n8_ := Aside0.mk (hbox); have n9_ := Aside0.mk ((by rw [hg]; exact (below_size (by repeat (first | (with_reducible first | exact HB.out | apply below_alloc | apply pw_below_drewN | apply below_drew1 | refine below_set ?_ GE193.out) | exact HB.out))) : w.heap.size ≤ gb202)); have n10_ := Aside0.mk ((by rw [hg]; exact (below_size (by repeat (first | (with_reducible first | exact HB.out | apply below_alloc | apply pw_below_drewN | apply below_drew1 | refine below_set ?_ GE193.out) | exact HB.out))) : w.heap.size ≤ gb202)); have n11_ := Aside0.mk ((by rw [hg]; exact Nat.ne_of_lt (blk_lt (g := gb193) (o := .cells #[.int .u32 t188, .slice Ao26 t189.length co26] 25 (0, 0)) (by (with_reducible repeat (first | refine blk_drewN ?_ _ | refine blk_drew ?_ | refine blk_alloc ?_ _)); exact BK193.out)) : gb193 ≠ gb202)); have n12_ := Aside0.mk ((by rw [hg]; exact Nat.ne_of_gt (blk_lt (g := gb193) (o := .cells #[.int .u32 t188, .slice Ao26 t189.length co26] 25 (0, 0)) (by (with_reducible repeat (first | refine blk_drewN ?_ _ | refine blk_drew ?_ | refine blk_alloc ?_ _)); exact BK193.out)) : gb202 ≠ gb193)); clear HO179; clear HO183; clear HO187; clear HO191; clear HO196; clear HO200; clear BK193; clear HB; have HO179 := n0_; have HO183 := n1_; have HO187 := n2_; have HO191 := n3_; have HO196 := n4_; have HO200 := n5_; have BK193 := n6_; have HB := n7_; have BK202 := n8_; have GW202 := n9_; have GE202 := n10_; have NB193_202 := n11_; have NB202_193 := n12_; clear n0_ n1_ n2_ n3_ n4_ n5_ n6_ n7_ n8_ n9_ n10_ n11_ n12_; clear hb hbox hg; have hnb32 := NB202_193.out; have hnc32 := NB193_202.out; have hcz33_0 : w31.cell? ⟨gb202, 0, none⟩ = some (.int .u32 0) := (blk_cell BK202.out 0).trans rfl; have hcz33_1 : w31.cell? ⟨gb202, 1, none⟩ = some (.slice none 0 0) := (blk_cell BK202.out 1).trans rfl; have hfz33_0 := blk_frozen BK202.out 0; have hfz33_1 := blk_frozen BK202.out 1; obtain ⟨Ao34, co34, eo34⟩ := Kd.S_slice HO200.out; subst eo34) | ((with_reducible refine gate_dst (N := 34) rfl ?_); (try (refine gate_guard (by rfl) ?_; dsimp only)); refine Kd.R_lit (Kd.int .u8) _ 5 ?hg (N := 34) ?hd (xs := ([1, 0, 0] : List Int)) (inner := [.int .u8 1, .int .u8 0, .int .u8 0]) (ok := fun _ => True) (okp := fun _ => True) ?hr ?hp (fun _ hk => hk) trivial (Below.refl _ _) (Nat.le_refl _) (by simp) ?_; (case hd => rfl); (case hg => rfl); (case hr => first | (go_simp; done) | (go_simp; rfl)); (case hp => exact (Reps.one (show Kd.M (Kd.int .u8) _ _ _ 1 [.int .u8 1] from rfl) (Reps.one (show Kd.M (Kd.int .u8) _ _ _ 0 [.int .u8 0] from rfl) (Reps.one (show Kd.M (Kd.int .u8) _ _ _ 0 [.int .u8 0] from rfl) (Reps.none _ _))))); intro v204 w35 ho36 hb hg_ hnew_; clear hg_ hnew_; (first | rw [← Ny203.out] at ho36 | (simp only [Int.reduceToNat] at ho36; rw [← Ny203.out] at ho36)); have n0_ := Aside0.mk (Kd.R_elder' (by (with_reducible repeat (first | apply Kd.R_alloc | apply Kd.R_drewN | apply Kd.R_drew)); exact (Kd.R_mono (Kd.R_far (p := ⟨gb202, 1, none⟩) (Kd.R_far (p := ⟨gb202, 0, none⟩) (Kd.R_types HO179.out BK202.out (by decide)) (fun _ hk => hk.2) (.int .u32 t197)) (fun _ hk => hk.2) (.slice Ao34 t198.length co34)) (fun _ h_ => h_.1))) (Kd.R_base ho36) hb); have n1_ := Aside0.mk (Kd.R_elder' (by (with_reducible repeat (first | apply Kd.R_alloc | apply Kd.R_drewN | apply Kd.R_drew)); exact (Kd.R_mono (Kd.R_far (p := ⟨gb202, 1, none⟩) (Kd.R_far (p := ⟨gb202, 0, none⟩) (Kd.R_types HO183.out BK202.out (by decide)) (fun _ hk => hk.2) (.int .u32 t197)) (fun _ hk => hk.2) (.slice Ao34 t198.length co34)) (fun _ h_ => h_.1))) (Kd.R_base ho36) hb); have n2_ := Aside0.mk (Kd.R_elder' (by (with_reducible repeat (first | apply Kd.R_alloc | apply Kd.R_drewN | apply Kd.R_drew)); exact (Kd.R_mono (Kd.R_far (p := ⟨gb202, 1, none⟩) (Kd.R_far (p := ⟨gb202, 0, none⟩) (Kd.R_types HO187.out BK202.out (by decide)) (fun _ hk => hk.2) (.int .u32 t197)) (fun _ hk => hk.2) (.slice Ao34 t198.length co34)) (fun _ h_ => h_.1))) (Kd.R_base ho36) hb); have n3_ := Aside0.mk (Kd.S_below (by (with_reducible repeat (first | apply Kd.S_alloc | apply Kd.S_drewN | apply Kd.S_drew)); exact (Kd.S_mono (Kd.S_far (p := ⟨gb202, 1, none⟩) (Kd.S_far (p := ⟨gb202, 0, none⟩) (Kd.S_types HO191.out BK202.out (by decide)) (fun _ hk => hk.2) (.int .u32 t197)) (fun _ hk => hk.2) (.slice Ao34 t198.length co34)) (fun _ h_ => h_.1))) hb); have n4_ := Aside0.mk (Kd.R_elder' (by (with_reducible repeat (first | apply Kd.R_alloc | apply Kd.R_drewN | apply Kd.R_drew)); exact (Kd.R_mono (Kd.R_far (p := ⟨gb202, 1, none⟩) (Kd.R_far (p := ⟨gb202, 0, none⟩) (Kd.R_types HO196.out BK202.out (by decide)) (fun _ hk => hk.2) (.int .u32 t197)) (fun _ hk => hk.2) (.slice Ao34 t198.length co34)) (fun _ h_ => h_.1))) (Kd.R_base ho36) hb); have n5_ := Aside0.mk (Kd.S_below (by (with_reducible repeat (first | apply Kd.S_alloc | apply Kd.S_drewN | apply Kd.S_drew)); exact (Kd.S_mono (Kd.S_far (p := ⟨gb202, 1, none⟩) (Kd.S_far (p := ⟨gb202, 0, none⟩) (Kd.S_types HO200.out BK202.out (by decide)) (fun _ hk => hk.2) (.int .u32 t197)) (fun _ hk => hk.2) (.slice Ao34 t198.length co34)) (fun _ h_ => h_.1))) hb); have n6_ := Aside0.mk (Kd.R_lower (Kd.R_new' (Kd.R_new' (Kd.R_new' (Kd.R_new' ho36 (Kd.R_lt (by (with_reducible repeat (first | apply Kd.R_alloc | apply Kd.R_drewN | apply Kd.R_drew)); exact (Kd.R_mono (Kd.R_far (p := ⟨gb202, 1, none⟩) (Kd.R_far (p := ⟨gb202, 0, none⟩) (Kd.R_types HO179.out BK202.out (by decide)) (fun _ hk => hk.2) (.int .u32 t197)) (fun _ hk => hk.2) (.slice Ao34 t198.length co34)) (fun _ h_ => h_.1))))) (Kd.R_lt (by (with_reducible repeat (first | apply Kd.R_alloc | apply Kd.R_drewN | apply Kd.R_drew)); exact (Kd.R_mono (Kd.R_far (p := ⟨gb202, 1, none⟩) (Kd.R_far (p := ⟨gb202, 0, none⟩) (Kd.R_types HO183.out BK202.out (by decide)) (fun _ hk => hk.2) (.int .u32 t197)) (fun _ hk => hk.2) (.slice Ao34 t198.length co34)) (fun _ h_ => h_.1))))) (Kd.R_lt (by (with_reducible repeat (first | apply Kd.R_alloc | apply Kd.R_drewN | apply Kd.R_drew)); exact (Kd.R_mono (Kd.R_far (p := ⟨gb202, 1, none⟩) (Kd.R_far (p := ⟨gb202, 0, none⟩) (Kd.R_types HO187.out BK202.out (by decide)) (fun _ hk => hk.2) (.int .u32 t197)) (fun _ hk => hk.2) (.slice Ao34 t198.length co34)) (fun _ h_ => h_.1))))) (Kd.R_lt (by (with_reducible repeat (first | apply Kd.R_alloc | apply Kd.R_drewN | apply Kd.R_drew)); exact (Kd.R_mono (Kd.R_far (p := ⟨gb202, 1, none⟩) (Kd.R_far (p := ⟨gb202, 0, none⟩) (Kd.R_types HO196.out BK202.out (by decide)) (fun _ hk => hk.2) (.int .u32 t197)) (fun _ hk => hk.2) (.slice Ao34 t198.length co34)) (fun _ h_ => h_.1))))) (below_size (by repeat (first | (with_reducible first | exact HB.out | apply below_alloc | apply pw_below_drewN | apply below_drew1 | refine below_set ?_ GE193.out | refine below_set ?_ GE202.out) | exact HB.out)))); have n7_ := Aside0.mk (blk_below (g := gb193) (o := .cells #[.int .u32 t188, .slice Ao26 t189.length co26] 25 (0, 0)) (by (with_reducible repeat (first | refine blk_drewN ?_ _ | refine blk_drew ?_ | refine blk_alloc ?_ _)); refine blk_far ?_ NB193_202.out _; (with_reducible repeat (first | refine blk_drewN ?_ _ | refine blk_drew ?_ | refine blk_alloc ?_ _)); refine blk_far ?_ NB193_202.out _; (with_reducible repeat (first | refine blk_drewN ?_ _ | refine blk_drew ?_ | refine blk_alloc ?_ _)); exact BK193.out) hb); have n8_ := Aside0.mk (blk_below (g := gb202) (o := .cells #[.int .u32 t197, .slice Ao34 t198.length co34] 25 (0, 0)) (by (with_reducible repeat (first | refine blk_drewN ?_ _ | refine blk_drew ?_ | refine blk_alloc ?_ _)); refine blk_put (cs := #[.int .u32 t197, .slice none 0 0]) ?_ 1 _ rfl; (with_reducible repeat (first | refine blk_drewN ?_ _ | refine blk_drew ?_ | refine blk_alloc ?_ _)); refine blk_put (cs := #[.int .u32 0, .slice none 0 0]) ?_ 0 _ rfl; (with_reducible repeat (first | refine blk_drewN ?_ _ | refine blk_drew ?_ | refine blk_alloc ?_ _)); exact BK202.out) hb); have n9_ := Aside0.mk (below_step (by repeat (first | (with_reducible first | exact HB.out | apply below_alloc | apply pw_below_drewN | apply below_drew1 | refine below_set ?_ GE193.out | refine below_set ?_ GE202.out) | exact HB.out)) hb); clear HO179; clear HO183; clear HO187; clear HO191; clear HO196; clear HO200; clear BK193; clear BK202; clear HB; have HO179 := n0_; have HO183 := n1_; have HO187 := n2_; have HO191 := n3_; have HO196 := n4_; have HO200 := n5_; have HO205 := n6_; have BK193 := n7_; have BK202 := n8_; have HB := n9_; clear n0_ n1_ n2_ n3_ n4_ n5_ n6_ n7_ n8_ n9_; clear hb ho36; obtain ⟨Ao37, co37, eo37⟩ := Kd.R_slice HO205.out; subst eo37) | ((with_reducible refine gate_callee (f := 28) rfl ?_); refine goesL_ (some 35) rfl rfl Try.func28 (by kernel_rfl) rfl #[.slice Ao37 y203.length co37] rfl (by (try simp only [List.map_toArray, List.map_cons, List.map_nil]); first | done | rfl | (simp only [List.length_drop, List.length_take]; rfl) | (rw [IntKind.wrap_u64, Int.emod_eq_of_lt (by omega) (by omega)]; rfl)) ?_; (with_reducible refine (codec_Decode.calls _ _ y203 t206 t207 t210 _ ?side1 ?side2 A5.out).mono ?_); (case side1 => repeat (first | exact (Kd.R_reads' HO205.out).2.2 | (with_reducible refine Kd.C_alloc ?_ _) | (with_reducible refine Kd.C_drewN ?_ _) | (with_reducible refine Kd.C_drew ?_))); (case side2 => exact (Kd.R_reads' HO205.out).2.1); rintro e w38 ⟨v208, rfl, ho0, hb⟩; refine ⟨_, rfl, ?_⟩; have n0_ := Aside0.mk (Kd.R_below (by (with_reducible repeat (first | apply Kd.R_alloc | apply Kd.R_drewN | apply Kd.R_drew)); exact HO179.out) hb); have n1_ := Aside0.mk (Kd.R_below (by (with_reducible repeat (first | apply Kd.R_alloc | apply Kd.R_drewN | apply Kd.R_drew)); exact HO183.out) hb); have n2_ := Aside0.mk (Kd.R_below (by (with_reducible repeat (first | apply Kd.R_alloc | apply Kd.R_drewN | apply Kd.R_drew)); exact HO187.out) hb); have n3_ := Aside0.mk (Kd.S_elder' (by (with_reducible repeat (first | apply Kd.S_alloc | apply Kd.S_drewN | apply Kd.S_drew)); exact HO191.out) (Kd.S_base ho0) hb); have n4_ := Aside0.mk (Kd.R_below (by (with_reducible repeat (first | apply Kd.R_alloc | apply Kd.R_drewN | apply Kd.R_drew)); exact HO196.out) hb); have n5_ := Aside0.mk (Kd.S_elder' (by (with_reducible repeat (first | apply Kd.S_alloc | apply Kd.S_drewN | apply Kd.S_drew)); exact HO200.out) (Kd.S_base ho0) hb); have n6_ := Aside0.mk (Kd.R_below (by (with_reducible repeat (first | apply Kd.R_alloc | apply Kd.R_drewN | apply Kd.R_drew)); exact HO205.out) hb); have n7_ := Aside0.mk (Kd.S_lower (Kd.S_new' (Kd.S_new' ho0 (Kd.S_lt (by (with_reducible repeat (first | apply Kd.S_alloc | apply Kd.S_drewN | apply Kd.S_drew)); exact HO191.out))) (Kd.S_lt (by (with_reducible repeat (first | apply Kd.S_alloc | apply Kd.S_drewN | apply Kd.S_drew)); exact HO200.out))) (below_size (by repeat (first | (with_reducible first | exact HB.out | apply below_alloc | apply pw_below_drewN | apply below_drew1 | refine below_set ?_ GE193.out | refine below_set ?_ GE202.out) | exact HB.out)))); have n8_ := Aside0.mk (blk_below (g := gb193) (o := .cells #[.int .u32 t188, .slice Ao26 t189.length co26] 25 (0, 0)) (by (with_reducible repeat (first | refine blk_drewN ?_ _ | refine blk_drew ?_ | refine blk_alloc ?_ _)); exact BK193.out) hb); have n9_ := Aside0.mk (blk_below (g := gb202) (o := .cells #[.int .u32 t197, .slice Ao34 t198.length co34] 25 (0, 0)) (by (with_reducible repeat (first | refine blk_drewN ?_ _ | refine blk_drew ?_ | refine blk_alloc ?_ _)); exact BK202.out) hb); have n10_ := Aside0.mk (below_step (by repeat (first | (with_reducible first | exact HB.out | apply below_alloc | apply pw_below_drewN | apply below_drew1 | refine below_set ?_ GE193.out | refine below_set ?_ GE202.out) | exact HB.out)) hb); clear HO179; clear HO183; clear HO187; clear HO191; clear HO196; clear HO200; clear HO205; clear BK193; clear BK202; clear HB; have HO179 := n0_; have HO183 := n1_; have HO187 := n2_; have HO191 := n3_; have HO196 := n4_; have HO200 := n5_; have HO205 := n6_; have HO209 := n7_; have BK193 := n8_; have BK202 := n9_; have HB := n10_; clear n0_ n1_ n2_ n3_ n4_ n5_ n6_ n7_ n8_ n9_ n10_; (try clear hb); (try clear hb2); (try clear hk); (try clear hi); (try clear ho0)) | ((with_reducible refine gate_dst (N := 9) rfl ?_); (try (refine gate_guard (by rfl) ?_; dsimp only)); refine box_event ?hg (N := 9) ?hd (cs := #[.int .u32 0, .slice none 0 0]) (t := 25) ?hr ?_; (case hd => rfl); (case hg => rfl); (case hr => first | (go_simp; done) | (go_simp; rfl)); intro gb211 hg w39 hbox hb; have n0_ := Aside0.mk (Kd.R_below (by (with_reducible repeat (first | apply Kd.R_alloc | apply Kd.R_drewN | apply Kd.R_drew)); exact HO179.out) hb); have n1_ := Aside0.mk (Kd.R_below (by (with_reducible repeat (first | apply Kd.R_alloc | apply Kd.R_drewN | apply Kd.R_drew)); exact HO183.out) hb); have n2_ := Aside0.mk (Kd.R_below (by (with_reducible repeat (first | apply Kd.R_alloc | apply Kd.R_drewN | apply Kd.R_drew)); exact HO187.out) hb); have n3_ := Aside0.mk (Kd.S_below (by (with_reducible repeat (first | apply Kd.S_alloc | apply Kd.S_drewN | apply Kd.S_drew)); exact HO191.out) hb); have n4_ := Aside0.mk (Kd.R_below (by (with_reducible repeat (first | apply Kd.R_alloc | apply Kd.R_drewN | apply Kd.R_drew)); exact HO196.out) hb); have n5_ := Aside0.mk (Kd.S_below (by (with_reducible repeat (first | apply Kd.S_alloc | apply Kd.S_drewN | apply Kd.S_drew)); exact HO200.out) hb); have n6_ := Aside0.mk (Kd.R_below (by (with_reducible repeat (first | apply Kd.R_alloc | apply Kd.R_drewN | apply Kd.R_drew)); exact HO205.out) hb); have n7_ := Aside0.mk (Kd.S_below (by (with_reducible repeat (first | apply Kd.S_alloc | apply Kd.S_drewN | apply Kd.S_drew)); exact HO209.out) hb); have n8_ := Aside0.mk (blk_below (g := gb193) (o := .cells #[.int .u32 t188, .slice Ao26 t189.length co26] 25 (0, 0)) (by (with_reducible repeat (first | refine blk_drewN ?_ _ | refine blk_drew ?_ | refine blk_alloc ?_ _)); exact BK193.out) hb); have n9_ := Aside0.mk (blk_below (g := gb202) (o := .cells #[.int .u32 t197, .slice Ao34 t198.length co34] 25 (0, 0)) (by (with_reducible repeat (first | refine blk_drewN ?_ _ | refine blk_drew ?_ | refine blk_alloc ?_ _)); exact BK202.out) hb); have n10_ := Aside0.mk (below_step (by repeat (first | (with_reducible first | exact HB.out | apply below_alloc | apply pw_below_drewN | apply below_drew1 | refine below_set ?_ GE193.out | refine below_set ?_ GE202.out) | exact HB.out)) hb); have n11_ := Aside0.mk (hbox); have n12_ := Aside0.mk ((by rw [hg]; exact (below_size (by repeat (first | (with_reducible first | exact HB.out | apply below_alloc | apply pw_below_drewN | apply below_drew1 | refine below_set ?_ GE193.out | refine below_set ?_ GE202.out) | exact HB.out))) : w.heap.size ≤ gb211)); have n13_ := Aside0.mk ((by rw [hg]; exact (below_size (by repeat (first | (with_reducible first | exact HB.out | apply below_alloc | apply pw_below_drewN | apply below_drew1 | refine below_set ?_ GE193.out | refine below_set ?_ GE202.out) | exact HB.out))) : w.heap.size ≤ gb211)); have n14_ := Aside0.mk ((by rw [hg]; exact Nat.ne_of_lt (blk_lt (g := gb193) (o := .cells #[.int .u32 t188, .slice Ao26 t189.length co26] 25 (0, 0)) (by (with_reducible repeat (first | refine blk_drewN ?_ _ | refine blk_drew ?_ | refine blk_alloc ?_ _)); exact BK193.out)) : gb193 ≠ gb211)); have n15_ := Aside0.mk ((by rw [hg]; exact Nat.ne_of_gt (blk_lt (g := gb193) (o := .cells #[.int .u32 t188, .slice Ao26 t189.length co26] 25 (0, 0)) (by (with_reducible repeat (first | refine blk_drewN ?_ _ | refine blk_drew ?_ | refine blk_alloc ?_ _)); exact BK193.out)) : gb211 ≠ gb193)); have n16_ := Aside0.mk ((by rw [hg]; exact Nat.ne_of_lt (blk_lt (g := gb202) (o := .cells #[.int .u32 t197, .slice Ao34 t198.length co34] 25 (0, 0)) (by (with_reducible repeat (first | refine blk_drewN ?_ _ | refine blk_drew ?_ | refine blk_alloc ?_ _)); exact BK202.out)) : gb202 ≠ gb211)); have n17_ := Aside0.mk ((by rw [hg]; exact Nat.ne_of_gt (blk_lt (g := gb202) (o := .cells #[.int .u32 t197, .slice Ao34 t198.length co34] 25 (0, 0)) (by (with_reducible repeat (first | refine blk_drewN ?_ _ | refine blk_drew ?_ | refine blk_alloc ?_ _)); exact BK202.out)) : gb211 ≠ gb202)); clear HO179; clear HO183; clear HO187; clear HO191; clear HO196; clear HO200; clear HO205; clear HO209; clear BK193; clear BK202; clear HB; have HO179 := n0_; have HO183 := n1_; have HO187 := n2_; have HO191 := n3_; have HO196 := n4_; have HO200 := n5_; have HO205 := n6_; have HO209 := n7_; have BK193 := n8_; have BK202 := n9_; have HB := n10_; have BK211 := n11_; have GW211 := n12_; have GE211 := n13_; have NB193_211 := n14_; have NB211_193 := n15_; have NB202_211 := n16_; have NB211_202 := n17_; clear n0_ n1_ n2_ n3_ n4_ n5_ n6_ n7_ n8_ n9_ n10_ n11_ n12_ n13_ n14_ n15_ n16_ n17_; clear hb hbox hg; have hnb40 := NB211_193.out; have hnc40 := NB193_211.out; have hnb41 := NB211_202.out; have hnc41 := NB202_211.out; have hcz42_0 : w39.cell? ⟨gb211, 0, none⟩ = some (.int .u32 0) := (blk_cell BK211.out 0).trans rfl; have hcz42_1 : w39.cell? ⟨gb211, 1, none⟩ = some (.slice none 0 0) := (blk_cell BK211.out 1).trans rfl; have hfz42_0 := blk_frozen BK211.out 0; have hfz42_1 := blk_frozen BK211.out 1; obtain ⟨Ao43, co43, eo43⟩ := Kd.S_slice HO209.out; subst eo43) | ((with_reducible refine gate_dst (N := 41) rfl ?_); (try (refine gate_guard (by rfl) ?_; dsimp only)); refine Kd.R_lit k57 _ 57 ?hg (N := 41) ?hd (xs := ([(⟨(⟨2, (⟨#[97]⟩ : ByteArray)⟩ : S28), (⟨#[98, 99]⟩ : ByteArray)⟩ : S57)] : List (S57))) (inner := [.int .u8 2, .string (⟨#[97]⟩ : ByteArray), .string (⟨#[98, 99]⟩ : ByteArray)]) (ok := fun _ => True) (okp := fun _ => True) ?hr ?hp (fun _ hk => hk) trivial (Below.refl _ _) (Nat.le_refl _) (by simp) ?_; (case hd => rfl); (case hg => rfl); (case hr => first | (go_simp; done) | (go_simp; rfl)); (case hp => exact (Reps.c3 (show Kd.M k57 _ _ _ (⟨(⟨2, (⟨#[97]⟩ : ByteArray)⟩ : S28), (⟨#[98, 99]⟩ : ByteArray)⟩ : S57) [.int .u8 2, .string (⟨#[97]⟩ : ByteArray), .string (⟨#[98, 99]⟩ : ByteArray)] from (k57_mkM _ _ _ (⟨(⟨2, (⟨#[97]⟩ : ByteArray)⟩ : S28), (⟨#[98, 99]⟩ : ByteArray)⟩ : S57) )) (Reps.none _ _))); intro v213 w44 ho45 hb hg_ hnew_; clear hg_ hnew_; (first | rw [← Ny212.out] at ho45 | (simp only [Int.reduceToNat] at ho45; rw [← Ny212.out] at ho45)); have n0_ := Aside0.mk (Kd.R_below (by (with_reducible repeat (first | apply Kd.R_alloc | apply Kd.R_drewN | apply Kd.R_drew)); exact (Kd.R_mono (Kd.R_far (p := ⟨gb211, 1, none⟩) (Kd.R_far (p := ⟨gb211, 0, none⟩) (Kd.R_types HO179.out BK211.out (by decide)) (fun _ hk => hk.2) (.int .u32 t206)) (fun _ hk => hk.2) (.slice Ao43 t207.length co43)) (fun _ h_ => h_.1))) hb); have n1_ := Aside0.mk (Kd.R_below (by (with_reducible repeat (first | apply Kd.R_alloc | apply Kd.R_drewN | apply Kd.R_drew)); exact (Kd.R_mono (Kd.R_far (p := ⟨gb211, 1, none⟩) (Kd.R_far (p := ⟨gb211, 0, none⟩) (Kd.R_types HO183.out BK211.out (by decide)) (fun _ hk => hk.2) (.int .u32 t206)) (fun _ hk => hk.2) (.slice Ao43 t207.length co43)) (fun _ h_ => h_.1))) hb); have n2_ := Aside0.mk (Kd.R_below (by (with_reducible repeat (first | apply Kd.R_alloc | apply Kd.R_drewN | apply Kd.R_drew)); exact (Kd.R_mono (Kd.R_far (p := ⟨gb211, 1, none⟩) (Kd.R_far (p := ⟨gb211, 0, none⟩) (Kd.R_types HO187.out BK211.out (by decide)) (fun _ hk => hk.2) (.int .u32 t206)) (fun _ hk => hk.2) (.slice Ao43 t207.length co43)) (fun _ h_ => h_.1))) hb); have n3_ := Aside0.mk (Kd.S_below (by (with_reducible repeat (first | apply Kd.S_alloc | apply Kd.S_drewN | apply Kd.S_drew)); exact (Kd.S_mono (Kd.S_far (p := ⟨gb211, 1, none⟩) (Kd.S_far (p := ⟨gb211, 0, none⟩) (Kd.S_types HO191.out BK211.out (by decide)) (fun _ hk => hk.2) (.int .u32 t206)) (fun _ hk => hk.2) (.slice Ao43 t207.length co43)) (fun _ h_ => h_.1))) hb); have n4_ := Aside0.mk (Kd.R_below (by (with_reducible repeat (first | apply Kd.R_alloc | apply Kd.R_drewN | apply Kd.R_drew)); exact (Kd.R_mono (Kd.R_far (p := ⟨gb211, 1, none⟩) (Kd.R_far (p := ⟨gb211, 0, none⟩) (Kd.R_types HO196.out BK211.out (by decide)) (fun _ hk => hk.2) (.int .u32 t206)) (fun _ hk => hk.2) (.slice Ao43 t207.length co43)) (fun _ h_ => h_.1))) hb); have n5_ := Aside0.mk (Kd.S_below (by (with_reducible repeat (first | apply Kd.S_alloc | apply Kd.S_drewN | apply Kd.S_drew)); exact (Kd.S_mono (Kd.S_far (p := ⟨gb211, 1, none⟩) (Kd.S_far (p := ⟨gb211, 0, none⟩) (Kd.S_types HO200.out BK211.out (by decide)) (fun _ hk => hk.2) (.int .u32 t206)) (fun _ hk => hk.2) (.slice Ao43 t207.length co43)) (fun _ h_ => h_.1))) hb); have n6_ := Aside0.mk (Kd.R_below (by (with_reducible repeat (first | apply Kd.R_alloc | apply Kd.R_drewN | apply Kd.R_drew)); exact (Kd.R_mono (Kd.R_far (p := ⟨gb211, 1, none⟩) (Kd.R_far (p := ⟨gb211, 0, none⟩) (Kd.R_types HO205.out BK211.out (by decide)) (fun _ hk => hk.2) (.int .u32 t206)) (fun _ hk => hk.2) (.slice Ao43 t207.length co43)) (fun _ h_ => h_.1))) hb); have n7_ := Aside0.mk (Kd.S_below (by (with_reducible repeat (first | apply Kd.S_alloc | apply Kd.S_drewN | apply Kd.S_drew)); exact (Kd.S_mono (Kd.S_far (p := ⟨gb211, 1, none⟩) (Kd.S_far (p := ⟨gb211, 0, none⟩) (Kd.S_types HO209.out BK211.out (by decide)) (fun _ hk => hk.2) (.int .u32 t206)) (fun _ hk => hk.2) (.slice Ao43 t207.length co43)) (fun _ h_ => h_.1))) hb); have n8_ := Aside0.mk (Kd.R_lower ho45 (below_size (by repeat (first | (with_reducible first | exact HB.out | apply below_alloc | apply pw_below_drewN | apply below_drew1 | refine below_set ?_ GE193.out | refine below_set ?_ GE202.out | refine below_set ?_ GE211.out) | exact HB.out)))); have n9_ := Aside0.mk (blk_below (g := gb193) (o := .cells #[.int .u32 t188, .slice Ao26 t189.length co26] 25 (0, 0)) (by (with_reducible repeat (first | refine blk_drewN ?_ _ | refine blk_drew ?_ | refine blk_alloc ?_ _)); refine blk_far ?_ NB193_211.out _; (with_reducible repeat (first | refine blk_drewN ?_ _ | refine blk_drew ?_ | refine blk_alloc ?_ _)); refine blk_far ?_ NB193_211.out _; (with_reducible repeat (first | refine blk_drewN ?_ _ | refine blk_drew ?_ | refine blk_alloc ?_ _)); exact BK193.out) hb); have n10_ := Aside0.mk (blk_below (g := gb202) (o := .cells #[.int .u32 t197, .slice Ao34 t198.length co34] 25 (0, 0)) (by (with_reducible repeat (first | refine blk_drewN ?_ _ | refine blk_drew ?_ | refine blk_alloc ?_ _)); refine blk_far ?_ NB202_211.out _; (with_reducible repeat (first | refine blk_drewN ?_ _ | refine blk_drew ?_ | refine blk_alloc ?_ _)); refine blk_far ?_ NB202_211.out _; (with_reducible repeat (first | refine blk_drewN ?_ _ | refine blk_drew ?_ | refine blk_alloc ?_ _)); exact BK202.out) hb); have n11_ := Aside0.mk (blk_below (g := gb211) (o := .cells #[.int .u32 t206, .slice Ao43 t207.length co43] 25 (0, 0)) (by (with_reducible repeat (first | refine blk_drewN ?_ _ | refine blk_drew ?_ | refine blk_alloc ?_ _)); refine blk_put (cs := #[.int .u32 t206, .slice none 0 0]) ?_ 1 _ rfl; (with_reducible repeat (first | refine blk_drewN ?_ _ | refine blk_drew ?_ | refine blk_alloc ?_ _)); refine blk_put (cs := #[.int .u32 0, .slice none 0 0]) ?_ 0 _ rfl; (with_reducible repeat (first | refine blk_drewN ?_ _ | refine blk_drew ?_ | refine blk_alloc ?_ _)); exact BK211.out) hb); have n12_ := Aside0.mk (below_step (by repeat (first | (with_reducible first | exact HB.out | apply below_alloc | apply pw_below_drewN | apply below_drew1 | refine below_set ?_ GE193.out | refine below_set ?_ GE202.out | refine below_set ?_ GE211.out) | exact HB.out)) hb); clear HO179; clear HO183; clear HO187; clear HO191; clear HO196; clear HO200; clear HO205; clear HO209; clear BK193; clear BK202; clear BK211; clear HB; have HO179 := n0_; have HO183 := n1_; have HO187 := n2_; have HO191 := n3_; have HO196 := n4_; have HO200 := n5_; have HO205 := n6_; have HO209 := n7_; have HO214 := n8_; have BK193 := n9_; have BK202 := n10_; have BK211 := n11_; have HB := n12_; clear n0_ n1_ n2_ n3_ n4_ n5_ n6_ n7_ n8_ n9_ n10_ n11_ n12_; clear hb ho45; obtain ⟨Ao46, co46, eo46⟩ := Kd.R_slice HO214.out; subst eo46) | ((with_reducible refine gate_callee (f := 17) rfl ?_); refine goesL_ (some 42) rfl rfl Try.func17 (by kernel_rfl) rfl #[.slice Ao46 y212.length co46] rfl (by (try simp only [List.map_toArray, List.map_cons, List.map_nil]); first | done | rfl | (simp only [List.length_drop, List.length_take]; rfl) | (rw [IntKind.wrap_u64, Int.emod_eq_of_lt (by omega) (by omega)]; rfl)) ?_; (with_reducible refine (codec_EncodeRows.calls k _ _ y212 t215 t216 _ ?side1 ?side2 A6.out).mono ?_); (case side1 => repeat (first | exact (Kd.R_reads' HO214.out).2.2 | (with_reducible refine Kd.C_alloc ?_ _) | (with_reducible refine Kd.C_drewN ?_ _) | (with_reducible refine Kd.C_drew ?_))); (case side2 => exact (Kd.R_reads' HO214.out).2.1); rintro e w47 ⟨v217, rfl, ho0, hb⟩; refine ⟨_, rfl, ?_⟩; have n0_ := Aside0.mk (Kd.R_elder' (by (with_reducible repeat (first | apply Kd.R_alloc | apply Kd.R_drewN | apply Kd.R_drew)); exact HO179.out) (Kd.R_base ho0) hb); have n1_ := Aside0.mk (Kd.R_elder' (by (with_reducible repeat (first | apply Kd.R_alloc | apply Kd.R_drewN | apply Kd.R_drew)); exact HO183.out) (Kd.R_base ho0) hb); have n2_ := Aside0.mk (Kd.R_elder' (by (with_reducible repeat (first | apply Kd.R_alloc | apply Kd.R_drewN | apply Kd.R_drew)); exact HO187.out) (Kd.R_base ho0) hb); have n3_ := Aside0.mk (Kd.S_below (by (with_reducible repeat (first | apply Kd.S_alloc | apply Kd.S_drewN | apply Kd.S_drew)); exact HO191.out) hb); have n4_ := Aside0.mk (Kd.R_elder' (by (with_reducible repeat (first | apply Kd.R_alloc | apply Kd.R_drewN | apply Kd.R_drew)); exact HO196.out) (Kd.R_base ho0) hb); have n5_ := Aside0.mk (Kd.S_below (by (with_reducible repeat (first | apply Kd.S_alloc | apply Kd.S_drewN | apply Kd.S_drew)); exact HO200.out) hb); have n6_ := Aside0.mk (Kd.R_elder' (by (with_reducible repeat (first | apply Kd.R_alloc | apply Kd.R_drewN | apply Kd.R_drew)); exact HO205.out) (Kd.R_base ho0) hb); have n7_ := Aside0.mk (Kd.S_below (by (with_reducible repeat (first | apply Kd.S_alloc | apply Kd.S_drewN | apply Kd.S_drew)); exact HO209.out) hb); have n8_ := Aside0.mk (Kd.R_below (by (with_reducible repeat (first | apply Kd.R_alloc | apply Kd.R_drewN | apply Kd.R_drew)); exact HO214.out) hb); have n9_ := Aside0.mk (Kd.R_lower (Kd.R_new' (Kd.R_new' (Kd.R_new' (Kd.R_new' (Kd.R_new' ho0 (Kd.R_lt (by (with_reducible repeat (first | apply Kd.R_alloc | apply Kd.R_drewN | apply Kd.R_drew)); exact HO179.out))) (Kd.R_lt (by (with_reducible repeat (first | apply Kd.R_alloc | apply Kd.R_drewN | apply Kd.R_drew)); exact HO183.out))) (Kd.R_lt (by (with_reducible repeat (first | apply Kd.R_alloc | apply Kd.R_drewN | apply Kd.R_drew)); exact HO187.out))) (Kd.R_lt (by (with_reducible repeat (first | apply Kd.R_alloc | apply Kd.R_drewN | apply Kd.R_drew)); exact HO196.out))) (Kd.R_lt (by (with_reducible repeat (first | apply Kd.R_alloc | apply Kd.R_drewN | apply Kd.R_drew)); exact HO205.out))) (below_size (by repeat (first | (with_reducible first | exact HB.out | apply below_alloc | apply pw_below_drewN | apply below_drew1 | refine below_set ?_ GE193.out | refine below_set ?_ GE202.out | refine below_set ?_ GE211.out) | exact HB.out)))); have n10_ := Aside0.mk (blk_below (g := gb193) (o := .cells #[.int .u32 t188, .slice Ao26 t189.length co26] 25 (0, 0)) (by (with_reducible repeat (first | refine blk_drewN ?_ _ | refine blk_drew ?_ | refine blk_alloc ?_ _)); exact BK193.out) hb); have n11_ := Aside0.mk (blk_below (g := gb202) (o := .cells #[.int .u32 t197, .slice Ao34 t198.length co34] 25 (0, 0)) (by (with_reducible repeat (first | refine blk_drewN ?_ _ | refine blk_drew ?_ | refine blk_alloc ?_ _)); exact BK202.out) hb); have n12_ := Aside0.mk (blk_below (g := gb211) (o := .cells #[.int .u32 t206, .slice Ao43 t207.length co43] 25 (0, 0)) (by (with_reducible repeat (first | refine blk_drewN ?_ _ | refine blk_drew ?_ | refine blk_alloc ?_ _)); exact BK211.out) hb); have n13_ := Aside0.mk (below_step (by repeat (first | (with_reducible first | exact HB.out | apply below_alloc | apply pw_below_drewN | apply below_drew1 | refine below_set ?_ GE193.out | refine below_set ?_ GE202.out | refine below_set ?_ GE211.out) | exact HB.out)) hb); clear HO179; clear HO183; clear HO187; clear HO191; clear HO196; clear HO200; clear HO205; clear HO209; clear HO214; clear BK193; clear BK202; clear BK211; clear HB; have HO179 := n0_; have HO183 := n1_; have HO187 := n2_; have HO191 := n3_; have HO196 := n4_; have HO200 := n5_; have HO205 := n6_; have HO209 := n7_; have HO214 := n8_; have HO218 := n9_; have BK193 := n10_; have BK202 := n11_; have BK211 := n12_; have HB := n13_; clear n0_ n1_ n2_ n3_ n4_ n5_ n6_ n7_ n8_ n9_ n10_ n11_ n12_ n13_; (try clear hb); (try clear hb2); (try clear hk); (try clear hi); (try clear ho0); have hcv48 := own_string (P := Try.prog) Try.underlying32 Try.underlying5 Try.underlying9 (Kd.own_of_R HO179.out); have hcv49 := fun nq_ => own_string (P := Try.prog) Try.underlying32 Try.underlying5 Try.underlying9 (Kd.own_of_R (Kd.R_drewN HO179.out nq_)); have hcz50_0 : w47.cell? ⟨gb193, 0, none⟩ = some (.int .u32 t188) := (blk_cell BK193.out 0).trans rfl; have hcz50_1 : w47.cell? ⟨gb193, 1, none⟩ = some (.slice Ao26 t189.length co26) := (blk_cell BK193.out 1).trans rfl; have hfz50_0 := blk_frozen BK193.out 0; have hfz50_1 := blk_frozen BK193.out 1; have hcv51 := own_string (P := Try.prog) Try.underlying32 Try.underlying5 Try.underlying9 (Kd.own_of_R HO218.out); have hcv52 := fun nq_ => own_string (P := Try.prog) Try.underlying32 Try.underlying5 Try.underlying9 (Kd.own_of_R (Kd.R_drewN HO218.out nq_))) | (go_at_call 22; (with_reducible refine (codec_Less.calls k 1 (⟨#[122]⟩ : ByteArray) 2 (⟨#[97]⟩ : ByteArray) t219 _ A17.out).mono ?_); rintro e w53 ⟨rfl, hb⟩; have n0_ := Aside0.mk (Kd.R_below (by (with_reducible repeat (first | apply Kd.R_alloc | apply Kd.R_drewN | apply Kd.R_drew)); exact HO179.out) hb); have n1_ := Aside0.mk (Kd.R_below (by (with_reducible repeat (first | apply Kd.R_alloc | apply Kd.R_drewN | apply Kd.R_drew)); exact HO183.out) hb); have n2_ := Aside0.mk (Kd.R_below (by (with_reducible repeat (first | apply Kd.R_alloc | apply Kd.R_drewN | apply Kd.R_drew)); exact HO187.out) hb); have n3_ := Aside0.mk (Kd.S_below (by (with_reducible repeat (first | apply Kd.S_alloc | apply Kd.S_drewN | apply Kd.S_drew)); exact HO191.out) hb); have n4_ := Aside0.mk (Kd.R_below (by (with_reducible repeat (first | apply Kd.R_alloc | apply Kd.R_drewN | apply Kd.R_drew)); exact HO196.out) hb); have n5_ := Aside0.mk (Kd.S_below (by (with_reducible repeat (first | apply Kd.S_alloc | apply Kd.S_drewN | apply Kd.S_drew)); exact HO200.out) hb); have n6_ := Aside0.mk (Kd.R_below (by (with_reducible repeat (first | apply Kd.R_alloc | apply Kd.R_drewN | apply Kd.R_drew)); exact HO205.out) hb); have n7_ := Aside0.mk (Kd.S_below (by (with_reducible repeat (first | apply Kd.S_alloc | apply Kd.S_drewN | apply Kd.S_drew)); exact HO209.out) hb); have n8_ := Aside0.mk (Kd.R_below (by (with_reducible repeat (first | apply Kd.R_alloc | apply Kd.R_drewN | apply Kd.R_drew)); exact HO214.out) hb); have n9_ := Aside0.mk (Kd.R_below (by (with_reducible repeat (first | apply Kd.R_alloc | apply Kd.R_drewN | apply Kd.R_drew)); exact HO218.out) hb); have n10_ := Aside0.mk (blk_below (g := gb193) (o := .cells #[.int .u32 t188, .slice Ao26 t189.length co26] 25 (0, 0)) (by (with_reducible repeat (first | refine blk_drewN ?_ _ | refine blk_drew ?_ | refine blk_alloc ?_ _)); exact BK193.out) hb); have n11_ := Aside0.mk (blk_below (g := gb202) (o := .cells #[.int .u32 t197, .slice Ao34 t198.length co34] 25 (0, 0)) (by (with_reducible repeat (first | refine blk_drewN ?_ _ | refine blk_drew ?_ | refine blk_alloc ?_ _)); exact BK202.out) hb); have n12_ := Aside0.mk (blk_below (g := gb211) (o := .cells #[.int .u32 t206, .slice Ao43 t207.length co43] 25 (0, 0)) (by (with_reducible repeat (first | refine blk_drewN ?_ _ | refine blk_drew ?_ | refine blk_alloc ?_ _)); exact BK211.out) hb); have n13_ := Aside0.mk (below_step (by repeat (first | (with_reducible first | exact HB.out | apply below_alloc | apply pw_below_drewN | apply below_drew1 | refine below_set ?_ GE193.out | refine below_set ?_ GE202.out | refine below_set ?_ GE211.out) | exact HB.out)) hb); clear HO179; clear HO183; clear HO187; clear HO191; clear HO196; clear HO200; clear HO205; clear HO209; clear HO214; clear HO218; clear BK193; clear BK202; clear BK211; clear HB; have HO179 := n0_; have HO183 := n1_; have HO187 := n2_; have HO191 := n3_; have HO196 := n4_; have HO200 := n5_; have HO205 := n6_; have HO209 := n7_; have HO214 := n8_; have HO218 := n9_; have BK193 := n10_; have BK202 := n11_; have BK211 := n12_; have HB := n13_; clear n0_ n1_ n2_ n3_ n4_ n5_ n6_ n7_ n8_ n9_ n10_ n11_ n12_ n13_; (try clear hb); (try clear hb2); (try clear hk); (try clear hi)))
                      go_ret
                      exact ⟨by first | rfl | (simp [errW_none, errW_some] <;> rfl) | (simp [*, errW_none, errW_some] <;> rfl), by repeat (first | (with_reducible first | exact HB.out | apply below_alloc | apply pw_below_drewN | apply below_drew1 | refine below_set ?_ GE193.out | refine below_set ?_ GE202.out | refine below_set ?_ GE211.out) | exact HB.out)⟩
                    · rw [if_neg c16] at H
                      have c16b0 : (t216 == 0) = false := beq_eq_false_iff_ne.mpr c16
                      have c16b1 : (t216 != 0) = true := bne_iff_ne.mpr c16
                      exact absurd ((Option.some.inj H).trans HRT.out) (by decide)
                  · rw [if_neg c15] at H
                    have c15b0 : ((strOfNums t215).toList == ([1, 2, 1, 97, 2, 98, 99] : List UInt8)) = false := beq_eq_false_iff_ne.mpr c15
                    have c15b1 : ((strOfNums t215).toList != ([1, 2, 1, 97, 2, 98, 99] : List UInt8)) = true := bne_iff_ne.mpr c15
                    exact absurd ((Option.some.inj H).trans HRT.out) (by decide)
                · rw [if_neg c14] at H
                  have c14b0 : (t210 == 3) = false := beq_eq_false_iff_ne.mpr c14
                  have c14b1 : (t210 != 3) = true := bne_iff_ne.mpr c14
                  exact absurd ((Option.some.inj H).trans HRT.out) (by decide)
              · rw [if_neg c13] at H
                have c13b0 : (t201 == 2) = false := beq_eq_false_iff_ne.mpr c13
                have c13b1 : (t201 != 2) = true := bne_iff_ne.mpr c13
                exact absurd ((Option.some.inj H).trans HRT.out) (by decide)
            · rw [if_neg c12] at H
              have c12b0 : (t192 == 0) = false := beq_eq_false_iff_ne.mpr c12
              have c12b1 : (t192 != 0) = true := bne_iff_ne.mpr c12
              exact absurd ((Option.some.inj H).trans HRT.out) (by decide)
          · rw [if_neg c11] at H
            have c11b0 : ((t189.length : Int) == 0) = false := beq_eq_false_iff_ne.mpr c11
            have c11b1 : ((t189.length : Int) != 0) = true := bne_iff_ne.mpr c11
            have c11b2 : ¬ (t189 = []) := fun h_ => c11 (by rw [h_]; rfl)
            exact absurd ((Option.some.inj H).trans HRT.out) (by decide)
        · rw [if_neg c10] at H
          have c10b0 : (t188 == 1) = false := beq_eq_false_iff_ne.mpr c10
          have c10b1 : (t188 != 1) = true := bne_iff_ne.mpr c10
          exact absurd ((Option.some.inj H).trans HRT.out) (by decide)
      · rw [if_neg c9] at H
        have c9b0 : (t184 == 1) = false := beq_eq_false_iff_ne.mpr c9
        have c9b1 : (t184 != 1) = true := bne_iff_ne.mpr c9
        exact absurd ((Option.some.inj H).trans HRT.out) (by decide)
    · rw [if_neg c8] at H
      have c8b0 : (t180 == 0) = false := beq_eq_false_iff_ne.mpr c8
      have c8b1 : (t180 != 0) = true := bne_iff_ne.mpr c8
      exact absurd ((Option.some.inj H).trans HRT.out) (by decide)
  · rw [if_neg c7] at H
    have c7b0 : ((strOfNums t177).toList == ([1, 0] : List UInt8)) = false := beq_eq_false_iff_ne.mpr c7
    have c7b1 : ((strOfNums t177).toList != ([1, 0] : List UInt8)) = true := bne_iff_ne.mpr c7
    exact absurd ((Option.some.inj H).trans HRT.out) (by decide)

/-- shown, as a plain function. -/
def tidemarklaw04_shown.f : Option Bool := some true
theorem shown_k : shownK.f 30 = some true := by decide +kernel
theorem tidemarklaw04_shown.calls (r : Bool) (w : World) (h : tidemarklaw04_shown.f = some r) : Calls Try.prog 13 #[] w fun e w' => e = .returned (.bool r) ∧ Below w.heap.size w w' := by
  obtain rfl := Option.some.inj h
  exact shownK.calls 30 true w rfl shown_k
end Go.Proofs.Ytgmdoapedhppmaa.PC

/- Proofs that functions of the program come to what plain Lean functions say; made by wip/drive.py. -/
namespace Go.Proofs.Ytgmdoapedhppmaa.PC
set_option linter.unusedVariables false
set_option linter.unusedSimpArgs false
open Go.RowKit Go.Proofs.YtgmdoapedhppmaaW.PrintWords Go.Proofs.YtgmdoapedhppmaaW.PrintLast Go.Proofs.YtgmdoapedhppmaaW.PrintMore
attribute [local go_sem] max2_int min2_int max_two min_two max_three min_three max_four min_four   -- for this text's walks alone
set_option linter.unusedVariables false
set_option linter.unusedSimpArgs false

attribute [local go_sem high] eqA28
/-! ### tidemarklaw04_CodecOrder: function 4 -/
def tidemarklaw04_CodecOrder.j0 : Nat → Bool → Bool → Int → ByteArray → Option (Bool)
  | 0, _, _, _, _ => none
  | k + 1, x7, x45, x738000, x738001 => if x45 = true then (some false) else (if x738001.size + 1 ≤ 9223372036854775807 then (if x7 = true then ((codec_Less.f k x738000 x738001 x738000 (x738001 ++ (⟨#[120]⟩ : ByteArray))).bind fun t746 => (if t746 = true then ((codec_Less.f k x738000 (x738001 ++ (⟨#[120]⟩ : ByteArray)) x738000 x738001).bind fun t747 => (if t747 = true then (some false) else ((codec_Less.f k x738000 x738001 x738000 x738001).bind fun t748 => (some (!t748))))) else (some false))) else (some false)) else (none))
def tidemarklaw04_CodecOrder.f (k : Nat) (a0_0 : Int) (a0_1 : ByteArray) (a1_0 : Int) (a1_1 : ByteArray) (a2_0 : Int) (a2_1 : ByteArray) : Option (Bool) := (tidemarklaw04_shown.f).bind fun t740 => ((codec_Less.f k a0_0 a0_1 a1_0 a1_1).bind fun t741 => ((codec_Less.f k a1_0 a1_1 a0_0 a0_1).bind fun t742 => (if t741 = true then (if t742 = true then (tidemarklaw04_CodecOrder.j0 k t740 true a0_0 a0_1) else (if (true == (a0_0 == a1_0 && (a0_1.toList == a1_1.toList))) = true then (tidemarklaw04_CodecOrder.j0 k t740 true a0_0 a0_1) else ((codec_Less.f k a1_0 a1_1 a2_0 a2_1).bind fun t743 => (if t743 = true then ((codec_Less.f k a0_0 a0_1 a2_0 a2_1).bind fun t744 => (tidemarklaw04_CodecOrder.j0 k t740 (!t744) a0_0 a0_1)) else (tidemarklaw04_CodecOrder.j0 k t740 false a0_0 a0_1))))) else (if (t742 == (a0_0 == a1_0 && (a0_1.toList == a1_1.toList))) = true then (tidemarklaw04_CodecOrder.j0 k t740 true a0_0 a0_1) else (tidemarklaw04_CodecOrder.j0 k t740 false a0_0 a0_1)))))
theorem tidemarklaw04_CodecOrder.mono_l : ∀ k, (∀ y0 y1 y2 y3, LeO (tidemarklaw04_CodecOrder.j0 k y0 y1 y2 y3) (tidemarklaw04_CodecOrder.j0 (k + 1) y0 y1 y2 y3))
  | 0 => fun _ _ _ _ r h => by simp [tidemarklaw04_CodecOrder.j0] at h
  | k + 1 => by
    have ih0 := tidemarklaw04_CodecOrder.mono_l k
    · intro y0 y1 y2 y3
      unfold tidemarklaw04_CodecOrder.j0
      repeat' first
      | (with_reducible exact ih0 _ _ _ _)
      | (with_reducible exact codec_Less.mono _ _ _ _ _)
      | (with_reducible exact LeO.refl _)
      | (with_reducible exact LeO.none _)
      | (with_reducible refine LeO.ite ?_ ?_)
      | (with_reducible refine LeO.bind ?_ (fun _ => ?_))
      | exact ih0 _ _ _ _
      | exact codec_Less.mono _ _ _ _ _
      | exact LeO.none _
      | refine LeO.ite ?_ ?_
      | refine LeO.bind ?_ (fun _ => ?_)
theorem tidemarklaw04_CodecOrder.mono : ∀ a0 a1 a2 a3 a4 a5 k, LeO (tidemarklaw04_CodecOrder.f k a0 a1 a2 a3 a4 a5) (tidemarklaw04_CodecOrder.f (k + 1) a0 a1 a2 a3 a4 a5) := by
  intro a0 a1 a2 a3 a4 a5 k
  have ih0 := tidemarklaw04_CodecOrder.mono_l k
  unfold tidemarklaw04_CodecOrder.f
  repeat' first
      | (with_reducible exact ih0 _ _ _ _)
      | (with_reducible exact codec_Less.mono _ _ _ _ _)
      | (with_reducible exact LeO.refl _)
      | (with_reducible exact LeO.none _)
      | (with_reducible refine LeO.ite ?_ ?_)
      | (with_reducible refine LeO.bind ?_ (fun _ => ?_))
      | exact ih0 _ _ _ _
      | exact codec_Less.mono _ _ _ _ _
      | exact LeO.none _
      | refine LeO.ite ?_ ?_
      | refine LeO.bind ?_ (fun _ => ?_)
set_option maxHeartbeats 8000000 in
set_option maxRecDepth 100000 in
theorem tidemarklaw04_CodecOrder.calls (k : Nat) (a0_0 : Int) (a0_1 : ByteArray) (a1_0 : Int) (a1_1 : ByteArray) (a2_0 : Int) (a2_1 : ByteArray) (r : Bool) (w : World) (hrt : r = true) (h : tidemarklaw04_CodecOrder.f k a0_0 a0_1 a1_0 a1_1 a2_0 a2_1 = some r) :
    Calls Try.prog 4 #[.agg #[.int .u8 a0_0, .string a0_1], .agg #[.int .u8 a1_0, .string a1_1], .agg #[.int .u8 a2_0, .string a2_1]] w fun e w' => e = .returned (.bool r) ∧ Below w.heap.size w w' := by
  have HRT := Aside0.mk hrt
  clear hrt
  have hu28 := Try.underlying28
  have HB := Aside0.mk (Below.refl w.heap.size w)
  have H : ((tidemarklaw04_shown.f).bind fun t740 => ((codec_Less.f k a0_0 a0_1 a1_0 a1_1).bind fun t741 => ((codec_Less.f k a1_0 a1_1 a0_0 a0_1).bind fun t742 => (if t741 = true then (if t742 = true then (tidemarklaw04_CodecOrder.j0 k t740 true a0_0 a0_1) else (if (true == (a0_0 == a1_0 && (a0_1.toList == a1_1.toList))) = true then (tidemarklaw04_CodecOrder.j0 k t740 true a0_0 a0_1) else ((codec_Less.f k a1_0 a1_1 a2_0 a2_1).bind fun t743 => (if t743 = true then ((codec_Less.f k a0_0 a0_1 a2_0 a2_1).bind fun t744 => (tidemarklaw04_CodecOrder.j0 k t740 (!t744) a0_0 a0_1)) else (tidemarklaw04_CodecOrder.j0 k t740 false a0_0 a0_1))))) else (if (t742 == (a0_0 == a1_0 && (a0_1.toList == a1_1.toList))) = true then (tidemarklaw04_CodecOrder.j0 k t740 true a0_0 a0_1) else (tidemarklaw04_CodecOrder.j0 k t740 false a0_0 a0_1)))))) = some r := h
  clear h
  replace H := Option.bind_eq_some_iff.mp H
  obtain ⟨t740, A40, H⟩ := H
  replace H : ((codec_Less.f k a0_0 a0_1 a1_0 a1_1).bind fun t741 => ((codec_Less.f k a1_0 a1_1 a0_0 a0_1).bind fun t742 => (if t741 = true then (if t742 = true then (tidemarklaw04_CodecOrder.j0 k t740 true a0_0 a0_1) else (if (true == (a0_0 == a1_0 && (a0_1.toList == a1_1.toList))) = true then (tidemarklaw04_CodecOrder.j0 k t740 true a0_0 a0_1) else ((codec_Less.f k a1_0 a1_1 a2_0 a2_1).bind fun t743 => (if t743 = true then ((codec_Less.f k a0_0 a0_1 a2_0 a2_1).bind fun t744 => (tidemarklaw04_CodecOrder.j0 k t740 (!t744) a0_0 a0_1)) else (tidemarklaw04_CodecOrder.j0 k t740 false a0_0 a0_1))))) else (if (t742 == (a0_0 == a1_0 && (a0_1.toList == a1_1.toList))) = true then (tidemarklaw04_CodecOrder.j0 k t740 true a0_0 a0_1) else (tidemarklaw04_CodecOrder.j0 k t740 false a0_0 a0_1))))) = some r := H
  have A4 := Aside0.mk A40
  clear A40
  replace H := Option.bind_eq_some_iff.mp H
  obtain ⟨t741, A50, H⟩ := H
  replace H : ((codec_Less.f k a1_0 a1_1 a0_0 a0_1).bind fun t742 => (if t741 = true then (if t742 = true then (tidemarklaw04_CodecOrder.j0 k t740 true a0_0 a0_1) else (if (true == (a0_0 == a1_0 && (a0_1.toList == a1_1.toList))) = true then (tidemarklaw04_CodecOrder.j0 k t740 true a0_0 a0_1) else ((codec_Less.f k a1_0 a1_1 a2_0 a2_1).bind fun t743 => (if t743 = true then ((codec_Less.f k a0_0 a0_1 a2_0 a2_1).bind fun t744 => (tidemarklaw04_CodecOrder.j0 k t740 (!t744) a0_0 a0_1)) else (tidemarklaw04_CodecOrder.j0 k t740 false a0_0 a0_1))))) else (if (t742 == (a0_0 == a1_0 && (a0_1.toList == a1_1.toList))) = true then (tidemarklaw04_CodecOrder.j0 k t740 true a0_0 a0_1) else (tidemarklaw04_CodecOrder.j0 k t740 false a0_0 a0_1)))) = some r := H
  have A5 := Aside0.mk A50
  clear A50
  replace H := Option.bind_eq_some_iff.mp H
  obtain ⟨t742, A60, H⟩ := H
  replace H : (if t741 = true then (if t742 = true then (tidemarklaw04_CodecOrder.j0 k t740 true a0_0 a0_1) else (if (true == (a0_0 == a1_0 && (a0_1.toList == a1_1.toList))) = true then (tidemarklaw04_CodecOrder.j0 k t740 true a0_0 a0_1) else ((codec_Less.f k a1_0 a1_1 a2_0 a2_1).bind fun t743 => (if t743 = true then ((codec_Less.f k a0_0 a0_1 a2_0 a2_1).bind fun t744 => (tidemarklaw04_CodecOrder.j0 k t740 (!t744) a0_0 a0_1)) else (tidemarklaw04_CodecOrder.j0 k t740 false a0_0 a0_1))))) else (if (t742 == (a0_0 == a1_0 && (a0_1.toList == a1_1.toList))) = true then (tidemarklaw04_CodecOrder.j0 k t740 true a0_0 a0_1) else (tidemarklaw04_CodecOrder.j0 k t740 false a0_0 a0_1))) = some r := H
  have A6 := Aside0.mk A60
  clear A60
  have HC7 := Aside0.mk H
  clear H
  go_enter Try.func4, Try.ntmps4
  go_upto_region 4 with (first | ((with_reducible refine gate_dst (N := 3) rfl ?_); refine box_event ?hg (N := 3) ?hd (cs := #[.int .u8 a0_0, .string a0_1]) (t := 28) ?hr ?_; (case hd => rfl); (case hg => rfl); (case hr => first | (go_simp; done) | (go_simp; rfl)); intro gb737 hg w8 hbox hb; have n0_ := Aside0.mk (below_step (by repeat (first | (with_reducible first | exact HB.out | apply below_alloc | apply pw_below_drewN | apply below_drew1) | exact HB.out)) hb); have n1_ := Aside0.mk (hbox); have n2_ := Aside0.mk ((by rw [hg]; exact (below_size (by repeat (first | (with_reducible first | exact HB.out | apply below_alloc | apply pw_below_drewN | apply below_drew1) | exact HB.out))) : w.heap.size ≤ gb737)); have n3_ := Aside0.mk ((by rw [hg]; exact (below_size (by repeat (first | (with_reducible first | exact HB.out | apply below_alloc | apply pw_below_drewN | apply below_drew1) | exact HB.out))) : w.heap.size ≤ gb737)); clear HB; have HB := n0_; have BK737 := n1_; have GW737 := n2_; have GE737 := n3_; clear n0_ n1_ n2_ n3_; clear hb hbox hg) | ((with_reducible refine gate_dst (N := 4) rfl ?_); refine box_event ?hg (N := 4) ?hd (cs := #[.int .u8 a1_0, .string a1_1]) (t := 28) ?hr ?_; (case hd => rfl); (case hg => rfl); (case hr => first | (go_simp; done) | (go_simp; rfl)); intro gb738 hg w9 hbox hb; have n0_ := Aside0.mk (blk_below (g := gb737) (o := .cells #[.int .u8 a0_0, .string a0_1] 28 (0, 0)) (by (with_reducible repeat (first | refine blk_drewN ?_ _ | refine blk_drew ?_ | refine blk_alloc ?_ _)); exact BK737.out) hb); have n1_ := Aside0.mk (below_step (by repeat (first | (with_reducible first | exact HB.out | apply below_alloc | apply pw_below_drewN | apply below_drew1 | refine below_set ?_ GE737.out) | exact HB.out)) hb); have n2_ := Aside0.mk (hbox); have n3_ := Aside0.mk ((by rw [hg]; exact (below_size (by repeat (first | (with_reducible first | exact HB.out | apply below_alloc | apply pw_below_drewN | apply below_drew1 | refine below_set ?_ GE737.out) | exact HB.out))) : w.heap.size ≤ gb738)); have n4_ := Aside0.mk ((by rw [hg]; exact (below_size (by repeat (first | (with_reducible first | exact HB.out | apply below_alloc | apply pw_below_drewN | apply below_drew1 | refine below_set ?_ GE737.out) | exact HB.out))) : w.heap.size ≤ gb738)); have n5_ := Aside0.mk ((by rw [hg]; exact Nat.ne_of_lt (blk_lt (g := gb737) (o := .cells #[.int .u8 a0_0, .string a0_1] 28 (0, 0)) (by (with_reducible repeat (first | refine blk_drewN ?_ _ | refine blk_drew ?_ | refine blk_alloc ?_ _)); exact BK737.out)) : gb737 ≠ gb738)); have n6_ := Aside0.mk ((by rw [hg]; exact Nat.ne_of_gt (blk_lt (g := gb737) (o := .cells #[.int .u8 a0_0, .string a0_1] 28 (0, 0)) (by (with_reducible repeat (first | refine blk_drewN ?_ _ | refine blk_drew ?_ | refine blk_alloc ?_ _)); exact BK737.out)) : gb738 ≠ gb737)); clear BK737; clear HB; have BK737 := n0_; have HB := n1_; have BK738 := n2_; have GW738 := n3_; have GE738 := n4_; have NB737_738 := n5_; have NB738_737 := n6_; clear n0_ n1_ n2_ n3_ n4_ n5_ n6_; clear hb hbox hg) | ((with_reducible refine gate_dst (N := 5) rfl ?_); refine box_event ?hg (N := 5) ?hd (cs := #[.int .u8 a2_0, .string a2_1]) (t := 28) ?hr ?_; (case hd => rfl); (case hg => rfl); (case hr => first | (go_simp; done) | (go_simp; rfl)); intro gb739 hg w10 hbox hb; have n0_ := Aside0.mk (blk_below (g := gb737) (o := .cells #[.int .u8 a0_0, .string a0_1] 28 (0, 0)) (by (with_reducible repeat (first | refine blk_drewN ?_ _ | refine blk_drew ?_ | refine blk_alloc ?_ _)); exact BK737.out) hb); have n1_ := Aside0.mk (blk_below (g := gb738) (o := .cells #[.int .u8 a1_0, .string a1_1] 28 (0, 0)) (by (with_reducible repeat (first | refine blk_drewN ?_ _ | refine blk_drew ?_ | refine blk_alloc ?_ _)); exact BK738.out) hb); have n2_ := Aside0.mk (below_step (by repeat (first | (with_reducible first | exact HB.out | apply below_alloc | apply pw_below_drewN | apply below_drew1 | refine below_set ?_ GE737.out | refine below_set ?_ GE738.out) | exact HB.out)) hb); have n3_ := Aside0.mk (hbox); have n4_ := Aside0.mk ((by rw [hg]; exact (below_size (by repeat (first | (with_reducible first | exact HB.out | apply below_alloc | apply pw_below_drewN | apply below_drew1 | refine below_set ?_ GE737.out | refine below_set ?_ GE738.out) | exact HB.out))) : w.heap.size ≤ gb739)); have n5_ := Aside0.mk ((by rw [hg]; exact (below_size (by repeat (first | (with_reducible first | exact HB.out | apply below_alloc | apply pw_below_drewN | apply below_drew1 | refine below_set ?_ GE737.out | refine below_set ?_ GE738.out) | exact HB.out))) : w.heap.size ≤ gb739)); have n6_ := Aside0.mk ((by rw [hg]; exact Nat.ne_of_lt (blk_lt (g := gb737) (o := .cells #[.int .u8 a0_0, .string a0_1] 28 (0, 0)) (by (with_reducible repeat (first | refine blk_drewN ?_ _ | refine blk_drew ?_ | refine blk_alloc ?_ _)); exact BK737.out)) : gb737 ≠ gb739)); have n7_ := Aside0.mk ((by rw [hg]; exact Nat.ne_of_gt (blk_lt (g := gb737) (o := .cells #[.int .u8 a0_0, .string a0_1] 28 (0, 0)) (by (with_reducible repeat (first | refine blk_drewN ?_ _ | refine blk_drew ?_ | refine blk_alloc ?_ _)); exact BK737.out)) : gb739 ≠ gb737)); have n8_ := Aside0.mk ((by rw [hg]; exact Nat.ne_of_lt (blk_lt (g := gb738) (o := .cells #[.int .u8 a1_0, .string a1_1] 28 (0, 0)) (by (with_reducible repeat (first | refine blk_drewN ?_ _ | refine blk_drew ?_ | refine blk_alloc ?_ _)); exact BK738.out)) : gb738 ≠ gb739)); have n9_ := Aside0.mk ((by rw [hg]; exact Nat.ne_of_gt (blk_lt (g := gb738) (o := .cells #[.int .u8 a1_0, .string a1_1] 28 (0, 0)) (by (with_reducible repeat (first | refine blk_drewN ?_ _ | refine blk_drew ?_ | refine blk_alloc ?_ _)); exact BK738.out)) : gb739 ≠ gb738)); clear BK737; clear BK738; clear HB; have BK737 := n0_; have BK738 := n1_; have HB := n2_; have BK739 := n3_; have GW739 := n4_; have GE739 := n5_; have NB737_739 := n6_; have NB739_737 := n7_; have NB738_739 := n8_; have NB739_738 := n9_; clear n0_ n1_ n2_ n3_ n4_ n5_ n6_ n7_ n8_ n9_; clear hb hbox hg) | ((with_reducible refine gate_callee (f := 13) rfl ?_); refine goesL_ (some 11) rfl rfl Try.func13 (by kernel_rfl) rfl #[] rfl (by (try simp only [List.map_toArray, List.map_cons, List.map_nil]); first | done | rfl | (simp only [List.length_drop, List.length_take]; rfl) | (rw [IntKind.wrap_u64, Int.emod_eq_of_lt (by omega) (by omega)]; rfl)) ?_; (with_reducible refine (tidemarklaw04_shown.calls  t740 _ A4.out).mono ?_); rintro e w11 ⟨rfl, hb⟩; refine ⟨_, rfl, ?_⟩; have n0_ := Aside0.mk (blk_below (g := gb737) (o := .cells #[.int .u8 a0_0, .string a0_1] 28 (0, 0)) (by (with_reducible repeat (first | refine blk_drewN ?_ _ | refine blk_drew ?_ | refine blk_alloc ?_ _)); exact BK737.out) hb); have n1_ := Aside0.mk (blk_below (g := gb738) (o := .cells #[.int .u8 a1_0, .string a1_1] 28 (0, 0)) (by (with_reducible repeat (first | refine blk_drewN ?_ _ | refine blk_drew ?_ | refine blk_alloc ?_ _)); exact BK738.out) hb); have n2_ := Aside0.mk (blk_below (g := gb739) (o := .cells #[.int .u8 a2_0, .string a2_1] 28 (0, 0)) (by (with_reducible repeat (first | refine blk_drewN ?_ _ | refine blk_drew ?_ | refine blk_alloc ?_ _)); exact BK739.out) hb); have n3_ := Aside0.mk (below_step (by repeat (first | (with_reducible first | exact HB.out | apply below_alloc | apply pw_below_drewN | apply below_drew1 | refine below_set ?_ GE737.out | refine below_set ?_ GE738.out | refine below_set ?_ GE739.out) | exact HB.out)) hb); clear BK737; clear BK738; clear BK739; clear HB; have BK737 := n0_; have BK738 := n1_; have BK739 := n2_; have HB := n3_; clear n0_ n1_ n2_ n3_; (try clear hb); (try clear hb2); (try clear hk); (try clear hi); have hnb12 := NB737_738.out; have hnc12 := NB738_737.out; have hnb13 := NB737_739.out; have hnc13 := NB739_737.out; have hcz14_0 : w11.cell? ⟨gb737, 0, none⟩ = some (.int .u8 a0_0) := (blk_cell BK737.out 0).trans rfl; have hcz14_1 : w11.cell? ⟨gb737, 1, none⟩ = some (.string a0_1) := (blk_cell BK737.out 1).trans rfl; have hfz14_0 := blk_frozen BK737.out 0; have hfz14_1 := blk_frozen BK737.out 1; have hnb15 := NB738_739.out; have hnc15 := NB739_738.out; have hcz16_0 : w11.cell? ⟨gb738, 0, none⟩ = some (.int .u8 a1_0) := (blk_cell BK738.out 0).trans rfl; have hcz16_1 : w11.cell? ⟨gb738, 1, none⟩ = some (.string a1_1) := (blk_cell BK738.out 1).trans rfl; have hfz16_0 := blk_frozen BK738.out 0; have hfz16_1 := blk_frozen BK738.out 1) | ((with_reducible refine gate_callee (f := 22) rfl ?_); refine goesL_ (some 14) rfl rfl Try.func22 (by kernel_rfl) rfl #[.agg #[.int .u8 a0_0, .string a0_1], .agg #[.int .u8 a1_0, .string a1_1]] rfl (by (try simp only [List.map_toArray, List.map_cons, List.map_nil]); first | done | rfl | (simp only [List.length_drop, List.length_take]; rfl) | (rw [IntKind.wrap_u64, Int.emod_eq_of_lt (by omega) (by omega)]; rfl)) ?_; (with_reducible refine (codec_Less.calls k a0_0 a0_1 a1_0 a1_1 t741 _ A5.out).mono ?_); rintro e w17 ⟨rfl, hb⟩; refine ⟨_, rfl, ?_⟩; have n0_ := Aside0.mk (blk_below (g := gb737) (o := .cells #[.int .u8 a0_0, .string a0_1] 28 (0, 0)) (by (with_reducible repeat (first | refine blk_drewN ?_ _ | refine blk_drew ?_ | refine blk_alloc ?_ _)); exact BK737.out) hb); have n1_ := Aside0.mk (blk_below (g := gb738) (o := .cells #[.int .u8 a1_0, .string a1_1] 28 (0, 0)) (by (with_reducible repeat (first | refine blk_drewN ?_ _ | refine blk_drew ?_ | refine blk_alloc ?_ _)); exact BK738.out) hb); have n2_ := Aside0.mk (blk_below (g := gb739) (o := .cells #[.int .u8 a2_0, .string a2_1] 28 (0, 0)) (by (with_reducible repeat (first | refine blk_drewN ?_ _ | refine blk_drew ?_ | refine blk_alloc ?_ _)); exact BK739.out) hb); have n3_ := Aside0.mk (below_step (by repeat (first | (with_reducible first | exact HB.out | apply below_alloc | apply pw_below_drewN | apply below_drew1 | refine below_set ?_ GE737.out | refine below_set ?_ GE738.out | refine below_set ?_ GE739.out) | exact HB.out)) hb); clear BK737; clear BK738; clear BK739; clear HB; have BK737 := n0_; have BK738 := n1_; have BK739 := n2_; have HB := n3_; clear n0_ n1_ n2_ n3_; (try clear hb); (try clear hb2); (try clear hk); (try clear hi); have hcz18_0 : w17.cell? ⟨gb738, 0, none⟩ = some (.int .u8 a1_0) := (blk_cell BK738.out 0).trans rfl; have hcz18_1 : w17.cell? ⟨gb738, 1, none⟩ = some (.string a1_1) := (blk_cell BK738.out 1).trans rfl; have hfz18_0 := blk_frozen BK738.out 0; have hfz18_1 := blk_frozen BK738.out 1; have hcz19_0 : w17.cell? ⟨gb737, 0, none⟩ = some (.int .u8 a0_0) := (blk_cell BK737.out 0).trans rfl; have hcz19_1 : w17.cell? ⟨gb737, 1, none⟩ = some (.string a0_1) := (blk_cell BK737.out 1).trans rfl; have hfz19_0 := blk_frozen BK737.out 0; have hfz19_1 := blk_frozen BK737.out 1) | ((with_reducible refine gate_callee (f := 22) rfl ?_); refine goesL_ (some 17) rfl rfl Try.func22 (by kernel_rfl) rfl #[.agg #[.int .u8 a1_0, .string a1_1], .agg #[.int .u8 a0_0, .string a0_1]] rfl (by (try simp only [List.map_toArray, List.map_cons, List.map_nil]); first | done | rfl | (simp only [List.length_drop, List.length_take]; rfl) | (rw [IntKind.wrap_u64, Int.emod_eq_of_lt (by omega) (by omega)]; rfl)) ?_; (with_reducible refine (codec_Less.calls k a1_0 a1_1 a0_0 a0_1 t742 _ A6.out).mono ?_); rintro e w20 ⟨rfl, hb⟩; refine ⟨_, rfl, ?_⟩; have n0_ := Aside0.mk (blk_below (g := gb737) (o := .cells #[.int .u8 a0_0, .string a0_1] 28 (0, 0)) (by (with_reducible repeat (first | refine blk_drewN ?_ _ | refine blk_drew ?_ | refine blk_alloc ?_ _)); exact BK737.out) hb); have n1_ := Aside0.mk (blk_below (g := gb738) (o := .cells #[.int .u8 a1_0, .string a1_1] 28 (0, 0)) (by (with_reducible repeat (first | refine blk_drewN ?_ _ | refine blk_drew ?_ | refine blk_alloc ?_ _)); exact BK738.out) hb); have n2_ := Aside0.mk (blk_below (g := gb739) (o := .cells #[.int .u8 a2_0, .string a2_1] 28 (0, 0)) (by (with_reducible repeat (first | refine blk_drewN ?_ _ | refine blk_drew ?_ | refine blk_alloc ?_ _)); exact BK739.out) hb); have n3_ := Aside0.mk (below_step (by repeat (first | (with_reducible first | exact HB.out | apply below_alloc | apply pw_below_drewN | apply below_drew1 | refine below_set ?_ GE737.out | refine below_set ?_ GE738.out | refine below_set ?_ GE739.out) | exact HB.out)) hb); clear BK737; clear BK738; clear BK739; clear HB; have BK737 := n0_; have BK738 := n1_; have BK739 := n2_; have HB := n3_; clear n0_ n1_ n2_ n3_; (try clear hb); (try clear hb2); (try clear hk); (try clear hi)))
  (try simp only [Act.put, List.setIfInBounds_toArray, List.set_cons_zero, List.set_cons_succ])
  go_cut [45] (fun v45 wc => ∃ (kq : Nat) (x45_6 : Bool), v45 = .bool x45_6 ∧ Aside0 (tidemarklaw04_CodecOrder.j0 kq t740 x45_6 a0_0 a0_1 = some r) ∧ Aside0 (kq ≤ k) ∧ Aside0 (wc.heap[gb737]? = some (.cells #[.int .u8 a0_0, .string a0_1] 28 (0, 0))) ∧ Aside0 (wc.heap[gb738]? = some (.cells #[.int .u8 a1_0, .string a1_1] 28 (0, 0))) ∧ Aside0 (wc.heap[gb739]? = some (.cells #[.int .u8 a2_0, .string a2_1] 28 (0, 0))) ∧ Aside0 (Below w.heap.size w wc))
  case first =>
    have H := HC7.out
    clear HC7
    by_cases c21 : t741 = true
    · subst c21
      have H1 : (if t742 = true then (tidemarklaw04_CodecOrder.j0 k t740 true a0_0 a0_1) else (if (true == (a0_0 == a1_0 && (a0_1.toList == a1_1.toList))) = true then (tidemarklaw04_CodecOrder.j0 k t740 true a0_0 a0_1) else ((codec_Less.f k a1_0 a1_1 a2_0 a2_1).bind fun t743 => (if t743 = true then ((codec_Less.f k a0_0 a0_1 a2_0 a2_1).bind fun t744 => (tidemarklaw04_CodecOrder.j0 k t740 (!t744) a0_0 a0_1)) else (tidemarklaw04_CodecOrder.j0 k t740 false a0_0 a0_1))))) = some r := by rw [if_pos rfl] at H; exact H
      clear H
      have H := H1
      clear H1
      by_cases c22 : t742 = true
      · subst c22
        have H1 : (tidemarklaw04_CodecOrder.j0 k t740 true a0_0 a0_1) = some r := by rw [if_pos rfl] at H; exact H
        clear H
        have H := H1
        clear H1
        have H' := Aside0.mk H
        clear H
        go_wp2
        go_meet
        case rel => exact ⟨_, (true), (by first | rfl | (simp; done) | (simp [*]; done)), H', ⟨by first | omega | exact Nat.le_refl _⟩, ⟨by (with_reducible repeat (first | refine blk_drewN ?_ _ | refine blk_drew ?_ | refine blk_alloc ?_ _)); exact BK737.out⟩, ⟨by (with_reducible repeat (first | refine blk_drewN ?_ _ | refine blk_drew ?_ | refine blk_alloc ?_ _)); exact BK738.out⟩, ⟨by (with_reducible repeat (first | refine blk_drewN ?_ _ | refine blk_drew ?_ | refine blk_alloc ?_ _)); exact BK739.out⟩, ⟨by repeat (first | (with_reducible first | exact HB.out | apply below_alloc | apply pw_below_drewN | apply below_drew1 | refine below_set ?_ GE737.out | refine below_set ?_ GE738.out | refine below_set ?_ GE739.out) | exact HB.out)⟩⟩
      · replace c22 := Bool.eq_false_iff.mpr c22
        subst c22
        have H1 : (if (true == (a0_0 == a1_0 && (a0_1.toList == a1_1.toList))) = true then (tidemarklaw04_CodecOrder.j0 k t740 true a0_0 a0_1) else ((codec_Less.f k a1_0 a1_1 a2_0 a2_1).bind fun t743 => (if t743 = true then ((codec_Less.f k a0_0 a0_1 a2_0 a2_1).bind fun t744 => (tidemarklaw04_CodecOrder.j0 k t740 (!t744) a0_0 a0_1)) else (tidemarklaw04_CodecOrder.j0 k t740 false a0_0 a0_1)))) = some r := by rw [if_neg (show ¬ (false = true) by decide)] at H; exact H
        clear H
        have H := H1
        clear H1
        by_cases c23 : (true == (a0_0 == a1_0 && (a0_1.toList == a1_1.toList))) = true
        · rw [if_pos c23] at H
          have c23b0 : (true == (a0_0 == a1_0 && (a0_1.toList == a1_1.toList))) = true := c23
          (try (have c23b1 : decide (true = (a0_0 == a1_0 && (a0_1.toList == a1_1.toList))) = true := by simpa using c23))
          (try (have c23b2 : (true == (a0_0 == a1_0 && (a0_1.toList == a1_1.toList))) = true := by simpa using c23))
          clear c23
          (first | rw [c23b0] | (simp only [i64_w, i32_w]; rw [c23b0]) | skip)
          have H' := Aside0.mk H
          clear H
          have hnb24 := NB737_738.out
          have hnc24 := NB738_737.out
          have hnb25 := NB737_739.out
          have hnc25 := NB739_737.out
          have hcz26_0 : w20.cell? ⟨gb737, 0, none⟩ = some (.int .u8 a0_0) := (blk_cell BK737.out 0).trans rfl
          have hcz26_1 : w20.cell? ⟨gb737, 1, none⟩ = some (.string a0_1) := (blk_cell BK737.out 1).trans rfl
          have hfz26_0 := blk_frozen BK737.out 0
          have hfz26_1 := blk_frozen BK737.out 1
          have hnb27 := NB738_739.out
          have hnc27 := NB739_738.out
          have hcz28_0 : w20.cell? ⟨gb738, 0, none⟩ = some (.int .u8 a1_0) := (blk_cell BK738.out 0).trans rfl
          have hcz28_1 : w20.cell? ⟨gb738, 1, none⟩ = some (.string a1_1) := (blk_cell BK738.out 1).trans rfl
          have hfz28_0 := blk_frozen BK738.out 0
          have hfz28_1 := blk_frozen BK738.out 1
          go_wp2
          go_meet
          case rel => exact ⟨_, (true), (by first | rfl | (simp; done) | (simp [*]; done)), H', ⟨by first | omega | exact Nat.le_refl _⟩, ⟨by (with_reducible repeat (first | refine blk_drewN ?_ _ | refine blk_drew ?_ | refine blk_alloc ?_ _)); exact BK737.out⟩, ⟨by (with_reducible repeat (first | refine blk_drewN ?_ _ | refine blk_drew ?_ | refine blk_alloc ?_ _)); exact BK738.out⟩, ⟨by (with_reducible repeat (first | refine blk_drewN ?_ _ | refine blk_drew ?_ | refine blk_alloc ?_ _)); exact BK739.out⟩, ⟨by repeat (first | (with_reducible first | exact HB.out | apply below_alloc | apply pw_below_drewN | apply below_drew1 | refine below_set ?_ GE737.out | refine below_set ?_ GE738.out | refine below_set ?_ GE739.out) | exact HB.out)⟩⟩
        · rw [if_neg c23] at H
          have c23b0 : (true == (a0_0 == a1_0 && (a0_1.toList == a1_1.toList))) = false := by simpa using c23
          (try (have c23b1 : decide (true = (a0_0 == a1_0 && (a0_1.toList == a1_1.toList))) = false := by simpa using c23))
          (try (have c23b2 : (true == (a0_0 == a1_0 && (a0_1.toList == a1_1.toList))) = false := by simpa using c23))
          (try (have c23b3 : ¬ (true = (a0_0 == a1_0 && (a0_1.toList == a1_1.toList))) := by simpa using c23))
          clear c23
          (first | rw [c23b0] | (simp only [i64_w, i32_w]; rw [c23b0]) | skip)
          replace H := Option.bind_eq_some_iff.mp H
          obtain ⟨t743, A290, H⟩ := H
          replace H : (if t743 = true then ((codec_Less.f k a0_0 a0_1 a2_0 a2_1).bind fun t744 => (tidemarklaw04_CodecOrder.j0 k t740 (!t744) a0_0 a0_1)) else (tidemarklaw04_CodecOrder.j0 k t740 false a0_0 a0_1)) = some r := H
          have A29 := Aside0.mk A290
          clear A290
          by_cases c30 : t743 = true
          · subst c30
            have H1 : ((codec_Less.f k a0_0 a0_1 a2_0 a2_1).bind fun t744 => (tidemarklaw04_CodecOrder.j0 k t740 (!t744) a0_0 a0_1)) = some r := by rw [if_pos rfl] at H; exact H
            clear H
            have H := H1
            clear H1
            replace H := Option.bind_eq_some_iff.mp H
            obtain ⟨t744, A310, H⟩ := H
            replace H : (tidemarklaw04_CodecOrder.j0 k t740 (!t744) a0_0 a0_1) = some r := H
            have A31 := Aside0.mk A310
            clear A310
            have H' := Aside0.mk H
            clear H
            have hnb32 := NB737_738.out
            have hnc32 := NB738_737.out
            have hnb33 := NB737_739.out
            have hnc33 := NB739_737.out
            have hcz34_0 : w20.cell? ⟨gb737, 0, none⟩ = some (.int .u8 a0_0) := (blk_cell BK737.out 0).trans rfl
            have hcz34_1 : w20.cell? ⟨gb737, 1, none⟩ = some (.string a0_1) := (blk_cell BK737.out 1).trans rfl
            have hfz34_0 := blk_frozen BK737.out 0
            have hfz34_1 := blk_frozen BK737.out 1
            have hnb35 := NB738_739.out
            have hnc35 := NB739_738.out
            have hcz36_0 : w20.cell? ⟨gb738, 0, none⟩ = some (.int .u8 a1_0) := (blk_cell BK738.out 0).trans rfl
            have hcz36_1 : w20.cell? ⟨gb738, 1, none⟩ = some (.string a1_1) := (blk_cell BK738.out 1).trans rfl
            have hfz36_0 := blk_frozen BK738.out 0
            have hfz36_1 := blk_frozen BK738.out 1
            have hcz37_0 : w20.cell? ⟨gb739, 0, none⟩ = some (.int .u8 a2_0) := (blk_cell BK739.out 0).trans rfl
            have hcz37_1 : w20.cell? ⟨gb739, 1, none⟩ = some (.string a2_1) := (blk_cell BK739.out 1).trans rfl
            have hfz37_0 := blk_frozen BK739.out 0
            have hfz37_1 := blk_frozen BK739.out 1
            go_wp2_with (first | (go_at_call 22; (with_reducible refine (codec_Less.calls k a1_0 a1_1 a2_0 a2_1 true _ A29.out).mono ?_); rintro e w38 ⟨rfl, hb⟩; have n0_ := Aside0.mk (blk_below (g := gb737) (o := .cells #[.int .u8 a0_0, .string a0_1] 28 (0, 0)) (by (with_reducible repeat (first | refine blk_drewN ?_ _ | refine blk_drew ?_ | refine blk_alloc ?_ _)); exact BK737.out) hb); have n1_ := Aside0.mk (blk_below (g := gb738) (o := .cells #[.int .u8 a1_0, .string a1_1] 28 (0, 0)) (by (with_reducible repeat (first | refine blk_drewN ?_ _ | refine blk_drew ?_ | refine blk_alloc ?_ _)); exact BK738.out) hb); have n2_ := Aside0.mk (blk_below (g := gb739) (o := .cells #[.int .u8 a2_0, .string a2_1] 28 (0, 0)) (by (with_reducible repeat (first | refine blk_drewN ?_ _ | refine blk_drew ?_ | refine blk_alloc ?_ _)); exact BK739.out) hb); have n3_ := Aside0.mk (below_step (by repeat (first | (with_reducible first | exact HB.out | apply below_alloc | apply pw_below_drewN | apply below_drew1 | refine below_set ?_ GE737.out | refine below_set ?_ GE738.out | refine below_set ?_ GE739.out) | exact HB.out)) hb); clear BK737; clear BK738; clear BK739; clear HB; have BK737 := n0_; have BK738 := n1_; have BK739 := n2_; have HB := n3_; clear n0_ n1_ n2_ n3_; (try clear hb); (try clear hb2); (try clear hk); (try clear hi); have hcz39_0 : w38.cell? ⟨gb737, 0, none⟩ = some (.int .u8 a0_0) := (blk_cell BK737.out 0).trans rfl; have hcz39_1 : w38.cell? ⟨gb737, 1, none⟩ = some (.string a0_1) := (blk_cell BK737.out 1).trans rfl; have hfz39_0 := blk_frozen BK737.out 0; have hfz39_1 := blk_frozen BK737.out 1; have hcz40_0 : w38.cell? ⟨gb739, 0, none⟩ = some (.int .u8 a2_0) := (blk_cell BK739.out 0).trans rfl; have hcz40_1 : w38.cell? ⟨gb739, 1, none⟩ = some (.string a2_1) := (blk_cell BK739.out 1).trans rfl; have hfz40_0 := blk_frozen BK739.out 0; have hfz40_1 := blk_frozen BK739.out 1) | (go_at_call 22; (with_reducible refine (codec_Less.calls k a0_0 a0_1 a2_0 a2_1 t744 _ A31.out).mono ?_); rintro e w41 ⟨rfl, hb⟩; have n0_ := Aside0.mk (blk_below (g := gb737) (o := .cells #[.int .u8 a0_0, .string a0_1] 28 (0, 0)) (by (with_reducible repeat (first | refine blk_drewN ?_ _ | refine blk_drew ?_ | refine blk_alloc ?_ _)); exact BK737.out) hb); have n1_ := Aside0.mk (blk_below (g := gb738) (o := .cells #[.int .u8 a1_0, .string a1_1] 28 (0, 0)) (by (with_reducible repeat (first | refine blk_drewN ?_ _ | refine blk_drew ?_ | refine blk_alloc ?_ _)); exact BK738.out) hb); have n2_ := Aside0.mk (blk_below (g := gb739) (o := .cells #[.int .u8 a2_0, .string a2_1] 28 (0, 0)) (by (with_reducible repeat (first | refine blk_drewN ?_ _ | refine blk_drew ?_ | refine blk_alloc ?_ _)); exact BK739.out) hb); have n3_ := Aside0.mk (below_step (by repeat (first | (with_reducible first | exact HB.out | apply below_alloc | apply pw_below_drewN | apply below_drew1 | refine below_set ?_ GE737.out | refine below_set ?_ GE738.out | refine below_set ?_ GE739.out) | exact HB.out)) hb); clear BK737; clear BK738; clear BK739; clear HB; have BK737 := n0_; have BK738 := n1_; have BK739 := n2_; have HB := n3_; clear n0_ n1_ n2_ n3_; (try clear hb); (try clear hb2); (try clear hk); (try clear hi)))
            go_meet
            case rel => exact ⟨_, (!t744), (by first | rfl | (simp; done) | (simp [*]; done)), H', ⟨by first | omega | exact Nat.le_refl _⟩, ⟨by (with_reducible repeat (first | refine blk_drewN ?_ _ | refine blk_drew ?_ | refine blk_alloc ?_ _)); exact BK737.out⟩, ⟨by (with_reducible repeat (first | refine blk_drewN ?_ _ | refine blk_drew ?_ | refine blk_alloc ?_ _)); exact BK738.out⟩, ⟨by (with_reducible repeat (first | refine blk_drewN ?_ _ | refine blk_drew ?_ | refine blk_alloc ?_ _)); exact BK739.out⟩, ⟨by repeat (first | (with_reducible first | exact HB.out | apply below_alloc | apply pw_below_drewN | apply below_drew1 | refine below_set ?_ GE737.out | refine below_set ?_ GE738.out | refine below_set ?_ GE739.out) | exact HB.out)⟩⟩
          · replace c30 := Bool.eq_false_iff.mpr c30
            subst c30
            have H1 : (tidemarklaw04_CodecOrder.j0 k t740 false a0_0 a0_1) = some r := by rw [if_neg (show ¬ (false = true) by decide)] at H; exact H
            clear H
            have H := H1
            clear H1
            have H' := Aside0.mk H
            clear H
            have hnb42 := NB737_738.out
            have hnc42 := NB738_737.out
            have hnb43 := NB737_739.out
            have hnc43 := NB739_737.out
            have hcz44_0 : w20.cell? ⟨gb737, 0, none⟩ = some (.int .u8 a0_0) := (blk_cell BK737.out 0).trans rfl
            have hcz44_1 : w20.cell? ⟨gb737, 1, none⟩ = some (.string a0_1) := (blk_cell BK737.out 1).trans rfl
            have hfz44_0 := blk_frozen BK737.out 0
            have hfz44_1 := blk_frozen BK737.out 1
            have hnb45 := NB738_739.out
            have hnc45 := NB739_738.out
            have hcz46_0 : w20.cell? ⟨gb738, 0, none⟩ = some (.int .u8 a1_0) := (blk_cell BK738.out 0).trans rfl
            have hcz46_1 : w20.cell? ⟨gb738, 1, none⟩ = some (.string a1_1) := (blk_cell BK738.out 1).trans rfl
            have hfz46_0 := blk_frozen BK738.out 0
            have hfz46_1 := blk_frozen BK738.out 1
            have hcz47_0 : w20.cell? ⟨gb739, 0, none⟩ = some (.int .u8 a2_0) := (blk_cell BK739.out 0).trans rfl
            have hcz47_1 : w20.cell? ⟨gb739, 1, none⟩ = some (.string a2_1) := (blk_cell BK739.out 1).trans rfl
            have hfz47_0 := blk_frozen BK739.out 0
            have hfz47_1 := blk_frozen BK739.out 1
            go_wp2_with (first | (go_at_call 22; (with_reducible refine (codec_Less.calls k a1_0 a1_1 a2_0 a2_1 false _ A29.out).mono ?_); rintro e w48 ⟨rfl, hb⟩; have n0_ := Aside0.mk (blk_below (g := gb737) (o := .cells #[.int .u8 a0_0, .string a0_1] 28 (0, 0)) (by (with_reducible repeat (first | refine blk_drewN ?_ _ | refine blk_drew ?_ | refine blk_alloc ?_ _)); exact BK737.out) hb); have n1_ := Aside0.mk (blk_below (g := gb738) (o := .cells #[.int .u8 a1_0, .string a1_1] 28 (0, 0)) (by (with_reducible repeat (first | refine blk_drewN ?_ _ | refine blk_drew ?_ | refine blk_alloc ?_ _)); exact BK738.out) hb); have n2_ := Aside0.mk (blk_below (g := gb739) (o := .cells #[.int .u8 a2_0, .string a2_1] 28 (0, 0)) (by (with_reducible repeat (first | refine blk_drewN ?_ _ | refine blk_drew ?_ | refine blk_alloc ?_ _)); exact BK739.out) hb); have n3_ := Aside0.mk (below_step (by repeat (first | (with_reducible first | exact HB.out | apply below_alloc | apply pw_below_drewN | apply below_drew1 | refine below_set ?_ GE737.out | refine below_set ?_ GE738.out | refine below_set ?_ GE739.out) | exact HB.out)) hb); clear BK737; clear BK738; clear BK739; clear HB; have BK737 := n0_; have BK738 := n1_; have BK739 := n2_; have HB := n3_; clear n0_ n1_ n2_ n3_; (try clear hb); (try clear hb2); (try clear hk); (try clear hi)))
            go_meet
            case rel => exact ⟨_, (false), (by first | rfl | (simp; done) | (simp [*]; done)), H', ⟨by first | omega | exact Nat.le_refl _⟩, ⟨by (with_reducible repeat (first | refine blk_drewN ?_ _ | refine blk_drew ?_ | refine blk_alloc ?_ _)); exact BK737.out⟩, ⟨by (with_reducible repeat (first | refine blk_drewN ?_ _ | refine blk_drew ?_ | refine blk_alloc ?_ _)); exact BK738.out⟩, ⟨by (with_reducible repeat (first | refine blk_drewN ?_ _ | refine blk_drew ?_ | refine blk_alloc ?_ _)); exact BK739.out⟩, ⟨by repeat (first | (with_reducible first | exact HB.out | apply below_alloc | apply pw_below_drewN | apply below_drew1 | refine below_set ?_ GE737.out | refine below_set ?_ GE738.out | refine below_set ?_ GE739.out) | exact HB.out)⟩⟩
    · replace c21 := Bool.eq_false_iff.mpr c21
      subst c21
      have H1 : (if (t742 == (a0_0 == a1_0 && (a0_1.toList == a1_1.toList))) = true then (tidemarklaw04_CodecOrder.j0 k t740 true a0_0 a0_1) else (tidemarklaw04_CodecOrder.j0 k t740 false a0_0 a0_1)) = some r := by rw [if_neg (show ¬ (false = true) by decide)] at H; exact H
      clear H
      have H := H1
      clear H1
      by_cases c49 : (t742 == (a0_0 == a1_0 && (a0_1.toList == a1_1.toList))) = true
      · rw [if_pos c49] at H
        have c49b0 : (t742 == (a0_0 == a1_0 && (a0_1.toList == a1_1.toList))) = true := c49
        (try (have c49b1 : decide (t742 = (a0_0 == a1_0 && (a0_1.toList == a1_1.toList))) = true := by simpa using c49))
        (try (have c49b2 : (t742 == (a0_0 == a1_0 && (a0_1.toList == a1_1.toList))) = true := by simpa using c49))
        clear c49
        have H' := Aside0.mk H
        clear H
        have hnb50 := NB737_738.out
        have hnc50 := NB738_737.out
        have hnb51 := NB737_739.out
        have hnc51 := NB739_737.out
        have hcz52_0 : w20.cell? ⟨gb737, 0, none⟩ = some (.int .u8 a0_0) := (blk_cell BK737.out 0).trans rfl
        have hcz52_1 : w20.cell? ⟨gb737, 1, none⟩ = some (.string a0_1) := (blk_cell BK737.out 1).trans rfl
        have hfz52_0 := blk_frozen BK737.out 0
        have hfz52_1 := blk_frozen BK737.out 1
        have hnb53 := NB738_739.out
        have hnc53 := NB739_738.out
        have hcz54_0 : w20.cell? ⟨gb738, 0, none⟩ = some (.int .u8 a1_0) := (blk_cell BK738.out 0).trans rfl
        have hcz54_1 : w20.cell? ⟨gb738, 1, none⟩ = some (.string a1_1) := (blk_cell BK738.out 1).trans rfl
        have hfz54_0 := blk_frozen BK738.out 0
        have hfz54_1 := blk_frozen BK738.out 1
        go_wp2
        go_meet
        case rel => exact ⟨_, (true), (by first | rfl | (simp; done) | (simp [*]; done)), H', ⟨by first | omega | exact Nat.le_refl _⟩, ⟨by (with_reducible repeat (first | refine blk_drewN ?_ _ | refine blk_drew ?_ | refine blk_alloc ?_ _)); exact BK737.out⟩, ⟨by (with_reducible repeat (first | refine blk_drewN ?_ _ | refine blk_drew ?_ | refine blk_alloc ?_ _)); exact BK738.out⟩, ⟨by (with_reducible repeat (first | refine blk_drewN ?_ _ | refine blk_drew ?_ | refine blk_alloc ?_ _)); exact BK739.out⟩, ⟨by repeat (first | (with_reducible first | exact HB.out | apply below_alloc | apply pw_below_drewN | apply below_drew1 | refine below_set ?_ GE737.out | refine below_set ?_ GE738.out | refine below_set ?_ GE739.out) | exact HB.out)⟩⟩
      · rw [if_neg c49] at H
        have c49b0 : (t742 == (a0_0 == a1_0 && (a0_1.toList == a1_1.toList))) = false := by simpa using c49
        (try (have c49b1 : decide (t742 = (a0_0 == a1_0 && (a0_1.toList == a1_1.toList))) = false := by simpa using c49))
        (try (have c49b2 : (t742 == (a0_0 == a1_0 && (a0_1.toList == a1_1.toList))) = false := by simpa using c49))
        (try (have c49b3 : ¬ (t742 = (a0_0 == a1_0 && (a0_1.toList == a1_1.toList))) := by simpa using c49))
        clear c49
        have H' := Aside0.mk H
        clear H
        have hnb55 := NB737_738.out
        have hnc55 := NB738_737.out
        have hnb56 := NB737_739.out
        have hnc56 := NB739_737.out
        have hcz57_0 : w20.cell? ⟨gb737, 0, none⟩ = some (.int .u8 a0_0) := (blk_cell BK737.out 0).trans rfl
        have hcz57_1 : w20.cell? ⟨gb737, 1, none⟩ = some (.string a0_1) := (blk_cell BK737.out 1).trans rfl
        have hfz57_0 := blk_frozen BK737.out 0
        have hfz57_1 := blk_frozen BK737.out 1
        have hnb58 := NB738_739.out
        have hnc58 := NB739_738.out
        have hcz59_0 : w20.cell? ⟨gb738, 0, none⟩ = some (.int .u8 a1_0) := (blk_cell BK738.out 0).trans rfl
        have hcz59_1 : w20.cell? ⟨gb738, 1, none⟩ = some (.string a1_1) := (blk_cell BK738.out 1).trans rfl
        have hfz59_0 := blk_frozen BK738.out 0
        have hfz59_1 := blk_frozen BK738.out 1
        go_wp2
        go_meet
        case rel => exact ⟨_, (false), (by first | rfl | (simp; done) | (simp [*]; done)), H', ⟨by first | omega | exact Nat.le_refl _⟩, ⟨by (with_reducible repeat (first | refine blk_drewN ?_ _ | refine blk_drew ?_ | refine blk_alloc ?_ _)); exact BK737.out⟩, ⟨by (with_reducible repeat (first | refine blk_drewN ?_ _ | refine blk_drew ?_ | refine blk_alloc ?_ _)); exact BK738.out⟩, ⟨by (with_reducible repeat (first | refine blk_drewN ?_ _ | refine blk_drew ?_ | refine blk_alloc ?_ _)); exact BK739.out⟩, ⟨by repeat (first | (with_reducible first | exact HB.out | apply below_alloc | apply pw_below_drewN | apply below_drew1 | refine below_set ?_ GE737.out | refine below_set ?_ GE738.out | refine below_set ?_ GE739.out) | exact HB.out)⟩⟩
  case rest =>
    clear HC7
    try clear c1
    try clear c2
    try clear p2
    try clear c3
    try clear c4
    try clear c5
    try clear c12
    try clear c13
    try clear c15
    try clear c21
    try clear c22
    try clear c23
    try clear c23b0
    try clear c23b1
    try clear c23b2
    try clear c24
    try clear c25
    try clear c27
    try clear c30
    try clear c32
    try clear c33
    try clear c35
    try clear c42
    try clear c43
    try clear c45
    try clear c49
    try clear c49b0
    try clear c49b1
    try clear c49b2
    try clear c50
    try clear c51
    try clear c53
    try clear c55
    try clear c56
    try clear c58
    try clear hcz14_0
    try clear hcz14_1
    try clear hcz16_0
    try clear hcz16_1
    try clear hcz18_0
    try clear hcz18_1
    try clear hcz19_0
    try clear hcz19_1
    try clear hcz26_0
    try clear hcz26_1
    try clear hcz28_0
    try clear hcz28_1
    try clear hcz34_0
    try clear hcz34_1
    try clear hcz36_0
    try clear hcz36_1
    try clear hcz37_0
    try clear hcz37_1
    try clear hcz39_0
    try clear hcz39_1
    try clear hcz40_0
    try clear hcz40_1
    try clear hcz44_0
    try clear hcz44_1
    try clear hcz46_0
    try clear hcz46_1
    try clear hcz47_0
    try clear hcz47_1
    try clear hcz52_0
    try clear hcz52_1
    try clear hcz54_0
    try clear hcz54_1
    try clear hcz57_0
    try clear hcz57_1
    try clear hcz59_0
    try clear hcz59_1
    try clear hfz14_0
    try clear hfz14_1
    try clear hfz16_0
    try clear hfz16_1
    try clear hfz18_0
    try clear hfz18_1
    try clear hfz19_0
    try clear hfz19_1
    try clear hfz26_0
    try clear hfz26_1
    try clear hfz28_0
    try clear hfz28_1
    try clear hfz34_0
    try clear hfz34_1
    try clear hfz36_0
    try clear hfz36_1
    try clear hfz37_0
    try clear hfz37_1
    try clear hfz39_0
    try clear hfz39_1
    try clear hfz40_0
    try clear hfz40_1
    try clear hfz44_0
    try clear hfz44_1
    try clear hfz46_0
    try clear hfz46_1
    try clear hfz47_0
    try clear hfz47_1
    try clear hfz52_0
    try clear hfz52_1
    try clear hfz54_0
    try clear hfz54_1
    try clear hfz57_0
    try clear hfz57_1
    try clear hfz59_0
    try clear hfz59_1
    obtain ⟨kq, x45_6, rfl, HA, HJ6, BK737, BK738, BK739, HB⟩ := hcut
    cases kq with
    | zero => exact absurd HA.out (by simp [tidemarklaw04_CodecOrder.j0])
    | succ kj6 =>
      have H := HA.out
      clear HA
      simp only [tidemarklaw04_CodecOrder.j0] at H
      by_cases c60 : x45_6 = true
      · subst c60
        have H1 : (some false) = some r := by rw [if_pos rfl] at H; exact H
        clear H
        have H := H1
        clear H1
        exact absurd ((Option.some.inj H).trans HRT.out) (by decide)
      · replace c60 := Bool.eq_false_iff.mpr c60
        subst c60
        have H1 : (if a0_1.size + 1 ≤ 9223372036854775807 then (if t740 = true then ((codec_Less.f kj6 a0_0 a0_1 a0_0 (a0_1 ++ (⟨#[120]⟩ : ByteArray))).bind fun t746 => (if t746 = true then ((codec_Less.f kj6 a0_0 (a0_1 ++ (⟨#[120]⟩ : ByteArray)) a0_0 a0_1).bind fun t747 => (if t747 = true then (some false) else ((codec_Less.f kj6 a0_0 a0_1 a0_0 a0_1).bind fun t748 => (some (!t748))))) else (some false))) else (some false)) else (none)) = some r := by rw [if_neg (show ¬ (false = true) by decide)] at H; exact H
        clear H
        have H := H1
        clear H1
        by_cases c61 : a0_1.size + 1 ≤ 9223372036854775807
        · rw [if_pos c61] at H
          have c61b0 := eq_true c61
          have c61b1 : decide (a0_1.size + 1 ≤ 9223372036854775807) = true := decide_eq_true c61
          try have c61b2 : (9223372036854775807 < a0_1.size + 1) = False := eq_false (Nat.not_lt.2 c61)
          try (have c61b3 := c61b2; simp only [ByteArray.size_append] at c61b3)
          by_cases c62 : t740 = true
          · subst c62
            have H1 : ((codec_Less.f kj6 a0_0 a0_1 a0_0 (a0_1 ++ (⟨#[120]⟩ : ByteArray))).bind fun t746 => (if t746 = true then ((codec_Less.f kj6 a0_0 (a0_1 ++ (⟨#[120]⟩ : ByteArray)) a0_0 a0_1).bind fun t747 => (if t747 = true then (some false) else ((codec_Less.f kj6 a0_0 a0_1 a0_0 a0_1).bind fun t748 => (some (!t748))))) else (some false))) = some r := by rw [if_pos rfl] at H; exact H
            clear H
            have H := H1
            clear H1
            replace H := Option.bind_eq_some_iff.mp H
            obtain ⟨t746, A630, H⟩ := H
            replace H : (if t746 = true then ((codec_Less.f kj6 a0_0 (a0_1 ++ (⟨#[120]⟩ : ByteArray)) a0_0 a0_1).bind fun t747 => (if t747 = true then (some false) else ((codec_Less.f kj6 a0_0 a0_1 a0_0 a0_1).bind fun t748 => (some (!t748))))) else (some false)) = some r := H
            have A63 := Aside0.mk A630
            clear A630
            by_cases c64 : t746 = true
            · subst c64
              have H1 : ((codec_Less.f kj6 a0_0 (a0_1 ++ (⟨#[120]⟩ : ByteArray)) a0_0 a0_1).bind fun t747 => (if t747 = true then (some false) else ((codec_Less.f kj6 a0_0 a0_1 a0_0 a0_1).bind fun t748 => (some (!t748))))) = some r := by rw [if_pos rfl] at H; exact H
              clear H
              have H := H1
              clear H1
              replace H := Option.bind_eq_some_iff.mp H
              obtain ⟨t747, A650, H⟩ := H
              replace H : (if t747 = true then (some false) else ((codec_Less.f kj6 a0_0 a0_1 a0_0 a0_1).bind fun t748 => (some (!t748)))) = some r := H
              have A65 := Aside0.mk A650
              clear A650
              by_cases c66 : t747 = true
              · subst c66
                have H1 : (some false) = some r := by rw [if_pos rfl] at H; exact H
                clear H
                have H := H1
                clear H1
                exact absurd ((Option.some.inj H).trans HRT.out) (by decide)
              · replace c66 := Bool.eq_false_iff.mpr c66
                subst c66
                have H1 : ((codec_Less.f kj6 a0_0 a0_1 a0_0 a0_1).bind fun t748 => (some (!t748))) = some r := by rw [if_neg (show ¬ (false = true) by decide)] at H; exact H
                clear H
                have H := H1
                clear H1
                replace H := Option.bind_eq_some_iff.mp H
                obtain ⟨t748, A670, H⟩ := H
                replace H : (some (!t748)) = some r := H
                have A67 := Aside0.mk A670
                clear A670
                obtain rfl := Option.some.inj H
                have hnb68 := NB737_738.out
                have hnc68 := NB738_737.out
                have hnb69 := NB737_739.out
                have hnc69 := NB739_737.out
                have hcz70_0 : wc.cell? ⟨gb737, 0, none⟩ = some (.int .u8 a0_0) := (blk_cell BK737.out 0).trans rfl
                have hcz70_1 : wc.cell? ⟨gb737, 1, none⟩ = some (.string a0_1) := (blk_cell BK737.out 1).trans rfl
                have hfz70_0 := blk_frozen BK737.out 0
                have hfz70_1 := blk_frozen BK737.out 1
                go_wp2_with (first | ((with_reducible refine gate_dst (N := 10) rfl ?_); refine box_event ?hg (N := 10) ?hd (cs := #[.int .u8 0, .string (⟨#[]⟩ : ByteArray)]) (t := 28) ?hr ?_; (case hd => rfl); (case hg => rfl); (case hr => first | (go_simp; done) | (go_simp; rfl)); intro gb745 hg w71 hbox hb; have n0_ := Aside0.mk (blk_below (g := gb737) (o := .cells #[.int .u8 a0_0, .string a0_1] 28 (0, 0)) (by (with_reducible repeat (first | refine blk_drewN ?_ _ | refine blk_drew ?_ | refine blk_alloc ?_ _)); exact BK737.out) hb); have n1_ := Aside0.mk (blk_below (g := gb738) (o := .cells #[.int .u8 a1_0, .string a1_1] 28 (0, 0)) (by (with_reducible repeat (first | refine blk_drewN ?_ _ | refine blk_drew ?_ | refine blk_alloc ?_ _)); exact BK738.out) hb); have n2_ := Aside0.mk (blk_below (g := gb739) (o := .cells #[.int .u8 a2_0, .string a2_1] 28 (0, 0)) (by (with_reducible repeat (first | refine blk_drewN ?_ _ | refine blk_drew ?_ | refine blk_alloc ?_ _)); exact BK739.out) hb); have n3_ := Aside0.mk (below_step (by repeat (first | (with_reducible first | exact HB.out | apply below_alloc | apply pw_below_drewN | apply below_drew1 | refine below_set ?_ GE737.out | refine below_set ?_ GE738.out | refine below_set ?_ GE739.out) | exact HB.out)) hb); have n4_ := Aside0.mk (hbox); have n5_ := Aside0.mk ((by rw [hg]; exact (below_size (by repeat (first | (with_reducible first | exact HB.out | apply below_alloc | apply pw_below_drewN | apply below_drew1 | refine below_set ?_ GE737.out | refine below_set ?_ GE738.out | refine below_set ?_ GE739.out) | exact HB.out))) : w.heap.size ≤ gb745)); have n6_ := Aside0.mk ((by rw [hg]; exact (below_size (by repeat (first | (with_reducible first | exact HB.out | apply below_alloc | apply pw_below_drewN | apply below_drew1 | refine below_set ?_ GE737.out | refine below_set ?_ GE738.out | refine below_set ?_ GE739.out) | exact HB.out))) : w.heap.size ≤ gb745)); have n7_ := Aside0.mk ((by rw [hg]; exact Nat.ne_of_lt (blk_lt (g := gb737) (o := .cells #[.int .u8 a0_0, .string a0_1] 28 (0, 0)) (by (with_reducible repeat (first | refine blk_drewN ?_ _ | refine blk_drew ?_ | refine blk_alloc ?_ _)); exact BK737.out)) : gb737 ≠ gb745)); have n8_ := Aside0.mk ((by rw [hg]; exact Nat.ne_of_gt (blk_lt (g := gb737) (o := .cells #[.int .u8 a0_0, .string a0_1] 28 (0, 0)) (by (with_reducible repeat (first | refine blk_drewN ?_ _ | refine blk_drew ?_ | refine blk_alloc ?_ _)); exact BK737.out)) : gb745 ≠ gb737)); have n9_ := Aside0.mk ((by rw [hg]; exact Nat.ne_of_lt (blk_lt (g := gb738) (o := .cells #[.int .u8 a1_0, .string a1_1] 28 (0, 0)) (by (with_reducible repeat (first | refine blk_drewN ?_ _ | refine blk_drew ?_ | refine blk_alloc ?_ _)); exact BK738.out)) : gb738 ≠ gb745)); have n10_ := Aside0.mk ((by rw [hg]; exact Nat.ne_of_gt (blk_lt (g := gb738) (o := .cells #[.int .u8 a1_0, .string a1_1] 28 (0, 0)) (by (with_reducible repeat (first | refine blk_drewN ?_ _ | refine blk_drew ?_ | refine blk_alloc ?_ _)); exact BK738.out)) : gb745 ≠ gb738)); have n11_ := Aside0.mk ((by rw [hg]; exact Nat.ne_of_lt (blk_lt (g := gb739) (o := .cells #[.int .u8 a2_0, .string a2_1] 28 (0, 0)) (by (with_reducible repeat (first | refine blk_drewN ?_ _ | refine blk_drew ?_ | refine blk_alloc ?_ _)); exact BK739.out)) : gb739 ≠ gb745)); have n12_ := Aside0.mk ((by rw [hg]; exact Nat.ne_of_gt (blk_lt (g := gb739) (o := .cells #[.int .u8 a2_0, .string a2_1] 28 (0, 0)) (by (with_reducible repeat (first | refine blk_drewN ?_ _ | refine blk_drew ?_ | refine blk_alloc ?_ _)); exact BK739.out)) : gb745 ≠ gb739)); clear BK737; clear BK738; clear BK739; clear HB; have BK737 := n0_; have BK738 := n1_; have BK739 := n2_; have HB := n3_; have BK745 := n4_; have GW745 := n5_; have GE745 := n6_; have NB737_745 := n7_; have NB745_737 := n8_; have NB738_745 := n9_; have NB745_738 := n10_; have NB739_745 := n11_; have NB745_739 := n12_; clear n0_ n1_ n2_ n3_ n4_ n5_ n6_ n7_ n8_ n9_ n10_ n11_ n12_; clear hb hbox hg; have hnb72 := NB745_737.out; have hnc72 := NB737_745.out; have hnb73 := NB745_738.out; have hnc73 := NB738_745.out; have hnb74 := NB745_739.out; have hnc74 := NB739_745.out; have hcz75_0 : w71.cell? ⟨gb745, 0, none⟩ = some (.int .u8 0) := (blk_cell BK745.out 0).trans rfl; have hcz75_1 : w71.cell? ⟨gb745, 1, none⟩ = some (.string (⟨#[]⟩ : ByteArray)) := (blk_cell BK745.out 1).trans rfl; have hfz75_0 := blk_frozen BK745.out 0; have hfz75_1 := blk_frozen BK745.out 1; have hcz76_0 : w71.cell? ⟨gb737, 0, none⟩ = some (.int .u8 a0_0) := (blk_cell BK737.out 0).trans rfl; have hcz76_1 : w71.cell? ⟨gb737, 1, none⟩ = some (.string a0_1) := (blk_cell BK737.out 1).trans rfl; have hfz76_0 := blk_frozen BK737.out 0; have hfz76_1 := blk_frozen BK737.out 1) | (go_at_call 22; (with_reducible refine (codec_Less.calls kj6 a0_0 a0_1 a0_0 (a0_1 ++ (⟨#[120]⟩ : ByteArray)) true _ A63.out).mono ?_); rintro e w77 ⟨rfl, hb⟩; have n0_ := Aside0.mk (blk_below (g := gb737) (o := .cells #[.int .u8 a0_0, .string a0_1] 28 (0, 0)) (by (with_reducible repeat (first | refine blk_drewN ?_ _ | refine blk_drew ?_ | refine blk_alloc ?_ _)); refine blk_far ?_ NB737_745.out _; (with_reducible repeat (first | refine blk_drewN ?_ _ | refine blk_drew ?_ | refine blk_alloc ?_ _)); refine blk_far ?_ NB737_745.out _; (with_reducible repeat (first | refine blk_drewN ?_ _ | refine blk_drew ?_ | refine blk_alloc ?_ _)); exact BK737.out) hb); have n1_ := Aside0.mk (blk_below (g := gb738) (o := .cells #[.int .u8 a1_0, .string a1_1] 28 (0, 0)) (by (with_reducible repeat (first | refine blk_drewN ?_ _ | refine blk_drew ?_ | refine blk_alloc ?_ _)); refine blk_far ?_ NB738_745.out _; (with_reducible repeat (first | refine blk_drewN ?_ _ | refine blk_drew ?_ | refine blk_alloc ?_ _)); refine blk_far ?_ NB738_745.out _; (with_reducible repeat (first | refine blk_drewN ?_ _ | refine blk_drew ?_ | refine blk_alloc ?_ _)); exact BK738.out) hb); have n2_ := Aside0.mk (blk_below (g := gb739) (o := .cells #[.int .u8 a2_0, .string a2_1] 28 (0, 0)) (by (with_reducible repeat (first | refine blk_drewN ?_ _ | refine blk_drew ?_ | refine blk_alloc ?_ _)); refine blk_far ?_ NB739_745.out _; (with_reducible repeat (first | refine blk_drewN ?_ _ | refine blk_drew ?_ | refine blk_alloc ?_ _)); refine blk_far ?_ NB739_745.out _; (with_reducible repeat (first | refine blk_drewN ?_ _ | refine blk_drew ?_ | refine blk_alloc ?_ _)); exact BK739.out) hb); have n3_ := Aside0.mk (blk_below (g := gb745) (o := .cells #[.int .u8 a0_0, .string (a0_1 ++ (⟨#[120]⟩ : ByteArray))] 28 (0, 0)) (by (with_reducible repeat (first | refine blk_drewN ?_ _ | refine blk_drew ?_ | refine blk_alloc ?_ _)); refine blk_put (cs := #[.int .u8 a0_0, .string (⟨#[]⟩ : ByteArray)]) ?_ 1 _ rfl; (with_reducible repeat (first | refine blk_drewN ?_ _ | refine blk_drew ?_ | refine blk_alloc ?_ _)); refine blk_put (cs := #[.int .u8 0, .string (⟨#[]⟩ : ByteArray)]) ?_ 0 _ rfl; (with_reducible repeat (first | refine blk_drewN ?_ _ | refine blk_drew ?_ | refine blk_alloc ?_ _)); exact BK745.out) hb); have n4_ := Aside0.mk (below_step (by repeat (first | (with_reducible first | exact HB.out | apply below_alloc | apply pw_below_drewN | apply below_drew1 | refine below_set ?_ GE737.out | refine below_set ?_ GE738.out | refine below_set ?_ GE739.out | refine below_set ?_ GE745.out) | exact HB.out)) hb); clear BK737; clear BK738; clear BK739; clear BK745; clear HB; have BK737 := n0_; have BK738 := n1_; have BK739 := n2_; have BK745 := n3_; have HB := n4_; clear n0_ n1_ n2_ n3_ n4_; (try clear hb); (try clear hb2); (try clear hk); (try clear hi); have hcz78_0 : w77.cell? ⟨gb745, 0, none⟩ = some (.int .u8 a0_0) := (blk_cell BK745.out 0).trans rfl; have hcz78_1 : w77.cell? ⟨gb745, 1, none⟩ = some (.string (a0_1 ++ (⟨#[120]⟩ : ByteArray))) := (blk_cell BK745.out 1).trans rfl; have hfz78_0 := blk_frozen BK745.out 0; have hfz78_1 := blk_frozen BK745.out 1; have hcz79_0 : w77.cell? ⟨gb737, 0, none⟩ = some (.int .u8 a0_0) := (blk_cell BK737.out 0).trans rfl; have hcz79_1 : w77.cell? ⟨gb737, 1, none⟩ = some (.string a0_1) := (blk_cell BK737.out 1).trans rfl; have hfz79_0 := blk_frozen BK737.out 0; have hfz79_1 := blk_frozen BK737.out 1) | (go_at_call 22; (with_reducible refine (codec_Less.calls kj6 a0_0 (a0_1 ++ (⟨#[120]⟩ : ByteArray)) a0_0 a0_1 false _ A65.out).mono ?_); rintro e w80 ⟨rfl, hb⟩; have n0_ := Aside0.mk (blk_below (g := gb737) (o := .cells #[.int .u8 a0_0, .string a0_1] 28 (0, 0)) (by (with_reducible repeat (first | refine blk_drewN ?_ _ | refine blk_drew ?_ | refine blk_alloc ?_ _)); exact BK737.out) hb); have n1_ := Aside0.mk (blk_below (g := gb738) (o := .cells #[.int .u8 a1_0, .string a1_1] 28 (0, 0)) (by (with_reducible repeat (first | refine blk_drewN ?_ _ | refine blk_drew ?_ | refine blk_alloc ?_ _)); exact BK738.out) hb); have n2_ := Aside0.mk (blk_below (g := gb739) (o := .cells #[.int .u8 a2_0, .string a2_1] 28 (0, 0)) (by (with_reducible repeat (first | refine blk_drewN ?_ _ | refine blk_drew ?_ | refine blk_alloc ?_ _)); exact BK739.out) hb); have n3_ := Aside0.mk (blk_below (g := gb745) (o := .cells #[.int .u8 a0_0, .string (a0_1 ++ (⟨#[120]⟩ : ByteArray))] 28 (0, 0)) (by (with_reducible repeat (first | refine blk_drewN ?_ _ | refine blk_drew ?_ | refine blk_alloc ?_ _)); exact BK745.out) hb); have n4_ := Aside0.mk (below_step (by repeat (first | (with_reducible first | exact HB.out | apply below_alloc | apply pw_below_drewN | apply below_drew1 | refine below_set ?_ GE737.out | refine below_set ?_ GE738.out | refine below_set ?_ GE739.out | refine below_set ?_ GE745.out) | exact HB.out)) hb); clear BK737; clear BK738; clear BK739; clear BK745; clear HB; have BK737 := n0_; have BK738 := n1_; have BK739 := n2_; have BK745 := n3_; have HB := n4_; clear n0_ n1_ n2_ n3_ n4_; (try clear hb); (try clear hb2); (try clear hk); (try clear hi); have hcz81_0 : w80.cell? ⟨gb737, 0, none⟩ = some (.int .u8 a0_0) := (blk_cell BK737.out 0).trans rfl; have hcz81_1 : w80.cell? ⟨gb737, 1, none⟩ = some (.string a0_1) := (blk_cell BK737.out 1).trans rfl; have hfz81_0 := blk_frozen BK737.out 0; have hfz81_1 := blk_frozen BK737.out 1) | (go_at_call 22; (with_reducible refine (codec_Less.calls kj6 a0_0 a0_1 a0_0 a0_1 t748 _ A67.out).mono ?_); rintro e w82 ⟨rfl, hb⟩; have n0_ := Aside0.mk (blk_below (g := gb737) (o := .cells #[.int .u8 a0_0, .string a0_1] 28 (0, 0)) (by (with_reducible repeat (first | refine blk_drewN ?_ _ | refine blk_drew ?_ | refine blk_alloc ?_ _)); exact BK737.out) hb); have n1_ := Aside0.mk (blk_below (g := gb738) (o := .cells #[.int .u8 a1_0, .string a1_1] 28 (0, 0)) (by (with_reducible repeat (first | refine blk_drewN ?_ _ | refine blk_drew ?_ | refine blk_alloc ?_ _)); exact BK738.out) hb); have n2_ := Aside0.mk (blk_below (g := gb739) (o := .cells #[.int .u8 a2_0, .string a2_1] 28 (0, 0)) (by (with_reducible repeat (first | refine blk_drewN ?_ _ | refine blk_drew ?_ | refine blk_alloc ?_ _)); exact BK739.out) hb); have n3_ := Aside0.mk (blk_below (g := gb745) (o := .cells #[.int .u8 a0_0, .string (a0_1 ++ (⟨#[120]⟩ : ByteArray))] 28 (0, 0)) (by (with_reducible repeat (first | refine blk_drewN ?_ _ | refine blk_drew ?_ | refine blk_alloc ?_ _)); exact BK745.out) hb); have n4_ := Aside0.mk (below_step (by repeat (first | (with_reducible first | exact HB.out | apply below_alloc | apply pw_below_drewN | apply below_drew1 | refine below_set ?_ GE737.out | refine below_set ?_ GE738.out | refine below_set ?_ GE739.out | refine below_set ?_ GE745.out) | exact HB.out)) hb); clear BK737; clear BK738; clear BK739; clear BK745; clear HB; have BK737 := n0_; have BK738 := n1_; have BK739 := n2_; have BK745 := n3_; have HB := n4_; clear n0_ n1_ n2_ n3_ n4_; (try clear hb); (try clear hb2); (try clear hk); (try clear hi)))
                go_ret
                exact ⟨by first | rfl | (simp [errW_none, errW_some] <;> rfl) | (simp [*, errW_none, errW_some] <;> rfl), by repeat (first | (with_reducible first | exact HB.out | apply below_alloc | apply pw_below_drewN | apply below_drew1 | refine below_set ?_ GE737.out | refine below_set ?_ GE738.out | refine below_set ?_ GE739.out | refine below_set ?_ GE745.out) | exact HB.out)⟩
            · replace c64 := Bool.eq_false_iff.mpr c64
              subst c64
              have H1 : (some false) = some r := by rw [if_neg (show ¬ (false = true) by decide)] at H; exact H
              clear H
              have H := H1
              clear H1
              exact absurd ((Option.some.inj H).trans HRT.out) (by decide)
          · replace c62 := Bool.eq_false_iff.mpr c62
            subst c62
            have H1 : (some false) = some r := by rw [if_neg (show ¬ (false = true) by decide)] at H; exact H
            clear H
            have H := H1
            clear H1
            exact absurd ((Option.some.inj H).trans HRT.out) (by decide)
        · rw [if_neg c61] at H
          exact absurd H (by simp)

end Go.Proofs.Ytgmdoapedhppmaa.PC

/- What an argument's reading by its type says, kind by kind: whole numbers, bools, strings, structs of two and three, slices. -/
namespace Go.Proofs.Ytgmdoapedhppmaa.Op
set_option linter.unusedVariables false
set_option linter.unusedSimpArgs false
open Go.Proofs.YtgmdoapedhppmaaW.PrintWords
section
variable {H : Type} (enc : TypeId × Value → H) (P : Program) (W : World)
/-- Whatever reads by type t is of kind d, and F holds of it. -/
def Opens (t : TypeId) {α : Type} (d : Kd α) (F : α → Prop) : Prop :=
  ∀ (fuel : Nat) (cs : List Value) (x : DataW H × List MemPlace), DataW.trod enc P W 0 (fun _ => true) true fuel t cs = some x → (∀ n ∈ x.1.weights P t, n ≤ reachBytes) → ∃ v : α, d.K W v cs ∧ F v
variable {enc P W}
theorem opens_int {t : TypeId} {k : IntKind} (ht : P.underlying t = some (.int k)) : Opens enc P W t (Kd.int k) (fun n => (Lit.int k n).wf = true) := by
  intro fuel cs x h _
  obtain ⟨n, rfl, rfl, hn⟩ := DataW.trod_int ht h
  exact ⟨n, rfl, hn⟩
theorem opens_bool {t : TypeId} (ht : P.underlying t = some .bool) : Opens enc P W t Kd.bool (fun _ => True) := by
  intro fuel cs x h _
  obtain ⟨n, rfl, rfl⟩ := DataW.trod_bool ht h
  exact ⟨n, rfl, trivial⟩
theorem opens_string {t : TypeId} (ht : P.underlying t = some .string) : Opens enc P W t Kd.string (fun s => s.size ≤ 140737488351232) := by
  intro fuel cs x h hw
  obtain ⟨s, rfl, rfl, _⟩ := DataW.trod_string ht h
  refine ⟨s, rfl, ?_⟩
  have := hw s.data.toList.length (by simp [DataW.weights])
  simpa [reachBytes] using this
theorem opens_struct2 {t : TypeId} {f0 f1 : Field} {α0 α1 β : Type} {d0 : Kd α0} {d1 : Kd α1} {F0 : α0 → Prop} {F1 : α1 → Prop} (mk : α0 → α1 → β) (f : β → α0 × α1) (hf : ∀ a b, f (mk a b) = (a, b))
    (ht : P.underlying t = some (.struct #[f0, f1])) (o0 : f0.offset = 0) (o1 : f1.offset = d0.sz) (c0 : P.cellsOf f0.type = d0.sz) (c1 : P.cellsOf f1.type = d1.sz) (ct : P.cellsOf t = d0.sz + d1.sz)
    (h0 : Opens enc P W f0.type d0 F0) (h1 : Opens enc P W f1.type d1 F1) : Opens enc P W t (Kd.iso (Kd.pair d0 d1) f) (fun x => F0 (f x).1 ∧ F1 (f x).2) := by
  intro fuel cs x h hw
  obtain ⟨xs, n, _, rfl, hl, hlen, hg⟩ := DataW.trod_struct ht h
  match xs, hlen with
  | [y0, y1], _ =>
    have g0 := hg 0 f0 rfl
    have g1 := hg 1 f1 rfl
    simp only [o0, o1, c0, c1, List.drop_zero] at g0 g1
    have hws : ∀ n, (n ∈ y0.1.weights P f0.type ∨ n ∈ y1.1.weights P f1.type) → n ≤ reachBytes := fun n hn => hw n (by
      simp only [DataW.weights, ht, List.map_cons, List.map_nil, DataW.weightsEach, List.mem_append]
      rcases hn with hn | hn
      · exact .inl hn
      · exact .inr (.inl hn))
    obtain ⟨v0, k0, p0⟩ := h0 n _ y0 g0 (fun n hn => hws n (.inl hn))
    obtain ⟨v1, k1, p1⟩ := h1 n _ y1 g1 (fun n hn => hws n (.inr hn))
    refine ⟨mk v0 v1, ?_, by show F0 (f (mk v0 v1)).1 ∧ F1 (f (mk v0 v1)).2; rw [hf]; exact ⟨p0, p1⟩⟩
    show (Kd.pair d0 d1).K W (f (mk v0 v1)) cs
    rw [hf]
    refine ⟨_, _, ?_, k0, k1⟩
    have e1 : (cs.drop d0.sz).take d1.sz = cs.drop d0.sz := List.take_of_length_le (by rw [List.length_drop]; omega)
    rw [e1, List.take_append_drop]
theorem opens_struct3 {t : TypeId} {f0 f1 f2 : Field} {α0 α1 α2 β : Type} {d0 : Kd α0} {d1 : Kd α1} {d2 : Kd α2} {F0 : α0 → Prop} {F1 : α1 → Prop} {F2 : α2 → Prop} (mk : α0 → α1 → α2 → β) (f : β → α0 × α1 × α2) (hf : ∀ a b c, f (mk a b c) = (a, b, c))
    (ht : P.underlying t = some (.struct #[f0, f1, f2])) (o0 : f0.offset = 0) (o1 : f1.offset = d0.sz) (o2 : f2.offset = d0.sz + d1.sz) (c0 : P.cellsOf f0.type = d0.sz) (c1 : P.cellsOf f1.type = d1.sz) (c2 : P.cellsOf f2.type = d2.sz) (ct : P.cellsOf t = d0.sz + d1.sz + d2.sz)
    (h0 : Opens enc P W f0.type d0 F0) (h1 : Opens enc P W f1.type d1 F1) (h2 : Opens enc P W f2.type d2 F2) : Opens enc P W t (Kd.iso (Kd.pair d0 (Kd.pair d1 d2)) f) (fun x => F0 (f x).1 ∧ F1 (f x).2.1 ∧ F2 (f x).2.2) := by
  intro fuel cs x h hw
  obtain ⟨xs, n, _, rfl, hl, hlen, hg⟩ := DataW.trod_struct ht h
  match xs, hlen with
  | [y0, y1, y2], _ =>
    have g0 := hg 0 f0 rfl
    have g1 := hg 1 f1 rfl
    have g2 := hg 2 f2 rfl
    simp only [o0, o1, o2, c0, c1, c2, List.drop_zero] at g0 g1 g2
    have hws : ∀ n, (n ∈ y0.1.weights P f0.type ∨ n ∈ y1.1.weights P f1.type ∨ n ∈ y2.1.weights P f2.type) → n ≤ reachBytes := fun n hn => hw n (by
      simp only [DataW.weights, ht, List.map_cons, List.map_nil, DataW.weightsEach, List.mem_append]
      rcases hn with hn | hn | hn
      · exact .inl hn
      · exact .inr (.inl hn)
      · exact .inr (.inr (.inl hn)))
    obtain ⟨v0, k0, p0⟩ := h0 n _ y0 g0 (fun n hn => hws n (.inl hn))
    obtain ⟨v1, k1, p1⟩ := h1 n _ y1 g1 (fun n hn => hws n (.inr (.inl hn)))
    obtain ⟨v2, k2, p2⟩ := h2 n _ y2 g2 (fun n hn => hws n (.inr (.inr hn)))
    refine ⟨mk v0 v1 v2, ?_, by show F0 (f (mk v0 v1 v2)).1 ∧ F1 (f (mk v0 v1 v2)).2.1 ∧ F2 (f (mk v0 v1 v2)).2.2; rw [hf]; exact ⟨p0, p1, p2⟩⟩
    show (Kd.pair d0 (Kd.pair d1 d2)).K W (f (mk v0 v1 v2)) cs
    rw [hf]
    refine ⟨_, _, ?_, k0, _, _, rfl, k1, k2⟩
    have e1 : ((cs.drop (d0.sz + d1.sz)).take d2.sz) = cs.drop (d0.sz + d1.sz) := List.take_of_length_le (by rw [List.length_drop]; omega)
    have e2 : (cs.drop d0.sz).take d1.sz ++ cs.drop (d0.sz + d1.sz) = cs.drop d0.sz := by
      rw [← List.drop_drop, List.take_append_drop]
    rw [e1, e2, List.take_append_drop]
theorem opens_slice {t e : TypeId} {α : Type} [Inhabited α] {d : Kd α} {F : α → Prop} (ht : P.underlying t = some (.slice e)) (ce : P.cellsOf e = d.sz) (he : Opens enc P W e d F) :
    Opens enc P W t (Kd.slice e d) (fun xs => (∀ x ∈ xs, F x) ∧ xs.length * P.bytesOf e ≤ 140737488351232) := by
  intro fuel cs x h hw
  rcases Deep.open_slice ht h with ⟨rfl, rfl⟩ | ⟨a, len, cap, m, n, D, Pl, rfl, _, hlc, hcm, hm, rfl, hel⟩
  · exact ⟨[], ⟨none, 0, rfl, Nat.le_refl _, rfl, by simp, fun h => absurd h (Nat.lt_irrefl 0)⟩, fun x hx => (List.not_mem_nil hx).elim, by simp⟩
  · have hmc : m = cap := by simpa using hm
    subst hmc
    have hwe : ∀ i, i < len → ∀ n ∈ (D i).weights P e, n ≤ reachBytes := fun i hi n hn => hw n (by
      simp only [DataW.weights, ht, List.mem_cons, List.mem_append]
      refine .inr (.inl ?_)
      have : ∀ (l : List Nat), i ∈ l → n ∈ DataW.weightsAll P e (l.map D) := by
        intro l
        induction l with
        | nil => intro h; cases h
        | cons y l ih =>
          intro h
          simp only [List.map_cons, DataW.weightsAll, List.mem_append]
          rcases List.mem_cons.1 h with rfl | h
          · exact .inl hn
          · exact .inr (ih h)
      exact this _ (List.mem_range.2 hi))
    have hws : (len + (m - len)) * P.bytesOf e ≤ reachBytes := hw _ (by
      simp only [DataW.weights, ht, List.length_map, List.length_range]
      exact List.mem_cons_self)
    have hex : ∀ i, i < len → ∃ v : α, (∃ cs', W.cells? 0 (a.add (i * P.cellsOf e)) (P.cellsOf e) = some cs' ∧ d.K W v cs') ∧ F v := by
      intro i hi
      obtain ⟨cs', h1, h2⟩ := hel i (by omega)
      obtain ⟨v, h3, h4⟩ := he n cs' _ h2 (hwe i hi)
      exact ⟨v, ⟨cs', h1, h3⟩, h4⟩
    obtain ⟨f, hf⟩ := Deep.choose_lt hex
    refine ⟨(List.range len).map f, ⟨some a, m, by simp, by simp; omega, by simp, ?_, fun _ => ⟨a, rfl, ?_⟩⟩, ?_, ?_⟩
    · simp only [List.length_map, List.length_range]
      unfold maxLen at hcm
      omega
    · intro j p hj
      have hjl : j < len := by
        have := (List.getElem?_eq_some_iff.1 hj).1
        simpa using this
      have hp : p = f j := by
        rw [List.getElem?_map, List.getElem?_range hjl] at hj
        simpa using hj.symm
      subst hp
      obtain ⟨⟨cs', h1, h2⟩, _⟩ := hf j hjl
      obtain ⟨_, hlen, hcell⟩ := World.cells?_some h1
      refine ⟨cs', by rw [hlen, ce], h2, fun i u hu => ?_⟩
      have hi : i < P.cellsOf e := by
        have := (List.getElem?_eq_some_iff.1 hu).1
        omega
      have := hcell i hi
      rw [Deep.add_add] at this
      rw [← ce, this, hu]
    · intro x hx
      obtain ⟨i, hi, rfl⟩ := List.mem_map.1 hx
      exact (hf i (List.mem_range.1 hi)).2
    · simp only [List.length_map, List.length_range]
      have : len * P.bytesOf e ≤ (len + (m - len)) * P.bytesOf e := Nat.mul_le_mul_right _ (by omega)
      unfold reachBytes at hws
      omega
/-- An argument: its weights are among all. -/
theorem opened {t : TypeId} {α : Type} {d : Kd α} {F : α → Prop} (h : Opens enc P W t d F) {v : Value} {x : DataW H} {ps : List MemPlace} (ht : DataW.Trod enc P W 0 (fun _ => true) true t v x ps) {ts : List TypeId} {ds : List (DataW H)} {j : Nat}
    (hsz : (DataW.weightsEach P ts ds).all (· ≤ reachBytes) = true) (hj : ts[j]? = some t) (hd : ds[j]? = some x) : ∃ y : α, d.K W y v.cells.toList ∧ F y := by
  obtain ⟨fuel, hf⟩ := ht
  exact h fuel _ (x, ps) hf (fun n hn => of_decide_eq_true (List.all_eq_true.1 hsz n (DataW.weights_mem_each hj hd n hn)))
end
end Go.Proofs.Ytgmdoapedhppmaa.Op

/- The arguments' kinds of this seat's laws: keys, rows, epochs, bytes. -/
namespace Go.Proofs.Ytgmdoapedhppmaa.PC
set_option linter.unusedVariables false
set_option linter.unusedSimpArgs false
open Go.RowKit Go.WideShapes Go.Proofs.YtgmdoapedhppmaaW.PrintWords Go.Proofs.YtgmdoapedhppmaaW.PrintLast Go.Proofs.YtgmdoapedhppmaaW.PrintMore
instance : Inhabited S28 := ⟨z28⟩
instance : Inhabited S50 := ⟨z50⟩
instance : Inhabited S47 := ⟨z47⟩
instance : Inhabited S57 := ⟨z57⟩
def okStr (s : ByteArray) : Prop := s.size ≤ 140737488351232
def okKey (x : S28) : Prop := (Lit.int .u8 x.f0).wf = true ∧ okStr x.f1
def okChange (x : S50) : Prop := okKey x.f0 ∧ True ∧ okStr x.f2
def okTxn (x : S47) : Prop := (Lit.int .u64 x.f0).wf = true ∧ (∀ y ∈ x.f1, okChange y) ∧ x.f1.length * 48 ≤ 140737488351232
def okRow (x : S57) : Prop := okKey x.f0 ∧ okStr x.f1
def okEpoch (x : Int × List S47) : Prop := (Lit.int .u32 x.1).wf = true ∧ (∀ y ∈ x.2, okTxn y) ∧ x.2.length * 32 ≤ 140737488351232
def okRows (x : List S57) : Prop := (∀ y ∈ x, okRow y) ∧ x.length * 40 ≤ 140737488351232
def okBytes (x : List Int) : Prop := (∀ y ∈ x, (Lit.int .u8 y).wf = true) ∧ x.length * 1 ≤ 140737488351232
section
variable {H : Type} {enc : TypeId × Value → H} {W : World}
theorem opens28 : Op.Opens enc Try.prog W 28 k28 okKey :=
  Op.opens_struct2 (F0 := fun n => (Lit.int .u8 n).wf = true) (F1 := okStr) S28.mk _ (fun _ _ => rfl) Try.underlying28 rfl rfl (by kernel_rfl) (by kernel_rfl) (by kernel_rfl) (Op.opens_int Try.underlying5) (Op.opens_string Try.underlying9)
theorem opens50 : Op.Opens enc Try.prog W 50 k50 okChange :=
  Op.opens_struct3 (F0 := okKey) (F1 := fun _ => True) (F2 := okStr) S50.mk _ (fun _ _ _ => rfl) Try.underlying50 rfl rfl rfl (by kernel_rfl) (by kernel_rfl) (by kernel_rfl) (by kernel_rfl) opens28 (Op.opens_bool Try.underlying4) (Op.opens_string Try.underlying9)
theorem bytes50 : Try.prog.bytesOf 50 = 48 := by kernel_rfl
theorem bytes47 : Try.prog.bytesOf 47 = 32 := by kernel_rfl
theorem bytes57 : Try.prog.bytesOf 57 = 40 := by kernel_rfl
theorem bytes5 : Try.prog.bytesOf 5 = 1 := by kernel_rfl
theorem opens45 : Op.Opens enc Try.prog W 45 (Kd.slice 50 k50) (fun xs => (∀ y ∈ xs, okChange y) ∧ xs.length * 48 ≤ 140737488351232) := by
  have := Op.opens_slice (enc := enc) (W := W) Try.underlying45 (d := k50) (by kernel_rfl) opens50
  rwa [bytes50] at this
theorem opens47 : Op.Opens enc Try.prog W 47 k47 okTxn :=
  Op.opens_struct2 (F0 := fun n => (Lit.int .u64 n).wf = true) (F1 := fun xs => (∀ y ∈ xs, okChange y) ∧ xs.length * 48 ≤ 140737488351232) S47.mk _ (fun _ _ => rfl) Try.underlying47 rfl rfl (by kernel_rfl) (by kernel_rfl) (by kernel_rfl) (Op.opens_int Try.underlying44) opens45
theorem opens23 : Op.Opens enc Try.prog W 23 (Kd.slice 47 k47) (fun xs => (∀ y ∈ xs, okTxn y) ∧ xs.length * 32 ≤ 140737488351232) := by
  have := Op.opens_slice (enc := enc) (W := W) Try.underlying23 (d := k47) (by kernel_rfl) opens47
  rwa [bytes47] at this
def k25 : Kd (Int × List S47) := Kd.iso (Kd.pair (Kd.int .u32) (Kd.slice 47 k47)) (fun x => x)
theorem cells25 : Try.prog.cellsOf 25 = 2 := by kernel_rfl
theorem cells22 : Try.prog.cellsOf 22 = 1 := by kernel_rfl
theorem cells23 : Try.prog.cellsOf 23 = 1 := by kernel_rfl
theorem opens25 : Op.Opens enc Try.prog W 25 k25 okEpoch := by
  have h := Op.opens_struct2 (enc := enc) (W := W) (d0 := Kd.int .u32) (d1 := Kd.slice 47 k47) (F0 := fun n => (Lit.int .u32 n).wf = true) (F1 := fun xs => (∀ y ∈ xs, okTxn y) ∧ xs.length * 32 ≤ 140737488351232) Prod.mk (fun x => x) (fun _ _ => rfl) Try.underlying25 rfl rfl cells22 cells23 cells25 (Op.opens_int Try.underlying22) opens23
  exact h
theorem opens57 : Op.Opens enc Try.prog W 57 k57 okRow :=
  Op.opens_struct2 (F0 := okKey) (F1 := okStr) S57.mk _ (fun _ _ => rfl) Try.underlying57 rfl rfl (by kernel_rfl) (by kernel_rfl) (by kernel_rfl) opens28 (Op.opens_string Try.underlying9)
theorem opens26 : Op.Opens enc Try.prog W 26 (Kd.slice 57 k57) okRows := by
  have := Op.opens_slice (enc := enc) (W := W) Try.underlying26 (d := k57) (by kernel_rfl) opens57
  rwa [bytes57] at this
theorem opens32 : Op.Opens enc Try.prog W 32 (Kd.slice 5 (Kd.int .u8)) okBytes := by
  have := Op.opens_slice (enc := enc) (W := W) Try.underlying32 (d := Kd.int .u8) (by kernel_rfl) (Op.opens_int Try.underlying5)
  rwa [bytes5] at this
variable {v : Value} {x : DataW H} {ps : List MemPlace} {ts : List TypeId} {ds : List (DataW H)} {j base : Nat} {r : Reach}
set_option maxRecDepth 100000 in
/-- A key that comes in. -/
theorem arg28 (hv : Value.okWide Try.prog W r base 28 v) (h : DataW.Trod enc Try.prog W 0 (fun _ => true) true 28 v x ps) (hsz : (DataW.weightsEach Try.prog ts ds).all (· ≤ reachBytes) = true) (hj : ts[j]? = some 28) (hd : ds[j]? = some x) :
    ∃ y : S28, v = .agg #[.int .u8 y.f0, .string y.f1] ∧ okKey y := by
  obtain ⟨cs, rfl, _⟩ := okWide_struct Try.underlying28 hv
  obtain ⟨y, hk, hF⟩ := Op.opened opens28 h hsz hj hd
  have hc : cs.toList = _ := k28_open hk
  exact ⟨y, by rw [← Array.toArray_toList (xs := cs), hc], hF⟩
set_option maxRecDepth 100000 in
theorem arg25 (hv : Value.okWide Try.prog W r base 25 v) (h : DataW.Trod enc Try.prog W 0 (fun _ => true) true 25 v x ps) (hsz : (DataW.weightsEach Try.prog ts ds).all (· ≤ reachBytes) = true) (hj : ts[j]? = some 25) (hd : ds[j]? = some x) :
    ∃ (n : Int) (l : List S47) (A : Option Addr) (c : Nat), v = .agg #[.int .u32 n, .slice A l.length c] ∧ l.length ≤ c ∧ Kd.C k47 W A l.length l ∧ okEpoch (n, l) := by
  obtain ⟨cs, rfl, _⟩ := okWide_struct Try.underlying25 hv
  obtain ⟨⟨n, l⟩, ⟨c0, c1, hc, h0, A, c, rfl, hl, hC⟩, hF⟩ := Op.opened opens25 h hsz hj hd
  have h0 : c0 = [.int .u32 n] := h0
  subst h0
  have hc : cs.toList = _ := hc
  exact ⟨n, l, A, c, by rw [← Array.toArray_toList (xs := cs), hc]; rfl, hl, hC, hF⟩
set_option maxRecDepth 100000 in
theorem arg26 (hv : Value.okWide Try.prog W r base 26 v) (h : DataW.Trod enc Try.prog W 0 (fun _ => true) true 26 v x ps) (hsz : (DataW.weightsEach Try.prog ts ds).all (· ≤ reachBytes) = true) (hj : ts[j]? = some 26) (hd : ds[j]? = some x) :
    ∃ (l : List S57) (A : Option Addr) (c : Nat), v = .slice A l.length c ∧ l.length ≤ c ∧ Kd.C k57 W A l.length l ∧ okRows l := by
  obtain ⟨a, len, cap, rfl⟩ := okWide_slice Try.underlying26 hv
  obtain ⟨l, ⟨A, c, hc, hl, hC⟩, hF⟩ := Op.opened opens26 h hsz hj hd
  simp only [Value.cells, List.cons.injEq, and_true] at hc
  exact ⟨l, A, c, hc, hl, hC, hF⟩
set_option maxRecDepth 100000 in
theorem arg32 (hv : Value.okWide Try.prog W r base 32 v) (h : DataW.Trod enc Try.prog W 0 (fun _ => true) true 32 v x ps) (hsz : (DataW.weightsEach Try.prog ts ds).all (· ≤ reachBytes) = true) (hj : ts[j]? = some 32) (hd : ds[j]? = some x) :
    ∃ (l : List Int) (A : Option Addr) (c : Nat), v = .slice A l.length c ∧ l.length ≤ c ∧ Kd.C (Kd.int .u8) W A l.length l ∧ okBytes l := by
  obtain ⟨a, len, cap, rfl⟩ := okWide_slice Try.underlying32 hv
  obtain ⟨l, ⟨A, c, hc, hl, hC⟩, hF⟩ := Op.opened opens32 h hsz hj hd
  simp only [Value.cells, List.cons.injEq, and_true] at hc
  exact ⟨l, A, c, hc, hl, hC, hF⟩
end
end Go.Proofs.Ytgmdoapedhppmaa.PC

/- CodecOrder, plain: Less is an order of keys; of any three keys. -/
namespace Go.Proofs.Ytgmdoapedhppmaa.PC
set_option linter.unusedVariables false
set_option linter.unusedSimpArgs false
open Go.RowKit Go.Proofs.YtgmdoapedhppmaaW.PrintWords Go.Proofs.YtgmdoapedhppmaaW.PrintLast Go.Proofs.YtgmdoapedhppmaaW.PrintMore
theorem less_k (k : Nat) (hk : 3 ≤ k) (a b : S28) : codec_Less.f k a.f0 a.f1 b.f0 b.f1 = some (lessB a b) := at_rounds (codec_Less.mono _ _ _ _) hk (less_f a b)
theorem less_irrefl (a : S28) : lessB a a = false := by
  unfold lessB
  simp [bl_irrefl]
theorem less_trans {a b c : S28} (h1 : lessB a b = true) (h2 : lessB b c = true) : lessB a c = true := by
  unfold lessB at *
  simp only [Bool.or_eq_true, Bool.and_eq_true, decide_eq_true_eq] at *
  rcases h1 with h1 | ⟨e1, h1⟩
  · rcases h2 with h2 | ⟨e2, h2⟩
    · exact .inl (by omega)
    · exact .inl (by omega)
  · rcases h2 with h2 | ⟨e2, h2⟩
    · exact .inl (by omega)
    · exact .inr ⟨by omega, bl_trans _ _ _ h1 h2⟩
theorem less_asymm {a b : S28} (h1 : lessB a b = true) : lessB b a = false := by
  cases h : lessB b a with
  | false => rfl
  | true => have := less_trans h1 h; rw [less_irrefl] at this; cases this
theorem less_tri (a b : S28) : (lessB a b || lessB b a) = !(a.f0 == b.f0 && (a.f1.toList == b.f1.toList)) := by
  unfold lessB
  by_cases h : a.f0 = b.f0
  · have h2 : ¬ a.f0 < b.f0 := by omega
    have h3 : ¬ b.f0 < a.f0 := by omega
    rcases bl_tri a.f1.toList b.f1.toList with ⟨p, q, r⟩ | ⟨p, q, r⟩ | ⟨p, q, r⟩
    · simp [h, p, q, r]
    · simp [h, p, q, r]
    · simp [h, p, q, r, bl_irrefl]
  · by_cases h2 : a.f0 < b.f0
    · simp [h, h2]
    · have h3 : b.f0 < a.f0 := by omega
      simp [h, h3]
theorem less_more (a : S28) : lessB a ⟨a.f0, a.f1 ++ (⟨#[120]⟩ : ByteArray)⟩ = true := by
  unfold lessB
  have : (a.f1 ++ (⟨#[120]⟩ : ByteArray)).toList = a.f1.toList ++ [120] := by
    rw [ByteArray.toList_eq, ByteArray.toList_eq, ByteArray.data_append, Array.toList_append]
  simp [this, bl_more]
theorem order_row (a b c : S28) (W : World) (ha : okKey a) (hb : okKey b) (hc : okKey c) :
    Calls Try.prog 4 #[.agg #[.int .u8 a.f0, .string a.f1], .agg #[.int .u8 b.f0, .string b.f1], .agg #[.int .u8 c.f0, .string c.f1]] W fun e W' => e = .returned (.bool true) ∧ Below W.heap.size W W' := by
  refine tidemarklaw04_CodecOrder.calls 10 a.f0 a.f1 b.f0 b.f1 c.f0 c.f1 true W rfl ?_
  have hl : a.f1.size + 1 ≤ 9223372036854775807 := by have := ha.2; unfold okStr at this; omega
  have hm := less_more a
  have hj : tidemarklaw04_CodecOrder.j0 10 true false a.f0 a.f1 = some true := by
    have e1 : codec_Less.f 9 a.f0 a.f1 a.f0 (a.f1 ++ (⟨#[120]⟩ : ByteArray)) = some true := by have := less_k 9 (by decide) a ⟨a.f0, a.f1 ++ (⟨#[120]⟩ : ByteArray)⟩; rw [hm] at this; exact this
    have e2 : codec_Less.f 9 a.f0 (a.f1 ++ (⟨#[120]⟩ : ByteArray)) a.f0 a.f1 = some false := by have := less_k 9 (by decide) ⟨a.f0, a.f1 ++ (⟨#[120]⟩ : ByteArray)⟩ a; rw [less_asymm hm] at this; exact this
    have e3 : codec_Less.f 9 a.f0 a.f1 a.f0 a.f1 = some false := by rw [less_k 9 (by decide) a a, less_irrefl]
    simp only [tidemarklaw04_CodecOrder.j0, hl, e1, e2, e3, Option.bind_some, if_true, Bool.false_eq_true, if_false, Bool.not_false]
  have hs : tidemarklaw04_shown.f = some true := rfl
  unfold tidemarklaw04_CodecOrder.f
  rw [hs, less_k 10 (by decide) a b, less_k 10 (by decide) b a, less_k 10 (by decide) b c, less_k 10 (by decide) a c]
  simp only [Option.bind_some]
  have ht := less_tri a b
  cases hab : lessB a b with
  | true =>
    rw [hab, Bool.true_or] at ht
    have hba := less_asymm hab
    rw [hba]
    have he : (a.f0 == b.f0 && (a.f1.toList == b.f1.toList)) = false := by
      cases h : (a.f0 == b.f0 && (a.f1.toList == b.f1.toList)) with
      | false => rfl
      | true => rw [h] at ht; cases ht
    rw [he]
    simp only [if_true, Bool.false_eq_true, if_false, show (true == false) = false from rfl]
    cases hbc : lessB b c with
    | true =>
      rw [less_trans hab hbc]
      simp only [if_true, Bool.not_true]
      exact hj
    | false =>
      simp only [Bool.false_eq_true, if_false]
      exact hj
  | false =>
    rw [hab, Bool.false_or] at ht
    have he : (lessB b a == (a.f0 == b.f0 && (a.f1.toList == b.f1.toList))) = false := by
      rw [ht]
      cases (a.f0 == b.f0 && (a.f1.toList == b.f1.toList)) <;> rfl
    simp only [Bool.false_eq_true, if_false, he]
    exact hj
end Go.Proofs.Ytgmdoapedhppmaa.PC
