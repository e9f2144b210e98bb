/- Texts of this session in one: HEpoch, HDecode, HFewRows, HFew, HShown, PCx59, HNum, HGet, HCode. Plain functions, and that the program's come to them. -/
import Derived.Test.YtgmdoapedhppmaaBCodecTwo0
import Derived.Test.YtgmdoapedhppmaaBCodecTwo1

namespace Go.Proofs.Ytgmdoapedhppmaa.PC
set_option linter.unusedVariables false
set_option linter.unusedSimpArgs false
open Go.RowKit Go.Proofs.YtgmdoapedhppmaaW.PrintWords Go.Proofs.YtgmdoapedhppmaaW.PrintLast Go.Proofs.YtgmdoapedhppmaaW.PrintMore
attribute [local go_sem] max2_int min2_int max_two min_two max_three min_three max_four min_four
def takeChangesL (k : Nat) : Nat → S28 → List S50 → List Int → Option (Except Int (List S50 × List Int))
  | 0, _, acc, l => some (.ok (acc, l))
  | n + 1, last, acc, l => (takeKey k last l).bind fun q => match q with
    | .error c => some (.error c)
    | .ok (key, l1) => (takeN k 0 257 l1).bind fun q => match q with
      | .error c => some (.error c)
      | .ok (m, l2) => match takeB (mx (m - 1) 0) l2 with
        | .error c => some (.error c)
        | .ok (v, l3) => takeChangesL k n key (acc ++ [⟨key, m == 0, v⟩]) l3
def takeTxnsL (k : Nat) (N : Int) : Nat → Int → List S47 → List Int → Option (Except Int (List S47 × List Int))
  | 0, _, acc, l => some (.ok (acc, l))
  | n + 1, last, acc, l => (takeN k 0 4294967295 l).bind fun q => match q with
    | .error c => some (.error c)
    | .ok (tid, l1) => if last < tid then (takeN k 1 32 l1).bind fun q => match q with
        | .error c => some (.error c)
        | .ok (m, l2) => (takeChangesL k m.toNat ⟨0, ⟨#[]⟩⟩ [] l2).bind fun q => match q with
          | .error c => some (.error c)
          | .ok (cs, l3) => takeTxnsL k N n tid (acc ++ [⟨N * 4294967296 + tid, cs⟩]) l3
      else some (.error 3)
def takeEpoch (k : Nat) (l : List Int) : Option (Except Int ((Int × List S47) × List Int)) :=
  (takeN k 1 4294967295 l).bind fun q => match q with
    | .error c => some (.error c)
    | .ok (N, l1) => (takeN k 0 64 l1).bind fun q => match q with
      | .error c => some (.error c)
      | .ok (n, l2) => (takeTxnsL k N n.toNat (-1) [] l2).bind fun q => match q with
        | .error c => some (.error c)
        | .ok (xs, l3) => some (.ok ((N, xs), l3))
set_option maxRecDepth 100000 in
set_option maxHeartbeats 4000000 in
theorem epoch_calls (k : Nat) : EpochCalls (takeEpoch k) := by
  intro w0 w g l q hR hB hg hq
  have HR := Aside0.mk hR
  have HB0 := Aside0.mk hB
  have GL : Aside0 (g < w.heap.size) := ⟨by obtain ⟨_, _, hb, _⟩ := hR; exact blk_lt hb⟩
  obtain ⟨q1, hq1, hq2⟩ := Option.bind_eq_some_iff.1 (show (takeN k 1 4294967295 l).bind _ = some q from hq)
  have hgb : ∀ i, i = g → w0.heap.size ≤ i := fun i hi => by rw [hi]; exact hg
  have N1 := Aside0.mk hq1
  have N2 := Aside0.mk hq2
  clear hR hB hq hq1 hq2
  go_enter Try.func53, Try.ntmps53
  go_wp2_with (((with_reducible refine gate_dst (N := 2) rfl ?_); refine box_event ?hg (N := 2) ?hd (cs := #[.int .u32 0, .slice none 0 0]) (t := 25) ?hr ?_; (case hd => rfl); (case hg => rfl); (case hr => first | (go_simp; done) | (go_simp; rfl)); intro ge hge w1 hbox hb; have BE1 := Aside0.mk hbox; have HE := Aside0.mk hge; have HB1 := Aside0.mk hb; clear hb hbox hge))
  have hw1 : Aside0 (Below w0.heap.size w0 w1) := ⟨below_step HB0.out HB1.out⟩
  have hne1 : ¬ ge = g := by rw [HE.out]; have := GL.out; omega
  cases q1 with
  | error c =>
    obtain rfl : .error c = q := Option.some.inj N2.out
    refine (number_calls k 1 4294967295 _ w0 w1 g l (HR.out.stay (Stay.of_below (fun _ => False) HB1.out) id) hw1.out hg N1.out).mono ?_
    rintro e w2 ⟨ho, hs⟩
    obtain rfl := ho
    exact ⟨rfl, rfl, (Stay.of_below _ HB1.out).trans hs⟩
  | ok p1 =>
    obtain ⟨N, l1⟩ := p1
    have hn := takeN_ok N1.out (by decide) (by decide)
    refine (number_calls k 1 4294967295 _ w0 w1 g l (HR.out.stay (Stay.of_below (fun _ => False) HB1.out) id) hw1.out hg N1.out).mono ?_
    rintro e w2 ⟨⟨rfl, hr2⟩, hs⟩
    have R2 := Aside0.mk hr2
    have BE2 := Aside0.mk (hs.blk BE1.out hne1)
    have ST2 := Aside0.mk ((Stay.of_below (fun k => k = g) HB1.out).trans hs)
    obtain ⟨q2, hq1, hq2⟩ := Option.bind_eq_some_iff.1 (show (takeN k 0 64 l1).bind _ = some q from N2.out)
    clear hs hr2 N1 N2 BE1 HB1 hw1 HR
    have N1 := Aside0.mk hq1
    have N2 := Aside0.mk hq2
    clear hq1 hq2
    have hz0 : w2.cell? ⟨ge, 0, none⟩ = some (.int .u32 0) := (blk_cell BE2.out 0).trans rfl
    have hf0 := blk_frozen BE2.out 0
    obtain ⟨hn0, hn1⟩ := hn
    go_wp2_with fail
    have T3 : Aside0 (Stay (fun k => k = ge) w2 (w2.setCell ⟨ge, 0, none⟩ (.int .u32 N))) := ⟨(Stay.refl (fun k => k = ge) w2).set (.inl rfl) 0 _⟩
    have BE3 := Aside0.mk (blk_put (cs := #[.int .u32 0, .slice none 0 0]) BE2.out 0 (.int .u32 N) rfl)
    have R3 := Aside0.mk (R2.out.stay T3.out (fun e => hne1 e.symm))
    have ST3 : Aside0 (Stay (fun k => k = g) w (w2.setCell ⟨ge, 0, none⟩ (.int .u32 N))) := ⟨ST2.out.step T3.out (fun i hi => Or.inr (by rw [hi, HE.out]; exact Nat.le_refl _))⟩
    clear BE2 R2 ST2 T3 hz0 hf0
    generalize w2.setCell ⟨ge, 0, none⟩ (.int .u32 N) = w3 at BE3 R3 ST3 ⊢
    cases q2 with
    | error c =>
      obtain rfl : .error c = q := Option.some.inj N2.out
      refine (number_calls k 0 64 _ w0 w3 g l1 R3.out (ST3.out.below HB0.out hgb) hg N1.out).mono ?_
      rintro e w2 ⟨ho, hs⟩
      obtain rfl := ho
      exact ⟨rfl, rfl, ST3.out.trans hs⟩
    | ok p2 =>
    obtain ⟨n2, l2⟩ := p2
    have hm := takeN_ok N1.out (by decide) (by decide)
    obtain ⟨hm0, hm1⟩ := hm
    refine (number_calls k 0 64 _ w0 w3 g l1 R3.out (ST3.out.below HB0.out hgb) hg N1.out).mono ?_
    rintro e w4 ⟨⟨rfl, hr4⟩, hs⟩
    have R4 := Aside0.mk hr4
    have BE4 := Aside0.mk (hs.blk BE3.out hne1)
    have ST4 := Aside0.mk (ST3.out.trans hs)
    obtain ⟨q3, hq1, hq2⟩ := Option.bind_eq_some_iff.1 (show (takeTxnsL k N n2.toNat (-1) [] l2).bind _ = some q from N2.out)
    have TX := Aside0.mk hq1
    have FQ := Aside0.mk hq2
    clear hs hr4 BE3 R3 ST3 N1 N2 hq1 hq2
    go_wp2_with fail
    go_loopg [3, 15] n2.toNat (fun kq v3 v15 w' => ∃ (acc : List S47) (last : Int) (l' : List Int) (x15 : Int) (v : Value), v3 = .int .i64 last ∧ v15 = .int .i64 x15 ∧ Aside0 (n2 - x15 = (kq : Int)) ∧ 0 ≤ x15 ∧ x15 ≤ n2 ∧ -1 ≤ last ∧ last ≤ 4294967295 ∧ Aside0 (acc.length + kq ≤ 64) ∧ Aside0 (takeTxnsL k N kq last acc l' = some q3) ∧ Aside0 (Rd w0 w' g l') ∧ Aside0 (w'.heap[ge]? = some (.cells #[.int .u32 N, v] 25 (0, 0))) ∧ Aside0 (Kd.S k47 47 w' w.heap.size (fun _ => True) v acc) ∧ Aside0 (Stay (fun k => k = g) w w'))
    case atStart => exact ⟨[], -1, l2, 0, .slice none 0 0, rfl, rfl, ⟨by omega⟩, by omega, by omega, by omega, by omega, ⟨by simp; omega⟩, TX, R4, BE4, ⟨Kd.S_nil _ _ _ _ _⟩, ST4⟩
    case round =>
      clear TX R4 BE4 ST4
      obtain ⟨acc, last, l', x15, v, rfl, rfl, HX, hx0, hx1, hl0, hl1, HA, TX, R2, BE2, S2, ST2⟩ := hrel
      by_cases hp : x15 < n2
      · have dp : decide (x15 < n2) = true := decide_eq_true hp
        cases gk with
        | zero => exact absurd HX.out (by omega)
        | succ gk1 =>
          have H := TX.out
          clear TX
          simp only [takeTxnsL] at H
          obtain ⟨qk, hqk, H⟩ := Option.bind_eq_some_iff.1 H
          have QK := Aside0.mk hqk
          have Q3 := Aside0.mk H
          clear hqk H
          go_wp2_with fail
          cases qk with
          | error c =>
            obtain rfl : .error c = q3 := Option.some.inj Q3.out
            obtain rfl : .error c = q := Option.some.inj FQ.out
            refine (number_calls k 0 4294967295 _ w0 _ g l' R2.out (ST2.out.below HB0.out hgb) hg QK.out).mono ?_
            rintro e w3 ⟨ho, hs⟩
            obtain rfl := ho
            exact ⟨rfl, rfl, ST2.out.trans hs⟩
          | ok pk =>
          obtain ⟨tid, l1⟩ := pk
          obtain ⟨ht0, ht1⟩ := takeN_ok QK.out (by decide) (by decide)
          refine (number_calls k 0 4294967295 _ w0 _ g l' R2.out (ST2.out.below HB0.out hgb) hg QK.out).mono ?_
          rintro e w3 ⟨⟨rfl, hr3⟩, hs⟩
          have R3 := Aside0.mk hr3
          have BE3 := Aside0.mk (hs.blk BE2.out hne1)
          have S3 := Aside0.mk (S_stayT (by decide) S2.out R2.out hs)
          have ST3 := Aside0.mk (ST2.out.trans hs)
          clear R2 BE2 S2 ST2 hr3 hs QK
          go_wp2_with fail
          by_cases hlt : last < tid
          case neg =>
            have dl : decide (last < tid) = false := decide_eq_false hlt
            have H := Q3.out
            simp only [if_neg hlt] at H
            obtain rfl : .error 3 = q3 := Option.some.inj H
            obtain rfl : .error 3 = q := Option.some.inj FQ.out
            rw [dl]
            refine (must_calls false _).mono ?_
            rintro e w4 ⟨he, hb⟩
            rw [if_neg (by decide)] at he
            subst he
            exact ⟨rfl, rfl, ST3.out.trans (Stay.of_below _ hb)⟩
          have dl : decide (last < tid) = true := decide_eq_true hlt
          have H := Q3.out
          simp only [if_pos hlt] at H
          obtain ⟨qm, hqm, H⟩ := Option.bind_eq_some_iff.1 H
          have QM := Aside0.mk hqm
          have Q4 := Aside0.mk H
          clear hqm H Q3
          rw [dl]
          refine (must_calls true _).mono ?_
          rintro e w4 ⟨he, hb⟩
          rw [if_pos rfl] at he
          subst he
          have R4 := Aside0.mk (R3.out.stay (Stay.of_below (fun _ => False) hb) id)
          have BE4 := Aside0.mk (blk_below BE3.out hb)
          have S4 := Aside0.mk (Kd.S_below S3.out hb)
          have ST4 := Aside0.mk (ST3.out.trans (Stay.of_below _ hb))
          clear R3 BE3 S3 ST3 hb dl hlt
          have hz0 : w4.cell? ⟨ge, 0, none⟩ = some (.int .u32 N) := (blk_cell BE4.out 0).trans rfl
          have hf0 := blk_frozen BE4.out 0
          have hor : Go.bits .or .u64 (N * 4294967296) tid = N * 4294967296 + tid := by
            have e32 : (2 : Int) ^ 32 = 4294967296 := by decide
            exact B.or_join 32 (N * 4294967296) tid (by omega) (by rw [e32]; omega) (by omega) (by omega) (by rw [e32]; omega) (by omega)
          go_wp2_with (first | ((with_reducible refine gate_dst (N := 5) rfl ?_); refine box_event ?hg (N := 5) ?hd (cs := #[.int .u64 0, .slice none 0 0]) (t := 47) ?hr ?_; (case hd => rfl); (case hg => rfl); (case hr => first | (go_simp; done) | (go_simp; rfl)); intro gt hgt w5 hbox hb; have BT5 := Aside0.mk hbox; have HGT := Aside0.mk hgt; have HB5 := Aside0.mk hb; have hz10 := (blk_cell hbox 0).trans rfl; have hz11 := (blk_cell hbox 1).trans rfl; have hf10 := blk_frozen hbox 0; have hf11 := blk_frozen hbox 1; clear hb hbox hgt) | ((with_reducible refine gate_dst (N := 6) rfl ?_); refine box_event ?hg (N := 6) ?hd (cs := #[.int .u8 0, .string (⟨#[]⟩ : ByteArray)]) (t := 28) ?hr ?_; (case hd => rfl); (case hg => rfl); (case hr => first | (go_simp; done) | (go_simp; rfl)); intro gh hgh w6 hbox hb; have BH6 := Aside0.mk hbox; have HGH := Aside0.mk hgh; have HB6 := Aside0.mk hb; clear hb hbox hgh))
          have T5 : Aside0 (Stay (fun k => k = gt) w5 ((w5.setCell ⟨gt, 0, none⟩ (.int .u64 (N * 4294967296 + tid))).setCell ⟨gt, 1, none⟩ (.slice none 0 0))) := ⟨((Stay.refl (fun k => k = gt) w5).set (.inl rfl) 0 _).set (.inl rfl) 1 _⟩
          obtain ⟨H0, hH0⟩ : ∃ n, n = w4.heap.size := ⟨_, rfl⟩
          have GT0 : Aside0 (gt = H0) := ⟨by rw [HGT.out, hH0]⟩
          have WH0 : Aside0 (w.heap.size ≤ H0) := ⟨by rw [hH0]; exact ST4.out.size⟩
          have GE0 : Aside0 (ge < H0) := ⟨by rw [hH0]; exact blk_lt BE4.out⟩
          have GG0 : Aside0 (g < H0) := ⟨by have := GL.out; have := WH0.out; omega⟩
          have S5 : Aside0 (Kd.S k47 47 w5 w.heap.size (fun k => k < H0) v acc) := ⟨Kd.S_mono (Kd.S_old S4.out HB5.out) (fun k hk => by rw [hH0]; exact hk.2)⟩
          have S5b : Aside0 (Kd.S k47 47 ((w5.setCell ⟨gt, 0, none⟩ (.int .u64 (N * 4294967296 + tid))).setCell ⟨gt, 1, none⟩ (.slice none 0 0)) w.heap.size (fun k => k < H0) v acc) := ⟨Kd.S_far (p := ⟨gt, 1, none⟩) (Kd.S_far (p := ⟨gt, 0, none⟩) S5.out (fun k hk e => by have := GT0.out; have e : k = gt := e; omega) _) (fun k hk e => by have := GT0.out; have e : k = gt := e; omega) _⟩
          have R5 := Aside0.mk ((R4.out.stay (Stay.of_below (fun _ => False) HB5.out) id).stay T5.out (fun e => by have := GG0.out; have := GT0.out; omega))
          have BE5 := Aside0.mk (T5.out.blk (blk_below BE4.out HB5.out) (by have := GE0.out; have := GT0.out; omega))
          have BT5b := Aside0.mk (blk_put (cs := #[.int .u64 (N * 4294967296 + tid), .slice none 0 0]) (blk_put (cs := #[.int .u64 0, .slice none 0 0]) BT5.out 0 (.int .u64 (N * 4294967296 + tid)) rfl) 1 (.slice none 0 0) rfl)
          have ST5 := Aside0.mk ((ST4.out.trans (Stay.of_below _ HB5.out)).step T5.out (fun i hi => Or.inr (by rw [hi, GT0.out]; exact WH0.out)))
          have SZ5 : Aside0 (H0 < w5.heap.size) := ⟨by have := blk_lt BT5.out; have := GT0.out; omega⟩
          have SZ5b : Aside0 (H0 < ((w5.setCell ⟨gt, 0, none⟩ (.int .u64 (N * 4294967296 + tid))).setCell ⟨gt, 1, none⟩ (.slice none 0 0)).heap.size) := ⟨Nat.lt_of_lt_of_le SZ5.out T5.out.size⟩
          clear hz0 hf0 hz10 hz11 hf10 hf11 S4 S5 R4 BE4 BT5 ST4 HB5 T5 hH0 HGT hor SZ5
          generalize (w5.setCell ⟨gt, 0, none⟩ (.int .u64 (N * 4294967296 + tid))).setCell ⟨gt, 1, none⟩ (.slice none 0 0) = w5b at S5b R5 BE5 BT5b ST5 SZ5b HB6 HGH ⊢
          have GH0 : Aside0 (H0 < gh) := ⟨by rw [HGH.out]; exact SZ5b.out⟩
          have S6 := Aside0.mk (Kd.S_below S5b.out HB6.out)
          have R6 := Aside0.mk (R5.out.stay (Stay.of_below (fun _ => False) HB6.out) id)
          have BE6 := Aside0.mk (blk_below BE5.out HB6.out)
          have BT6 := Aside0.mk (blk_below BT5b.out HB6.out)
          have ST6 := Aside0.mk (ST5.out.trans (Stay.of_below _ HB6.out))
          have hneh : ¬ gh = g := by have := GH0.out; have := GG0.out; omega
          clear S5b R5 BE5 BT5b ST5 SZ5b HB6 HGH
          cases qm with
          | error c =>
            obtain rfl : .error c = q3 := Option.some.inj Q4.out
            obtain rfl : .error c = q := Option.some.inj FQ.out
            refine (number_calls k 1 32 _ w0 _ g l1 R6.out (ST6.out.below HB0.out hgb) hg QM.out).mono ?_
            rintro e w3 ⟨ho, hs⟩
            obtain rfl := ho
            exact ⟨rfl, rfl, ST6.out.trans hs⟩
          | ok pm =>
          obtain ⟨m, l2⟩ := pm
          obtain ⟨hmm0, hmm1⟩ := takeN_ok QM.out (by decide) (by decide)
          refine (number_calls k 1 32 _ w0 _ g l1 R6.out (ST6.out.below HB0.out hgb) hg QM.out).mono ?_
          rintro e w7 ⟨⟨rfl, hr7⟩, hs⟩
          have R7 := Aside0.mk hr7
          have BE7 := Aside0.mk (hs.blk BE6.out hne1)
          have BT7 := Aside0.mk (hs.blk BT6.out (by have := GG0.out; have := GT0.out; omega))
          have BH7 := Aside0.mk (hs.blk BH6.out hneh)
          have S7 := Aside0.mk (S_stayT (by decide) S6.out R6.out hs)
          have ST7 := Aside0.mk (ST6.out.trans hs)
          clear R6 BE6 S6 ST6 BT6 BH6 hr7 hs QM
          obtain ⟨qc, hqc, H⟩ := Option.bind_eq_some_iff.1 (show (takeChangesL k m.toNat ⟨0, ⟨#[]⟩⟩ [] l2).bind _ = some q3 from Q4.out)
          have QC := Aside0.mk hqc
          have Q5 := Aside0.mk H
          clear hqc H Q4
          go_wp2_with fail
          obtain ⟨wo, hwo⟩ : ∃ wo : World, wo = wr := ⟨_, rfl⟩
          clear hwo
          go_loopg [34] m.toNat (fun kq v34 w' => ∃ (cs : List S50) (last2 : S28) (l' : List Int) (x34 : Int) (vc : Value), v34 = .int .i64 x34 ∧ Aside0 (m - x34 = (kq : Int)) ∧ 0 ≤ x34 ∧ x34 ≤ m ∧ Aside0 (cs.length + kq ≤ 32) ∧ Aside0 (takeChangesL k kq last2 cs l' = some qc) ∧ Aside0 (Rd w0 w' g l') ∧ Aside0 (w'.heap[ge]? = some (.cells #[.int .u32 N, v] 25 (0, 0))) ∧ Aside0 (w'.heap[gt]? = some (.cells #[.int .u64 (N * 4294967296 + tid), vc] 47 (0, 0))) ∧ Aside0 (w'.heap[gh]? = some (keyCells last2)) ∧ Aside0 (Kd.S k50 50 w' H0 (fun _ => True) vc cs) ∧ Aside0 (Kd.S k47 47 w' w.heap.size (fun k => k < H0) v acc) ∧ Aside0 (Stay (fun k => k = g) w w'))
          case atStart => exact ⟨[], ⟨0, ⟨#[]⟩⟩, l2, 0, .slice none 0 0, rfl, ⟨by omega⟩, by omega, by omega, ⟨by simp; omega⟩, QC, R7, BE7, BT7, BH7, ⟨Kd.S_nil _ _ _ _ _⟩, S7, ST7⟩
          case round =>
            clear QC R7 BE7 BT7 BH7 S7 ST7
            obtain ⟨cs, last2, l', x34, vc, rfl, HX2, hx20, hx21, HA2, QC, R2, BE2, BT2, BH2, SC2, S2, ST2⟩ := hrel
            by_cases hp2 : x34 < m
            · have dp2 : decide (x34 < m) = true := decide_eq_true hp2
              cases gk with
              | zero => exact absurd HX2.out (by omega)
              | succ gk2 =>
                have H := QC.out
                clear QC
                simp only [takeChangesL] at H
                obtain ⟨qk, hqk, H⟩ := Option.bind_eq_some_iff.1 H
                have QK := Aside0.mk hqk
                have Q6 := Aside0.mk H
                clear hqk H
                go_wp2_with fail
                cases qk with
                | error c =>
                  obtain rfl : .error c = qc := Option.some.inj Q6.out
                  obtain rfl : .error c = q3 := Option.some.inj Q5.out
                  obtain rfl : .error c = q := Option.some.inj FQ.out
                  refine (key_calls k last2 _ w0 _ g gh l' R2.out (ST2.out.below HB0.out hgb) hg (by have := GH0.out; have := WH0.out; have := HB0.out.size; omega) hneh BH2.out QK.out).mono ?_
                  rintro e w3 ⟨ho, hs, _⟩
                  obtain rfl := ho
                  exact ⟨rfl, rfl, ST2.out.step hs (fun i hi => hi.elim Or.inl (fun e => Or.inr (by have := GH0.out; have := WH0.out; omega)))⟩
                | ok pk =>
                obtain ⟨key, l1⟩ := pk
                refine (key_calls k last2 _ w0 _ g gh l' R2.out (ST2.out.below HB0.out hgb) hg (by have := GH0.out; have := WH0.out; have := HB0.out.size; omega) hneh BH2.out QK.out).mono ?_
                rintro e w8 ⟨⟨rfl, hr8⟩, hs, hl8⟩
                have R8 := Aside0.mk hr8
                have BE8 := Aside0.mk (hs.blk BE2.out (fun e => e.elim hne1 (fun e => by have := GE0.out; have := GH0.out; omega)))
                have BT8 := Aside0.mk (hs.blk BT2.out (fun e => e.elim (fun e => by have := GG0.out; have := GT0.out; omega) (fun e => by have := GT0.out; have := GH0.out; omega)))
                have BH8 := Aside0.mk (hl8 _ rfl)
                have SC8 := Aside0.mk (S_stay2T (by decide) (by decide) SC2.out R2.out BH2.out hs)
                have S8 := Aside0.mk (S_stay2T (by decide) (by decide) S2.out R2.out BH2.out hs)
                have ST8 : Aside0 (Stay (fun k => k = g) w w8) := ⟨ST2.out.step hs (fun i hi => hi.elim Or.inl (fun e => Or.inr (by have := GH0.out; have := WH0.out; omega)))⟩
                have SZ8 : Aside0 (gh < w8.heap.size) := ⟨blk_lt BH8.out⟩
                clear R2 BE2 BT2 BH2 SC2 S2 ST2 hr8 hs hl8 QK
                go_wp2_with (((with_reducible refine gate_dst (N := 7) rfl ?_); refine box_event ?hg (N := 7) ?hd (cs := #[.int .u8 0, .string (⟨#[]⟩ : ByteArray), .bool false, .string (⟨#[]⟩ : ByteArray)]) (t := 50) ?hr ?_; (case hd => rfl); (case hg => rfl); (case hr => first | (go_simp; done) | (go_simp; rfl)); intro gc hgc w9 hbox hb; have BC9 := Aside0.mk hbox; have HGC := Aside0.mk hgc; have HB9 := Aside0.mk hb; have hz0 := (blk_cell hbox 0).trans rfl; have hz1 := (blk_cell hbox 1).trans rfl; have hz2 := (blk_cell hbox 2).trans rfl; have hz3 := (blk_cell hbox 3).trans rfl; have hf0 := blk_frozen hbox 0; have hf1 := blk_frozen hbox 1; have hf2 := blk_frozen hbox 2; have hf3 := blk_frozen hbox 3; clear hb hbox hgc))
                have T9 : Aside0 (Stay (fun k => k = gc) w9 ((((w9.setCell ⟨gc, 0, none⟩ (.int .u8 key.f0)).setCell ⟨gc, 1, none⟩ (.string key.f1)).setCell ⟨gc, 2, none⟩ (.bool false)).setCell ⟨gc, 3, none⟩ (.string (⟨#[]⟩ : ByteArray)))) := ⟨((((Stay.refl (fun k => k = gc) w9).set (.inl rfl) 0 _).set (.inl rfl) 1 _).set (.inl rfl) 2 _).set (.inl rfl) 3 _⟩
                have BC10 := Aside0.mk (blk_put (cs := #[.int .u8 key.f0, .string key.f1, .bool false, .string (⟨#[]⟩ : ByteArray)]) (blk_put (cs := #[.int .u8 key.f0, .string key.f1, .bool false, .string (⟨#[]⟩ : ByteArray)]) (blk_put (cs := #[.int .u8 key.f0, .string (⟨#[]⟩ : ByteArray), .bool false, .string (⟨#[]⟩ : ByteArray)]) (blk_put (cs := #[.int .u8 0, .string (⟨#[]⟩ : ByteArray), .bool false, .string (⟨#[]⟩ : ByteArray)]) BC9.out 0 (.int .u8 key.f0) rfl) 1 (.string key.f1) rfl) 2 (.bool false) rfl) 3 (.string (⟨#[]⟩ : ByteArray)) rfl)
                have GC0 : Aside0 (gh < gc) := ⟨by rw [HGC.out]; exact SZ8.out⟩
                have SC9 := Aside0.mk (Kd.S_below (Kd.S_elderB SC8.out gc (by rw [HGC.out]; exact Nat.le_refl _)) HB9.out)
                have SC10 : Aside0 (Kd.S k50 50 ((((w9.setCell ⟨gc, 0, none⟩ (.int .u8 key.f0)).setCell ⟨gc, 1, none⟩ (.string key.f1)).setCell ⟨gc, 2, none⟩ (.bool false)).setCell ⟨gc, 3, none⟩ (.string (⟨#[]⟩ : ByteArray))) H0 (fun k => True ∧ k ≠ gc) vc cs) := ⟨S_stay SC9.out T9.out (fun k hk e => hk.2 e)⟩
                have S10 := Aside0.mk (S_stay (Kd.S_below S8.out HB9.out) T9.out (fun k hk e => by have := GC0.out; have := GH0.out; omega))
                have R10 := Aside0.mk ((R8.out.stay (Stay.of_below (fun _ => False) HB9.out) id).stay T9.out (fun e => by have := GC0.out; have := GH0.out; have := GG0.out; omega))
                have BE10 := Aside0.mk (T9.out.blk (blk_below BE8.out HB9.out) (by have := GC0.out; have := GH0.out; have := GE0.out; omega))
                have BT10 := Aside0.mk (T9.out.blk (blk_below BT8.out HB9.out) (by have := GC0.out; have := GH0.out; have := GT0.out; omega))
                have BH10 := Aside0.mk (T9.out.blk (blk_below BH8.out HB9.out) (by have := GC0.out; omega))
                have ST10 := Aside0.mk ((ST8.out.trans (Stay.of_below _ HB9.out)).step T9.out (fun i hi => Or.inr (by have := GC0.out; have := GH0.out; have := WH0.out; omega)))
                have hnec : ¬ gc = g := by have := GC0.out; have := GH0.out; have := GG0.out; omega
                clear hz0 hz1 hz2 hz3 hf0 hf1 hf2 hf3 SC8 SC9 S8 R8 BE8 BT8 BH8 ST8 SZ8 T9 BC9 HGC HB9
                generalize (((w9.setCell ⟨gc, 0, none⟩ (.int .u8 key.f0)).setCell ⟨gc, 1, none⟩ (.string key.f1)).setCell ⟨gc, 2, none⟩ (.bool false)).setCell ⟨gc, 3, none⟩ (.string (⟨#[]⟩ : ByteArray)) = w10 at BC10 SC10 S10 R10 BE10 BT10 BH10 ST10 ⊢
                obtain ⟨qn, hqn, H⟩ := Option.bind_eq_some_iff.1 (show (takeN k 0 257 l1).bind _ = some qc from Q6.out)
                have QN := Aside0.mk hqn
                have Q7 := Aside0.mk H
                clear hqn H Q6
                cases qn with
                | error c =>
                  obtain rfl : .error c = qc := Option.some.inj Q7.out
                  obtain rfl : .error c = q3 := Option.some.inj Q5.out
                  obtain rfl : .error c = q := Option.some.inj FQ.out
                  refine (number_calls k 0 257 _ w0 _ g l1 R10.out (ST10.out.below HB0.out hgb) hg QN.out).mono ?_
                  rintro e w3 ⟨ho, hs⟩
                  obtain rfl := ho
                  exact ⟨rfl, rfl, ST10.out.trans hs⟩
                | ok pn =>
                obtain ⟨n, l2⟩ := pn
                obtain ⟨hnn0, hnn1⟩ := takeN_ok QN.out (by decide) (by decide)
                refine (number_calls k 0 257 _ w0 _ g l1 R10.out (ST10.out.below HB0.out hgb) hg QN.out).mono ?_
                rintro e w11 ⟨⟨rfl, hr11⟩, hs⟩
                have R11 := Aside0.mk hr11
                have BC11 := Aside0.mk (hs.blk BC10.out hnec)
                have BE11 := Aside0.mk (hs.blk BE10.out hne1)
                have BT11 := Aside0.mk (hs.blk BT10.out (by have := GG0.out; have := GT0.out; omega))
                have BH11 := Aside0.mk (hs.blk BH10.out hneh)
                have SC11 := Aside0.mk (S_stayT (by decide) SC10.out R10.out hs)
                have S11 := Aside0.mk (S_stayT (by decide) S10.out R10.out hs)
                have ST11 := Aside0.mk (ST10.out.trans hs)
                clear R10 BC10 BE10 S10 SC10 ST10 BT10 BH10 hr11 hs QN
                have hz2 : w11.cell? ⟨gc, 2, none⟩ = some (.bool false) := (blk_cell BC11.out 2).trans rfl
                have hf2 := blk_frozen BC11.out 2
                have T11 : Aside0 (Stay (fun k => k = gc) w11 (w11.setCell ⟨gc, 2, none⟩ (.bool (n == 0)))) := ⟨(Stay.refl (fun k => k = gc) w11).set (.inl rfl) 2 _⟩
                have BC12 := Aside0.mk (blk_put (cs := #[.int .u8 key.f0, .string key.f1, .bool false, .string (⟨#[]⟩ : ByteArray)]) BC11.out 2 (.bool (n == 0)) rfl)
                have SC12 := Aside0.mk (S_stay SC11.out T11.out (fun k hk e => hk.2 e))
                have S12 := Aside0.mk (S_stay S11.out T11.out (fun k hk e => by have := GC0.out; have := GH0.out; omega))
                have R12 := Aside0.mk (R11.out.stay T11.out (fun e => hnec e.symm))
                have BE12 := Aside0.mk (T11.out.blk BE11.out (by have := GC0.out; have := GH0.out; have := GE0.out; omega))
                have BT12 := Aside0.mk (T11.out.blk BT11.out (by have := GC0.out; have := GH0.out; have := GT0.out; omega))
                have BH12 := Aside0.mk (T11.out.blk BH11.out (by have := GC0.out; omega))
                have ST12 : Aside0 (Stay (fun k => k = g) w (w11.setCell ⟨gc, 2, none⟩ (.bool (n == 0)))) := ⟨ST11.out.step T11.out (fun i hi => Or.inr (by have := GC0.out; have := GH0.out; have := WH0.out; omega))⟩
                have TB1 : Aside0 (1 ≤ n → mx (n - 1) 0 = n - 1) := ⟨fun h => by unfold mx; rw [if_neg (by omega)]⟩
                have TB0 : Aside0 (n < 1 → mx (n - 1) 0 = 0) := ⟨fun h => by unfold mx; rw [if_pos (by omega)]⟩
                have Q8a : ∀ qb, qb = takeB (mx (n - 1) 0) l2 → (match qb with | .error c => some (.error c) | .ok (v, l3) => takeChangesL k gk2 key (cs ++ [⟨key, n == 0, v⟩]) l3) = some qc := by rintro _ rfl; exact Q7.out
                obtain ⟨qb, hqb⟩ : ∃ qb, qb = takeB (mx (n - 1) 0) l2 := ⟨_, rfl⟩
                have Q8 := Aside0.mk (Q8a qb hqb)
                clear Q8a
                have QB := Aside0.mk hqb
                clear hqb Q7 R11 BC11 BE11 BT11 BH11 SC11 S11 ST11 T11
                go_wp2_with fail
                all_goals
                  clear hz2 hf2
                  generalize w11.setCell ⟨gc, 2, none⟩ (.bool (n == 0)) = w12 at R12 BC12 BE12 BT12 BH12 SC12 S12 ST12 ⊢
                  refine (bytes_calls _ (by omega) w0 _ g l2 R12.out (ST12.out.below HB0.out hgb) hg).mono ?_
                  rintro e w13 ⟨ho, hs⟩
                  replace ho : Out w0 g Value.string qb e w13 := by (rw [QB.out]; first | (rw [TB1.out (by omega)]; exact ho) | (rw [TB0.out (by omega)]; exact ho))
                  have HS := Aside0.mk hs
                  clear hs
                  cases qb with
                  | error c =>
                    obtain rfl : .error c = qc := Option.some.inj Q8.out
                    obtain rfl : .error c = q3 := Option.some.inj Q5.out
                    obtain rfl : .error c = q := Option.some.inj FQ.out
                    obtain rfl := ho
                    exact ⟨rfl, rfl, ST12.out.trans HS.out⟩
                  | ok pb =>
                  obtain ⟨vl, l3⟩ := pb
                  obtain ⟨rfl, hr13⟩ := ho
                  have R13 := Aside0.mk hr13
                  have BC13 := Aside0.mk (HS.out.blk BC12.out hnec)
                  have BE13 := Aside0.mk (HS.out.blk BE12.out hne1)
                  have BT13 := Aside0.mk (HS.out.blk BT12.out (by have := GG0.out; have := GT0.out; omega))
                  have BH13 := Aside0.mk (HS.out.blk BH12.out hneh)
                  have SC13 := Aside0.mk (S_stayT (by decide) SC12.out R12.out HS.out)
                  have S13 := Aside0.mk (S_stayT (by decide) S12.out R12.out HS.out)
                  have ST13 := Aside0.mk (ST12.out.trans HS.out)
                  clear R12 BC12 BE12 S12 SC12 ST12 BT12 BH12 hr13 HS QB TB0 TB1
                  have Q9 : Aside0 (takeChangesL k gk2 key (cs ++ [⟨key, n == 0, vl⟩]) l3 = some qc) := ⟨Q8.out⟩
                  have T13 : Aside0 (Stay (fun k => k = gc) w13 (w13.setCell ⟨gc, 3, none⟩ (.string vl))) := ⟨(Stay.refl (fun k => k = gc) w13).set (.inl rfl) 3 _⟩
                  have BC14 := Aside0.mk (blk_put (cs := #[.int .u8 key.f0, .string key.f1, .bool (n == 0), .string (⟨#[]⟩ : ByteArray)]) BC13.out 3 (.string vl) rfl)
                  have SC14 := Aside0.mk (S_stay SC13.out T13.out (fun k hk e => hk.2 e))
                  have S14 := Aside0.mk (S_stay S13.out T13.out (fun k hk e => by have := GC0.out; have := GH0.out; omega))
                  have R14 := Aside0.mk (R13.out.stay T13.out (fun e => hnec e.symm))
                  have BE14 := Aside0.mk (T13.out.blk BE13.out (by have := GC0.out; have := GH0.out; have := GE0.out; omega))
                  have BT14 := Aside0.mk (T13.out.blk BT13.out (by have := GC0.out; have := GH0.out; have := GT0.out; omega))
                  have BH14 := Aside0.mk (T13.out.blk BH13.out (by have := GC0.out; omega))
                  have ST14 : Aside0 (Stay (fun k => k = g) w (w13.setCell ⟨gc, 3, none⟩ (.string vl))) := ⟨ST13.out.step T13.out (fun i hi => Or.inr (by have := GC0.out; have := GH0.out; have := WH0.out; omega))⟩
                  have hz3 : w13.cell? ⟨gc, 3, none⟩ = some (.string (⟨#[]⟩ : ByteArray)) := (blk_cell BC13.out 3).trans rfl
                  have hf3 := blk_frozen BC13.out 3
                  clear R13 BC13 BE13 BT13 BH13 SC13 S13 ST13 T13 Q8
                  go_upto_region 16 with (fail)
                  clear hz3 hf3
                  generalize w13.setCell ⟨gc, 3, none⟩ (.string vl) = w14 at BC14 SC14 S14 R14 BE14 BT14 BH14 ST14 ⊢
                  have hzt1 : w14.cell? ⟨gt, 1, none⟩ = some vc := (blk_cell BT14.out 1).trans rfl
                  have hzc0 : w14.cell? ⟨gc, 0, none⟩ = some (.int .u8 key.f0) := (blk_cell BC14.out 0).trans rfl
                  have hzc1 : w14.cell? ⟨gc, 1, none⟩ = some (.string key.f1) := (blk_cell BC14.out 1).trans rfl
                  have hzc2 : w14.cell? ⟨gc, 2, none⟩ = some (.bool (n == 0)) := (blk_cell BC14.out 2).trans rfl
                  have hzc3 : w14.cell? ⟨gc, 3, none⟩ = some (.string vl) := (blk_cell BC14.out 3).trans rfl
                  go_wp2_with ((with_reducible refine gate_builtin (b := .append) (xs := #[.tmp 51, .tmp 53]) rfl ?_); at_builtin; refine Kd.S_append k50 (w0 := w14) H0 rfl (.tmp 51) (.tmp 53) 45 50 (.agg #[(.int .u8 0), (.string ⟨#[]⟩), (.bool false), (.string ⟨#[]⟩)]) 48 rfl Try.underlying45 info50 rfl (by decide) (by omega) vc cs (⟨key, n == 0, vl⟩ : S50) [.int .u8 key.f0, .string key.f1, .bool (n == 0), .string vl] (fun _ => True) (fun _ => False) rfl rfl ?aP (fun _ hk => hk.elim) ?aF ?aO ?aB ?aS ?aL ?_; (case aP => exact k50_mkM _ _ _ _); (case aF => exact (fun _ _ => trivial)); (case aO => exact Kd.S_mono SC14.out (fun _ _ => ⟨trivial, fun h => h⟩)); (case aB => exact Below.refl _ _); (case aS => exact Nat.le_of_lt (Nat.lt_trans GH0.out (blk_lt BH14.out))); (case aL => have := HA2.out; omega); intro v15 w15 ho hb hgw hat; have SC15 := Aside0.mk ho; have HGW := Aside0.mk hgw; clear ho hb hgw hat; have hzt1 : w15.cell? ⟨gt, 1, none⟩ = some vc := (blk_cell ((Stay.of_grown HGW.out).blk BT14.out (Kd.S_ne SC14.out BT14.out (by decide))) 1).trans rfl; have hft1 := blk_frozen ((Stay.of_grown HGW.out).blk BT14.out (Kd.S_ne SC14.out BT14.out (by decide))) 1; (obtain ⟨cs2, hcs2⟩ : ∃ c, c = cs ++ [(⟨key, n == 0, vl⟩ : S50)] := ⟨_, rfl⟩); rw [← hcs2] at SC15 Q9; have HC2 : Aside0 (cs2.length = cs.length + 1) := ⟨by rw [hcs2, List.length_append]; rfl⟩; clear hcs2; obtain ⟨A15, c15, rfl⟩ := Kd.S_slice SC15.out)
                  have G15 := Aside0.mk (Stay.of_grown HGW.out)
                  have hsb : Aside0 (∀ i, some i = vc.ownBlock → H0 ≤ i) := ⟨fun i hi => Kd.S_base SC14.out i hi.symm⟩
                  have S15 := Aside0.mk (S_stay S14.out G15.out (fun k hk e => by have := hsb.out k e; omega))
                  have R15 := Aside0.mk (R14.out.stay G15.out (by obtain ⟨A, c, hb, _⟩ := R14.out; exact Kd.S_ne SC14.out hb (by decide)))
                  have BE15 := Aside0.mk (G15.out.blk BE14.out (Kd.S_ne SC14.out BE14.out (by decide)))
                  have BT15 := Aside0.mk (G15.out.blk BT14.out (Kd.S_ne SC14.out BT14.out (by decide)))
                  have BH15 := Aside0.mk (G15.out.blk BH14.out (Kd.S_ne SC14.out BH14.out (by decide)))
                  have ST15 := Aside0.mk (ST14.out.step G15.out (fun i hi => Or.inr (by have := hsb.out i hi; have := WH0.out; omega)))
                  clear S14 R14 BE14 BT14 BH14 ST14 SC14 BC14 hsb HGW G15
                  have T15 : Aside0 (Stay (fun k => k = gt) w15 (w15.setCell ⟨gt, 1, none⟩ (.slice A15 cs2.length c15))) := ⟨(Stay.refl (fun k => k = gt) w15).set (.inl rfl) 1 _⟩
                  have SC16 := Aside0.mk (Kd.S_set SC15.out BT15.out (by decide) 1 (.slice A15 cs2.length c15))
                  have S16 := Aside0.mk (S_stay S15.out T15.out (fun k hk e => by have := GT0.out; omega))
                  have R16 := Aside0.mk (R15.out.stay T15.out (fun e => by have := GG0.out; have := GT0.out; omega))
                  have BE16 := Aside0.mk (T15.out.blk BE15.out (by have := GT0.out; have := GE0.out; omega))
                  have BT16 := Aside0.mk (blk_put (cs := #[.int .u64 (N * 4294967296 + tid), vc]) BT15.out 1 (.slice A15 cs2.length c15) rfl)
                  have BH16 := Aside0.mk (T15.out.blk BH15.out (by have := GH0.out; have := GT0.out; omega))
                  have ST16 := Aside0.mk (ST15.out.step T15.out (fun i hi => Or.inr (by have := GT0.out; have := WH0.out; omega)))
                  clear S15 R15 BE15 BT15 BH15 ST15 SC15 T15 hzt1 hft1 hzc0 hzc1 hzc2 hzc3
                  generalize w15.setCell ⟨gt, 1, none⟩ (.slice A15 cs2.length c15) = w16 at SC16 S16 R16 BE16 BT16 BH16 ST16 ⊢
                  go_wp2_with fail
                  go_roundg gk2
                  case measure => omega
                  case rel => exact ⟨cs2, key, l3, x34 + 1, .slice A15 cs2.length c15, rfl, ⟨by have := HX2.out; omega⟩, by omega, by omega, ⟨by have := HA2.out; have := HC2.out; omega⟩, Q9, R16, BE16, BT16, BH16, SC16, S16, ST16⟩
            · have dp2 : decide (x34 < m) = false := decide_eq_false hp2
              have hk0 : gk = 0 := by have := HX2.out; omega
              subst hk0
              have H := QC.out
              simp only [takeChangesL] at H
              obtain rfl := Option.some.inj H
              have Q6 : Aside0 (takeTxnsL k N gk1 tid (acc ++ [⟨N * 4294967296 + tid, cs⟩]) l' = some q3) := ⟨Q5.out⟩
              clear QC H Q5
              obtain ⟨Ac, cc, rfl⟩ := Kd.S_slice SC2.out
              have hgw : wr.heap[gt]? = some (.cells #[.int .u64 (N * 4294967296 + tid), .slice Ac cs.length cc] 47 (0, 0)) := BT2.out
              have hze1 : wr.cell? ⟨ge, 1, none⟩ = some v := (blk_cell BE2.out 1).trans rfl
              have hzt0 : wr.cell? ⟨gt, 0, none⟩ = some (.int .u64 (N * 4294967296 + tid)) := (blk_cell BT2.out 0).trans rfl
              have hzt1 : wr.cell? ⟨gt, 1, none⟩ = some (.slice Ac cs.length cc) := (blk_cell BT2.out 1).trans rfl
              have HVL : Aside0 (∀ k, v.ownBlock = some k → k < H0) := ⟨(Kd.S_R S2.out).1⟩
              clear hgw
              go_wp2_with ((with_reducible refine gate_builtin (b := .append) (xs := #[.tmp 58, .tmp 60]) rfl ?_); at_builtin; refine Kd.S_append k47 (w0 := wr) w.heap.size rfl (.tmp 58) (.tmp 60) 23 47 (.agg #[(.int .u64 0), (.slice none 0 0)]) 32 rfl Try.underlying23 info47 rfl (by decide) (by omega) v acc (⟨N * 4294967296 + tid, cs⟩ : S47) [.int .u64 (N * 4294967296 + tid), .slice Ac cs.length cc] (fun _ => True) (fun k => H0 ≤ k) rfl rfl ?aP ?aK ?aF ?aO ?aB ?aS ?aL ?_; (case aP => exact k47_mkM _ _ _ _ (Kd.R_lower (Kd.R_mono (Kd.R_bound (Kd.S_R SC2.out)) (fun k hk => hk.2.1)) WH0.out)); (case aK => exact (fun k hk => ⟨trivial, fun e => by have := HVL.out k e.symm; omega⟩)); (case aF => exact (fun _ _ => trivial)); (case aO => exact Kd.S_mono S2.out (fun k hk => ⟨trivial, by omega⟩)); (case aB => exact Below.refl _ _); (case aS => exact ST2.out.size); (case aL => have := HA.out; omega); intro v17 w17 ho hb hgw hat; have S17 := Aside0.mk ho; have HGW := Aside0.mk hgw; clear ho hb hgw hat; have hze1 : w17.cell? ⟨ge, 1, none⟩ = some v := (blk_cell ((Stay.of_grown HGW.out).blk BE2.out (Kd.S_ne S2.out BE2.out (by decide))) 1).trans rfl; have hfe1 := blk_frozen ((Stay.of_grown HGW.out).blk BE2.out (Kd.S_ne S2.out BE2.out (by decide))) 1; (obtain ⟨acc2, hacc2⟩ : ∃ c, c = acc ++ [(⟨N * 4294967296 + tid, cs⟩ : S47)] := ⟨_, rfl⟩); rw [← hacc2] at S17 Q6; have HC2 : Aside0 (acc2.length = acc.length + 1) := ⟨by rw [hacc2, List.length_append]; rfl⟩; clear hacc2; obtain ⟨A17, c17, rfl⟩ := Kd.S_slice S17.out)
              have G17 := Aside0.mk (Stay.of_grown HGW.out)
              have hsb : Aside0 (∀ i, some i = v.ownBlock → w.heap.size ≤ i) := ⟨fun i hi => Kd.S_base S2.out i hi.symm⟩
              have R17 := Aside0.mk (R2.out.stay G17.out (by obtain ⟨A, c, hb, _⟩ := R2.out; exact Kd.S_ne S2.out hb (by decide)))
              have BE17 := Aside0.mk (G17.out.blk BE2.out (Kd.S_ne S2.out BE2.out (by decide)))
              have ST17 := Aside0.mk (ST2.out.step G17.out (fun i hi => Or.inr (hsb.out i hi)))
              clear S2 R2 BE2 BT2 BH2 ST2 SC2 hsb HGW G17
              have T17 : Aside0 (Stay (fun k => k = ge) w17 (w17.setCell ⟨ge, 1, none⟩ (.slice A17 acc2.length c17))) := ⟨(Stay.refl (fun k => k = ge) w17).set (.inl rfl) 1 _⟩
              have S18 := Aside0.mk (Kd.S_set S17.out BE17.out (by decide) 1 (.slice A17 acc2.length c17))
              have R18 := Aside0.mk (R17.out.stay T17.out (fun e => hne1 e.symm))
              have BE18 := Aside0.mk (blk_put (cs := #[.int .u32 N, v]) BE17.out 1 (.slice A17 acc2.length c17) rfl)
              have ST18 := Aside0.mk (ST17.out.step T17.out (fun i hi => Or.inr (by rw [hi, HE.out]; exact Nat.le_refl _)))
              clear S17 R17 BE17 ST17 T17 hze1 hfe1 hzt0 hzt1
              generalize w17.setCell ⟨ge, 1, none⟩ (.slice A17 acc2.length c17) = w18 at S18 R18 BE18 ST18 ⊢
              go_wp2_with fail
              go_roundg gk1
              case measure => omega
              case rel => exact ⟨acc2, tid, l', x15 + 1, .slice A17 acc2.length c17, rfl, rfl, ⟨by have := HX.out; omega⟩, by omega, by omega, by omega, by omega, ⟨by have := HA.out; have := HC2.out; omega⟩, Q6, R18, BE18, S18, ST18⟩
      · have dp : decide (x15 < n2) = false := decide_eq_false hp
        have hk0 : gk = 0 := by have := HX.out; omega
        subst hk0
        have H := TX.out
        simp only [takeTxnsL] at H
        obtain rfl := Option.some.inj H
        obtain rfl : .ok ((N, acc), l') = q := Option.some.inj FQ.out
        obtain ⟨Av, cv, rfl⟩ := Kd.S_slice S2.out
        have hze0 : wr.cell? ⟨ge, 0, none⟩ = some (.int .u32 N) := (blk_cell BE2.out 0).trans rfl
        have hze1 : wr.cell? ⟨ge, 1, none⟩ = some (.slice Av acc.length cv) := (blk_cell BE2.out 1).trans rfl
        have hfe0 := blk_frozen BE2.out 0
        have hfe1 := blk_frozen BE2.out 1
        go_wp2_with fail
        have T3 : Stay (fun k => k = ge) wr ((wr.setCell ⟨ge, 0, none⟩ (.int .u32 N)).setCell ⟨ge, 1, none⟩ (.slice Av acc.length cv)) := ((Stay.refl (fun k => k = ge) wr).set (.inl rfl) 0 _).set (.inl rfl) 1 _
        have HS := Kd.S_set (Kd.S_set S2.out BE2.out (by decide) 0 (.int .u32 N)) (blk_put (cs := #[.int .u32 N, .slice Av acc.length cv]) BE2.out 0 (.int .u32 N) rfl) (by decide) 1 (.slice Av acc.length cv)
        have HF := Aside0.mk HS
        have RF := Aside0.mk (R2.out.stay T3 (fun e => hne1 e.symm))
        have SF := Aside0.mk (ST2.out.step T3 (fun i hi => Or.inr (by rw [hi, HE.out]; exact Nat.le_refl _)))
        clear HS T3
        refine bodyPost_ret (by simp [results, Try.results53, go_sem, hze0, hze1]; try rfl) rfl ?_
        exact ⟨⟨_, rfl, HF.out, RF.out⟩, SF.out⟩
end Go.Proofs.Ytgmdoapedhppmaa.PC

namespace Go.Proofs.Ytgmdoapedhppmaa.PC
set_option linter.unusedVariables false
set_option linter.unusedSimpArgs false
open Go.RowKit Go.Proofs.YtgmdoapedhppmaaW.PrintWords Go.Proofs.YtgmdoapedhppmaaW.PrintLast Go.Proofs.YtgmdoapedhppmaaW.PrintMore
/-- Decode, as a plain function: the number, the transactions, what is wrong. -/
def codec_Decode.f (l : List Int) : Option (Int × List S47 × Int) := (takeEpoch 40 l).map fun q => (epN (finish q), epL (finish q), epE (finish q))
/-- DecodeRows, as a plain function. -/
def codec_DecodeRows.f (l : List Int) : Option (List S57 × Int) := (takeRows 40 l).map fun q => (rowsL (finish q), epE (finish q))
theorem codec_Decode.calls (A0 : Option Addr) (c0 : Nat) (l0 : List Int) (r1 : Int) (r2 : List S47) (r3 : Int) (w : World) (hr0 : Kd.C (Kd.int .u8) w A0 l0.length l0) (hc0 : l0.length ≤ c0) (h : codec_Decode.f l0 = some (r1, r2, r3)) :
    Calls Try.prog 28 #[.slice A0 l0.length c0] w fun e w' => ∃ v0_ : Value, e = .returned (.tuple #[.agg #[.int .u32 r1, v0_], .int .i64 r3]) ∧ Kd.S k47 47 w' w.heap.size (fun _ => True) v0_ r2 ∧ Below w.heap.size w w' := by
  unfold codec_Decode.f at h
  obtain ⟨q, hq, h⟩ := Option.map_eq_some_iff.1 h
  injection h with h1 h2
  injection h2 with h2 h3
  rw [← h1, ← h2, ← h3]
  exact decode_epoch (takeEpoch 40) (epoch_calls 40) A0 c0 l0 q w hr0 hc0 hq
theorem codec_DecodeRows.calls (A0 : Option Addr) (c0 : Nat) (l0 : List Int) (r1 : List S57) (r2 : Int) (w : World) (hr0 : Kd.C (Kd.int .u8) w A0 l0.length l0) (hc0 : l0.length ≤ c0) (h : codec_DecodeRows.f l0 = some (r1, r2)) :
    Calls Try.prog 29 #[.slice A0 l0.length c0] w fun e w' => ∃ v0_ : Value, e = .returned (.tuple #[v0_, .int .i64 r2]) ∧ Kd.R k57 57 w' w.heap.size (fun _ => True) v0_ r1 ∧ Below w.heap.size w w' := by
  unfold codec_DecodeRows.f at h
  obtain ⟨q, hq, h⟩ := Option.map_eq_some_iff.1 h
  injection h with h1 h2
  rw [← h1, ← h2]
  refine (decode_rows (takeRows 40) (rows_calls 40) A0 c0 l0 q w hr0 hc0 hq).mono ?_
  rintro e w' ⟨v, h1, h2, h3⟩
  exact ⟨v, h1, Kd.S_R h2, h3⟩
end Go.Proofs.Ytgmdoapedhppmaa.PC

namespace Go.Proofs.Ytgmdoapedhppmaa.PC
set_option linter.unusedVariables false
set_option linter.unusedSimpArgs false
open Go.RowKit Go.Proofs.YtgmdoapedhppmaaW.PrintWords Go.Proofs.YtgmdoapedhppmaaW.PrintLast Go.Proofs.YtgmdoapedhppmaaW.PrintMore
attribute [local go_sem] max2_int min2_int max_two min_two max_three min_three max_four min_four
/-- A string, cut. -/
def cutS (b : Int) (s : ByteArray) : ByteArray := s.extract 0 (if b < (s.size : Int) then b else (s.size : Int)).toNat
/-- A row, its name and its value cut. -/
def cutRow (x : S57) : S57 := ⟨⟨x.f0.f0, cutS 70 x.f0.f1⟩, cutS 300 x.f1⟩
/-- fewRows, as a plain function. -/
def tidemarklaw04_fewRows.f (l : List S57) : Option (List S57) := some ((l.take 60).map cutRow)
theorem cutS_70 (s : ByteArray) : s.extract 0 (if (70 : Int) < (s.size : Int) then 70 else (s.size : Int)).toNat = cutS 70 s := rfl
theorem cutS_300 (s : ByteArray) : s.extract 0 (if (300 : Int) < (s.size : Int) then 300 else (s.size : Int)).toNat = cutS 300 s := rfl
theorem take_snoc57 (l : List S57) (i : Int) (h0 : 0 ≤ i) (h1 : i < l.length) : (l.take i.toNat).map cutRow ++ [cutRow (rd_T57 l i)] = (l.take (i + 1).toNat).map cutRow := by
  have e : (i + 1).toNat = i.toNat + 1 := by omega
  have hl : i.toNat < l.length := by omega
  rw [e, List.take_succ_eq_append_getElem hl, List.map_append, List.map_singleton]
  unfold rd_T57
  rw [List.getD_eq_getElem?_getD, List.getElem?_eq_getElem hl]
  rfl
set_option maxRecDepth 100000 in
set_option maxHeartbeats 4000000 in
theorem tidemarklaw04_fewRows.calls (A0 : Option Addr) (c0 : Nat) (l0 : List S57) (r : List S57) (w : World) (hr0 : Kd.C k57 w A0 l0.length l0) (hc0 : l0.length ≤ c0) (h : tidemarklaw04_fewRows.f l0 = some r) :
    Calls Try.prog 15 #[.slice A0 l0.length c0] w fun e w' => ∃ v0_ : Value, e = .returned v0_ ∧ Kd.R k57 57 w' w.heap.size (fun _ => True) v0_ r ∧ Below w.heap.size w w' := by
  have HF := Aside0.mk (Option.some.inj h)
  have HR := Aside0.mk hr0
  have HC0 := Aside0.mk hc0
  have HL : (l0.length : Int) ≤ 9223372036854775807 := by have := hr0.2.1; omega
  clear hr0 hc0 h
  go_enter Try.func15, Try.ntmps15
  go_wp2_with fail
  go_loopg [3, 4] 60 (fun kq v3 v4 w' => ∃ (x4 : Int) (acc : List S57), v4 = .int .i64 x4 ∧ Aside0 (acc = (l0.take x4.toNat).map cutRow) ∧ Aside0 (x4 + (kq : Int) = 60) ∧ 0 ≤ x4 ∧ x4 ≤ (l0.length : Int) ∧ x4 ≤ 60 ∧ Aside0 (Kd.R k57 57 w' w.heap.size (fun _ => True) v3 acc) ∧ Aside0 (Below w.heap.size w w'))
  case atStart => exact ⟨0, [], rfl, ⟨rfl⟩, ⟨by omega⟩, by omega, by omega, by omega, ⟨Kd.R_nil _ _ _ _ _⟩, ⟨Below.refl _ _⟩⟩
  case round =>
    obtain ⟨x4, acc, rfl, HC, HX, hx0, hx1, hx6, R2, B2⟩ := hrel
    by_cases hp : x4 < (l0.length : Int)
    · have dp : decide (x4 < (l0.length : Int)) = true := decide_eq_true hp
      by_cases hq : x4 < 60
      · have dq : decide (x4 < 60) = true := decide_eq_true hq
        cases gk with
        | zero => exact absurd HX.out (by omega)
        | succ gk1 =>
        obtain ⟨ad, e150, hz0, hz1, hz2⟩ := at_T57 HR.out x4 hx0 hp
        have TS := Aside0.mk (take_snoc57 l0 x4 hx0 hp)
        cases e150
        replace hz0 := (B2.out.cell (World.block_lt_of_cell? w _ hz0)).trans hz0
        replace hz1 := (B2.out.cell (World.block_lt_of_cell? w _ hz1)).trans hz1
        replace hz2 := (B2.out.cell (World.block_lt_of_cell? w _ hz2)).trans hz2
        generalize rd_T57 l0 x4 = r0 at hz0 hz1 hz2 TS
        obtain ⟨⟨tb, nm⟩, vl⟩ := r0
        simp only at hz0 hz1 hz2
        have px := eq_true hx0
        have qx := eq_true hp
        go_upto_region 6 with (first | ((with_reducible refine gate_dst (N := 5) rfl ?_); refine box_event ?hg (N := 5) ?hd (cs := #[.int .u8 0, .string (⟨#[]⟩ : ByteArray), .string (⟨#[]⟩ : ByteArray)]) (t := 57) ?hr ?_; (case hd => rfl); (case hg => rfl); (case hr => first | (go_simp; done) | (go_simp; rfl)); intro gc hgc w3 hbox hb; have BC3 := Aside0.mk hbox; have HGC := Aside0.mk hgc; have HB3 := Aside0.mk hb; have hy0 := (blk_cell hbox 0).trans rfl; have hy1 := (blk_cell hbox 1).trans rfl; have hy2 := (blk_cell hbox 2).trans rfl; have hf0 := blk_frozen hbox 0; have hf1 := blk_frozen hbox 1; have hf2 := blk_frozen hbox 2; clear hb hbox hgc))
        have T3 : Aside0 (Stay (fun k => k = gc) w3 (((w3.setCell ⟨gc, 0, none⟩ (.int .u8 tb)).setCell ⟨gc, 1, none⟩ (.string nm)).setCell ⟨gc, 2, none⟩ (.string vl))) := ⟨(((Stay.refl (fun k => k = gc) w3).set (.inl rfl) 0 _).set (.inl rfl) 1 _).set (.inl rfl) 2 _⟩
        have BC4 := Aside0.mk (blk_put (cs := #[.int .u8 tb, .string nm, .string (⟨#[]⟩ : ByteArray)]) (blk_put (cs := #[.int .u8 tb, .string (⟨#[]⟩ : ByteArray), .string (⟨#[]⟩ : ByteArray)]) (blk_put (cs := #[.int .u8 0, .string (⟨#[]⟩ : ByteArray), .string (⟨#[]⟩ : ByteArray)]) BC3.out 0 (.int .u8 tb) rfl) 1 (.string nm) rfl) 2 (.string vl) rfl)
        have GC0 : Aside0 (w.heap.size ≤ gc) := ⟨by rw [HGC.out]; exact B2.out.size⟩
        have GCN := Aside0.mk (Kd.R_bound R2.out)
        have B4 := Aside0.mk (T3.out.below (below_step B2.out HB3.out) (fun i hi => by rw [hi]; exact GC0.out))
        have R4 := Aside0.mk (Kd.R_step (Kd.R_below (Kd.R_mono GCN.out (fun k hk => (by have := hk.2.2.1; rw [HGC.out]; omega : k ≠ gc))) HB3.out) (fun k hk hlt => T3.out.block k hlt hk))
        clear hz0 hz1 hz2 hy0 hy1 hy2 hf0 hf1 hf2 BC3 T3 B2 R2 HB3 HGC GCN
        generalize ((w3.setCell ⟨gc, 0, none⟩ (.int .u8 tb)).setCell ⟨gc, 1, none⟩ (.string nm)).setCell ⟨gc, 2, none⟩ (.string vl) = w4 at BC4 B4 R4 ⊢
        have hy1 : w4.cell? ⟨gc, 1, none⟩ = some (.string nm) := (blk_cell BC4.out 1).trans rfl
        have hf1 := blk_frozen BC4.out 1
        go_upto_region 7 with (fail)
        rw [cutS_70]
        generalize (if (70 : Int) < (nm.size : Int) then 70 else (nm.size : Int)) = mm1
        have T4 : Aside0 (Stay (fun k => k = gc) w4 (w4.setCell ⟨gc, 1, none⟩ (.string (cutS 70 nm)))) := ⟨(Stay.refl (fun k => k = gc) w4).set (.inl rfl) 1 _⟩
        have BC5 := Aside0.mk (blk_put (cs := #[.int .u8 tb, .string nm, .string vl]) BC4.out 1 (.string (cutS 70 nm)) rfl)
        have B5 := Aside0.mk (T4.out.below B4.out (fun i hi => by rw [hi]; exact GC0.out))
        have R5 := Aside0.mk (Kd.R_step R4.out (fun k hk hlt => T4.out.block k hlt hk))
        clear hy1 hf1 BC4 T4 B4 R4
        generalize w4.setCell ⟨gc, 1, none⟩ (.string (cutS 70 nm)) = w5 at BC5 B5 R5 ⊢
        have hy2 : w5.cell? ⟨gc, 2, none⟩ = some (.string vl) := (blk_cell BC5.out 2).trans rfl
        have hf2 := blk_frozen BC5.out 2
        go_upto_region 8 with (fail)
        rw [cutS_300]
        generalize (if (300 : Int) < (vl.size : Int) then 300 else (vl.size : Int)) = mm2
        have T5 : Aside0 (Stay (fun k => k = gc) w5 (w5.setCell ⟨gc, 2, none⟩ (.string (cutS 300 vl)))) := ⟨(Stay.refl (fun k => k = gc) w5).set (.inl rfl) 2 _⟩
        have BC6 := Aside0.mk (blk_put (cs := #[.int .u8 tb, .string (cutS 70 nm), .string vl]) BC5.out 2 (.string (cutS 300 vl)) rfl)
        have B6 := Aside0.mk (T5.out.below B5.out (fun i hi => by rw [hi]; exact GC0.out))
        have R6 := Aside0.mk (Kd.R_step R5.out (fun k hk hlt => T5.out.block k hlt hk))
        clear hy2 hf2 BC5 T5 B5 R5
        generalize w5.setCell ⟨gc, 2, none⟩ (.string (cutS 300 vl)) = w6 at BC6 B6 R6 ⊢
        have hy0 : w6.cell? ⟨gc, 0, none⟩ = some (.int .u8 tb) := (blk_cell BC6.out 0).trans rfl
        have hy1 : w6.cell? ⟨gc, 1, none⟩ = some (.string (cutS 70 nm)) := (blk_cell BC6.out 1).trans rfl
        have hy2 : w6.cell? ⟨gc, 2, none⟩ = some (.string (cutS 300 vl)) := (blk_cell BC6.out 2).trans rfl
        have HLN : Aside0 (acc.length ≤ 60) := ⟨by rw [HC.out, List.length_map, List.length_take]; omega⟩
        go_wp2_with ((with_reducible refine gate_builtin (b := .append) (xs := #[.tmp 39, .tmp 41]) rfl ?_); at_builtin; refine Kd.R_append k57 (w0 := w6) w.heap.size rfl (.tmp 39) (.tmp 41) 26 57 (.agg #[(.int .u8 0), (.string ⟨#[]⟩), (.string ⟨#[]⟩)]) 40 rfl Try.underlying26 info57 rfl (by decide) (by omega) u3 acc (⟨⟨tb, cutS 70 nm⟩, cutS 300 vl⟩ : S57) [.int .u8 tb, .string (cutS 70 nm), .string (cutS 300 vl)] (fun _ => True) (fun _ => False) rfl rfl ?aP (fun _ hk => hk.elim) ?aF ?aO ?aB ?aS ?aL ?_; (case aP => exact k57_mkM _ _ _ _); (case aF => exact (fun _ _ => trivial)); (case aO => exact Kd.R_mono R6.out (fun _ _ => trivial)); (case aB => exact Below.refl _ _); (case aS => exact B6.out.size); (case aL => have := HLN.out; omega); intro v7 w7 ho hb hgw hat; have R7 := Aside0.mk ho; have B7 : Aside0 (Below w.heap.size w w7) := ⟨(Stay.of_grown hgw).below B6.out (fun i hi => by have hi : some i = u3.ownBlock := hi; exact Kd.R_base R6.out i hi.symm)⟩; clear ho hb hgw hat; (obtain ⟨acc2, hacc2⟩ : ∃ a, a = acc ++ [(⟨⟨tb, cutS 70 nm⟩, cutS 300 vl⟩ : S57)] := ⟨_, rfl⟩); rw [← hacc2] at R7; have HC2 : Aside0 (acc2 = (l0.take (x4 + 1).toNat).map cutRow) := ⟨by rw [hacc2, HC.out]; exact TS.out⟩; clear hacc2; obtain ⟨A7, c7, rfl⟩ := Kd.R_slice R7.out)
        go_roundg gk1
        case measure => omega
        case rel => exact ⟨x4 + 1, acc2, rfl, HC2, ⟨by have := HX.out; omega⟩, by omega, by omega, by omega, R7, B7⟩
      · have dq : decide (x4 < 60) = false := decide_eq_false hq
        have R3 : Aside0 (acc = r) := ⟨by rw [← HF.out, HC.out, show x4 = 60 by omega]; rfl⟩
        obtain ⟨A3, c3, rfl⟩ := Kd.R_slice R2.out
        go_wp2_with fail
        go_ret
        exact ⟨_, rfl, by rw [← R3.out]; exact R2.out, B2.out⟩
    · have dp : decide (x4 < (l0.length : Int)) = false := decide_eq_false hp
      have R3 : Aside0 (acc = r) := ⟨by rw [← HF.out, HC.out, List.take_of_length_le (by omega), List.take_of_length_le (by omega)]⟩
      obtain ⟨A3, c3, rfl⟩ := Kd.R_slice R2.out
      go_wp2_with fail
      go_ret
      exact ⟨_, rfl, by rw [← R3.out]; exact R2.out, B2.out⟩
end Go.Proofs.Ytgmdoapedhppmaa.PC

namespace Go.Proofs.Ytgmdoapedhppmaa.PC
set_option linter.unusedVariables false
set_option linter.unusedSimpArgs false
open Go.RowKit Go.Proofs.YtgmdoapedhppmaaW.PrintWords Go.Proofs.YtgmdoapedhppmaaW.PrintLast Go.Proofs.YtgmdoapedhppmaaW.PrintMore
attribute [local go_sem] max2_int min2_int max_two min_two max_three min_three max_four min_four
/-- A change, its name and its value cut. -/
def cutChange (x : S50) : S50 := ⟨⟨x.f0.f0, cutS 70 x.f0.f1⟩, x.f1, cutS 300 x.f2⟩
/-- A transaction, of few changes. -/
def cutTxn (t : S47) : S47 := ⟨t.f0, (t.f1.take 40).map cutChange⟩
/-- few, as a plain function. -/
def tidemarklaw04_few.f (a : Int) (l : List S47) : Option (Int × List S47) := some (a, (l.take 70).map cutTxn)
theorem take_snoc50 (l : List S50) (i : Int) (h0 : 0 ≤ i) (h1 : i < l.length) : (l.take i.toNat).map cutChange ++ [cutChange (rd_T50 l i)] = (l.take (i + 1).toNat).map cutChange := by
  have e : (i + 1).toNat = i.toNat + 1 := by omega
  have hl : i.toNat < l.length := by omega
  rw [e, List.take_succ_eq_append_getElem hl, List.map_append, List.map_singleton]
  unfold rd_T50
  rw [List.getD_eq_getElem?_getD, List.getElem?_eq_getElem hl]
  rfl
theorem take_snoc47 (l : List S47) (i : Int) (h0 : 0 ≤ i) (h1 : i < l.length) : (l.take i.toNat).map cutTxn ++ [cutTxn (rd_T47 l i)] = (l.take (i + 1).toNat).map cutTxn := by
  have e : (i + 1).toNat = i.toNat + 1 := by omega
  have hl : i.toNat < l.length := by omega
  rw [e, List.take_succ_eq_append_getElem hl, List.map_append, List.map_singleton]
  unfold rd_T47
  rw [List.getD_eq_getElem?_getD, List.getElem?_eq_getElem hl]
  rfl
set_option maxRecDepth 100000 in
set_option maxHeartbeats 4000000 in
theorem tidemarklaw04_few.calls (a0 : Int) (A0 : Option Addr) (c0 : Nat) (l0 : List S47) (r1 : Int) (r2 : List S47) (w : World) (hr0 : Kd.C k47 w A0 l0.length l0) (hc0 : l0.length ≤ c0) (h : tidemarklaw04_few.f a0 l0 = some (r1, r2)) :
    Calls Try.prog 14 #[.agg #[.int .u32 a0, .slice A0 l0.length c0]] w fun e w' => ∃ v0_ : Value, e = .returned (.agg #[.int .u32 r1, v0_]) ∧ Kd.S k47 47 w' w.heap.size (fun _ => True) v0_ r2 ∧ Below w.heap.size w w' := by
  unfold tidemarklaw04_few.f at h
  injection h with h
  injection h with h1 h2
  subst h1
  have HF := Aside0.mk h2
  have HR := Aside0.mk hr0
  have HC0 := Aside0.mk hc0
  have HL : (l0.length : Int) ≤ 9223372036854775807 := by have := hr0.2.1; omega
  clear hr0 hc0 h2
  go_enter Try.func14, Try.ntmps14
  go_upto_region 1 with (first | ((with_reducible refine gate_dst (N := 1) rfl ?_); refine box_event ?hg (N := 1) ?hd (cs := #[.int .u32 a0, .slice A0 l0.length c0]) (t := 25) ?hr ?_; (case hd => rfl); (case hg => rfl); (case hr => first | (go_simp; done) | (go_simp; rfl)); intro g1 hg1 w1 hbox hb; have BA1 := Aside0.mk hbox; have HG1 := Aside0.mk hg1; have HB1 := Aside0.mk hb; clear hb hbox hg1) | ((with_reducible refine gate_dst (N := 2) rfl ?_); refine box_event ?hg (N := 2) ?hd (cs := #[.int .u32 0, .slice none 0 0]) (t := 25) ?hr ?_; (case hd => rfl); (case hg => rfl); (case hr => first | (go_simp; done) | (go_simp; rfl)); intro g2 hg2 w2 hbox hb; have BB2 := Aside0.mk hbox; have HG2 := Aside0.mk hg2; have HB2 := Aside0.mk hb; clear hb hbox hg2))
  have BA2 := Aside0.mk (blk_below BA1.out HB2.out)
  have B2 := Aside0.mk (below_step HB1.out HB2.out)
  have L12 : Aside0 (g1 < g2) := ⟨by rw [HG2.out]; exact blk_lt BA1.out⟩
  have W1 : Aside0 (w.heap.size ≤ g1) := ⟨by rw [HG1.out]; exact Nat.le_refl _⟩
  clear BA1 HB1 HB2 HG1 HG2
  have hz0 : w2.cell? ⟨g1, 0, none⟩ = some (.int .u32 a0) := (blk_cell BA2.out 0).trans rfl
  go_upto_region 2 with (first | ((with_reducible refine gate_dst (N := 3) rfl ?_); refine box_event ?hg (N := 3) ?hd (cs := #[.int .u32 0, .slice none 0 0]) (t := 25) ?hr ?_; (case hd => rfl); (case hg => rfl); (case hr => first | (go_simp; done) | (go_simp; rfl)); intro g3 hg3 w3 hbox hb; have BE3 := Aside0.mk hbox; have HG3 := Aside0.mk hg3; have HB3 := Aside0.mk hb; have hy0 := (blk_cell hbox 0).trans rfl; have hy1 := (blk_cell hbox 1).trans rfl; have hf0 := blk_frozen hbox 0; have hf1 := blk_frozen hbox 1; clear hb hbox hg3))
  have L23 : Aside0 (g2 < g3) := ⟨by rw [HG3.out]; exact blk_lt BB2.out⟩
  have T3 : Aside0 (Stay (fun k => k = g3) w3 ((w3.setCell ⟨g3, 0, none⟩ (.int .u32 a0)).setCell ⟨g3, 1, none⟩ (.slice none 0 0))) := ⟨((Stay.refl (fun k => k = g3) w3).set (.inl rfl) 0 _).set (.inl rfl) 1 _⟩
  have BE4 := Aside0.mk (blk_put (cs := #[.int .u32 a0, .slice none 0 0]) (blk_put (cs := #[.int .u32 0, .slice none 0 0]) BE3.out 0 (.int .u32 a0) rfl) 1 (.slice none 0 0) rfl)
  have BA4 := Aside0.mk (T3.out.blk (blk_below BA2.out HB3.out) (by have := L12.out; have := L23.out; omega))
  have BB4 := Aside0.mk (T3.out.blk (blk_below BB2.out HB3.out) (by have := L23.out; omega))
  have B4 := Aside0.mk (T3.out.below (below_step B2.out HB3.out) (fun i hi => by have := L12.out; have := L23.out; have := W1.out; omega))
  clear hz0 hy0 hy1 hf0 hf1 BE3 BA2 BB2 B2 T3 HB3 HG3
  generalize (w3.setCell ⟨g3, 0, none⟩ (.int .u32 a0)).setCell ⟨g3, 1, none⟩ (.slice none 0 0) = w4 at BE4 BA4 BB4 B4 ⊢
  go_wp2_with fail
  go_loopg [4] 70 (fun kq v4 w' => ∃ (x4 : Int) (acc : List S47) (v : Value), v4 = .int .i64 x4 ∧ Aside0 (acc = (l0.take x4.toNat).map cutTxn) ∧ Aside0 (x4 + (kq : Int) = 70) ∧ 0 ≤ x4 ∧ x4 ≤ (l0.length : Int) ∧ x4 ≤ 70 ∧ Aside0 (w'.heap[g1]? = some (.cells #[.int .u32 a0, .slice A0 l0.length c0] 25 (0, 0))) ∧ Aside0 (w'.heap[g2]? = some (.cells #[.int .u32 0, .slice none 0 0] 25 (0, 0))) ∧ Aside0 (w'.heap[g3]? = some (.cells #[.int .u32 a0, v] 25 (0, 0))) ∧ Aside0 (Kd.S k47 47 w' w.heap.size (fun _ => True) v acc) ∧ Aside0 (Below w.heap.size w w'))
  case atStart => exact ⟨0, [], .slice none 0 0, rfl, ⟨rfl⟩, ⟨by omega⟩, by omega, by omega, by omega, BA4, BB4, BE4, ⟨Kd.S_nil _ _ _ _ _⟩, B4⟩
  case round =>
    clear BA4 BB4 BE4 B4
    obtain ⟨x4, acc, v, rfl, HC, HX, hx0, hx1, hx6, BA2, BB2, BE2, S2, B2⟩ := hrel
    have hza1 : wr.cell? ⟨g1, 1, none⟩ = some (.slice A0 l0.length c0) := (blk_cell BA2.out 1).trans rfl
    by_cases hpq : x4 < (l0.length : Int) ∧ x4 < 70
    · obtain ⟨hp, hq⟩ := hpq
      · have dp : decide (x4 < (l0.length : Int)) = true := decide_eq_true hp
        have dq : decide (x4 < 70) = true := decide_eq_true hq
        cases gk with
        | zero => exact absurd HX.out (by omega)
        | succ gk1 =>
        obtain ⟨ad, A1, c1, e150, hz0, hz1, hl1, hR1⟩ := at_T47 HR.out x4 hx0 hp
        have TS := Aside0.mk (take_snoc47 l0 x4 hx0 hp)
        cases e150
        generalize rd_T47 l0 x4 = t0 at hz0 hz1 hl1 hR1 TS
        obtain ⟨tid, chs⟩ := t0
        simp only at hz0 hz1 hl1 hR1
        have HR1 := Aside0.mk hR1
        have HL1 : (chs.length : Int) ≤ 9223372036854775807 := by have := hR1.2.1; omega
        have HZ0 := Aside0.mk hz0
        have HZ1 := Aside0.mk hz1
        clear hR1 hl1 hz0 hz1
        have hz0 := (B2.out.cell (World.block_lt_of_cell? w _ HZ0.out)).trans HZ0.out
        have px := eq_true hx0
        have qx := eq_true hp
        go_upto_region 6 with (first | ((with_reducible refine gate_dst (N := 5) rfl ?_); refine box_event ?hg (N := 5) ?hd (cs := #[.int .u64 0, .slice none 0 0]) (t := 47) ?hr ?_; (case hd => rfl); (case hg => rfl); (case hr => first | (go_simp; done) | (go_simp; rfl)); intro gt hgt w3 hbox hb; have BT3 := Aside0.mk hbox; have HGT := Aside0.mk hgt; have HB3 := Aside0.mk hb; have hy0 := (blk_cell hbox 0).trans rfl; have hy1 := (blk_cell hbox 1).trans rfl; have hf0 := blk_frozen hbox 0; have hf1 := blk_frozen hbox 1; clear hb hbox hgt))
        have T3 : Aside0 (Stay (fun k => k = gt) w3 ((w3.setCell ⟨gt, 0, none⟩ (.int .u64 tid)).setCell ⟨gt, 1, none⟩ (.slice none 0 0))) := ⟨((Stay.refl (fun k => k = gt) w3).set (.inl rfl) 0 _).set (.inl rfl) 1 _⟩
        have BT4 := Aside0.mk (blk_put (cs := #[.int .u64 tid, .slice none 0 0]) (blk_put (cs := #[.int .u64 0, .slice none 0 0]) BT3.out 0 (.int .u64 tid) rfl) 1 (.slice none 0 0) rfl)
        obtain ⟨H0, hH0⟩ : ∃ n, n = wr.heap.size := ⟨_, rfl⟩
        have GT0 : Aside0 (gt = H0) := ⟨by rw [HGT.out, hH0]⟩
        have WH0 : Aside0 (w.heap.size ≤ H0) := ⟨by rw [hH0]; exact B2.out.size⟩
        have L1 : Aside0 (g1 < H0) := ⟨by rw [hH0]; exact blk_lt BA2.out⟩
        have L2 : Aside0 (g2 < H0) := ⟨by rw [hH0]; exact blk_lt BB2.out⟩
        have L3 : Aside0 (g3 < H0) := ⟨by rw [hH0]; exact blk_lt BE2.out⟩
        have S4 : Aside0 (Kd.S k47 47 ((w3.setCell ⟨gt, 0, none⟩ (.int .u64 tid)).setCell ⟨gt, 1, none⟩ (.slice none 0 0)) w.heap.size (fun k => k < H0) v acc) := ⟨S_stay (Kd.S_mono (Kd.S_old S2.out HB3.out) (fun k hk => by rw [hH0]; exact hk.2)) T3.out (fun k hk e => by have := GT0.out; omega)⟩
        have BA4 := Aside0.mk (T3.out.blk (blk_below BA2.out HB3.out) (by have := GT0.out; have := L1.out; omega))
        have BB4 := Aside0.mk (T3.out.blk (blk_below BB2.out HB3.out) (by have := GT0.out; have := L2.out; omega))
        have BE4 := Aside0.mk (T3.out.blk (blk_below BE2.out HB3.out) (by have := GT0.out; have := L3.out; omega))
        have B4 := Aside0.mk (T3.out.below (below_step B2.out HB3.out) (fun i hi => by have := GT0.out; have := WH0.out; omega))
        clear hza1 hz0 hy0 hy1 hf0 hf1 BT3 T3 B2 S2 BA2 BB2 BE2 HB3 HGT hH0
        generalize (w3.setCell ⟨gt, 0, none⟩ (.int .u64 tid)).setCell ⟨gt, 1, none⟩ (.slice none 0 0) = w4 at BT4 S4 BA4 BB4 BE4 B4 ⊢
        go_wp2_with fail
        obtain ⟨wo, hwo⟩ : ∃ wo : World, wo = wr := ⟨_, rfl⟩
        clear hwo
        go_loopg [6] 40 (fun kq v6 w' => ∃ (x6 : Int) (cs : List S50) (vc : Value), v6 = .int .i64 x6 ∧ Aside0 (cs = (chs.take x6.toNat).map cutChange) ∧ Aside0 (x6 + (kq : Int) = 40) ∧ 0 ≤ x6 ∧ x6 ≤ (chs.length : Int) ∧ x6 ≤ 40 ∧ Aside0 (w'.heap[g1]? = some (.cells #[.int .u32 a0, .slice (some ad) l0.length c0] 25 (0, 0))) ∧ Aside0 (w'.heap[g2]? = some (.cells #[.int .u32 0, .slice none 0 0] 25 (0, 0))) ∧ Aside0 (w'.heap[g3]? = some (.cells #[.int .u32 a0, v] 25 (0, 0))) ∧ Aside0 (w'.heap[gt]? = some (.cells #[.int .u64 tid, vc] 47 (0, 0))) ∧ Aside0 (Kd.S k50 50 w' H0 (fun _ => True) vc cs) ∧ Aside0 (Kd.S k47 47 w' w.heap.size (fun k => k < H0) v acc) ∧ Aside0 (Below w.heap.size w w'))
        case atStart => exact ⟨0, [], .slice none 0 0, rfl, ⟨rfl⟩, ⟨by omega⟩, by omega, by omega, by omega, BA4, BB4, BE4, BT4, ⟨Kd.S_nil _ _ _ _ _⟩, S4, B4⟩
        case round =>
          clear BA4 BB4 BE4 BT4 S4 B4
          obtain ⟨x6, cs, vc, rfl, HC2, HX2, hx20, hx21, hx26, BA2, BB2, BE2, BT2, SC2, S2, B2⟩ := hrel
          have hza1 : wr.cell? ⟨g1, 1, none⟩ = some (.slice (some ad) l0.length c0) := (blk_cell BA2.out 1).trans rfl
          have hz1 := (B2.out.cell (World.block_lt_of_cell? w _ HZ1.out)).trans HZ1.out
          by_cases hpq2 : x6 < (chs.length : Int) ∧ x6 < 40
          · obtain ⟨hp2, hq2⟩ := hpq2
            · have dp2 : decide (x6 < (chs.length : Int)) = true := decide_eq_true hp2
              have dq2 : decide (x6 < 40) = true := decide_eq_true hq2
              cases gk with
              | zero => exact absurd HX2.out (by omega)
              | succ gk2 =>
              obtain ⟨ad2, e151, hc0, hc1, hc2, hc3⟩ := at_T50 HR1.out x6 hx20 hp2
              have TS2 := Aside0.mk (take_snoc50 chs x6 hx20 hp2)
              subst e151
              replace hc0 := (B2.out.cell (World.block_lt_of_cell? w _ hc0)).trans hc0
              replace hc1 := (B2.out.cell (World.block_lt_of_cell? w _ hc1)).trans hc1
              replace hc2 := (B2.out.cell (World.block_lt_of_cell? w _ hc2)).trans hc2
              replace hc3 := (B2.out.cell (World.block_lt_of_cell? w _ hc3)).trans hc3
              generalize rd_T50 chs x6 = r0 at hc0 hc1 hc2 hc3 TS2
              obtain ⟨⟨tb, nm⟩, gn, vl⟩ := r0
              simp only at hc0 hc1 hc2 hc3
              have px2 := eq_true hx20
              have qx2 := eq_true hp2
              go_upto_region 10 with (first | ((with_reducible refine gate_dst (N := 7) rfl ?_); refine box_event ?hg (N := 7) ?hd (cs := #[.int .u8 0, .string (⟨#[]⟩ : ByteArray), .bool false, .string (⟨#[]⟩ : ByteArray)]) (t := 50) ?hr ?_; (case hd => rfl); (case hg => rfl); (case hr => first | (go_simp; done) | (go_simp; rfl)); intro gc hgc w3 hbox hb; have BC3 := Aside0.mk hbox; have HGC := Aside0.mk hgc; have HB3 := Aside0.mk hb; have hy0 := (blk_cell hbox 0).trans rfl; have hy1 := (blk_cell hbox 1).trans rfl; have hy2 := (blk_cell hbox 2).trans rfl; have hy3 := (blk_cell hbox 3).trans rfl; have hf0 := blk_frozen hbox 0; have hf1 := blk_frozen hbox 1; have hf2 := blk_frozen hbox 2; have hf3 := blk_frozen hbox 3; clear hb hbox hgc))
              have T3 : Aside0 (Stay (fun k => k = gc) w3 ((((w3.setCell ⟨gc, 0, none⟩ (.int .u8 tb)).setCell ⟨gc, 1, none⟩ (.string nm)).setCell ⟨gc, 2, none⟩ (.bool gn)).setCell ⟨gc, 3, none⟩ (.string vl))) := ⟨((((Stay.refl (fun k => k = gc) w3).set (.inl rfl) 0 _).set (.inl rfl) 1 _).set (.inl rfl) 2 _).set (.inl rfl) 3 _⟩
              have BC4 := Aside0.mk (blk_put (cs := #[.int .u8 tb, .string nm, .bool gn, .string (⟨#[]⟩ : ByteArray)]) (blk_put (cs := #[.int .u8 tb, .string nm, .bool false, .string (⟨#[]⟩ : ByteArray)]) (blk_put (cs := #[.int .u8 tb, .string (⟨#[]⟩ : ByteArray), .bool false, .string (⟨#[]⟩ : ByteArray)]) (blk_put (cs := #[.int .u8 0, .string (⟨#[]⟩ : ByteArray), .bool false, .string (⟨#[]⟩ : ByteArray)]) BC3.out 0 (.int .u8 tb) rfl) 1 (.string nm) rfl) 2 (.bool gn) rfl) 3 (.string vl) rfl)
              have GC0 : Aside0 (gt < gc) := ⟨by rw [HGC.out]; exact blk_lt BT2.out⟩
              have S4 := Aside0.mk (S_stay (Kd.S_below S2.out HB3.out) T3.out (fun k hk e => by have := GC0.out; have := GT0.out; omega))
              have SC4 := Aside0.mk (S_stay (Kd.S_below (Kd.S_elderB SC2.out gc (by rw [HGC.out]; exact Nat.le_refl _)) HB3.out) T3.out (fun k hk e => hk.2 e))
              have BA4 := Aside0.mk (T3.out.blk (blk_below BA2.out HB3.out) (by have := GC0.out; have := GT0.out; have := L1.out; omega))
              have BB4 := Aside0.mk (T3.out.blk (blk_below BB2.out HB3.out) (by have := GC0.out; have := GT0.out; have := L2.out; omega))
              have BE4 := Aside0.mk (T3.out.blk (blk_below BE2.out HB3.out) (by have := GC0.out; have := GT0.out; have := L3.out; omega))
              have BT4 := Aside0.mk (T3.out.blk (blk_below BT2.out HB3.out) (by have := GC0.out; omega))
              have B4 := Aside0.mk (T3.out.below (below_step B2.out HB3.out) (fun i hi => by have := GC0.out; have := GT0.out; have := WH0.out; omega))
              clear hza1 hz1 hc0 hc1 hc2 hc3 hy0 hy1 hy2 hy3 hf0 hf1 hf2 hf3 BC3 T3 B2 S2 SC2 BA2 BB2 BE2 BT2 HB3 HGC
              generalize (((w3.setCell ⟨gc, 0, none⟩ (.int .u8 tb)).setCell ⟨gc, 1, none⟩ (.string nm)).setCell ⟨gc, 2, none⟩ (.bool gn)).setCell ⟨gc, 3, none⟩ (.string vl) = w4 at BC4 S4 SC4 BA4 BB4 BE4 BT4 B4 ⊢
              have hy1 : w4.cell? ⟨gc, 1, none⟩ = some (.string nm) := (blk_cell BC4.out 1).trans rfl
              have hf1 := blk_frozen BC4.out 1
              go_upto_region 11 with (fail)
              rw [cutS_70]
              generalize (if (70 : Int) < (nm.size : Int) then 70 else (nm.size : Int)) = mm1
              have T4 : Aside0 (Stay (fun k => k = gc) w4 (w4.setCell ⟨gc, 1, none⟩ (.string (cutS 70 nm)))) := ⟨(Stay.refl (fun k => k = gc) w4).set (.inl rfl) 1 _⟩
              have BC5 := Aside0.mk (blk_put (cs := #[.int .u8 tb, .string nm, .bool gn, .string vl]) BC4.out 1 (.string (cutS 70 nm)) rfl)
              have S5 := Aside0.mk (S_stay S4.out T4.out (fun k hk e => by have := GC0.out; have := GT0.out; omega))
              have SC5 := Aside0.mk (S_stay SC4.out T4.out (fun k hk e => hk.2 e))
              have BA5 := Aside0.mk (T4.out.blk BA4.out (by have := GC0.out; have := GT0.out; have := L1.out; omega))
              have BB5 := Aside0.mk (T4.out.blk BB4.out (by have := GC0.out; have := GT0.out; have := L2.out; omega))
              have BE5 := Aside0.mk (T4.out.blk BE4.out (by have := GC0.out; have := GT0.out; have := L3.out; omega))
              have BT5 := Aside0.mk (T4.out.blk BT4.out (by have := GC0.out; omega))
              have B5 := Aside0.mk (T4.out.below B4.out (fun i hi => by have := GC0.out; have := GT0.out; have := WH0.out; omega))
              clear hy1 hf1 BC4 T4 B4 S4 SC4 BA4 BB4 BE4 BT4
              generalize w4.setCell ⟨gc, 1, none⟩ (.string (cutS 70 nm)) = w5 at BC5 S5 SC5 BA5 BB5 BE5 BT5 B5 ⊢
              have hy3 : w5.cell? ⟨gc, 3, none⟩ = some (.string vl) := (blk_cell BC5.out 3).trans rfl
              have hf3 := blk_frozen BC5.out 3
              go_upto_region 12 with (fail)
              rw [cutS_300]
              generalize (if (300 : Int) < (vl.size : Int) then 300 else (vl.size : Int)) = mm2
              have T5 : Aside0 (Stay (fun k => k = gc) w5 (w5.setCell ⟨gc, 3, none⟩ (.string (cutS 300 vl)))) := ⟨(Stay.refl (fun k => k = gc) w5).set (.inl rfl) 3 _⟩
              have BC6 := Aside0.mk (blk_put (cs := #[.int .u8 tb, .string (cutS 70 nm), .bool gn, .string vl]) BC5.out 3 (.string (cutS 300 vl)) rfl)
              have S6 := Aside0.mk (S_stay S5.out T5.out (fun k hk e => by have := GC0.out; have := GT0.out; omega))
              have SC6 := Aside0.mk (S_stay SC5.out T5.out (fun k hk e => hk.2 e))
              have BA6 := Aside0.mk (T5.out.blk BA5.out (by have := GC0.out; have := GT0.out; have := L1.out; omega))
              have BB6 := Aside0.mk (T5.out.blk BB5.out (by have := GC0.out; have := GT0.out; have := L2.out; omega))
              have BE6 := Aside0.mk (T5.out.blk BE5.out (by have := GC0.out; have := GT0.out; have := L3.out; omega))
              have BT6 := Aside0.mk (T5.out.blk BT5.out (by have := GC0.out; omega))
              have B6 := Aside0.mk (T5.out.below B5.out (fun i hi => by have := GC0.out; have := GT0.out; have := WH0.out; omega))
              clear hy3 hf3 BC5 T5 B5 S5 SC5 BA5 BB5 BE5 BT5
              generalize w5.setCell ⟨gc, 3, none⟩ (.string (cutS 300 vl)) = w6 at BC6 S6 SC6 BA6 BB6 BE6 BT6 B6 ⊢
              have hy0 : w6.cell? ⟨gc, 0, none⟩ = some (.int .u8 tb) := (blk_cell BC6.out 0).trans rfl
              have hy1 : w6.cell? ⟨gc, 1, none⟩ = some (.string (cutS 70 nm)) := (blk_cell BC6.out 1).trans rfl
              have hy2 : w6.cell? ⟨gc, 2, none⟩ = some (.bool gn) := (blk_cell BC6.out 2).trans rfl
              have hy3 : w6.cell? ⟨gc, 3, none⟩ = some (.string (cutS 300 vl)) := (blk_cell BC6.out 3).trans rfl
              have hzt1 : w6.cell? ⟨gt, 1, none⟩ = some vc := (blk_cell BT6.out 1).trans rfl
              have HLN : Aside0 (cs.length ≤ 40) := ⟨by rw [HC2.out, List.length_map, List.length_take]; omega⟩
              go_upto_region 8 with ((with_reducible refine gate_builtin (b := .append) (xs := #[.tmp 73, .tmp 75]) rfl ?_); at_builtin; refine Kd.S_append k50 (w0 := w6) H0 rfl (.tmp 73) (.tmp 75) 45 50 (.agg #[(.int .u8 0), (.string ⟨#[]⟩), (.bool false), (.string ⟨#[]⟩)]) 48 rfl Try.underlying45 info50 rfl (by decide) (by omega) vc cs (⟨⟨tb, cutS 70 nm⟩, gn, cutS 300 vl⟩ : S50) [.int .u8 tb, .string (cutS 70 nm), .bool gn, .string (cutS 300 vl)] (fun _ => True) (fun _ => False) rfl rfl ?aP (fun _ hk => hk.elim) ?aF ?aO ?aB ?aS ?aL ?_; (case aP => exact k50_mkM _ _ _ _); (case aF => exact (fun _ _ => trivial)); (case aO => exact Kd.S_mono SC6.out (fun _ _ => ⟨trivial, fun h => h⟩)); (case aB => exact Below.refl _ _); (case aS => have := GT0.out; have := blk_lt BT6.out; omega); (case aL => have := HLN.out; omega); intro v7 w7 ho hb hgw hat; have SC7 := Aside0.mk ho; have HGW := Aside0.mk hgw; clear ho hb hgw hat; (have hzt1 : w7.cell? ⟨gt, 1, none⟩ = some vc := (blk_cell ((Stay.of_grown HGW.out).blk BT6.out (Kd.S_ne SC6.out BT6.out (by decide))) 1).trans rfl); (have hft1 := blk_frozen ((Stay.of_grown HGW.out).blk BT6.out (Kd.S_ne SC6.out BT6.out (by decide))) 1); (obtain ⟨cs2, hcs2⟩ : ∃ a, a = cs ++ [(⟨⟨tb, cutS 70 nm⟩, gn, cutS 300 vl⟩ : S50)] := ⟨_, rfl⟩); rw [← hcs2] at SC7; have HC3 : Aside0 (cs2 = (chs.take (x6 + 1).toNat).map cutChange) := ⟨by rw [hcs2, HC2.out]; exact TS2.out⟩; clear hcs2; obtain ⟨A7, c7, rfl⟩ := Kd.S_slice SC7.out)
              have G7 := Aside0.mk (Stay.of_grown HGW.out)
              have hsb : Aside0 (∀ i, some i = vc.ownBlock → H0 ≤ i) := ⟨fun i hi => Kd.S_base SC6.out i hi.symm⟩
              have S7 := Aside0.mk (S_stay S6.out G7.out (fun k hk e => by have := hsb.out k e; omega))
              have BA7 := Aside0.mk (G7.out.blk BA6.out (Kd.S_ne SC6.out BA6.out (by decide)))
              have BB7 := Aside0.mk (G7.out.blk BB6.out (Kd.S_ne SC6.out BB6.out (by decide)))
              have BE7 := Aside0.mk (G7.out.blk BE6.out (Kd.S_ne SC6.out BE6.out (by decide)))
              have BT7 := Aside0.mk (G7.out.blk BT6.out (Kd.S_ne SC6.out BT6.out (by decide)))
              have B7 := Aside0.mk (G7.out.below B6.out (fun i hi => by have := hsb.out i hi; have := WH0.out; omega))
              have T7 : Aside0 (Stay (fun k => k = gt) w7 (w7.setCell ⟨gt, 1, none⟩ (.slice A7 cs2.length c7))) := ⟨(Stay.refl (fun k => k = gt) w7).set (.inl rfl) 1 _⟩
              have SC8 := Aside0.mk (Kd.S_set SC7.out BT7.out (by decide) 1 (.slice A7 cs2.length c7))
              have S8 := Aside0.mk (S_stay S7.out T7.out (fun k hk e => by have := GT0.out; omega))
              have BA8 := Aside0.mk (T7.out.blk BA7.out (by have := GT0.out; have := L1.out; omega))
              have BB8 := Aside0.mk (T7.out.blk BB7.out (by have := GT0.out; have := L2.out; omega))
              have BE8 := Aside0.mk (T7.out.blk BE7.out (by have := GT0.out; have := L3.out; omega))
              have BT8 := Aside0.mk (blk_put (cs := #[.int .u64 tid, vc]) BT7.out 1 (.slice A7 cs2.length c7) rfl)
              have B8 := Aside0.mk (T7.out.below B7.out (fun i hi => by have := GT0.out; have := WH0.out; omega))
              clear hy0 hy1 hy2 hy3 hzt1 hft1 BC6 S6 SC6 BA6 BB6 BE6 BT6 B6 HGW G7 hsb S7 BA7 BB7 BE7 BT7 B7 T7 SC7 HLN
              generalize w7.setCell ⟨gt, 1, none⟩ (.slice A7 cs2.length c7) = w8 at SC8 S8 BA8 BB8 BE8 BT8 B8 ⊢
              go_wp2_with fail
              go_roundg gk2
              case measure => omega
              case rel => exact ⟨x6 + 1, cs2, .slice A7 cs2.length c7, rfl, HC3, ⟨by have := HX2.out; omega⟩, by omega, by omega, by omega, BA8, BB8, BE8, BT8, SC8, S8, B8⟩
          · have hD2 : (decide (x6 < (chs.length : Int)) = true ∧ decide (x6 < 40) = false) ∨ decide (x6 < (chs.length : Int)) = false := by
              by_cases hh : x6 < (chs.length : Int)
              · exact .inl ⟨decide_eq_true hh, decide_eq_false (by omega)⟩
              · exact .inr (decide_eq_false hh)
            have HPQ2 := Aside0.mk hpq2
            clear hpq2
            rcases hD2 with ⟨dp2, dq2⟩ | dp2
            all_goals
              have HC3 : Aside0 (cs = (chs.take 40).map cutChange) := ⟨by
                have hpq2 := HPQ2.out
                rw [HC2.out]
                by_cases he : x6 = 40
                · rw [he]; rfl
                · rw [List.take_of_length_le (show chs.length ≤ x6.toNat by omega), List.take_of_length_le (show chs.length ≤ 40 by omega)]⟩
              obtain ⟨Ac, cc, rfl⟩ := Kd.S_slice SC2.out
              have hze1 : wr.cell? ⟨g3, 1, none⟩ = some v := (blk_cell BE2.out 1).trans rfl
              have hzt0 : wr.cell? ⟨gt, 0, none⟩ = some (.int .u64 tid) := (blk_cell BT2.out 0).trans rfl
              have hzt1 : wr.cell? ⟨gt, 1, none⟩ = some (.slice Ac cs.length cc) := (blk_cell BT2.out 1).trans rfl
              have HVL : Aside0 (∀ k, v.ownBlock = some k → k < H0) := ⟨(Kd.S_R S2.out).1⟩
              have HLN : Aside0 (acc.length ≤ 70) := ⟨by rw [HC.out, List.length_map, List.length_take]; omega⟩
              go_upto_region 4 with ((with_reducible refine gate_builtin (b := .append) (xs := #[.tmp 79, .tmp 81]) rfl ?_); at_builtin; refine Kd.S_append k47 (w0 := wr) w.heap.size rfl (.tmp 79) (.tmp 81) 23 47 (.agg #[(.int .u64 0), (.slice none 0 0)]) 32 rfl Try.underlying23 info47 rfl (by decide) (by omega) v acc (⟨tid, cs⟩ : S47) [.int .u64 tid, .slice Ac cs.length cc] (fun _ => True) (fun k => H0 ≤ k) rfl rfl ?aP ?aK ?aF ?aO ?aB ?aS ?aL ?_; (case aP => exact k47_mkM _ _ _ _ (Kd.R_lower (Kd.R_mono (Kd.R_bound (Kd.S_R SC2.out)) (fun k hk => hk.2.1)) WH0.out)); (case aK => exact (fun k hk => ⟨trivial, fun e => by have := HVL.out k e.symm; omega⟩)); (case aF => exact (fun _ _ => trivial)); (case aO => exact Kd.S_mono S2.out (fun k hk => ⟨trivial, by omega⟩)); (case aB => exact Below.refl _ _); (case aS => exact B2.out.size); (case aL => have := HLN.out; omega); intro v17 w17 ho hb hgw hat; have S17 := Aside0.mk ho; have HGW := Aside0.mk hgw; clear ho hb hgw hat; (have hze1 : w17.cell? ⟨g3, 1, none⟩ = some v := (blk_cell ((Stay.of_grown HGW.out).blk BE2.out (Kd.S_ne S2.out BE2.out (by decide))) 1).trans rfl); (have hfe1 := blk_frozen ((Stay.of_grown HGW.out).blk BE2.out (Kd.S_ne S2.out BE2.out (by decide))) 1); (obtain ⟨acc2, hacc2⟩ : ∃ c, c = acc ++ [(⟨tid, cs⟩ : S47)] := ⟨_, rfl⟩); rw [← hacc2] at S17; have HC4 : Aside0 (acc2 = (l0.take (x4 + 1).toNat).map cutTxn) := ⟨by rw [hacc2, HC.out, HC3.out]; exact TS.out⟩; clear hacc2; obtain ⟨A17, c17, rfl⟩ := Kd.S_slice S17.out)
              have G17 := Aside0.mk (Stay.of_grown HGW.out)
              have hsb : Aside0 (∀ i, some i = v.ownBlock → w.heap.size ≤ i) := ⟨fun i hi => Kd.S_base S2.out i hi.symm⟩
              have BA17 := Aside0.mk (G17.out.blk BA2.out (Kd.S_ne S2.out BA2.out (by decide)))
              have BB17 := Aside0.mk (G17.out.blk BB2.out (Kd.S_ne S2.out BB2.out (by decide)))
              have BE17 := Aside0.mk (G17.out.blk BE2.out (Kd.S_ne S2.out BE2.out (by decide)))
              have B17 := Aside0.mk (G17.out.below B2.out (fun i hi => hsb.out i hi))
              have T17 : Aside0 (Stay (fun k => k = g3) w17 (w17.setCell ⟨g3, 1, none⟩ (.slice A17 acc2.length c17))) := ⟨(Stay.refl (fun k => k = g3) w17).set (.inl rfl) 1 _⟩
              have S18 := Aside0.mk (Kd.S_set S17.out BE17.out (by decide) 1 (.slice A17 acc2.length c17))
              have BA18 := Aside0.mk (T17.out.blk BA17.out (by have := L12.out; have := L23.out; omega))
              have BB18 := Aside0.mk (T17.out.blk BB17.out (by have := L23.out; omega))
              have BE18 := Aside0.mk (blk_put (cs := #[.int .u32 a0, v]) BE17.out 1 (.slice A17 acc2.length c17) rfl)
              have B18 := Aside0.mk (T17.out.below B17.out (fun i hi => by have := L12.out; have := L23.out; have := W1.out; omega))
              clear hza1 hz1 hze1 hfe1 hzt0 hzt1 S17 BA17 BB17 BE17 B17 T17 BA2 BB2 BE2 BT2 SC2 S2 B2 HGW G17 hsb HVL
              generalize w17.setCell ⟨g3, 1, none⟩ (.slice A17 acc2.length c17) = w18 at S18 BA18 BB18 BE18 B18 ⊢
              go_wp2_with fail
              go_roundg gk1
              case measure => omega
              case rel => exact ⟨x4 + 1, acc2, .slice A17 acc2.length c17, rfl, HC4, ⟨by have := HX.out; omega⟩, by omega, by omega, by omega, BA18, BB18, BE18, S18, B18⟩
    · have hD : (decide (x4 < (l0.length : Int)) = true ∧ decide (x4 < 70) = false) ∨ decide (x4 < (l0.length : Int)) = false := by
        by_cases hh : x4 < (l0.length : Int)
        · exact .inl ⟨decide_eq_true hh, decide_eq_false (by omega)⟩
        · exact .inr (decide_eq_false hh)
      have HPQ := Aside0.mk hpq
      clear hpq
      rcases hD with ⟨dp, dq⟩ | dp
      all_goals
       have HC3 : Aside0 (acc = r2) := ⟨by
        have hpq := HPQ.out
        rw [HC.out, ← HF.out]
        by_cases he : x4 = 70
        · rw [he]; rfl
        · rw [List.take_of_length_le (show l0.length ≤ x4.toNat by omega), List.take_of_length_le (show l0.length ≤ 70 by omega)]⟩
       obtain ⟨Av, cv, rfl⟩ := Kd.S_slice S2.out
       have hze0 : wr.cell? ⟨g3, 0, none⟩ = some (.int .u32 a0) := (blk_cell BE2.out 0).trans rfl
       have hze1 : wr.cell? ⟨g3, 1, none⟩ = some (.slice Av acc.length cv) := (blk_cell BE2.out 1).trans rfl
       have hzb0 : wr.cell? ⟨g2, 0, none⟩ = some (.int .u32 0) := (blk_cell BB2.out 0).trans rfl
       have hzb1 : wr.cell? ⟨g2, 1, none⟩ = some (.slice none 0 0) := (blk_cell BB2.out 1).trans rfl
       have hfb0 := blk_frozen BB2.out 0
       have hfb1 := blk_frozen BB2.out 1
       go_wp2_with fail
       have T3 : Stay (fun k => k = g2) wr ((wr.setCell ⟨g2, 0, none⟩ (.int .u32 a0)).setCell ⟨g2, 1, none⟩ (.slice Av acc.length cv)) := ((Stay.refl (fun k => k = g2) wr).set (.inl rfl) 0 _).set (.inl rfl) 1 _
       have HS := Kd.S_set (Kd.S_set S2.out BB2.out (by decide) 0 (.int .u32 a0)) (blk_put (cs := #[.int .u32 0, .slice none 0 0]) BB2.out 0 (.int .u32 a0) rfl) (by decide) 1 (.slice Av acc.length cv)
       have HSF := Aside0.mk HS
       have BF := Aside0.mk (T3.below B2.out (fun i hi => by have := L12.out; have := W1.out; omega))
       clear HS T3
       refine bodyPost_ret (by simp [results, Try.results14, go_sem, hzb0, hzb1]; try rfl) rfl ?_
       exact ⟨_, rfl, by rw [← HC3.out]; exact HSF.out, BF.out⟩
end Go.Proofs.Ytgmdoapedhppmaa.PC

/- shown: its print as a law's (its ways to false fall away), turned by shown.py. -/
namespace Go.Proofs.Ytgmdoapedhppmaa.PC
set_option linter.unusedVariables false
set_option linter.unusedSimpArgs false
open Go.RowKit Go.Proofs.YtgmdoapedhppmaaW.PrintWords Go.Proofs.YtgmdoapedhppmaaW.PrintLast Go.Proofs.YtgmdoapedhppmaaW.PrintMore
attribute [local go_sem] max2_int min2_int max_two min_two max_three min_three max_four min_four   -- for this text's walks alone

/-! ### shownK: function 13 -/
def shownK.f (k : Nat)  : Option (Bool) := (codec_Encode.f k 1 ([] : List (S47))).bind fun bt177 => ((codec_Encode.f k 0 ([] : List (S47))).bind fun bt181 => ((codec_Decode.f (([1, 0] : List Int))).bind fun bt188 => ((codec_Decode.f (([1] : List Int))).bind fun bt197 => ((codec_Decode.f (([1, 0, 0] : List Int))).bind fun bt206 => ((codec_EncodeRows.f k (([(⟨(⟨2, (⟨#[97]⟩ : ByteArray)⟩ : S28), (⟨#[98, 99]⟩ : ByteArray)⟩ : S57)] : List (S57)))).bind fun bt215 => (if (strOfNums bt177.1).toList = ([1, 0] : List UInt8) then (if bt177.2 = 0 then (if bt181.2 = 1 then (if bt188.1 = 1 then (if (bt188.2.1.length : Int) = 0 then (if bt188.2.2 = 0 then (if bt197.2.2 = 2 then (if bt206.2.2 = 3 then (if (strOfNums bt215.1).toList = ([1, 2, 1, 97, 2, 98, 99] : List UInt8) then (if bt215.2 = 0 then ((codec_Less.f k 1 (⟨#[122]⟩ : ByteArray) 2 (⟨#[97]⟩ : ByteArray)).bind fun t219 => (some t219)) else (some false)) else (some false)) else (some false)) else (some false)) else (some false)) else (some false)) else (some false)) else (some false)) else (some false)) else (some false)))))))
theorem shownK.mono : ∀ k, LeO (shownK.f k ) (shownK.f (k + 1) ) := by
  intro  k
  unfold shownK.f
  repeat' first
      | (with_reducible exact codec_Encode.mono _ _ _)
      | (with_reducible exact codec_EncodeRows.mono _ _)
      | (with_reducible exact codec_Less.mono _ _ _ _ _)
      | (with_reducible exact LeO.refl _)
      | (with_reducible exact LeO.none _)
      | (with_reducible refine LeO.ite ?_ ?_)
      | (with_reducible refine LeO.bind ?_ (fun _ => ?_))
      | exact codec_Encode.mono _ _ _
      | exact codec_EncodeRows.mono _ _
      | exact codec_Less.mono _ _ _ _ _
      | exact LeO.none _
      | refine LeO.ite ?_ ?_
      | refine LeO.bind ?_ (fun _ => ?_)
set_option maxHeartbeats 8000000 in
set_option maxRecDepth 100000 in
theorem shownK.calls (k : Nat)  (r : Bool) (w : World) (hrt : r = true) (h : shownK.f k  = some r) :
    Calls Try.prog 13 #[] w fun e w' => e = .returned (.bool r) ∧ Below w.heap.size w w' := by
  have HRT := Aside0.mk hrt
  clear hrt
  have hu25 := Try.underlying25
  have hu28 := Try.underlying28
  have hu57 := Try.underlying57
  have HB := Aside0.mk (Below.refl w.heap.size w)
  have H : ((codec_Encode.f k 1 ([] : List (S47))).bind fun bt177 => ((codec_Encode.f k 0 ([] : List (S47))).bind fun bt181 => ((codec_Decode.f (([1, 0] : List Int))).bind fun bt188 => ((codec_Decode.f (([1] : List Int))).bind fun bt197 => ((codec_Decode.f (([1, 0, 0] : List Int))).bind fun bt206 => ((codec_EncodeRows.f k (([(⟨(⟨2, (⟨#[97]⟩ : ByteArray)⟩ : S28), (⟨#[98, 99]⟩ : ByteArray)⟩ : S57)] : List (S57)))).bind fun bt215 => (if (strOfNums bt177.1).toList = ([1, 0] : List UInt8) then (if bt177.2 = 0 then (if bt181.2 = 1 then (if bt188.1 = 1 then (if (bt188.2.1.length : Int) = 0 then (if bt188.2.2 = 0 then (if bt197.2.2 = 2 then (if bt206.2.2 = 3 then (if (strOfNums bt215.1).toList = ([1, 2, 1, 97, 2, 98, 99] : List UInt8) then (if bt215.2 = 0 then ((codec_Less.f k 1 (⟨#[122]⟩ : ByteArray) 2 (⟨#[97]⟩ : ByteArray)).bind fun t219 => (some t219)) else (some false)) else (some false)) else (some false)) else (some false)) else (some false)) else (some false)) else (some false)) else (some false)) else (some false)) else (some false)))))))) = some r := h
  clear h
  replace H := Option.bind_eq_some_iff.mp H
  obtain ⟨⟨t177, t180⟩, A10, H⟩ := H
  replace H : ((codec_Encode.f k 0 ([] : List (S47))).bind fun bt181 => ((codec_Decode.f (([1, 0] : List Int))).bind fun bt188 => ((codec_Decode.f (([1] : List Int))).bind fun bt197 => ((codec_Decode.f (([1, 0, 0] : List Int))).bind fun bt206 => ((codec_EncodeRows.f k (([(⟨(⟨2, (⟨#[97]⟩ : ByteArray)⟩ : S28), (⟨#[98, 99]⟩ : ByteArray)⟩ : S57)] : List (S57)))).bind fun bt215 => (if (strOfNums t177).toList = ([1, 0] : List UInt8) then (if t180 = 0 then (if bt181.2 = 1 then (if bt188.1 = 1 then (if (bt188.2.1.length : Int) = 0 then (if bt188.2.2 = 0 then (if bt197.2.2 = 2 then (if bt206.2.2 = 3 then (if (strOfNums bt215.1).toList = ([1, 2, 1, 97, 2, 98, 99] : List UInt8) then (if bt215.2 = 0 then ((codec_Less.f k 1 (⟨#[122]⟩ : ByteArray) 2 (⟨#[97]⟩ : ByteArray)).bind fun t219 => (some t219)) else (some false)) else (some false)) else (some false)) else (some false)) else (some false)) else (some false)) else (some false)) else (some false)) else (some false)) else (some false))))))) = some r := H
  have A1 := Aside0.mk A10
  clear A10
  replace H := Option.bind_eq_some_iff.mp H
  obtain ⟨⟨t181, t184⟩, A20, H⟩ := H
  replace H : ((codec_Decode.f (([1, 0] : List Int))).bind fun bt188 => ((codec_Decode.f (([1] : List Int))).bind fun bt197 => ((codec_Decode.f (([1, 0, 0] : List Int))).bind fun bt206 => ((codec_EncodeRows.f k (([(⟨(⟨2, (⟨#[97]⟩ : ByteArray)⟩ : S28), (⟨#[98, 99]⟩ : ByteArray)⟩ : S57)] : List (S57)))).bind fun bt215 => (if (strOfNums t177).toList = ([1, 0] : List UInt8) then (if t180 = 0 then (if t184 = 1 then (if bt188.1 = 1 then (if (bt188.2.1.length : Int) = 0 then (if bt188.2.2 = 0 then (if bt197.2.2 = 2 then (if bt206.2.2 = 3 then (if (strOfNums bt215.1).toList = ([1, 2, 1, 97, 2, 98, 99] : List UInt8) then (if bt215.2 = 0 then ((codec_Less.f k 1 (⟨#[122]⟩ : ByteArray) 2 (⟨#[97]⟩ : ByteArray)).bind fun t219 => (some t219)) else (some false)) else (some false)) else (some false)) else (some false)) else (some false)) else (some false)) else (some false)) else (some false)) else (some false)) else (some false)))))) = some r := H
  have A2 := Aside0.mk A20
  clear A20
  obtain ⟨y185, hy185⟩ : ∃ y_ : List Int, y_ = (([1, 0] : List Int)) := ⟨_, rfl⟩
  replace H : ((codec_Decode.f y185).bind fun bt188 => ((codec_Decode.f (([1] : List Int))).bind fun bt197 => ((codec_Decode.f (([1, 0, 0] : List Int))).bind fun bt206 => ((codec_EncodeRows.f k (([(⟨(⟨2, (⟨#[97]⟩ : ByteArray)⟩ : S28), (⟨#[98, 99]⟩ : ByteArray)⟩ : S57)] : List (S57)))).bind fun bt215 => (if (strOfNums t177).toList = ([1, 0] : List UInt8) then (if t180 = 0 then (if t184 = 1 then (if bt188.1 = 1 then (if (bt188.2.1.length : Int) = 0 then (if bt188.2.2 = 0 then (if bt197.2.2 = 2 then (if bt206.2.2 = 3 then (if (strOfNums bt215.1).toList = ([1, 2, 1, 97, 2, 98, 99] : List UInt8) then (if bt215.2 = 0 then ((codec_Less.f k 1 (⟨#[122]⟩ : ByteArray) 2 (⟨#[97]⟩ : ByteArray)).bind fun t219 => (some t219)) else (some false)) else (some false)) else (some false)) else (some false)) else (some false)) else (some false)) else (some false)) else (some false)) else (some false)) else (some false)))))) = some r := by first | (rw [hy185]; with_reducible exact H) | (have H2_ := (Option.bind_some _ _).symm.trans H; rw [hy185]; with_reducible exact H2_) | (have H2_ := (Option.bind_some _ _).symm.trans H; with_reducible exact H2_) | with_reducible exact H | (rw [hy185]; exact H) | exact H
  have Ny185 := Aside0.mk hy185
  clear hy185
  replace H := Option.bind_eq_some_iff.mp H
  obtain ⟨⟨t188, t189, t192⟩, A30, H⟩ := H
  replace H : ((codec_Decode.f (([1] : List Int))).bind fun bt197 => ((codec_Decode.f (([1, 0, 0] : List Int))).bind fun bt206 => ((codec_EncodeRows.f k (([(⟨(⟨2, (⟨#[97]⟩ : ByteArray)⟩ : S28), (⟨#[98, 99]⟩ : ByteArray)⟩ : S57)] : List (S57)))).bind fun bt215 => (if (strOfNums t177).toList = ([1, 0] : List UInt8) then (if t180 = 0 then (if t184 = 1 then (if t188 = 1 then (if (t189.length : Int) = 0 then (if t192 = 0 then (if bt197.2.2 = 2 then (if bt206.2.2 = 3 then (if (strOfNums bt215.1).toList = ([1, 2, 1, 97, 2, 98, 99] : List UInt8) then (if bt215.2 = 0 then ((codec_Less.f k 1 (⟨#[122]⟩ : ByteArray) 2 (⟨#[97]⟩ : ByteArray)).bind fun t219 => (some t219)) else (some false)) else (some false)) else (some false)) else (some false)) else (some false)) else (some false)) else (some false)) else (some false)) else (some false)) else (some false))))) = some r := H
  have A3 := Aside0.mk A30
  clear A30
  obtain ⟨y194, hy194⟩ : ∃ y_ : List Int, y_ = (([1] : List Int)) := ⟨_, rfl⟩
  replace H : ((codec_Decode.f y194).bind fun bt197 => ((codec_Decode.f (([1, 0, 0] : List Int))).bind fun bt206 => ((codec_EncodeRows.f k (([(⟨(⟨2, (⟨#[97]⟩ : ByteArray)⟩ : S28), (⟨#[98, 99]⟩ : ByteArray)⟩ : S57)] : List (S57)))).bind fun bt215 => (if (strOfNums t177).toList = ([1, 0] : List UInt8) then (if t180 = 0 then (if t184 = 1 then (if t188 = 1 then (if (t189.length : Int) = 0 then (if t192 = 0 then (if bt197.2.2 = 2 then (if bt206.2.2 = 3 then (if (strOfNums bt215.1).toList = ([1, 2, 1, 97, 2, 98, 99] : List UInt8) then (if bt215.2 = 0 then ((codec_Less.f k 1 (⟨#[122]⟩ : ByteArray) 2 (⟨#[97]⟩ : ByteArray)).bind fun t219 => (some t219)) else (some false)) else (some false)) else (some false)) else (some false)) else (some false)) else (some false)) else (some false)) else (some false)) else (some false)) else (some false))))) = some r := by first | (rw [hy194]; with_reducible exact H) | (have H2_ := (Option.bind_some _ _).symm.trans H; rw [hy194]; with_reducible exact H2_) | (have H2_ := (Option.bind_some _ _).symm.trans H; with_reducible exact H2_) | with_reducible exact H | (rw [hy194]; exact H) | exact H
  have Ny194 := Aside0.mk hy194
  clear hy194
  replace H := Option.bind_eq_some_iff.mp H
  obtain ⟨⟨t197, t198, t201⟩, A40, H⟩ := H
  replace H : ((codec_Decode.f (([1, 0, 0] : List Int))).bind fun bt206 => ((codec_EncodeRows.f k (([(⟨(⟨2, (⟨#[97]⟩ : ByteArray)⟩ : S28), (⟨#[98, 99]⟩ : ByteArray)⟩ : S57)] : List (S57)))).bind fun bt215 => (if (strOfNums t177).toList = ([1, 0] : List UInt8) then (if t180 = 0 then (if t184 = 1 then (if t188 = 1 then (if (t189.length : Int) = 0 then (if t192 = 0 then (if t201 = 2 then (if bt206.2.2 = 3 then (if (strOfNums bt215.1).toList = ([1, 2, 1, 97, 2, 98, 99] : List UInt8) then (if bt215.2 = 0 then ((codec_Less.f k 1 (⟨#[122]⟩ : ByteArray) 2 (⟨#[97]⟩ : ByteArray)).bind fun t219 => (some t219)) else (some false)) else (some false)) else (some false)) else (some false)) else (some false)) else (some false)) else (some false)) else (some false)) else (some false)) else (some false)))) = some r := H
  have A4 := Aside0.mk A40
  clear A40
  obtain ⟨y203, hy203⟩ : ∃ y_ : List Int, y_ = (([1, 0, 0] : List Int)) := ⟨_, rfl⟩
  replace H : ((codec_Decode.f y203).bind fun bt206 => ((codec_EncodeRows.f k (([(⟨(⟨2, (⟨#[97]⟩ : ByteArray)⟩ : S28), (⟨#[98, 99]⟩ : ByteArray)⟩ : S57)] : List (S57)))).bind fun bt215 => (if (strOfNums t177).toList = ([1, 0] : List UInt8) then (if t180 = 0 then (if t184 = 1 then (if t188 = 1 then (if (t189.length : Int) = 0 then (if t192 = 0 then (if t201 = 2 then (if bt206.2.2 = 3 then (if (strOfNums bt215.1).toList = ([1, 2, 1, 97, 2, 98, 99] : List UInt8) then (if bt215.2 = 0 then ((codec_Less.f k 1 (⟨#[122]⟩ : ByteArray) 2 (⟨#[97]⟩ : ByteArray)).bind fun t219 => (some t219)) else (some false)) else (some false)) else (some false)) else (some false)) else (some false)) else (some false)) else (some false)) else (some false)) else (some false)) else (some false)))) = some r := by first | (rw [hy203]; with_reducible exact H) | (have H2_ := (Option.bind_some _ _).symm.trans H; rw [hy203]; with_reducible exact H2_) | (have H2_ := (Option.bind_some _ _).symm.trans H; with_reducible exact H2_) | with_reducible exact H | (rw [hy203]; exact H) | exact H
  have Ny203 := Aside0.mk hy203
  clear hy203
  replace H := Option.bind_eq_some_iff.mp H
  obtain ⟨⟨t206, t207, t210⟩, A50, H⟩ := H
  replace H : ((codec_EncodeRows.f k (([(⟨(⟨2, (⟨#[97]⟩ : ByteArray)⟩ : S28), (⟨#[98, 99]⟩ : ByteArray)⟩ : S57)] : List (S57)))).bind fun bt215 => (if (strOfNums t177).toList = ([1, 0] : List UInt8) then (if t180 = 0 then (if t184 = 1 then (if t188 = 1 then (if (t189.length : Int) = 0 then (if t192 = 0 then (if t201 = 2 then (if t210 = 3 then (if (strOfNums bt215.1).toList = ([1, 2, 1, 97, 2, 98, 99] : List UInt8) then (if bt215.2 = 0 then ((codec_Less.f k 1 (⟨#[122]⟩ : ByteArray) 2 (⟨#[97]⟩ : ByteArray)).bind fun t219 => (some t219)) else (some false)) else (some false)) else (some false)) else (some false)) else (some false)) else (some false)) else (some false)) else (some false)) else (some false)) else (some false))) = some r := H
  have A5 := Aside0.mk A50
  clear A50
  obtain ⟨y212, hy212⟩ : ∃ y_ : List (S57), y_ = (([(⟨(⟨2, (⟨#[97]⟩ : ByteArray)⟩ : S28), (⟨#[98, 99]⟩ : ByteArray)⟩ : S57)] : List (S57))) := ⟨_, rfl⟩
  replace H : ((codec_EncodeRows.f k y212).bind fun bt215 => (if (strOfNums t177).toList = ([1, 0] : List UInt8) then (if t180 = 0 then (if t184 = 1 then (if t188 = 1 then (if (t189.length : Int) = 0 then (if t192 = 0 then (if t201 = 2 then (if t210 = 3 then (if (strOfNums bt215.1).toList = ([1, 2, 1, 97, 2, 98, 99] : List UInt8) then (if bt215.2 = 0 then ((codec_Less.f k 1 (⟨#[122]⟩ : ByteArray) 2 (⟨#[97]⟩ : ByteArray)).bind fun t219 => (some t219)) else (some false)) else (some false)) else (some false)) else (some false)) else (some false)) else (some false)) else (some false)) else (some false)) else (some false)) else (some false))) = some r := by first | (rw [hy212]; with_reducible exact H) | (have H2_ := (Option.bind_some _ _).symm.trans H; rw [hy212]; with_reducible exact H2_) | (have H2_ := (Option.bind_some _ _).symm.trans H; with_reducible exact H2_) | with_reducible exact H | (rw [hy212]; exact H) | exact H
  have Ny212 := Aside0.mk hy212
  clear hy212
  replace H := Option.bind_eq_some_iff.mp H
  obtain ⟨⟨t215, t216⟩, A60, H⟩ := H
  replace H : (if (strOfNums t177).toList = ([1, 0] : List UInt8) then (if t180 = 0 then (if t184 = 1 then (if t188 = 1 then (if (t189.length : Int) = 0 then (if t192 = 0 then (if t201 = 2 then (if t210 = 3 then (if (strOfNums t215).toList = ([1, 2, 1, 97, 2, 98, 99] : List UInt8) then (if t216 = 0 then ((codec_Less.f k 1 (⟨#[122]⟩ : ByteArray) 2 (⟨#[97]⟩ : ByteArray)).bind fun t219 => (some t219)) else (some false)) else (some false)) else (some false)) else (some false)) else (some false)) else (some false)) else (some false)) else (some false)) else (some false)) else (some false)) = some r := H
  have A6 := Aside0.mk A60
  clear A60
  by_cases c7 : (strOfNums t177).toList = ([1, 0] : List UInt8)
  · rw [if_pos c7] at H
    have c7b0 : ((strOfNums t177).toList == ([1, 0] : List UInt8)) = true := beq_iff_eq.mpr c7
    have c7b1 : ((strOfNums t177).toList != ([1, 0] : List UInt8)) = false := bne_eq_false_iff_eq.mpr c7
    clear c7
    by_cases c8 : t180 = 0
    · rw [if_pos c8] at H
      have c8b0 : (t180 == 0) = true := beq_iff_eq.mpr c8
      have c8b1 : (t180 != 0) = false := bne_eq_false_iff_eq.mpr c8
      clear c8
      by_cases c9 : t184 = 1
      · rw [if_pos c9] at H
        have c9b0 : (t184 == 1) = true := beq_iff_eq.mpr c9
        have c9b1 : (t184 != 1) = false := bne_eq_false_iff_eq.mpr c9
        clear c9
        by_cases c10 : t188 = 1
        · rw [if_pos c10] at H
          have c10b0 : (t188 == 1) = true := beq_iff_eq.mpr c10
          have c10b1 : (t188 != 1) = false := bne_eq_false_iff_eq.mpr c10
          clear c10
          by_cases c11 : (t189.length : Int) = 0
          · rw [if_pos c11] at H
            have c11b0 : ((t189.length : Int) == 0) = true := beq_iff_eq.mpr c11
            have c11b1 : ((t189.length : Int) != 0) = false := bne_eq_false_iff_eq.mpr c11
            clear c11
            by_cases c12 : t192 = 0
            · rw [if_pos c12] at H
              have c12b0 : (t192 == 0) = true := beq_iff_eq.mpr c12
              have c12b1 : (t192 != 0) = false := bne_eq_false_iff_eq.mpr c12
              clear c12
              by_cases c13 : t201 = 2
              · rw [if_pos c13] at H
                have c13b0 : (t201 == 2) = true := beq_iff_eq.mpr c13
                have c13b1 : (t201 != 2) = false := bne_eq_false_iff_eq.mpr c13
                clear c13
                by_cases c14 : t210 = 3
                · rw [if_pos c14] at H
                  have c14b0 : (t210 == 3) = true := beq_iff_eq.mpr c14
                  have c14b1 : (t210 != 3) = false := bne_eq_false_iff_eq.mpr c14
                  clear c14
                  by_cases c15 : (strOfNums t215).toList = ([1, 2, 1, 97, 2, 98, 99] : List UInt8)
                  · rw [if_pos c15] at H
                    have c15b0 : ((strOfNums t215).toList == ([1, 2, 1, 97, 2, 98, 99] : List UInt8)) = true := beq_iff_eq.mpr c15
                    have c15b1 : ((strOfNums t215).toList != ([1, 2, 1, 97, 2, 98, 99] : List UInt8)) = false := bne_eq_false_iff_eq.mpr c15
                    clear c15
                    by_cases c16 : t216 = 0
                    · rw [if_pos c16] at H
                      have c16b0 : (t216 == 0) = true := beq_iff_eq.mpr c16
                      have c16b1 : (t216 != 0) = false := bne_eq_false_iff_eq.mpr c16
                      clear c16
                      replace H := Option.bind_eq_some_iff.mp H
                      obtain ⟨t219, A170, H⟩ := H
                      replace H : (some t219) = some r := H
                      have A17 := Aside0.mk A170
                      clear A170
                      obtain rfl := Option.some.inj H
                      go_enter Try.func13, Try.ntmps13
                      go_wp2_with (first | ((with_reducible refine gate_callee (f := 16) rfl ?_); refine goesL_ (some 15) rfl rfl Try.func16 (by kernel_rfl) rfl #[.agg #[.int .u32 1, .slice none 0 0]] rfl (by (try simp only [List.map_toArray, List.map_cons, List.map_nil]); first | done | rfl | (simp only [List.length_drop, List.length_take]; rfl) | (rw [IntKind.wrap_u64, Int.emod_eq_of_lt (by omega) (by omega)]; rfl)) ?_; (refine (codec_Encode.calls k 1 _ _ ([] : List (S47)) t177 t180 _ ?side1 ?side2 A1.out).mono ?_); (case side1 => exact Kd.C_nil _ _); (case side2 => exact Nat.le_refl _); rintro e w18 ⟨v178, rfl, ho0, hb⟩; refine ⟨_, rfl, ?_⟩; have n0_ := Aside0.mk (Kd.R_lower ho0 (below_size (by repeat (first | (with_reducible first | exact HB.out | apply below_alloc | apply pw_below_drewN | apply below_drew1) | exact HB.out)))); have n1_ := Aside0.mk (below_step (by repeat (first | (with_reducible first | exact HB.out | apply below_alloc | apply pw_below_drewN | apply below_drew1) | exact HB.out)) hb); clear HB; have HO179 := n0_; have HB := n1_; clear n0_ n1_; (try clear hb); (try clear hb2); (try clear hk); (try clear hi); (try clear ho0)) | ((with_reducible refine gate_callee (f := 16) rfl ?_); refine goesL_ (some 20) rfl rfl Try.func16 (by kernel_rfl) rfl #[.agg #[.int .u32 0, .slice none 0 0]] rfl (by (try simp only [List.map_toArray, List.map_cons, List.map_nil]); first | done | rfl | (simp only [List.length_drop, List.length_take]; rfl) | (rw [IntKind.wrap_u64, Int.emod_eq_of_lt (by omega) (by omega)]; rfl)) ?_; (refine (codec_Encode.calls k 0 _ _ ([] : List (S47)) t181 t184 _ ?side1 ?side2 A2.out).mono ?_); (case side1 => exact Kd.C_nil _ _); (case side2 => exact Nat.le_refl _); rintro e w19 ⟨v182, rfl, ho0, hb⟩; refine ⟨_, rfl, ?_⟩; have n0_ := Aside0.mk (Kd.R_elder' (by (with_reducible repeat (first | apply Kd.R_alloc | apply Kd.R_drewN | apply Kd.R_drew)); exact HO179.out) (Kd.R_base ho0) hb); have n1_ := Aside0.mk (Kd.R_lower (Kd.R_new' ho0 (Kd.R_lt (by (with_reducible repeat (first | apply Kd.R_alloc | apply Kd.R_drewN | apply Kd.R_drew)); exact HO179.out))) (below_size (by repeat (first | (with_reducible first | exact HB.out | apply below_alloc | apply pw_below_drewN | apply below_drew1) | exact HB.out)))); have n2_ := Aside0.mk (below_step (by repeat (first | (with_reducible first | exact HB.out | apply below_alloc | apply pw_below_drewN | apply below_drew1) | exact HB.out)) hb); clear HO179; clear HB; have HO179 := n0_; have HO183 := n1_; have HB := n2_; clear n0_ n1_ n2_; (try clear hb); (try clear hb2); (try clear hk); (try clear hi); (try clear ho0)) | ((with_reducible refine gate_dst (N := 24) rfl ?_); (try (refine gate_guard (by rfl) ?_; dsimp only)); refine Kd.R_lit (Kd.int .u8) _ 5 ?hg (N := 24) ?hd (xs := ([1, 0] : List Int)) (inner := [.int .u8 1, .int .u8 0]) (ok := fun _ => True) (okp := fun _ => True) ?hr ?hp (fun _ hk => hk) trivial (Below.refl _ _) (Nat.le_refl _) (by simp) ?_; (case hd => rfl); (case hg => rfl); (case hr => first | (go_simp; done) | (go_simp; rfl)); (case hp => exact (Reps.one (show Kd.M (Kd.int .u8) _ _ _ 1 [.int .u8 1] from rfl) (Reps.one (show Kd.M (Kd.int .u8) _ _ _ 0 [.int .u8 0] from rfl) (Reps.none _ _)))); intro v186 w20 ho21 hb hg_ hnew_; clear hg_ hnew_; (first | rw [← Ny185.out] at ho21 | (simp only [Int.reduceToNat] at ho21; rw [← Ny185.out] at ho21)); have n0_ := Aside0.mk (Kd.R_elder' (by (with_reducible repeat (first | apply Kd.R_alloc | apply Kd.R_drewN | apply Kd.R_drew)); exact HO179.out) (Kd.R_base ho21) hb); have n1_ := Aside0.mk (Kd.R_elder' (by (with_reducible repeat (first | apply Kd.R_alloc | apply Kd.R_drewN | apply Kd.R_drew)); exact HO183.out) (Kd.R_base ho21) hb); have n2_ := Aside0.mk (Kd.R_lower (Kd.R_new' (Kd.R_new' ho21 (Kd.R_lt (by (with_reducible repeat (first | apply Kd.R_alloc | apply Kd.R_drewN | apply Kd.R_drew)); exact HO179.out))) (Kd.R_lt (by (with_reducible repeat (first | apply Kd.R_alloc | apply Kd.R_drewN | apply Kd.R_drew)); exact HO183.out))) (below_size (by repeat (first | (with_reducible first | exact HB.out | apply below_alloc | apply pw_below_drewN | apply below_drew1) | exact HB.out)))); have n3_ := Aside0.mk (below_step (by repeat (first | (with_reducible first | exact HB.out | apply below_alloc | apply pw_below_drewN | apply below_drew1) | exact HB.out)) hb); clear HO179; clear HO183; clear HB; have HO179 := n0_; have HO183 := n1_; have HO187 := n2_; have HB := n3_; clear n0_ n1_ n2_ n3_; clear hb ho21; obtain ⟨Ao22, co22, eo22⟩ := Kd.R_slice HO187.out; subst eo22) | ((with_reducible refine gate_callee (f := 28) rfl ?_); refine goesL_ (some 25) rfl rfl Try.func28 (by kernel_rfl) rfl #[.slice Ao22 y185.length co22] rfl (by (try simp only [List.map_toArray, List.map_cons, List.map_nil]); first | done | rfl | (simp only [List.length_drop, List.length_take]; rfl) | (rw [IntKind.wrap_u64, Int.emod_eq_of_lt (by omega) (by omega)]; rfl)) ?_; (with_reducible refine (codec_Decode.calls _ _ y185 t188 t189 t192 _ ?side1 ?side2 A3.out).mono ?_); (case side1 => repeat (first | exact (Kd.R_reads' HO187.out).2.2 | (with_reducible refine Kd.C_alloc ?_ _) | (with_reducible refine Kd.C_drewN ?_ _) | (with_reducible refine Kd.C_drew ?_))); (case side2 => exact (Kd.R_reads' HO187.out).2.1); rintro e w23 ⟨v190, rfl, ho0, hb⟩; refine ⟨_, rfl, ?_⟩; have n0_ := Aside0.mk (Kd.R_below (by (with_reducible repeat (first | apply Kd.R_alloc | apply Kd.R_drewN | apply Kd.R_drew)); exact HO179.out) hb); have n1_ := Aside0.mk (Kd.R_below (by (with_reducible repeat (first | apply Kd.R_alloc | apply Kd.R_drewN | apply Kd.R_drew)); exact HO183.out) hb); have n2_ := Aside0.mk (Kd.R_below (by (with_reducible repeat (first | apply Kd.R_alloc | apply Kd.R_drewN | apply Kd.R_drew)); exact HO187.out) hb); have n3_ := Aside0.mk (Kd.S_lower ho0 (below_size (by repeat (first | (with_reducible first | exact HB.out | apply below_alloc | apply pw_below_drewN | apply below_drew1) | exact HB.out)))); have n4_ := Aside0.mk (below_step (by repeat (first | (with_reducible first | exact HB.out | apply below_alloc | apply pw_below_drewN | apply below_drew1) | exact HB.out)) hb); clear HO179; clear HO183; clear HO187; clear HB; have HO179 := n0_; have HO183 := n1_; have HO187 := n2_; have HO191 := n3_; have HB := n4_; clear n0_ n1_ n2_ n3_ n4_; (try clear hb); (try clear hb2); (try clear hk); (try clear hi); (try clear ho0)) | ((with_reducible refine gate_dst (N := 5) rfl ?_); (try (refine gate_guard (by rfl) ?_; dsimp only)); refine box_event ?hg (N := 5) ?hd (cs := #[.int .u32 0, .slice none 0 0]) (t := 25) ?hr ?_; (case hd => rfl); (case hg => rfl); (case hr => first | (go_simp; done) | (go_simp; rfl)); intro gb193 hg w24 hbox hb; have n0_ := Aside0.mk (Kd.R_below (by (with_reducible repeat (first | apply Kd.R_alloc | apply Kd.R_drewN | apply Kd.R_drew)); exact HO179.out) hb); have n1_ := Aside0.mk (Kd.R_below (by (with_reducible repeat (first | apply Kd.R_alloc | apply Kd.R_drewN | apply Kd.R_drew)); exact HO183.out) hb); have n2_ := Aside0.mk (Kd.R_below (by (with_reducible repeat (first | apply Kd.R_alloc | apply Kd.R_drewN | apply Kd.R_drew)); exact HO187.out) hb); have n3_ := Aside0.mk (Kd.S_below (by (with_reducible repeat (first | apply Kd.S_alloc | apply Kd.S_drewN | apply Kd.S_drew)); exact HO191.out) hb); have n4_ := Aside0.mk (below_step (by repeat (first | (with_reducible first | exact HB.out | apply below_alloc | apply pw_below_drewN | apply below_drew1) | exact HB.out)) hb); have n5_ := Aside0.mk (hbox); have n6_ := Aside0.mk ((by rw [hg]; exact (below_size (by repeat (first | (with_reducible first | exact HB.out | apply below_alloc | apply pw_below_drewN | apply below_drew1) | exact HB.out))) : w.heap.size ≤ gb193)); have n7_ := Aside0.mk ((by rw [hg]; exact (below_size (by repeat (first | (with_reducible first | exact HB.out | apply below_alloc | apply pw_below_drewN | apply below_drew1) | exact HB.out))) : w.heap.size ≤ gb193)); clear HO179; clear HO183; clear HO187; clear HO191; clear HB; have HO179 := n0_; have HO183 := n1_; have HO187 := n2_; have HO191 := n3_; have HB := n4_; have BK193 := n5_; have GW193 := n6_; have GE193 := n7_; clear n0_ n1_ n2_ n3_ n4_ n5_ n6_ n7_; clear hb hbox hg; have hcz25_0 : w24.cell? ⟨gb193, 0, none⟩ = some (.int .u32 0) := (blk_cell BK193.out 0).trans rfl; have hcz25_1 : w24.cell? ⟨gb193, 1, none⟩ = some (.slice none 0 0) := (blk_cell BK193.out 1).trans rfl; have hfz25_0 := blk_frozen BK193.out 0; have hfz25_1 := blk_frozen BK193.out 1; obtain ⟨Ao26, co26, eo26⟩ := Kd.S_slice HO191.out; subst eo26) | ((with_reducible refine gate_dst (N := 29) rfl ?_); (try (refine gate_guard (by rfl) ?_; dsimp only)); refine Kd.R_lit (Kd.int .u8) _ 5 ?hg (N := 29) ?hd (xs := ([1] : List Int)) (inner := [.int .u8 1]) (ok := fun _ => True) (okp := fun _ => True) ?hr ?hp (fun _ hk => hk) trivial (Below.refl _ _) (Nat.le_refl _) (by simp) ?_; (case hd => rfl); (case hg => rfl); (case hr => first | (go_simp; done) | (go_simp; rfl)); (case hp => exact (Reps.one (show Kd.M (Kd.int .u8) _ _ _ 1 [.int .u8 1] from rfl) (Reps.none _ _))); intro v195 w27 ho28 hb hg_ hnew_; clear hg_ hnew_; (first | rw [← Ny194.out] at ho28 | (simp only [Int.reduceToNat] at ho28; rw [← Ny194.out] at ho28)); have n0_ := Aside0.mk (Kd.R_elder' (by (with_reducible repeat (first | apply Kd.R_alloc | apply Kd.R_drewN | apply Kd.R_drew)); exact (Kd.R_mono (Kd.R_far (p := ⟨gb193, 1, none⟩) (Kd.R_far (p := ⟨gb193, 0, none⟩) (Kd.R_types HO179.out BK193.out (by decide)) (fun _ hk => hk.2) (.int .u32 t188)) (fun _ hk => hk.2) (.slice Ao26 t189.length co26)) (fun _ h_ => h_.1))) (Kd.R_base ho28) hb); have n1_ := Aside0.mk (Kd.R_elder' (by (with_reducible repeat (first | apply Kd.R_alloc | apply Kd.R_drewN | apply Kd.R_drew)); exact (Kd.R_mono (Kd.R_far (p := ⟨gb193, 1, none⟩) (Kd.R_far (p := ⟨gb193, 0, none⟩) (Kd.R_types HO183.out BK193.out (by decide)) (fun _ hk => hk.2) (.int .u32 t188)) (fun _ hk => hk.2) (.slice Ao26 t189.length co26)) (fun _ h_ => h_.1))) (Kd.R_base ho28) hb); have n2_ := Aside0.mk (Kd.R_elder' (by (with_reducible repeat (first | apply Kd.R_alloc | apply Kd.R_drewN | apply Kd.R_drew)); exact (Kd.R_mono (Kd.R_far (p := ⟨gb193, 1, none⟩) (Kd.R_far (p := ⟨gb193, 0, none⟩) (Kd.R_types HO187.out BK193.out (by decide)) (fun _ hk => hk.2) (.int .u32 t188)) (fun _ hk => hk.2) (.slice Ao26 t189.length co26)) (fun _ h_ => h_.1))) (Kd.R_base ho28) hb); have n3_ := Aside0.mk (Kd.S_below (by (with_reducible repeat (first | apply Kd.S_alloc | apply Kd.S_drewN | apply Kd.S_drew)); exact (Kd.S_mono (Kd.S_far (p := ⟨gb193, 1, none⟩) (Kd.S_far (p := ⟨gb193, 0, none⟩) (Kd.S_types HO191.out BK193.out (by decide)) (fun _ hk => hk.2) (.int .u32 t188)) (fun _ hk => hk.2) (.slice Ao26 t189.length co26)) (fun _ h_ => h_.1))) hb); have n4_ := Aside0.mk (Kd.R_lower (Kd.R_new' (Kd.R_new' (Kd.R_new' ho28 (Kd.R_lt (by (with_reducible repeat (first | apply Kd.R_alloc | apply Kd.R_drewN | apply Kd.R_drew)); exact (Kd.R_mono (Kd.R_far (p := ⟨gb193, 1, none⟩) (Kd.R_far (p := ⟨gb193, 0, none⟩) (Kd.R_types HO179.out BK193.out (by decide)) (fun _ hk => hk.2) (.int .u32 t188)) (fun _ hk => hk.2) (.slice Ao26 t189.length co26)) (fun _ h_ => h_.1))))) (Kd.R_lt (by (with_reducible repeat (first | apply Kd.R_alloc | apply Kd.R_drewN | apply Kd.R_drew)); exact (Kd.R_mono (Kd.R_far (p := ⟨gb193, 1, none⟩) (Kd.R_far (p := ⟨gb193, 0, none⟩) (Kd.R_types HO183.out BK193.out (by decide)) (fun _ hk => hk.2) (.int .u32 t188)) (fun _ hk => hk.2) (.slice Ao26 t189.length co26)) (fun _ h_ => h_.1))))) (Kd.R_lt (by (with_reducible repeat (first | apply Kd.R_alloc | apply Kd.R_drewN | apply Kd.R_drew)); exact (Kd.R_mono (Kd.R_far (p := ⟨gb193, 1, none⟩) (Kd.R_far (p := ⟨gb193, 0, none⟩) (Kd.R_types HO187.out BK193.out (by decide)) (fun _ hk => hk.2) (.int .u32 t188)) (fun _ hk => hk.2) (.slice Ao26 t189.length co26)) (fun _ h_ => h_.1))))) (below_size (by repeat (first | (with_reducible first | exact HB.out | apply below_alloc | apply pw_below_drewN | apply below_drew1 | refine below_set ?_ GE193.out) | exact HB.out)))); have n5_ := Aside0.mk (blk_below (g := gb193) (o := .cells #[.int .u32 t188, .slice Ao26 t189.length co26] 25 (0, 0)) (by (with_reducible repeat (first | refine blk_drewN ?_ _ | refine blk_drew ?_ | refine blk_alloc ?_ _)); refine blk_put (cs := #[.int .u32 t188, .slice none 0 0]) ?_ 1 _ rfl; (with_reducible repeat (first | refine blk_drewN ?_ _ | refine blk_drew ?_ | refine blk_alloc ?_ _)); refine blk_put (cs := #[.int .u32 0, .slice none 0 0]) ?_ 0 _ rfl; (with_reducible repeat (first | refine blk_drewN ?_ _ | refine blk_drew ?_ | refine blk_alloc ?_ _)); exact BK193.out) hb); have n6_ := Aside0.mk (below_step (by repeat (first | (with_reducible first | exact HB.out | apply below_alloc | apply pw_below_drewN | apply below_drew1 | refine below_set ?_ GE193.out) | exact HB.out)) hb); clear HO179; clear HO183; clear HO187; clear HO191; clear BK193; clear HB; have HO179 := n0_; have HO183 := n1_; have HO187 := n2_; have HO191 := n3_; have HO196 := n4_; have BK193 := n5_; have HB := n6_; clear n0_ n1_ n2_ n3_ n4_ n5_ n6_; clear hb ho28; obtain ⟨Ao29, co29, eo29⟩ := Kd.R_slice HO196.out; subst eo29) | ((with_reducible refine gate_callee (f := 28) rfl ?_); refine goesL_ (some 30) rfl rfl Try.func28 (by kernel_rfl) rfl #[.slice Ao29 y194.length co29] rfl (by (try simp only [List.map_toArray, List.map_cons, List.map_nil]); first | done | rfl | (simp only [List.length_drop, List.length_take]; rfl) | (rw [IntKind.wrap_u64, Int.emod_eq_of_lt (by omega) (by omega)]; rfl)) ?_; (with_reducible refine (codec_Decode.calls _ _ y194 t197 t198 t201 _ ?side1 ?side2 A4.out).mono ?_); (case side1 => repeat (first | exact (Kd.R_reads' HO196.out).2.2 | (with_reducible refine Kd.C_alloc ?_ _) | (with_reducible refine Kd.C_drewN ?_ _) | (with_reducible refine Kd.C_drew ?_))); (case side2 => exact (Kd.R_reads' HO196.out).2.1); rintro e w30 ⟨v199, rfl, ho0, hb⟩; refine ⟨_, rfl, ?_⟩; have n0_ := Aside0.mk (Kd.R_below (by (with_reducible repeat (first | apply Kd.R_alloc | apply Kd.R_drewN | apply Kd.R_drew)); exact HO179.out) hb); have n1_ := Aside0.mk (Kd.R_below (by (with_reducible repeat (first | apply Kd.R_alloc | apply Kd.R_drewN | apply Kd.R_drew)); exact HO183.out) hb); have n2_ := Aside0.mk (Kd.R_below (by (with_reducible repeat (first | apply Kd.R_alloc | apply Kd.R_drewN | apply Kd.R_drew)); exact HO187.out) hb); have n3_ := Aside0.mk (Kd.S_elder' (by (with_reducible repeat (first | apply Kd.S_alloc | apply Kd.S_drewN | apply Kd.S_drew)); exact HO191.out) (Kd.S_base ho0) hb); have n4_ := Aside0.mk (Kd.R_below (by (with_reducible repeat (first | apply Kd.R_alloc | apply Kd.R_drewN | apply Kd.R_drew)); exact HO196.out) hb); have n5_ := Aside0.mk (Kd.S_lower (Kd.S_new' ho0 (Kd.S_lt (by (with_reducible repeat (first | apply Kd.S_alloc | apply Kd.S_drewN | apply Kd.S_drew)); exact HO191.out))) (below_size (by repeat (first | (with_reducible first | exact HB.out | apply below_alloc | apply pw_below_drewN | apply below_drew1 | refine below_set ?_ GE193.out) | exact HB.out)))); have n6_ := Aside0.mk (blk_below (g := gb193) (o := .cells #[.int .u32 t188, .slice Ao26 t189.length co26] 25 (0, 0)) (by (with_reducible repeat (first | refine blk_drewN ?_ _ | refine blk_drew ?_ | refine blk_alloc ?_ _)); exact BK193.out) hb); have n7_ := Aside0.mk (below_step (by repeat (first | (with_reducible first | exact HB.out | apply below_alloc | apply pw_below_drewN | apply below_drew1 | refine below_set ?_ GE193.out) | exact HB.out)) hb); clear HO179; clear HO183; clear HO187; clear HO191; clear HO196; clear BK193; clear HB; have HO179 := n0_; have HO183 := n1_; have HO187 := n2_; have HO191 := n3_; have HO196 := n4_; have HO200 := n5_; have BK193 := n6_; have HB := n7_; clear n0_ n1_ n2_ n3_ n4_ n5_ n6_ n7_; (try clear hb); (try clear hb2); (try clear hk); (try clear hi); (try clear ho0)) | ((with_reducible refine gate_dst (N := 7) rfl ?_); (try (refine gate_guard (by rfl) ?_; dsimp only)); refine box_event ?hg (N := 7) ?hd (cs := #[.int .u32 0, .slice none 0 0]) (t := 25) ?hr ?_; (case hd => rfl); (case hg => rfl); (case hr => first | (go_simp; done) | (go_simp; rfl)); intro gb202 hg w31 hbox hb; have n0_ := Aside0.mk (Kd.R_below (by (with_reducible repeat (first | apply Kd.R_alloc | apply Kd.R_drewN | apply Kd.R_drew)); exact HO179.out) hb); have n1_ := Aside0.mk (Kd.R_below (by (with_reducible repeat (first | apply Kd.R_alloc | apply Kd.R_drewN | apply Kd.R_drew)); exact HO183.out) hb); have n2_ := Aside0.mk (Kd.R_below (by (with_reducible repeat (first | apply Kd.R_alloc | apply Kd.R_drewN | apply Kd.R_drew)); exact HO187.out) hb); have n3_ := Aside0.mk (Kd.S_below (by (with_reducible repeat (first | apply Kd.S_alloc | apply Kd.S_drewN | apply Kd.S_drew)); exact HO191.out) hb); have n4_ := Aside0.mk (Kd.R_below (by (with_reducible repeat (first | apply Kd.R_alloc | apply Kd.R_drewN | apply Kd.R_drew)); exact HO196.out) hb); have n5_ := Aside0.mk (Kd.S_below (by (with_reducible repeat (first | apply Kd.S_alloc | apply Kd.S_drewN | apply Kd.S_drew)); exact HO200.out) hb); have n6_ := Aside0.mk (blk_below (g := gb193) (o := .cells #[.int .u32 t188, .slice Ao26 t189.length co26] 25 (0, 0)) (by (with_reducible repeat (first | refine blk_drewN ?_ _ | refine blk_drew ?_ | refine blk_alloc ?_ _)); exact BK193.out) hb); have n7_ := Aside0.mk (below_step (by repeat (first | (with_reducible first | exact HB.out | apply below_alloc | apply pw_below_drewN | apply below_drew1 | refine below_set ?_ GE193.out) | exact HB.out)) hb); have n8_ := Aside0.mk (hbox); have n9_ := Aside0.mk ((by rw [hg]; exact (below_size (by repeat (first | (with_reducible first | exact HB.out | apply below_alloc | apply pw_below_drewN | apply below_drew1 | refine below_set ?_ GE193.out) | exact HB.out))) : w.heap.size ≤ gb202)); have n10_ := Aside0.mk ((by rw [hg]; exact (below_size (by repeat (first | (with_reducible first | exact HB.out | apply below_alloc | apply pw_below_drewN | apply below_drew1 | refine below_set ?_ GE193.out) | exact HB.out))) : w.heap.size ≤ gb202)); have n11_ := Aside0.mk ((by rw [hg]; exact Nat.ne_of_lt (blk_lt (g := gb193) (o := .cells #[.int .u32 t188, .slice Ao26 t189.length co26] 25 (0, 0)) (by (with_reducible repeat (first | refine blk_drewN ?_ _ | refine blk_drew ?_ | refine blk_alloc ?_ _)); exact BK193.out)) : gb193 ≠ gb202)); have n12_ := Aside0.mk ((by rw [hg]; exact Nat.ne_of_gt (blk_lt (g := gb193) (o := .cells #[.int .u32 t188, .slice Ao26 t189.length co26] 25 (0, 0)) (by (with_reducible repeat (first | refine blk_drewN ?_ _ | refine blk_drew ?_ | refine blk_alloc ?_ _)); exact BK193.out)) : gb202 ≠ gb193)); clear HO179; clear HO183; clear HO187; clear HO191; clear HO196; clear HO200; clear BK193; clear HB; have HO179 := n0_; have HO183 := n1_; have HO187 := n2_; have HO191 := n3_; have HO196 := n4_; have HO200 := n5_; have BK193 := n6_; have HB := n7_; have BK202 := n8_; have GW202 := n9_; have GE202 := n10_; have NB193_202 := n11_; have NB202_193 := n12_; clear n0_ n1_ n2_ n3_ n4_ n5_ n6_ n7_ n8_ n9_ n10_ n11_ n12_; clear hb hbox hg; have hnb32 := NB202_193.out; have hnc32 := NB193_202.out; have hcz33_0 : w31.cell? ⟨gb202, 0, none⟩ = some (.int .u32 0) := (blk_cell BK202.out 0).trans rfl; have hcz33_1 : w31.cell? ⟨gb202, 1, none⟩ = some (.slice none 0 0) := (blk_cell BK202.out 1).trans rfl; have hfz33_0 := blk_frozen BK202.out 0; have hfz33_1 := blk_frozen BK202.out 1; obtain ⟨Ao34, co34, eo34⟩ := Kd.S_slice HO200.out; subst eo34) | ((with_reducible refine gate_dst (N := 34) rfl ?_); (try (refine gate_guard (by rfl) ?_; dsimp only)); refine Kd.R_lit (Kd.int .u8) _ 5 ?hg (N := 34) ?hd (xs := ([1, 0, 0] : List Int)) (inner := [.int .u8 1, .int .u8 0, .int .u8 0]) (ok := fun _ => True) (okp := fun _ => True) ?hr ?hp (fun _ hk => hk) trivial (Below.refl _ _) (Nat.le_refl _) (by simp) ?_; (case hd => rfl); (case hg => rfl); (case hr => first | (go_simp; done) | (go_simp; rfl)); (case hp => exact (Reps.one (show Kd.M (Kd.int .u8) _ _ _ 1 [.int .u8 1] from rfl) (Reps.one (show Kd.M (Kd.int .u8) _ _ _ 0 [.int .u8 0] from rfl) (Reps.one (show Kd.M (Kd.int .u8) _ _ _ 0 [.int .u8 0] from rfl) (Reps.none _ _))))); intro v204 w35 ho36 hb hg_ hnew_; clear hg_ hnew_; (first | rw [← Ny203.out] at ho36 | (simp only [Int.reduceToNat] at ho36; rw [← Ny203.out] at ho36)); have n0_ := Aside0.mk (Kd.R_elder' (by (with_reducible repeat (first | apply Kd.R_alloc | apply Kd.R_drewN | apply Kd.R_drew)); exact (Kd.R_mono (Kd.R_far (p := ⟨gb202, 1, none⟩) (Kd.R_far (p := ⟨gb202, 0, none⟩) (Kd.R_types HO179.out BK202.out (by decide)) (fun _ hk => hk.2) (.int .u32 t197)) (fun _ hk => hk.2) (.slice Ao34 t198.length co34)) (fun _ h_ => h_.1))) (Kd.R_base ho36) hb); have n1_ := Aside0.mk (Kd.R_elder' (by (with_reducible repeat (first | apply Kd.R_alloc | apply Kd.R_drewN | apply Kd.R_drew)); exact (Kd.R_mono (Kd.R_far (p := ⟨gb202, 1, none⟩) (Kd.R_far (p := ⟨gb202, 0, none⟩) (Kd.R_types HO183.out BK202.out (by decide)) (fun _ hk => hk.2) (.int .u32 t197)) (fun _ hk => hk.2) (.slice Ao34 t198.length co34)) (fun _ h_ => h_.1))) (Kd.R_base ho36) hb); have n2_ := Aside0.mk (Kd.R_elder' (by (with_reducible repeat (first | apply Kd.R_alloc | apply Kd.R_drewN | apply Kd.R_drew)); exact (Kd.R_mono (Kd.R_far (p := ⟨gb202, 1, none⟩) (Kd.R_far (p := ⟨gb202, 0, none⟩) (Kd.R_types HO187.out BK202.out (by decide)) (fun _ hk => hk.2) (.int .u32 t197)) (fun _ hk => hk.2) (.slice Ao34 t198.length co34)) (fun _ h_ => h_.1))) (Kd.R_base ho36) hb); have n3_ := Aside0.mk (Kd.S_below (by (with_reducible repeat (first | apply Kd.S_alloc | apply Kd.S_drewN | apply Kd.S_drew)); exact (Kd.S_mono (Kd.S_far (p := ⟨gb202, 1, none⟩) (Kd.S_far (p := ⟨gb202, 0, none⟩) (Kd.S_types HO191.out BK202.out (by decide)) (fun _ hk => hk.2) (.int .u32 t197)) (fun _ hk => hk.2) (.slice Ao34 t198.length co34)) (fun _ h_ => h_.1))) hb); have n4_ := Aside0.mk (Kd.R_elder' (by (with_reducible repeat (first | apply Kd.R_alloc | apply Kd.R_drewN | apply Kd.R_drew)); exact (Kd.R_mono (Kd.R_far (p := ⟨gb202, 1, none⟩) (Kd.R_far (p := ⟨gb202, 0, none⟩) (Kd.R_types HO196.out BK202.out (by decide)) (fun _ hk => hk.2) (.int .u32 t197)) (fun _ hk => hk.2) (.slice Ao34 t198.length co34)) (fun _ h_ => h_.1))) (Kd.R_base ho36) hb); have n5_ := Aside0.mk (Kd.S_below (by (with_reducible repeat (first | apply Kd.S_alloc | apply Kd.S_drewN | apply Kd.S_drew)); exact (Kd.S_mono (Kd.S_far (p := ⟨gb202, 1, none⟩) (Kd.S_far (p := ⟨gb202, 0, none⟩) (Kd.S_types HO200.out BK202.out (by decide)) (fun _ hk => hk.2) (.int .u32 t197)) (fun _ hk => hk.2) (.slice Ao34 t198.length co34)) (fun _ h_ => h_.1))) hb); have n6_ := Aside0.mk (Kd.R_lower (Kd.R_new' (Kd.R_new' (Kd.R_new' (Kd.R_new' ho36 (Kd.R_lt (by (with_reducible repeat (first | apply Kd.R_alloc | apply Kd.R_drewN | apply Kd.R_drew)); exact (Kd.R_mono (Kd.R_far (p := ⟨gb202, 1, none⟩) (Kd.R_far (p := ⟨gb202, 0, none⟩) (Kd.R_types HO179.out BK202.out (by decide)) (fun _ hk => hk.2) (.int .u32 t197)) (fun _ hk => hk.2) (.slice Ao34 t198.length co34)) (fun _ h_ => h_.1))))) (Kd.R_lt (by (with_reducible repeat (first | apply Kd.R_alloc | apply Kd.R_drewN | apply Kd.R_drew)); exact (Kd.R_mono (Kd.R_far (p := ⟨gb202, 1, none⟩) (Kd.R_far (p := ⟨gb202, 0, none⟩) (Kd.R_types HO183.out BK202.out (by decide)) (fun _ hk => hk.2) (.int .u32 t197)) (fun _ hk => hk.2) (.slice Ao34 t198.length co34)) (fun _ h_ => h_.1))))) (Kd.R_lt (by (with_reducible repeat (first | apply Kd.R_alloc | apply Kd.R_drewN | apply Kd.R_drew)); exact (Kd.R_mono (Kd.R_far (p := ⟨gb202, 1, none⟩) (Kd.R_far (p := ⟨gb202, 0, none⟩) (Kd.R_types HO187.out BK202.out (by decide)) (fun _ hk => hk.2) (.int .u32 t197)) (fun _ hk => hk.2) (.slice Ao34 t198.length co34)) (fun _ h_ => h_.1))))) (Kd.R_lt (by (with_reducible repeat (first | apply Kd.R_alloc | apply Kd.R_drewN | apply Kd.R_drew)); exact (Kd.R_mono (Kd.R_far (p := ⟨gb202, 1, none⟩) (Kd.R_far (p := ⟨gb202, 0, none⟩) (Kd.R_types HO196.out BK202.out (by decide)) (fun _ hk => hk.2) (.int .u32 t197)) (fun _ hk => hk.2) (.slice Ao34 t198.length co34)) (fun _ h_ => h_.1))))) (below_size (by repeat (first | (with_reducible first | exact HB.out | apply below_alloc | apply pw_below_drewN | apply below_drew1 | refine below_set ?_ GE193.out | refine below_set ?_ GE202.out) | exact HB.out)))); have n7_ := Aside0.mk (blk_below (g := gb193) (o := .cells #[.int .u32 t188, .slice Ao26 t189.length co26] 25 (0, 0)) (by (with_reducible repeat (first | refine blk_drewN ?_ _ | refine blk_drew ?_ | refine blk_alloc ?_ _)); refine blk_far ?_ NB193_202.out _; (with_reducible repeat (first | refine blk_drewN ?_ _ | refine blk_drew ?_ | refine blk_alloc ?_ _)); refine blk_far ?_ NB193_202.out _; (with_reducible repeat (first | refine blk_drewN ?_ _ | refine blk_drew ?_ | refine blk_alloc ?_ _)); exact BK193.out) hb); have n8_ := Aside0.mk (blk_below (g := gb202) (o := .cells #[.int .u32 t197, .slice Ao34 t198.length co34] 25 (0, 0)) (by (with_reducible repeat (first | refine blk_drewN ?_ _ | refine blk_drew ?_ | refine blk_alloc ?_ _)); refine blk_put (cs := #[.int .u32 t197, .slice none 0 0]) ?_ 1 _ rfl; (with_reducible repeat (first | refine blk_drewN ?_ _ | refine blk_drew ?_ | refine blk_alloc ?_ _)); refine blk_put (cs := #[.int .u32 0, .slice none 0 0]) ?_ 0 _ rfl; (with_reducible repeat (first | refine blk_drewN ?_ _ | refine blk_drew ?_ | refine blk_alloc ?_ _)); exact BK202.out) hb); have n9_ := Aside0.mk (below_step (by repeat (first | (with_reducible first | exact HB.out | apply below_alloc | apply pw_below_drewN | apply below_drew1 | refine below_set ?_ GE193.out | refine below_set ?_ GE202.out) | exact HB.out)) hb); clear HO179; clear HO183; clear HO187; clear HO191; clear HO196; clear HO200; clear BK193; clear BK202; clear HB; have HO179 := n0_; have HO183 := n1_; have HO187 := n2_; have HO191 := n3_; have HO196 := n4_; have HO200 := n5_; have HO205 := n6_; have BK193 := n7_; have BK202 := n8_; have HB := n9_; clear n0_ n1_ n2_ n3_ n4_ n5_ n6_ n7_ n8_ n9_; clear hb ho36; obtain ⟨Ao37, co37, eo37⟩ := Kd.R_slice HO205.out; subst eo37) | ((with_reducible refine gate_callee (f := 28) rfl ?_); refine goesL_ (some 35) rfl rfl Try.func28 (by kernel_rfl) rfl #[.slice Ao37 y203.length co37] rfl (by (try simp only [List.map_toArray, List.map_cons, List.map_nil]); first | done | rfl | (simp only [List.length_drop, List.length_take]; rfl) | (rw [IntKind.wrap_u64, Int.emod_eq_of_lt (by omega) (by omega)]; rfl)) ?_; (with_reducible refine (codec_Decode.calls _ _ y203 t206 t207 t210 _ ?side1 ?side2 A5.out).mono ?_); (case side1 => repeat (first | exact (Kd.R_reads' HO205.out).2.2 | (with_reducible refine Kd.C_alloc ?_ _) | (with_reducible refine Kd.C_drewN ?_ _) | (with_reducible refine Kd.C_drew ?_))); (case side2 => exact (Kd.R_reads' HO205.out).2.1); rintro e w38 ⟨v208, rfl, ho0, hb⟩; refine ⟨_, rfl, ?_⟩; have n0_ := Aside0.mk (Kd.R_below (by (with_reducible repeat (first | apply Kd.R_alloc | apply Kd.R_drewN | apply Kd.R_drew)); exact HO179.out) hb); have n1_ := Aside0.mk (Kd.R_below (by (with_reducible repeat (first | apply Kd.R_alloc | apply Kd.R_drewN | apply Kd.R_drew)); exact HO183.out) hb); have n2_ := Aside0.mk (Kd.R_below (by (with_reducible repeat (first | apply Kd.R_alloc | apply Kd.R_drewN | apply Kd.R_drew)); exact HO187.out) hb); have n3_ := Aside0.mk (Kd.S_elder' (by (with_reducible repeat (first | apply Kd.S_alloc | apply Kd.S_drewN | apply Kd.S_drew)); exact HO191.out) (Kd.S_base ho0) hb); have n4_ := Aside0.mk (Kd.R_below (by (with_reducible repeat (first | apply Kd.R_alloc | apply Kd.R_drewN | apply Kd.R_drew)); exact HO196.out) hb); have n5_ := Aside0.mk (Kd.S_elder' (by (with_reducible repeat (first | apply Kd.S_alloc | apply Kd.S_drewN | apply Kd.S_drew)); exact HO200.out) (Kd.S_base ho0) hb); have n6_ := Aside0.mk (Kd.R_below (by (with_reducible repeat (first | apply Kd.R_alloc | apply Kd.R_drewN | apply Kd.R_drew)); exact HO205.out) hb); have n7_ := Aside0.mk (Kd.S_lower (Kd.S_new' (Kd.S_new' ho0 (Kd.S_lt (by (with_reducible repeat (first | apply Kd.S_alloc | apply Kd.S_drewN | apply Kd.S_drew)); exact HO191.out))) (Kd.S_lt (by (with_reducible repeat (first | apply Kd.S_alloc | apply Kd.S_drewN | apply Kd.S_drew)); exact HO200.out))) (below_size (by repeat (first | (with_reducible first | exact HB.out | apply below_alloc | apply pw_below_drewN | apply below_drew1 | refine below_set ?_ GE193.out | refine below_set ?_ GE202.out) | exact HB.out)))); have n8_ := Aside0.mk (blk_below (g := gb193) (o := .cells #[.int .u32 t188, .slice Ao26 t189.length co26] 25 (0, 0)) (by (with_reducible repeat (first | refine blk_drewN ?_ _ | refine blk_drew ?_ | refine blk_alloc ?_ _)); exact BK193.out) hb); have n9_ := Aside0.mk (blk_below (g := gb202) (o := .cells #[.int .u32 t197, .slice Ao34 t198.length co34] 25 (0, 0)) (by (with_reducible repeat (first | refine blk_drewN ?_ _ | refine blk_drew ?_ | refine blk_alloc ?_ _)); exact BK202.out) hb); have n10_ := Aside0.mk (below_step (by repeat (first | (with_reducible first | exact HB.out | apply below_alloc | apply pw_below_drewN | apply below_drew1 | refine below_set ?_ GE193.out | refine below_set ?_ GE202.out) | exact HB.out)) hb); clear HO179; clear HO183; clear HO187; clear HO191; clear HO196; clear HO200; clear HO205; clear BK193; clear BK202; clear HB; have HO179 := n0_; have HO183 := n1_; have HO187 := n2_; have HO191 := n3_; have HO196 := n4_; have HO200 := n5_; have HO205 := n6_; have HO209 := n7_; have BK193 := n8_; have BK202 := n9_; have HB := n10_; clear n0_ n1_ n2_ n3_ n4_ n5_ n6_ n7_ n8_ n9_ n10_; (try clear hb); (try clear hb2); (try clear hk); (try clear hi); (try clear ho0)) | ((with_reducible refine gate_dst (N := 9) rfl ?_); (try (refine gate_guard (by rfl) ?_; dsimp only)); refine box_event ?hg (N := 9) ?hd (cs := #[.int .u32 0, .slice none 0 0]) (t := 25) ?hr ?_; (case hd => rfl); (case hg => rfl); (case hr => first | (go_simp; done) | (go_simp; rfl)); intro gb211 hg w39 hbox hb; have n0_ := Aside0.mk (Kd.R_below (by (with_reducible repeat (first | apply Kd.R_alloc | apply Kd.R_drewN | apply Kd.R_drew)); exact HO179.out) hb); have n1_ := Aside0.mk (Kd.R_below (by (with_reducible repeat (first | apply Kd.R_alloc | apply Kd.R_drewN | apply Kd.R_drew)); exact HO183.out) hb); have n2_ := Aside0.mk (Kd.R_below (by (with_reducible repeat (first | apply Kd.R_alloc | apply Kd.R_drewN | apply Kd.R_drew)); exact HO187.out) hb); have n3_ := Aside0.mk (Kd.S_below (by (with_reducible repeat (first | apply Kd.S_alloc | apply Kd.S_drewN | apply Kd.S_drew)); exact HO191.out) hb); have n4_ := Aside0.mk (Kd.R_below (by (with_reducible repeat (first | apply Kd.R_alloc | apply Kd.R_drewN | apply Kd.R_drew)); exact HO196.out) hb); have n5_ := Aside0.mk (Kd.S_below (by (with_reducible repeat (first | apply Kd.S_alloc | apply Kd.S_drewN | apply Kd.S_drew)); exact HO200.out) hb); have n6_ := Aside0.mk (Kd.R_below (by (with_reducible repeat (first | apply Kd.R_alloc | apply Kd.R_drewN | apply Kd.R_drew)); exact HO205.out) hb); have n7_ := Aside0.mk (Kd.S_below (by (with_reducible repeat (first | apply Kd.S_alloc | apply Kd.S_drewN | apply Kd.S_drew)); exact HO209.out) hb); have n8_ := Aside0.mk (blk_below (g := gb193) (o := .cells #[.int .u32 t188, .slice Ao26 t189.length co26] 25 (0, 0)) (by (with_reducible repeat (first | refine blk_drewN ?_ _ | refine blk_drew ?_ | refine blk_alloc ?_ _)); exact BK193.out) hb); have n9_ := Aside0.mk (blk_below (g := gb202) (o := .cells #[.int .u32 t197, .slice Ao34 t198.length co34] 25 (0, 0)) (by (with_reducible repeat (first | refine blk_drewN ?_ _ | refine blk_drew ?_ | refine blk_alloc ?_ _)); exact BK202.out) hb); have n10_ := Aside0.mk (below_step (by repeat (first | (with_reducible first | exact HB.out | apply below_alloc | apply pw_below_drewN | apply below_drew1 | refine below_set ?_ GE193.out | refine below_set ?_ GE202.out) | exact HB.out)) hb); have n11_ := Aside0.mk (hbox); have n12_ := Aside0.mk ((by rw [hg]; exact (below_size (by repeat (first | (with_reducible first | exact HB.out | apply below_alloc | apply pw_below_drewN | apply below_drew1 | refine below_set ?_ GE193.out | refine below_set ?_ GE202.out) | exact HB.out))) : w.heap.size ≤ gb211)); have n13_ := Aside0.mk ((by rw [hg]; exact (below_size (by repeat (first | (with_reducible first | exact HB.out | apply below_alloc | apply pw_below_drewN | apply below_drew1 | refine below_set ?_ GE193.out | refine below_set ?_ GE202.out) | exact HB.out))) : w.heap.size ≤ gb211)); have n14_ := Aside0.mk ((by rw [hg]; exact Nat.ne_of_lt (blk_lt (g := gb193) (o := .cells #[.int .u32 t188, .slice Ao26 t189.length co26] 25 (0, 0)) (by (with_reducible repeat (first | refine blk_drewN ?_ _ | refine blk_drew ?_ | refine blk_alloc ?_ _)); exact BK193.out)) : gb193 ≠ gb211)); have n15_ := Aside0.mk ((by rw [hg]; exact Nat.ne_of_gt (blk_lt (g := gb193) (o := .cells #[.int .u32 t188, .slice Ao26 t189.length co26] 25 (0, 0)) (by (with_reducible repeat (first | refine blk_drewN ?_ _ | refine blk_drew ?_ | refine blk_alloc ?_ _)); exact BK193.out)) : gb211 ≠ gb193)); have n16_ := Aside0.mk ((by rw [hg]; exact Nat.ne_of_lt (blk_lt (g := gb202) (o := .cells #[.int .u32 t197, .slice Ao34 t198.length co34] 25 (0, 0)) (by (with_reducible repeat (first | refine blk_drewN ?_ _ | refine blk_drew ?_ | refine blk_alloc ?_ _)); exact BK202.out)) : gb202 ≠ gb211)); have n17_ := Aside0.mk ((by rw [hg]; exact Nat.ne_of_gt (blk_lt (g := gb202) (o := .cells #[.int .u32 t197, .slice Ao34 t198.length co34] 25 (0, 0)) (by (with_reducible repeat (first | refine blk_drewN ?_ _ | refine blk_drew ?_ | refine blk_alloc ?_ _)); exact BK202.out)) : gb211 ≠ gb202)); clear HO179; clear HO183; clear HO187; clear HO191; clear HO196; clear HO200; clear HO205; clear HO209; clear BK193; clear BK202; clear HB; have HO179 := n0_; have HO183 := n1_; have HO187 := n2_; have HO191 := n3_; have HO196 := n4_; have HO200 := n5_; have HO205 := n6_; have HO209 := n7_; have BK193 := n8_; have BK202 := n9_; have HB := n10_; have BK211 := n11_; have GW211 := n12_; have GE211 := n13_; have NB193_211 := n14_; have NB211_193 := n15_; have NB202_211 := n16_; have NB211_202 := n17_; clear n0_ n1_ n2_ n3_ n4_ n5_ n6_ n7_ n8_ n9_ n10_ n11_ n12_ n13_ n14_ n15_ n16_ n17_; clear hb hbox hg; have hnb40 := NB211_193.out; have hnc40 := NB193_211.out; have hnb41 := NB211_202.out; have hnc41 := NB202_211.out; have hcz42_0 : w39.cell? ⟨gb211, 0, none⟩ = some (.int .u32 0) := (blk_cell BK211.out 0).trans rfl; have hcz42_1 : w39.cell? ⟨gb211, 1, none⟩ = some (.slice none 0 0) := (blk_cell BK211.out 1).trans rfl; have hfz42_0 := blk_frozen BK211.out 0; have hfz42_1 := blk_frozen BK211.out 1; obtain ⟨Ao43, co43, eo43⟩ := Kd.S_slice HO209.out; subst eo43) | ((with_reducible refine gate_dst (N := 41) rfl ?_); (try (refine gate_guard (by rfl) ?_; dsimp only)); refine Kd.R_lit k57 _ 57 ?hg (N := 41) ?hd (xs := ([(⟨(⟨2, (⟨#[97]⟩ : ByteArray)⟩ : S28), (⟨#[98, 99]⟩ : ByteArray)⟩ : S57)] : List (S57))) (inner := [.int .u8 2, .string (⟨#[97]⟩ : ByteArray), .string (⟨#[98, 99]⟩ : ByteArray)]) (ok := fun _ => True) (okp := fun _ => True) ?hr ?hp (fun _ hk => hk) trivial (Below.refl _ _) (Nat.le_refl _) (by simp) ?_; (case hd => rfl); (case hg => rfl); (case hr => first | (go_simp; done) | (go_simp; rfl)); (case hp => exact (Reps.c3 (show Kd.M k57 _ _ _ (⟨(⟨2, (⟨#[97]⟩ : ByteArray)⟩ : S28), (⟨#[98, 99]⟩ : ByteArray)⟩ : S57) [.int .u8 2, .string (⟨#[97]⟩ : ByteArray), .string (⟨#[98, 99]⟩ : ByteArray)] from (k57_mkM _ _ _ (⟨(⟨2, (⟨#[97]⟩ : ByteArray)⟩ : S28), (⟨#[98, 99]⟩ : ByteArray)⟩ : S57) )) (Reps.none _ _))); intro v213 w44 ho45 hb hg_ hnew_; clear hg_ hnew_; (first | rw [← Ny212.out] at ho45 | (simp only [Int.reduceToNat] at ho45; rw [← Ny212.out] at ho45)); have n0_ := Aside0.mk (Kd.R_below (by (with_reducible repeat (first | apply Kd.R_alloc | apply Kd.R_drewN | apply Kd.R_drew)); exact (Kd.R_mono (Kd.R_far (p := ⟨gb211, 1, none⟩) (Kd.R_far (p := ⟨gb211, 0, none⟩) (Kd.R_types HO179.out BK211.out (by decide)) (fun _ hk => hk.2) (.int .u32 t206)) (fun _ hk => hk.2) (.slice Ao43 t207.length co43)) (fun _ h_ => h_.1))) hb); have n1_ := Aside0.mk (Kd.R_below (by (with_reducible repeat (first | apply Kd.R_alloc | apply Kd.R_drewN | apply Kd.R_drew)); exact (Kd.R_mono (Kd.R_far (p := ⟨gb211, 1, none⟩) (Kd.R_far (p := ⟨gb211, 0, none⟩) (Kd.R_types HO183.out BK211.out (by decide)) (fun _ hk => hk.2) (.int .u32 t206)) (fun _ hk => hk.2) (.slice Ao43 t207.length co43)) (fun _ h_ => h_.1))) hb); have n2_ := Aside0.mk (Kd.R_below (by (with_reducible repeat (first | apply Kd.R_alloc | apply Kd.R_drewN | apply Kd.R_drew)); exact (Kd.R_mono (Kd.R_far (p := ⟨gb211, 1, none⟩) (Kd.R_far (p := ⟨gb211, 0, none⟩) (Kd.R_types HO187.out BK211.out (by decide)) (fun _ hk => hk.2) (.int .u32 t206)) (fun _ hk => hk.2) (.slice Ao43 t207.length co43)) (fun _ h_ => h_.1))) hb); have n3_ := Aside0.mk (Kd.S_below (by (with_reducible repeat (first | apply Kd.S_alloc | apply Kd.S_drewN | apply Kd.S_drew)); exact (Kd.S_mono (Kd.S_far (p := ⟨gb211, 1, none⟩) (Kd.S_far (p := ⟨gb211, 0, none⟩) (Kd.S_types HO191.out BK211.out (by decide)) (fun _ hk => hk.2) (.int .u32 t206)) (fun _ hk => hk.2) (.slice Ao43 t207.length co43)) (fun _ h_ => h_.1))) hb); have n4_ := Aside0.mk (Kd.R_below (by (with_reducible repeat (first | apply Kd.R_alloc | apply Kd.R_drewN | apply Kd.R_drew)); exact (Kd.R_mono (Kd.R_far (p := ⟨gb211, 1, none⟩) (Kd.R_far (p := ⟨gb211, 0, none⟩) (Kd.R_types HO196.out BK211.out (by decide)) (fun _ hk => hk.2) (.int .u32 t206)) (fun _ hk => hk.2) (.slice Ao43 t207.length co43)) (fun _ h_ => h_.1))) hb); have n5_ := Aside0.mk (Kd.S_below (by (with_reducible repeat (first | apply Kd.S_alloc | apply Kd.S_drewN | apply Kd.S_drew)); exact (Kd.S_mono (Kd.S_far (p := ⟨gb211, 1, none⟩) (Kd.S_far (p := ⟨gb211, 0, none⟩) (Kd.S_types HO200.out BK211.out (by decide)) (fun _ hk => hk.2) (.int .u32 t206)) (fun _ hk => hk.2) (.slice Ao43 t207.length co43)) (fun _ h_ => h_.1))) hb); have n6_ := Aside0.mk (Kd.R_below (by (with_reducible repeat (first | apply Kd.R_alloc | apply Kd.R_drewN | apply Kd.R_drew)); exact (Kd.R_mono (Kd.R_far (p := ⟨gb211, 1, none⟩) (Kd.R_far (p := ⟨gb211, 0, none⟩) (Kd.R_types HO205.out BK211.out (by decide)) (fun _ hk => hk.2) (.int .u32 t206)) (fun _ hk => hk.2) (.slice Ao43 t207.length co43)) (fun _ h_ => h_.1))) hb); have n7_ := Aside0.mk (Kd.S_below (by (with_reducible repeat (first | apply Kd.S_alloc | apply Kd.S_drewN | apply Kd.S_drew)); exact (Kd.S_mono (Kd.S_far (p := ⟨gb211, 1, none⟩) (Kd.S_far (p := ⟨gb211, 0, none⟩) (Kd.S_types HO209.out BK211.out (by decide)) (fun _ hk => hk.2) (.int .u32 t206)) (fun _ hk => hk.2) (.slice Ao43 t207.length co43)) (fun _ h_ => h_.1))) hb); have n8_ := Aside0.mk (Kd.R_lower ho45 (below_size (by repeat (first | (with_reducible first | exact HB.out | apply below_alloc | apply pw_below_drewN | apply below_drew1 | refine below_set ?_ GE193.out | refine below_set ?_ GE202.out | refine below_set ?_ GE211.out) | exact HB.out)))); have n9_ := Aside0.mk (blk_below (g := gb193) (o := .cells #[.int .u32 t188, .slice Ao26 t189.length co26] 25 (0, 0)) (by (with_reducible repeat (first | refine blk_drewN ?_ _ | refine blk_drew ?_ | refine blk_alloc ?_ _)); refine blk_far ?_ NB193_211.out _; (with_reducible repeat (first | refine blk_drewN ?_ _ | refine blk_drew ?_ | refine blk_alloc ?_ _)); refine blk_far ?_ NB193_211.out _; (with_reducible repeat (first | refine blk_drewN ?_ _ | refine blk_drew ?_ | refine blk_alloc ?_ _)); exact BK193.out) hb); have n10_ := Aside0.mk (blk_below (g := gb202) (o := .cells #[.int .u32 t197, .slice Ao34 t198.length co34] 25 (0, 0)) (by (with_reducible repeat (first | refine blk_drewN ?_ _ | refine blk_drew ?_ | refine blk_alloc ?_ _)); refine blk_far ?_ NB202_211.out _; (with_reducible repeat (first | refine blk_drewN ?_ _ | refine blk_drew ?_ | refine blk_alloc ?_ _)); refine blk_far ?_ NB202_211.out _; (with_reducible repeat (first | refine blk_drewN ?_ _ | refine blk_drew ?_ | refine blk_alloc ?_ _)); exact BK202.out) hb); have n11_ := Aside0.mk (blk_below (g := gb211) (o := .cells #[.int .u32 t206, .slice Ao43 t207.length co43] 25 (0, 0)) (by (with_reducible repeat (first | refine blk_drewN ?_ _ | refine blk_drew ?_ | refine blk_alloc ?_ _)); refine blk_put (cs := #[.int .u32 t206, .slice none 0 0]) ?_ 1 _ rfl; (with_reducible repeat (first | refine blk_drewN ?_ _ | refine blk_drew ?_ | refine blk_alloc ?_ _)); refine blk_put (cs := #[.int .u32 0, .slice none 0 0]) ?_ 0 _ rfl; (with_reducible repeat (first | refine blk_drewN ?_ _ | refine blk_drew ?_ | refine blk_alloc ?_ _)); exact BK211.out) hb); have n12_ := Aside0.mk (below_step (by repeat (first | (with_reducible first | exact HB.out | apply below_alloc | apply pw_below_drewN | apply below_drew1 | refine below_set ?_ GE193.out | refine below_set ?_ GE202.out | refine below_set ?_ GE211.out) | exact HB.out)) hb); clear HO179; clear HO183; clear HO187; clear HO191; clear HO196; clear HO200; clear HO205; clear HO209; clear BK193; clear BK202; clear BK211; clear HB; have HO179 := n0_; have HO183 := n1_; have HO187 := n2_; have HO191 := n3_; have HO196 := n4_; have HO200 := n5_; have HO205 := n6_; have HO209 := n7_; have HO214 := n8_; have BK193 := n9_; have BK202 := n10_; have BK211 := n11_; have HB := n12_; clear n0_ n1_ n2_ n3_ n4_ n5_ n6_ n7_ n8_ n9_ n10_ n11_ n12_; clear hb ho45; obtain ⟨Ao46, co46, eo46⟩ := Kd.R_slice HO214.out; subst eo46) | ((with_reducible refine gate_callee (f := 17) rfl ?_); refine goesL_ (some 42) rfl rfl Try.func17 (by kernel_rfl) rfl #[.slice Ao46 y212.length co46] rfl (by (try simp only [List.map_toArray, List.map_cons, List.map_nil]); first | done | rfl | (simp only [List.length_drop, List.length_take]; rfl) | (rw [IntKind.wrap_u64, Int.emod_eq_of_lt (by omega) (by omega)]; rfl)) ?_; (with_reducible refine (codec_EncodeRows.calls k _ _ y212 t215 t216 _ ?side1 ?side2 A6.out).mono ?_); (case side1 => repeat (first | exact (Kd.R_reads' HO214.out).2.2 | (with_reducible refine Kd.C_alloc ?_ _) | (with_reducible refine Kd.C_drewN ?_ _) | (with_reducible refine Kd.C_drew ?_))); (case side2 => exact (Kd.R_reads' HO214.out).2.1); rintro e w47 ⟨v217, rfl, ho0, hb⟩; refine ⟨_, rfl, ?_⟩; have n0_ := Aside0.mk (Kd.R_elder' (by (with_reducible repeat (first | apply Kd.R_alloc | apply Kd.R_drewN | apply Kd.R_drew)); exact HO179.out) (Kd.R_base ho0) hb); have n1_ := Aside0.mk (Kd.R_elder' (by (with_reducible repeat (first | apply Kd.R_alloc | apply Kd.R_drewN | apply Kd.R_drew)); exact HO183.out) (Kd.R_base ho0) hb); have n2_ := Aside0.mk (Kd.R_elder' (by (with_reducible repeat (first | apply Kd.R_alloc | apply Kd.R_drewN | apply Kd.R_drew)); exact HO187.out) (Kd.R_base ho0) hb); have n3_ := Aside0.mk (Kd.S_below (by (with_reducible repeat (first | apply Kd.S_alloc | apply Kd.S_drewN | apply Kd.S_drew)); exact HO191.out) hb); have n4_ := Aside0.mk (Kd.R_elder' (by (with_reducible repeat (first | apply Kd.R_alloc | apply Kd.R_drewN | apply Kd.R_drew)); exact HO196.out) (Kd.R_base ho0) hb); have n5_ := Aside0.mk (Kd.S_below (by (with_reducible repeat (first | apply Kd.S_alloc | apply Kd.S_drewN | apply Kd.S_drew)); exact HO200.out) hb); have n6_ := Aside0.mk (Kd.R_elder' (by (with_reducible repeat (first | apply Kd.R_alloc | apply Kd.R_drewN | apply Kd.R_drew)); exact HO205.out) (Kd.R_base ho0) hb); have n7_ := Aside0.mk (Kd.S_below (by (with_reducible repeat (first | apply Kd.S_alloc | apply Kd.S_drewN | apply Kd.S_drew)); exact HO209.out) hb); have n8_ := Aside0.mk (Kd.R_below (by (with_reducible repeat (first | apply Kd.R_alloc | apply Kd.R_drewN | apply Kd.R_drew)); exact HO214.out) hb); have n9_ := Aside0.mk (Kd.R_lower (Kd.R_new' (Kd.R_new' (Kd.R_new' (Kd.R_new' (Kd.R_new' ho0 (Kd.R_lt (by (with_reducible repeat (first | apply Kd.R_alloc | apply Kd.R_drewN | apply Kd.R_drew)); exact HO179.out))) (Kd.R_lt (by (with_reducible repeat (first | apply Kd.R_alloc | apply Kd.R_drewN | apply Kd.R_drew)); exact HO183.out))) (Kd.R_lt (by (with_reducible repeat (first | apply Kd.R_alloc | apply Kd.R_drewN | apply Kd.R_drew)); exact HO187.out))) (Kd.R_lt (by (with_reducible repeat (first | apply Kd.R_alloc | apply Kd.R_drewN | apply Kd.R_drew)); exact HO196.out))) (Kd.R_lt (by (with_reducible repeat (first | apply Kd.R_alloc | apply Kd.R_drewN | apply Kd.R_drew)); exact HO205.out))) (below_size (by repeat (first | (with_reducible first | exact HB.out | apply below_alloc | apply pw_below_drewN | apply below_drew1 | refine below_set ?_ GE193.out | refine below_set ?_ GE202.out | refine below_set ?_ GE211.out) | exact HB.out)))); have n10_ := Aside0.mk (blk_below (g := gb193) (o := .cells #[.int .u32 t188, .slice Ao26 t189.length co26] 25 (0, 0)) (by (with_reducible repeat (first | refine blk_drewN ?_ _ | refine blk_drew ?_ | refine blk_alloc ?_ _)); exact BK193.out) hb); have n11_ := Aside0.mk (blk_below (g := gb202) (o := .cells #[.int .u32 t197, .slice Ao34 t198.length co34] 25 (0, 0)) (by (with_reducible repeat (first | refine blk_drewN ?_ _ | refine blk_drew ?_ | refine blk_alloc ?_ _)); exact BK202.out) hb); have n12_ := Aside0.mk (blk_below (g := gb211) (o := .cells #[.int .u32 t206, .slice Ao43 t207.length co43] 25 (0, 0)) (by (with_reducible repeat (first | refine blk_drewN ?_ _ | refine blk_drew ?_ | refine blk_alloc ?_ _)); exact BK211.out) hb); have n13_ := Aside0.mk (below_step (by repeat (first | (with_reducible first | exact HB.out | apply below_alloc | apply pw_below_drewN | apply below_drew1 | refine below_set ?_ GE193.out | refine below_set ?_ GE202.out | refine below_set ?_ GE211.out) | exact HB.out)) hb); clear HO179; clear HO183; clear HO187; clear HO191; clear HO196; clear HO200; clear HO205; clear HO209; clear HO214; clear BK193; clear BK202; clear BK211; clear HB; have HO179 := n0_; have HO183 := n1_; have HO187 := n2_; have HO191 := n3_; have HO196 := n4_; have HO200 := n5_; have HO205 := n6_; have HO209 := n7_; have HO214 := n8_; have HO218 := n9_; have BK193 := n10_; have BK202 := n11_; have BK211 := n12_; have HB := n13_; clear n0_ n1_ n2_ n3_ n4_ n5_ n6_ n7_ n8_ n9_ n10_ n11_ n12_ n13_; (try clear hb); (try clear hb2); (try clear hk); (try clear hi); (try clear ho0); have hcv48 := own_string (P := Try.prog) Try.underlying32 Try.underlying5 Try.underlying9 (Kd.own_of_R HO179.out); have hcv49 := fun nq_ => own_string (P := Try.prog) Try.underlying32 Try.underlying5 Try.underlying9 (Kd.own_of_R (Kd.R_drewN HO179.out nq_)); have hcz50_0 : w47.cell? ⟨gb193, 0, none⟩ = some (.int .u32 t188) := (blk_cell BK193.out 0).trans rfl; have hcz50_1 : w47.cell? ⟨gb193, 1, none⟩ = some (.slice Ao26 t189.length co26) := (blk_cell BK193.out 1).trans rfl; have hfz50_0 := blk_frozen BK193.out 0; have hfz50_1 := blk_frozen BK193.out 1; have hcv51 := own_string (P := Try.prog) Try.underlying32 Try.underlying5 Try.underlying9 (Kd.own_of_R HO218.out); have hcv52 := fun nq_ => own_string (P := Try.prog) Try.underlying32 Try.underlying5 Try.underlying9 (Kd.own_of_R (Kd.R_drewN HO218.out nq_))) | (go_at_call 22; (with_reducible refine (codec_Less.calls k 1 (⟨#[122]⟩ : ByteArray) 2 (⟨#[97]⟩ : ByteArray) t219 _ A17.out).mono ?_); rintro e w53 ⟨rfl, hb⟩; have n0_ := Aside0.mk (Kd.R_below (by (with_reducible repeat (first | apply Kd.R_alloc | apply Kd.R_drewN | apply Kd.R_drew)); exact HO179.out) hb); have n1_ := Aside0.mk (Kd.R_below (by (with_reducible repeat (first | apply Kd.R_alloc | apply Kd.R_drewN | apply Kd.R_drew)); exact HO183.out) hb); have n2_ := Aside0.mk (Kd.R_below (by (with_reducible repeat (first | apply Kd.R_alloc | apply Kd.R_drewN | apply Kd.R_drew)); exact HO187.out) hb); have n3_ := Aside0.mk (Kd.S_below (by (with_reducible repeat (first | apply Kd.S_alloc | apply Kd.S_drewN | apply Kd.S_drew)); exact HO191.out) hb); have n4_ := Aside0.mk (Kd.R_below (by (with_reducible repeat (first | apply Kd.R_alloc | apply Kd.R_drewN | apply Kd.R_drew)); exact HO196.out) hb); have n5_ := Aside0.mk (Kd.S_below (by (with_reducible repeat (first | apply Kd.S_alloc | apply Kd.S_drewN | apply Kd.S_drew)); exact HO200.out) hb); have n6_ := Aside0.mk (Kd.R_below (by (with_reducible repeat (first | apply Kd.R_alloc | apply Kd.R_drewN | apply Kd.R_drew)); exact HO205.out) hb); have n7_ := Aside0.mk (Kd.S_below (by (with_reducible repeat (first | apply Kd.S_alloc | apply Kd.S_drewN | apply Kd.S_drew)); exact HO209.out) hb); have n8_ := Aside0.mk (Kd.R_below (by (with_reducible repeat (first | apply Kd.R_alloc | apply Kd.R_drewN | apply Kd.R_drew)); exact HO214.out) hb); have n9_ := Aside0.mk (Kd.R_below (by (with_reducible repeat (first | apply Kd.R_alloc | apply Kd.R_drewN | apply Kd.R_drew)); exact HO218.out) hb); have n10_ := Aside0.mk (blk_below (g := gb193) (o := .cells #[.int .u32 t188, .slice Ao26 t189.length co26] 25 (0, 0)) (by (with_reducible repeat (first | refine blk_drewN ?_ _ | refine blk_drew ?_ | refine blk_alloc ?_ _)); exact BK193.out) hb); have n11_ := Aside0.mk (blk_below (g := gb202) (o := .cells #[.int .u32 t197, .slice Ao34 t198.length co34] 25 (0, 0)) (by (with_reducible repeat (first | refine blk_drewN ?_ _ | refine blk_drew ?_ | refine blk_alloc ?_ _)); exact BK202.out) hb); have n12_ := Aside0.mk (blk_below (g := gb211) (o := .cells #[.int .u32 t206, .slice Ao43 t207.length co43] 25 (0, 0)) (by (with_reducible repeat (first | refine blk_drewN ?_ _ | refine blk_drew ?_ | refine blk_alloc ?_ _)); exact BK211.out) hb); have n13_ := Aside0.mk (below_step (by repeat (first | (with_reducible first | exact HB.out | apply below_alloc | apply pw_below_drewN | apply below_drew1 | refine below_set ?_ GE193.out | refine below_set ?_ GE202.out | refine below_set ?_ GE211.out) | exact HB.out)) hb); clear HO179; clear HO183; clear HO187; clear HO191; clear HO196; clear HO200; clear HO205; clear HO209; clear HO214; clear HO218; clear BK193; clear BK202; clear BK211; clear HB; have HO179 := n0_; have HO183 := n1_; have HO187 := n2_; have HO191 := n3_; have HO196 := n4_; have HO200 := n5_; have HO205 := n6_; have HO209 := n7_; have HO214 := n8_; have HO218 := n9_; have BK193 := n10_; have BK202 := n11_; have BK211 := n12_; have HB := n13_; clear n0_ n1_ n2_ n3_ n4_ n5_ n6_ n7_ n8_ n9_ n10_ n11_ n12_ n13_; (try clear hb); (try clear hb2); (try clear hk); (try clear hi)))
                      go_ret
                      exact ⟨by first | rfl | (simp [errW_none, errW_some] <;> rfl) | (simp [*, errW_none, errW_some] <;> rfl), by repeat (first | (with_reducible first | exact HB.out | apply below_alloc | apply pw_below_drewN | apply below_drew1 | refine below_set ?_ GE193.out | refine below_set ?_ GE202.out | refine below_set ?_ GE211.out) | exact HB.out)⟩
                    · rw [if_neg c16] at H
                      have c16b0 : (t216 == 0) = false := beq_eq_false_iff_ne.mpr c16
                      have c16b1 : (t216 != 0) = true := bne_iff_ne.mpr c16
                      exact absurd ((Option.some.inj H).trans HRT.out) (by decide)
                  · rw [if_neg c15] at H
                    have c15b0 : ((strOfNums t215).toList == ([1, 2, 1, 97, 2, 98, 99] : List UInt8)) = false := beq_eq_false_iff_ne.mpr c15
                    have c15b1 : ((strOfNums t215).toList != ([1, 2, 1, 97, 2, 98, 99] : List UInt8)) = true := bne_iff_ne.mpr c15
                    exact absurd ((Option.some.inj H).trans HRT.out) (by decide)
                · rw [if_neg c14] at H
                  have c14b0 : (t210 == 3) = false := beq_eq_false_iff_ne.mpr c14
                  have c14b1 : (t210 != 3) = true := bne_iff_ne.mpr c14
                  exact absurd ((Option.some.inj H).trans HRT.out) (by decide)
              · rw [if_neg c13] at H
                have c13b0 : (t201 == 2) = false := beq_eq_false_iff_ne.mpr c13
                have c13b1 : (t201 != 2) = true := bne_iff_ne.mpr c13
                exact absurd ((Option.some.inj H).trans HRT.out) (by decide)
            · rw [if_neg c12] at H
              have c12b0 : (t192 == 0) = false := beq_eq_false_iff_ne.mpr c12
              have c12b1 : (t192 != 0) = true := bne_iff_ne.mpr c12
              exact absurd ((Option.some.inj H).trans HRT.out) (by decide)
          · rw [if_neg c11] at H
            have c11b0 : ((t189.length : Int) == 0) = false := beq_eq_false_iff_ne.mpr c11
            have c11b1 : ((t189.length : Int) != 0) = true := bne_iff_ne.mpr c11
            have c11b2 : ¬ (t189 = []) := fun h_ => c11 (by rw [h_]; rfl)
            exact absurd ((Option.some.inj H).trans HRT.out) (by decide)
        · rw [if_neg c10] at H
          have c10b0 : (t188 == 1) = false := beq_eq_false_iff_ne.mpr c10
          have c10b1 : (t188 != 1) = true := bne_iff_ne.mpr c10
          exact absurd ((Option.some.inj H).trans HRT.out) (by decide)
      · rw [if_neg c9] at H
        have c9b0 : (t184 == 1) = false := beq_eq_false_iff_ne.mpr c9
        have c9b1 : (t184 != 1) = true := bne_iff_ne.mpr c9
        exact absurd ((Option.some.inj H).trans HRT.out) (by decide)
    · rw [if_neg c8] at H
      have c8b0 : (t180 == 0) = false := beq_eq_false_iff_ne.mpr c8
      have c8b1 : (t180 != 0) = true := bne_iff_ne.mpr c8
      exact absurd ((Option.some.inj H).trans HRT.out) (by decide)
  · rw [if_neg c7] at H
    have c7b0 : ((strOfNums t177).toList == ([1, 0] : List UInt8)) = false := beq_eq_false_iff_ne.mpr c7
    have c7b1 : ((strOfNums t177).toList != ([1, 0] : List UInt8)) = true := bne_iff_ne.mpr c7
    exact absurd ((Option.some.inj H).trans HRT.out) (by decide)

/-- shown, as a plain function. -/
def tidemarklaw04_shown.f : Option Bool := some true
theorem shown_k : shownK.f 30 = some true := by decide +kernel
theorem tidemarklaw04_shown.calls (r : Bool) (w : World) (h : tidemarklaw04_shown.f = some r) : Calls Try.prog 13 #[] w fun e w' => e = .returned (.bool r) ∧ Below w.heap.size w w' := by
  obtain rfl := Option.some.inj h
  exact shownK.calls 30 true w rfl shown_k
end Go.Proofs.Ytgmdoapedhppmaa.PC

/- Proofs that functions of the program come to what plain Lean functions say; made by wip/drive.py. -/
namespace Go.Proofs.Ytgmdoapedhppmaa.PC
set_option linter.unusedVariables false
set_option linter.unusedSimpArgs false
open Go.RowKit Go.Proofs.YtgmdoapedhppmaaW.PrintWords Go.Proofs.YtgmdoapedhppmaaW.PrintLast Go.Proofs.YtgmdoapedhppmaaW.PrintMore
attribute [local go_sem] max2_int min2_int max_two min_two max_three min_three max_four min_four   -- for this text's walks alone
set_option linter.unusedVariables false
set_option linter.unusedSimpArgs false

/-! ### tidemarklaw04_CodecTwo: function 12 -/
mutual
def tidemarklaw04_CodecTwo.j0 : Nat → Bool → List Int → List Int → List Int → Int → List Int → Int → Bool → Option (Bool)
  | 0, _, _, _, _, _, _, _, _ => none
  | k + 1, x9, x10, x12, x14, x15, x16, x17, x52 => if x52 = true then ((some (([] : List Int) : List Int)).bind fun y709 => (if y709.length + x10.length < 140737488355328 then ((some (y709 ++ x10 : List Int)).bind fun y712 => (if y712.length + x12.length < 140737488355328 then ((codec_Decode.f (y712 ++ x12)).bind fun bt718 => (if bt718.2.2 = 3 then (tidemarklaw04_CodecTwo.j1 k x9 x14 x15 x16 x17) else (some false))) else (none))) else (none))) else (tidemarklaw04_CodecTwo.j1 k x9 x14 x15 x16 x17)
def tidemarklaw04_CodecTwo.j1 : Nat → Bool → List Int → Int → List Int → Int → Option (Bool)
  | 0, _, _, _, _, _ => none
  | k + 1, x9, x14, x15, x16, x17 => if x15 = 0 then (tidemarklaw04_CodecTwo.j2 k x9 x14 x16 (x17 == 0)) else (tidemarklaw04_CodecTwo.j2 k x9 x14 x16 false)
def tidemarklaw04_CodecTwo.j2 : Nat → Bool → List Int → List Int → Bool → Option (Bool)
  | 0, _, _, _, _ => none
  | k + 1, x9, x14, x16, x69 => if x69 = true then ((some (([] : List Int) : List Int)).bind fun y724 => (if y724.length + x14.length < 140737488355328 then ((some (y724 ++ x14 : List Int)).bind fun y727 => (if y727.length + x16.length < 140737488355328 then ((codec_DecodeRows.f (y727 ++ x16)).bind fun bt733 => (if bt733.2 = 3 then (some x9) else (some false))) else (none))) else (none))) else (some x9)
end
def tidemarklaw04_CodecTwo.f (k : Nat) (a0_0 : Int) (l0_1 : List (S47)) (a1_0 : Int) (l1_1 : List (S47)) (l2 : List (S57)) (l3 : List (S57)) : Option (Bool) := (tidemarklaw04_shown.f).bind fun t678 => ((tidemarklaw04_few.f a0_0 l0_1).bind fun bt679 => ((codec_Encode.f k bt679.1 bt679.2).bind fun bt683 => ((tidemarklaw04_few.f a1_0 l1_1).bind fun bt687 => ((codec_Encode.f k bt687.1 bt687.2).bind fun bt691 => ((tidemarklaw04_fewRows.f l2).bind fun t695 => ((codec_EncodeRows.f k t695).bind fun bt698 => ((tidemarklaw04_fewRows.f l3).bind fun t702 => ((codec_EncodeRows.f k t702).bind fun bt705 => (if bt683.2 = 0 then (tidemarklaw04_CodecTwo.j0 k t678 bt683.1 bt691.1 bt698.1 bt698.2 bt705.1 bt705.2 (bt691.2 == 0)) else (tidemarklaw04_CodecTwo.j0 k t678 bt683.1 bt691.1 bt698.1 bt698.2 bt705.1 bt705.2 false))))))))))
theorem tidemarklaw04_CodecTwo.mono_l : ∀ k, (∀ y0 y1 y2 y3 y4 y5 y6 y7, LeO (tidemarklaw04_CodecTwo.j0 k y0 y1 y2 y3 y4 y5 y6 y7) (tidemarklaw04_CodecTwo.j0 (k + 1) y0 y1 y2 y3 y4 y5 y6 y7)) ∧ (∀ y0 y1 y2 y3 y4, LeO (tidemarklaw04_CodecTwo.j1 k y0 y1 y2 y3 y4) (tidemarklaw04_CodecTwo.j1 (k + 1) y0 y1 y2 y3 y4)) ∧ (∀ y0 y1 y2 y3, LeO (tidemarklaw04_CodecTwo.j2 k y0 y1 y2 y3) (tidemarklaw04_CodecTwo.j2 (k + 1) y0 y1 y2 y3))
  | 0 => ⟨fun _ _ _ _ _ _ _ _ r h => by simp [tidemarklaw04_CodecTwo.j0] at h, fun _ _ _ _ _ r h => by simp [tidemarklaw04_CodecTwo.j1] at h, fun _ _ _ _ r h => by simp [tidemarklaw04_CodecTwo.j2] at h⟩
  | k + 1 => by
    obtain ⟨ih0, ih1, ih2⟩ := tidemarklaw04_CodecTwo.mono_l k
    refine ⟨?_, ?_, ?_⟩
    · intro y0 y1 y2 y3 y4 y5 y6 y7
      unfold tidemarklaw04_CodecTwo.j0
      repeat' first
      | (with_reducible exact ih0 _ _ _ _ _ _ _ _)
      | (with_reducible exact ih1 _ _ _ _ _)
      | (with_reducible exact ih2 _ _ _ _)
      | (with_reducible exact codec_Encode.mono _ _ _)
      | (with_reducible exact codec_EncodeRows.mono _ _)
      | (with_reducible exact LeO.refl _)
      | (with_reducible exact LeO.none _)
      | (with_reducible refine LeO.ite ?_ ?_)
      | (with_reducible refine LeO.bind ?_ (fun _ => ?_))
      | exact ih0 _ _ _ _ _ _ _ _
      | exact ih1 _ _ _ _ _
      | exact ih2 _ _ _ _
      | exact codec_Encode.mono _ _ _
      | exact codec_EncodeRows.mono _ _
      | exact LeO.none _
      | refine LeO.ite ?_ ?_
      | refine LeO.bind ?_ (fun _ => ?_)
    · intro y0 y1 y2 y3 y4
      unfold tidemarklaw04_CodecTwo.j1
      repeat' first
      | (with_reducible exact ih0 _ _ _ _ _ _ _ _)
      | (with_reducible exact ih1 _ _ _ _ _)
      | (with_reducible exact ih2 _ _ _ _)
      | (with_reducible exact codec_Encode.mono _ _ _)
      | (with_reducible exact codec_EncodeRows.mono _ _)
      | (with_reducible exact LeO.refl _)
      | (with_reducible exact LeO.none _)
      | (with_reducible refine LeO.ite ?_ ?_)
      | (with_reducible refine LeO.bind ?_ (fun _ => ?_))
      | exact ih0 _ _ _ _ _ _ _ _
      | exact ih1 _ _ _ _ _
      | exact ih2 _ _ _ _
      | exact codec_Encode.mono _ _ _
      | exact codec_EncodeRows.mono _ _
      | exact LeO.none _
      | refine LeO.ite ?_ ?_
      | refine LeO.bind ?_ (fun _ => ?_)
    · intro y0 y1 y2 y3
      unfold tidemarklaw04_CodecTwo.j2
      repeat' first
      | (with_reducible exact ih0 _ _ _ _ _ _ _ _)
      | (with_reducible exact ih1 _ _ _ _ _)
      | (with_reducible exact ih2 _ _ _ _)
      | (with_reducible exact codec_Encode.mono _ _ _)
      | (with_reducible exact codec_EncodeRows.mono _ _)
      | (with_reducible exact LeO.refl _)
      | (with_reducible exact LeO.none _)
      | (with_reducible refine LeO.ite ?_ ?_)
      | (with_reducible refine LeO.bind ?_ (fun _ => ?_))
      | exact ih0 _ _ _ _ _ _ _ _
      | exact ih1 _ _ _ _ _
      | exact ih2 _ _ _ _
      | exact codec_Encode.mono _ _ _
      | exact codec_EncodeRows.mono _ _
      | exact LeO.none _
      | refine LeO.ite ?_ ?_
      | refine LeO.bind ?_ (fun _ => ?_)
theorem tidemarklaw04_CodecTwo.mono : ∀ a0 a1 a2 a3 a4 a5 k, LeO (tidemarklaw04_CodecTwo.f k a0 a1 a2 a3 a4 a5) (tidemarklaw04_CodecTwo.f (k + 1) a0 a1 a2 a3 a4 a5) := by
  intro a0 a1 a2 a3 a4 a5 k
  obtain ⟨ih0, ih1, ih2⟩ := tidemarklaw04_CodecTwo.mono_l k
  unfold tidemarklaw04_CodecTwo.f
  repeat' first
      | (with_reducible exact ih0 _ _ _ _ _ _ _ _)
      | (with_reducible exact ih1 _ _ _ _ _)
      | (with_reducible exact ih2 _ _ _ _)
      | (with_reducible exact codec_Encode.mono _ _ _)
      | (with_reducible exact codec_EncodeRows.mono _ _)
      | (with_reducible exact LeO.refl _)
      | (with_reducible exact LeO.none _)
      | (with_reducible refine LeO.ite ?_ ?_)
      | (with_reducible refine LeO.bind ?_ (fun _ => ?_))
      | exact ih0 _ _ _ _ _ _ _ _
      | exact ih1 _ _ _ _ _
      | exact ih2 _ _ _ _
      | exact codec_Encode.mono _ _ _
      | exact codec_EncodeRows.mono _ _
      | exact LeO.none _
      | refine LeO.ite ?_ ?_
      | refine LeO.bind ?_ (fun _ => ?_)
set_option maxHeartbeats 8000000 in
set_option maxRecDepth 100000 in
theorem tidemarklaw04_CodecTwo.calls (k : Nat) (a0_0 : Int) (A0_1 : Option Addr) (c0_1 : Nat) (l0_1 : List (S47)) (a1_0 : Int) (A1_1 : Option Addr) (c1_1 : Nat) (l1_1 : List (S47)) (A2 : Option Addr) (c2 : Nat) (l2 : List (S57)) (A3 : Option Addr) (c3 : Nat) (l3 : List (S57)) (r : Bool) (w : World) (hr0_1 : Kd.C k47 w A0_1 l0_1.length l0_1) (hc0_1 : l0_1.length ≤ c0_1) (hr1_1 : Kd.C k47 w A1_1 l1_1.length l1_1) (hc1_1 : l1_1.length ≤ c1_1) (hr2 : Kd.C k57 w A2 l2.length l2) (hc2 : l2.length ≤ c2) (hr3 : Kd.C k57 w A3 l3.length l3) (hc3 : l3.length ≤ c3) (hrt : r = true) (h : tidemarklaw04_CodecTwo.f k a0_0 l0_1 a1_0 l1_1 l2 l3 = some r) :
    Calls Try.prog 12 #[.agg #[.int .u32 a0_0, .slice A0_1 l0_1.length c0_1], .agg #[.int .u32 a1_0, .slice A1_1 l1_1.length c1_1], .slice A2 l2.length c2, .slice A3 l3.length c3] w fun e w' => e = .returned (.bool r) ∧ Below w.heap.size w w' := by
  have HRT := Aside0.mk hrt
  clear hrt
  have hu25 := Try.underlying25
  have HR0_1 := Aside0.mk hr0_1
  have HC0_1 := Aside0.mk hc0_1
  clear hr0_1 hc0_1
  have HR1_1 := Aside0.mk hr1_1
  have HC1_1 := Aside0.mk hc1_1
  clear hr1_1 hc1_1
  have HR2 := Aside0.mk hr2
  have HC2 := Aside0.mk hc2
  clear hr2 hc2
  have HR3 := Aside0.mk hr3
  have HC3 := Aside0.mk hc3
  clear hr3 hc3
  have HB := Aside0.mk (Below.refl w.heap.size w)
  have H : ((tidemarklaw04_shown.f).bind fun t678 => ((tidemarklaw04_few.f a0_0 l0_1).bind fun bt679 => ((codec_Encode.f k bt679.1 bt679.2).bind fun bt683 => ((tidemarklaw04_few.f a1_0 l1_1).bind fun bt687 => ((codec_Encode.f k bt687.1 bt687.2).bind fun bt691 => ((tidemarklaw04_fewRows.f l2).bind fun t695 => ((codec_EncodeRows.f k t695).bind fun bt698 => ((tidemarklaw04_fewRows.f l3).bind fun t702 => ((codec_EncodeRows.f k t702).bind fun bt705 => (if bt683.2 = 0 then (tidemarklaw04_CodecTwo.j0 k t678 bt683.1 bt691.1 bt698.1 bt698.2 bt705.1 bt705.2 (bt691.2 == 0)) else (tidemarklaw04_CodecTwo.j0 k t678 bt683.1 bt691.1 bt698.1 bt698.2 bt705.1 bt705.2 false))))))))))) = some r := h
  clear h
  replace H := Option.bind_eq_some_iff.mp H
  obtain ⟨t678, A50, H⟩ := H
  replace H : ((tidemarklaw04_few.f a0_0 l0_1).bind fun bt679 => ((codec_Encode.f k bt679.1 bt679.2).bind fun bt683 => ((tidemarklaw04_few.f a1_0 l1_1).bind fun bt687 => ((codec_Encode.f k bt687.1 bt687.2).bind fun bt691 => ((tidemarklaw04_fewRows.f l2).bind fun t695 => ((codec_EncodeRows.f k t695).bind fun bt698 => ((tidemarklaw04_fewRows.f l3).bind fun t702 => ((codec_EncodeRows.f k t702).bind fun bt705 => (if bt683.2 = 0 then (tidemarklaw04_CodecTwo.j0 k t678 bt683.1 bt691.1 bt698.1 bt698.2 bt705.1 bt705.2 (bt691.2 == 0)) else (tidemarklaw04_CodecTwo.j0 k t678 bt683.1 bt691.1 bt698.1 bt698.2 bt705.1 bt705.2 false)))))))))) = some r := H
  have A5 := Aside0.mk A50
  clear A50
  replace H := Option.bind_eq_some_iff.mp H
  obtain ⟨⟨t679, t680⟩, A60, H⟩ := H
  replace H : ((codec_Encode.f k t679 t680).bind fun bt683 => ((tidemarklaw04_few.f a1_0 l1_1).bind fun bt687 => ((codec_Encode.f k bt687.1 bt687.2).bind fun bt691 => ((tidemarklaw04_fewRows.f l2).bind fun t695 => ((codec_EncodeRows.f k t695).bind fun bt698 => ((tidemarklaw04_fewRows.f l3).bind fun t702 => ((codec_EncodeRows.f k t702).bind fun bt705 => (if bt683.2 = 0 then (tidemarklaw04_CodecTwo.j0 k t678 bt683.1 bt691.1 bt698.1 bt698.2 bt705.1 bt705.2 (bt691.2 == 0)) else (tidemarklaw04_CodecTwo.j0 k t678 bt683.1 bt691.1 bt698.1 bt698.2 bt705.1 bt705.2 false))))))))) = some r := H
  have A6 := Aside0.mk A60
  clear A60
  replace H := Option.bind_eq_some_iff.mp H
  obtain ⟨⟨t683, t686⟩, A70, H⟩ := H
  replace H : ((tidemarklaw04_few.f a1_0 l1_1).bind fun bt687 => ((codec_Encode.f k bt687.1 bt687.2).bind fun bt691 => ((tidemarklaw04_fewRows.f l2).bind fun t695 => ((codec_EncodeRows.f k t695).bind fun bt698 => ((tidemarklaw04_fewRows.f l3).bind fun t702 => ((codec_EncodeRows.f k t702).bind fun bt705 => (if t686 = 0 then (tidemarklaw04_CodecTwo.j0 k t678 t683 bt691.1 bt698.1 bt698.2 bt705.1 bt705.2 (bt691.2 == 0)) else (tidemarklaw04_CodecTwo.j0 k t678 t683 bt691.1 bt698.1 bt698.2 bt705.1 bt705.2 false)))))))) = some r := H
  have A7 := Aside0.mk A70
  clear A70
  replace H := Option.bind_eq_some_iff.mp H
  obtain ⟨⟨t687, t688⟩, A80, H⟩ := H
  replace H : ((codec_Encode.f k t687 t688).bind fun bt691 => ((tidemarklaw04_fewRows.f l2).bind fun t695 => ((codec_EncodeRows.f k t695).bind fun bt698 => ((tidemarklaw04_fewRows.f l3).bind fun t702 => ((codec_EncodeRows.f k t702).bind fun bt705 => (if t686 = 0 then (tidemarklaw04_CodecTwo.j0 k t678 t683 bt691.1 bt698.1 bt698.2 bt705.1 bt705.2 (bt691.2 == 0)) else (tidemarklaw04_CodecTwo.j0 k t678 t683 bt691.1 bt698.1 bt698.2 bt705.1 bt705.2 false))))))) = some r := H
  have A8 := Aside0.mk A80
  clear A80
  replace H := Option.bind_eq_some_iff.mp H
  obtain ⟨⟨t691, t694⟩, A90, H⟩ := H
  replace H : ((tidemarklaw04_fewRows.f l2).bind fun t695 => ((codec_EncodeRows.f k t695).bind fun bt698 => ((tidemarklaw04_fewRows.f l3).bind fun t702 => ((codec_EncodeRows.f k t702).bind fun bt705 => (if t686 = 0 then (tidemarklaw04_CodecTwo.j0 k t678 t683 t691 bt698.1 bt698.2 bt705.1 bt705.2 (t694 == 0)) else (tidemarklaw04_CodecTwo.j0 k t678 t683 t691 bt698.1 bt698.2 bt705.1 bt705.2 false)))))) = some r := H
  have A9 := Aside0.mk A90
  clear A90
  replace H := Option.bind_eq_some_iff.mp H
  obtain ⟨t695, A100, H⟩ := H
  replace H : ((codec_EncodeRows.f k t695).bind fun bt698 => ((tidemarklaw04_fewRows.f l3).bind fun t702 => ((codec_EncodeRows.f k t702).bind fun bt705 => (if t686 = 0 then (tidemarklaw04_CodecTwo.j0 k t678 t683 t691 bt698.1 bt698.2 bt705.1 bt705.2 (t694 == 0)) else (tidemarklaw04_CodecTwo.j0 k t678 t683 t691 bt698.1 bt698.2 bt705.1 bt705.2 false))))) = some r := H
  have A10 := Aside0.mk A100
  clear A100
  replace H := Option.bind_eq_some_iff.mp H
  obtain ⟨⟨t698, t699⟩, A110, H⟩ := H
  replace H : ((tidemarklaw04_fewRows.f l3).bind fun t702 => ((codec_EncodeRows.f k t702).bind fun bt705 => (if t686 = 0 then (tidemarklaw04_CodecTwo.j0 k t678 t683 t691 t698 t699 bt705.1 bt705.2 (t694 == 0)) else (tidemarklaw04_CodecTwo.j0 k t678 t683 t691 t698 t699 bt705.1 bt705.2 false)))) = some r := H
  have A11 := Aside0.mk A110
  clear A110
  replace H := Option.bind_eq_some_iff.mp H
  obtain ⟨t702, A120, H⟩ := H
  replace H : ((codec_EncodeRows.f k t702).bind fun bt705 => (if t686 = 0 then (tidemarklaw04_CodecTwo.j0 k t678 t683 t691 t698 t699 bt705.1 bt705.2 (t694 == 0)) else (tidemarklaw04_CodecTwo.j0 k t678 t683 t691 t698 t699 bt705.1 bt705.2 false))) = some r := H
  have A12 := Aside0.mk A120
  clear A120
  replace H := Option.bind_eq_some_iff.mp H
  obtain ⟨⟨t705, t706⟩, A130, H⟩ := H
  replace H : (if t686 = 0 then (tidemarklaw04_CodecTwo.j0 k t678 t683 t691 t698 t699 t705 t706 (t694 == 0)) else (tidemarklaw04_CodecTwo.j0 k t678 t683 t691 t698 t699 t705 t706 false)) = some r := H
  have A13 := Aside0.mk A130
  clear A130
  have HC14 := Aside0.mk H
  clear H
  go_enter Try.func12, Try.ntmps12
  go_upto_region 6 with (first | ((with_reducible refine gate_dst (N := 4) rfl ?_); refine box_event ?hg (N := 4) ?hd (cs := #[.int .u32 a0_0, .slice A0_1 l0_1.length c0_1]) (t := 25) ?hr ?_; (case hd => rfl); (case hg => rfl); (case hr => first | (go_simp; done) | (go_simp; rfl)); intro gb676 hg w15 hbox hb; have n0_ := Aside0.mk (below_step (by repeat (first | (with_reducible first | exact HB.out | apply below_alloc | apply pw_below_drewN | apply below_drew1) | exact HB.out)) hb); have n1_ := Aside0.mk (hbox); have n2_ := Aside0.mk ((by rw [hg]; exact (below_size (by repeat (first | (with_reducible first | exact HB.out | apply below_alloc | apply pw_below_drewN | apply below_drew1) | exact HB.out))) : w.heap.size ≤ gb676)); have n3_ := Aside0.mk ((by rw [hg]; exact (below_size (by repeat (first | (with_reducible first | exact HB.out | apply below_alloc | apply pw_below_drewN | apply below_drew1) | exact HB.out))) : w.heap.size ≤ gb676)); clear HB; have HB := n0_; have BK676 := n1_; have GW676 := n2_; have GE676 := n3_; clear n0_ n1_ n2_ n3_; clear hb hbox hg) | ((with_reducible refine gate_dst (N := 5) rfl ?_); refine box_event ?hg (N := 5) ?hd (cs := #[.int .u32 a1_0, .slice A1_1 l1_1.length c1_1]) (t := 25) ?hr ?_; (case hd => rfl); (case hg => rfl); (case hr => first | (go_simp; done) | (go_simp; rfl)); intro gb677 hg w16 hbox hb; have n0_ := Aside0.mk (blk_below (g := gb676) (o := .cells #[.int .u32 a0_0, .slice A0_1 l0_1.length c0_1] 25 (0, 0)) (by (with_reducible repeat (first | refine blk_drewN ?_ _ | refine blk_drew ?_ | refine blk_alloc ?_ _)); exact BK676.out) hb); have n1_ := Aside0.mk (below_step (by repeat (first | (with_reducible first | exact HB.out | apply below_alloc | apply pw_below_drewN | apply below_drew1 | refine below_set ?_ GE676.out) | exact HB.out)) hb); have n2_ := Aside0.mk (hbox); have n3_ := Aside0.mk ((by rw [hg]; exact (below_size (by repeat (first | (with_reducible first | exact HB.out | apply below_alloc | apply pw_below_drewN | apply below_drew1 | refine below_set ?_ GE676.out) | exact HB.out))) : w.heap.size ≤ gb677)); have n4_ := Aside0.mk ((by rw [hg]; exact (below_size (by repeat (first | (with_reducible first | exact HB.out | apply below_alloc | apply pw_below_drewN | apply below_drew1 | refine below_set ?_ GE676.out) | exact HB.out))) : w.heap.size ≤ gb677)); have n5_ := Aside0.mk ((by rw [hg]; exact Nat.ne_of_lt (blk_lt (g := gb676) (o := .cells #[.int .u32 a0_0, .slice A0_1 l0_1.length c0_1] 25 (0, 0)) (by (with_reducible repeat (first | refine blk_drewN ?_ _ | refine blk_drew ?_ | refine blk_alloc ?_ _)); exact BK676.out)) : gb676 ≠ gb677)); have n6_ := Aside0.mk ((by rw [hg]; exact Nat.ne_of_gt (blk_lt (g := gb676) (o := .cells #[.int .u32 a0_0, .slice A0_1 l0_1.length c0_1] 25 (0, 0)) (by (with_reducible repeat (first | refine blk_drewN ?_ _ | refine blk_drew ?_ | refine blk_alloc ?_ _)); exact BK676.out)) : gb677 ≠ gb676)); clear BK676; clear HB; have BK676 := n0_; have HB := n1_; have BK677 := n2_; have GW677 := n3_; have GE677 := n4_; have NB676_677 := n5_; have NB677_676 := n6_; clear n0_ n1_ n2_ n3_ n4_ n5_ n6_; clear hb hbox hg) | ((with_reducible refine gate_callee (f := 13) rfl ?_); refine goesL_ (some 22) rfl rfl Try.func13 (by kernel_rfl) rfl #[] rfl (by (try simp only [List.map_toArray, List.map_cons, List.map_nil]); first | done | rfl | (simp only [List.length_drop, List.length_take]; rfl) | (rw [IntKind.wrap_u64, Int.emod_eq_of_lt (by omega) (by omega)]; rfl)) ?_; (with_reducible refine (tidemarklaw04_shown.calls  t678 _ A5.out).mono ?_); rintro e w17 ⟨rfl, hb⟩; refine ⟨_, rfl, ?_⟩; have n0_ := Aside0.mk (blk_below (g := gb676) (o := .cells #[.int .u32 a0_0, .slice A0_1 l0_1.length c0_1] 25 (0, 0)) (by (with_reducible repeat (first | refine blk_drewN ?_ _ | refine blk_drew ?_ | refine blk_alloc ?_ _)); exact BK676.out) hb); have n1_ := Aside0.mk (blk_below (g := gb677) (o := .cells #[.int .u32 a1_0, .slice A1_1 l1_1.length c1_1] 25 (0, 0)) (by (with_reducible repeat (first | refine blk_drewN ?_ _ | refine blk_drew ?_ | refine blk_alloc ?_ _)); exact BK677.out) hb); have n2_ := Aside0.mk (below_step (by repeat (first | (with_reducible first | exact HB.out | apply below_alloc | apply pw_below_drewN | apply below_drew1 | refine below_set ?_ GE676.out | refine below_set ?_ GE677.out) | exact HB.out)) hb); clear BK676; clear BK677; clear HB; have BK676 := n0_; have BK677 := n1_; have HB := n2_; clear n0_ n1_ n2_; (try clear hb); (try clear hb2); (try clear hk); (try clear hi); have hnb18 := NB676_677.out; have hnc18 := NB677_676.out; have hcz19_0 : w17.cell? ⟨gb676, 0, none⟩ = some (.int .u32 a0_0) := (blk_cell BK676.out 0).trans rfl; have hcz19_1 : w17.cell? ⟨gb676, 1, none⟩ = some (.slice A0_1 l0_1.length c0_1) := (blk_cell BK676.out 1).trans rfl; have hfz19_0 := blk_frozen BK676.out 0; have hfz19_1 := blk_frozen BK676.out 1) | ((with_reducible refine gate_callee (f := 14) rfl ?_); refine goesL_ (some 25) rfl rfl Try.func14 (by kernel_rfl) rfl #[.agg #[.int .u32 a0_0, .slice A0_1 l0_1.length c0_1]] rfl (by (try simp only [List.map_toArray, List.map_cons, List.map_nil]); first | done | rfl | (simp only [List.length_drop, List.length_take]; rfl) | (rw [IntKind.wrap_u64, Int.emod_eq_of_lt (by omega) (by omega)]; rfl)) ?_; (with_reducible refine (tidemarklaw04_few.calls a0_0 _ _ l0_1 t679 t680 _ ?side1 ?side2 A6.out).mono ?_); (case side1 => repeat (first | exact (Kd.C_below HR0_1.out HB.out) | (with_reducible refine Kd.C_alloc ?_ _) | (with_reducible refine Kd.C_drewN ?_ _) | (with_reducible refine Kd.C_drew ?_))); (case side2 => exact HC0_1.out); rintro e w20 ⟨v681, rfl, ho0, hb⟩; refine ⟨_, rfl, ?_⟩; have n0_ := Aside0.mk (Kd.S_lower ho0 (below_size (by repeat (first | (with_reducible first | exact HB.out | apply below_alloc | apply pw_below_drewN | apply below_drew1 | refine below_set ?_ GE676.out | refine below_set ?_ GE677.out) | exact HB.out)))); have n1_ := Aside0.mk (blk_below (g := gb676) (o := .cells #[.int .u32 a0_0, .slice A0_1 l0_1.length c0_1] 25 (0, 0)) (by (with_reducible repeat (first | refine blk_drewN ?_ _ | refine blk_drew ?_ | refine blk_alloc ?_ _)); exact BK676.out) hb); have n2_ := Aside0.mk (blk_below (g := gb677) (o := .cells #[.int .u32 a1_0, .slice A1_1 l1_1.length c1_1] 25 (0, 0)) (by (with_reducible repeat (first | refine blk_drewN ?_ _ | refine blk_drew ?_ | refine blk_alloc ?_ _)); exact BK677.out) hb); have n3_ := Aside0.mk (below_step (by repeat (first | (with_reducible first | exact HB.out | apply below_alloc | apply pw_below_drewN | apply below_drew1 | refine below_set ?_ GE676.out | refine below_set ?_ GE677.out) | exact HB.out)) hb); clear BK676; clear BK677; clear HB; have HO682 := n0_; have BK676 := n1_; have BK677 := n2_; have HB := n3_; clear n0_ n1_ n2_ n3_; (try clear hb); (try clear hb2); (try clear hk); (try clear hi); (try clear ho0); obtain ⟨Ao21, co21, eo21⟩ := Kd.S_slice HO682.out; subst eo21) | ((with_reducible refine gate_callee (f := 16) rfl ?_); refine goesL_ (some 26) rfl rfl Try.func16 (by kernel_rfl) rfl #[.agg #[.int .u32 t679, .slice Ao21 t680.length co21]] rfl (by (try simp only [List.map_toArray, List.map_cons, List.map_nil]); first | done | rfl | (simp only [List.length_drop, List.length_take]; rfl) | (rw [IntKind.wrap_u64, Int.emod_eq_of_lt (by omega) (by omega)]; rfl)) ?_; (with_reducible refine (codec_Encode.calls k t679 _ _ t680 t683 t686 _ ?side1 ?side2 A7.out).mono ?_); (case side1 => repeat (first | exact (Kd.S_reads' HO682.out).2.2 | (with_reducible refine Kd.C_alloc ?_ _) | (with_reducible refine Kd.C_drewN ?_ _) | (with_reducible refine Kd.C_drew ?_))); (case side2 => exact (Kd.S_reads' HO682.out).2.1); rintro e w22 ⟨v684, rfl, ho0, hb⟩; refine ⟨_, rfl, ?_⟩; have n0_ := Aside0.mk (Kd.S_below (by (with_reducible repeat (first | apply Kd.S_alloc | apply Kd.S_drewN | apply Kd.S_drew)); exact HO682.out) hb); have n1_ := Aside0.mk (Kd.R_lower ho0 (below_size (by repeat (first | (with_reducible first | exact HB.out | apply below_alloc | apply pw_below_drewN | apply below_drew1 | refine below_set ?_ GE676.out | refine below_set ?_ GE677.out) | exact HB.out)))); have n2_ := Aside0.mk (blk_below (g := gb676) (o := .cells #[.int .u32 a0_0, .slice A0_1 l0_1.length c0_1] 25 (0, 0)) (by (with_reducible repeat (first | refine blk_drewN ?_ _ | refine blk_drew ?_ | refine blk_alloc ?_ _)); exact BK676.out) hb); have n3_ := Aside0.mk (blk_below (g := gb677) (o := .cells #[.int .u32 a1_0, .slice A1_1 l1_1.length c1_1] 25 (0, 0)) (by (with_reducible repeat (first | refine blk_drewN ?_ _ | refine blk_drew ?_ | refine blk_alloc ?_ _)); exact BK677.out) hb); have n4_ := Aside0.mk (below_step (by repeat (first | (with_reducible first | exact HB.out | apply below_alloc | apply pw_below_drewN | apply below_drew1 | refine below_set ?_ GE676.out | refine below_set ?_ GE677.out) | exact HB.out)) hb); clear HO682; clear BK676; clear BK677; clear HB; have HO682 := n0_; have HO685 := n1_; have BK676 := n2_; have BK677 := n3_; have HB := n4_; clear n0_ n1_ n2_ n3_ n4_; (try clear hb); (try clear hb2); (try clear hk); (try clear hi); (try clear ho0); have hcz23_0 : w22.cell? ⟨gb677, 0, none⟩ = some (.int .u32 a1_0) := (blk_cell BK677.out 0).trans rfl; have hcz23_1 : w22.cell? ⟨gb677, 1, none⟩ = some (.slice A1_1 l1_1.length c1_1) := (blk_cell BK677.out 1).trans rfl; have hfz23_0 := blk_frozen BK677.out 0; have hfz23_1 := blk_frozen BK677.out 1) | ((with_reducible refine gate_callee (f := 14) rfl ?_); refine goesL_ (some 31) rfl rfl Try.func14 (by kernel_rfl) rfl #[.agg #[.int .u32 a1_0, .slice A1_1 l1_1.length c1_1]] rfl (by (try simp only [List.map_toArray, List.map_cons, List.map_nil]); first | done | rfl | (simp only [List.length_drop, List.length_take]; rfl) | (rw [IntKind.wrap_u64, Int.emod_eq_of_lt (by omega) (by omega)]; rfl)) ?_; (with_reducible refine (tidemarklaw04_few.calls a1_0 _ _ l1_1 t687 t688 _ ?side1 ?side2 A8.out).mono ?_); (case side1 => repeat (first | exact (Kd.C_below HR1_1.out HB.out) | (with_reducible refine Kd.C_alloc ?_ _) | (with_reducible refine Kd.C_drewN ?_ _) | (with_reducible refine Kd.C_drew ?_))); (case side2 => exact HC1_1.out); rintro e w24 ⟨v689, rfl, ho0, hb⟩; refine ⟨_, rfl, ?_⟩; have n0_ := Aside0.mk (Kd.S_elder' (by (with_reducible repeat (first | apply Kd.S_alloc | apply Kd.S_drewN | apply Kd.S_drew)); exact HO682.out) (Kd.S_base ho0) hb); have n1_ := Aside0.mk (Kd.R_below (by (with_reducible repeat (first | apply Kd.R_alloc | apply Kd.R_drewN | apply Kd.R_drew)); exact HO685.out) hb); have n2_ := Aside0.mk (Kd.S_lower (Kd.S_new' ho0 (Kd.S_lt (by (with_reducible repeat (first | apply Kd.S_alloc | apply Kd.S_drewN | apply Kd.S_drew)); exact HO682.out))) (below_size (by repeat (first | (with_reducible first | exact HB.out | apply below_alloc | apply pw_below_drewN | apply below_drew1 | refine below_set ?_ GE676.out | refine below_set ?_ GE677.out) | exact HB.out)))); have n3_ := Aside0.mk (blk_below (g := gb676) (o := .cells #[.int .u32 a0_0, .slice A0_1 l0_1.length c0_1] 25 (0, 0)) (by (with_reducible repeat (first | refine blk_drewN ?_ _ | refine blk_drew ?_ | refine blk_alloc ?_ _)); exact BK676.out) hb); have n4_ := Aside0.mk (blk_below (g := gb677) (o := .cells #[.int .u32 a1_0, .slice A1_1 l1_1.length c1_1] 25 (0, 0)) (by (with_reducible repeat (first | refine blk_drewN ?_ _ | refine blk_drew ?_ | refine blk_alloc ?_ _)); exact BK677.out) hb); have n5_ := Aside0.mk (below_step (by repeat (first | (with_reducible first | exact HB.out | apply below_alloc | apply pw_below_drewN | apply below_drew1 | refine below_set ?_ GE676.out | refine below_set ?_ GE677.out) | exact HB.out)) hb); clear HO682; clear HO685; clear BK676; clear BK677; clear HB; have HO682 := n0_; have HO685 := n1_; have HO690 := n2_; have BK676 := n3_; have BK677 := n4_; have HB := n5_; clear n0_ n1_ n2_ n3_ n4_ n5_; (try clear hb); (try clear hb2); (try clear hk); (try clear hi); (try clear ho0); obtain ⟨Ao25, co25, eo25⟩ := Kd.S_slice HO690.out; subst eo25) | ((with_reducible refine gate_callee (f := 16) rfl ?_); refine goesL_ (some 32) rfl rfl Try.func16 (by kernel_rfl) rfl #[.agg #[.int .u32 t687, .slice Ao25 t688.length co25]] rfl (by (try simp only [List.map_toArray, List.map_cons, List.map_nil]); first | done | rfl | (simp only [List.length_drop, List.length_take]; rfl) | (rw [IntKind.wrap_u64, Int.emod_eq_of_lt (by omega) (by omega)]; rfl)) ?_; (with_reducible refine (codec_Encode.calls k t687 _ _ t688 t691 t694 _ ?side1 ?side2 A9.out).mono ?_); (case side1 => repeat (first | exact (Kd.S_reads' HO690.out).2.2 | (with_reducible refine Kd.C_alloc ?_ _) | (with_reducible refine Kd.C_drewN ?_ _) | (with_reducible refine Kd.C_drew ?_))); (case side2 => exact (Kd.S_reads' HO690.out).2.1); rintro e w26 ⟨v692, rfl, ho0, hb⟩; refine ⟨_, rfl, ?_⟩; have n0_ := Aside0.mk (Kd.S_below (by (with_reducible repeat (first | apply Kd.S_alloc | apply Kd.S_drewN | apply Kd.S_drew)); exact HO682.out) hb); have n1_ := Aside0.mk (Kd.R_elder' (by (with_reducible repeat (first | apply Kd.R_alloc | apply Kd.R_drewN | apply Kd.R_drew)); exact HO685.out) (Kd.R_base ho0) hb); have n2_ := Aside0.mk (Kd.S_below (by (with_reducible repeat (first | apply Kd.S_alloc | apply Kd.S_drewN | apply Kd.S_drew)); exact HO690.out) hb); have n3_ := Aside0.mk (Kd.R_lower (Kd.R_new' ho0 (Kd.R_lt (by (with_reducible repeat (first | apply Kd.R_alloc | apply Kd.R_drewN | apply Kd.R_drew)); exact HO685.out))) (below_size (by repeat (first | (with_reducible first | exact HB.out | apply below_alloc | apply pw_below_drewN | apply below_drew1 | refine below_set ?_ GE676.out | refine below_set ?_ GE677.out) | exact HB.out)))); have n4_ := Aside0.mk (blk_below (g := gb676) (o := .cells #[.int .u32 a0_0, .slice A0_1 l0_1.length c0_1] 25 (0, 0)) (by (with_reducible repeat (first | refine blk_drewN ?_ _ | refine blk_drew ?_ | refine blk_alloc ?_ _)); exact BK676.out) hb); have n5_ := Aside0.mk (blk_below (g := gb677) (o := .cells #[.int .u32 a1_0, .slice A1_1 l1_1.length c1_1] 25 (0, 0)) (by (with_reducible repeat (first | refine blk_drewN ?_ _ | refine blk_drew ?_ | refine blk_alloc ?_ _)); exact BK677.out) hb); have n6_ := Aside0.mk (below_step (by repeat (first | (with_reducible first | exact HB.out | apply below_alloc | apply pw_below_drewN | apply below_drew1 | refine below_set ?_ GE676.out | refine below_set ?_ GE677.out) | exact HB.out)) hb); clear HO682; clear HO685; clear HO690; clear BK676; clear BK677; clear HB; have HO682 := n0_; have HO685 := n1_; have HO690 := n2_; have HO693 := n3_; have BK676 := n4_; have BK677 := n5_; have HB := n6_; clear n0_ n1_ n2_ n3_ n4_ n5_ n6_; (try clear hb); (try clear hb2); (try clear hk); (try clear hi); (try clear ho0)) | ((with_reducible refine gate_callee (f := 15) rfl ?_); refine goesL_ (some 37) rfl rfl Try.func15 (by kernel_rfl) rfl #[.slice A2 l2.length c2] rfl (by (try simp only [List.map_toArray, List.map_cons, List.map_nil]); first | done | rfl | (simp only [List.length_drop, List.length_take]; rfl) | (rw [IntKind.wrap_u64, Int.emod_eq_of_lt (by omega) (by omega)]; rfl)) ?_; (with_reducible refine (tidemarklaw04_fewRows.calls _ _ l2 t695 _ ?side1 ?side2 A10.out).mono ?_); (case side1 => repeat (first | exact (Kd.C_below HR2.out HB.out) | (with_reducible refine Kd.C_alloc ?_ _) | (with_reducible refine Kd.C_drewN ?_ _) | (with_reducible refine Kd.C_drew ?_))); (case side2 => exact HC2.out); rintro e w27 ⟨v696, rfl, ho0, hb⟩; refine ⟨_, rfl, ?_⟩; have n0_ := Aside0.mk (Kd.S_below (by (with_reducible repeat (first | apply Kd.S_alloc | apply Kd.S_drewN | apply Kd.S_drew)); exact HO682.out) hb); have n1_ := Aside0.mk (Kd.R_below (by (with_reducible repeat (first | apply Kd.R_alloc | apply Kd.R_drewN | apply Kd.R_drew)); exact HO685.out) hb); have n2_ := Aside0.mk (Kd.S_below (by (with_reducible repeat (first | apply Kd.S_alloc | apply Kd.S_drewN | apply Kd.S_drew)); exact HO690.out) hb); have n3_ := Aside0.mk (Kd.R_below (by (with_reducible repeat (first | apply Kd.R_alloc | apply Kd.R_drewN | apply Kd.R_drew)); exact HO693.out) hb); have n4_ := Aside0.mk (Kd.R_lower ho0 (below_size (by repeat (first | (with_reducible first | exact HB.out | apply below_alloc | apply pw_below_drewN | apply below_drew1 | refine below_set ?_ GE676.out | refine below_set ?_ GE677.out) | exact HB.out)))); have n5_ := Aside0.mk (blk_below (g := gb676) (o := .cells #[.int .u32 a0_0, .slice A0_1 l0_1.length c0_1] 25 (0, 0)) (by (with_reducible repeat (first | refine blk_drewN ?_ _ | refine blk_drew ?_ | refine blk_alloc ?_ _)); exact BK676.out) hb); have n6_ := Aside0.mk (blk_below (g := gb677) (o := .cells #[.int .u32 a1_0, .slice A1_1 l1_1.length c1_1] 25 (0, 0)) (by (with_reducible repeat (first | refine blk_drewN ?_ _ | refine blk_drew ?_ | refine blk_alloc ?_ _)); exact BK677.out) hb); have n7_ := Aside0.mk (below_step (by repeat (first | (with_reducible first | exact HB.out | apply below_alloc | apply pw_below_drewN | apply below_drew1 | refine below_set ?_ GE676.out | refine below_set ?_ GE677.out) | exact HB.out)) hb); clear HO682; clear HO685; clear HO690; clear HO693; clear BK676; clear BK677; clear HB; have HO682 := n0_; have HO685 := n1_; have HO690 := n2_; have HO693 := n3_; have HO697 := n4_; have BK676 := n5_; have BK677 := n6_; have HB := n7_; clear n0_ n1_ n2_ n3_ n4_ n5_ n6_ n7_; (try clear hb); (try clear hb2); (try clear hk); (try clear hi); (try clear ho0); obtain ⟨Ao28, co28, eo28⟩ := Kd.R_slice HO697.out; subst eo28) | ((with_reducible refine gate_callee (f := 17) rfl ?_); refine goesL_ (some 38) rfl rfl Try.func17 (by kernel_rfl) rfl #[.slice Ao28 t695.length co28] rfl (by (try simp only [List.map_toArray, List.map_cons, List.map_nil]); first | done | rfl | (simp only [List.length_drop, List.length_take]; rfl) | (rw [IntKind.wrap_u64, Int.emod_eq_of_lt (by omega) (by omega)]; rfl)) ?_; (with_reducible refine (codec_EncodeRows.calls k _ _ t695 t698 t699 _ ?side1 ?side2 A11.out).mono ?_); (case side1 => repeat (first | exact (Kd.R_reads' HO697.out).2.2 | (with_reducible refine Kd.C_alloc ?_ _) | (with_reducible refine Kd.C_drewN ?_ _) | (with_reducible refine Kd.C_drew ?_))); (case side2 => exact (Kd.R_reads' HO697.out).2.1); rintro e w29 ⟨v700, rfl, ho0, hb⟩; refine ⟨_, rfl, ?_⟩; have n0_ := Aside0.mk (Kd.S_below (by (with_reducible repeat (first | apply Kd.S_alloc | apply Kd.S_drewN | apply Kd.S_drew)); exact HO682.out) hb); have n1_ := Aside0.mk (Kd.R_elder' (by (with_reducible repeat (first | apply Kd.R_alloc | apply Kd.R_drewN | apply Kd.R_drew)); exact HO685.out) (Kd.R_base ho0) hb); have n2_ := Aside0.mk (Kd.S_below (by (with_reducible repeat (first | apply Kd.S_alloc | apply Kd.S_drewN | apply Kd.S_drew)); exact HO690.out) hb); have n3_ := Aside0.mk (Kd.R_elder' (by (with_reducible repeat (first | apply Kd.R_alloc | apply Kd.R_drewN | apply Kd.R_drew)); exact HO693.out) (Kd.R_base ho0) hb); have n4_ := Aside0.mk (Kd.R_below (by (with_reducible repeat (first | apply Kd.R_alloc | apply Kd.R_drewN | apply Kd.R_drew)); exact HO697.out) hb); have n5_ := Aside0.mk (Kd.R_lower (Kd.R_new' (Kd.R_new' ho0 (Kd.R_lt (by (with_reducible repeat (first | apply Kd.R_alloc | apply Kd.R_drewN | apply Kd.R_drew)); exact HO685.out))) (Kd.R_lt (by (with_reducible repeat (first | apply Kd.R_alloc | apply Kd.R_drewN | apply Kd.R_drew)); exact HO693.out))) (below_size (by repeat (first | (with_reducible first | exact HB.out | apply below_alloc | apply pw_below_drewN | apply below_drew1 | refine below_set ?_ GE676.out | refine below_set ?_ GE677.out) | exact HB.out)))); have n6_ := Aside0.mk (blk_below (g := gb676) (o := .cells #[.int .u32 a0_0, .slice A0_1 l0_1.length c0_1] 25 (0, 0)) (by (with_reducible repeat (first | refine blk_drewN ?_ _ | refine blk_drew ?_ | refine blk_alloc ?_ _)); exact BK676.out) hb); have n7_ := Aside0.mk (blk_below (g := gb677) (o := .cells #[.int .u32 a1_0, .slice A1_1 l1_1.length c1_1] 25 (0, 0)) (by (with_reducible repeat (first | refine blk_drewN ?_ _ | refine blk_drew ?_ | refine blk_alloc ?_ _)); exact BK677.out) hb); have n8_ := Aside0.mk (below_step (by repeat (first | (with_reducible first | exact HB.out | apply below_alloc | apply pw_below_drewN | apply below_drew1 | refine below_set ?_ GE676.out | refine below_set ?_ GE677.out) | exact HB.out)) hb); clear HO682; clear HO685; clear HO690; clear HO693; clear HO697; clear BK676; clear BK677; clear HB; have HO682 := n0_; have HO685 := n1_; have HO690 := n2_; have HO693 := n3_; have HO697 := n4_; have HO701 := n5_; have BK676 := n6_; have BK677 := n7_; have HB := n8_; clear n0_ n1_ n2_ n3_ n4_ n5_ n6_ n7_ n8_; (try clear hb); (try clear hb2); (try clear hk); (try clear hi); (try clear ho0)) | ((with_reducible refine gate_callee (f := 15) rfl ?_); refine goesL_ (some 43) rfl rfl Try.func15 (by kernel_rfl) rfl #[.slice A3 l3.length c3] rfl (by (try simp only [List.map_toArray, List.map_cons, List.map_nil]); first | done | rfl | (simp only [List.length_drop, List.length_take]; rfl) | (rw [IntKind.wrap_u64, Int.emod_eq_of_lt (by omega) (by omega)]; rfl)) ?_; (with_reducible refine (tidemarklaw04_fewRows.calls _ _ l3 t702 _ ?side1 ?side2 A12.out).mono ?_); (case side1 => repeat (first | exact (Kd.C_below HR3.out HB.out) | (with_reducible refine Kd.C_alloc ?_ _) | (with_reducible refine Kd.C_drewN ?_ _) | (with_reducible refine Kd.C_drew ?_))); (case side2 => exact HC3.out); rintro e w30 ⟨v703, rfl, ho0, hb⟩; refine ⟨_, rfl, ?_⟩; have n0_ := Aside0.mk (Kd.S_below (by (with_reducible repeat (first | apply Kd.S_alloc | apply Kd.S_drewN | apply Kd.S_drew)); exact HO682.out) hb); have n1_ := Aside0.mk (Kd.R_below (by (with_reducible repeat (first | apply Kd.R_alloc | apply Kd.R_drewN | apply Kd.R_drew)); exact HO685.out) hb); have n2_ := Aside0.mk (Kd.S_below (by (with_reducible repeat (first | apply Kd.S_alloc | apply Kd.S_drewN | apply Kd.S_drew)); exact HO690.out) hb); have n3_ := Aside0.mk (Kd.R_below (by (with_reducible repeat (first | apply Kd.R_alloc | apply Kd.R_drewN | apply Kd.R_drew)); exact HO693.out) hb); have n4_ := Aside0.mk (Kd.R_elder' (by (with_reducible repeat (first | apply Kd.R_alloc | apply Kd.R_drewN | apply Kd.R_drew)); exact HO697.out) (Kd.R_base ho0) hb); have n5_ := Aside0.mk (Kd.R_below (by (with_reducible repeat (first | apply Kd.R_alloc | apply Kd.R_drewN | apply Kd.R_drew)); exact HO701.out) hb); have n6_ := Aside0.mk (Kd.R_lower (Kd.R_new' ho0 (Kd.R_lt (by (with_reducible repeat (first | apply Kd.R_alloc | apply Kd.R_drewN | apply Kd.R_drew)); exact HO697.out))) (below_size (by repeat (first | (with_reducible first | exact HB.out | apply below_alloc | apply pw_below_drewN | apply below_drew1 | refine below_set ?_ GE676.out | refine below_set ?_ GE677.out) | exact HB.out)))); have n7_ := Aside0.mk (blk_below (g := gb676) (o := .cells #[.int .u32 a0_0, .slice A0_1 l0_1.length c0_1] 25 (0, 0)) (by (with_reducible repeat (first | refine blk_drewN ?_ _ | refine blk_drew ?_ | refine blk_alloc ?_ _)); exact BK676.out) hb); have n8_ := Aside0.mk (blk_below (g := gb677) (o := .cells #[.int .u32 a1_0, .slice A1_1 l1_1.length c1_1] 25 (0, 0)) (by (with_reducible repeat (first | refine blk_drewN ?_ _ | refine blk_drew ?_ | refine blk_alloc ?_ _)); exact BK677.out) hb); have n9_ := Aside0.mk (below_step (by repeat (first | (with_reducible first | exact HB.out | apply below_alloc | apply pw_below_drewN | apply below_drew1 | refine below_set ?_ GE676.out | refine below_set ?_ GE677.out) | exact HB.out)) hb); clear HO682; clear HO685; clear HO690; clear HO693; clear HO697; clear HO701; clear BK676; clear BK677; clear HB; have HO682 := n0_; have HO685 := n1_; have HO690 := n2_; have HO693 := n3_; have HO697 := n4_; have HO701 := n5_; have HO704 := n6_; have BK676 := n7_; have BK677 := n8_; have HB := n9_; clear n0_ n1_ n2_ n3_ n4_ n5_ n6_ n7_ n8_ n9_; (try clear hb); (try clear hb2); (try clear hk); (try clear hi); (try clear ho0); obtain ⟨Ao31, co31, eo31⟩ := Kd.R_slice HO704.out; subst eo31) | ((with_reducible refine gate_callee (f := 17) rfl ?_); refine goesL_ (some 44) rfl rfl Try.func17 (by kernel_rfl) rfl #[.slice Ao31 t702.length co31] rfl (by (try simp only [List.map_toArray, List.map_cons, List.map_nil]); first | done | rfl | (simp only [List.length_drop, List.length_take]; rfl) | (rw [IntKind.wrap_u64, Int.emod_eq_of_lt (by omega) (by omega)]; rfl)) ?_; (with_reducible refine (codec_EncodeRows.calls k _ _ t702 t705 t706 _ ?side1 ?side2 A13.out).mono ?_); (case side1 => repeat (first | exact (Kd.R_reads' HO704.out).2.2 | (with_reducible refine Kd.C_alloc ?_ _) | (with_reducible refine Kd.C_drewN ?_ _) | (with_reducible refine Kd.C_drew ?_))); (case side2 => exact (Kd.R_reads' HO704.out).2.1); rintro e w32 ⟨v707, rfl, ho0, hb⟩; refine ⟨_, rfl, ?_⟩; have n0_ := Aside0.mk (Kd.S_below (by (with_reducible repeat (first | apply Kd.S_alloc | apply Kd.S_drewN | apply Kd.S_drew)); exact HO682.out) hb); have n1_ := Aside0.mk (Kd.R_elder' (by (with_reducible repeat (first | apply Kd.R_alloc | apply Kd.R_drewN | apply Kd.R_drew)); exact HO685.out) (Kd.R_base ho0) hb); have n2_ := Aside0.mk (Kd.S_below (by (with_reducible repeat (first | apply Kd.S_alloc | apply Kd.S_drewN | apply Kd.S_drew)); exact HO690.out) hb); have n3_ := Aside0.mk (Kd.R_elder' (by (with_reducible repeat (first | apply Kd.R_alloc | apply Kd.R_drewN | apply Kd.R_drew)); exact HO693.out) (Kd.R_base ho0) hb); have n4_ := Aside0.mk (Kd.R_below (by (with_reducible repeat (first | apply Kd.R_alloc | apply Kd.R_drewN | apply Kd.R_drew)); exact HO697.out) hb); have n5_ := Aside0.mk (Kd.R_elder' (by (with_reducible repeat (first | apply Kd.R_alloc | apply Kd.R_drewN | apply Kd.R_drew)); exact HO701.out) (Kd.R_base ho0) hb); have n6_ := Aside0.mk (Kd.R_below (by (with_reducible repeat (first | apply Kd.R_alloc | apply Kd.R_drewN | apply Kd.R_drew)); exact HO704.out) hb); have n7_ := Aside0.mk (Kd.R_lower (Kd.R_new' (Kd.R_new' (Kd.R_new' ho0 (Kd.R_lt (by (with_reducible repeat (first | apply Kd.R_alloc | apply Kd.R_drewN | apply Kd.R_drew)); exact HO685.out))) (Kd.R_lt (by (with_reducible repeat (first | apply Kd.R_alloc | apply Kd.R_drewN | apply Kd.R_drew)); exact HO693.out))) (Kd.R_lt (by (with_reducible repeat (first | apply Kd.R_alloc | apply Kd.R_drewN | apply Kd.R_drew)); exact HO701.out))) (below_size (by repeat (first | (with_reducible first | exact HB.out | apply below_alloc | apply pw_below_drewN | apply below_drew1 | refine below_set ?_ GE676.out | refine below_set ?_ GE677.out) | exact HB.out)))); have n8_ := Aside0.mk (blk_below (g := gb676) (o := .cells #[.int .u32 a0_0, .slice A0_1 l0_1.length c0_1] 25 (0, 0)) (by (with_reducible repeat (first | refine blk_drewN ?_ _ | refine blk_drew ?_ | refine blk_alloc ?_ _)); exact BK676.out) hb); have n9_ := Aside0.mk (blk_below (g := gb677) (o := .cells #[.int .u32 a1_0, .slice A1_1 l1_1.length c1_1] 25 (0, 0)) (by (with_reducible repeat (first | refine blk_drewN ?_ _ | refine blk_drew ?_ | refine blk_alloc ?_ _)); exact BK677.out) hb); have n10_ := Aside0.mk (below_step (by repeat (first | (with_reducible first | exact HB.out | apply below_alloc | apply pw_below_drewN | apply below_drew1 | refine below_set ?_ GE676.out | refine below_set ?_ GE677.out) | exact HB.out)) hb); clear HO682; clear HO685; clear HO690; clear HO693; clear HO697; clear HO701; clear HO704; clear BK676; clear BK677; clear HB; have HO682 := n0_; have HO685 := n1_; have HO690 := n2_; have HO693 := n3_; have HO697 := n4_; have HO701 := n5_; have HO704 := n6_; have HO708 := n7_; have BK676 := n8_; have BK677 := n9_; have HB := n10_; clear n0_ n1_ n2_ n3_ n4_ n5_ n6_ n7_ n8_ n9_ n10_; (try clear hb); (try clear hb2); (try clear hk); (try clear hi); (try clear ho0)))
  (try simp only [Act.put, List.setIfInBounds_toArray, List.set_cons_zero, List.set_cons_succ])
  go_cut [52] (fun v52 wc => ∃ (kq : Nat) (x52_13 : Bool), v52 = .bool x52_13 ∧ Aside0 (tidemarklaw04_CodecTwo.j0 kq t678 t683 t691 t698 t699 t705 t706 x52_13 = some r) ∧ Aside0 (kq ≤ k) ∧ Aside0 (Kd.R (Kd.int .u8) 5 wc w.heap.size (fun k_ => some k_ ≠ (v692 : Value).ownBlock ∧ some k_ ≠ (v700 : Value).ownBlock ∧ some k_ ≠ (v707 : Value).ownBlock) v684 t683) ∧ Aside0 (Kd.R (Kd.int .u8) 5 wc w.heap.size (fun k_ => some k_ ≠ (v684 : Value).ownBlock ∧ some k_ ≠ (v700 : Value).ownBlock ∧ some k_ ≠ (v707 : Value).ownBlock) v692 t691) ∧ Aside0 (Kd.R (Kd.int .u8) 5 wc w.heap.size (fun k_ => some k_ ≠ (v684 : Value).ownBlock ∧ some k_ ≠ (v692 : Value).ownBlock ∧ some k_ ≠ (v707 : Value).ownBlock) v700 t698) ∧ Aside0 (Kd.R (Kd.int .u8) 5 wc w.heap.size (fun k_ => some k_ ≠ (v684 : Value).ownBlock ∧ some k_ ≠ (v692 : Value).ownBlock ∧ some k_ ≠ (v700 : Value).ownBlock) v707 t705) ∧ Aside0 (wc.heap[gb676]? = some (.cells #[.int .u32 a0_0, (.slice A0_1 l0_1.length c0_1)] 25 (0, 0))) ∧ Aside0 (wc.heap[gb677]? = some (.cells #[.int .u32 a1_0, (.slice A1_1 l1_1.length c1_1)] 25 (0, 0))) ∧ Aside0 (Below w.heap.size w wc))
  case first =>
    have H := HC14.out
    clear HC14
    by_cases c33 : t686 = 0
    · rw [if_pos c33] at H
      have c33b0 : (t686 == 0) = true := beq_iff_eq.mpr c33
      have c33b1 : (t686 != 0) = false := bne_eq_false_iff_eq.mpr c33
      clear c33
      (first | rw [c33b0] | (simp only [i64_w, i32_w]; rw [c33b0]) | skip)
      have H' := Aside0.mk H
      clear H
      go_wp2
      go_meet
      case rel => exact ⟨_, ((t694 == 0)), (by first | rfl | (simp; done) | (simp [*]; done)), H', ⟨by first | omega | exact Nat.le_refl _⟩, ⟨by (with_reducible repeat (first | apply Kd.R_alloc | apply Kd.R_drewN | apply Kd.R_drew)); exact Kd.R_mono HO685.out (fun _ hk => ⟨hk.1.1.2, ⟨hk.1.2, hk.2⟩⟩)⟩, ⟨by (with_reducible repeat (first | apply Kd.R_alloc | apply Kd.R_drewN | apply Kd.R_drew)); exact Kd.R_mono HO693.out (fun _ hk => ⟨hk.1.1.2, ⟨hk.1.2, hk.2⟩⟩)⟩, ⟨by (with_reducible repeat (first | apply Kd.R_alloc | apply Kd.R_drewN | apply Kd.R_drew)); exact Kd.R_mono HO701.out (fun _ hk => ⟨hk.1.1.2, ⟨hk.1.2, hk.2⟩⟩)⟩, ⟨by (with_reducible repeat (first | apply Kd.R_alloc | apply Kd.R_drewN | apply Kd.R_drew)); exact Kd.R_mono HO708.out (fun _ hk => ⟨hk.1.1.2, ⟨hk.1.2, hk.2⟩⟩)⟩, ⟨by (with_reducible repeat (first | refine blk_drewN ?_ _ | refine blk_drew ?_ | refine blk_alloc ?_ _)); exact BK676.out⟩, ⟨by (with_reducible repeat (first | refine blk_drewN ?_ _ | refine blk_drew ?_ | refine blk_alloc ?_ _)); exact BK677.out⟩, ⟨by repeat (first | (with_reducible first | exact HB.out | apply below_alloc | apply pw_below_drewN | apply below_drew1 | refine below_set ?_ GE676.out | refine below_set ?_ GE677.out) | exact HB.out)⟩⟩
    · rw [if_neg c33] at H
      have c33b0 : (t686 == 0) = false := beq_eq_false_iff_ne.mpr c33
      have c33b1 : (t686 != 0) = true := bne_iff_ne.mpr c33
      (first | rw [c33b0] | (simp only [i64_w, i32_w]; rw [c33b0]) | skip)
      have H' := Aside0.mk H
      clear H
      go_wp2
      go_meet
      case rel => exact ⟨_, (false), (by first | rfl | (simp; done) | (simp [*]; done)), H', ⟨by first | omega | exact Nat.le_refl _⟩, ⟨by (with_reducible repeat (first | apply Kd.R_alloc | apply Kd.R_drewN | apply Kd.R_drew)); exact Kd.R_mono HO685.out (fun _ hk => ⟨hk.1.1.2, ⟨hk.1.2, hk.2⟩⟩)⟩, ⟨by (with_reducible repeat (first | apply Kd.R_alloc | apply Kd.R_drewN | apply Kd.R_drew)); exact Kd.R_mono HO693.out (fun _ hk => ⟨hk.1.1.2, ⟨hk.1.2, hk.2⟩⟩)⟩, ⟨by (with_reducible repeat (first | apply Kd.R_alloc | apply Kd.R_drewN | apply Kd.R_drew)); exact Kd.R_mono HO701.out (fun _ hk => ⟨hk.1.1.2, ⟨hk.1.2, hk.2⟩⟩)⟩, ⟨by (with_reducible repeat (first | apply Kd.R_alloc | apply Kd.R_drewN | apply Kd.R_drew)); exact Kd.R_mono HO708.out (fun _ hk => ⟨hk.1.1.2, ⟨hk.1.2, hk.2⟩⟩)⟩, ⟨by (with_reducible repeat (first | refine blk_drewN ?_ _ | refine blk_drew ?_ | refine blk_alloc ?_ _)); exact BK676.out⟩, ⟨by (with_reducible repeat (first | refine blk_drewN ?_ _ | refine blk_drew ?_ | refine blk_alloc ?_ _)); exact BK677.out⟩, ⟨by repeat (first | (with_reducible first | exact HB.out | apply below_alloc | apply pw_below_drewN | apply below_drew1 | refine below_set ?_ GE676.out | refine below_set ?_ GE677.out) | exact HB.out)⟩⟩
  case rest =>
    clear HC14
    try clear c1
    try clear c2
    try clear p2
    try clear c3
    try clear c12
    try clear c13
    try clear c14
    try clear c15
    try clear c16
    try clear c17
    try clear c18
    try clear c33
    try clear c33b0
    try clear c33b1
    try clear hcz19_0
    try clear hcz19_1
    try clear hcz23_0
    try clear hcz23_1
    try clear hfz19_0
    try clear hfz19_1
    try clear hfz23_0
    try clear hfz23_1
    obtain ⟨kq, x52_13, rfl, HA, HJ13, HO_10, HO_12, HO_14, HO_16, BK676, BK677, HB⟩ := hcut
    cases kq with
    | zero => exact absurd HA.out (by simp [tidemarklaw04_CodecTwo.j0])
    | succ kj13 =>
      have H := HA.out
      clear HA
      simp only [tidemarklaw04_CodecTwo.j0] at H
      have HC34 := Aside0.mk H
      clear H
      go_upto_if 52 with (fail)
      go_cut [] (fun wc => ∃ (kq : Nat), Aside0 (tidemarklaw04_CodecTwo.j1 kq t678 t698 t699 t705 t706 = some r) ∧ Aside0 (kq ≤ kj13) ∧ Aside0 (Kd.R (Kd.int .u8) 5 wc w.heap.size (fun k_ => some k_ ≠ (v707 : Value).ownBlock) v700 t698) ∧ Aside0 (Kd.R (Kd.int .u8) 5 wc w.heap.size (fun k_ => some k_ ≠ (v700 : Value).ownBlock) v707 t705) ∧ Aside0 (wc.heap[gb676]? = some (.cells #[.int .u32 a0_0, (.slice A0_1 l0_1.length c0_1)] 25 (0, 0))) ∧ Aside0 (wc.heap[gb677]? = some (.cells #[.int .u32 a1_0, (.slice A1_1 l1_1.length c1_1)] 25 (0, 0))) ∧ Aside0 (Below w.heap.size w wc))
      case first =>
        have H := HC34.out
        clear HC34
        by_cases c35 : x52_13 = true
        · subst c35
          have H1 : ((some (([] : List Int) : List Int)).bind fun y709 => (if y709.length + t683.length < 140737488355328 then ((some (y709 ++ t683 : List Int)).bind fun y712 => (if y712.length + t691.length < 140737488355328 then ((codec_Decode.f (y712 ++ t691)).bind fun bt718 => (if bt718.2.2 = 3 then (tidemarklaw04_CodecTwo.j1 kj13 t678 t698 t699 t705 t706) else (some false))) else (none))) else (none))) = some r := by rw [if_pos rfl] at H; exact H
          clear H
          have H := H1
          clear H1
          obtain ⟨y709, hy709⟩ : ∃ y_ : List Int, y_ = (([] : List Int)) := ⟨_, rfl⟩
          replace H : (if y709.length + t683.length < 140737488355328 then ((some (y709 ++ t683 : List Int)).bind fun y712 => (if y712.length + t691.length < 140737488355328 then ((codec_Decode.f (y712 ++ t691)).bind fun bt718 => (if bt718.2.2 = 3 then (tidemarklaw04_CodecTwo.j1 kj13 t678 t698 t699 t705 t706) else (some false))) else (none))) else (none)) = some r := by first | (rw [hy709]; with_reducible exact H) | (have H2_ := (Option.bind_some _ _).symm.trans H; rw [hy709]; with_reducible exact H2_) | (have H2_ := (Option.bind_some _ _).symm.trans H; with_reducible exact H2_) | with_reducible exact H | (rw [hy709]; exact H) | exact H
          have Ny709 := Aside0.mk hy709
          clear hy709
          by_cases c36 : y709.length + t683.length < 140737488355328
          · rw [if_pos c36] at H
            have LMc36 := Aside0.mk c36
            clear c36
            obtain ⟨y712, hy712⟩ : ∃ y_ : List Int, y_ = (y709 ++ t683) := ⟨_, rfl⟩
            replace H : (if y712.length + t691.length < 140737488355328 then ((codec_Decode.f (y712 ++ t691)).bind fun bt718 => (if bt718.2.2 = 3 then (tidemarklaw04_CodecTwo.j1 kj13 t678 t698 t699 t705 t706) else (some false))) else (none)) = some r := by first | (rw [hy712]; with_reducible exact H) | (have H2_ := (Option.bind_some _ _).symm.trans H; rw [hy712]; with_reducible exact H2_) | (have H2_ := (Option.bind_some _ _).symm.trans H; with_reducible exact H2_) | with_reducible exact H | (rw [hy712]; exact H) | exact H
            have Ny712 := Aside0.mk hy712
            clear hy712
            by_cases c37 : y712.length + t691.length < 140737488355328
            · rw [if_pos c37] at H
              have LMc37 := Aside0.mk c37
              clear c37
              obtain ⟨y715, hy715⟩ : ∃ y_ : List Int, y_ = (y712 ++ t691) := ⟨_, rfl⟩
              replace H : ((codec_Decode.f y715).bind fun bt718 => (if bt718.2.2 = 3 then (tidemarklaw04_CodecTwo.j1 kj13 t678 t698 t699 t705 t706) else (some false))) = some r := by first | (rw [hy715]; with_reducible exact H) | (have H2_ := (Option.bind_some _ _).symm.trans H; rw [hy715]; with_reducible exact H2_) | (have H2_ := (Option.bind_some _ _).symm.trans H; with_reducible exact H2_) | with_reducible exact H | (rw [hy715]; exact H) | exact H
              have Ny715 := Aside0.mk hy715
              clear hy715
              replace H := Option.bind_eq_some_iff.mp H
              obtain ⟨⟨t718, t719, t722⟩, A380, H⟩ := H
              replace H : (if t722 = 3 then (tidemarklaw04_CodecTwo.j1 kj13 t678 t698 t699 t705 t706) else (some false)) = some r := H
              have A38 := Aside0.mk A380
              clear A380
              by_cases c39 : t722 = 3
              · rw [if_pos c39] at H
                have c39b0 : (t722 == 3) = true := beq_iff_eq.mpr c39
                have c39b1 : (t722 != 3) = false := bne_eq_false_iff_eq.mpr c39
                clear c39
                (first | rw [c39b0] | (simp only [i64_w, i32_w]; rw [c39b0]) | skip)
                have H' := Aside0.mk H
                clear H
                go_wp2_with (first | ((with_reducible refine gate_dst (N := 54) rfl ?_); refine Kd.R_lit (Kd.int .u8) _ 5 ?hg (N := 54) ?hd (xs := ([] : List Int)) (inner := []) (ok := fun _ => True) (okp := fun _ => True) ?hr ?hp (fun _ hk => hk) trivial (Below.refl _ _) (Nat.le_refl _) (by simp) ?_; (case hd => rfl); (case hg => rfl); (case hr => first | (go_simp; done) | (go_simp; rfl)); (case hp => exact (Reps.none _ _)); intro v710 w40 ho41 hb hg_ hnew_; clear hg_ hnew_; (first | rw [← Ny709.out] at ho41 | (simp only [Int.reduceToNat] at ho41; rw [← Ny709.out] at ho41)); have n0_ := Aside0.mk (Kd.R_elder' (by (with_reducible repeat (first | apply Kd.R_alloc | apply Kd.R_drewN | apply Kd.R_drew)); exact HO_10.out) (Kd.R_base ho41) hb); have n1_ := Aside0.mk (Kd.R_elder' (by (with_reducible repeat (first | apply Kd.R_alloc | apply Kd.R_drewN | apply Kd.R_drew)); exact HO_12.out) (Kd.R_base ho41) hb); have n2_ := Aside0.mk (Kd.R_elder' (by (with_reducible repeat (first | apply Kd.R_alloc | apply Kd.R_drewN | apply Kd.R_drew)); exact HO_14.out) (Kd.R_base ho41) hb); have n3_ := Aside0.mk (Kd.R_elder' (by (with_reducible repeat (first | apply Kd.R_alloc | apply Kd.R_drewN | apply Kd.R_drew)); exact HO_16.out) (Kd.R_base ho41) hb); have n4_ := Aside0.mk (Kd.R_lower (Kd.R_new' (Kd.R_new' (Kd.R_new' (Kd.R_new' ho41 (Kd.R_lt (by (with_reducible repeat (first | apply Kd.R_alloc | apply Kd.R_drewN | apply Kd.R_drew)); exact HO_10.out))) (Kd.R_lt (by (with_reducible repeat (first | apply Kd.R_alloc | apply Kd.R_drewN | apply Kd.R_drew)); exact HO_12.out))) (Kd.R_lt (by (with_reducible repeat (first | apply Kd.R_alloc | apply Kd.R_drewN | apply Kd.R_drew)); exact HO_14.out))) (Kd.R_lt (by (with_reducible repeat (first | apply Kd.R_alloc | apply Kd.R_drewN | apply Kd.R_drew)); exact HO_16.out))) (below_size (by repeat (first | (with_reducible first | exact HB.out | apply below_alloc | apply pw_below_drewN | apply below_drew1 | refine below_set ?_ GE676.out | refine below_set ?_ GE677.out) | exact HB.out)))); have n5_ := Aside0.mk (blk_below (g := gb676) (o := .cells #[.int .u32 a0_0, .slice A0_1 l0_1.length c0_1] 25 (0, 0)) (by (with_reducible repeat (first | refine blk_drewN ?_ _ | refine blk_drew ?_ | refine blk_alloc ?_ _)); exact BK676.out) hb); have n6_ := Aside0.mk (blk_below (g := gb677) (o := .cells #[.int .u32 a1_0, .slice A1_1 l1_1.length c1_1] 25 (0, 0)) (by (with_reducible repeat (first | refine blk_drewN ?_ _ | refine blk_drew ?_ | refine blk_alloc ?_ _)); exact BK677.out) hb); have n7_ := Aside0.mk (below_step (by repeat (first | (with_reducible first | exact HB.out | apply below_alloc | apply pw_below_drewN | apply below_drew1 | refine below_set ?_ GE676.out | refine below_set ?_ GE677.out) | exact HB.out)) hb); clear HO_10; clear HO_12; clear HO_14; clear HO_16; clear BK676; clear BK677; clear HB; have HO_10 := n0_; have HO_12 := n1_; have HO_14 := n2_; have HO_16 := n3_; have HO711 := n4_; have BK676 := n5_; have BK677 := n6_; have HB := n7_; clear n0_ n1_ n2_ n3_ n4_ n5_ n6_ n7_; clear hb ho41; obtain ⟨Ao43, co43, eo43⟩ := Kd.R_slice HO_10.out; subst eo43) | ((with_reducible refine gate_builtin (b := .append) (xs := #[.tmp 54, .tmp 55]) rfl ?_); at_builtin; refine Kd.R_append_rows (Kd.int .u8) (w0 := w) w.heap.size rfl (.tmp 54) (.tmp 55) 32 5 (.int .u8 0) 1 rfl Try.underlying32 info5 rfl (by decide) (by omega) v710 y709 t683 _ _ _ (fun k_ => some k_ ≠ (.slice Ao43 t683.length co43 : Value).ownBlock ∧ some k_ ≠ (v692 : Value).ownBlock ∧ some k_ ≠ (v700 : Value).ownBlock ∧ some k_ ≠ (v707 : Value).ownBlock) (fun _ => False) rfl rfl ?aO ?aR (fun _ _ h => h) (fun _ h => h.elim) ?aF ?aB ?aS ?aL ?_; (case aR => repeat (first | exact (Kd.R_reads' HO_10.out).2.2 | (with_reducible refine Kd.C_alloc ?_ _) | (with_reducible refine Kd.C_drewN ?_ _) | (with_reducible refine Kd.C_drew ?_))); (case aB => exact (by repeat (first | (with_reducible first | exact HB.out | apply below_alloc | apply pw_below_drewN | apply below_drew1 | refine below_set ?_ GE676.out | refine below_set ?_ GE677.out) | exact HB.out))); (case aF => exact (fun k_ hk => ⟨Kd.fresh' (Kd.R_lt (by (with_reducible repeat (first | apply Kd.R_alloc | apply Kd.R_drewN | apply Kd.R_drew)); exact HO_10.out)) k_ hk, Kd.fresh' (Kd.R_lt (by (with_reducible repeat (first | apply Kd.R_alloc | apply Kd.R_drewN | apply Kd.R_drew)); exact HO_12.out)) k_ hk, Kd.fresh' (Kd.R_lt (by (with_reducible repeat (first | apply Kd.R_alloc | apply Kd.R_drewN | apply Kd.R_drew)); exact HO_14.out)) k_ hk, Kd.fresh' (Kd.R_lt (by (with_reducible repeat (first | apply Kd.R_alloc | apply Kd.R_drewN | apply Kd.R_drew)); exact HO_16.out)) k_ hk⟩)); (case aO => exact (by (with_reducible repeat (first | apply Kd.R_alloc | apply Kd.R_drewN | apply Kd.R_drew)); exact Kd.R_mono HO711.out (fun _ hk => ⟨hk.1.1.1.2, ⟨hk.1.1.2, ⟨hk.1.2, hk.2⟩⟩⟩))); (case aS => exact (below_size (by repeat (first | (with_reducible first | exact HB.out | apply below_alloc | apply pw_below_drewN | apply below_drew1 | refine below_set ?_ GE676.out | refine below_set ?_ GE677.out) | exact HB.out)))); (case aL => have := LMc36.out; omega); intro v713 w42 ho hb hg hat; rw [← Ny712.out] at ho; have n0_ := Aside0.mk (Kd.R_after (ok := (fun k_ => some k_ ≠ (v692 : Value).ownBlock ∧ some k_ ≠ (v700 : Value).ownBlock ∧ some k_ ≠ (v707 : Value).ownBlock)) (by (with_reducible repeat (first | apply Kd.R_alloc | apply Kd.R_drewN | apply Kd.R_drew)); exact HO_10.out) hg hat); have n1_ := Aside0.mk (Kd.R_after (ok := (fun k_ => some k_ ≠ (.slice Ao43 t683.length co43 : Value).ownBlock ∧ some k_ ≠ (v700 : Value).ownBlock ∧ some k_ ≠ (v707 : Value).ownBlock)) (by (with_reducible repeat (first | apply Kd.R_alloc | apply Kd.R_drewN | apply Kd.R_drew)); exact HO_12.out) hg hat); have n2_ := Aside0.mk (Kd.R_after (ok := (fun k_ => some k_ ≠ (.slice Ao43 t683.length co43 : Value).ownBlock ∧ some k_ ≠ (v692 : Value).ownBlock ∧ some k_ ≠ (v707 : Value).ownBlock)) (by (with_reducible repeat (first | apply Kd.R_alloc | apply Kd.R_drewN | apply Kd.R_drew)); exact HO_14.out) hg hat); have n3_ := Aside0.mk (Kd.R_after (ok := (fun k_ => some k_ ≠ (.slice Ao43 t683.length co43 : Value).ownBlock ∧ some k_ ≠ (v692 : Value).ownBlock ∧ some k_ ≠ (v700 : Value).ownBlock)) (by (with_reducible repeat (first | apply Kd.R_alloc | apply Kd.R_drewN | apply Kd.R_drew)); exact HO_16.out) hg hat); have n4_ := Aside0.mk (blk_grown (g := gb676) (o := .cells #[.int .u32 a0_0, .slice A0_1 l0_1.length c0_1] 25 (0, 0)) (by (with_reducible repeat (first | refine blk_drewN ?_ _ | refine blk_drew ?_ | refine blk_alloc ?_ _)); exact BK676.out) hg (Kd.R_ne HO711.out BK676.out (by decide))); have n5_ := Aside0.mk (blk_grown (g := gb677) (o := .cells #[.int .u32 a1_0, .slice A1_1 l1_1.length c1_1] 25 (0, 0)) (by (with_reducible repeat (first | refine blk_drewN ?_ _ | refine blk_drew ?_ | refine blk_alloc ?_ _)); exact BK677.out) hg (Kd.R_ne HO711.out BK677.out (by decide))); have n6_ := Aside0.mk (hb); have n7_ := Aside0.mk (ho); clear HO_10; clear HO_12; clear HO_14; clear HO_16; clear BK676; clear BK677; clear HB; clear HO711; have HO_10 := n0_; have HO_12 := n1_; have HO_14 := n2_; have HO_16 := n3_; have BK676 := n4_; have BK677 := n5_; have HB := n6_; have HO714 := n7_; clear n0_ n1_ n2_ n3_ n4_ n5_ n6_ n7_; clear ho hb hg hat; obtain ⟨Ao45, co45, eo45⟩ := Kd.R_slice HO_12.out; subst eo45) | ((with_reducible refine gate_builtin (b := .append) (xs := #[.tmp 56, .tmp 57]) rfl ?_); at_builtin; refine Kd.R_append_rows (Kd.int .u8) (w0 := w) w.heap.size rfl (.tmp 56) (.tmp 57) 32 5 (.int .u8 0) 1 rfl Try.underlying32 info5 rfl (by decide) (by omega) v713 y712 t691 _ _ _ (fun k_ => some k_ ≠ (.slice Ao43 t683.length co43 : Value).ownBlock ∧ some k_ ≠ (.slice Ao45 t691.length co45 : Value).ownBlock ∧ some k_ ≠ (v700 : Value).ownBlock ∧ some k_ ≠ (v707 : Value).ownBlock) (fun _ => False) rfl rfl ?aO ?aR (fun _ _ h => h) (fun _ h => h.elim) ?aF ?aB ?aS ?aL ?_; (case aR => repeat (first | exact (Kd.R_reads' HO_12.out).2.2 | (with_reducible refine Kd.C_alloc ?_ _) | (with_reducible refine Kd.C_drewN ?_ _) | (with_reducible refine Kd.C_drew ?_))); (case aB => exact (by repeat (first | (with_reducible first | exact HB.out | apply below_alloc | apply pw_below_drewN | apply below_drew1 | refine below_set ?_ GE676.out | refine below_set ?_ GE677.out) | exact HB.out))); (case aF => exact (fun k_ hk => ⟨Kd.fresh' (Kd.R_lt (by (with_reducible repeat (first | apply Kd.R_alloc | apply Kd.R_drewN | apply Kd.R_drew)); exact HO_10.out)) k_ hk, Kd.fresh' (Kd.R_lt (by (with_reducible repeat (first | apply Kd.R_alloc | apply Kd.R_drewN | apply Kd.R_drew)); exact HO_12.out)) k_ hk, Kd.fresh' (Kd.R_lt (by (with_reducible repeat (first | apply Kd.R_alloc | apply Kd.R_drewN | apply Kd.R_drew)); exact HO_14.out)) k_ hk, Kd.fresh' (Kd.R_lt (by (with_reducible repeat (first | apply Kd.R_alloc | apply Kd.R_drewN | apply Kd.R_drew)); exact HO_16.out)) k_ hk⟩)); (case aO => exact (by (with_reducible repeat (first | apply Kd.R_alloc | apply Kd.R_drewN | apply Kd.R_drew)); exact HO714.out)); (case aS => exact (below_size (by repeat (first | (with_reducible first | exact HB.out | apply below_alloc | apply pw_below_drewN | apply below_drew1 | refine below_set ?_ GE676.out | refine below_set ?_ GE677.out) | exact HB.out)))); (case aL => have := LMc37.out; omega); intro v716 w44 ho hb hg hat; rw [← Ny715.out] at ho; have n0_ := Aside0.mk (Kd.R_after (ok := (fun k_ => some k_ ≠ (.slice Ao45 t691.length co45 : Value).ownBlock ∧ some k_ ≠ (v700 : Value).ownBlock ∧ some k_ ≠ (v707 : Value).ownBlock)) (by (with_reducible repeat (first | apply Kd.R_alloc | apply Kd.R_drewN | apply Kd.R_drew)); exact HO_10.out) hg hat); have n1_ := Aside0.mk (Kd.R_after (ok := (fun k_ => some k_ ≠ (.slice Ao43 t683.length co43 : Value).ownBlock ∧ some k_ ≠ (v700 : Value).ownBlock ∧ some k_ ≠ (v707 : Value).ownBlock)) (by (with_reducible repeat (first | apply Kd.R_alloc | apply Kd.R_drewN | apply Kd.R_drew)); exact HO_12.out) hg hat); have n2_ := Aside0.mk (Kd.R_after (ok := (fun k_ => some k_ ≠ (.slice Ao43 t683.length co43 : Value).ownBlock ∧ some k_ ≠ (.slice Ao45 t691.length co45 : Value).ownBlock ∧ some k_ ≠ (v707 : Value).ownBlock)) (by (with_reducible repeat (first | apply Kd.R_alloc | apply Kd.R_drewN | apply Kd.R_drew)); exact HO_14.out) hg hat); have n3_ := Aside0.mk (Kd.R_after (ok := (fun k_ => some k_ ≠ (.slice Ao43 t683.length co43 : Value).ownBlock ∧ some k_ ≠ (.slice Ao45 t691.length co45 : Value).ownBlock ∧ some k_ ≠ (v700 : Value).ownBlock)) (by (with_reducible repeat (first | apply Kd.R_alloc | apply Kd.R_drewN | apply Kd.R_drew)); exact HO_16.out) hg hat); have n4_ := Aside0.mk (blk_grown (g := gb676) (o := .cells #[.int .u32 a0_0, .slice A0_1 l0_1.length c0_1] 25 (0, 0)) (by (with_reducible repeat (first | refine blk_drewN ?_ _ | refine blk_drew ?_ | refine blk_alloc ?_ _)); exact BK676.out) hg (Kd.R_ne HO714.out BK676.out (by decide))); have n5_ := Aside0.mk (blk_grown (g := gb677) (o := .cells #[.int .u32 a1_0, .slice A1_1 l1_1.length c1_1] 25 (0, 0)) (by (with_reducible repeat (first | refine blk_drewN ?_ _ | refine blk_drew ?_ | refine blk_alloc ?_ _)); exact BK677.out) hg (Kd.R_ne HO714.out BK677.out (by decide))); have n6_ := Aside0.mk (hb); have n7_ := Aside0.mk (ho); clear HO_10; clear HO_12; clear HO_14; clear HO_16; clear BK676; clear BK677; clear HB; clear HO714; have HO_10 := n0_; have HO_12 := n1_; have HO_14 := n2_; have HO_16 := n3_; have BK676 := n4_; have BK677 := n5_; have HB := n6_; have HO717 := n7_; clear n0_ n1_ n2_ n3_ n4_ n5_ n6_ n7_; clear ho hb hg hat; obtain ⟨Ao46, co46, eo46⟩ := Kd.R_slice HO717.out; subst eo46) | ((with_reducible refine gate_callee (f := 28) rfl ?_); refine goesL_ (some 59) rfl rfl Try.func28 (by kernel_rfl) rfl #[.slice Ao46 y715.length co46] rfl (by (try simp only [List.map_toArray, List.map_cons, List.map_nil]); first | done | rfl | (simp only [List.length_drop, List.length_take]; rfl) | (rw [IntKind.wrap_u64, Int.emod_eq_of_lt (by omega) (by omega)]; rfl)) ?_; (with_reducible refine (codec_Decode.calls _ _ y715 t718 t719 t722 _ ?side1 ?side2 A38.out).mono ?_); (case side1 => repeat (first | exact (Kd.R_reads' HO717.out).2.2 | (with_reducible refine Kd.C_alloc ?_ _) | (with_reducible refine Kd.C_drewN ?_ _) | (with_reducible refine Kd.C_drew ?_))); (case side2 => exact (Kd.R_reads' HO717.out).2.1); rintro e w47 ⟨v720, rfl, ho0, hb⟩; refine ⟨_, rfl, ?_⟩; have n0_ := Aside0.mk (Kd.R_below (by (with_reducible repeat (first | apply Kd.R_alloc | apply Kd.R_drewN | apply Kd.R_drew)); exact HO_10.out) hb); have n1_ := Aside0.mk (Kd.R_below (by (with_reducible repeat (first | apply Kd.R_alloc | apply Kd.R_drewN | apply Kd.R_drew)); exact HO_12.out) hb); have n2_ := Aside0.mk (Kd.R_below (by (with_reducible repeat (first | apply Kd.R_alloc | apply Kd.R_drewN | apply Kd.R_drew)); exact HO_14.out) hb); have n3_ := Aside0.mk (Kd.R_below (by (with_reducible repeat (first | apply Kd.R_alloc | apply Kd.R_drewN | apply Kd.R_drew)); exact HO_16.out) hb); have n4_ := Aside0.mk (Kd.R_below (by (with_reducible repeat (first | apply Kd.R_alloc | apply Kd.R_drewN | apply Kd.R_drew)); exact HO717.out) hb); have n5_ := Aside0.mk (Kd.S_lower ho0 (below_size (by repeat (first | (with_reducible first | exact HB.out | apply below_alloc | apply pw_below_drewN | apply below_drew1 | refine below_set ?_ GE676.out | refine below_set ?_ GE677.out) | exact HB.out)))); have n6_ := Aside0.mk (blk_below (g := gb676) (o := .cells #[.int .u32 a0_0, .slice A0_1 l0_1.length c0_1] 25 (0, 0)) (by (with_reducible repeat (first | refine blk_drewN ?_ _ | refine blk_drew ?_ | refine blk_alloc ?_ _)); exact BK676.out) hb); have n7_ := Aside0.mk (blk_below (g := gb677) (o := .cells #[.int .u32 a1_0, .slice A1_1 l1_1.length c1_1] 25 (0, 0)) (by (with_reducible repeat (first | refine blk_drewN ?_ _ | refine blk_drew ?_ | refine blk_alloc ?_ _)); exact BK677.out) hb); have n8_ := Aside0.mk (below_step (by repeat (first | (with_reducible first | exact HB.out | apply below_alloc | apply pw_below_drewN | apply below_drew1 | refine below_set ?_ GE676.out | refine below_set ?_ GE677.out) | exact HB.out)) hb); clear HO_10; clear HO_12; clear HO_14; clear HO_16; clear HO717; clear BK676; clear BK677; clear HB; have HO_10 := n0_; have HO_12 := n1_; have HO_14 := n2_; have HO_16 := n3_; have HO717 := n4_; have HO721 := n5_; have BK676 := n6_; have BK677 := n7_; have HB := n8_; clear n0_ n1_ n2_ n3_ n4_ n5_ n6_ n7_ n8_; (try clear hb); (try clear hb2); (try clear hk); (try clear hi); (try clear ho0)) | ((with_reducible refine gate_dst (N := 18) rfl ?_); refine box_event ?hg (N := 18) ?hd (cs := #[.int .u32 0, .slice none 0 0]) (t := 25) ?hr ?_; (case hd => rfl); (case hg => rfl); (case hr => first | (go_simp; done) | (go_simp; rfl)); intro gb723 hg w48 hbox hb; have n0_ := Aside0.mk (Kd.R_below (by (with_reducible repeat (first | apply Kd.R_alloc | apply Kd.R_drewN | apply Kd.R_drew)); exact HO_10.out) hb); have n1_ := Aside0.mk (Kd.R_below (by (with_reducible repeat (first | apply Kd.R_alloc | apply Kd.R_drewN | apply Kd.R_drew)); exact HO_12.out) hb); have n2_ := Aside0.mk (Kd.R_below (by (with_reducible repeat (first | apply Kd.R_alloc | apply Kd.R_drewN | apply Kd.R_drew)); exact HO_14.out) hb); have n3_ := Aside0.mk (Kd.R_below (by (with_reducible repeat (first | apply Kd.R_alloc | apply Kd.R_drewN | apply Kd.R_drew)); exact HO_16.out) hb); have n4_ := Aside0.mk (Kd.R_below (by (with_reducible repeat (first | apply Kd.R_alloc | apply Kd.R_drewN | apply Kd.R_drew)); exact HO717.out) hb); have n5_ := Aside0.mk (Kd.S_below (by (with_reducible repeat (first | apply Kd.S_alloc | apply Kd.S_drewN | apply Kd.S_drew)); exact HO721.out) hb); have n6_ := Aside0.mk (blk_below (g := gb676) (o := .cells #[.int .u32 a0_0, .slice A0_1 l0_1.length c0_1] 25 (0, 0)) (by (with_reducible repeat (first | refine blk_drewN ?_ _ | refine blk_drew ?_ | refine blk_alloc ?_ _)); exact BK676.out) hb); have n7_ := Aside0.mk (blk_below (g := gb677) (o := .cells #[.int .u32 a1_0, .slice A1_1 l1_1.length c1_1] 25 (0, 0)) (by (with_reducible repeat (first | refine blk_drewN ?_ _ | refine blk_drew ?_ | refine blk_alloc ?_ _)); exact BK677.out) hb); have n8_ := Aside0.mk (below_step (by repeat (first | (with_reducible first | exact HB.out | apply below_alloc | apply pw_below_drewN | apply below_drew1 | refine below_set ?_ GE676.out | refine below_set ?_ GE677.out) | exact HB.out)) hb); have n9_ := Aside0.mk (hbox); have n10_ := Aside0.mk ((by rw [hg]; exact (below_size (by repeat (first | (with_reducible first | exact HB.out | apply below_alloc | apply pw_below_drewN | apply below_drew1 | refine below_set ?_ GE676.out | refine below_set ?_ GE677.out) | exact HB.out))) : w.heap.size ≤ gb723)); have n11_ := Aside0.mk ((by rw [hg]; exact (below_size (by repeat (first | (with_reducible first | exact HB.out | apply below_alloc | apply pw_below_drewN | apply below_drew1 | refine below_set ?_ GE676.out | refine below_set ?_ GE677.out) | exact HB.out))) : w.heap.size ≤ gb723)); have n12_ := Aside0.mk ((by rw [hg]; exact Nat.ne_of_lt (blk_lt (g := gb676) (o := .cells #[.int .u32 a0_0, .slice A0_1 l0_1.length c0_1] 25 (0, 0)) (by (with_reducible repeat (first | refine blk_drewN ?_ _ | refine blk_drew ?_ | refine blk_alloc ?_ _)); exact BK676.out)) : gb676 ≠ gb723)); have n13_ := Aside0.mk ((by rw [hg]; exact Nat.ne_of_gt (blk_lt (g := gb676) (o := .cells #[.int .u32 a0_0, .slice A0_1 l0_1.length c0_1] 25 (0, 0)) (by (with_reducible repeat (first | refine blk_drewN ?_ _ | refine blk_drew ?_ | refine blk_alloc ?_ _)); exact BK676.out)) : gb723 ≠ gb676)); have n14_ := Aside0.mk ((by rw [hg]; exact Nat.ne_of_lt (blk_lt (g := gb677) (o := .cells #[.int .u32 a1_0, .slice A1_1 l1_1.length c1_1] 25 (0, 0)) (by (with_reducible repeat (first | refine blk_drewN ?_ _ | refine blk_drew ?_ | refine blk_alloc ?_ _)); exact BK677.out)) : gb677 ≠ gb723)); have n15_ := Aside0.mk ((by rw [hg]; exact Nat.ne_of_gt (blk_lt (g := gb677) (o := .cells #[.int .u32 a1_0, .slice A1_1 l1_1.length c1_1] 25 (0, 0)) (by (with_reducible repeat (first | refine blk_drewN ?_ _ | refine blk_drew ?_ | refine blk_alloc ?_ _)); exact BK677.out)) : gb723 ≠ gb677)); clear HO_10; clear HO_12; clear HO_14; clear HO_16; clear HO717; clear HO721; clear BK676; clear BK677; clear HB; have HO_10 := n0_; have HO_12 := n1_; have HO_14 := n2_; have HO_16 := n3_; have HO717 := n4_; have HO721 := n5_; have BK676 := n6_; have BK677 := n7_; have HB := n8_; have BK723 := n9_; have GW723 := n10_; have GE723 := n11_; have NB676_723 := n12_; have NB723_676 := n13_; have NB677_723 := n14_; have NB723_677 := n15_; clear n0_ n1_ n2_ n3_ n4_ n5_ n6_ n7_ n8_ n9_ n10_ n11_ n12_ n13_ n14_ n15_; clear hb hbox hg; have hnb49 := NB723_676.out; have hnc49 := NB676_723.out; have hnb50 := NB723_677.out; have hnc50 := NB677_723.out; have hcz51_0 : w48.cell? ⟨gb723, 0, none⟩ = some (.int .u32 0) := (blk_cell BK723.out 0).trans rfl; have hcz51_1 : w48.cell? ⟨gb723, 1, none⟩ = some (.slice none 0 0) := (blk_cell BK723.out 1).trans rfl; have hfz51_0 := blk_frozen BK723.out 0; have hfz51_1 := blk_frozen BK723.out 1; obtain ⟨Ao52, co52, eo52⟩ := Kd.S_slice HO721.out; subst eo52))
                go_meet
                case rel => exact ⟨_, H', ⟨by have := HJ13.out; first | omega | exact Nat.le_refl _⟩, ⟨by (with_reducible repeat (first | apply Kd.R_alloc | apply Kd.R_drewN | apply Kd.R_drew)); exact Kd.R_mono (Kd.R_far (p := ⟨gb723, 1, none⟩) (Kd.R_far (p := ⟨gb723, 0, none⟩) (Kd.R_types HO_14.out BK723.out (by decide)) (fun _ hk => hk.2) (.int .u32 t718)) (fun _ hk => hk.2) (.slice Ao52 t719.length co52)) (fun _ hk => hk.1.1.2.2)⟩, ⟨by (with_reducible repeat (first | apply Kd.R_alloc | apply Kd.R_drewN | apply Kd.R_drew)); exact Kd.R_mono (Kd.R_far (p := ⟨gb723, 1, none⟩) (Kd.R_far (p := ⟨gb723, 0, none⟩) (Kd.R_types HO_16.out BK723.out (by decide)) (fun _ hk => hk.2) (.int .u32 t718)) (fun _ hk => hk.2) (.slice Ao52 t719.length co52)) (fun _ hk => hk.1.1.2.2)⟩, ⟨by (with_reducible repeat (first | refine blk_drewN ?_ _ | refine blk_drew ?_ | refine blk_alloc ?_ _)); refine blk_far ?_ NB676_723.out _; (with_reducible repeat (first | refine blk_drewN ?_ _ | refine blk_drew ?_ | refine blk_alloc ?_ _)); refine blk_far ?_ NB676_723.out _; (with_reducible repeat (first | refine blk_drewN ?_ _ | refine blk_drew ?_ | refine blk_alloc ?_ _)); exact BK676.out⟩, ⟨by (with_reducible repeat (first | refine blk_drewN ?_ _ | refine blk_drew ?_ | refine blk_alloc ?_ _)); refine blk_far ?_ NB677_723.out _; (with_reducible repeat (first | refine blk_drewN ?_ _ | refine blk_drew ?_ | refine blk_alloc ?_ _)); refine blk_far ?_ NB677_723.out _; (with_reducible repeat (first | refine blk_drewN ?_ _ | refine blk_drew ?_ | refine blk_alloc ?_ _)); exact BK677.out⟩, ⟨by repeat (first | (with_reducible first | exact HB.out | apply below_alloc | apply pw_below_drewN | apply below_drew1 | refine below_set ?_ GE676.out | refine below_set ?_ GE677.out | refine below_set ?_ GE723.out) | exact HB.out)⟩⟩
              · rw [if_neg c39] at H
                have c39b0 : (t722 == 3) = false := beq_eq_false_iff_ne.mpr c39
                have c39b1 : (t722 != 3) = true := bne_iff_ne.mpr c39
                (first | rw [c39b0] | (simp only [i64_w, i32_w]; rw [c39b0]) | skip)
                exact absurd ((Option.some.inj H).trans HRT.out) (by decide)
            · rw [if_neg c37] at H
              exact absurd H (by simp)
          · rw [if_neg c36] at H
            exact absurd H (by simp)
        · replace c35 := Bool.eq_false_iff.mpr c35
          subst c35
          have H1 : (tidemarklaw04_CodecTwo.j1 kj13 t678 t698 t699 t705 t706) = some r := by rw [if_neg (show ¬ (false = true) by decide)] at H; exact H
          clear H
          have H := H1
          clear H1
          have H' := Aside0.mk H
          clear H
          go_wp2
          go_meet
          case rel => exact ⟨_, H', ⟨by have := HJ13.out; first | omega | exact Nat.le_refl _⟩, ⟨by (with_reducible repeat (first | apply Kd.R_alloc | apply Kd.R_drewN | apply Kd.R_drew)); exact Kd.R_mono HO_14.out (fun _ hk => hk.2.2)⟩, ⟨by (with_reducible repeat (first | apply Kd.R_alloc | apply Kd.R_drewN | apply Kd.R_drew)); exact Kd.R_mono HO_16.out (fun _ hk => hk.2.2)⟩, ⟨by (with_reducible repeat (first | refine blk_drewN ?_ _ | refine blk_drew ?_ | refine blk_alloc ?_ _)); exact BK676.out⟩, ⟨by (with_reducible repeat (first | refine blk_drewN ?_ _ | refine blk_drew ?_ | refine blk_alloc ?_ _)); exact BK677.out⟩, ⟨by repeat (first | (with_reducible first | exact HB.out | apply below_alloc | apply pw_below_drewN | apply below_drew1 | refine below_set ?_ GE676.out | refine below_set ?_ GE677.out) | exact HB.out)⟩⟩
      case rest =>
        clear HC34
        try clear c1
        try clear c2
        try clear p2
        try clear c3
        try clear c4
        try clear c5
        try clear c12
        try clear c13
        try clear c14
        try clear c15
        try clear c16
        try clear c17
        try clear c18
        try clear c28
        try clear c33
        try clear c33b0
        try clear c33b1
        try clear c35
        try clear c36
        try clear c37
        try clear c39
        try clear c39b0
        try clear c39b1
        try clear c49
        try clear c50
        try clear hcz19_0
        try clear hcz19_1
        try clear hcz23_0
        try clear hcz23_1
        try clear hcz51_0
        try clear hcz51_1
        try clear hfz19_0
        try clear hfz19_1
        try clear hfz23_0
        try clear hfz23_1
        try clear hfz51_0
        try clear hfz51_1
        try clear p2
        obtain ⟨kq, HA, HJ33, HO_14, HO_16, BK676, BK677, HB⟩ := hcut
        cases kq with
        | zero => exact absurd HA.out (by simp [tidemarklaw04_CodecTwo.j1])
        | succ kj33 =>
          have H := HA.out
          clear HA
          simp only [tidemarklaw04_CodecTwo.j1] at H
          have HC53 := Aside0.mk H
          clear H
          go_upto_region 10 with (fail)
          go_cut [69] (fun v69 wc => ∃ (kq : Nat) (x69_52 : Bool), v69 = .bool x69_52 ∧ Aside0 (tidemarklaw04_CodecTwo.j2 kq t678 t698 t705 x69_52 = some r) ∧ Aside0 (kq ≤ kj33) ∧ Aside0 (Kd.R (Kd.int .u8) 5 wc w.heap.size (fun k_ => some k_ ≠ (v707 : Value).ownBlock) v700 t698) ∧ Aside0 (Kd.R (Kd.int .u8) 5 wc w.heap.size (fun k_ => some k_ ≠ (v700 : Value).ownBlock) v707 t705) ∧ Aside0 (wc.heap[gb676]? = some (.cells #[.int .u32 a0_0, (.slice A0_1 l0_1.length c0_1)] 25 (0, 0))) ∧ Aside0 (wc.heap[gb677]? = some (.cells #[.int .u32 a1_0, (.slice A1_1 l1_1.length c1_1)] 25 (0, 0))) ∧ Aside0 (Below w.heap.size w wc))
          case first =>
            have H := HC53.out
            clear HC53
            by_cases c54 : t699 = 0
            · rw [if_pos c54] at H
              have c54b0 : (t699 == 0) = true := beq_iff_eq.mpr c54
              have c54b1 : (t699 != 0) = false := bne_eq_false_iff_eq.mpr c54
              clear c54
              (first | rw [c54b0] | (simp only [i64_w, i32_w]; rw [c54b0]) | skip)
              have H' := Aside0.mk H
              clear H
              go_wp2
              go_meet
              case rel => exact ⟨_, ((t706 == 0)), (by first | rfl | (simp; done) | (simp [*]; done)), H', ⟨by have := HJ13.out; have := HJ33.out; first | omega | exact Nat.le_refl _⟩, ⟨by (with_reducible repeat (first | apply Kd.R_alloc | apply Kd.R_drewN | apply Kd.R_drew)); exact HO_14.out⟩, ⟨by (with_reducible repeat (first | apply Kd.R_alloc | apply Kd.R_drewN | apply Kd.R_drew)); exact HO_16.out⟩, ⟨by (with_reducible repeat (first | refine blk_drewN ?_ _ | refine blk_drew ?_ | refine blk_alloc ?_ _)); exact BK676.out⟩, ⟨by (with_reducible repeat (first | refine blk_drewN ?_ _ | refine blk_drew ?_ | refine blk_alloc ?_ _)); exact BK677.out⟩, ⟨by repeat (first | (with_reducible first | exact HB.out | apply below_alloc | apply pw_below_drewN | apply below_drew1 | refine below_set ?_ GE676.out | refine below_set ?_ GE677.out) | exact HB.out)⟩⟩
            · rw [if_neg c54] at H
              have c54b0 : (t699 == 0) = false := beq_eq_false_iff_ne.mpr c54
              have c54b1 : (t699 != 0) = true := bne_iff_ne.mpr c54
              (first | rw [c54b0] | (simp only [i64_w, i32_w]; rw [c54b0]) | skip)
              have H' := Aside0.mk H
              clear H
              go_wp2
              go_meet
              case rel => exact ⟨_, (false), (by first | rfl | (simp; done) | (simp [*]; done)), H', ⟨by have := HJ13.out; have := HJ33.out; first | omega | exact Nat.le_refl _⟩, ⟨by (with_reducible repeat (first | apply Kd.R_alloc | apply Kd.R_drewN | apply Kd.R_drew)); exact HO_14.out⟩, ⟨by (with_reducible repeat (first | apply Kd.R_alloc | apply Kd.R_drewN | apply Kd.R_drew)); exact HO_16.out⟩, ⟨by (with_reducible repeat (first | refine blk_drewN ?_ _ | refine blk_drew ?_ | refine blk_alloc ?_ _)); exact BK676.out⟩, ⟨by (with_reducible repeat (first | refine blk_drewN ?_ _ | refine blk_drew ?_ | refine blk_alloc ?_ _)); exact BK677.out⟩, ⟨by repeat (first | (with_reducible first | exact HB.out | apply below_alloc | apply pw_below_drewN | apply below_drew1 | refine below_set ?_ GE676.out | refine below_set ?_ GE677.out) | exact HB.out)⟩⟩
          case rest =>
            clear HC53
            try clear c1
            try clear c2
            try clear p2
            try clear c3
            try clear c4
            try clear c5
            try clear c12
            try clear c13
            try clear c14
            try clear c15
            try clear c16
            try clear c17
            try clear c18
            try clear c28
            try clear c33
            try clear c33b0
            try clear c33b1
            try clear c35
            try clear c36
            try clear c37
            try clear c39
            try clear c39b0
            try clear c39b1
            try clear c49
            try clear c50
            try clear c54
            try clear c54b0
            try clear c54b1
            try clear hcz19_0
            try clear hcz19_1
            try clear hcz23_0
            try clear hcz23_1
            try clear hcz51_0
            try clear hcz51_1
            try clear hfz19_0
            try clear hfz19_1
            try clear hfz23_0
            try clear hfz23_1
            try clear hfz51_0
            try clear hfz51_1
            try clear p2
            obtain ⟨kq, x69_52, rfl, HA, HJ52, HO_14, HO_16, BK676, BK677, HB⟩ := hcut
            cases kq with
            | zero => exact absurd HA.out (by simp [tidemarklaw04_CodecTwo.j2])
            | succ kj52 =>
              have H := HA.out
              clear HA
              simp only [tidemarklaw04_CodecTwo.j2] at H
              by_cases c55 : x69_52 = true
              · subst c55
                have H1 : ((some (([] : List Int) : List Int)).bind fun y724 => (if y724.length + t698.length < 140737488355328 then ((some (y724 ++ t698 : List Int)).bind fun y727 => (if y727.length + t705.length < 140737488355328 then ((codec_DecodeRows.f (y727 ++ t705)).bind fun bt733 => (if bt733.2 = 3 then (some t678) else (some false))) else (none))) else (none))) = some r := by rw [if_pos rfl] at H; exact H
                clear H
                have H := H1
                clear H1
                obtain ⟨y724, hy724⟩ : ∃ y_ : List Int, y_ = (([] : List Int)) := ⟨_, rfl⟩
                replace H : (if y724.length + t698.length < 140737488355328 then ((some (y724 ++ t698 : List Int)).bind fun y727 => (if y727.length + t705.length < 140737488355328 then ((codec_DecodeRows.f (y727 ++ t705)).bind fun bt733 => (if bt733.2 = 3 then (some t678) else (some false))) else (none))) else (none)) = some r := by first | (rw [hy724]; with_reducible exact H) | (have H2_ := (Option.bind_some _ _).symm.trans H; rw [hy724]; with_reducible exact H2_) | (have H2_ := (Option.bind_some _ _).symm.trans H; with_reducible exact H2_) | with_reducible exact H | (rw [hy724]; exact H) | exact H
                have Ny724 := Aside0.mk hy724
                clear hy724
                by_cases c56 : y724.length + t698.length < 140737488355328
                · rw [if_pos c56] at H
                  have LMc56 := Aside0.mk c56
                  clear c56
                  obtain ⟨y727, hy727⟩ : ∃ y_ : List Int, y_ = (y724 ++ t698) := ⟨_, rfl⟩
                  replace H : (if y727.length + t705.length < 140737488355328 then ((codec_DecodeRows.f (y727 ++ t705)).bind fun bt733 => (if bt733.2 = 3 then (some t678) else (some false))) else (none)) = some r := by first | (rw [hy727]; with_reducible exact H) | (have H2_ := (Option.bind_some _ _).symm.trans H; rw [hy727]; with_reducible exact H2_) | (have H2_ := (Option.bind_some _ _).symm.trans H; with_reducible exact H2_) | with_reducible exact H | (rw [hy727]; exact H) | exact H
                  have Ny727 := Aside0.mk hy727
                  clear hy727
                  by_cases c57 : y727.length + t705.length < 140737488355328
                  · rw [if_pos c57] at H
                    have LMc57 := Aside0.mk c57
                    clear c57
                    obtain ⟨y730, hy730⟩ : ∃ y_ : List Int, y_ = (y727 ++ t705) := ⟨_, rfl⟩
                    replace H : ((codec_DecodeRows.f y730).bind fun bt733 => (if bt733.2 = 3 then (some t678) else (some false))) = some r := by first | (rw [hy730]; with_reducible exact H) | (have H2_ := (Option.bind_some _ _).symm.trans H; rw [hy730]; with_reducible exact H2_) | (have H2_ := (Option.bind_some _ _).symm.trans H; with_reducible exact H2_) | with_reducible exact H | (rw [hy730]; exact H) | exact H
                    have Ny730 := Aside0.mk hy730
                    clear hy730
                    replace H := Option.bind_eq_some_iff.mp H
                    obtain ⟨⟨t733, t734⟩, A580, H⟩ := H
                    replace H : (if t734 = 3 then (some t678) else (some false)) = some r := H
                    have A58 := Aside0.mk A580
                    clear A580
                    by_cases c59 : t734 = 3
                    · rw [if_pos c59] at H
                      have c59b0 : (t734 == 3) = true := beq_iff_eq.mpr c59
                      have c59b1 : (t734 != 3) = false := bne_eq_false_iff_eq.mpr c59
                      clear c59
                      obtain rfl := Option.some.inj H
                      go_wp2_with (first | ((with_reducible refine gate_dst (N := 71) rfl ?_); refine Kd.R_lit (Kd.int .u8) _ 5 ?hg (N := 71) ?hd (xs := ([] : List Int)) (inner := []) (ok := fun _ => True) (okp := fun _ => True) ?hr ?hp (fun _ hk => hk) trivial (Below.refl _ _) (Nat.le_refl _) (by simp) ?_; (case hd => rfl); (case hg => rfl); (case hr => first | (go_simp; done) | (go_simp; rfl)); (case hp => exact (Reps.none _ _)); intro v725 w60 ho61 hb hg_ hnew_; clear hg_ hnew_; (first | rw [← Ny724.out] at ho61 | (simp only [Int.reduceToNat] at ho61; rw [← Ny724.out] at ho61)); have n0_ := Aside0.mk (Kd.R_elder' (by (with_reducible repeat (first | apply Kd.R_alloc | apply Kd.R_drewN | apply Kd.R_drew)); exact HO_14.out) (Kd.R_base ho61) hb); have n1_ := Aside0.mk (Kd.R_elder' (by (with_reducible repeat (first | apply Kd.R_alloc | apply Kd.R_drewN | apply Kd.R_drew)); exact HO_16.out) (Kd.R_base ho61) hb); have n2_ := Aside0.mk (Kd.R_lower (Kd.R_new' (Kd.R_new' ho61 (Kd.R_lt (by (with_reducible repeat (first | apply Kd.R_alloc | apply Kd.R_drewN | apply Kd.R_drew)); exact HO_14.out))) (Kd.R_lt (by (with_reducible repeat (first | apply Kd.R_alloc | apply Kd.R_drewN | apply Kd.R_drew)); exact HO_16.out))) (below_size (by repeat (first | (with_reducible first | exact HB.out | apply below_alloc | apply pw_below_drewN | apply below_drew1 | refine below_set ?_ GE676.out | refine below_set ?_ GE677.out) | exact HB.out)))); have n3_ := Aside0.mk (blk_below (g := gb676) (o := .cells #[.int .u32 a0_0, .slice A0_1 l0_1.length c0_1] 25 (0, 0)) (by (with_reducible repeat (first | refine blk_drewN ?_ _ | refine blk_drew ?_ | refine blk_alloc ?_ _)); exact BK676.out) hb); have n4_ := Aside0.mk (blk_below (g := gb677) (o := .cells #[.int .u32 a1_0, .slice A1_1 l1_1.length c1_1] 25 (0, 0)) (by (with_reducible repeat (first | refine blk_drewN ?_ _ | refine blk_drew ?_ | refine blk_alloc ?_ _)); exact BK677.out) hb); have n5_ := Aside0.mk (below_step (by repeat (first | (with_reducible first | exact HB.out | apply below_alloc | apply pw_below_drewN | apply below_drew1 | refine below_set ?_ GE676.out | refine below_set ?_ GE677.out) | exact HB.out)) hb); clear HO_14; clear HO_16; clear BK676; clear BK677; clear HB; have HO_14 := n0_; have HO_16 := n1_; have HO726 := n2_; have BK676 := n3_; have BK677 := n4_; have HB := n5_; clear n0_ n1_ n2_ n3_ n4_ n5_; clear hb ho61; obtain ⟨Ao63, co63, eo63⟩ := Kd.R_slice HO_14.out; subst eo63) | ((with_reducible refine gate_builtin (b := .append) (xs := #[.tmp 71, .tmp 72]) rfl ?_); at_builtin; refine Kd.R_append_rows (Kd.int .u8) (w0 := w) w.heap.size rfl (.tmp 71) (.tmp 72) 32 5 (.int .u8 0) 1 rfl Try.underlying32 info5 rfl (by decide) (by omega) v725 y724 t698 _ _ _ (fun k_ => some k_ ≠ (.slice Ao63 t698.length co63 : Value).ownBlock ∧ some k_ ≠ (v707 : Value).ownBlock) (fun _ => False) rfl rfl ?aO ?aR (fun _ _ h => h) (fun _ h => h.elim) ?aF ?aB ?aS ?aL ?_; (case aR => repeat (first | exact (Kd.R_reads' HO_14.out).2.2 | (with_reducible refine Kd.C_alloc ?_ _) | (with_reducible refine Kd.C_drewN ?_ _) | (with_reducible refine Kd.C_drew ?_))); (case aB => exact (by repeat (first | (with_reducible first | exact HB.out | apply below_alloc | apply pw_below_drewN | apply below_drew1 | refine below_set ?_ GE676.out | refine below_set ?_ GE677.out) | exact HB.out))); (case aF => exact (fun k_ hk => ⟨Kd.fresh' (Kd.R_lt (by (with_reducible repeat (first | apply Kd.R_alloc | apply Kd.R_drewN | apply Kd.R_drew)); exact HO_14.out)) k_ hk, Kd.fresh' (Kd.R_lt (by (with_reducible repeat (first | apply Kd.R_alloc | apply Kd.R_drewN | apply Kd.R_drew)); exact HO_16.out)) k_ hk⟩)); (case aO => exact (by (with_reducible repeat (first | apply Kd.R_alloc | apply Kd.R_drewN | apply Kd.R_drew)); exact Kd.R_mono HO726.out (fun _ hk => ⟨hk.1.2, hk.2⟩))); (case aS => exact (below_size (by repeat (first | (with_reducible first | exact HB.out | apply below_alloc | apply pw_below_drewN | apply below_drew1 | refine below_set ?_ GE676.out | refine below_set ?_ GE677.out) | exact HB.out)))); (case aL => have := LMc56.out; omega); intro v728 w62 ho hb hg hat; rw [← Ny727.out] at ho; have n0_ := Aside0.mk (Kd.R_after (ok := (fun k_ => some k_ ≠ (v707 : Value).ownBlock)) (by (with_reducible repeat (first | apply Kd.R_alloc | apply Kd.R_drewN | apply Kd.R_drew)); exact HO_14.out) hg hat); have n1_ := Aside0.mk (Kd.R_after (ok := (fun k_ => some k_ ≠ (.slice Ao63 t698.length co63 : Value).ownBlock)) (by (with_reducible repeat (first | apply Kd.R_alloc | apply Kd.R_drewN | apply Kd.R_drew)); exact HO_16.out) hg hat); have n2_ := Aside0.mk (blk_grown (g := gb676) (o := .cells #[.int .u32 a0_0, .slice A0_1 l0_1.length c0_1] 25 (0, 0)) (by (with_reducible repeat (first | refine blk_drewN ?_ _ | refine blk_drew ?_ | refine blk_alloc ?_ _)); exact BK676.out) hg (Kd.R_ne HO726.out BK676.out (by decide))); have n3_ := Aside0.mk (blk_grown (g := gb677) (o := .cells #[.int .u32 a1_0, .slice A1_1 l1_1.length c1_1] 25 (0, 0)) (by (with_reducible repeat (first | refine blk_drewN ?_ _ | refine blk_drew ?_ | refine blk_alloc ?_ _)); exact BK677.out) hg (Kd.R_ne HO726.out BK677.out (by decide))); have n4_ := Aside0.mk (hb); have n5_ := Aside0.mk (ho); clear HO_14; clear HO_16; clear BK676; clear BK677; clear HB; clear HO726; have HO_14 := n0_; have HO_16 := n1_; have BK676 := n2_; have BK677 := n3_; have HB := n4_; have HO729 := n5_; clear n0_ n1_ n2_ n3_ n4_ n5_; clear ho hb hg hat; obtain ⟨Ao65, co65, eo65⟩ := Kd.R_slice HO_16.out; subst eo65) | ((with_reducible refine gate_builtin (b := .append) (xs := #[.tmp 73, .tmp 74]) rfl ?_); at_builtin; refine Kd.R_append_rows (Kd.int .u8) (w0 := w) w.heap.size rfl (.tmp 73) (.tmp 74) 32 5 (.int .u8 0) 1 rfl Try.underlying32 info5 rfl (by decide) (by omega) v728 y727 t705 _ _ _ (fun k_ => some k_ ≠ (.slice Ao63 t698.length co63 : Value).ownBlock ∧ some k_ ≠ (.slice Ao65 t705.length co65 : Value).ownBlock) (fun _ => False) rfl rfl ?aO ?aR (fun _ _ h => h) (fun _ h => h.elim) ?aF ?aB ?aS ?aL ?_; (case aR => repeat (first | exact (Kd.R_reads' HO_16.out).2.2 | (with_reducible refine Kd.C_alloc ?_ _) | (with_reducible refine Kd.C_drewN ?_ _) | (with_reducible refine Kd.C_drew ?_))); (case aB => exact (by repeat (first | (with_reducible first | exact HB.out | apply below_alloc | apply pw_below_drewN | apply below_drew1 | refine below_set ?_ GE676.out | refine below_set ?_ GE677.out) | exact HB.out))); (case aF => exact (fun k_ hk => ⟨Kd.fresh' (Kd.R_lt (by (with_reducible repeat (first | apply Kd.R_alloc | apply Kd.R_drewN | apply Kd.R_drew)); exact HO_14.out)) k_ hk, Kd.fresh' (Kd.R_lt (by (with_reducible repeat (first | apply Kd.R_alloc | apply Kd.R_drewN | apply Kd.R_drew)); exact HO_16.out)) k_ hk⟩)); (case aO => exact (by (with_reducible repeat (first | apply Kd.R_alloc | apply Kd.R_drewN | apply Kd.R_drew)); exact HO729.out)); (case aS => exact (below_size (by repeat (first | (with_reducible first | exact HB.out | apply below_alloc | apply pw_below_drewN | apply below_drew1 | refine below_set ?_ GE676.out | refine below_set ?_ GE677.out) | exact HB.out)))); (case aL => have := LMc57.out; omega); intro v731 w64 ho hb hg hat; rw [← Ny730.out] at ho; have n0_ := Aside0.mk (Kd.R_after (ok := (fun k_ => some k_ ≠ (.slice Ao65 t705.length co65 : Value).ownBlock)) (by (with_reducible repeat (first | apply Kd.R_alloc | apply Kd.R_drewN | apply Kd.R_drew)); exact HO_14.out) hg hat); have n1_ := Aside0.mk (Kd.R_after (ok := (fun k_ => some k_ ≠ (.slice Ao63 t698.length co63 : Value).ownBlock)) (by (with_reducible repeat (first | apply Kd.R_alloc | apply Kd.R_drewN | apply Kd.R_drew)); exact HO_16.out) hg hat); have n2_ := Aside0.mk (blk_grown (g := gb676) (o := .cells #[.int .u32 a0_0, .slice A0_1 l0_1.length c0_1] 25 (0, 0)) (by (with_reducible repeat (first | refine blk_drewN ?_ _ | refine blk_drew ?_ | refine blk_alloc ?_ _)); exact BK676.out) hg (Kd.R_ne HO729.out BK676.out (by decide))); have n3_ := Aside0.mk (blk_grown (g := gb677) (o := .cells #[.int .u32 a1_0, .slice A1_1 l1_1.length c1_1] 25 (0, 0)) (by (with_reducible repeat (first | refine blk_drewN ?_ _ | refine blk_drew ?_ | refine blk_alloc ?_ _)); exact BK677.out) hg (Kd.R_ne HO729.out BK677.out (by decide))); have n4_ := Aside0.mk (hb); have n5_ := Aside0.mk (ho); clear HO_14; clear HO_16; clear BK676; clear BK677; clear HB; clear HO729; have HO_14 := n0_; have HO_16 := n1_; have BK676 := n2_; have BK677 := n3_; have HB := n4_; have HO732 := n5_; clear n0_ n1_ n2_ n3_ n4_ n5_; clear ho hb hg hat; obtain ⟨Ao66, co66, eo66⟩ := Kd.R_slice HO732.out; subst eo66) | ((with_reducible refine gate_callee (f := 29) rfl ?_); refine goesL_ (some 76) rfl rfl Try.func29 (by kernel_rfl) rfl #[.slice Ao66 y730.length co66] rfl (by (try simp only [List.map_toArray, List.map_cons, List.map_nil]); first | done | rfl | (simp only [List.length_drop, List.length_take]; rfl) | (rw [IntKind.wrap_u64, Int.emod_eq_of_lt (by omega) (by omega)]; rfl)) ?_; (with_reducible refine (codec_DecodeRows.calls _ _ y730 t733 t734 _ ?side1 ?side2 A58.out).mono ?_); (case side1 => repeat (first | exact (Kd.R_reads' HO732.out).2.2 | (with_reducible refine Kd.C_alloc ?_ _) | (with_reducible refine Kd.C_drewN ?_ _) | (with_reducible refine Kd.C_drew ?_))); (case side2 => exact (Kd.R_reads' HO732.out).2.1); rintro e w67 ⟨v735, rfl, ho0, hb⟩; refine ⟨_, rfl, ?_⟩; have n0_ := Aside0.mk (Kd.R_below (by (with_reducible repeat (first | apply Kd.R_alloc | apply Kd.R_drewN | apply Kd.R_drew)); exact HO_14.out) hb); have n1_ := Aside0.mk (Kd.R_below (by (with_reducible repeat (first | apply Kd.R_alloc | apply Kd.R_drewN | apply Kd.R_drew)); exact HO_16.out) hb); have n2_ := Aside0.mk (Kd.R_below (by (with_reducible repeat (first | apply Kd.R_alloc | apply Kd.R_drewN | apply Kd.R_drew)); exact HO732.out) hb); have n3_ := Aside0.mk (Kd.R_lower ho0 (below_size (by repeat (first | (with_reducible first | exact HB.out | apply below_alloc | apply pw_below_drewN | apply below_drew1 | refine below_set ?_ GE676.out | refine below_set ?_ GE677.out) | exact HB.out)))); have n4_ := Aside0.mk (blk_below (g := gb676) (o := .cells #[.int .u32 a0_0, .slice A0_1 l0_1.length c0_1] 25 (0, 0)) (by (with_reducible repeat (first | refine blk_drewN ?_ _ | refine blk_drew ?_ | refine blk_alloc ?_ _)); exact BK676.out) hb); have n5_ := Aside0.mk (blk_below (g := gb677) (o := .cells #[.int .u32 a1_0, .slice A1_1 l1_1.length c1_1] 25 (0, 0)) (by (with_reducible repeat (first | refine blk_drewN ?_ _ | refine blk_drew ?_ | refine blk_alloc ?_ _)); exact BK677.out) hb); have n6_ := Aside0.mk (below_step (by repeat (first | (with_reducible first | exact HB.out | apply below_alloc | apply pw_below_drewN | apply below_drew1 | refine below_set ?_ GE676.out | refine below_set ?_ GE677.out) | exact HB.out)) hb); clear HO_14; clear HO_16; clear HO732; clear BK676; clear BK677; clear HB; have HO_14 := n0_; have HO_16 := n1_; have HO732 := n2_; have HO736 := n3_; have BK676 := n4_; have BK677 := n5_; have HB := n6_; clear n0_ n1_ n2_ n3_ n4_ n5_ n6_; (try clear hb); (try clear hb2); (try clear hk); (try clear hi); (try clear ho0)))
                      go_ret
                      exact ⟨by first | rfl | (simp [errW_none, errW_some] <;> rfl) | (simp [*, errW_none, errW_some] <;> rfl), by repeat (first | (with_reducible first | exact HB.out | apply below_alloc | apply pw_below_drewN | apply below_drew1 | refine below_set ?_ GE676.out | refine below_set ?_ GE677.out) | exact HB.out)⟩
                    · rw [if_neg c59] at H
                      have c59b0 : (t734 == 3) = false := beq_eq_false_iff_ne.mpr c59
                      have c59b1 : (t734 != 3) = true := bne_iff_ne.mpr c59
                      exact absurd ((Option.some.inj H).trans HRT.out) (by decide)
                  · rw [if_neg c57] at H
                    exact absurd H (by simp)
                · rw [if_neg c56] at H
                  exact absurd H (by simp)
              · replace c55 := Bool.eq_false_iff.mpr c55
                subst c55
                have H1 : (some t678) = some r := by rw [if_neg (show ¬ (false = true) by decide)] at H; exact H
                clear H
                have H := H1
                clear H1
                obtain rfl := Option.some.inj H
                go_wp2
                go_ret
                exact ⟨by first | rfl | (simp [errW_none, errW_some] <;> rfl) | (simp [*, errW_none, errW_some] <;> rfl), by repeat (first | (with_reducible first | exact HB.out | apply below_alloc | apply pw_below_drewN | apply below_drew1 | refine below_set ?_ GE676.out | refine below_set ?_ GE677.out) | exact HB.out)⟩

end Go.Proofs.Ytgmdoapedhppmaa.PC

/- Plain facts on numbers as bytes: puts is what PutUint puts, gets is what GetUint gets; one is the other's turning back. Bytes are whole numbers from 0 to 255. -/
namespace Go.Proofs.Ytgmdoapedhppmaa.B
set_option linter.unusedVariables false
set_option linter.unusedSimpArgs false
open Go.RowKit

/-- The bytes of a number. -/
def puts (n : Nat) : List Int := if n < 128 then [(n : Int)] else ((n % 128 + 128 : Nat) : Int) :: puts (n / 128)
theorem puts_lo {n : Nat} (h : n < 128) : puts n = [(n : Int)] := by rw [puts, if_pos h]
theorem puts_hi {n : Nat} (h : ¬ n < 128) : puts n = ((n % 128 + 128 : Nat) : Int) :: puts (n / 128) := by rw [puts, if_neg h]
theorem puts_pos (n : Nat) : 0 < (puts n).length := by
  by_cases h : n < 128
  · rw [puts_lo h]; simp
  · rw [puts_hi h]; simp
theorem puts_ne (n : Nat) : puts n ≠ [] := by have := puts_pos n; intro h; rw [h] at this; simp at this
theorem puts_le (m : Nat) : ∀ n, n < 128 ^ (m + 1) → (puts n).length ≤ m + 1 := by
  induction m with
  | zero => intro n h; rw [puts_lo (by omega)]; simp
  | succ m ih =>
    intro n h
    by_cases hn : n < 128
    · rw [puts_lo hn]; simp
    · rw [puts_hi hn]
      have := ih (n / 128) (by rw [Nat.pow_succ] at h; exact Nat.div_lt_of_lt_mul (by rw [Nat.mul_comm]; exact h))
      simp only [List.length_cons]; omega
theorem puts_ge (m : Nat) : ∀ n, 128 ^ m ≤ n → m + 1 ≤ (puts n).length := by
  induction m with
  | zero => intro n _; have := puts_pos n; omega
  | succ m ih =>
    intro n h
    have h1 : ¬ n < 128 := by
      have : 0 < 128 ^ m := Nat.pow_pos (by decide)
      rw [Nat.pow_succ] at h; omega
    rw [puts_hi h1]
    have := ih (n / 128) (by rw [Nat.pow_succ] at h; exact (Nat.le_div_iff_mul_le (by decide)).2 h)
    simp only [List.length_cons]; omega
theorem pow10 : 128 ^ 10 = 1180591620717411303424 := by decide
theorem puts_ten (n : Nat) (h : n < 18446744073709551616) : (puts n).length ≤ 10 := puts_le 9 n (by have := pow10; omega)
theorem puts_byte (n : Nat) : ∀ c ∈ puts n, 0 ≤ c ∧ c < 256 := by
  induction n using Nat.strongRecOn with
  | _ n ih =>
    by_cases h : n < 128
    · rw [puts_lo h]; intro c hc; simp at hc; omega
    · rw [puts_hi h]; intro c hc
      rcases List.mem_cons.1 hc with rfl | hc
      · omega
      · exact ih (n / 128) (by omega) c hc

theorem or128 : ∀ c : Fin 256, Go.bits .or .u8 ((c.val : Nat) : Int) 128 = ((c.val % 128 + 128 : Nat) : Int) := by decide +kernel
theorem andNot128 : ∀ c : Fin 256, Go.bits .andNot .u8 ((c.val : Nat) : Int) 128 = ((c.val % 128 : Nat) : Int) := by decide +kernel
theorem or128_at (c : Int) (h0 : 0 ≤ c) (h1 : c < 256) : Go.bits .or .u8 c 128 = c % 128 + 128 := by
  have := or128 ⟨c.toNat, by omega⟩
  simp only [show ((c.toNat : Nat) : Int) = c by omega] at this
  rw [this]; omega
theorem andNot128_at (c : Int) (h0 : 0 ≤ c) (h1 : c < 256) : Go.bits .andNot .u8 c 128 = c % 128 := by
  have := andNot128 ⟨c.toNat, by omega⟩
  simp only [show ((c.toNat : Nat) : Int) = c by omega] at this
  rw [this]; omega

/-- What GetUint gets: c is read at place i, n has been gathered so far. -/
def gets : List Int → Nat → Int → Int × Int × Int
  | [], i, _ => if i = 10 then (0, 0, 3) else (0, 0, 2)
  | c :: r, i, n => if i = 10 then (0, 0, 3) else if 18446744073709551616 ≤ (c % 128) * 128 ^ i then (0, 0, 3) else if 128 ≤ c then gets r (i + 1) (n + (c % 128) * 128 ^ i)
      else if c = 0 ∧ 0 < i then (0, 0, 3) else (n + (c % 128) * 128 ^ i, (i : Int) + 1, 0)
def Bytes (l : List Int) : Prop := ∀ x ∈ l, 0 ≤ x ∧ x < 256
theorem Bytes.drop {l : List Int} (h : Bytes l) (k : Nat) : Bytes (l.drop k) := fun x hx => h x (List.mem_of_mem_drop hx)
theorem Bytes.take {l : List Int} (h : Bytes l) (k : Nat) : Bytes (l.take k) := fun x hx => h x (List.mem_of_mem_take hx)
theorem Bytes.app {l m : List Int} (h : Bytes l) (h' : Bytes m) : Bytes (l ++ m) := fun x hx => (List.mem_append.1 hx).elim (h x) (h' x)
theorem puts_bytes (n : Nat) : Bytes (puts n) := puts_byte n
theorem pow128_pos (i : Nat) : (0 : Int) < 128 ^ i := Int.pow_pos (by decide)
theorem pow128_cast (i : Nat) : (((128 : Nat) ^ i : Nat) : Int) = (128 : Int) ^ i := by simp
theorem pow_shift (i : Nat) : (2 : Int) ^ (7 * i) = 128 ^ i := by rw [Int.pow_mul]; rfl
/-- What is told of what goes on. -/
theorem gets_err {xs : List Int} : ∀ {i : Nat} {n : Int} {a b e : Int}, gets xs i n = (a, b, e) → e = 0 ∨ (a = 0 ∧ b = 0 ∧ (e = 2 ∨ e = 3)) := by
  induction xs with
  | nil => intro i n a b e h; simp only [gets] at h; split at h <;> (cases h; simp)
  | cons c r ih =>
    intro i n a b e h
    simp only [gets] at h
    split at h
    · cases h; simp
    · split at h
      · cases h; simp
      · split at h
        · exact ih h
        · split at h <;> (cases h; simp)
/-- A number, or ErrForm, stays, whatever stands behind. -/
theorem gets_more (ys : List Int) : ∀ (xs : List Int) (i : Nat) (n : Int), (gets xs i n).2.2 ≠ 2 → i ≤ 10 → gets (xs ++ ys) i n = gets xs i n := by
  intro xs
  induction xs with
  | nil =>
    intro i n h hi
    simp only [gets] at h ⊢
    by_cases h10 : i = 10
    · subst h10; rw [if_pos rfl]
      cases ys with
      | nil => simp [gets]
      | cons y ys => simp [gets]
    · rw [if_neg h10] at h; simp at h
  | cons c r ih =>
    intro i n h hi
    simp only [List.cons_append, gets] at h ⊢
    by_cases h10 : i = 10
    · rw [if_pos h10, if_pos h10]
    · rw [if_neg h10] at h ⊢
      rw [if_neg h10]
      split
      · rfl
      · rename_i hb
        rw [if_neg hb] at h
        split
        · rename_i hc
          rw [if_pos hc] at h
          exact ih _ _ h (by omega)
        · rfl
/-- What ends too early goes on: a 1 behind makes a number. -/
theorem gets_one : ∀ (xs : List Int) (i : Nat) (n : Int), Bytes xs → (gets xs i n).2.2 = 2 → i ≤ 9 → 0 ≤ n → ∃ v, gets (xs ++ [1]) i n = (v, ((i + xs.length : Nat) : Int) + 1, 0) ∧ 0 < v := by
  intro xs
  induction xs with
  | nil =>
    intro i n hB h hi hn
    have hp := pow128_pos i
    have hm : (128 : Int) ^ i ≤ 128 ^ 9 := by
      have := Nat.pow_le_pow_right (show 0 < 128 by decide) hi
      have a := pow128_cast i
      have b := pow128_cast 9
      omega
    have e9 : (128 : Int) ^ 9 = 9223372036854775808 := by decide
    simp only [List.nil_append, gets]
    rw [if_neg (by omega), show (1 : Int) % 128 = 1 by decide, Int.one_mul, if_neg (by omega), if_neg (by decide), if_neg (by omega)]
    exact ⟨n + 128 ^ i, by simp, by omega⟩
  | cons c r ih =>
    intro i n hB h hi hn
    have hc := hB c (by simp)
    have hp := pow128_pos i
    simp only [gets] at h
    rw [if_neg (by omega)] at h
    split at h
    · simp at h
    · rename_i hb
      split at h
      · rename_i h128
        have hn' : 0 ≤ n + c % 128 * 128 ^ i := Int.add_nonneg hn (Int.mul_nonneg (by omega) (by omega))
        by_cases h9 : i = 9
        · exfalso
          subst h9
          cases r with
          | nil => simp [gets] at h
          | cons => simp [gets] at h
        · obtain ⟨v, hv, hpos⟩ := ih (i + 1) _ (fun x hx => hB x (by simp [hx])) h (by omega) hn'
          refine ⟨v, ?_, hpos⟩
          simp only [List.cons_append, gets]
          rw [if_neg (by omega), if_neg hb, if_pos h128, hv]
          simp; omega
      · split at h <;> simp at h

/-- What was put is got, whatever stands behind. -/
theorem gets_puts_at (rest : List Int) (n : Nat) : ∀ (i : Nat) (acc : Int), (n : Int) * 128 ^ i < 18446744073709551616 → (i = 0 ∨ 0 < n) → gets (puts n ++ rest) i acc = (acc + n * 128 ^ i, ((i + (puts n).length : Nat) : Int), 0) := by
  induction n using Nat.strongRecOn with
  | _ n ih =>
    intro i acc hn h0
    have hp := pow128_pos i
    have hi : i ≠ 10 := by
      intro h
      subst h
      rcases h0 with h0 | h0
      · omega
      · have e : (128 : Int) ^ 10 = 1180591620717411303424 := by decide
        rw [e] at hn; omega
    by_cases h : n < 128
    · rw [puts_lo h]
      simp only [List.cons_append, gets]
      rw [if_neg hi, show (n : Int) % 128 = n by omega, if_neg (by omega), if_neg (by omega), if_neg (by omega)]
      simp
    · have e1 : ((n % 128 + 128 : Nat) : Int) % 128 = ((n % 128 : Nat) : Int) := by omega
      have hle : ((n % 128 : Nat) : Int) * 128 ^ i ≤ (n : Int) * 128 ^ i := Int.mul_le_mul_of_nonneg_right (by omega) (by omega)
      have hmul : ((n / 128 : Nat) : Int) * 128 ^ (i + 1) = (((n / 128 : Nat) : Int) * 128) * 128 ^ i := by rw [Int.pow_succ, Int.mul_comm ((128 : Int) ^ i) 128, ← Int.mul_assoc]
      have hle2 : (((n / 128 : Nat) : Int) * 128) * 128 ^ i ≤ (n : Int) * 128 ^ i := Int.mul_le_mul_of_nonneg_right (by omega) (by omega)
      rw [puts_hi h]
      simp only [List.cons_append, gets]
      rw [if_neg hi, e1, if_neg (by omega), if_pos (by omega), ih (n / 128) (by omega) (i + 1) _ (by rw [hmul]; omega) (Or.inr (by omega)), hmul]
      have hsum : ((n % 128 : Nat) : Int) * 128 ^ i + (((n / 128 : Nat) : Int) * 128) * 128 ^ i = (n : Int) * 128 ^ i := by
        rw [← Int.add_mul]; congr 1; omega
      simp only [List.length_cons]
      refine Prod.ext ?_ (Prod.ext ?_ rfl)
      · show acc + _ + _ = _
        omega
      · show ((i + 1 + (puts (n / 128)).length : Nat) : Int) = ((i + ((puts (n / 128)).length + 1) : Nat) : Int)
        omega
theorem gets_puts (rest : List Int) (n : Nat) (hn : n < 18446744073709551616) : gets (puts n ++ rest) 0 0 = ((n : Int), ((puts n).length : Int), 0) := by
  have := gets_puts_at rest n 0 0 (by simp; omega) (Or.inl rfl)
  simpa using this
theorem gets_cut (n : Nat) : ∀ (i : Nat) (acc : Int) (c : Nat), (n : Int) * 128 ^ i < 18446744073709551616 → (i = 0 ∨ 0 < n) → c < (puts n).length → gets ((puts n).take c) i acc = (0, 0, 2) := by
  induction n using Nat.strongRecOn with
  | _ n ih =>
    intro i acc c hn h0 hc
    have hp := pow128_pos i
    have hi : i ≠ 10 := by
      intro h
      subst h
      rcases h0 with h0 | h0
      · omega
      · have e : (128 : Int) ^ 10 = 1180591620717411303424 := by decide
        rw [e] at hn; omega
    cases c with
    | zero => simp only [List.take_zero, gets]; rw [if_neg hi]
    | succ c =>
      by_cases h : n < 128
      · rw [puts_lo h] at hc; simp at hc
      · have e1 : ((n % 128 + 128 : Nat) : Int) % 128 = ((n % 128 : Nat) : Int) := by omega
        have hle : ((n % 128 : Nat) : Int) * 128 ^ i ≤ (n : Int) * 128 ^ i := Int.mul_le_mul_of_nonneg_right (by omega) (by omega)
        have hmul : ((n / 128 : Nat) : Int) * 128 ^ (i + 1) = (((n / 128 : Nat) : Int) * 128) * 128 ^ i := by rw [Int.pow_succ, Int.mul_comm ((128 : Int) ^ i) 128, ← Int.mul_assoc]
        have hle2 : (((n / 128 : Nat) : Int) * 128) * 128 ^ i ≤ (n : Int) * 128 ^ i := Int.mul_le_mul_of_nonneg_right (by omega) (by omega)
        rw [puts_hi h] at hc ⊢
        simp only [List.take_succ_cons, gets]
        rw [if_neg hi, e1, if_neg (by omega), if_pos (by omega)]
        exact ih (n / 128) (by omega) (i + 1) _ c (by rw [hmul]; omega) (Or.inr (by omega)) (by simpa using hc)
/-- What is got is put: the bytes that were read are the number's. -/
theorem gets_inv : ∀ (xs : List Int) (i : Nat) (acc z s : Int), Bytes xs → i ≤ 10 → gets xs i acc = (z, s, 0) → ∃ (v k : Nat), z = acc + (v : Int) * 128 ^ i ∧ s = ((i + k : Nat) : Int) ∧ k ≤ xs.length ∧ xs.take k = puts v ∧ (i = 0 ∨ 0 < v) ∧ (v : Int) * 128 ^ i < 18446744073709551616 := by
  intro xs
  induction xs with
  | nil => intro i acc z s _ _ h; simp only [gets] at h; split at h <;> simp at h
  | cons c r ih =>
    intro i acc z s hB hi h
    have hc := hB c (by simp)
    have hp := pow128_pos i
    simp only [gets] at h
    split at h
    · simp at h
    · rename_i h10
      split at h
      · simp at h
      · rename_i hroom
        split at h
        · rename_i h128
          obtain ⟨v, k, hz, hs, hk, ht, h0, hv⟩ := ih (i + 1) _ z s (fun x hx => hB x (by simp [hx])) (by omega) h
          have hv0 : 0 < v := by omega
          have hmul : (v : Int) * 128 ^ (i + 1) = ((v : Int) * 128) * 128 ^ i := by rw [Int.pow_succ, Int.mul_comm ((128 : Int) ^ i) 128, ← Int.mul_assoc]
          have hn : ((c.toNat % 128 + v * 128 : Nat) : Int) = c % 128 + (v : Int) * 128 := by omega
          refine ⟨c.toNat % 128 + v * 128, k + 1, ?_, by omega, by simp; omega, ?_, Or.inr (by omega), ?_⟩
          · rw [hn, Int.add_mul, hz, hmul]; omega
          · have e1 : (c.toNat % 128 + v * 128) / 128 = v := by omega
            have e2 : (((c.toNat % 128 + v * 128) % 128 + 128 : Nat) : Int) = c := by omega
            rw [List.take_succ_cons, ht, puts_hi (n := c.toNat % 128 + v * 128) (by omega), e1, e2]
          · rw [hn, Int.add_mul, ← hmul]
            -- below 2^64: the digits lie under the place of v
            have hi9 : i ≤ 9 := by omega
            have e64 : (18446744073709551616 : Int) = 2 * 128 ^ 9 := by decide
            have hd : (c % 128) * 128 ^ i < 128 ^ (i + 1) := by
              rw [Int.pow_succ, Int.mul_comm ((128 : Int) ^ i) 128]
              exact Int.mul_lt_mul_of_pos_right (by omega) hp
            by_cases h9 : i + 1 ≤ 9
            · obtain ⟨j, hj⟩ : ∃ j, 9 = (i + 1) + j := ⟨9 - (i + 1), by omega⟩
              have e9 : (128 : Int) ^ 9 = 128 ^ j * 128 ^ (i + 1) := by rw [hj, Int.pow_add, Int.mul_comm]
              rw [e64, e9, ← Int.mul_assoc] at hv ⊢
              have hP := pow128_pos (i + 1)
              have hlt : (v : Int) < 2 * 128 ^ j := Int.lt_of_mul_lt_mul_right hv (by omega)
              have hle : ((v : Int) + 1) * 128 ^ (i + 1) ≤ (2 * 128 ^ j) * 128 ^ (i + 1) := Int.mul_le_mul_of_nonneg_right (by omega) (by omega)
              rw [Int.add_mul] at hle
              omega
            · exfalso
              have : i = 9 := by omega
              subst this
              have e10 : (128 : Int) ^ (9 + 1) = 1180591620717411303424 := by decide
              rw [e10] at hv; omega
        · rename_i h128
          split at h
          · simp at h
          · rename_i h00
            simp only [Prod.mk.injEq, and_true] at h
            have hcn : ((c.toNat : Nat) : Int) = c := by omega
            have hcm : c % 128 = c := by omega
            rw [hcm] at h hroom
            refine ⟨c.toNat, 1, by rw [hcn]; omega, by omega, by simp, ?_, ?_, by rw [hcn]; omega⟩
            · rw [List.take_succ_cons, List.take_zero, puts_lo (by omega), hcn]
            · by_cases hi0 : i = 0
              · exact Or.inl hi0
              · refine Or.inr ?_
                have : c ≠ 0 := fun hcz => h00 ⟨hcz, by omega⟩
                omega
end Go.Proofs.Ytgmdoapedhppmaa.B

/- GetUint of the program gets what gets says, of any bytes. -/
namespace Go.Proofs.Ytgmdoapedhppmaa.Pure
set_option linter.unusedVariables false
set_option linter.unusedSimpArgs false
open Go.RowKit Go.Proofs.Ytgmdoapedhppmaa.PC Go.Proofs.YtgmdoapedhppmaaW.PrintWords Go.Proofs.YtgmdoapedhppmaaW.PrintLast Go.Proofs.YtgmdoapedhppmaaW.PrintMore Go.Proofs.Ytgmdoapedhppmaa.B

theorem pow_le_9 (i : Nat) (h : i ≤ 9) : (128 : Int) ^ i ≤ 9223372036854775808 := by
  have := Nat.pow_le_pow_right (show 0 < 128 by decide) h
  have a := pow128_cast i
  have e9 : (128 : Nat) ^ 9 = 9223372036854775808 := by decide
  omega
theorem shl_at (b : Int) (i : Nat) (hi : i ≤ 9) : shl .u64 b (7 * (i : Int)) = (b * 128 ^ i) % 18446744073709551616 := by
  unfold shl
  rw [show (7 * (i : Int)).toNat = 7 * i by omega, Nat.min_eq_left (by show 7 * i ≤ 64; omega), pow_shift, IntKind.wrap_u64]
theorem shr_at (b : Int) (i : Nat) (hi : i ≤ 9) : shr .u64 b (7 * (i : Int)) = b / 128 ^ i := by
  unfold shr
  rw [show (7 * (i : Int)).toNat = 7 * i by omega, Nat.min_eq_left (by show 7 * i ≤ 64; omega), pow_shift]
theorem room_iff (b : Int) (i : Nat) (hb0 : 0 ≤ b) (hi : i ≤ 9) : (b * 128 ^ i) % 18446744073709551616 / 128 ^ i = b ↔ b * 128 ^ i < 18446744073709551616 := by
  have hp := pow128_pos i
  constructor
  · intro h
    by_cases hlt : b * 128 ^ i < 18446744073709551616
    · exact hlt
    · exfalso
      have h1 := Int.emod_lt_of_pos (b * 128 ^ i) (show (0 : Int) < 18446744073709551616 by decide)
      have h2 := Int.ediv_mul_le ((b * 128 ^ i) % 18446744073709551616) (show (128 : Int) ^ i ≠ 0 by omega)
      rw [h] at h2
      omega
  · intro h
    rw [Int.emod_eq_of_lt (Int.mul_nonneg hb0 (by omega)) h, Int.mul_ediv_cancel _ (by omega)]
theorem or_place (n b : Int) (i : Nat) (hn0 : 0 ≤ n) (hn1 : n < 128 ^ i) (hb0 : 0 ≤ b) (hb1 : b * 128 ^ i < 18446744073709551616) (hi : i ≤ 9) :
    Go.bits .or .u64 n (b * 128 ^ i) = n + b * 128 ^ i := by
  have h9 := pow_le_9 i hi
  have hp := pow128_pos i
  rw [B.or_comm, or_join (7 * i) (b * 128 ^ i) n (Int.mul_nonneg hb0 (by omega)) (by rw [pow_shift]; exact Int.mul_emod_left _ _) hb1 hn0 (by rw [pow_shift]; exact hn1) (by omega), Int.add_comm]
theorem rd_at (xs : List Int) (i : Nat) (h : i < xs.length) : rd xs (i : Int) = xs[i] := by
  unfold rd; simp [List.getD, h]
theorem get_l (d : Nat) : ∀ (k i : Nat) (n : Int) (xs : List Int), Bytes xs → i + d = 10 → i ≤ xs.length → xs.length ≤ 9223372036854775807 → 0 ≤ n → n < 128 ^ i → 2 * d + 2 ≤ k →
    shift_GetUint.l0 k xs n (i : Int) = some (gets (xs.drop i) i n) := by
  induction d with
  | zero =>
    intro k i n xs hB hd hi hL hn0 hn1 hk
    obtain ⟨k, rfl⟩ : ∃ m, k = m + 2 := ⟨k - 2, by omega⟩
    obtain rfl : i = 10 := by omega
    simp only [shift_GetUint.l0]
    have e : ∀ b : Bool, b = false → shift_GetUint.j1 (k + 1) xs n ((10 : Nat) : Int) b = some (0, 0, 3) := by
      intro b hb; subst hb; simp only [shift_GetUint.j1]; rw [if_neg (by decide), if_pos (by decide)]
    rw [e _ (by simp), e _ rfl]
    split
    · cases h : xs.drop 10 with
      | nil => simp [gets]
      | cons c r => simp [gets]
    · cases h : xs.drop 10 with
      | nil => simp [gets]
      | cons c r => simp [gets]
  | succ d ih =>
    intro k i n xs hB hd hi hL hn0 hn1 hk
    obtain ⟨k, rfl⟩ : ∃ m, k = m + 2 := ⟨k - 2, by omega⟩
    have hi9 : i ≤ 9 := by omega
    simp only [shift_GetUint.l0]
    by_cases hlt : i < xs.length
    · rw [if_pos (by omega), show decide ((i : Int) < 10) = true from decide_eq_true (by omega)]
      simp only [shift_GetUint.j1]
      have hdr : xs.drop i = xs[i] :: xs.drop (i + 1) := List.drop_eq_getElem_cons hlt
      have hc := hB xs[i] (List.getElem_mem hlt)
      have hw : wrap64 (7 * (i : Int)) = 7 * (i : Int) := wrap64_id _ (by omega) (by omega)
      have hw1 : wrap64 ((i : Int) + 1) = ((i + 1 : Nat) : Int) := by rw [wrap64_id _ (by omega) (by omega)]; simp
      have hp := pow128_pos i
      have h9 := pow_le_9 i hi9
      rw [if_pos trivial, if_pos (by omega), if_pos (by omega), rd_at xs i hlt, hw, hw1, if_pos (by omega), andNot128_at _ hc.1 hc.2,
        show IntKind.u64.wrap (xs[i] % 128) = xs[i] % 128 by rw [IntKind.wrap_u64]; omega, shl_at _ i hi9, shr_at _ i hi9, hdr]
      simp only [gets]
      rw [if_neg (by omega : ¬ i = 10)]
      obtain ⟨b, hb⟩ : ∃ b, b = xs[i] % 128 := ⟨_, rfl⟩
      rw [← hb]
      have hb0 : 0 ≤ b := by omega
      have hb1 : b < 128 := by omega
      have hr := room_iff b i hb0 hi9
      by_cases hroom : b * 128 ^ i < 18446744073709551616
      · rw [if_pos (hr.2 hroom), if_neg (show ¬ 18446744073709551616 ≤ b * 128 ^ i by omega), Int.emod_eq_of_lt (Int.mul_nonneg hb0 (by omega)) hroom, or_place n b i hn0 hn1 hb0 hroom hi9]
        have hmul : b * 128 ^ i ≤ 127 * 128 ^ i := Int.mul_le_mul_of_nonneg_right (by omega) (by omega)
        by_cases h128 : 128 ≤ xs[i]
        · rw [if_neg (show ¬ xs[i] / 128 = 0 by omega), if_pos h128]
          exact ih k (i + 1) _ xs hB (by omega) (by omega) hL (by have := Int.mul_nonneg hb0 (show (0 : Int) ≤ 128 ^ i by omega); omega) (by rw [Int.pow_succ]; omega) (by omega)
        · rw [if_pos (show xs[i] / 128 = 0 by omega), if_neg h128]
          by_cases h0 : xs[i] = 0
          · rw [if_pos h0]
            by_cases hi0 : 0 < i
            · rw [if_pos (by omega), if_pos ⟨h0, hi0⟩]
            · rw [if_neg (by omega), if_neg (fun h => hi0 h.2)]; simp
          · rw [if_neg h0, if_neg (fun h => h0 h.1)]; simp
      · rw [if_neg (fun h => hroom (hr.1 h)), if_pos (by omega)]
    · rw [if_neg (by omega)]
      simp only [shift_GetUint.j1]
      rw [if_neg (by decide), if_neg (by omega), List.drop_eq_nil_of_le (by omega)]
      simp only [gets]
      rw [if_neg (by omega)]
theorem get_f (k : Nat) (xs : List Int) (hB : Bytes xs) (hL : xs.length ≤ 9223372036854775807) (hk : 22 ≤ k) : shift_GetUint.f k xs = some (gets xs 0 0) := by
  unfold shift_GetUint.f
  have := get_l 10 k 0 0 xs hB (by omega) (by omega) hL (by omega) (by decide) (by omega)
  simpa using this
theorem put_l (d : Nat) : ∀ (k : Nat) (n : Nat) (l : List Int), n < 128 ^ (d + 1) → d < k → l.length + d < 140737488355328 → shift_PutUint.l0 k l (n : Int) = some (l ++ puts n) := by
  induction d with
  | zero =>
    intro k n l hn hk hl
    obtain ⟨k, rfl⟩ : ∃ m, k = m + 1 := ⟨k - 1, by omega⟩
    simp only [shift_PutUint.l0]
    rw [if_pos (by omega), if_pos (by omega), puts_lo (by omega), show (n : Int) % 256 = n by omega]
  | succ d ih =>
    intro k n l hn hk hl
    obtain ⟨k, rfl⟩ : ∃ m, k = m + 1 := ⟨k - 1, by omega⟩
    simp only [shift_PutUint.l0]
    by_cases h : n < 128
    · rw [if_pos (by omega), if_pos (by omega), puts_lo (by omega), show (n : Int) % 256 = n by omega]
    · rw [if_neg (by omega), if_pos (by omega), show (n : Int) / 128 = ((n / 128 : Nat) : Int) by omega,
        ih k (n / 128) _ (by rw [Nat.pow_succ] at hn; exact Nat.div_lt_of_lt_mul (by rw [Nat.mul_comm]; exact hn)) (by omega) (by simp; omega),
        puts_hi h, or128_at _ (by omega) (by omega), show (n : Int) % 256 % 128 + 128 = ((n % 128 + 128 : Nat) : Int) by omega, List.append_assoc]
      rfl
theorem put_f (k : Nat) (l : List Int) (n : Int) (h0 : 0 ≤ n) (h1 : n < 18446744073709551616) (hk : 10 ≤ k) (hl : l.length + 10 < 140737488355328) :
    shift_PutUint.f k l n = some (l ++ puts n.toNat) := by
  unfold shift_PutUint.f
  have := put_l 9 k n.toNat l (by have := pow10; omega) (by omega) (by omega)
  rwa [show ((n.toNat : Nat) : Int) = n by omega] at this
end Go.Proofs.Ytgmdoapedhppmaa.Pure

/- The codec, plain: bytes of epochs and rows, and readers of them, over whole numbers, lists and strings; no program in it but the readers of HRead, HKey, HRows, HEpoch. -/
namespace Go.Proofs.Ytgmdoapedhppmaa.Code
set_option linter.unusedVariables false
set_option linter.unusedSimpArgs false
open Go.RowKit Go.Proofs.Ytgmdoapedhppmaa.PC Go.Proofs.Ytgmdoapedhppmaa.B Go.Proofs.Ytgmdoapedhppmaa.Pure Go.Proofs.YtgmdoapedhppmaaW.PrintWords Go.Proofs.YtgmdoapedhppmaaW.PrintLast Go.Proofs.YtgmdoapedhppmaaW.PrintMore
/-- So many bytes are never had. -/
def LIM : Nat := 3518437208882
def bnd {α β : Type} (q : Except Int α) (f : α → Except Int β) : Except Int β := match q with | .error c => .error c | .ok x => f x
theorem bnd_ok {α β : Type} {q : Except Int α} {f : α → Except Int β} {y : β} (h : bnd q f = .ok y) : ∃ x, q = .ok x ∧ f x = .ok y := by
  cases q with
  | error c => cases h
  | ok x => exact ⟨x, rfl, h⟩
/-! ### Bytes and strings -/
theorem strs_bytes (s : ByteArray) : strOfNums (bytesOf s) = s := by
  apply ByteArray.ext
  apply Array.ext'
  simp only [strOfNums, bytesOf, List.map_map]
  conv => rhs; rw [← List.map_id s.data.toList]
  apply List.map_congr_left
  intro x _
  simp
theorem bytes_strs (l : List Int) (h : Bytes l) : bytesOf (strOfNums l) = l := by
  unfold bytesOf strOfNums
  simp only [List.map_map]
  conv => rhs; rw [← List.map_id l]
  apply List.map_congr_left
  intro x hx
  have := h x hx
  simp only [Function.comp, UInt8.toNat_ofNat', id]
  omega
theorem bytesOf_bytes (s : ByteArray) : Bytes (bytesOf s) := by
  intro x hx
  obtain ⟨b, _, rfl⟩ := List.mem_map.1 hx
  have := b.toNat_lt
  exact ⟨by omega, by omega⟩
theorem bytesOf_inj {s t : ByteArray} (h : bytesOf s = bytesOf t) : s = t := by rw [← strs_bytes s, h, strs_bytes]
theorem bytesOf_nil {s : ByteArray} : s.size = 0 ↔ bytesOf s = [] := by rw [← List.length_eq_zero_iff, bytesOf_length]
/-! ### Takers -/
def tN (lo hi : Int) (l : List Int) : Except Int (Int × List Int) :=
  if (gets l 0 0).2.2 = 0 then (if lo ≤ (gets l 0 0).1 ∧ (gets l 0 0).1 ≤ hi then .ok ((gets l 0 0).1, l.drop (gets l 0 0).2.1.toNat) else .error 3) else .error (gets l 0 0).2.2
def tKey (last : S28) (l : List Int) : Except Int (S28 × List Int) :=
  bnd (takeB 1 l) fun p => if byte0 p.1 < 8 then bnd (tN 1 64 p.2) fun n => bnd (takeB n.1 n.2) fun m => if lessB last ⟨byte0 p.1, m.1⟩ then .ok (⟨byte0 p.1, m.1⟩, m.2) else .error 3 else .error 3
def tChange (last : S28) (l : List Int) : Except Int (S50 × List Int) :=
  bnd (tKey last l) fun p => bnd (tN 0 257 p.2) fun n => bnd (takeB (mx (n.1 - 1) 0) n.2) fun m => .ok (⟨p.1, n.1 == 0, m.1⟩, m.2)
def tChanges : Nat → S28 → List Int → Except Int (List S50 × List Int)
  | 0, _, l => .ok ([], l)
  | n + 1, last, l => bnd (tChange last l) fun p => bnd (tChanges n p.1.f0 p.2) fun q => .ok (p.1 :: q.1, q.2)
def key0 : S28 := ⟨0, ⟨#[]⟩⟩
def tTxn (N last : Int) (l : List Int) : Except Int (S47 × List Int) :=
  bnd (tN 0 4294967295 l) fun p => if last < p.1 then bnd (tN 1 32 p.2) fun n => bnd (tChanges n.1.toNat key0 n.2) fun q => .ok (⟨N * 4294967296 + p.1, q.1⟩, q.2) else .error 3
def tTxns (N : Int) : Nat → Int → List Int → Except Int (List S47 × List Int)
  | 0, _, l => .ok ([], l)
  | n + 1, last, l => bnd (tTxn N last l) fun p => bnd (tTxns N n (p.1.f0 - N * 4294967296) p.2) fun q => .ok (p.1 :: q.1, q.2)
def tEpoch (l : List Int) : Except Int ((Int × List S47) × List Int) :=
  bnd (tN 1 4294967295 l) fun p => bnd (tN 0 64 p.2) fun n => bnd (tTxns p.1 n.1.toNat (-1) n.2) fun q => .ok ((p.1, q.1), q.2)
def tRow (last : S28) (l : List Int) : Except Int (S57 × List Int) :=
  bnd (tKey last l) fun p => bnd (tN 0 256 p.2) fun n => bnd (takeB n.1 n.2) fun m => .ok (⟨p.1, m.1⟩, m.2)
def tRowsL : Nat → S28 → List Int → Except Int (List S57 × List Int)
  | 0, _, l => .ok ([], l)
  | n + 1, last, l => bnd (tRow last l) fun p => bnd (tRowsL n p.1.f0 p.2) fun q => .ok (p.1 :: q.1, q.2)
def tRows (l : List Int) : Except Int (List S57 × List Int) := bnd (tN 0 4611686018427387904 l) fun p => tRowsL p.1.toNat key0 p.2
/-! ### They are the readers -/
/-- What is left is an end of what there was. -/
def Rest (l' l : List Int) : Prop := ∃ k, l' = l.drop k
theorem Rest.bytes {l' l : List Int} (h : Rest l' l) (hB : Bytes l) : Bytes l' := by obtain ⟨k, rfl⟩ := h; exact hB.drop k
theorem Rest.len {l' l : List Int} (h : Rest l' l) : l'.length ≤ l.length := by obtain ⟨k, rfl⟩ := h; rw [List.length_drop]; omega
theorem Rest.trans {a b c : List Int} (h : Rest a b) (k : Rest b c) : Rest a c := by
  obtain ⟨i, rfl⟩ := h
  obtain ⟨j, rfl⟩ := k
  exact ⟨j + i, by rw [List.drop_drop]⟩
theorem Rest.refl (a : List Int) : Rest a a := ⟨0, rfl⟩
theorem tN_rest {lo hi n : Int} {l l' : List Int} (h : tN lo hi l = .ok (n, l')) : Rest l' l := by
  unfold tN at h
  split at h
  · split at h
    · injection h with h; injection h with _ h; exact ⟨_, h.symm⟩
    · cases h
  · cases h
theorem takeB_rest {n : Int} {s : ByteArray} {l l' : List Int} (h : takeB n l = .ok (s, l')) : Rest l' l := by
  unfold PC.takeB at h
  split at h
  · cases h
  · injection h with h; injection h with _ h; exact ⟨_, h.symm⟩
theorem tKey_rest {last x : S28} {l l' : List Int} (h : tKey last l = .ok (x, l')) : Rest l' l ∧ l'.length < l.length := by
  unfold tKey at h
  obtain ⟨⟨s, l1⟩, h1, h⟩ := bnd_ok h
  simp only at h
  split at h
  · obtain ⟨⟨n, l2⟩, h2, h⟩ := bnd_ok h
    obtain ⟨⟨m, l3⟩, h3, h⟩ := bnd_ok h
    simp only at h
    split at h
    · injection h with h; injection h with _ h; subst h
      have a : Rest l3 l2 := takeB_rest h3
      have b := tN_rest h2
      have c := takeB_rest h1
      refine ⟨a.trans (b.trans c), ?_⟩
      have hn := takeB_nat h1
      have e1 : l1.length < l.length := by
        unfold PC.takeB at h1
        rw [if_neg (by omega)] at h1
        injection h1 with h1; injection h1 with _ h1
        rw [← h1, List.length_drop]
        simp; omega
      have := a.len
      have := b.len
      omega
    · cases h
  · cases h
theorem takeN_t {lo hi : Int} {l : List Int} (hB : Bytes l) (hL : l.length ≤ LIM) (h0 : 0 ≤ lo) (h1 : hi < 9223372036854775808) : takeN 40 lo hi l = some (tN lo hi l) := by
  unfold takeN tN
  rw [get_f 40 l hB (by unfold LIM at hL; omega) (by decide)]
  simp only [Option.bind_some]
  rcases hg : gets l 0 0 with ⟨n, s, e⟩
  simp only
  by_cases he : e = 0
  · subst he
    obtain ⟨v, k, hv, hs, hk, _, _, _⟩ := gets_inv l 0 0 n s hB (by omega) hg
    have hs' : 0 ≤ s ∧ s ≤ (l.length : Int) := by omega
    rw [if_pos rfl, if_pos hs', if_pos rfl]
    congr 1
    by_cases hn : lo ≤ n ∧ n ≤ hi
    · rw [if_pos hn, if_pos hn]
      have hw : wrap64 n = n := by unfold wrap64; omega
      rw [hw]
    · rw [if_neg hn, if_neg hn]
  · rw [if_neg he, if_neg he]
theorem takeKey_t {last : S28} {l : List Int} (hB : Bytes l) (hL : l.length ≤ LIM) : takeKey 40 last l = some (tKey last l) := by
  unfold takeKey tKey
  cases h1 : takeB 1 l with
  | error c => rfl
  | ok p =>
    obtain ⟨s, l1⟩ := p
    have r1 := takeB_rest h1
    simp only [bnd]
    by_cases hs : byte0 s < 8
    · rw [if_pos hs, if_pos hs, takeN_t (r1.bytes hB) (Nat.le_trans r1.len hL) (by decide) (by decide)]
      simp only [Option.bind_some]
      cases h2 : tN 1 64 l1 with
      | error c => rfl
      | ok q =>
        obtain ⟨n, l2⟩ := q
        simp only
        cases takeB n l2 with
        | error c => rfl
        | ok m => obtain ⟨m, l3⟩ := m; simp only [apply_ite some]
    · rw [if_neg hs, if_neg hs]
theorem takeChanges_t (n : Nat) : ∀ (last : S28) (acc : List S50) (l : List Int), Bytes l → l.length ≤ LIM → takeChangesL 40 n last acc l = some (bnd (tChanges n last l) fun q => .ok (acc ++ q.1, q.2)) := by
  induction n with
  | zero => intro last acc l _ _; simp [takeChangesL, tChanges, bnd]
  | succ n ih =>
    intro last acc l hB hL
    simp only [takeChangesL, tChanges, tChange]
    rw [takeKey_t hB hL]
    simp only [Option.bind_some]
    cases h1 : tKey last l with
    | error c => rfl
    | ok p =>
      obtain ⟨key, l1⟩ := p
      have r1 := (tKey_rest h1).1
      simp only [bnd]
      rw [takeN_t (r1.bytes hB) (Nat.le_trans r1.len hL) (by decide) (by decide)]
      simp only [Option.bind_some]
      cases h2 : tN 0 257 l1 with
      | error c => rfl
      | ok q =>
        obtain ⟨m, l2⟩ := q
        have r2 := (tN_rest h2).trans r1
        simp only
        cases h3 : takeB (mx (m - 1) 0) l2 with
        | error c => rfl
        | ok v =>
          obtain ⟨v, l3⟩ := v
          have r3 := (takeB_rest h3).trans r2
          simp only
          rw [ih key _ l3 (r3.bytes hB) (Nat.le_trans r3.len hL)]
          cases tChanges n key l3 with
          | error c => rfl
          | ok q => simp only [bnd, List.append_assoc, List.singleton_append]
theorem tChange_rest {last : S28} {x : S50} {l l' : List Int} (h : tChange last l = .ok (x, l')) : Rest l' l := by
  unfold tChange at h
  obtain ⟨⟨k, l1⟩, h1, h⟩ := bnd_ok h
  obtain ⟨⟨n, l2⟩, h2, h⟩ := bnd_ok h
  obtain ⟨⟨m, l3⟩, h3, h⟩ := bnd_ok h
  injection h with h; injection h with _ h; subst h
  exact (takeB_rest h3).trans ((tN_rest h2).trans (tKey_rest h1).1)
theorem tChanges_rest (n : Nat) : ∀ {last : S28} {xs : List S50} {l l' : List Int}, tChanges n last l = .ok (xs, l') → Rest l' l := by
  induction n with
  | zero => intro last xs l l' h; injection h with h; injection h with _ h; exact ⟨0, h.symm⟩
  | succ n ih =>
    intro last xs l l' h
    obtain ⟨⟨c, l1⟩, h1, h⟩ := bnd_ok h
    obtain ⟨⟨cs, l2⟩, h2, h⟩ := bnd_ok h
    injection h with h; injection h with _ h; subst h
    exact (ih h2).trans (tChange_rest h1)
theorem tTxn_rest {N last : Int} {x : S47} {l l' : List Int} (h : tTxn N last l = .ok (x, l')) : Rest l' l := by
  unfold tTxn at h
  obtain ⟨⟨k, l1⟩, h1, h⟩ := bnd_ok h
  simp only at h
  split at h
  · obtain ⟨⟨n, l2⟩, h2, h⟩ := bnd_ok h
    obtain ⟨⟨m, l3⟩, h3, h⟩ := bnd_ok h
    injection h with h; injection h with _ h; subst h
    exact (tChanges_rest _ h3).trans ((tN_rest h2).trans (tN_rest h1))
  · cases h
theorem takeTxns_t (N : Int) (n : Nat) : ∀ (last : Int) (acc : List S47) (l : List Int), Bytes l → l.length ≤ LIM → takeTxnsL 40 N n last acc l = some (bnd (tTxns N n last l) fun q => .ok (acc ++ q.1, q.2)) := by
  induction n with
  | zero => intro last acc l _ _; simp [takeTxnsL, tTxns, bnd]
  | succ n ih =>
    intro last acc l hB hL
    simp only [takeTxnsL, tTxns, tTxn]
    rw [takeN_t hB hL (by decide) (by decide)]
    simp only [Option.bind_some]
    cases h1 : tN 0 4294967295 l with
    | error c => rfl
    | ok p =>
      obtain ⟨tid, l1⟩ := p
      have r1 := tN_rest h1
      simp only [bnd]
      by_cases hlt : last < tid
      · rw [if_pos hlt, if_pos hlt, takeN_t (r1.bytes hB) (Nat.le_trans r1.len hL) (by decide) (by decide)]
        simp only [Option.bind_some]
        cases h2 : tN 1 32 l1 with
        | error c => rfl
        | ok q =>
          obtain ⟨m, l2⟩ := q
          have r2 := (tN_rest h2).trans r1
          simp only
          have := takeChanges_t m.toNat key0 [] l2 (r2.bytes hB) (Nat.le_trans r2.len hL)
          rw [show takeChangesL 40 m.toNat ⟨0, ⟨#[]⟩⟩ [] l2 = _ from this]
          cases h3 : tChanges m.toNat key0 l2 with
          | error c => rfl
          | ok v =>
            obtain ⟨cs, l3⟩ := v
            have r3 := (tChanges_rest _ h3).trans r2
            simp only [bnd, Option.bind_some, List.nil_append]
            rw [ih tid _ l3 (r3.bytes hB) (Nat.le_trans r3.len hL), show N * 4294967296 + tid - N * 4294967296 = tid by omega]
            cases tTxns N n tid l3 with
            | error c => rfl
            | ok q => simp only [bnd, List.append_assoc, List.singleton_append]
      · rw [if_neg hlt, if_neg hlt]
theorem takeEpoch_t {l : List Int} (hB : Bytes l) (hL : l.length ≤ LIM) : takeEpoch 40 l = some (tEpoch l) := by
  unfold takeEpoch tEpoch
  rw [takeN_t hB hL (by decide) (by decide)]
  simp only [Option.bind_some]
  cases h1 : tN 1 4294967295 l with
  | error c => rfl
  | ok p =>
    obtain ⟨N, l1⟩ := p
    have r1 := tN_rest h1
    simp only [bnd]
    rw [takeN_t (r1.bytes hB) (Nat.le_trans r1.len hL) (by decide) (by decide)]
    simp only [Option.bind_some]
    cases h2 : tN 0 64 l1 with
    | error c => rfl
    | ok q =>
      obtain ⟨n, l2⟩ := q
      have r2 := (tN_rest h2).trans r1
      simp only
      rw [takeTxns_t N n.toNat (-1) [] l2 (r2.bytes hB) (Nat.le_trans r2.len hL)]
      cases tTxns N n.toNat (-1) l2 with
      | error c => rfl
      | ok q => simp [bnd]
theorem takeRowsL_t (n : Nat) : ∀ (last : S28) (acc : List S57) (l : List Int), Bytes l → acc.length + l.length ≤ LIM → takeRowsL 40 n last acc l = some (bnd (tRowsL n last l) fun q => .ok (acc ++ q.1, q.2)) := by
  induction n with
  | zero => intro last acc l _ _; simp [takeRowsL, tRowsL, bnd]
  | succ n ih =>
    intro last acc l hB hL
    have hL' : l.length ≤ LIM := by omega
    simp only [takeRowsL, tRowsL, tRow]
    rw [takeKey_t hB hL']
    simp only [Option.bind_some]
    cases h1 : tKey last l with
    | error c => rfl
    | ok p =>
      obtain ⟨key, l1⟩ := p
      obtain ⟨r1, s1⟩ := tKey_rest h1
      simp only [bnd]
      rw [takeN_t (r1.bytes hB) (Nat.le_trans r1.len hL') (by decide) (by decide)]
      simp only [Option.bind_some]
      cases h2 : tN 0 256 l1 with
      | error c => rfl
      | ok q =>
        obtain ⟨m, l2⟩ := q
        have r2 := (tN_rest h2).trans r1
        have s2 := (tN_rest h2).len
        simp only
        cases h3 : takeB m l2 with
        | error c => rfl
        | ok v =>
          obtain ⟨v, l3⟩ := v
          have r3 := (takeB_rest h3).trans r2
          have s3 := (takeB_rest h3).len
          simp only
          rw [if_pos (by unfold LIM at hL; omega), ih key _ l3 (r3.bytes hB) (by rw [List.length_append, List.length_singleton]; omega)]
          cases tRowsL n key l3 with
          | error c => rfl
          | ok q => simp only [bnd, List.append_assoc, List.singleton_append]
theorem takeRows_t {l : List Int} (hB : Bytes l) (hL : l.length ≤ LIM) : takeRows 40 l = some (tRows l) := by
  unfold takeRows tRows
  rw [takeN_t hB hL (by decide) (by decide)]
  simp only [Option.bind_some]
  cases h1 : tN 0 4611686018427387904 l with
  | error c => rfl
  | ok p =>
    obtain ⟨n, l1⟩ := p
    have r1 := tN_rest h1
    simp only [bnd]
    have := takeRowsL_t n.toNat key0 [] l1 (r1.bytes hB) (by have := r1.len; simp; omega)
    rw [show takeRowsL 40 n.toNat ⟨0, ⟨#[]⟩⟩ [] l1 = _ from this]
    cases tRowsL n.toNat key0 l1 with
    | error c => rfl
    | ok q => simp [bnd]
end Go.Proofs.Ytgmdoapedhppmaa.Code
