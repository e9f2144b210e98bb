/- Texts of this session in one: HRows, HBits, HEpoch, HDecode, PCx15, HShown, PCx57, HNum, HGet. Plain functions, and that the program's come to them. -/
import Derived.Test.YtgmdoapedhppmaaWMore
import Derived.PlainAid
import Derived.Laws.BitsLemmas
import Derived.Test.YtgmdoapedhppmaaBCodecMost0
import Derived.Test.YtgmdoapedhppmaaBCodecMost1

namespace Go.Proofs.Ytgmdoapedhppmaa.PC
set_option linter.unusedVariables false
set_option linter.unusedSimpArgs false
open Go.RowKit Go.Proofs.YtgmdoapedhppmaaW.PrintWords Go.Proofs.YtgmdoapedhppmaaW.PrintLast Go.Proofs.YtgmdoapedhppmaaW.PrintMore
theorem Stay.step {S T : Nat → Prop} {a b c : World} (h : Stay S a b) (k : Stay T b c) (hT : ∀ i, T i → S i ∨ a.heap.size ≤ i) : Stay S a c :=
  ⟨k.os.trans h.os, k.tape.trans h.tape, k.output.trans h.output, Nat.le_trans h.size k.size, fun i hi hs => (k.block i (Nat.lt_of_lt_of_le hi h.size) (fun ht => (hT i ht).elim hs (fun h => by omega))).trans (h.block i hi hs)⟩
theorem Stay.of_grown {a b : World} {row : Option Nat} (h : a.grownBy b row) : Stay (fun k => some k = row) a b := ⟨h.os, h.tape, h.output, h.size, fun k hk hn => h.block k hk hn⟩
section
variable {α : Type} {d : Kd α} {e : Nat} {w w1 : World} {base : Nat} {ok : Nat → Prop} {v : Value} {xs : List α}
theorem S_stay {S : Nat → Prop} (h : Kd.S d e w base ok v xs) (hs : Stay S w w1) (hok : ∀ k, ok k → ¬ S k) : Kd.S d e w1 base ok v xs := Kd.S_step h (fun k ho hk => hs.block k hk (hok k ho))
/-- The reader is turned: rows of the call's own stay. -/
theorem S_stayT {g : Nat} {l : List Int} {w0 : World} (ht : ∀ q, q ∈ e :: d.E → q ≠ 116) (h : Kd.S d e w base ok v xs) (hR : Rd w0 w g l) (hs : Stay (fun k => k = g) w w1) : Kd.S d e w1 base ok v xs := by
  obtain ⟨A, c, hb, _⟩ := hR
  exact Kd.S_mono (S_stay (Kd.S_types h hb ht) hs (fun k hk e => hk.2 e)) (fun _ hk => hk.1)
/-- .. and the key ahead. -/
theorem S_stay2T {g h : Nat} {l : List Int} {w0 : World} {x : S28} (ht : ∀ q, q ∈ e :: d.E → q ≠ 116) (ht' : ∀ q, q ∈ e :: d.E → q ≠ 28) (hS : Kd.S d e w base ok v xs) (hR : Rd w0 w g l) (hL : w.heap[h]? = some (keyCells x)) (hs : Stay (fun k => k = g ∨ k = h) w w1) : Kd.S d e w1 base ok v xs := by
  obtain ⟨A, c, hb, _⟩ := hR
  exact Kd.S_mono (S_stay (Kd.S_types (Kd.S_types hS hb ht) hL ht') hs (fun k hk e => e.elim hk.1.2 hk.2)) (fun _ hk => hk.1.1)
end
theorem S_stay1 {w0 w w1 : World} {base g : Nat} {l : List Int} {v : Value} {xs : List S57} (h : Kd.S k57 57 w base (fun _ => True) v xs) (hR : Rd w0 w g l) (hs : Stay (fun k => k = g) w w1) : Kd.S k57 57 w1 base (fun _ => True) v xs := S_stayT (by decide) h hR hs
/-- Some rows more. -/
def takeRowsL (k : Nat) : Nat → S28 → List S57 → List Int → Option (Except Int (List S57 × List Int))
  | 0, _, acc, l => some (.ok (acc, l))
  | n + 1, last, acc, l => (takeKey k last l).bind fun q => match q with
    | .error c => some (.error c)
    | .ok (key, l1) => (takeN k 0 256 l1).bind fun q => match q with
      | .error c => some (.error c)
      | .ok (m, l2) => match takeB m l2 with
        | .error c => some (.error c)
        | .ok (v, l3) => if acc.length < 3518437208883 then takeRowsL k n key (acc ++ [⟨key, v⟩]) l3 else none
/-- Rows, as many as stands ahead of them. -/
def takeRows (k : Nat) (l : List Int) : Option (Except Int (List S57 × List Int)) :=
  (takeN k 0 4611686018427387904 l).bind fun q => match q with
    | .error c => some (.error c)
    | .ok (n, l1) => takeRowsL k n.toNat ⟨0, ⟨#[]⟩⟩ [] l1
def rows6_T : Bool × List (List Nat × List Nat) := (true, [([], []), ([], []), ([], []), ([], []), ([3], [3]), ([2, 4, 4], [2, 4]), ([1, 5], [1, 5]), ([6], [6]), ([0, 7, 5], [0, 7]), ([8, 8, 0, 1, 2, 3, 4, 5, 6, 7, 8], [0, 8])])
def rows6_B : List Nat := [0, 0, 0, 0, 8, 28, 62, 126, 255, 511]
theorem rows6_tab : rtab .any (opsOf Try.f55 6) = rows6_T := by kernel_rfl
theorem rows6_bits : waitsOk rows6_T.2 rows6_B = true := by kernel_rfl
set_option maxRecDepth 100000 in
set_option maxHeartbeats 4000000 in
theorem rows_calls (k : Nat) : RowsCalls (takeRows k) := by
  intro w0 w g l q hR hB hg hq
  have HR := Aside0.mk hR
  have HB0 := Aside0.mk hB
  have GL : Aside0 (g < w.heap.size) := ⟨by obtain ⟨_, _, hb, _⟩ := hR; exact blk_lt hb⟩
  obtain ⟨q1, hq1, hq2⟩ := Option.bind_eq_some_iff.1 (show (takeN k 0 4611686018427387904 l).bind _ = some q from hq)
  have hgb : ∀ i, i = g → w0.heap.size ≤ i := fun i hi => by rw [hi]; exact hg
  have N1 := Aside0.mk hq1
  have N2 := Aside0.mk hq2
  clear hR hB hq hq1 hq2
  go_enter Try.func55, Try.ntmps55
  go_wp2_with (((with_reducible refine gate_dst (N := 3) rfl ?_); refine box_event ?hg (N := 3) ?hd (cs := #[.int .u8 0, .string (⟨#[]⟩ : ByteArray)]) (t := 28) ?hr ?_; (case hd => rfl); (case hg => rfl); (case hr => first | (go_simp; done) | (go_simp; rfl)); intro h hh w1 hbox hb; have BL1 := Aside0.mk hbox; have HH := Aside0.mk hh; have HB1 := Aside0.mk hb; clear hb hbox hh))
  have hw1 : Aside0 (Below w0.heap.size w0 w1) := ⟨below_step HB0.out HB1.out⟩
  have hne1 : ¬ h = g := by rw [HH.out]; have := GL.out; omega
  cases q1 with
  | error c =>
    obtain rfl : .error c = q := Option.some.inj N2.out
    refine (number_calls k 0 4611686018427387904 _ w0 w1 g l (HR.out.stay (Stay.of_below (fun _ => False) HB1.out) id) hw1.out hg N1.out).mono ?_
    rintro e w2 ⟨ho, hs⟩
    obtain rfl := ho
    exact ⟨rfl, rfl, (Stay.of_below _ HB1.out).trans hs⟩
  | ok p1 =>
    obtain ⟨n0, l1⟩ := p1
    have hn := takeN_ok N1.out (by decide) (by decide)
    refine (number_calls k 0 4611686018427387904 _ w0 w1 g l (HR.out.stay (Stay.of_below (fun _ => False) HB1.out) id) hw1.out hg N1.out).mono ?_
    rintro e w2 ⟨⟨rfl, hr2⟩, hs⟩
    have R2 := Aside0.mk hr2
    have BL2 := Aside0.mk (hs.blk BL1.out hne1)
    have ST2 := Aside0.mk ((Stay.of_below (fun k => k = g) HB1.out).trans hs)
    have N3 : Aside0 (takeRowsL k n0.toNat ⟨0, ⟨#[]⟩⟩ [] l1 = some q) := ⟨N2.out⟩
    clear hs hr2 N1 N2 BL1 HB1 hw1 HR
    go_wp2_with fail
    go_loopg [2, 4] n0.toNat (fun kq v2 v4 w' => ∃ (acc : List S57) (last : S28) (l' : List Int) (x4 : Int), v4 = .int .i64 x4 ∧ Aside0 (x4 = (kq : Int)) ∧ 0 ≤ x4 ∧ x4 ≤ 4611686018427387904 ∧ Aside0 (takeRowsL k kq last acc l' = some q) ∧ Aside0 (Rd w0 w' g l') ∧ Aside0 (w'.heap[h]? = some (keyCells last)) ∧ Aside0 (Kd.S k57 57 w' w.heap.size (fun _ => True) v2 acc) ∧ Aside0 (Stay (fun k => k = g) w w'))
    case atStart => exact ⟨[], ⟨0, ⟨#[]⟩⟩, l1, n0, rfl, ⟨by omega⟩, by omega, by omega, N3, R2, BL2, ⟨Kd.S_nil _ _ _ _ _⟩, ST2⟩
    case round =>
      clear N3 R2 BL2 ST2 hn
      obtain ⟨acc, last, l', x4, rfl, HX, hx0, hx1, HT, R2, BL2, S2, ST2⟩ := hrel
      by_cases hp : 0 < x4
      · have dp : decide (0 < x4) = true := decide_eq_true hp
        cases gk with
        | zero => exact absurd HX.out (by omega)
        | succ gk1 =>
          have H := HT.out
          clear HT
          simp only [takeRowsL] at H
          obtain ⟨qk, hqk, H⟩ := Option.bind_eq_some_iff.1 H
          have QK := Aside0.mk hqk
          have Q3 := Aside0.mk H
          clear hqk H
          go_wp2_with fail
          cases qk with
          | error c =>
            obtain rfl : .error c = q := Option.some.inj Q3.out
            refine (key_calls k last _ w0 _ g h l' R2.out (ST2.out.below HB0.out hgb) hg (by rw [HH.out]; exact HB0.out.size) hne1 BL2.out QK.out).mono ?_
            rintro e w3 ⟨ho, hs, _⟩
            obtain rfl := ho
            exact ⟨rfl, rfl, ST2.out.step hs (fun i hi => hi.elim Or.inl (fun e => Or.inr (by rw [e, HH.out]; exact Nat.le_refl _)))⟩
          | ok pk =>
            obtain ⟨key, l1⟩ := pk
            refine (key_calls k last _ w0 _ g h l' R2.out (ST2.out.below HB0.out hgb) hg (by rw [HH.out]; exact HB0.out.size) hne1 BL2.out QK.out).mono ?_
            rintro e w3 ⟨⟨rfl, hr3⟩, hs, hl3⟩
            have R3 := Aside0.mk hr3
            have BL3 := Aside0.mk (hl3 _ rfl)
            have S3 := Aside0.mk (S_stay2T (by decide) (by decide) S2.out R2.out BL2.out hs)
            have ST3 : Aside0 (Stay (fun k => k = g) w w3) := ⟨ST2.out.step hs (fun i hi => hi.elim Or.inl (fun e => Or.inr (by rw [e, HH.out]; exact Nat.le_refl _)))⟩
            clear R2 BL2 S2 ST2 hr3 hs hl3 QK
            go_wp2_with (((with_reducible refine gate_dst (N := 5) rfl ?_); refine box_event ?hg (N := 5) ?hd (cs := #[.int .u8 0, .string (⟨#[]⟩ : ByteArray)]) (t := 28) ?hr ?_; (case hd => rfl); (case hg => rfl); (case hr => first | (go_simp; done) | (go_simp; rfl)); intro gk hgk w4 hbox hb; have BK4 := Aside0.mk hbox; have HK := Aside0.mk hgk; have HB4 := Aside0.mk hb; have hz0 := (blk_cell hbox 0).trans rfl; have hz1 := (blk_cell hbox 1).trans rfl; have hf0 := blk_frozen hbox 0; have hf1 := blk_frozen hbox 1; clear hb hbox hgk))
            have hne3 : ¬ gk = g := by rw [HK.out]; have := GL.out; have := ST3.out.size; omega
            have hne4 : ¬ gk = h := by rw [HK.out]; have := blk_lt BL3.out; omega
            have T4 : Aside0 (Stay (fun k => k = gk) w4 ((w4.setCell ⟨gk, 0, none⟩ (.int .u8 key.f0)).setCell ⟨gk, 1, none⟩ (.string key.f1))) := ⟨((Stay.refl (fun k => k = gk) w4).set (.inl rfl) 0 _).set (.inl rfl) 1 _⟩
            have BK5 : Aside0 (((w4.setCell ⟨gk, 0, none⟩ (.int .u8 key.f0)).setCell ⟨gk, 1, none⟩ (.string key.f1)).heap[gk]? = some (keyCells key)) := ⟨blk_put (cs := #[.int .u8 key.f0, .string (⟨#[]⟩ : ByteArray)]) (blk_put (cs := #[.int .u8 0, .string (⟨#[]⟩ : ByteArray)]) BK4.out 0 _ rfl) 1 _ rfl⟩
            have R5 := Aside0.mk ((R3.out.stay (Stay.of_below (fun _ => False) HB4.out) id).stay T4.out (fun e => hne3 e.symm))
            have BL5 := Aside0.mk (T4.out.blk (blk_below BL3.out HB4.out) (fun e => hne4 e.symm))
            have S5 := Aside0.mk (Kd.S_set (Kd.S_set (Kd.S_below S3.out HB4.out) BK4.out (by decide) 0 (.int .u8 key.f0)) (blk_put (cs := #[.int .u8 0, .string (⟨#[]⟩ : ByteArray)]) BK4.out 0 (.int .u8 key.f0) rfl) (by decide) 1 (.string key.f1))
            have ST5 := Aside0.mk ((ST3.out.trans (Stay.of_below _ HB4.out)).step T4.out (fun i hi => Or.inr (by rw [hi, HK.out]; exact ST3.out.size)))
            clear R3 BL3 S3 ST3 BK4 HB4 T4 hz0 hz1 hf0 hf1
            generalize (w4.setCell ⟨gk, 0, none⟩ (.int .u8 key.f0)).setCell ⟨gk, 1, none⟩ (.string key.f1) = w5 at R5 BL5 S5 ST5 BK5 ⊢
            obtain ⟨qn, hqn, H⟩ := Option.bind_eq_some_iff.1 Q3.out
            have QN := Aside0.mk hqn
            have Q4 := Aside0.mk H
            clear hqn H Q3
            refine start_ (n := 10) (S := fun W => W.heap[gk]? = some (keyCells key)) (ds := []) #[false, false, false, false, false, false, false, false, false, false] (by kernel_rfl) rfl rfl (blk_drew BK5.out) (fun hHeld => ?_)
            refine with_tabW rows6_tab rows6_bits (fun HT_ HW_ => ?_)
            have R6 := Aside0.mk (R5.out.stay (Stay.of_below (fun _ => False) (below_drew (Below.refl w5.heap.size w5))) id)
            have BL6 := Aside0.mk (blk_drew BL5.out)
            have S6 := Aside0.mk (Kd.S_drew S5.out)
            have ST6 := Aside0.mk (ST5.out.trans (Stay.of_below _ (below_drew (Below.refl w5.heap.size w5))))
            clear R5 BL5 S5 ST5 BK5
            generalize w5.drew = w6 at R6 BL6 S6 ST6 hHeld ⊢
            refine pure_ (i := 0) (N := some 14) (v := ?_) (a' := ?_) #[true, false, false, false, false, false, false, false, false, false] rfl rfl (any_of HT_.out (by kernel_rfl)) (fun _ _ _ h => h) (Or.inl ⟨by rfl, ?_⟩) ?_ ?_
            rotate_left
            · intro w'
              go_simp
              all_goals with_reducible rfl
            rotate_left
            · simp only [Act.put, List.setIfInBounds_toArray, List.set_cons_zero, List.set_cons_succ, i64_w, i32_w]
              rfl
            refine pure_ (i := 2) (N := some 16) (v := ?_) (a' := ?_) #[true, false, true, false, false, false, false, false, false, false] rfl rfl (any_of HT_.out (by kernel_rfl)) (fun _ _ _ h => h) (Or.inl ⟨by rfl, ?_⟩) ?_ ?_
            rotate_left
            · intro w'
              go_simp
              all_goals with_reducible rfl
            rotate_left
            · simp only [Act.put, List.setIfInBounds_toArray, List.set_cons_zero, List.set_cons_succ, i64_w, i32_w]
              rfl
            refine pure_ (i := 3) (N := some 17) (v := ?_) (a' := ?_) #[true, false, true, true, false, false, false, false, false, false] rfl rfl (any_of HT_.out (by kernel_rfl)) (fun _ _ _ h => h) (Or.inl ⟨by rfl, ?_⟩) ?_ ?_
            rotate_left
            · intro w'
              go_simp
              all_goals with_reducible rfl
            rotate_left
            · simp only [Act.put, List.setIfInBounds_toArray, List.set_cons_zero, List.set_cons_succ, i64_w, i32_w]
              rfl
            refine take_ (i := 1) (N := some 15) (v := ?_) (a' := ?_) #[true, true, true, true, false, false, false, false, false, false] rfl rfl (take_ofW HT_.out HW_.out (by kernel_rfl)) (fun _ _ _ h => h) (Or.inl ⟨by rfl, ?_⟩) hHeld ?_ ?_
            rotate_left
            · rintro w' s0
              have z0 := (blk_cell s0 0).trans rfl; have z1 := (blk_cell s0 1).trans rfl; go_simp
              with_reducible rfl
            rotate_left
            · simp only [Act.put, List.setIfInBounds_toArray, List.set_cons_zero, List.set_cons_succ, i64_w, i32_w]
              rfl
            refine one_ (i := 4) (N := some 18) #[true, true, true, true, true, false, false, false, false, false] rfl rfl (one_of HT_.out (by kernel_rfl)) (by decide) (fun K hK => ?_)
            cases qn with
            | error c =>
              obtain rfl : .error c = q := Option.some.inj Q4.out
              refine goesP_ Try.func75 (by kernel_rfl) rfl #[.pointer (some ⟨g, 0, none⟩), .int .u64 0, .int .u64 256] (by rfl) rfl rfl (by (try simp only [List.map_toArray, List.map_cons, List.map_nil]); first | done | rfl) ?_
              refine (number_calls k 0 256 _ w0 w6 g l1 R6.out (ST6.out.below HB0.out hgb) hg QN.out).mono ?_
              rintro e w7 ⟨ho, hs⟩
              refine ⟨_, ho, ?_⟩
              exact ⟨rfl, rfl, ST6.out.trans hs⟩
            | ok pn =>
              obtain ⟨n, l2⟩ := pn
              have hn := takeN_ok QN.out (by decide) (by decide)
              have HN : Aside0 (0 ≤ n) := ⟨hn.1⟩
              clear hn
              have Q5 : Aside0 ((match takeB n l2 with | .error c => some (.error c) | .ok (vl, l3) => if acc.length < 3518437208883 then takeRowsL k gk1 key (acc ++ [⟨key, vl⟩]) l3 else none) = some q) := ⟨Q4.out⟩
              clear Q4
              refine goes_ Try.func75 (by kernel_rfl) rfl #[.pointer (some ⟨g, 0, none⟩), .int .u64 0, .int .u64 256] (by rfl) rfl rfl (by (try simp only [List.map_toArray, List.map_cons, List.map_nil]); first | done | rfl) ?_
              refine (number_calls k 0 256 _ w0 w6 g l1 R6.out (ST6.out.below HB0.out hgb) hg QN.out).mono ?_
              rintro e w7 ⟨⟨rfl, hr7⟩, hs⟩
              refine ⟨_, rfl, ?_⟩
              have BK7 := Aside0.mk (hs.blk hHeld hne3)
              have BL7 := Aside0.mk (hs.blk BL6.out hne1)
              have S7 := Aside0.mk (S_stay1 S6.out R6.out hs)
              have ST7 := Aside0.mk (ST6.out.trans hs)
              have R7 := Aside0.mk hr7
              clear R6 BL6 S6 ST6 hHeld hs hr7 QN
              refine hK.out _ _ (BK7.out) (fun hHeld => ?_)
              clear hK K
              refine norm_ (a' := ?_) ?_ ?_
              rotate_left
              · show Act.put _ (some 18) _ = _
                simp only [Act.put, List.setIfInBounds_toArray, List.set_cons_zero, List.set_cons_succ, i64_w, i32_w]
                rfl
              clear BK7
              refine one_ (i := 5) (N := some 19) #[true, true, true, true, true, true, false, false, false, false] rfl rfl (one_of HT_.out (by kernel_rfl)) (by decide) (fun K hK => ?_)
              cases qb : takeB n l2 with
              | error c =>
                obtain rfl : .error c = q := by have := Q5.out; rw [qb] at this; exact Option.some.inj this
                refine goesP_ Try.func77 (by kernel_rfl) rfl #[.pointer (some ⟨g, 0, none⟩), .int .i64 n] (by rfl) rfl rfl (by (try simp only [List.map_toArray, List.map_cons, List.map_nil]); first | done | rfl) ?_
                refine (bytes_calls n HN.out w0 w7 g l2 R7.out (ST7.out.below HB0.out hgb) hg).mono ?_
                rintro e w8 ⟨ho, hs⟩
                rw [qb] at ho
                refine ⟨_, ho, ?_⟩
                exact ⟨rfl, rfl, ST7.out.trans hs⟩
              | ok pb =>
                obtain ⟨vl, l3⟩ := pb
                have Q6 : Aside0 ((if acc.length < 3518437208883 then takeRowsL k gk1 key (acc ++ [⟨key, vl⟩]) l3 else none) = some q) := ⟨by have := Q5.out; rw [qb] at this; exact this⟩
                clear Q5
                refine goes_ Try.func77 (by kernel_rfl) rfl #[.pointer (some ⟨g, 0, none⟩), .int .i64 n] (by rfl) rfl rfl (by (try simp only [List.map_toArray, List.map_cons, List.map_nil]); first | done | rfl) ?_
                refine (bytes_calls n HN.out w0 w7 g l2 R7.out (ST7.out.below HB0.out hgb) hg).mono ?_
                rintro e w8 ⟨ho, hs⟩
                rw [qb] at ho
                obtain ⟨rfl, hr8⟩ := ho
                refine ⟨_, rfl, ?_⟩
                have BK8 := Aside0.mk (hs.blk hHeld hne3)
                have BL8 := Aside0.mk (hs.blk BL7.out hne1)
                have S8 := Aside0.mk (S_stay1 S7.out R7.out hs)
                have ST8 := Aside0.mk (ST7.out.trans hs)
                have R8 := Aside0.mk hr8
                clear R7 BL7 S7 ST7 hHeld hs hr8 qb
                refine hK.out _ _ (BK8.out) (fun hHeld => ?_)
                clear hK K
                refine norm_ (a' := ?_) ?_ ?_
                rotate_left
                · show Act.put _ (some 19) _ = _
                  simp only [Act.put, List.setIfInBounds_toArray, List.set_cons_zero, List.set_cons_succ, i64_w, i32_w]
                  rfl
                clear BK8
                have hHeld8 := Aside0.mk hHeld
                refine pure_ (i := 6) (N := some 20) (v := ?_) (a' := ?_) #[true, true, true, true, true, true, true, false, false, false] rfl rfl (any_of HT_.out (by kernel_rfl)) (fun _ _ _ h => h) (Or.inl ⟨by rfl, ?_⟩) ?_ ?_
                rotate_left
                · intro w'
                  go_simp
                  all_goals with_reducible rfl
                rotate_left
                · simp only [Act.put, List.setIfInBounds_toArray, List.set_cons_zero, List.set_cons_succ, i64_w, i32_w]
                  rfl
                refine one_ (i := 7) (N := some 21) #[true, true, true, true, true, true, true, true, false, false] rfl rfl (one_of HT_.out (by kernel_rfl)) (by decide) (fun K hK => ?_)
                refine value_ (w1 := ?_) (v := ?_) (by rfl) rfl ?_ ?_
                rotate_left 2
                · go_simp
                  constructor
                  · rfl
                  · rfl
                refine hK.out _ _ (blk_alloc hHeld _) (fun hHeld => ?_)
                clear hK K
                refine norm_ (a' := ?_) ?_ ?_
                rotate_left
                · show Act.put _ (some 21) _ = _
                  simp only [Act.put, List.setIfInBounds_toArray, List.set_cons_zero, List.set_cons_succ, i64_w, i32_w]
                  rfl
                by_cases hlen : acc.length < 3518437208883
                · have Q7 : Aside0 (takeRowsL k gk1 key (acc ++ [⟨key, vl⟩]) l3 = some q) := ⟨by have := Q6.out; rwa [if_pos hlen] at this⟩
                  have HLN := Aside0.mk hlen
                  clear Q6 hlen
                  refine one_ (i := 8) (N := some 22) #[true, true, true, true, true, true, true, true, true, false] rfl rfl (one_of HT_.out (by kernel_rfl)) (by decide) (fun K hK => ?_)
                  refine Kd.S_append_step k57 (w0 := w8) w.heap.size (by rfl) (.tmp 14) (.tmp 21) 26 57 (.agg #[(.int .u8 0), (.string ⟨#[]⟩), (.string ⟨#[]⟩)]) 40 rfl Try.underlying26 info57 rfl (by decide) (by omega) u2 acc (⟨key, vl⟩ : S57) [.int .u8 key.f0, .string key.f1, .string vl] (fun _ => True) (fun _ => False) rfl rfl ?aP (fun _ hk => hk.elim) ?aF ?aO ?aB ?aS ?aL ?_
                  (case aP => exact k57_mkM _ _ _ _)
                  (case aF => exact (fun _ _ => trivial))
                  (case aO => exact Kd.S_mono S8.out (fun _ _ => ⟨trivial, fun h => h⟩))
                  (case aB => exact Below.refl _ _)
                  (case aS => exact ST8.out.size)
                  (case aL => have := HLN.out; omega)
                  intro v9 w9 ho hb hgw hat
                  have S9 := Aside0.mk ho
                  have ST9 : Aside0 (Stay (fun k => k = g) w w9) := ⟨ST8.out.step (Stay.of_grown hgw) (fun i hi => Or.inr (Kd.S_base S8.out i hi.symm))⟩
                  have hng : some g ≠ u2.ownBlock := by obtain ⟨A, c, hb, _⟩ := R8.out; exact Kd.S_ne S8.out hb (by decide)
                  have hnh : some h ≠ u2.ownBlock := Kd.S_ne S8.out BL8.out (by decide)
                  have hnk : some gk ≠ u2.ownBlock := Kd.S_ne S8.out hHeld8.out (by decide)
                  have BK9 := Aside0.mk ((Stay.of_grown hgw).blk hHeld8.out hnk)
                  have R9 := Aside0.mk (R8.out.stay (Stay.of_grown hgw) hng)
                  have BL9 := Aside0.mk ((Stay.of_grown hgw).blk BL8.out hnh)
                  clear S8 ST8 R8 BL8 ho hb hgw hat hng hnh
                  obtain ⟨acc2, hacc2⟩ : ∃ a, a = acc ++ [(⟨key, vl⟩ : S57)] := ⟨_, rfl⟩
                  rw [← hacc2] at S9 Q7
                  clear hacc2
                  obtain ⟨A9, c9, rfl⟩ := Kd.S_slice S9.out
                  refine hK.out _ _ (BK9.out) (fun hHeld => ?_)
                  clear hK K
                  refine norm_ (a' := ?_) ?_ ?_
                  rotate_left
                  · show Act.put _ (some 22) _ = _
                    simp only [Act.put, List.setIfInBounds_toArray, List.set_cons_zero, List.set_cons_succ, i64_w, i32_w]
                    rfl
                  refine pure_ (i := 9) (N := some 2) (v := ?_) (a' := ?_) #[true, true, true, true, true, true, true, true, true, true] rfl rfl (any_of HT_.out (by kernel_rfl)) (fun _ _ _ h => h) (Or.inl ⟨by rfl, ?_⟩) ?_ ?_
                  rotate_left
                  · intro w'
                    go_simp
                    all_goals with_reducible rfl
                  rotate_left
                  · simp only [Act.put, List.setIfInBounds_toArray, List.set_cons_zero, List.set_cons_succ, i64_w, i32_w]
                    rfl
                  refine done_ (done_of HT_.out (by kernel_rfl)) ?_
                  go_wp2_with fail
                  go_roundg gk1
                  case measure => omega
                  case rel => exact ⟨acc2, key, l3, x4 - 1, rfl, ⟨by have := HX.out; omega⟩, by omega, by omega, Q7, R9, BL9, S9, ST9⟩
                · have H9 := Q6.out; rw [if_neg hlen] at H9; cases H9
      · have dp : decide (0 < x4) = false := decide_eq_false hp
        have hk0 : gk = 0 := by have := HX.out; omega
        subst hk0
        have H := HT.out
        simp only [takeRowsL] at H
        obtain rfl := Option.some.inj H
        go_wp2_with fail
        go_ret
        exact ⟨⟨_, rfl, S2.out, R2.out⟩, ST2.out⟩
end Go.Proofs.Ytgmdoapedhppmaa.PC

/- Plain facts on bits of numbers: xor, or, and; Zig, Zag and Pack as arithmetic. No condition but the ranges of the kinds. -/
namespace Go.Proofs.Ytgmdoapedhppmaa.B
set_option linter.unusedVariables false
set_option linter.unusedSimpArgs false
open Go.RowKit

theorem two64 : (2 : Int) ^ 64 = 18446744073709551616 := by decide
theorem wraps_u64 (n : Int) (h₀ : 0 ≤ n) (h₁ : n < 2 ^ 64) : IntKind.u64.wrap n = n := by rw [two64] at h₁; rw [IntKind.wrap_u64]; omega

theorem xor_ones (x : Int) (h0 : 0 ≤ x) (h1 : x < 18446744073709551616) : Go.bits .xor .u64 x 18446744073709551615 = 18446744073709551615 - x := by
  obtain ⟨a, rfl⟩ := Int.eq_ofNat_of_zero_le h0
  have ha : a < 2 ^ 64 := by omega
  have e : (BitVec.ofInt 64 (a : Int) ^^^ BitVec.ofInt 64 18446744073709551615) = ~~~ (BitVec.ofInt 64 (a : Int)) := by
    have : BitVec.ofInt 64 18446744073709551615 = BitVec.allOnes 64 := by decide
    rw [this, BitVec.xor_allOnes]
  have b : Go.bits .xor .u64 (a : Int) 18446744073709551615 = IntKind.u64.wrap ((BitVec.ofInt 64 (a : Int) ^^^ BitVec.ofInt 64 18446744073709551615).toNat : Int) := rfl
  rw [b, e]
  simp only [BitVec.toNat_not, BitVec.ofInt_natCast, BitVec.toNat_ofNat, Nat.mod_eq_of_lt ha]
  rw [IntKind.wrap_u64]; omega
theorem xor_zero (x : Int) (h0 : 0 ≤ x) (h1 : x < 18446744073709551616) : Go.bits .xor .u64 x 0 = x := by
  obtain ⟨a, rfl⟩ := Int.eq_ofNat_of_zero_le h0
  have ha : a < 2 ^ 64 := by omega
  have e : (BitVec.ofInt 64 (a : Int) ^^^ BitVec.ofInt 64 0) = (BitVec.ofInt 64 (a : Int)) := by
    have : BitVec.ofInt 64 0 = 0#64 := by decide
    rw [this, BitVec.xor_zero]
  have b : Go.bits .xor .u64 (a : Int) 0 = IntKind.u64.wrap ((BitVec.ofInt 64 (a : Int) ^^^ BitVec.ofInt 64 0).toNat : Int) := rfl
  rw [b, e]
  simp only [BitVec.ofInt_natCast, BitVec.toNat_ofNat, Nat.mod_eq_of_lt ha]
  rw [IntKind.wrap_u64]; omega
theorem xor_zero_i (x : Int) (h0 : 0 ≤ x) (h1 : x < 9223372036854775808) : Go.bits .xor .i64 x 0 = x := by
  obtain ⟨a, rfl⟩ := Int.eq_ofNat_of_zero_le h0
  have ha : a < 2 ^ 64 := by omega
  have e : (BitVec.ofInt 64 (a : Int) ^^^ BitVec.ofInt 64 0) = (BitVec.ofInt 64 (a : Int)) := by
    have : BitVec.ofInt 64 0 = 0#64 := by decide
    rw [this, BitVec.xor_zero]
  have b : Go.bits .xor .i64 (a : Int) 0 = IntKind.i64.wrap ((BitVec.ofInt 64 (a : Int) ^^^ BitVec.ofInt 64 0).toNat : Int) := rfl
  rw [b, e]
  simp only [BitVec.ofInt_natCast, BitVec.toNat_ofNat, Nat.mod_eq_of_lt ha]
  rw [IntKind.wrap_i64]; omega
theorem xor_ones_i (x : Int) (h0 : 0 ≤ x) (h1 : x < 9223372036854775808) : Go.bits .xor .i64 x (-1) = -x - 1 := by
  obtain ⟨a, rfl⟩ := Int.eq_ofNat_of_zero_le h0
  have ha : a < 2 ^ 64 := by omega
  have e : (BitVec.ofInt 64 (a : Int) ^^^ BitVec.ofInt 64 (-1)) = ~~~ (BitVec.ofInt 64 (a : Int)) := by
    have : BitVec.ofInt 64 (-1) = BitVec.allOnes 64 := by decide
    rw [this, BitVec.xor_allOnes]
  have b : Go.bits .xor .i64 (a : Int) (-1) = IntKind.i64.wrap ((BitVec.ofInt 64 (a : Int) ^^^ BitVec.ofInt 64 (-1)).toNat : Int) := rfl
  rw [b, e]
  simp only [BitVec.toNat_not, BitVec.ofInt_natCast, BitVec.toNat_ofNat, Nat.mod_eq_of_lt ha]
  rw [IntKind.wrap_i64]; omega
theorem and_one (x : Int) (h0 : 0 ≤ x) (h1 : x < 18446744073709551616) : Go.bits .and .u64 x 1 = x % 2 := by
  have := bits_mask .u64 64 (by decide) wraps_u64 1 (by decide) x h0 (by rw [two64]; exact h1)
  simpa using this
theorem and_24 (x : Int) (h0 : 0 ≤ x) (h1 : x < 4294967296) : Go.bits .and .u32 x 16777215 = x % 16777216 := by
  have := bits_mask .u32 32 (by decide) (fun n a b => by have : (2:Int)^32 = 4294967296 := by decide
                                                         rw [this] at b; rw [IntKind.wrap_u32]; omega) 24 (by decide) x h0 (by have : (2:Int)^32 = 4294967296 := by decide
                                                                                                                               rw [this]; exact h1)
  simpa using this
theorem or_join (i : Nat) (x y : Int) (hx₀ : 0 ≤ x) (hx : x % 2 ^ i = 0) (hx₁ : x < 18446744073709551616) (hy₀ : 0 ≤ y) (hy : y < 2 ^ i) (hy₁ : y < 18446744073709551616) :
    Go.bits .or .u64 x y = x + y :=
  bits_join .u64 64 (by decide) wraps_u64 i x y hx₀ hx (by rw [two64]; exact hx₁) hy₀ hy (by rw [two64]; exact hy₁)
theorem or_comm (k : IntKind) (x y : Int) : Go.bits .or k x y = Go.bits .or k y x := by
  simp only [Go.bits, BitVec.or_comm]

/-- Zig and Zag, as numbers. -/
def zig (n : Int) : Int := if n < 0 then -2 * n - 1 else 2 * n
def zag (n : Int) : Int := if n % 2 = 0 then n / 2 else -(n / 2) - 1
theorem zig_is (n : Int) (h0 : -9223372036854775808 ≤ n) (h1 : n ≤ 9223372036854775807) :
    Go.bits .xor .u64 (IntKind.u64.wrap ((IntKind.u64.wrap (n)) * 2)) (IntKind.u64.wrap (n / 9223372036854775808)) = zig n := by
  unfold zig
  by_cases h : n < 0
  · rw [if_pos h, show n / 9223372036854775808 = -1 by omega, show IntKind.u64.wrap (-1) = 18446744073709551615 by rw [IntKind.wrap_u64]; decide,
      IntKind.wrap_u64, IntKind.wrap_u64, xor_ones _ (by omega) (by omega)]
    omega
  · rw [if_neg h, show n / 9223372036854775808 = 0 by omega, show IntKind.u64.wrap 0 = 0 by rw [IntKind.wrap_u64]; decide,
      IntKind.wrap_u64, IntKind.wrap_u64, xor_zero _ (by omega) (by omega)]
    omega
theorem wrap64_id (n : Int) (h0 : -9223372036854775808 ≤ n) (h1 : n ≤ 9223372036854775807) : wrap64 n = n := by unfold wrap64; omega
theorem zag_is (n : Int) (h0 : 0 ≤ n) (h1 : n < 18446744073709551616) :
    Go.bits .xor .i64 (wrap64 (n / 2)) (wrap64 (-(wrap64 (Go.bits .and .u64 n 1)))) = zag n := by
  unfold zag
  rw [and_one n h0 h1, wrap64_id (n / 2) (by omega) (by omega), wrap64_id (n % 2) (by omega) (by omega), wrap64_id (-(n % 2)) (by omega) (by omega)]
  by_cases h : n % 2 = 0
  · rw [if_pos h, h]; exact xor_zero_i _ (by omega) (by omega)
  · rw [if_neg h, show n % 2 = 1 by omega]; exact xor_ones_i _ (by omega) (by omega)
theorem zig_lo (n : Int) : 0 ≤ zig n := by unfold zig; split <;> omega
theorem zig_hi (n : Int) (h0 : -9223372036854775808 ≤ n) (h1 : n ≤ 9223372036854775807) : zig n < 18446744073709551616 := by unfold zig; split <;> omega
theorem zag_zig (n : Int) : zag (zig n) = n := by unfold zag zig; split <;> split <;> omega
theorem zig_zag (n : Int) (h0 : 0 ≤ n) : zig (zag n) = n := by unfold zag zig; split <;> split <;> omega
/-- Pack, as a number. -/
theorem pack_is (a b c : Int) (ha0 : 0 ≤ a) (ha1 : a < 4294967296) (hb0 : 0 ≤ b) (hb1 : b < 256) (hc0 : 0 ≤ c) (hc1 : c < 16777216) :
    Go.bits .or .u64 (Go.bits .or .u64 (IntKind.u64.wrap ((IntKind.u64.wrap (a)) * 4294967296)) (IntKind.u64.wrap ((IntKind.u64.wrap (c)) * 256))) (IntKind.u64.wrap (b)) = a * 4294967296 + c * 256 + b := by
  rw [IntKind.wrap_u64 a, show a % 18446744073709551616 = a by omega, IntKind.wrap_u64 (a * _), show (a * 4294967296) % 18446744073709551616 = a * 4294967296 by omega,
    IntKind.wrap_u64 c, show c % 18446744073709551616 = c by omega, IntKind.wrap_u64 (c * _), show (c * 256) % 18446744073709551616 = c * 256 by omega,
    IntKind.wrap_u64 b, show b % 18446744073709551616 = b by omega]
  have e32 : (2 : Int) ^ 32 = 4294967296 := by decide
  have e8 : (2 : Int) ^ 8 = 256 := by decide
  rw [or_join 32 (a * 4294967296) (c * 256) (by omega) (by rw [e32]; omega) (by omega) (by omega) (by rw [e32]; omega) (by omega),
    or_join 8 _ b (by omega) (by rw [e8]; omega) (by omega) hb0 (by rw [e8]; omega) (by omega)]
theorem u32_at (a : Int) (h : (Lit.int .u32 a).wf = true) : 0 ≤ a ∧ a < 4294967296 := by
  simp [Lit.wf, IntKind.min, IntKind.max, IntKind.signed, IntKind.bits] at h; omega
theorem u8_at (a : Int) (h : (Lit.int .u8 a).wf = true) : 0 ≤ a ∧ a < 256 := by
  simp [Lit.wf, IntKind.min, IntKind.max, IntKind.signed, IntKind.bits] at h; omega
theorem u64_at (a : Int) (h : (Lit.int .u64 a).wf = true) : 0 ≤ a ∧ a < 18446744073709551616 := by
  simp [Lit.wf, IntKind.min, IntKind.max, IntKind.signed, IntKind.bits] at h; omega
theorem i64_at (a : Int) (h : (Lit.int .i64 a).wf = true) : -9223372036854775808 ≤ a ∧ a ≤ 9223372036854775807 := by
  simp [Lit.wf, IntKind.min, IntKind.max, IntKind.signed, IntKind.bits] at h; omega
theorem i32_at (a : Int) (h : (Lit.int .i32 a).wf = true) : -2147483648 ≤ a ∧ a ≤ 2147483647 := by
  simp [Lit.wf, IntKind.min, IntKind.max, IntKind.signed, IntKind.bits] at h; omega
end Go.Proofs.Ytgmdoapedhppmaa.B

namespace Go.Proofs.Ytgmdoapedhppmaa.PC
set_option linter.unusedVariables false
set_option linter.unusedSimpArgs false
open Go.RowKit Go.Proofs.YtgmdoapedhppmaaW.PrintWords Go.Proofs.YtgmdoapedhppmaaW.PrintLast Go.Proofs.YtgmdoapedhppmaaW.PrintMore
attribute [local go_sem] max2_int min2_int max_two min_two max_three min_three max_four min_four
def takeChangesL (k : Nat) : Nat → S28 → List S50 → List Int → Option (Except Int (List S50 × List Int))
  | 0, _, acc, l => some (.ok (acc, l))
  | n + 1, last, acc, l => (takeKey k last l).bind fun q => match q with
    | .error c => some (.error c)
    | .ok (key, l1) => (takeN k 0 257 l1).bind fun q => match q with
      | .error c => some (.error c)
      | .ok (m, l2) => match takeB (mx (m - 1) 0) l2 with
        | .error c => some (.error c)
        | .ok (v, l3) => takeChangesL k n key (acc ++ [⟨key, m == 0, v⟩]) l3
def takeTxnsL (k : Nat) (N : Int) : Nat → Int → List S47 → List Int → Option (Except Int (List S47 × List Int))
  | 0, _, acc, l => some (.ok (acc, l))
  | n + 1, last, acc, l => (takeN k 0 4294967295 l).bind fun q => match q with
    | .error c => some (.error c)
    | .ok (tid, l1) => if last < tid then (takeN k 1 32 l1).bind fun q => match q with
        | .error c => some (.error c)
        | .ok (m, l2) => (takeChangesL k m.toNat ⟨0, ⟨#[]⟩⟩ [] l2).bind fun q => match q with
          | .error c => some (.error c)
          | .ok (cs, l3) => takeTxnsL k N n tid (acc ++ [⟨N * 4294967296 + tid, cs⟩]) l3
      else some (.error 3)
def takeEpoch (k : Nat) (l : List Int) : Option (Except Int ((Int × List S47) × List Int)) :=
  (takeN k 1 4294967295 l).bind fun q => match q with
    | .error c => some (.error c)
    | .ok (N, l1) => (takeN k 0 64 l1).bind fun q => match q with
      | .error c => some (.error c)
      | .ok (n, l2) => (takeTxnsL k N n.toNat (-1) [] l2).bind fun q => match q with
        | .error c => some (.error c)
        | .ok (xs, l3) => some (.ok ((N, xs), l3))
set_option maxRecDepth 100000 in
set_option maxHeartbeats 4000000 in
theorem epoch_calls (k : Nat) : EpochCalls (takeEpoch k) := by
  intro w0 w g l q hR hB hg hq
  have HR := Aside0.mk hR
  have HB0 := Aside0.mk hB
  have GL : Aside0 (g < w.heap.size) := ⟨by obtain ⟨_, _, hb, _⟩ := hR; exact blk_lt hb⟩
  obtain ⟨q1, hq1, hq2⟩ := Option.bind_eq_some_iff.1 (show (takeN k 1 4294967295 l).bind _ = some q from hq)
  have hgb : ∀ i, i = g → w0.heap.size ≤ i := fun i hi => by rw [hi]; exact hg
  have N1 := Aside0.mk hq1
  have N2 := Aside0.mk hq2
  clear hR hB hq hq1 hq2
  go_enter Try.func53, Try.ntmps53
  go_wp2_with (((with_reducible refine gate_dst (N := 2) rfl ?_); refine box_event ?hg (N := 2) ?hd (cs := #[.int .u32 0, .slice none 0 0]) (t := 25) ?hr ?_; (case hd => rfl); (case hg => rfl); (case hr => first | (go_simp; done) | (go_simp; rfl)); intro ge hge w1 hbox hb; have BE1 := Aside0.mk hbox; have HE := Aside0.mk hge; have HB1 := Aside0.mk hb; clear hb hbox hge))
  have hw1 : Aside0 (Below w0.heap.size w0 w1) := ⟨below_step HB0.out HB1.out⟩
  have hne1 : ¬ ge = g := by rw [HE.out]; have := GL.out; omega
  cases q1 with
  | error c =>
    obtain rfl : .error c = q := Option.some.inj N2.out
    refine (number_calls k 1 4294967295 _ w0 w1 g l (HR.out.stay (Stay.of_below (fun _ => False) HB1.out) id) hw1.out hg N1.out).mono ?_
    rintro e w2 ⟨ho, hs⟩
    obtain rfl := ho
    exact ⟨rfl, rfl, (Stay.of_below _ HB1.out).trans hs⟩
  | ok p1 =>
    obtain ⟨N, l1⟩ := p1
    have hn := takeN_ok N1.out (by decide) (by decide)
    refine (number_calls k 1 4294967295 _ w0 w1 g l (HR.out.stay (Stay.of_below (fun _ => False) HB1.out) id) hw1.out hg N1.out).mono ?_
    rintro e w2 ⟨⟨rfl, hr2⟩, hs⟩
    have R2 := Aside0.mk hr2
    have BE2 := Aside0.mk (hs.blk BE1.out hne1)
    have ST2 := Aside0.mk ((Stay.of_below (fun k => k = g) HB1.out).trans hs)
    obtain ⟨q2, hq1, hq2⟩ := Option.bind_eq_some_iff.1 (show (takeN k 0 64 l1).bind _ = some q from N2.out)
    clear hs hr2 N1 N2 BE1 HB1 hw1 HR
    have N1 := Aside0.mk hq1
    have N2 := Aside0.mk hq2
    clear hq1 hq2
    have hz0 : w2.cell? ⟨ge, 0, none⟩ = some (.int .u32 0) := (blk_cell BE2.out 0).trans rfl
    have hf0 := blk_frozen BE2.out 0
    obtain ⟨hn0, hn1⟩ := hn
    go_wp2_with fail
    have T3 : Aside0 (Stay (fun k => k = ge) w2 (w2.setCell ⟨ge, 0, none⟩ (.int .u32 N))) := ⟨(Stay.refl (fun k => k = ge) w2).set (.inl rfl) 0 _⟩
    have BE3 := Aside0.mk (blk_put (cs := #[.int .u32 0, .slice none 0 0]) BE2.out 0 (.int .u32 N) rfl)
    have R3 := Aside0.mk (R2.out.stay T3.out (fun e => hne1 e.symm))
    have ST3 : Aside0 (Stay (fun k => k = g) w (w2.setCell ⟨ge, 0, none⟩ (.int .u32 N))) := ⟨ST2.out.step T3.out (fun i hi => Or.inr (by rw [hi, HE.out]; exact Nat.le_refl _))⟩
    clear BE2 R2 ST2 T3 hz0 hf0
    generalize w2.setCell ⟨ge, 0, none⟩ (.int .u32 N) = w3 at BE3 R3 ST3 ⊢
    cases q2 with
    | error c =>
      obtain rfl : .error c = q := Option.some.inj N2.out
      refine (number_calls k 0 64 _ w0 w3 g l1 R3.out (ST3.out.below HB0.out hgb) hg N1.out).mono ?_
      rintro e w2 ⟨ho, hs⟩
      obtain rfl := ho
      exact ⟨rfl, rfl, ST3.out.trans hs⟩
    | ok p2 =>
    obtain ⟨n2, l2⟩ := p2
    have hm := takeN_ok N1.out (by decide) (by decide)
    obtain ⟨hm0, hm1⟩ := hm
    refine (number_calls k 0 64 _ w0 w3 g l1 R3.out (ST3.out.below HB0.out hgb) hg N1.out).mono ?_
    rintro e w4 ⟨⟨rfl, hr4⟩, hs⟩
    have R4 := Aside0.mk hr4
    have BE4 := Aside0.mk (hs.blk BE3.out hne1)
    have ST4 := Aside0.mk (ST3.out.trans hs)
    obtain ⟨q3, hq1, hq2⟩ := Option.bind_eq_some_iff.1 (show (takeTxnsL k N n2.toNat (-1) [] l2).bind _ = some q from N2.out)
    have TX := Aside0.mk hq1
    have FQ := Aside0.mk hq2
    clear hs hr4 BE3 R3 ST3 N1 N2 hq1 hq2
    go_wp2_with fail
    go_loopg [3, 15] n2.toNat (fun kq v3 v15 w' => ∃ (acc : List S47) (last : Int) (l' : List Int) (x15 : Int) (v : Value), v3 = .int .i64 last ∧ v15 = .int .i64 x15 ∧ Aside0 (n2 - x15 = (kq : Int)) ∧ 0 ≤ x15 ∧ x15 ≤ n2 ∧ -1 ≤ last ∧ last ≤ 4294967295 ∧ Aside0 (acc.length + kq ≤ 64) ∧ Aside0 (takeTxnsL k N kq last acc l' = some q3) ∧ Aside0 (Rd w0 w' g l') ∧ Aside0 (w'.heap[ge]? = some (.cells #[.int .u32 N, v] 25 (0, 0))) ∧ Aside0 (Kd.S k47 47 w' w.heap.size (fun _ => True) v acc) ∧ Aside0 (Stay (fun k => k = g) w w'))
    case atStart => exact ⟨[], -1, l2, 0, .slice none 0 0, rfl, rfl, ⟨by omega⟩, by omega, by omega, by omega, by omega, ⟨by simp; omega⟩, TX, R4, BE4, ⟨Kd.S_nil _ _ _ _ _⟩, ST4⟩
    case round =>
      clear TX R4 BE4 ST4
      obtain ⟨acc, last, l', x15, v, rfl, rfl, HX, hx0, hx1, hl0, hl1, HA, TX, R2, BE2, S2, ST2⟩ := hrel
      by_cases hp : x15 < n2
      · have dp : decide (x15 < n2) = true := decide_eq_true hp
        cases gk with
        | zero => exact absurd HX.out (by omega)
        | succ gk1 =>
          have H := TX.out
          clear TX
          simp only [takeTxnsL] at H
          obtain ⟨qk, hqk, H⟩ := Option.bind_eq_some_iff.1 H
          have QK := Aside0.mk hqk
          have Q3 := Aside0.mk H
          clear hqk H
          go_wp2_with fail
          cases qk with
          | error c =>
            obtain rfl : .error c = q3 := Option.some.inj Q3.out
            obtain rfl : .error c = q := Option.some.inj FQ.out
            refine (number_calls k 0 4294967295 _ w0 _ g l' R2.out (ST2.out.below HB0.out hgb) hg QK.out).mono ?_
            rintro e w3 ⟨ho, hs⟩
            obtain rfl := ho
            exact ⟨rfl, rfl, ST2.out.trans hs⟩
          | ok pk =>
          obtain ⟨tid, l1⟩ := pk
          obtain ⟨ht0, ht1⟩ := takeN_ok QK.out (by decide) (by decide)
          refine (number_calls k 0 4294967295 _ w0 _ g l' R2.out (ST2.out.below HB0.out hgb) hg QK.out).mono ?_
          rintro e w3 ⟨⟨rfl, hr3⟩, hs⟩
          have R3 := Aside0.mk hr3
          have BE3 := Aside0.mk (hs.blk BE2.out hne1)
          have S3 := Aside0.mk (S_stayT (by decide) S2.out R2.out hs)
          have ST3 := Aside0.mk (ST2.out.trans hs)
          clear R2 BE2 S2 ST2 hr3 hs QK
          go_wp2_with fail
          by_cases hlt : last < tid
          case neg =>
            have dl : decide (last < tid) = false := decide_eq_false hlt
            have H := Q3.out
            simp only [if_neg hlt] at H
            obtain rfl : .error 3 = q3 := Option.some.inj H
            obtain rfl : .error 3 = q := Option.some.inj FQ.out
            rw [dl]
            refine (must_calls false _).mono ?_
            rintro e w4 ⟨he, hb⟩
            rw [if_neg (by decide)] at he
            subst he
            exact ⟨rfl, rfl, ST3.out.trans (Stay.of_below _ hb)⟩
          have dl : decide (last < tid) = true := decide_eq_true hlt
          have H := Q3.out
          simp only [if_pos hlt] at H
          obtain ⟨qm, hqm, H⟩ := Option.bind_eq_some_iff.1 H
          have QM := Aside0.mk hqm
          have Q4 := Aside0.mk H
          clear hqm H Q3
          rw [dl]
          refine (must_calls true _).mono ?_
          rintro e w4 ⟨he, hb⟩
          rw [if_pos rfl] at he
          subst he
          have R4 := Aside0.mk (R3.out.stay (Stay.of_below (fun _ => False) hb) id)
          have BE4 := Aside0.mk (blk_below BE3.out hb)
          have S4 := Aside0.mk (Kd.S_below S3.out hb)
          have ST4 := Aside0.mk (ST3.out.trans (Stay.of_below _ hb))
          clear R3 BE3 S3 ST3 hb dl hlt
          have hz0 : w4.cell? ⟨ge, 0, none⟩ = some (.int .u32 N) := (blk_cell BE4.out 0).trans rfl
          have hf0 := blk_frozen BE4.out 0
          have hor : Go.bits .or .u64 (N * 4294967296) tid = N * 4294967296 + tid := by
            have e32 : (2 : Int) ^ 32 = 4294967296 := by decide
            exact B.or_join 32 (N * 4294967296) tid (by omega) (by rw [e32]; omega) (by omega) (by omega) (by rw [e32]; omega) (by omega)
          go_wp2_with (first | ((with_reducible refine gate_dst (N := 5) rfl ?_); refine box_event ?hg (N := 5) ?hd (cs := #[.int .u64 0, .slice none 0 0]) (t := 47) ?hr ?_; (case hd => rfl); (case hg => rfl); (case hr => first | (go_simp; done) | (go_simp; rfl)); intro gt hgt w5 hbox hb; have BT5 := Aside0.mk hbox; have HGT := Aside0.mk hgt; have HB5 := Aside0.mk hb; have hz10 := (blk_cell hbox 0).trans rfl; have hz11 := (blk_cell hbox 1).trans rfl; have hf10 := blk_frozen hbox 0; have hf11 := blk_frozen hbox 1; clear hb hbox hgt) | ((with_reducible refine gate_dst (N := 6) rfl ?_); refine box_event ?hg (N := 6) ?hd (cs := #[.int .u8 0, .string (⟨#[]⟩ : ByteArray)]) (t := 28) ?hr ?_; (case hd => rfl); (case hg => rfl); (case hr => first | (go_simp; done) | (go_simp; rfl)); intro gh hgh w6 hbox hb; have BH6 := Aside0.mk hbox; have HGH := Aside0.mk hgh; have HB6 := Aside0.mk hb; clear hb hbox hgh))
          have T5 : Aside0 (Stay (fun k => k = gt) w5 ((w5.setCell ⟨gt, 0, none⟩ (.int .u64 (N * 4294967296 + tid))).setCell ⟨gt, 1, none⟩ (.slice none 0 0))) := ⟨((Stay.refl (fun k => k = gt) w5).set (.inl rfl) 0 _).set (.inl rfl) 1 _⟩
          obtain ⟨H0, hH0⟩ : ∃ n, n = w4.heap.size := ⟨_, rfl⟩
          have GT0 : Aside0 (gt = H0) := ⟨by rw [HGT.out, hH0]⟩
          have WH0 : Aside0 (w.heap.size ≤ H0) := ⟨by rw [hH0]; exact ST4.out.size⟩
          have GE0 : Aside0 (ge < H0) := ⟨by rw [hH0]; exact blk_lt BE4.out⟩
          have GG0 : Aside0 (g < H0) := ⟨by have := GL.out; have := WH0.out; omega⟩
          have S5 : Aside0 (Kd.S k47 47 w5 w.heap.size (fun k => k < H0) v acc) := ⟨Kd.S_mono (Kd.S_old S4.out HB5.out) (fun k hk => by rw [hH0]; exact hk.2)⟩
          have S5b : Aside0 (Kd.S k47 47 ((w5.setCell ⟨gt, 0, none⟩ (.int .u64 (N * 4294967296 + tid))).setCell ⟨gt, 1, none⟩ (.slice none 0 0)) w.heap.size (fun k => k < H0) v acc) := ⟨Kd.S_far (p := ⟨gt, 1, none⟩) (Kd.S_far (p := ⟨gt, 0, none⟩) S5.out (fun k hk e => by have := GT0.out; have e : k = gt := e; omega) _) (fun k hk e => by have := GT0.out; have e : k = gt := e; omega) _⟩
          have R5 := Aside0.mk ((R4.out.stay (Stay.of_below (fun _ => False) HB5.out) id).stay T5.out (fun e => by have := GG0.out; have := GT0.out; omega))
          have BE5 := Aside0.mk (T5.out.blk (blk_below BE4.out HB5.out) (by have := GE0.out; have := GT0.out; omega))
          have BT5b := Aside0.mk (blk_put (cs := #[.int .u64 (N * 4294967296 + tid), .slice none 0 0]) (blk_put (cs := #[.int .u64 0, .slice none 0 0]) BT5.out 0 (.int .u64 (N * 4294967296 + tid)) rfl) 1 (.slice none 0 0) rfl)
          have ST5 := Aside0.mk ((ST4.out.trans (Stay.of_below _ HB5.out)).step T5.out (fun i hi => Or.inr (by rw [hi, GT0.out]; exact WH0.out)))
          have SZ5 : Aside0 (H0 < w5.heap.size) := ⟨by have := blk_lt BT5.out; have := GT0.out; omega⟩
          have SZ5b : Aside0 (H0 < ((w5.setCell ⟨gt, 0, none⟩ (.int .u64 (N * 4294967296 + tid))).setCell ⟨gt, 1, none⟩ (.slice none 0 0)).heap.size) := ⟨Nat.lt_of_lt_of_le SZ5.out T5.out.size⟩
          clear hz0 hf0 hz10 hz11 hf10 hf11 S4 S5 R4 BE4 BT5 ST4 HB5 T5 hH0 HGT hor SZ5
          generalize (w5.setCell ⟨gt, 0, none⟩ (.int .u64 (N * 4294967296 + tid))).setCell ⟨gt, 1, none⟩ (.slice none 0 0) = w5b at S5b R5 BE5 BT5b ST5 SZ5b HB6 HGH ⊢
          have GH0 : Aside0 (H0 < gh) := ⟨by rw [HGH.out]; exact SZ5b.out⟩
          have S6 := Aside0.mk (Kd.S_below S5b.out HB6.out)
          have R6 := Aside0.mk (R5.out.stay (Stay.of_below (fun _ => False) HB6.out) id)
          have BE6 := Aside0.mk (blk_below BE5.out HB6.out)
          have BT6 := Aside0.mk (blk_below BT5b.out HB6.out)
          have ST6 := Aside0.mk (ST5.out.trans (Stay.of_below _ HB6.out))
          have hneh : ¬ gh = g := by have := GH0.out; have := GG0.out; omega
          clear S5b R5 BE5 BT5b ST5 SZ5b HB6 HGH
          cases qm with
          | error c =>
            obtain rfl : .error c = q3 := Option.some.inj Q4.out
            obtain rfl : .error c = q := Option.some.inj FQ.out
            refine (number_calls k 1 32 _ w0 _ g l1 R6.out (ST6.out.below HB0.out hgb) hg QM.out).mono ?_
            rintro e w3 ⟨ho, hs⟩
            obtain rfl := ho
            exact ⟨rfl, rfl, ST6.out.trans hs⟩
          | ok pm =>
          obtain ⟨m, l2⟩ := pm
          obtain ⟨hmm0, hmm1⟩ := takeN_ok QM.out (by decide) (by decide)
          refine (number_calls k 1 32 _ w0 _ g l1 R6.out (ST6.out.below HB0.out hgb) hg QM.out).mono ?_
          rintro e w7 ⟨⟨rfl, hr7⟩, hs⟩
          have R7 := Aside0.mk hr7
          have BE7 := Aside0.mk (hs.blk BE6.out hne1)
          have BT7 := Aside0.mk (hs.blk BT6.out (by have := GG0.out; have := GT0.out; omega))
          have BH7 := Aside0.mk (hs.blk BH6.out hneh)
          have S7 := Aside0.mk (S_stayT (by decide) S6.out R6.out hs)
          have ST7 := Aside0.mk (ST6.out.trans hs)
          clear R6 BE6 S6 ST6 BT6 BH6 hr7 hs QM
          obtain ⟨qc, hqc, H⟩ := Option.bind_eq_some_iff.1 (show (takeChangesL k m.toNat ⟨0, ⟨#[]⟩⟩ [] l2).bind _ = some q3 from Q4.out)
          have QC := Aside0.mk hqc
          have Q5 := Aside0.mk H
          clear hqc H Q4
          go_wp2_with fail
          obtain ⟨wo, hwo⟩ : ∃ wo : World, wo = wr := ⟨_, rfl⟩
          clear hwo
          go_loopg [34] m.toNat (fun kq v34 w' => ∃ (cs : List S50) (last2 : S28) (l' : List Int) (x34 : Int) (vc : Value), v34 = .int .i64 x34 ∧ Aside0 (m - x34 = (kq : Int)) ∧ 0 ≤ x34 ∧ x34 ≤ m ∧ Aside0 (cs.length + kq ≤ 32) ∧ Aside0 (takeChangesL k kq last2 cs l' = some qc) ∧ Aside0 (Rd w0 w' g l') ∧ Aside0 (w'.heap[ge]? = some (.cells #[.int .u32 N, v] 25 (0, 0))) ∧ Aside0 (w'.heap[gt]? = some (.cells #[.int .u64 (N * 4294967296 + tid), vc] 47 (0, 0))) ∧ Aside0 (w'.heap[gh]? = some (keyCells last2)) ∧ Aside0 (Kd.S k50 50 w' H0 (fun _ => True) vc cs) ∧ Aside0 (Kd.S k47 47 w' w.heap.size (fun k => k < H0) v acc) ∧ Aside0 (Stay (fun k => k = g) w w'))
          case atStart => exact ⟨[], ⟨0, ⟨#[]⟩⟩, l2, 0, .slice none 0 0, rfl, ⟨by omega⟩, by omega, by omega, ⟨by simp; omega⟩, QC, R7, BE7, BT7, BH7, ⟨Kd.S_nil _ _ _ _ _⟩, S7, ST7⟩
          case round =>
            clear QC R7 BE7 BT7 BH7 S7 ST7
            obtain ⟨cs, last2, l', x34, vc, rfl, HX2, hx20, hx21, HA2, QC, R2, BE2, BT2, BH2, SC2, S2, ST2⟩ := hrel
            by_cases hp2 : x34 < m
            · have dp2 : decide (x34 < m) = true := decide_eq_true hp2
              cases gk with
              | zero => exact absurd HX2.out (by omega)
              | succ gk2 =>
                have H := QC.out
                clear QC
                simp only [takeChangesL] at H
                obtain ⟨qk, hqk, H⟩ := Option.bind_eq_some_iff.1 H
                have QK := Aside0.mk hqk
                have Q6 := Aside0.mk H
                clear hqk H
                go_wp2_with fail
                cases qk with
                | error c =>
                  obtain rfl : .error c = qc := Option.some.inj Q6.out
                  obtain rfl : .error c = q3 := Option.some.inj Q5.out
                  obtain rfl : .error c = q := Option.some.inj FQ.out
                  refine (key_calls k last2 _ w0 _ g gh l' R2.out (ST2.out.below HB0.out hgb) hg (by have := GH0.out; have := WH0.out; have := HB0.out.size; omega) hneh BH2.out QK.out).mono ?_
                  rintro e w3 ⟨ho, hs, _⟩
                  obtain rfl := ho
                  exact ⟨rfl, rfl, ST2.out.step hs (fun i hi => hi.elim Or.inl (fun e => Or.inr (by have := GH0.out; have := WH0.out; omega)))⟩
                | ok pk =>
                obtain ⟨key, l1⟩ := pk
                refine (key_calls k last2 _ w0 _ g gh l' R2.out (ST2.out.below HB0.out hgb) hg (by have := GH0.out; have := WH0.out; have := HB0.out.size; omega) hneh BH2.out QK.out).mono ?_
                rintro e w8 ⟨⟨rfl, hr8⟩, hs, hl8⟩
                have R8 := Aside0.mk hr8
                have BE8 := Aside0.mk (hs.blk BE2.out (fun e => e.elim hne1 (fun e => by have := GE0.out; have := GH0.out; omega)))
                have BT8 := Aside0.mk (hs.blk BT2.out (fun e => e.elim (fun e => by have := GG0.out; have := GT0.out; omega) (fun e => by have := GT0.out; have := GH0.out; omega)))
                have BH8 := Aside0.mk (hl8 _ rfl)
                have SC8 := Aside0.mk (S_stay2T (by decide) (by decide) SC2.out R2.out BH2.out hs)
                have S8 := Aside0.mk (S_stay2T (by decide) (by decide) S2.out R2.out BH2.out hs)
                have ST8 : Aside0 (Stay (fun k => k = g) w w8) := ⟨ST2.out.step hs (fun i hi => hi.elim Or.inl (fun e => Or.inr (by have := GH0.out; have := WH0.out; omega)))⟩
                have SZ8 : Aside0 (gh < w8.heap.size) := ⟨blk_lt BH8.out⟩
                clear R2 BE2 BT2 BH2 SC2 S2 ST2 hr8 hs hl8 QK
                go_wp2_with (((with_reducible refine gate_dst (N := 7) rfl ?_); refine box_event ?hg (N := 7) ?hd (cs := #[.int .u8 0, .string (⟨#[]⟩ : ByteArray), .bool false, .string (⟨#[]⟩ : ByteArray)]) (t := 50) ?hr ?_; (case hd => rfl); (case hg => rfl); (case hr => first | (go_simp; done) | (go_simp; rfl)); intro gc hgc w9 hbox hb; have BC9 := Aside0.mk hbox; have HGC := Aside0.mk hgc; have HB9 := Aside0.mk hb; have hz0 := (blk_cell hbox 0).trans rfl; have hz1 := (blk_cell hbox 1).trans rfl; have hz2 := (blk_cell hbox 2).trans rfl; have hz3 := (blk_cell hbox 3).trans rfl; have hf0 := blk_frozen hbox 0; have hf1 := blk_frozen hbox 1; have hf2 := blk_frozen hbox 2; have hf3 := blk_frozen hbox 3; clear hb hbox hgc))
                have T9 : Aside0 (Stay (fun k => k = gc) w9 ((((w9.setCell ⟨gc, 0, none⟩ (.int .u8 key.f0)).setCell ⟨gc, 1, none⟩ (.string key.f1)).setCell ⟨gc, 2, none⟩ (.bool false)).setCell ⟨gc, 3, none⟩ (.string (⟨#[]⟩ : ByteArray)))) := ⟨((((Stay.refl (fun k => k = gc) w9).set (.inl rfl) 0 _).set (.inl rfl) 1 _).set (.inl rfl) 2 _).set (.inl rfl) 3 _⟩
                have BC10 := Aside0.mk (blk_put (cs := #[.int .u8 key.f0, .string key.f1, .bool false, .string (⟨#[]⟩ : ByteArray)]) (blk_put (cs := #[.int .u8 key.f0, .string key.f1, .bool false, .string (⟨#[]⟩ : ByteArray)]) (blk_put (cs := #[.int .u8 key.f0, .string (⟨#[]⟩ : ByteArray), .bool false, .string (⟨#[]⟩ : ByteArray)]) (blk_put (cs := #[.int .u8 0, .string (⟨#[]⟩ : ByteArray), .bool false, .string (⟨#[]⟩ : ByteArray)]) BC9.out 0 (.int .u8 key.f0) rfl) 1 (.string key.f1) rfl) 2 (.bool false) rfl) 3 (.string (⟨#[]⟩ : ByteArray)) rfl)
                have GC0 : Aside0 (gh < gc) := ⟨by rw [HGC.out]; exact SZ8.out⟩
                have SC9 := Aside0.mk (Kd.S_below (Kd.S_elderB SC8.out gc (by rw [HGC.out]; exact Nat.le_refl _)) HB9.out)
                have SC10 : Aside0 (Kd.S k50 50 ((((w9.setCell ⟨gc, 0, none⟩ (.int .u8 key.f0)).setCell ⟨gc, 1, none⟩ (.string key.f1)).setCell ⟨gc, 2, none⟩ (.bool false)).setCell ⟨gc, 3, none⟩ (.string (⟨#[]⟩ : ByteArray))) H0 (fun k => True ∧ k ≠ gc) vc cs) := ⟨S_stay SC9.out T9.out (fun k hk e => hk.2 e)⟩
                have S10 := Aside0.mk (S_stay (Kd.S_below S8.out HB9.out) T9.out (fun k hk e => by have := GC0.out; have := GH0.out; omega))
                have R10 := Aside0.mk ((R8.out.stay (Stay.of_below (fun _ => False) HB9.out) id).stay T9.out (fun e => by have := GC0.out; have := GH0.out; have := GG0.out; omega))
                have BE10 := Aside0.mk (T9.out.blk (blk_below BE8.out HB9.out) (by have := GC0.out; have := GH0.out; have := GE0.out; omega))
                have BT10 := Aside0.mk (T9.out.blk (blk_below BT8.out HB9.out) (by have := GC0.out; have := GH0.out; have := GT0.out; omega))
                have BH10 := Aside0.mk (T9.out.blk (blk_below BH8.out HB9.out) (by have := GC0.out; omega))
                have ST10 := Aside0.mk ((ST8.out.trans (Stay.of_below _ HB9.out)).step T9.out (fun i hi => Or.inr (by have := GC0.out; have := GH0.out; have := WH0.out; omega)))
                have hnec : ¬ gc = g := by have := GC0.out; have := GH0.out; have := GG0.out; omega
                clear hz0 hz1 hz2 hz3 hf0 hf1 hf2 hf3 SC8 SC9 S8 R8 BE8 BT8 BH8 ST8 SZ8 T9 BC9 HGC HB9
                generalize (((w9.setCell ⟨gc, 0, none⟩ (.int .u8 key.f0)).setCell ⟨gc, 1, none⟩ (.string key.f1)).setCell ⟨gc, 2, none⟩ (.bool false)).setCell ⟨gc, 3, none⟩ (.string (⟨#[]⟩ : ByteArray)) = w10 at BC10 SC10 S10 R10 BE10 BT10 BH10 ST10 ⊢
                obtain ⟨qn, hqn, H⟩ := Option.bind_eq_some_iff.1 (show (takeN k 0 257 l1).bind _ = some qc from Q6.out)
                have QN := Aside0.mk hqn
                have Q7 := Aside0.mk H
                clear hqn H Q6
                cases qn with
                | error c =>
                  obtain rfl : .error c = qc := Option.some.inj Q7.out
                  obtain rfl : .error c = q3 := Option.some.inj Q5.out
                  obtain rfl : .error c = q := Option.some.inj FQ.out
                  refine (number_calls k 0 257 _ w0 _ g l1 R10.out (ST10.out.below HB0.out hgb) hg QN.out).mono ?_
                  rintro e w3 ⟨ho, hs⟩
                  obtain rfl := ho
                  exact ⟨rfl, rfl, ST10.out.trans hs⟩
                | ok pn =>
                obtain ⟨n, l2⟩ := pn
                obtain ⟨hnn0, hnn1⟩ := takeN_ok QN.out (by decide) (by decide)
                refine (number_calls k 0 257 _ w0 _ g l1 R10.out (ST10.out.below HB0.out hgb) hg QN.out).mono ?_
                rintro e w11 ⟨⟨rfl, hr11⟩, hs⟩
                have R11 := Aside0.mk hr11
                have BC11 := Aside0.mk (hs.blk BC10.out hnec)
                have BE11 := Aside0.mk (hs.blk BE10.out hne1)
                have BT11 := Aside0.mk (hs.blk BT10.out (by have := GG0.out; have := GT0.out; omega))
                have BH11 := Aside0.mk (hs.blk BH10.out hneh)
                have SC11 := Aside0.mk (S_stayT (by decide) SC10.out R10.out hs)
                have S11 := Aside0.mk (S_stayT (by decide) S10.out R10.out hs)
                have ST11 := Aside0.mk (ST10.out.trans hs)
                clear R10 BC10 BE10 S10 SC10 ST10 BT10 BH10 hr11 hs QN
                have hz2 : w11.cell? ⟨gc, 2, none⟩ = some (.bool false) := (blk_cell BC11.out 2).trans rfl
                have hf2 := blk_frozen BC11.out 2
                have T11 : Aside0 (Stay (fun k => k = gc) w11 (w11.setCell ⟨gc, 2, none⟩ (.bool (n == 0)))) := ⟨(Stay.refl (fun k => k = gc) w11).set (.inl rfl) 2 _⟩
                have BC12 := Aside0.mk (blk_put (cs := #[.int .u8 key.f0, .string key.f1, .bool false, .string (⟨#[]⟩ : ByteArray)]) BC11.out 2 (.bool (n == 0)) rfl)
                have SC12 := Aside0.mk (S_stay SC11.out T11.out (fun k hk e => hk.2 e))
                have S12 := Aside0.mk (S_stay S11.out T11.out (fun k hk e => by have := GC0.out; have := GH0.out; omega))
                have R12 := Aside0.mk (R11.out.stay T11.out (fun e => hnec e.symm))
                have BE12 := Aside0.mk (T11.out.blk BE11.out (by have := GC0.out; have := GH0.out; have := GE0.out; omega))
                have BT12 := Aside0.mk (T11.out.blk BT11.out (by have := GC0.out; have := GH0.out; have := GT0.out; omega))
                have BH12 := Aside0.mk (T11.out.blk BH11.out (by have := GC0.out; omega))
                have ST12 : Aside0 (Stay (fun k => k = g) w (w11.setCell ⟨gc, 2, none⟩ (.bool (n == 0)))) := ⟨ST11.out.step T11.out (fun i hi => Or.inr (by have := GC0.out; have := GH0.out; have := WH0.out; omega))⟩
                have TB1 : Aside0 (1 ≤ n → mx (n - 1) 0 = n - 1) := ⟨fun h => by unfold mx; rw [if_neg (by omega)]⟩
                have TB0 : Aside0 (n < 1 → mx (n - 1) 0 = 0) := ⟨fun h => by unfold mx; rw [if_pos (by omega)]⟩
                have Q8a : ∀ qb, qb = takeB (mx (n - 1) 0) l2 → (match qb with | .error c => some (.error c) | .ok (v, l3) => takeChangesL k gk2 key (cs ++ [⟨key, n == 0, v⟩]) l3) = some qc := by rintro _ rfl; exact Q7.out
                obtain ⟨qb, hqb⟩ : ∃ qb, qb = takeB (mx (n - 1) 0) l2 := ⟨_, rfl⟩
                have Q8 := Aside0.mk (Q8a qb hqb)
                clear Q8a
                have QB := Aside0.mk hqb
                clear hqb Q7 R11 BC11 BE11 BT11 BH11 SC11 S11 ST11 T11
                go_wp2_with fail
                all_goals
                  clear hz2 hf2
                  generalize w11.setCell ⟨gc, 2, none⟩ (.bool (n == 0)) = w12 at R12 BC12 BE12 BT12 BH12 SC12 S12 ST12 ⊢
                  refine (bytes_calls _ (by omega) w0 _ g l2 R12.out (ST12.out.below HB0.out hgb) hg).mono ?_
                  rintro e w13 ⟨ho, hs⟩
                  replace ho : Out w0 g Value.string qb e w13 := by (rw [QB.out]; first | (rw [TB1.out (by omega)]; exact ho) | (rw [TB0.out (by omega)]; exact ho))
                  have HS := Aside0.mk hs
                  clear hs
                  cases qb with
                  | error c =>
                    obtain rfl : .error c = qc := Option.some.inj Q8.out
                    obtain rfl : .error c = q3 := Option.some.inj Q5.out
                    obtain rfl : .error c = q := Option.some.inj FQ.out
                    obtain rfl := ho
                    exact ⟨rfl, rfl, ST12.out.trans HS.out⟩
                  | ok pb =>
                  obtain ⟨vl, l3⟩ := pb
                  obtain ⟨rfl, hr13⟩ := ho
                  have R13 := Aside0.mk hr13
                  have BC13 := Aside0.mk (HS.out.blk BC12.out hnec)
                  have BE13 := Aside0.mk (HS.out.blk BE12.out hne1)
                  have BT13 := Aside0.mk (HS.out.blk BT12.out (by have := GG0.out; have := GT0.out; omega))
                  have BH13 := Aside0.mk (HS.out.blk BH12.out hneh)
                  have SC13 := Aside0.mk (S_stayT (by decide) SC12.out R12.out HS.out)
                  have S13 := Aside0.mk (S_stayT (by decide) S12.out R12.out HS.out)
                  have ST13 := Aside0.mk (ST12.out.trans HS.out)
                  clear R12 BC12 BE12 S12 SC12 ST12 BT12 BH12 hr13 HS QB TB0 TB1
                  have Q9 : Aside0 (takeChangesL k gk2 key (cs ++ [⟨key, n == 0, vl⟩]) l3 = some qc) := ⟨Q8.out⟩
                  have T13 : Aside0 (Stay (fun k => k = gc) w13 (w13.setCell ⟨gc, 3, none⟩ (.string vl))) := ⟨(Stay.refl (fun k => k = gc) w13).set (.inl rfl) 3 _⟩
                  have BC14 := Aside0.mk (blk_put (cs := #[.int .u8 key.f0, .string key.f1, .bool (n == 0), .string (⟨#[]⟩ : ByteArray)]) BC13.out 3 (.string vl) rfl)
                  have SC14 := Aside0.mk (S_stay SC13.out T13.out (fun k hk e => hk.2 e))
                  have S14 := Aside0.mk (S_stay S13.out T13.out (fun k hk e => by have := GC0.out; have := GH0.out; omega))
                  have R14 := Aside0.mk (R13.out.stay T13.out (fun e => hnec e.symm))
                  have BE14 := Aside0.mk (T13.out.blk BE13.out (by have := GC0.out; have := GH0.out; have := GE0.out; omega))
                  have BT14 := Aside0.mk (T13.out.blk BT13.out (by have := GC0.out; have := GH0.out; have := GT0.out; omega))
                  have BH14 := Aside0.mk (T13.out.blk BH13.out (by have := GC0.out; omega))
                  have ST14 : Aside0 (Stay (fun k => k = g) w (w13.setCell ⟨gc, 3, none⟩ (.string vl))) := ⟨ST13.out.step T13.out (fun i hi => Or.inr (by have := GC0.out; have := GH0.out; have := WH0.out; omega))⟩
                  have hz3 : w13.cell? ⟨gc, 3, none⟩ = some (.string (⟨#[]⟩ : ByteArray)) := (blk_cell BC13.out 3).trans rfl
                  have hf3 := blk_frozen BC13.out 3
                  clear R13 BC13 BE13 BT13 BH13 SC13 S13 ST13 T13 Q8
                  go_upto_region 16 with (fail)
                  clear hz3 hf3
                  generalize w13.setCell ⟨gc, 3, none⟩ (.string vl) = w14 at BC14 SC14 S14 R14 BE14 BT14 BH14 ST14 ⊢
                  have hzt1 : w14.cell? ⟨gt, 1, none⟩ = some vc := (blk_cell BT14.out 1).trans rfl
                  have hzc0 : w14.cell? ⟨gc, 0, none⟩ = some (.int .u8 key.f0) := (blk_cell BC14.out 0).trans rfl
                  have hzc1 : w14.cell? ⟨gc, 1, none⟩ = some (.string key.f1) := (blk_cell BC14.out 1).trans rfl
                  have hzc2 : w14.cell? ⟨gc, 2, none⟩ = some (.bool (n == 0)) := (blk_cell BC14.out 2).trans rfl
                  have hzc3 : w14.cell? ⟨gc, 3, none⟩ = some (.string vl) := (blk_cell BC14.out 3).trans rfl
                  go_wp2_with ((with_reducible refine gate_builtin (b := .append) (xs := #[.tmp 51, .tmp 53]) rfl ?_); at_builtin; refine Kd.S_append k50 (w0 := w14) H0 rfl (.tmp 51) (.tmp 53) 45 50 (.agg #[(.int .u8 0), (.string ⟨#[]⟩), (.bool false), (.string ⟨#[]⟩)]) 48 rfl Try.underlying45 info50 rfl (by decide) (by omega) vc cs (⟨key, n == 0, vl⟩ : S50) [.int .u8 key.f0, .string key.f1, .bool (n == 0), .string vl] (fun _ => True) (fun _ => False) rfl rfl ?aP (fun _ hk => hk.elim) ?aF ?aO ?aB ?aS ?aL ?_; (case aP => exact k50_mkM _ _ _ _); (case aF => exact (fun _ _ => trivial)); (case aO => exact Kd.S_mono SC14.out (fun _ _ => ⟨trivial, fun h => h⟩)); (case aB => exact Below.refl _ _); (case aS => exact Nat.le_of_lt (Nat.lt_trans GH0.out (blk_lt BH14.out))); (case aL => have := HA2.out; omega); intro v15 w15 ho hb hgw hat; have SC15 := Aside0.mk ho; have HGW := Aside0.mk hgw; clear ho hb hgw hat; have hzt1 : w15.cell? ⟨gt, 1, none⟩ = some vc := (blk_cell ((Stay.of_grown HGW.out).blk BT14.out (Kd.S_ne SC14.out BT14.out (by decide))) 1).trans rfl; have hft1 := blk_frozen ((Stay.of_grown HGW.out).blk BT14.out (Kd.S_ne SC14.out BT14.out (by decide))) 1; (obtain ⟨cs2, hcs2⟩ : ∃ c, c = cs ++ [(⟨key, n == 0, vl⟩ : S50)] := ⟨_, rfl⟩); rw [← hcs2] at SC15 Q9; have HC2 : Aside0 (cs2.length = cs.length + 1) := ⟨by rw [hcs2, List.length_append]; rfl⟩; clear hcs2; obtain ⟨A15, c15, rfl⟩ := Kd.S_slice SC15.out)
                  have G15 := Aside0.mk (Stay.of_grown HGW.out)
                  have hsb : Aside0 (∀ i, some i = vc.ownBlock → H0 ≤ i) := ⟨fun i hi => Kd.S_base SC14.out i hi.symm⟩
                  have S15 := Aside0.mk (S_stay S14.out G15.out (fun k hk e => by have := hsb.out k e; omega))
                  have R15 := Aside0.mk (R14.out.stay G15.out (by obtain ⟨A, c, hb, _⟩ := R14.out; exact Kd.S_ne SC14.out hb (by decide)))
                  have BE15 := Aside0.mk (G15.out.blk BE14.out (Kd.S_ne SC14.out BE14.out (by decide)))
                  have BT15 := Aside0.mk (G15.out.blk BT14.out (Kd.S_ne SC14.out BT14.out (by decide)))
                  have BH15 := Aside0.mk (G15.out.blk BH14.out (Kd.S_ne SC14.out BH14.out (by decide)))
                  have ST15 := Aside0.mk (ST14.out.step G15.out (fun i hi => Or.inr (by have := hsb.out i hi; have := WH0.out; omega)))
                  clear S14 R14 BE14 BT14 BH14 ST14 SC14 BC14 hsb HGW G15
                  have T15 : Aside0 (Stay (fun k => k = gt) w15 (w15.setCell ⟨gt, 1, none⟩ (.slice A15 cs2.length c15))) := ⟨(Stay.refl (fun k => k = gt) w15).set (.inl rfl) 1 _⟩
                  have SC16 := Aside0.mk (Kd.S_set SC15.out BT15.out (by decide) 1 (.slice A15 cs2.length c15))
                  have S16 := Aside0.mk (S_stay S15.out T15.out (fun k hk e => by have := GT0.out; omega))
                  have R16 := Aside0.mk (R15.out.stay T15.out (fun e => by have := GG0.out; have := GT0.out; omega))
                  have BE16 := Aside0.mk (T15.out.blk BE15.out (by have := GT0.out; have := GE0.out; omega))
                  have BT16 := Aside0.mk (blk_put (cs := #[.int .u64 (N * 4294967296 + tid), vc]) BT15.out 1 (.slice A15 cs2.length c15) rfl)
                  have BH16 := Aside0.mk (T15.out.blk BH15.out (by have := GH0.out; have := GT0.out; omega))
                  have ST16 := Aside0.mk (ST15.out.step T15.out (fun i hi => Or.inr (by have := GT0.out; have := WH0.out; omega)))
                  clear S15 R15 BE15 BT15 BH15 ST15 SC15 T15 hzt1 hft1 hzc0 hzc1 hzc2 hzc3
                  generalize w15.setCell ⟨gt, 1, none⟩ (.slice A15 cs2.length c15) = w16 at SC16 S16 R16 BE16 BT16 BH16 ST16 ⊢
                  go_wp2_with fail
                  go_roundg gk2
                  case measure => omega
                  case rel => exact ⟨cs2, key, l3, x34 + 1, .slice A15 cs2.length c15, rfl, ⟨by have := HX2.out; omega⟩, by omega, by omega, ⟨by have := HA2.out; have := HC2.out; omega⟩, Q9, R16, BE16, BT16, BH16, SC16, S16, ST16⟩
            · have dp2 : decide (x34 < m) = false := decide_eq_false hp2
              have hk0 : gk = 0 := by have := HX2.out; omega
              subst hk0
              have H := QC.out
              simp only [takeChangesL] at H
              obtain rfl := Option.some.inj H
              have Q6 : Aside0 (takeTxnsL k N gk1 tid (acc ++ [⟨N * 4294967296 + tid, cs⟩]) l' = some q3) := ⟨Q5.out⟩
              clear QC H Q5
              obtain ⟨Ac, cc, rfl⟩ := Kd.S_slice SC2.out
              have hgw : wr.heap[gt]? = some (.cells #[.int .u64 (N * 4294967296 + tid), .slice Ac cs.length cc] 47 (0, 0)) := BT2.out
              have hze1 : wr.cell? ⟨ge, 1, none⟩ = some v := (blk_cell BE2.out 1).trans rfl
              have hzt0 : wr.cell? ⟨gt, 0, none⟩ = some (.int .u64 (N * 4294967296 + tid)) := (blk_cell BT2.out 0).trans rfl
              have hzt1 : wr.cell? ⟨gt, 1, none⟩ = some (.slice Ac cs.length cc) := (blk_cell BT2.out 1).trans rfl
              have HVL : Aside0 (∀ k, v.ownBlock = some k → k < H0) := ⟨(Kd.S_R S2.out).1⟩
              clear hgw
              go_wp2_with ((with_reducible refine gate_builtin (b := .append) (xs := #[.tmp 58, .tmp 60]) rfl ?_); at_builtin; refine Kd.S_append k47 (w0 := wr) w.heap.size rfl (.tmp 58) (.tmp 60) 23 47 (.agg #[(.int .u64 0), (.slice none 0 0)]) 32 rfl Try.underlying23 info47 rfl (by decide) (by omega) v acc (⟨N * 4294967296 + tid, cs⟩ : S47) [.int .u64 (N * 4294967296 + tid), .slice Ac cs.length cc] (fun _ => True) (fun k => H0 ≤ k) rfl rfl ?aP ?aK ?aF ?aO ?aB ?aS ?aL ?_; (case aP => exact k47_mkM _ _ _ _ (Kd.R_lower (Kd.R_mono (Kd.R_bound (Kd.S_R SC2.out)) (fun k hk => hk.2.1)) WH0.out)); (case aK => exact (fun k hk => ⟨trivial, fun e => by have := HVL.out k e.symm; omega⟩)); (case aF => exact (fun _ _ => trivial)); (case aO => exact Kd.S_mono S2.out (fun k hk => ⟨trivial, by omega⟩)); (case aB => exact Below.refl _ _); (case aS => exact ST2.out.size); (case aL => have := HA.out; omega); intro v17 w17 ho hb hgw hat; have S17 := Aside0.mk ho; have HGW := Aside0.mk hgw; clear ho hb hgw hat; have hze1 : w17.cell? ⟨ge, 1, none⟩ = some v := (blk_cell ((Stay.of_grown HGW.out).blk BE2.out (Kd.S_ne S2.out BE2.out (by decide))) 1).trans rfl; have hfe1 := blk_frozen ((Stay.of_grown HGW.out).blk BE2.out (Kd.S_ne S2.out BE2.out (by decide))) 1; (obtain ⟨acc2, hacc2⟩ : ∃ c, c = acc ++ [(⟨N * 4294967296 + tid, cs⟩ : S47)] := ⟨_, rfl⟩); rw [← hacc2] at S17 Q6; have HC2 : Aside0 (acc2.length = acc.length + 1) := ⟨by rw [hacc2, List.length_append]; rfl⟩; clear hacc2; obtain ⟨A17, c17, rfl⟩ := Kd.S_slice S17.out)
              have G17 := Aside0.mk (Stay.of_grown HGW.out)
              have hsb : Aside0 (∀ i, some i = v.ownBlock → w.heap.size ≤ i) := ⟨fun i hi => Kd.S_base S2.out i hi.symm⟩
              have R17 := Aside0.mk (R2.out.stay G17.out (by obtain ⟨A, c, hb, _⟩ := R2.out; exact Kd.S_ne S2.out hb (by decide)))
              have BE17 := Aside0.mk (G17.out.blk BE2.out (Kd.S_ne S2.out BE2.out (by decide)))
              have ST17 := Aside0.mk (ST2.out.step G17.out (fun i hi => Or.inr (hsb.out i hi)))
              clear S2 R2 BE2 BT2 BH2 ST2 SC2 hsb HGW G17
              have T17 : Aside0 (Stay (fun k => k = ge) w17 (w17.setCell ⟨ge, 1, none⟩ (.slice A17 acc2.length c17))) := ⟨(Stay.refl (fun k => k = ge) w17).set (.inl rfl) 1 _⟩
              have S18 := Aside0.mk (Kd.S_set S17.out BE17.out (by decide) 1 (.slice A17 acc2.length c17))
              have R18 := Aside0.mk (R17.out.stay T17.out (fun e => hne1 e.symm))
              have BE18 := Aside0.mk (blk_put (cs := #[.int .u32 N, v]) BE17.out 1 (.slice A17 acc2.length c17) rfl)
              have ST18 := Aside0.mk (ST17.out.step T17.out (fun i hi => Or.inr (by rw [hi, HE.out]; exact Nat.le_refl _)))
              clear S17 R17 BE17 ST17 T17 hze1 hfe1 hzt0 hzt1
              generalize w17.setCell ⟨ge, 1, none⟩ (.slice A17 acc2.length c17) = w18 at S18 R18 BE18 ST18 ⊢
              go_wp2_with fail
              go_roundg gk1
              case measure => omega
              case rel => exact ⟨acc2, tid, l', x15 + 1, .slice A17 acc2.length c17, rfl, rfl, ⟨by have := HX.out; omega⟩, by omega, by omega, by omega, by omega, ⟨by have := HA.out; have := HC2.out; omega⟩, Q6, R18, BE18, S18, ST18⟩
      · have dp : decide (x15 < n2) = false := decide_eq_false hp
        have hk0 : gk = 0 := by have := HX.out; omega
        subst hk0
        have H := TX.out
        simp only [takeTxnsL] at H
        obtain rfl := Option.some.inj H
        obtain rfl : .ok ((N, acc), l') = q := Option.some.inj FQ.out
        obtain ⟨Av, cv, rfl⟩ := Kd.S_slice S2.out
        have hze0 : wr.cell? ⟨ge, 0, none⟩ = some (.int .u32 N) := (blk_cell BE2.out 0).trans rfl
        have hze1 : wr.cell? ⟨ge, 1, none⟩ = some (.slice Av acc.length cv) := (blk_cell BE2.out 1).trans rfl
        have hfe0 := blk_frozen BE2.out 0
        have hfe1 := blk_frozen BE2.out 1
        go_wp2_with fail
        have T3 : Stay (fun k => k = ge) wr ((wr.setCell ⟨ge, 0, none⟩ (.int .u32 N)).setCell ⟨ge, 1, none⟩ (.slice Av acc.length cv)) := ((Stay.refl (fun k => k = ge) wr).set (.inl rfl) 0 _).set (.inl rfl) 1 _
        have HS := Kd.S_set (Kd.S_set S2.out BE2.out (by decide) 0 (.int .u32 N)) (blk_put (cs := #[.int .u32 N, .slice Av acc.length cv]) BE2.out 0 (.int .u32 N) rfl) (by decide) 1 (.slice Av acc.length cv)
        have HF := Aside0.mk HS
        have RF := Aside0.mk (R2.out.stay T3 (fun e => hne1 e.symm))
        have SF := Aside0.mk (ST2.out.step T3 (fun i hi => Or.inr (by rw [hi, HE.out]; exact Nat.le_refl _)))
        clear HS T3
        refine bodyPost_ret (by simp [results, Try.results53, go_sem, hze0, hze1]; try rfl) rfl ?_
        exact ⟨⟨_, rfl, HF.out, RF.out⟩, SF.out⟩
end Go.Proofs.Ytgmdoapedhppmaa.PC

namespace Go.Proofs.Ytgmdoapedhppmaa.PC
set_option linter.unusedVariables false
set_option linter.unusedSimpArgs false
open Go.RowKit Go.Proofs.YtgmdoapedhppmaaW.PrintWords Go.Proofs.YtgmdoapedhppmaaW.PrintLast Go.Proofs.YtgmdoapedhppmaaW.PrintMore
/-- Decode, as a plain function: the number, the transactions, what is wrong. -/
def codec_Decode.f (l : List Int) : Option (Int × List S47 × Int) := (takeEpoch 40 l).map fun q => (epN (finish q), epL (finish q), epE (finish q))
/-- DecodeRows, as a plain function. -/
def codec_DecodeRows.f (l : List Int) : Option (List S57 × Int) := (takeRows 40 l).map fun q => (rowsL (finish q), epE (finish q))
theorem codec_Decode.calls (A0 : Option Addr) (c0 : Nat) (l0 : List Int) (r1 : Int) (r2 : List S47) (r3 : Int) (w : World) (hr0 : Kd.C (Kd.int .u8) w A0 l0.length l0) (hc0 : l0.length ≤ c0) (h : codec_Decode.f l0 = some (r1, r2, r3)) :
    Calls Try.prog 28 #[.slice A0 l0.length c0] w fun e w' => ∃ v0_ : Value, e = .returned (.tuple #[.agg #[.int .u32 r1, v0_], .int .i64 r3]) ∧ Kd.S k47 47 w' w.heap.size (fun _ => True) v0_ r2 ∧ Below w.heap.size w w' := by
  unfold codec_Decode.f at h
  obtain ⟨q, hq, h⟩ := Option.map_eq_some_iff.1 h
  injection h with h1 h2
  injection h2 with h2 h3
  rw [← h1, ← h2, ← h3]
  exact decode_epoch (takeEpoch 40) (epoch_calls 40) A0 c0 l0 q w hr0 hc0 hq
theorem codec_DecodeRows.calls (A0 : Option Addr) (c0 : Nat) (l0 : List Int) (r1 : List S57) (r2 : Int) (w : World) (hr0 : Kd.C (Kd.int .u8) w A0 l0.length l0) (hc0 : l0.length ≤ c0) (h : codec_DecodeRows.f l0 = some (r1, r2)) :
    Calls Try.prog 29 #[.slice A0 l0.length c0] w fun e w' => ∃ v0_ : Value, e = .returned (.tuple #[v0_, .int .i64 r2]) ∧ Kd.R k57 57 w' w.heap.size (fun _ => True) v0_ r1 ∧ Below w.heap.size w w' := by
  unfold codec_DecodeRows.f at h
  obtain ⟨q, hq, h⟩ := Option.map_eq_some_iff.1 h
  injection h with h1 h2
  rw [← h1, ← h2]
  refine (decode_rows (takeRows 40) (rows_calls 40) A0 c0 l0 q w hr0 hc0 hq).mono ?_
  rintro e w' ⟨v, h1, h2, h3⟩
  exact ⟨v, h1, Kd.S_R h2, h3⟩
end Go.Proofs.Ytgmdoapedhppmaa.PC

/- Proofs that functions of the program come to what plain Lean functions say; made by wip/drive.py. -/
namespace Go.Proofs.Ytgmdoapedhppmaa.PC
set_option linter.unusedVariables false
set_option linter.unusedSimpArgs false
open Go.RowKit Go.Proofs.YtgmdoapedhppmaaW.PrintWords Go.Proofs.YtgmdoapedhppmaaW.PrintLast Go.Proofs.YtgmdoapedhppmaaW.PrintMore
attribute [local go_sem] max2_int min2_int max_two min_two max_three min_three max_four min_four   -- for this text's walks alone
set_option linter.unusedVariables false
set_option linter.unusedSimpArgs false

/-! ### codec_EncodeRows: function 17 -/
def codec_EncodeRows.l0 : Nat → List Int → List (S57) → Int → Int → Option (List Int × Int)
  | 0, _, _, _, _ => none
  | k + 1, x5, x17, x18, x19 => if x19 < x18 then (if 0 ≤ x19 then (if x19 < (x17.length : Int) then (if x5.length < 140737488355328 then ((codec_text.f k (x5 ++ [(rd_T57 x17 x19).f0.f0]) ((rd_T57 x17 x19).f0.f1)).bind fun t155 => ((codec_text.f k t155 ((rd_T57 x17 x19).f1)).bind fun t158 => (codec_EncodeRows.l0 k t158 x17 x18 (wrap64 (x19 + 1))))) else (none)) else (none)) else (none)) else (some (x5, 0))
def codec_EncodeRows.f (k : Nat) (l0 : List (S57)) : Option (List Int × Int) := (codec_RightRows.f l0).bind fun t146 => (if t146 = 0 then ((shift_PutUint.f k ([] : List Int) (IntKind.u64.wrap ((l0.length : Int)))).bind fun t147 => (codec_EncodeRows.l0 k t147 l0 (l0.length : Int) 0)) else (some (([] : List Int), t146)))
theorem codec_EncodeRows.mono_l : ∀ k, (∀ y0 y1 y2 y3, LeO (codec_EncodeRows.l0 k y0 y1 y2 y3) (codec_EncodeRows.l0 (k + 1) y0 y1 y2 y3))
  | 0 => fun _ _ _ _ r h => by simp [codec_EncodeRows.l0] at h
  | k + 1 => by
    have ih0 := codec_EncodeRows.mono_l k
    · intro y0 y1 y2 y3
      unfold codec_EncodeRows.l0
      repeat' first
      | (with_reducible exact ih0 _ _ _ _)
      | (with_reducible exact codec_text.mono _ _ _)
      | (with_reducible exact shift_PutUint.mono _ _ _)
      | (with_reducible exact LeO.refl _)
      | (with_reducible exact LeO.none _)
      | (with_reducible refine LeO.ite ?_ ?_)
      | (with_reducible refine LeO.bind ?_ (fun _ => ?_))
      | exact ih0 _ _ _ _
      | exact codec_text.mono _ _ _
      | exact shift_PutUint.mono _ _ _
      | exact LeO.none _
      | refine LeO.ite ?_ ?_
      | refine LeO.bind ?_ (fun _ => ?_)
theorem codec_EncodeRows.mono : ∀ a0 k, LeO (codec_EncodeRows.f k a0) (codec_EncodeRows.f (k + 1) a0) := by
  intro a0 k
  have ih0 := codec_EncodeRows.mono_l k
  unfold codec_EncodeRows.f
  repeat' first
      | (with_reducible exact ih0 _ _ _ _)
      | (with_reducible exact codec_text.mono _ _ _)
      | (with_reducible exact shift_PutUint.mono _ _ _)
      | (with_reducible exact LeO.refl _)
      | (with_reducible exact LeO.none _)
      | (with_reducible refine LeO.ite ?_ ?_)
      | (with_reducible refine LeO.bind ?_ (fun _ => ?_))
      | exact ih0 _ _ _ _
      | exact codec_text.mono _ _ _
      | exact shift_PutUint.mono _ _ _
      | exact LeO.none _
      | refine LeO.ite ?_ ?_
      | refine LeO.bind ?_ (fun _ => ?_)
def codec_EncodeRows.T8 : Bool × List (List Nat × List Nat) := (true, [([], []), ([], []), ([1], [1]), ([2], [2]), ([3], [3]), ([0, 4], [0, 4]), ([], []), ([6], [6]), ([7], [7]), ([5, 8, 5], [5, 8]), ([], []), ([10], [10]), ([9, 11, 9], [9, 11]), ([12, 12, 0, 1, 2, 3, 4, 5, 6, 7, 8, 9, 10, 11, 12], [0, 12])])
def codec_EncodeRows.B8 : List Nat := [0, 0, 2, 6, 14, 31, 0, 64, 192, 511, 0, 1024, 4095, 8191]
theorem codec_EncodeRows.tab8 : rtab .any (opsOf Try.f17 8) = codec_EncodeRows.T8 := by kernel_rfl
theorem codec_EncodeRows.bits8 : waitsOk codec_EncodeRows.T8.2 codec_EncodeRows.B8 = true := by kernel_rfl
set_option maxHeartbeats 8000000 in
set_option maxRecDepth 100000 in
theorem codec_EncodeRows.calls (k : Nat) (A0 : Option Addr) (c0 : Nat) (l0 : List (S57)) (r1 : List Int) (r2 : Int) (w : World) (hr0 : Kd.C k57 w A0 l0.length l0) (hc0 : l0.length ≤ c0) (h : codec_EncodeRows.f k l0 = some (r1, r2)) :
    Calls Try.prog 17 #[.slice A0 l0.length c0] w fun e w' => ∃ v0_ : Value, e = .returned (.tuple #[v0_, .int .i64 r2]) ∧ Kd.R (Kd.int .u8) 5 w' w.heap.size (fun _ => True) v0_ r1 ∧ Below w.heap.size w w' := by
  have hu57 := Try.underlying57
  have HR0 := Aside0.mk hr0
  have HC0 := Aside0.mk hc0
  clear hr0 hc0
  have HB := Aside0.mk (Below.refl w.heap.size w)
  have H : ((codec_RightRows.f l0).bind fun t146 => (if t146 = 0 then ((shift_PutUint.f k ([] : List Int) (IntKind.u64.wrap ((l0.length : Int)))).bind fun t147 => (codec_EncodeRows.l0 k t147 l0 (l0.length : Int) 0)) else (some (([] : List Int), t146)))) = some (r1, r2) := h
  clear h
  replace H := Option.bind_eq_some_iff.mp H
  obtain ⟨t146, A20, H⟩ := H
  replace H : (if t146 = 0 then ((shift_PutUint.f k ([] : List Int) (IntKind.u64.wrap ((l0.length : Int)))).bind fun t147 => (codec_EncodeRows.l0 k t147 l0 (l0.length : Int) 0)) else (some (([] : List Int), t146))) = some (r1, r2) := H
  have A2 := Aside0.mk A20
  clear A20
  by_cases c3 : t146 = 0
  · rw [if_pos c3] at H
    have c3b0 : (t146 == 0) = true := beq_iff_eq.mpr c3
    have c3b1 : (t146 != 0) = false := bne_eq_false_iff_eq.mpr c3
    clear c3
    replace H := Option.bind_eq_some_iff.mp H
    obtain ⟨t147, A40, H⟩ := H
    replace H : (codec_EncodeRows.l0 k t147 l0 (l0.length : Int) 0) = some (r1, r2) := H
    have A4 := Aside0.mk A40
    clear A40
    have H' := Aside0.mk H
    clear H
    go_enter Try.func17, Try.ntmps17
    go_wp2_with (first | ((with_reducible refine gate_callee (f := 21) rfl ?_); refine goesL_ (some 9) rfl rfl Try.func21 (by kernel_rfl) rfl #[.slice A0 l0.length c0] rfl (by (try simp only [List.map_toArray, List.map_cons, List.map_nil]); first | done | rfl | (simp only [List.length_drop, List.length_take]; rfl) | (rw [IntKind.wrap_u64, Int.emod_eq_of_lt (by omega) (by omega)]; rfl)) ?_; (with_reducible refine (codec_RightRows.calls _ _ l0 t146 _ ?side1 ?side2 A2.out).mono ?_); (case side1 => repeat (first | exact HR0.out | (with_reducible refine Kd.C_alloc ?_ _) | (with_reducible refine Kd.C_drewN ?_ _) | (with_reducible refine Kd.C_drew ?_))); (case side2 => exact HC0.out); rintro e w5 ⟨rfl, hb⟩; refine ⟨_, rfl, ?_⟩; have n0_ := Aside0.mk (below_step (by repeat (first | (with_reducible first | exact HB.out | apply below_alloc | apply pw_below_drewN | apply below_drew1) | exact HB.out)) hb); clear HB; have HB := n0_; clear n0_; (try clear hb); (try clear hb2); (try clear hk); (try clear hi)) | ((with_reducible refine gate_callee (f := 32) rfl ?_); refine goesL_ (some 16) rfl rfl Try.func32 (by kernel_rfl) rfl #[.slice none 0 0, .int .u64 (IntKind.u64.wrap ((l0.length : Int)))] rfl (by (try simp only [List.map_toArray, List.map_cons, List.map_nil]); first | done | rfl | (simp only [List.length_drop, List.length_take]; rfl) | (rw [IntKind.wrap_u64, Int.emod_eq_of_lt (by omega) (by omega)]; rfl)) ?_; (refine (shift_PutUint.calls k (fun k_ => some k_ = (.slice none 0 0 : Value).ownBlock) (.slice none 0 0) ([] : List Int) (IntKind.u64.wrap ((l0.length : Int))) t147 w _ ?side1 ?side2 A4.out).mono ?_); (case side1 => repeat (first | (with_reducible first | exact HB.out | apply below_alloc | apply pw_below_drewN | apply below_drew1) | exact HB.out)); (case side2 => exact Kd.R_nil _ _ _ _ _); rintro e w6 ⟨v148, rfl, ho0, hb, hkp⟩; refine ⟨_, rfl, ?_⟩; have n0_ := Aside0.mk (Kd.R_mono (ok' := fun k_ => True) ho0 (fun k_ hk_ => trivial)); have n1_ := Aside0.mk (hb); clear HB; have HO149 := n0_; have HB := n1_; clear n0_ n1_; (try clear hb); (try clear hkp); (try clear ho0)))
    go_loopg [5, 19] k (fun kq v5 v19 w' => ∃ (x5_1 : List Int) (x19_1 : Int), v19 = .int .i64 x19_1 ∧ Aside0 (codec_EncodeRows.l0 kq x5_1 l0 (l0.length : Int) x19_1 = some (r1, r2)) ∧ Aside0 (kq ≤ k) ∧ Aside0 (Kd.R (Kd.int .u8) 5 w' w.heap.size (fun _ => True) v5 x5_1) ∧ Aside0 (Below w.heap.size w w'))
    case atStart => exact ⟨(t147), (0), (by first | rfl | (simp; done) | (simp [*]; done)), H', ⟨Nat.le_refl _⟩, ⟨by (with_reducible repeat (first | apply Kd.R_alloc | apply Kd.R_drewN | apply Kd.R_drew)); exact HO149.out⟩, ⟨by repeat (first | (with_reducible first | exact HB.out | apply below_alloc | apply pw_below_drewN | apply below_drew1) | exact HB.out)⟩⟩
    case round =>
      clear H'
      try clear c1
      try clear c2
      try clear p2
      try clear c3
      try clear c3b0
      try clear c3b1
      obtain ⟨x5_1, x19_1, rfl, HA, HK1, HO_5, HB⟩ := hrel
      cases gk with
      | zero => exact absurd HA.out (by simp [codec_EncodeRows.l0])
      | succ k1 =>
        have H := HA.out
        clear HA
        simp only [codec_EncodeRows.l0] at H
        by_cases c7 : x19_1 < (l0.length : Int)
        · rw [if_pos c7] at H
          have c7b0 : decide (x19_1 < (l0.length : Int)) = true := decide_eq_true c7
          clear c7
          by_cases c8 : 0 ≤ x19_1
          · rw [if_pos c8] at H
            have c8b0 : decide (0 ≤ x19_1) = true := decide_eq_true c8
            clear c8
            by_cases c9 : x19_1 < (l0.length : Int)
            · rw [if_pos c9] at H
              have c9b0 : decide (x19_1 < (l0.length : Int)) = true := decide_eq_true c9
              clear c9
              by_cases c10 : x5_1.length < 140737488355328
              · rw [if_pos c10] at H
                have LMc10 := Aside0.mk c10
                clear c10
                obtain ⟨y152, hy152⟩ : ∃ y_ : List Int, y_ = (x5_1 ++ [(rd_T57 l0 x19_1).f0.f0]) := ⟨_, rfl⟩
                replace H : ((codec_text.f k1 y152 ((rd_T57 l0 x19_1).f0.f1)).bind fun t155 => ((codec_text.f k1 t155 ((rd_T57 l0 x19_1).f1)).bind fun t158 => (codec_EncodeRows.l0 k1 t158 l0 (l0.length : Int) (wrap64 (x19_1 + 1))))) = some (r1, r2) := by first | (rw [hy152]; with_reducible exact H) | (have H2_ := (Option.bind_some _ _).symm.trans H; rw [hy152]; with_reducible exact H2_) | (have H2_ := (Option.bind_some _ _).symm.trans H; with_reducible exact H2_) | with_reducible exact H | (rw [hy152]; exact H) | exact H
                have Ny152 := Aside0.mk hy152
                clear hy152
                replace H := Option.bind_eq_some_iff.mp H
                obtain ⟨t155, A110, H⟩ := H
                replace H : ((codec_text.f k1 t155 ((rd_T57 l0 x19_1).f1)).bind fun t158 => (codec_EncodeRows.l0 k1 t158 l0 (l0.length : Int) (wrap64 (x19_1 + 1)))) = some (r1, r2) := H
                have A11 := Aside0.mk A110
                clear A110
                replace H := Option.bind_eq_some_iff.mp H
                obtain ⟨t158, A120, H⟩ := H
                replace H : (codec_EncodeRows.l0 k1 t158 l0 (l0.length : Int) (wrap64 (x19_1 + 1))) = some (r1, r2) := H
                have A12 := Aside0.mk A120
                clear A120
                have H' := Aside0.mk H
                clear H
                have p150 : 0 ≤ (x19_1 : Int) := of_decide_eq_true (by first | (with_reducible assumption) | assumption)
                have q150 : x19_1 < (l0.length : Int) := of_decide_eq_true (by first | (with_reducible assumption) | assumption)
                obtain ⟨ad150, e150, hx150_0, hx150_1, hx150_2⟩ := at_T57 HR0.out x19_1 p150 q150
                cases e150
                replace hx150_0 := (HB.out.cell (World.block_lt_of_cell? w _ hx150_0)).trans hx150_0
                replace hx150_1 := (HB.out.cell (World.block_lt_of_cell? w _ hx150_1)).trans hx150_1
                replace hx150_2 := (HB.out.cell (World.block_lt_of_cell? w _ hx150_2)).trans hx150_2
                replace p150 := eq_true p150
                replace q150 := eq_true q150
                try go_wp2_with (first | ((with_reducible refine gate_dst (N := 7) rfl ?_); refine box_event ?hg (N := 7) ?hd (cs := #[.int .u8 0, .string (⟨#[]⟩ : ByteArray), .string (⟨#[]⟩ : ByteArray)]) (t := 57) ?hr ?_; (case hd => rfl); (case hg => rfl); (case hr => first | (go_simp; done) | (go_simp; rfl)); intro gb151 hg w13 hbox hb; have n0_ := Aside0.mk (Kd.R_below (by (with_reducible repeat (first | apply Kd.R_alloc | apply Kd.R_drewN | apply Kd.R_drew)); exact HO_5.out) hb); have n1_ := Aside0.mk (below_step (by repeat (first | (with_reducible first | exact HB.out | apply below_alloc | apply pw_below_drewN | apply below_drew1) | exact HB.out)) hb); have n2_ := Aside0.mk (hbox); have n3_ := Aside0.mk ((by rw [hg]; exact (below_size (by repeat (first | (with_reducible first | exact HB.out | apply below_alloc | apply pw_below_drewN | apply below_drew1) | exact HB.out))) : w.heap.size ≤ gb151)); have n4_ := Aside0.mk ((by rw [hg]; exact (below_size (by repeat (first | (with_reducible first | exact HB.out | apply below_alloc | apply pw_below_drewN | apply below_drew1) | exact HB.out))) : w.heap.size ≤ gb151)); clear HO_5; clear HB; have HO_5 := n0_; have HB := n1_; have BK151 := n2_; have GW151 := n3_; have GE151 := n4_; clear n0_ n1_ n2_ n3_ n4_; clear hb hbox hg; have hcz14_0 : w13.cell? ⟨gb151, 0, none⟩ = some (.int .u8 0) := (blk_cell BK151.out 0).trans rfl; have hcz14_1 : w13.cell? ⟨gb151, 1, none⟩ = some (.string (⟨#[]⟩ : ByteArray)) := (blk_cell BK151.out 1).trans rfl; have hcz14_2 : w13.cell? ⟨gb151, 2, none⟩ = some (.string (⟨#[]⟩ : ByteArray)) := (blk_cell BK151.out 2).trans rfl; have hfz14_0 := blk_frozen BK151.out 0; have hfz14_1 := blk_frozen BK151.out 1; have hfz14_2 := blk_frozen BK151.out 2))
                have n0_ : Aside0 (Kd.R (Kd.int .u8) 5 (((w13.setCell ⟨gb151, 0, none⟩ (.int .u8 ((rd_T57 l0 x19_1).f0.f0))).setCell ⟨gb151, 1, none⟩ (.string ((rd_T57 l0 x19_1).f0.f1))).setCell ⟨gb151, 2, none⟩ (.string ((rd_T57 l0 x19_1).f1))) w.heap.size (fun _ => True) u5 x5_1) := ⟨by (with_reducible repeat (first | apply Kd.R_alloc | apply Kd.R_drewN | apply Kd.R_drew)); exact Kd.R_mono (Kd.R_far (p := ⟨gb151, 2, none⟩) (Kd.R_far (p := ⟨gb151, 1, none⟩) (Kd.R_far (p := ⟨gb151, 0, none⟩) (Kd.R_types HO_5.out BK151.out (by decide)) (fun _ hk => hk.2) (.int .u8 ((rd_T57 l0 x19_1).f0.f0))) (fun _ hk => hk.2) (.string ((rd_T57 l0 x19_1).f0.f1))) (fun _ hk => hk.2) (.string ((rd_T57 l0 x19_1).f1))) (fun _ hk => trivial)⟩
                have n1_ : Aside0 ((((w13.setCell ⟨gb151, 0, none⟩ (.int .u8 ((rd_T57 l0 x19_1).f0.f0))).setCell ⟨gb151, 1, none⟩ (.string ((rd_T57 l0 x19_1).f0.f1))).setCell ⟨gb151, 2, none⟩ (.string ((rd_T57 l0 x19_1).f1))).heap[gb151]? = some (.cells #[.int .u8 ((rd_T57 l0 x19_1).f0.f0), .string ((rd_T57 l0 x19_1).f0.f1), .string ((rd_T57 l0 x19_1).f1)] 57 (0, 0))) := ⟨by (with_reducible repeat (first | refine blk_drewN ?_ _ | refine blk_drew ?_ | refine blk_alloc ?_ _)); refine blk_put (cs := #[.int .u8 ((rd_T57 l0 x19_1).f0.f0), .string ((rd_T57 l0 x19_1).f0.f1), .string (⟨#[]⟩ : ByteArray)]) ?_ 2 _ rfl; (with_reducible repeat (first | refine blk_drewN ?_ _ | refine blk_drew ?_ | refine blk_alloc ?_ _)); refine blk_put (cs := #[.int .u8 ((rd_T57 l0 x19_1).f0.f0), .string (⟨#[]⟩ : ByteArray), .string (⟨#[]⟩ : ByteArray)]) ?_ 1 _ rfl; (with_reducible repeat (first | refine blk_drewN ?_ _ | refine blk_drew ?_ | refine blk_alloc ?_ _)); refine blk_put (cs := #[.int .u8 0, .string (⟨#[]⟩ : ByteArray), .string (⟨#[]⟩ : ByteArray)]) ?_ 0 _ rfl; (with_reducible repeat (first | refine blk_drewN ?_ _ | refine blk_drew ?_ | refine blk_alloc ?_ _)); exact BK151.out⟩
                have n2_ : Aside0 (Below w.heap.size w (((w13.setCell ⟨gb151, 0, none⟩ (.int .u8 ((rd_T57 l0 x19_1).f0.f0))).setCell ⟨gb151, 1, none⟩ (.string ((rd_T57 l0 x19_1).f0.f1))).setCell ⟨gb151, 2, none⟩ (.string ((rd_T57 l0 x19_1).f1)))) := ⟨by repeat (first | (with_reducible first | exact HB.out | apply below_alloc | apply pw_below_drewN | apply below_drew1 | refine below_set ?_ GE151.out) | exact HB.out)⟩
                (try clear HO_5)
                (try clear BK151)
                (try clear HB)
                generalize (((w13.setCell ⟨gb151, 0, none⟩ (.int .u8 ((rd_T57 l0 x19_1).f0.f0))).setCell ⟨gb151, 1, none⟩ (.string ((rd_T57 l0 x19_1).f0.f1))).setCell ⟨gb151, 2, none⟩ (.string ((rd_T57 l0 x19_1).f1))) = w15 at n0_ n1_ n2_ ⊢
                have HO_5 := n0_
                have BK151 := n1_
                have HB := n2_
                clear n0_ n1_ n2_
                have n0_ := Aside0.mk (Kd.R_drew HO_5.out)
                have n1_ := Aside0.mk (blk_drew BK151.out)
                have n2_ := Aside0.mk (below_drew1 HB.out)
                clear HO_5
                clear BK151
                clear HB
                have HO_5 := n0_
                have BK151 := n1_
                have HB := n2_
                clear n0_ n1_ n2_
                refine start_ (n := 14) (S := fun w' => w'.cell? ⟨gb151, 0, none⟩ = some (.int .u8 ((rd_T57 l0 x19_1).f0.f0)) ∧ w'.cell? ⟨gb151, 1, none⟩ = some (.string ((rd_T57 l0 x19_1).f0.f1)) ∧ w'.cell? ⟨gb151, 2, none⟩ = some (.string ((rd_T57 l0 x19_1).f1))) (ds := []) #[false, false, false, false, false, false, false, false, false, false, false, false, false, false] (by kernel_rfl) rfl rfl ⟨(blk_cell BK151.out 0).trans rfl, (blk_cell BK151.out 1).trans rfl, (blk_cell BK151.out 2).trans rfl⟩ (fun hHeld => ?_); refine with_tabW codec_EncodeRows.tab8 codec_EncodeRows.bits8 (fun HT_ HW_ => ?_)
                generalize w15.drew = w16 at HO_5 BK151 HB hHeld ⊢
                refine pure_ (i := 0) (N := some 23) (v := ?_) (a' := ?_) #[true, false, false, false, false, false, false, false, false, false, false, false, false, false] rfl rfl (any_of HT_.out (by kernel_rfl)) (fun _ _ _ h => h) (Or.inl ⟨by rfl, ?_⟩) ?_ ?_
                rotate_left
                · intro w'
                  go_simp
                  with_reducible rfl
                rotate_left
                · simp only [Act.put, List.setIfInBounds_toArray, List.set_cons_zero, List.set_cons_succ, i64_w, i32_w]
                  rfl
                refine pure_ (i := 1) (N := some 24) (v := ?_) (a' := ?_) #[true, true, false, false, false, false, false, false, false, false, false, false, false, false] rfl rfl (any_of HT_.out (by kernel_rfl)) (fun _ _ _ h => h) (Or.inl ⟨by rfl, ?_⟩) ?_ ?_
                rotate_left
                · intro w'
                  go_simp
                  with_reducible rfl
                rotate_left
                · simp only [Act.put, List.setIfInBounds_toArray, List.set_cons_zero, List.set_cons_succ, i64_w, i32_w]
                  rfl
                refine pure_ (i := 2) (N := some 25) (v := ?_) (a' := ?_) #[true, true, true, false, false, false, false, false, false, false, false, false, false, false] rfl rfl (any_of HT_.out (by kernel_rfl)) (fun _ _ _ h => h) (Or.inl ⟨by rfl, ?_⟩) ?_ ?_
                rotate_left
                · intro w'
                  go_simp
                  with_reducible rfl
                rotate_left
                · simp only [Act.put, List.setIfInBounds_toArray, List.set_cons_zero, List.set_cons_succ, i64_w, i32_w]
                  rfl
                refine pure_ (i := 6) (N := some 29) (v := ?_) (a' := ?_) #[true, true, true, false, false, false, true, false, false, false, false, false, false, false] rfl rfl (any_of HT_.out (by kernel_rfl)) (fun _ _ _ h => h) (Or.inl ⟨by rfl, ?_⟩) ?_ ?_
                rotate_left
                · intro w'
                  go_simp
                  with_reducible rfl
                rotate_left
                · simp only [Act.put, List.setIfInBounds_toArray, List.set_cons_zero, List.set_cons_succ, i64_w, i32_w]
                  rfl
                refine pure_ (i := 7) (N := some 30) (v := ?_) (a' := ?_) #[true, true, true, false, false, false, true, true, false, false, false, false, false, false] rfl rfl (any_of HT_.out (by kernel_rfl)) (fun _ _ _ h => h) (Or.inl ⟨by rfl, ?_⟩) ?_ ?_
                rotate_left
                · intro w'
                  go_simp
                  with_reducible rfl
                rotate_left
                · simp only [Act.put, List.setIfInBounds_toArray, List.set_cons_zero, List.set_cons_succ, i64_w, i32_w]
                  rfl
                refine pure_ (i := 10) (N := some 33) (v := ?_) (a' := ?_) #[true, true, true, false, false, false, true, true, false, false, true, false, false, false] rfl rfl (any_of HT_.out (by kernel_rfl)) (fun _ _ _ h => h) (Or.inl ⟨by rfl, ?_⟩) ?_ ?_
                rotate_left
                · intro w'
                  go_simp
                  with_reducible rfl
                rotate_left
                · simp only [Act.put, List.setIfInBounds_toArray, List.set_cons_zero, List.set_cons_succ, i64_w, i32_w]
                  rfl
                refine take_ (i := 3) (N := some 26) (v := ?_) (a' := ?_) #[true, true, true, true, false, false, true, true, false, false, true, false, false, false] rfl rfl (take_ofW HT_.out HW_.out (by kernel_rfl)) (fun _ _ _ h => h) (Or.inl ⟨by rfl, ?_⟩) hHeld ?_ ?_
                rotate_left
                · rintro w' ⟨s0, s1, s2⟩
                  go_simp
                  with_reducible rfl
                rotate_left
                · simp only [Act.put, List.setIfInBounds_toArray, List.set_cons_zero, List.set_cons_succ, i64_w, i32_w]
                  rfl
                refine take_ (i := 8) (N := some 31) (v := ?_) (a' := ?_) #[true, true, true, true, false, false, true, true, true, false, true, false, false, false] rfl rfl (take_ofW HT_.out HW_.out (by kernel_rfl)) (fun _ _ _ h => h) (Or.inl ⟨by rfl, ?_⟩) hHeld ?_ ?_
                rotate_left
                · rintro w' ⟨s0, s1, s2⟩
                  go_simp
                  with_reducible rfl
                rotate_left
                · simp only [Act.put, List.setIfInBounds_toArray, List.set_cons_zero, List.set_cons_succ, i64_w, i32_w]
                  rfl
                refine take_ (i := 11) (N := some 34) (v := ?_) (a' := ?_) #[true, true, true, true, false, false, true, true, true, false, true, true, false, false] rfl rfl (take_ofW HT_.out HW_.out (by kernel_rfl)) (fun _ _ _ h => h) (Or.inl ⟨by rfl, ?_⟩) hHeld ?_ ?_
                rotate_left
                · rintro w' ⟨s0, s1, s2⟩
                  go_simp
                  with_reducible rfl
                rotate_left
                · simp only [Act.put, List.setIfInBounds_toArray, List.set_cons_zero, List.set_cons_succ, i64_w, i32_w]
                  rfl
                refine one_ (i := 4) (N := some 27) #[true, true, true, true, true, false, true, true, true, false, true, true, false, false] rfl rfl (one_of HT_.out (by kernel_rfl)) (by decide) (fun K hK => ?_)
                refine value_ (w1 := ?_) (v := ?_) (by rfl) rfl ?_ ?_
                rotate_left 2
                · go_simp
                  constructor
                  · rfl
                  · rfl
                refine hK.out _ _ ⟨(blk_cell (blk_alloc BK151.out _) 0).trans rfl, (blk_cell (blk_alloc BK151.out _) 1).trans rfl, (blk_cell (blk_alloc BK151.out _) 2).trans rfl⟩ (fun hHeld => ?_)
                clear hK K
                refine norm_ (a' := ?_) ?_ ?_
                rotate_left
                · show Act.put _ (some 27) _ = _
                  simp only [Act.put, List.setIfInBounds_toArray, List.set_cons_zero, List.set_cons_succ, i64_w, i32_w]
                  rfl
                refine one_ (i := 5) (N := some 28) #[true, true, true, true, true, true, true, true, true, false, true, true, false, false] rfl rfl (one_of HT_.out (by kernel_rfl)) (by decide) (fun K hK => ?_)
                refine Kd.R_append_step (Kd.int .u8) (w0 := w) w.heap.size (by rfl) (.tmp 23) (.tmp 27) 32 5 (.int .u8 0) 1 rfl Try.underlying32 info5 rfl (by decide) (by omega) u5 x5_1 ((rd_T57 l0 x19_1).f0.f0) [.int .u8 ((rd_T57 l0 x19_1).f0.f0)] (fun _ => True) (fun _ => False) rfl rfl ?aP (fun _ hk => hk.elim) ?aF ?aO ?aB ?aS ?aL ?_
                (case aP => exact rfl)
                (case aB => exact (by repeat (first | (with_reducible first | exact HB.out | apply below_alloc | apply pw_below_drewN | apply below_drew1 | refine below_set ?_ GE151.out) | exact HB.out)))
                (case aF => exact (fun _ _ => trivial))
                (case aO => exact (by (with_reducible repeat (first | apply Kd.R_alloc | apply Kd.R_drewN | apply Kd.R_drew)); exact HO_5.out))
                (case aS => exact (below_size (by repeat (first | (with_reducible first | exact HB.out | apply below_alloc | apply pw_below_drewN | apply below_drew1 | refine below_set ?_ GE151.out) | exact HB.out))))
                (case aL => have := LMc10.out; omega)
                intro v153 w17 ho hb hg hat
                rw [← Ny152.out] at ho
                have n0_ := Aside0.mk (blk_grown (g := gb151) (o := .cells #[.int .u8 ((rd_T57 l0 x19_1).f0.f0), .string ((rd_T57 l0 x19_1).f0.f1), .string ((rd_T57 l0 x19_1).f1)] 57 (0, 0)) (by (with_reducible repeat (first | refine blk_drewN ?_ _ | refine blk_drew ?_ | refine blk_alloc ?_ _)); exact BK151.out) hg (Kd.R_ne HO_5.out BK151.out (by decide)))
                have n1_ := Aside0.mk (hb)
                have n2_ := Aside0.mk (ho)
                clear BK151
                clear HB
                clear HO_5
                have BK151 := n0_
                have HB := n1_
                have HO154 := n2_
                clear n0_ n1_ n2_
                clear ho hb hg hat
                obtain ⟨Ao18, co18, eo18⟩ := Kd.R_slice HO154.out
                (first | subst eo18 | (injection eo18 with f1_ f2_ f3_; have f4_ := f1_.symm; have f5_ := f3_.symm; clear f1_ f2_ f3_; subst f4_; subst f5_))
                refine hK.out _ _ ⟨(blk_cell BK151.out 0).trans rfl, (blk_cell BK151.out 1).trans rfl, (blk_cell BK151.out 2).trans rfl⟩ (fun hHeld => ?_)
                clear hK K
                refine norm_ (a' := ?_) ?_ ?_
                rotate_left
                · show Act.put _ (some 28) _ = _
                  simp only [Act.put, List.setIfInBounds_toArray, List.set_cons_zero, List.set_cons_succ, i64_w, i32_w]
                  rfl
                refine one_ (i := 9) (N := some 32) #[true, true, true, true, true, true, true, true, true, true, true, true, false, false] rfl rfl (one_of HT_.out (by kernel_rfl)) (by decide) (fun K hK => ?_)
                refine goes_ Try.func33 (by kernel_rfl) rfl #[.slice Ao18 y152.length co18, .string ((rd_T57 l0 x19_1).f0.f1)] (by rfl) rfl rfl (by (try simp only [List.map_toArray, List.map_cons, List.map_nil]); first | done | rfl | (simp only [List.length_drop, List.length_take]; rfl) | (rw [IntKind.wrap_u64, Int.emod_eq_of_lt (by omega) (by omega)]; rfl)) ?_
                with_reducible refine (codec_text.calls k1 (fun k_ => some k_ = (.slice Ao18 y152.length co18 : Value).ownBlock) (.slice Ao18 y152.length co18) y152 ((rd_T57 l0 x19_1).f0.f1) t155 w _ ?side1 ?side2 A11.out).mono ?_
                (case side1 => repeat (first | (with_reducible first | exact HB.out | apply below_alloc | apply pw_below_drewN | apply below_drew1 | refine below_set ?_ GE151.out) | exact HB.out))
                (case side2 => exact Kd.R_tight rfl HO154.out)
                rintro e w19 ⟨v156, rfl, ho0, hb, hkp⟩
                refine ⟨_, rfl, ?_⟩
                have n0_ := Aside0.mk (blk_kept (by (with_reducible repeat (first | refine blk_drewN ?_ _ | refine blk_drew ?_ | refine blk_alloc ?_ _)); exact BK151.out) hkp (fun hs_ => (fun e_ => (Kd.R_ne HO154.out BK151.out (by decide)) e_) hs_))
                have n1_ := Aside0.mk (Kd.R_mono (ok' := fun k_ => True) ho0 (fun k_ hk_ => trivial))
                have n2_ := Aside0.mk (hb)
                clear BK151
                clear HB
                clear HO154
                have BK151 := n0_
                have HO157 := n1_
                have HB := n2_
                clear n0_ n1_ n2_
                (try clear hb)
                (try clear hkp)
                (try clear ho0)
                obtain ⟨Ao20, co20, eo20⟩ := Kd.R_slice HO157.out
                (first | subst eo20 | (injection eo20 with f1_ f2_ f3_; have f4_ := f1_.symm; have f5_ := f3_.symm; clear f1_ f2_ f3_; subst f4_; subst f5_))
                refine hK.out _ _ ⟨(blk_cell BK151.out 0).trans rfl, (blk_cell BK151.out 1).trans rfl, (blk_cell BK151.out 2).trans rfl⟩ (fun hHeld => ?_)
                clear hK K
                refine norm_ (a' := ?_) ?_ ?_
                rotate_left
                · show Act.put _ (some 32) _ = _
                  simp only [Act.put, List.setIfInBounds_toArray, List.set_cons_zero, List.set_cons_succ, i64_w, i32_w]
                  rfl
                refine one_ (i := 12) (N := some 35) #[true, true, true, true, true, true, true, true, true, true, true, true, true, false] rfl rfl (one_of HT_.out (by kernel_rfl)) (by decide) (fun K hK => ?_)
                refine goes_ Try.func33 (by kernel_rfl) rfl #[.slice Ao20 t155.length co20, .string ((rd_T57 l0 x19_1).f1)] (by rfl) rfl rfl (by (try simp only [List.map_toArray, List.map_cons, List.map_nil]); first | done | rfl | (simp only [List.length_drop, List.length_take]; rfl) | (rw [IntKind.wrap_u64, Int.emod_eq_of_lt (by omega) (by omega)]; rfl)) ?_
                with_reducible refine (codec_text.calls k1 (fun k_ => some k_ = (.slice Ao20 t155.length co20 : Value).ownBlock) (.slice Ao20 t155.length co20) t155 ((rd_T57 l0 x19_1).f1) t158 w _ ?side1 ?side2 A12.out).mono ?_
                (case side1 => repeat (first | (with_reducible first | exact HB.out | apply below_alloc | apply pw_below_drewN | apply below_drew1 | refine below_set ?_ GE151.out) | exact HB.out))
                (case side2 => exact Kd.R_tight rfl HO157.out)
                rintro e w21 ⟨v159, rfl, ho0, hb, hkp⟩
                refine ⟨_, rfl, ?_⟩
                have n0_ := Aside0.mk (blk_kept (by (with_reducible repeat (first | refine blk_drewN ?_ _ | refine blk_drew ?_ | refine blk_alloc ?_ _)); exact BK151.out) hkp (fun hs_ => (fun e_ => (Kd.R_ne HO157.out BK151.out (by decide)) e_) hs_))
                have n1_ := Aside0.mk (Kd.R_mono (ok' := fun k_ => True) ho0 (fun k_ hk_ => trivial))
                have n2_ := Aside0.mk (hb)
                clear BK151
                clear HB
                clear HO157
                have BK151 := n0_
                have HO160 := n1_
                have HB := n2_
                clear n0_ n1_ n2_
                (try clear hb)
                (try clear hkp)
                (try clear ho0)
                refine hK.out _ _ ⟨(blk_cell BK151.out 0).trans rfl, (blk_cell BK151.out 1).trans rfl, (blk_cell BK151.out 2).trans rfl⟩ (fun hHeld => ?_)
                clear hK K
                refine norm_ (a' := ?_) ?_ ?_
                rotate_left
                · show Act.put _ (some 35) _ = _
                  simp only [Act.put, List.setIfInBounds_toArray, List.set_cons_zero, List.set_cons_succ, i64_w, i32_w]
                  rfl
                refine pure_ (i := 13) (N := some 5) (v := ?_) (a' := ?_) #[true, true, true, true, true, true, true, true, true, true, true, true, true, true] rfl rfl (any_of HT_.out (by kernel_rfl)) (fun _ _ _ h => h) (Or.inl ⟨by rfl, ?_⟩) ?_ ?_
                rotate_left
                · intro w'
                  go_simp
                  with_reducible rfl
                rotate_left
                · simp only [Act.put, List.setIfInBounds_toArray, List.set_cons_zero, List.set_cons_succ, i64_w, i32_w]
                  rfl
                refine done_ (done_of HT_.out (by kernel_rfl)) ?_
                try go_wp2
                go_roundg k1
                case measure => have := HK1.out; omega
                case rel => exact ⟨(t158), (wrap64 (x19_1 + 1)), (by first | rfl | (simp; done) | (simp [*]; done)), H', ⟨by have := HK1.out; omega⟩, ⟨by (with_reducible repeat (first | apply Kd.R_alloc | apply Kd.R_drewN | apply Kd.R_drew)); exact HO160.out⟩, ⟨by repeat (first | (with_reducible first | exact HB.out | apply below_alloc | apply pw_below_drewN | apply below_drew1 | refine below_set ?_ GE151.out) | exact HB.out)⟩⟩
              · rw [if_neg c10] at H
                exact absurd H (by simp)
            · rw [if_neg c9] at H
              exact absurd H (by simp)
          · rw [if_neg c8] at H
            exact absurd H (by simp)
        · rw [if_neg c7] at H
          have c7b0 : decide (x19_1 < (l0.length : Int)) = false := decide_eq_false c7
          clear c7
          simp only [Option.some.injEq, Prod.mk.injEq] at H
          obtain ⟨rfl, rfl⟩ := H
          go_wp2
          go_ret2
          exact ⟨_, by first | rfl | (simp [errW_none, errW_some] <;> rfl) | (simp [*, errW_none, errW_some] <;> rfl), by (with_reducible repeat (first | apply Kd.R_alloc | apply Kd.R_drewN | apply Kd.R_drew)); exact HO_5.out, by repeat (first | (with_reducible first | exact HB.out | apply below_alloc | apply pw_below_drewN | apply below_drew1) | exact HB.out)⟩
  · rw [if_neg c3] at H
    have c3b0 : (t146 == 0) = false := beq_eq_false_iff_ne.mpr c3
    have c3b1 : (t146 != 0) = true := bne_iff_ne.mpr c3
    simp only [Option.some.injEq, Prod.mk.injEq] at H
    obtain ⟨rfl, rfl⟩ := H
    go_enter Try.func17, Try.ntmps17
    go_wp2_with (first | ((with_reducible refine gate_callee (f := 21) rfl ?_); refine goesL_ (some 9) rfl rfl Try.func21 (by kernel_rfl) rfl #[.slice A0 l0.length c0] rfl (by (try simp only [List.map_toArray, List.map_cons, List.map_nil]); first | done | rfl | (simp only [List.length_drop, List.length_take]; rfl) | (rw [IntKind.wrap_u64, Int.emod_eq_of_lt (by omega) (by omega)]; rfl)) ?_; (with_reducible refine (codec_RightRows.calls _ _ l0 t146 _ ?side1 ?side2 A2.out).mono ?_); (case side1 => repeat (first | exact HR0.out | (with_reducible refine Kd.C_alloc ?_ _) | (with_reducible refine Kd.C_drewN ?_ _) | (with_reducible refine Kd.C_drew ?_))); (case side2 => exact HC0.out); rintro e w22 ⟨rfl, hb⟩; refine ⟨_, rfl, ?_⟩; have n0_ := Aside0.mk (below_step (by repeat (first | (with_reducible first | exact HB.out | apply below_alloc | apply pw_below_drewN | apply below_drew1) | exact HB.out)) hb); clear HB; have HB := n0_; clear n0_; (try clear hb); (try clear hb2); (try clear hk); (try clear hi)))
    go_ret2
    exact ⟨_, by first | rfl | (simp [errW_none, errW_some] <;> rfl) | (simp [*, errW_none, errW_some] <;> rfl), by first | exact Kd.R_nil _ _ _ _ _ | exact Kd.N_nil _ _ _ _ _ | exact Kd.V_nil _ _ _ _ _ | exact Kd.Q_nil _ _ _ _ _ | exact Kd.S_nil _ _ _ _ _, by repeat (first | (with_reducible first | exact HB.out | apply below_alloc | apply pw_below_drewN | apply below_drew1) | exact HB.out)⟩

end Go.Proofs.Ytgmdoapedhppmaa.PC

/- shown: its print as a law's (its ways to false fall away), turned by shown.py. -/
namespace Go.Proofs.Ytgmdoapedhppmaa.PC
set_option linter.unusedVariables false
set_option linter.unusedSimpArgs false
open Go.RowKit Go.Proofs.YtgmdoapedhppmaaW.PrintWords Go.Proofs.YtgmdoapedhppmaaW.PrintLast Go.Proofs.YtgmdoapedhppmaaW.PrintMore
attribute [local go_sem] max2_int min2_int max_two min_two max_three min_three max_four min_four   -- for this text's walks alone

/-! ### shownK: function 13 -/
def shownK.f (k : Nat)  : Option (Bool) := (codec_Encode.f k 1 ([] : List (S47))).bind fun bt177 => ((codec_Encode.f k 0 ([] : List (S47))).bind fun bt181 => ((codec_Decode.f (([1, 0] : List Int))).bind fun bt188 => ((codec_Decode.f (([1] : List Int))).bind fun bt197 => ((codec_Decode.f (([1, 0, 0] : List Int))).bind fun bt206 => ((codec_EncodeRows.f k (([(⟨(⟨2, (⟨#[97]⟩ : ByteArray)⟩ : S28), (⟨#[98, 99]⟩ : ByteArray)⟩ : S57)] : List (S57)))).bind fun bt215 => (if (strOfNums bt177.1).toList = ([1, 0] : List UInt8) then (if bt177.2 = 0 then (if bt181.2 = 1 then (if bt188.1 = 1 then (if (bt188.2.1.length : Int) = 0 then (if bt188.2.2 = 0 then (if bt197.2.2 = 2 then (if bt206.2.2 = 3 then (if (strOfNums bt215.1).toList = ([1, 2, 1, 97, 2, 98, 99] : List UInt8) then (if bt215.2 = 0 then ((codec_Less.f k 1 (⟨#[122]⟩ : ByteArray) 2 (⟨#[97]⟩ : ByteArray)).bind fun t219 => (some t219)) else (some false)) else (some false)) else (some false)) else (some false)) else (some false)) else (some false)) else (some false)) else (some false)) else (some false)) else (some false)))))))
theorem shownK.mono : ∀ k, LeO (shownK.f k ) (shownK.f (k + 1) ) := by
  intro  k
  unfold shownK.f
  repeat' first
      | (with_reducible exact codec_Encode.mono _ _ _)
      | (with_reducible exact codec_EncodeRows.mono _ _)
      | (with_reducible exact codec_Less.mono _ _ _ _ _)
      | (with_reducible exact LeO.refl _)
      | (with_reducible exact LeO.none _)
      | (with_reducible refine LeO.ite ?_ ?_)
      | (with_reducible refine LeO.bind ?_ (fun _ => ?_))
      | exact codec_Encode.mono _ _ _
      | exact codec_EncodeRows.mono _ _
      | exact codec_Less.mono _ _ _ _ _
      | exact LeO.none _
      | refine LeO.ite ?_ ?_
      | refine LeO.bind ?_ (fun _ => ?_)
set_option maxHeartbeats 8000000 in
set_option maxRecDepth 100000 in
theorem shownK.calls (k : Nat)  (r : Bool) (w : World) (hrt : r = true) (h : shownK.f k  = some r) :
    Calls Try.prog 13 #[] w fun e w' => e = .returned (.bool r) ∧ Below w.heap.size w w' := by
  have HRT := Aside0.mk hrt
  clear hrt
  have hu25 := Try.underlying25
  have hu28 := Try.underlying28
  have hu57 := Try.underlying57
  have HB := Aside0.mk (Below.refl w.heap.size w)
  have H : ((codec_Encode.f k 1 ([] : List (S47))).bind fun bt177 => ((codec_Encode.f k 0 ([] : List (S47))).bind fun bt181 => ((codec_Decode.f (([1, 0] : List Int))).bind fun bt188 => ((codec_Decode.f (([1] : List Int))).bind fun bt197 => ((codec_Decode.f (([1, 0, 0] : List Int))).bind fun bt206 => ((codec_EncodeRows.f k (([(⟨(⟨2, (⟨#[97]⟩ : ByteArray)⟩ : S28), (⟨#[98, 99]⟩ : ByteArray)⟩ : S57)] : List (S57)))).bind fun bt215 => (if (strOfNums bt177.1).toList = ([1, 0] : List UInt8) then (if bt177.2 = 0 then (if bt181.2 = 1 then (if bt188.1 = 1 then (if (bt188.2.1.length : Int) = 0 then (if bt188.2.2 = 0 then (if bt197.2.2 = 2 then (if bt206.2.2 = 3 then (if (strOfNums bt215.1).toList = ([1, 2, 1, 97, 2, 98, 99] : List UInt8) then (if bt215.2 = 0 then ((codec_Less.f k 1 (⟨#[122]⟩ : ByteArray) 2 (⟨#[97]⟩ : ByteArray)).bind fun t219 => (some t219)) else (some false)) else (some false)) else (some false)) else (some false)) else (some false)) else (some false)) else (some false)) else (some false)) else (some false)) else (some false)))))))) = some r := h
  clear h
  replace H := Option.bind_eq_some_iff.mp H
  obtain ⟨⟨t177, t180⟩, A10, H⟩ := H
  replace H : ((codec_Encode.f k 0 ([] : List (S47))).bind fun bt181 => ((codec_Decode.f (([1, 0] : List Int))).bind fun bt188 => ((codec_Decode.f (([1] : List Int))).bind fun bt197 => ((codec_Decode.f (([1, 0, 0] : List Int))).bind fun bt206 => ((codec_EncodeRows.f k (([(⟨(⟨2, (⟨#[97]⟩ : ByteArray)⟩ : S28), (⟨#[98, 99]⟩ : ByteArray)⟩ : S57)] : List (S57)))).bind fun bt215 => (if (strOfNums t177).toList = ([1, 0] : List UInt8) then (if t180 = 0 then (if bt181.2 = 1 then (if bt188.1 = 1 then (if (bt188.2.1.length : Int) = 0 then (if bt188.2.2 = 0 then (if bt197.2.2 = 2 then (if bt206.2.2 = 3 then (if (strOfNums bt215.1).toList = ([1, 2, 1, 97, 2, 98, 99] : List UInt8) then (if bt215.2 = 0 then ((codec_Less.f k 1 (⟨#[122]⟩ : ByteArray) 2 (⟨#[97]⟩ : ByteArray)).bind fun t219 => (some t219)) else (some false)) else (some false)) else (some false)) else (some false)) else (some false)) else (some false)) else (some false)) else (some false)) else (some false)) else (some false))))))) = some r := H
  have A1 := Aside0.mk A10
  clear A10
  replace H := Option.bind_eq_some_iff.mp H
  obtain ⟨⟨t181, t184⟩, A20, H⟩ := H
  replace H : ((codec_Decode.f (([1, 0] : List Int))).bind fun bt188 => ((codec_Decode.f (([1] : List Int))).bind fun bt197 => ((codec_Decode.f (([1, 0, 0] : List Int))).bind fun bt206 => ((codec_EncodeRows.f k (([(⟨(⟨2, (⟨#[97]⟩ : ByteArray)⟩ : S28), (⟨#[98, 99]⟩ : ByteArray)⟩ : S57)] : List (S57)))).bind fun bt215 => (if (strOfNums t177).toList = ([1, 0] : List UInt8) then (if t180 = 0 then (if t184 = 1 then (if bt188.1 = 1 then (if (bt188.2.1.length : Int) = 0 then (if bt188.2.2 = 0 then (if bt197.2.2 = 2 then (if bt206.2.2 = 3 then (if (strOfNums bt215.1).toList = ([1, 2, 1, 97, 2, 98, 99] : List UInt8) then (if bt215.2 = 0 then ((codec_Less.f k 1 (⟨#[122]⟩ : ByteArray) 2 (⟨#[97]⟩ : ByteArray)).bind fun t219 => (some t219)) else (some false)) else (some false)) else (some false)) else (some false)) else (some false)) else (some false)) else (some false)) else (some false)) else (some false)) else (some false)))))) = some r := H
  have A2 := Aside0.mk A20
  clear A20
  obtain ⟨y185, hy185⟩ : ∃ y_ : List Int, y_ = (([1, 0] : List Int)) := ⟨_, rfl⟩
  replace H : ((codec_Decode.f y185).bind fun bt188 => ((codec_Decode.f (([1] : List Int))).bind fun bt197 => ((codec_Decode.f (([1, 0, 0] : List Int))).bind fun bt206 => ((codec_EncodeRows.f k (([(⟨(⟨2, (⟨#[97]⟩ : ByteArray)⟩ : S28), (⟨#[98, 99]⟩ : ByteArray)⟩ : S57)] : List (S57)))).bind fun bt215 => (if (strOfNums t177).toList = ([1, 0] : List UInt8) then (if t180 = 0 then (if t184 = 1 then (if bt188.1 = 1 then (if (bt188.2.1.length : Int) = 0 then (if bt188.2.2 = 0 then (if bt197.2.2 = 2 then (if bt206.2.2 = 3 then (if (strOfNums bt215.1).toList = ([1, 2, 1, 97, 2, 98, 99] : List UInt8) then (if bt215.2 = 0 then ((codec_Less.f k 1 (⟨#[122]⟩ : ByteArray) 2 (⟨#[97]⟩ : ByteArray)).bind fun t219 => (some t219)) else (some false)) else (some false)) else (some false)) else (some false)) else (some false)) else (some false)) else (some false)) else (some false)) else (some false)) else (some false)))))) = some r := by first | (rw [hy185]; with_reducible exact H) | (have H2_ := (Option.bind_some _ _).symm.trans H; rw [hy185]; with_reducible exact H2_) | (have H2_ := (Option.bind_some _ _).symm.trans H; with_reducible exact H2_) | with_reducible exact H | (rw [hy185]; exact H) | exact H
  have Ny185 := Aside0.mk hy185
  clear hy185
  replace H := Option.bind_eq_some_iff.mp H
  obtain ⟨⟨t188, t189, t192⟩, A30, H⟩ := H
  replace H : ((codec_Decode.f (([1] : List Int))).bind fun bt197 => ((codec_Decode.f (([1, 0, 0] : List Int))).bind fun bt206 => ((codec_EncodeRows.f k (([(⟨(⟨2, (⟨#[97]⟩ : ByteArray)⟩ : S28), (⟨#[98, 99]⟩ : ByteArray)⟩ : S57)] : List (S57)))).bind fun bt215 => (if (strOfNums t177).toList = ([1, 0] : List UInt8) then (if t180 = 0 then (if t184 = 1 then (if t188 = 1 then (if (t189.length : Int) = 0 then (if t192 = 0 then (if bt197.2.2 = 2 then (if bt206.2.2 = 3 then (if (strOfNums bt215.1).toList = ([1, 2, 1, 97, 2, 98, 99] : List UInt8) then (if bt215.2 = 0 then ((codec_Less.f k 1 (⟨#[122]⟩ : ByteArray) 2 (⟨#[97]⟩ : ByteArray)).bind fun t219 => (some t219)) else (some false)) else (some false)) else (some false)) else (some false)) else (some false)) else (some false)) else (some false)) else (some false)) else (some false)) else (some false))))) = some r := H
  have A3 := Aside0.mk A30
  clear A30
  obtain ⟨y194, hy194⟩ : ∃ y_ : List Int, y_ = (([1] : List Int)) := ⟨_, rfl⟩
  replace H : ((codec_Decode.f y194).bind fun bt197 => ((codec_Decode.f (([1, 0, 0] : List Int))).bind fun bt206 => ((codec_EncodeRows.f k (([(⟨(⟨2, (⟨#[97]⟩ : ByteArray)⟩ : S28), (⟨#[98, 99]⟩ : ByteArray)⟩ : S57)] : List (S57)))).bind fun bt215 => (if (strOfNums t177).toList = ([1, 0] : List UInt8) then (if t180 = 0 then (if t184 = 1 then (if t188 = 1 then (if (t189.length : Int) = 0 then (if t192 = 0 then (if bt197.2.2 = 2 then (if bt206.2.2 = 3 then (if (strOfNums bt215.1).toList = ([1, 2, 1, 97, 2, 98, 99] : List UInt8) then (if bt215.2 = 0 then ((codec_Less.f k 1 (⟨#[122]⟩ : ByteArray) 2 (⟨#[97]⟩ : ByteArray)).bind fun t219 => (some t219)) else (some false)) else (some false)) else (some false)) else (some false)) else (some false)) else (some false)) else (some false)) else (some false)) else (some false)) else (some false))))) = some r := by first | (rw [hy194]; with_reducible exact H) | (have H2_ := (Option.bind_some _ _).symm.trans H; rw [hy194]; with_reducible exact H2_) | (have H2_ := (Option.bind_some _ _).symm.trans H; with_reducible exact H2_) | with_reducible exact H | (rw [hy194]; exact H) | exact H
  have Ny194 := Aside0.mk hy194
  clear hy194
  replace H := Option.bind_eq_some_iff.mp H
  obtain ⟨⟨t197, t198, t201⟩, A40, H⟩ := H
  replace H : ((codec_Decode.f (([1, 0, 0] : List Int))).bind fun bt206 => ((codec_EncodeRows.f k (([(⟨(⟨2, (⟨#[97]⟩ : ByteArray)⟩ : S28), (⟨#[98, 99]⟩ : ByteArray)⟩ : S57)] : List (S57)))).bind fun bt215 => (if (strOfNums t177).toList = ([1, 0] : List UInt8) then (if t180 = 0 then (if t184 = 1 then (if t188 = 1 then (if (t189.length : Int) = 0 then (if t192 = 0 then (if t201 = 2 then (if bt206.2.2 = 3 then (if (strOfNums bt215.1).toList = ([1, 2, 1, 97, 2, 98, 99] : List UInt8) then (if bt215.2 = 0 then ((codec_Less.f k 1 (⟨#[122]⟩ : ByteArray) 2 (⟨#[97]⟩ : ByteArray)).bind fun t219 => (some t219)) else (some false)) else (some false)) else (some false)) else (some false)) else (some false)) else (some false)) else (some false)) else (some false)) else (some false)) else (some false)))) = some r := H
  have A4 := Aside0.mk A40
  clear A40
  obtain ⟨y203, hy203⟩ : ∃ y_ : List Int, y_ = (([1, 0, 0] : List Int)) := ⟨_, rfl⟩
  replace H : ((codec_Decode.f y203).bind fun bt206 => ((codec_EncodeRows.f k (([(⟨(⟨2, (⟨#[97]⟩ : ByteArray)⟩ : S28), (⟨#[98, 99]⟩ : ByteArray)⟩ : S57)] : List (S57)))).bind fun bt215 => (if (strOfNums t177).toList = ([1, 0] : List UInt8) then (if t180 = 0 then (if t184 = 1 then (if t188 = 1 then (if (t189.length : Int) = 0 then (if t192 = 0 then (if t201 = 2 then (if bt206.2.2 = 3 then (if (strOfNums bt215.1).toList = ([1, 2, 1, 97, 2, 98, 99] : List UInt8) then (if bt215.2 = 0 then ((codec_Less.f k 1 (⟨#[122]⟩ : ByteArray) 2 (⟨#[97]⟩ : ByteArray)).bind fun t219 => (some t219)) else (some false)) else (some false)) else (some false)) else (some false)) else (some false)) else (some false)) else (some false)) else (some false)) else (some false)) else (some false)))) = some r := by first | (rw [hy203]; with_reducible exact H) | (have H2_ := (Option.bind_some _ _).symm.trans H; rw [hy203]; with_reducible exact H2_) | (have H2_ := (Option.bind_some _ _).symm.trans H; with_reducible exact H2_) | with_reducible exact H | (rw [hy203]; exact H) | exact H
  have Ny203 := Aside0.mk hy203
  clear hy203
  replace H := Option.bind_eq_some_iff.mp H
  obtain ⟨⟨t206, t207, t210⟩, A50, H⟩ := H
  replace H : ((codec_EncodeRows.f k (([(⟨(⟨2, (⟨#[97]⟩ : ByteArray)⟩ : S28), (⟨#[98, 99]⟩ : ByteArray)⟩ : S57)] : List (S57)))).bind fun bt215 => (if (strOfNums t177).toList = ([1, 0] : List UInt8) then (if t180 = 0 then (if t184 = 1 then (if t188 = 1 then (if (t189.length : Int) = 0 then (if t192 = 0 then (if t201 = 2 then (if t210 = 3 then (if (strOfNums bt215.1).toList = ([1, 2, 1, 97, 2, 98, 99] : List UInt8) then (if bt215.2 = 0 then ((codec_Less.f k 1 (⟨#[122]⟩ : ByteArray) 2 (⟨#[97]⟩ : ByteArray)).bind fun t219 => (some t219)) else (some false)) else (some false)) else (some false)) else (some false)) else (some false)) else (some false)) else (some false)) else (some false)) else (some false)) else (some false))) = some r := H
  have A5 := Aside0.mk A50
  clear A50
  obtain ⟨y212, hy212⟩ : ∃ y_ : List (S57), y_ = (([(⟨(⟨2, (⟨#[97]⟩ : ByteArray)⟩ : S28), (⟨#[98, 99]⟩ : ByteArray)⟩ : S57)] : List (S57))) := ⟨_, rfl⟩
  replace H : ((codec_EncodeRows.f k y212).bind fun bt215 => (if (strOfNums t177).toList = ([1, 0] : List UInt8) then (if t180 = 0 then (if t184 = 1 then (if t188 = 1 then (if (t189.length : Int) = 0 then (if t192 = 0 then (if t201 = 2 then (if t210 = 3 then (if (strOfNums bt215.1).toList = ([1, 2, 1, 97, 2, 98, 99] : List UInt8) then (if bt215.2 = 0 then ((codec_Less.f k 1 (⟨#[122]⟩ : ByteArray) 2 (⟨#[97]⟩ : ByteArray)).bind fun t219 => (some t219)) else (some false)) else (some false)) else (some false)) else (some false)) else (some false)) else (some false)) else (some false)) else (some false)) else (some false)) else (some false))) = some r := by first | (rw [hy212]; with_reducible exact H) | (have H2_ := (Option.bind_some _ _).symm.trans H; rw [hy212]; with_reducible exact H2_) | (have H2_ := (Option.bind_some _ _).symm.trans H; with_reducible exact H2_) | with_reducible exact H | (rw [hy212]; exact H) | exact H
  have Ny212 := Aside0.mk hy212
  clear hy212
  replace H := Option.bind_eq_some_iff.mp H
  obtain ⟨⟨t215, t216⟩, A60, H⟩ := H
  replace H : (if (strOfNums t177).toList = ([1, 0] : List UInt8) then (if t180 = 0 then (if t184 = 1 then (if t188 = 1 then (if (t189.length : Int) = 0 then (if t192 = 0 then (if t201 = 2 then (if t210 = 3 then (if (strOfNums t215).toList = ([1, 2, 1, 97, 2, 98, 99] : List UInt8) then (if t216 = 0 then ((codec_Less.f k 1 (⟨#[122]⟩ : ByteArray) 2 (⟨#[97]⟩ : ByteArray)).bind fun t219 => (some t219)) else (some false)) else (some false)) else (some false)) else (some false)) else (some false)) else (some false)) else (some false)) else (some false)) else (some false)) else (some false)) = some r := H
  have A6 := Aside0.mk A60
  clear A60
  by_cases c7 : (strOfNums t177).toList = ([1, 0] : List UInt8)
  · rw [if_pos c7] at H
    have c7b0 : ((strOfNums t177).toList == ([1, 0] : List UInt8)) = true := beq_iff_eq.mpr c7
    have c7b1 : ((strOfNums t177).toList != ([1, 0] : List UInt8)) = false := bne_eq_false_iff_eq.mpr c7
    clear c7
    by_cases c8 : t180 = 0
    · rw [if_pos c8] at H
      have c8b0 : (t180 == 0) = true := beq_iff_eq.mpr c8
      have c8b1 : (t180 != 0) = false := bne_eq_false_iff_eq.mpr c8
      clear c8
      by_cases c9 : t184 = 1
      · rw [if_pos c9] at H
        have c9b0 : (t184 == 1) = true := beq_iff_eq.mpr c9
        have c9b1 : (t184 != 1) = false := bne_eq_false_iff_eq.mpr c9
        clear c9
        by_cases c10 : t188 = 1
        · rw [if_pos c10] at H
          have c10b0 : (t188 == 1) = true := beq_iff_eq.mpr c10
          have c10b1 : (t188 != 1) = false := bne_eq_false_iff_eq.mpr c10
          clear c10
          by_cases c11 : (t189.length : Int) = 0
          · rw [if_pos c11] at H
            have c11b0 : ((t189.length : Int) == 0) = true := beq_iff_eq.mpr c11
            have c11b1 : ((t189.length : Int) != 0) = false := bne_eq_false_iff_eq.mpr c11
            clear c11
            by_cases c12 : t192 = 0
            · rw [if_pos c12] at H
              have c12b0 : (t192 == 0) = true := beq_iff_eq.mpr c12
              have c12b1 : (t192 != 0) = false := bne_eq_false_iff_eq.mpr c12
              clear c12
              by_cases c13 : t201 = 2
              · rw [if_pos c13] at H
                have c13b0 : (t201 == 2) = true := beq_iff_eq.mpr c13
                have c13b1 : (t201 != 2) = false := bne_eq_false_iff_eq.mpr c13
                clear c13
                by_cases c14 : t210 = 3
                · rw [if_pos c14] at H
                  have c14b0 : (t210 == 3) = true := beq_iff_eq.mpr c14
                  have c14b1 : (t210 != 3) = false := bne_eq_false_iff_eq.mpr c14
                  clear c14
                  by_cases c15 : (strOfNums t215).toList = ([1, 2, 1, 97, 2, 98, 99] : List UInt8)
                  · rw [if_pos c15] at H
                    have c15b0 : ((strOfNums t215).toList == ([1, 2, 1, 97, 2, 98, 99] : List UInt8)) = true := beq_iff_eq.mpr c15
                    have c15b1 : ((strOfNums t215).toList != ([1, 2, 1, 97, 2, 98, 99] : List UInt8)) = false := bne_eq_false_iff_eq.mpr c15
                    clear c15
                    by_cases c16 : t216 = 0
                    · rw [if_pos c16] at H
                      have c16b0 : (t216 == 0) = true := beq_iff_eq.mpr c16
                      have c16b1 : (t216 != 0) = false := bne_eq_false_iff_eq.mpr c16
                      clear c16
                      replace H := Option.bind_eq_some_iff.mp H
                      obtain ⟨t219, A170, H⟩ := H
                      replace H : (some t219) = some r := H
                      have A17 := Aside0.mk A170
                      clear A170
                      obtain rfl := Option.some.inj H
                      go_enter Try.func13, Try.ntmps13
                      go_wp2_with (first | ((with_reducible refine gate_callee (f := 16) rfl ?_); refine goesL_ (some 15) rfl rfl Try.func16 (by kernel_rfl) rfl #[.agg #[.int .u32 1, .slice none 0 0]] rfl (by (try simp only [List.map_toArray, List.map_cons, List.map_nil]); first | done | rfl | (simp only [List.length_drop, List.length_take]; rfl) | (rw [IntKind.wrap_u64, Int.emod_eq_of_lt (by omega) (by omega)]; rfl)) ?_; (refine (codec_Encode.calls k 1 _ _ ([] : List (S47)) t177 t180 _ ?side1 ?side2 A1.out).mono ?_); (case side1 => exact Kd.C_nil _ _); (case side2 => exact Nat.le_refl _); rintro e w18 ⟨v178, rfl, ho0, hb⟩; refine ⟨_, rfl, ?_⟩; have n0_ := Aside0.mk (Kd.R_lower ho0 (below_size (by repeat (first | (with_reducible first | exact HB.out | apply below_alloc | apply pw_below_drewN | apply below_drew1) | exact HB.out)))); have n1_ := Aside0.mk (below_step (by repeat (first | (with_reducible first | exact HB.out | apply below_alloc | apply pw_below_drewN | apply below_drew1) | exact HB.out)) hb); clear HB; have HO179 := n0_; have HB := n1_; clear n0_ n1_; (try clear hb); (try clear hb2); (try clear hk); (try clear hi); (try clear ho0)) | ((with_reducible refine gate_callee (f := 16) rfl ?_); refine goesL_ (some 20) rfl rfl Try.func16 (by kernel_rfl) rfl #[.agg #[.int .u32 0, .slice none 0 0]] rfl (by (try simp only [List.map_toArray, List.map_cons, List.map_nil]); first | done | rfl | (simp only [List.length_drop, List.length_take]; rfl) | (rw [IntKind.wrap_u64, Int.emod_eq_of_lt (by omega) (by omega)]; rfl)) ?_; (refine (codec_Encode.calls k 0 _ _ ([] : List (S47)) t181 t184 _ ?side1 ?side2 A2.out).mono ?_); (case side1 => exact Kd.C_nil _ _); (case side2 => exact Nat.le_refl _); rintro e w19 ⟨v182, rfl, ho0, hb⟩; refine ⟨_, rfl, ?_⟩; have n0_ := Aside0.mk (Kd.R_elder' (by (with_reducible repeat (first | apply Kd.R_alloc | apply Kd.R_drewN | apply Kd.R_drew)); exact HO179.out) (Kd.R_base ho0) hb); have n1_ := Aside0.mk (Kd.R_lower (Kd.R_new' ho0 (Kd.R_lt (by (with_reducible repeat (first | apply Kd.R_alloc | apply Kd.R_drewN | apply Kd.R_drew)); exact HO179.out))) (below_size (by repeat (first | (with_reducible first | exact HB.out | apply below_alloc | apply pw_below_drewN | apply below_drew1) | exact HB.out)))); have n2_ := Aside0.mk (below_step (by repeat (first | (with_reducible first | exact HB.out | apply below_alloc | apply pw_below_drewN | apply below_drew1) | exact HB.out)) hb); clear HO179; clear HB; have HO179 := n0_; have HO183 := n1_; have HB := n2_; clear n0_ n1_ n2_; (try clear hb); (try clear hb2); (try clear hk); (try clear hi); (try clear ho0)) | ((with_reducible refine gate_dst (N := 24) rfl ?_); (try (refine gate_guard (by rfl) ?_; dsimp only)); refine Kd.R_lit (Kd.int .u8) _ 5 ?hg (N := 24) ?hd (xs := ([1, 0] : List Int)) (inner := [.int .u8 1, .int .u8 0]) (ok := fun _ => True) (okp := fun _ => True) ?hr ?hp (fun _ hk => hk) trivial (Below.refl _ _) (Nat.le_refl _) (by simp) ?_; (case hd => rfl); (case hg => rfl); (case hr => first | (go_simp; done) | (go_simp; rfl)); (case hp => exact (Reps.one (show Kd.M (Kd.int .u8) _ _ _ 1 [.int .u8 1] from rfl) (Reps.one (show Kd.M (Kd.int .u8) _ _ _ 0 [.int .u8 0] from rfl) (Reps.none _ _)))); intro v186 w20 ho21 hb hg_ hnew_; clear hg_ hnew_; (first | rw [← Ny185.out] at ho21 | (simp only [Int.reduceToNat] at ho21; rw [← Ny185.out] at ho21)); have n0_ := Aside0.mk (Kd.R_elder' (by (with_reducible repeat (first | apply Kd.R_alloc | apply Kd.R_drewN | apply Kd.R_drew)); exact HO179.out) (Kd.R_base ho21) hb); have n1_ := Aside0.mk (Kd.R_elder' (by (with_reducible repeat (first | apply Kd.R_alloc | apply Kd.R_drewN | apply Kd.R_drew)); exact HO183.out) (Kd.R_base ho21) hb); have n2_ := Aside0.mk (Kd.R_lower (Kd.R_new' (Kd.R_new' ho21 (Kd.R_lt (by (with_reducible repeat (first | apply Kd.R_alloc | apply Kd.R_drewN | apply Kd.R_drew)); exact HO179.out))) (Kd.R_lt (by (with_reducible repeat (first | apply Kd.R_alloc | apply Kd.R_drewN | apply Kd.R_drew)); exact HO183.out))) (below_size (by repeat (first | (with_reducible first | exact HB.out | apply below_alloc | apply pw_below_drewN | apply below_drew1) | exact HB.out)))); have n3_ := Aside0.mk (below_step (by repeat (first | (with_reducible first | exact HB.out | apply below_alloc | apply pw_below_drewN | apply below_drew1) | exact HB.out)) hb); clear HO179; clear HO183; clear HB; have HO179 := n0_; have HO183 := n1_; have HO187 := n2_; have HB := n3_; clear n0_ n1_ n2_ n3_; clear hb ho21; obtain ⟨Ao22, co22, eo22⟩ := Kd.R_slice HO187.out; subst eo22) | ((with_reducible refine gate_callee (f := 28) rfl ?_); refine goesL_ (some 25) rfl rfl Try.func28 (by kernel_rfl) rfl #[.slice Ao22 y185.length co22] rfl (by (try simp only [List.map_toArray, List.map_cons, List.map_nil]); first | done | rfl | (simp only [List.length_drop, List.length_take]; rfl) | (rw [IntKind.wrap_u64, Int.emod_eq_of_lt (by omega) (by omega)]; rfl)) ?_; (with_reducible refine (codec_Decode.calls _ _ y185 t188 t189 t192 _ ?side1 ?side2 A3.out).mono ?_); (case side1 => repeat (first | exact (Kd.R_reads' HO187.out).2.2 | (with_reducible refine Kd.C_alloc ?_ _) | (with_reducible refine Kd.C_drewN ?_ _) | (with_reducible refine Kd.C_drew ?_))); (case side2 => exact (Kd.R_reads' HO187.out).2.1); rintro e w23 ⟨v190, rfl, ho0, hb⟩; refine ⟨_, rfl, ?_⟩; have n0_ := Aside0.mk (Kd.R_below (by (with_reducible repeat (first | apply Kd.R_alloc | apply Kd.R_drewN | apply Kd.R_drew)); exact HO179.out) hb); have n1_ := Aside0.mk (Kd.R_below (by (with_reducible repeat (first | apply Kd.R_alloc | apply Kd.R_drewN | apply Kd.R_drew)); exact HO183.out) hb); have n2_ := Aside0.mk (Kd.R_below (by (with_reducible repeat (first | apply Kd.R_alloc | apply Kd.R_drewN | apply Kd.R_drew)); exact HO187.out) hb); have n3_ := Aside0.mk (Kd.S_lower ho0 (below_size (by repeat (first | (with_reducible first | exact HB.out | apply below_alloc | apply pw_below_drewN | apply below_drew1) | exact HB.out)))); have n4_ := Aside0.mk (below_step (by repeat (first | (with_reducible first | exact HB.out | apply below_alloc | apply pw_below_drewN | apply below_drew1) | exact HB.out)) hb); clear HO179; clear HO183; clear HO187; clear HB; have HO179 := n0_; have HO183 := n1_; have HO187 := n2_; have HO191 := n3_; have HB := n4_; clear n0_ n1_ n2_ n3_ n4_; (try clear hb); (try clear hb2); (try clear hk); (try clear hi); (try clear ho0)) | ((with_reducible refine gate_dst (N := 5) rfl ?_); (try (refine gate_guard (by rfl) ?_; dsimp only)); refine box_event ?hg (N := 5) ?hd (cs := #[.int .u32 0, .slice none 0 0]) (t := 25) ?hr ?_; (case hd => rfl); (case hg => rfl); (case hr => first | (go_simp; done) | (go_simp; rfl)); intro gb193 hg w24 hbox hb; have n0_ := Aside0.mk (Kd.R_below (by (with_reducible repeat (first | apply Kd.R_alloc | apply Kd.R_drewN | apply Kd.R_drew)); exact HO179.out) hb); have n1_ := Aside0.mk (Kd.R_below (by (with_reducible repeat (first | apply Kd.R_alloc | apply Kd.R_drewN | apply Kd.R_drew)); exact HO183.out) hb); have n2_ := Aside0.mk (Kd.R_below (by (with_reducible repeat (first | apply Kd.R_alloc | apply Kd.R_drewN | apply Kd.R_drew)); exact HO187.out) hb); have n3_ := Aside0.mk (Kd.S_below (by (with_reducible repeat (first | apply Kd.S_alloc | apply Kd.S_drewN | apply Kd.S_drew)); exact HO191.out) hb); have n4_ := Aside0.mk (below_step (by repeat (first | (with_reducible first | exact HB.out | apply below_alloc | apply pw_below_drewN | apply below_drew1) | exact HB.out)) hb); have n5_ := Aside0.mk (hbox); have n6_ := Aside0.mk ((by rw [hg]; exact (below_size (by repeat (first | (with_reducible first | exact HB.out | apply below_alloc | apply pw_below_drewN | apply below_drew1) | exact HB.out))) : w.heap.size ≤ gb193)); have n7_ := Aside0.mk ((by rw [hg]; exact (below_size (by repeat (first | (with_reducible first | exact HB.out | apply below_alloc | apply pw_below_drewN | apply below_drew1) | exact HB.out))) : w.heap.size ≤ gb193)); clear HO179; clear HO183; clear HO187; clear HO191; clear HB; have HO179 := n0_; have HO183 := n1_; have HO187 := n2_; have HO191 := n3_; have HB := n4_; have BK193 := n5_; have GW193 := n6_; have GE193 := n7_; clear n0_ n1_ n2_ n3_ n4_ n5_ n6_ n7_; clear hb hbox hg; have hcz25_0 : w24.cell? ⟨gb193, 0, none⟩ = some (.int .u32 0) := (blk_cell BK193.out 0).trans rfl; have hcz25_1 : w24.cell? ⟨gb193, 1, none⟩ = some (.slice none 0 0) := (blk_cell BK193.out 1).trans rfl; have hfz25_0 := blk_frozen BK193.out 0; have hfz25_1 := blk_frozen BK193.out 1; obtain ⟨Ao26, co26, eo26⟩ := Kd.S_slice HO191.out; subst eo26) | ((with_reducible refine gate_dst (N := 29) rfl ?_); (try (refine gate_guard (by rfl) ?_; dsimp only)); refine Kd.R_lit (Kd.int .u8) _ 5 ?hg (N := 29) ?hd (xs := ([1] : List Int)) (inner := [.int .u8 1]) (ok := fun _ => True) (okp := fun _ => True) ?hr ?hp (fun _ hk => hk) trivial (Below.refl _ _) (Nat.le_refl _) (by simp) ?_; (case hd => rfl); (case hg => rfl); (case hr => first | (go_simp; done) | (go_simp; rfl)); (case hp => exact (Reps.one (show Kd.M (Kd.int .u8) _ _ _ 1 [.int .u8 1] from rfl) (Reps.none _ _))); intro v195 w27 ho28 hb hg_ hnew_; clear hg_ hnew_; (first | rw [← Ny194.out] at ho28 | (simp only [Int.reduceToNat] at ho28; rw [← Ny194.out] at ho28)); have n0_ := Aside0.mk (Kd.R_elder' (by (with_reducible repeat (first | apply Kd.R_alloc | apply Kd.R_drewN | apply Kd.R_drew)); exact (Kd.R_mono (Kd.R_far (p := ⟨gb193, 1, none⟩) (Kd.R_far (p := ⟨gb193, 0, none⟩) (Kd.R_types HO179.out BK193.out (by decide)) (fun _ hk => hk.2) (.int .u32 t188)) (fun _ hk => hk.2) (.slice Ao26 t189.length co26)) (fun _ h_ => h_.1))) (Kd.R_base ho28) hb); have n1_ := Aside0.mk (Kd.R_elder' (by (with_reducible repeat (first | apply Kd.R_alloc | apply Kd.R_drewN | apply Kd.R_drew)); exact (Kd.R_mono (Kd.R_far (p := ⟨gb193, 1, none⟩) (Kd.R_far (p := ⟨gb193, 0, none⟩) (Kd.R_types HO183.out BK193.out (by decide)) (fun _ hk => hk.2) (.int .u32 t188)) (fun _ hk => hk.2) (.slice Ao26 t189.length co26)) (fun _ h_ => h_.1))) (Kd.R_base ho28) hb); have n2_ := Aside0.mk (Kd.R_elder' (by (with_reducible repeat (first | apply Kd.R_alloc | apply Kd.R_drewN | apply Kd.R_drew)); exact (Kd.R_mono (Kd.R_far (p := ⟨gb193, 1, none⟩) (Kd.R_far (p := ⟨gb193, 0, none⟩) (Kd.R_types HO187.out BK193.out (by decide)) (fun _ hk => hk.2) (.int .u32 t188)) (fun _ hk => hk.2) (.slice Ao26 t189.length co26)) (fun _ h_ => h_.1))) (Kd.R_base ho28) hb); have n3_ := Aside0.mk (Kd.S_below (by (with_reducible repeat (first | apply Kd.S_alloc | apply Kd.S_drewN | apply Kd.S_drew)); exact (Kd.S_mono (Kd.S_far (p := ⟨gb193, 1, none⟩) (Kd.S_far (p := ⟨gb193, 0, none⟩) (Kd.S_types HO191.out BK193.out (by decide)) (fun _ hk => hk.2) (.int .u32 t188)) (fun _ hk => hk.2) (.slice Ao26 t189.length co26)) (fun _ h_ => h_.1))) hb); have n4_ := Aside0.mk (Kd.R_lower (Kd.R_new' (Kd.R_new' (Kd.R_new' ho28 (Kd.R_lt (by (with_reducible repeat (first | apply Kd.R_alloc | apply Kd.R_drewN | apply Kd.R_drew)); exact (Kd.R_mono (Kd.R_far (p := ⟨gb193, 1, none⟩) (Kd.R_far (p := ⟨gb193, 0, none⟩) (Kd.R_types HO179.out BK193.out (by decide)) (fun _ hk => hk.2) (.int .u32 t188)) (fun _ hk => hk.2) (.slice Ao26 t189.length co26)) (fun _ h_ => h_.1))))) (Kd.R_lt (by (with_reducible repeat (first | apply Kd.R_alloc | apply Kd.R_drewN | apply Kd.R_drew)); exact (Kd.R_mono (Kd.R_far (p := ⟨gb193, 1, none⟩) (Kd.R_far (p := ⟨gb193, 0, none⟩) (Kd.R_types HO183.out BK193.out (by decide)) (fun _ hk => hk.2) (.int .u32 t188)) (fun _ hk => hk.2) (.slice Ao26 t189.length co26)) (fun _ h_ => h_.1))))) (Kd.R_lt (by (with_reducible repeat (first | apply Kd.R_alloc | apply Kd.R_drewN | apply Kd.R_drew)); exact (Kd.R_mono (Kd.R_far (p := ⟨gb193, 1, none⟩) (Kd.R_far (p := ⟨gb193, 0, none⟩) (Kd.R_types HO187.out BK193.out (by decide)) (fun _ hk => hk.2) (.int .u32 t188)) (fun _ hk => hk.2) (.slice Ao26 t189.length co26)) (fun _ h_ => h_.1))))) (below_size (by repeat (first | (with_reducible first | exact HB.out | apply below_alloc | apply pw_below_drewN | apply below_drew1 | refine below_set ?_ GE193.out) | exact HB.out)))); have n5_ := Aside0.mk (blk_below (g := gb193) (o := .cells #[.int .u32 t188, .slice Ao26 t189.length co26] 25 (0, 0)) (by (with_reducible repeat (first | refine blk_drewN ?_ _ | refine blk_drew ?_ | refine blk_alloc ?_ _)); refine blk_put (cs := #[.int .u32 t188, .slice none 0 0]) ?_ 1 _ rfl; (with_reducible repeat (first | refine blk_drewN ?_ _ | refine blk_drew ?_ | refine blk_alloc ?_ _)); refine blk_put (cs := #[.int .u32 0, .slice none 0 0]) ?_ 0 _ rfl; (with_reducible repeat (first | refine blk_drewN ?_ _ | refine blk_drew ?_ | refine blk_alloc ?_ _)); exact BK193.out) hb); have n6_ := Aside0.mk (below_step (by repeat (first | (with_reducible first | exact HB.out | apply below_alloc | apply pw_below_drewN | apply below_drew1 | refine below_set ?_ GE193.out) | exact HB.out)) hb); clear HO179; clear HO183; clear HO187; clear HO191; clear BK193; clear HB; have HO179 := n0_; have HO183 := n1_; have HO187 := n2_; have HO191 := n3_; have HO196 := n4_; have BK193 := n5_; have HB := n6_; clear n0_ n1_ n2_ n3_ n4_ n5_ n6_; clear hb ho28; obtain ⟨Ao29, co29, eo29⟩ := Kd.R_slice HO196.out; subst eo29) | ((with_reducible refine gate_callee (f := 28) rfl ?_); refine goesL_ (some 30) rfl rfl Try.func28 (by kernel_rfl) rfl #[.slice Ao29 y194.length co29] rfl (by (try simp only [List.map_toArray, List.map_cons, List.map_nil]); first | done | rfl | (simp only [List.length_drop, List.length_take]; rfl) | (rw [IntKind.wrap_u64, Int.emod_eq_of_lt (by omega) (by omega)]; rfl)) ?_; (with_reducible refine (codec_Decode.calls _ _ y194 t197 t198 t201 _ ?side1 ?side2 A4.out).mono ?_); (case side1 => repeat (first | exact (Kd.R_reads' HO196.out).2.2 | (with_reducible refine Kd.C_alloc ?_ _) | (with_reducible refine Kd.C_drewN ?_ _) | (with_reducible refine Kd.C_drew ?_))); (case side2 => exact (Kd.R_reads' HO196.out).2.1); rintro e w30 ⟨v199, rfl, ho0, hb⟩; refine ⟨_, rfl, ?_⟩; have n0_ := Aside0.mk (Kd.R_below (by (with_reducible repeat (first | apply Kd.R_alloc | apply Kd.R_drewN | apply Kd.R_drew)); exact HO179.out) hb); have n1_ := Aside0.mk (Kd.R_below (by (with_reducible repeat (first | apply Kd.R_alloc | apply Kd.R_drewN | apply Kd.R_drew)); exact HO183.out) hb); have n2_ := Aside0.mk (Kd.R_below (by (with_reducible repeat (first | apply Kd.R_alloc | apply Kd.R_drewN | apply Kd.R_drew)); exact HO187.out) hb); have n3_ := Aside0.mk (Kd.S_elder' (by (with_reducible repeat (first | apply Kd.S_alloc | apply Kd.S_drewN | apply Kd.S_drew)); exact HO191.out) (Kd.S_base ho0) hb); have n4_ := Aside0.mk (Kd.R_below (by (with_reducible repeat (first | apply Kd.R_alloc | apply Kd.R_drewN | apply Kd.R_drew)); exact HO196.out) hb); have n5_ := Aside0.mk (Kd.S_lower (Kd.S_new' ho0 (Kd.S_lt (by (with_reducible repeat (first | apply Kd.S_alloc | apply Kd.S_drewN | apply Kd.S_drew)); exact HO191.out))) (below_size (by repeat (first | (with_reducible first | exact HB.out | apply below_alloc | apply pw_below_drewN | apply below_drew1 | refine below_set ?_ GE193.out) | exact HB.out)))); have n6_ := Aside0.mk (blk_below (g := gb193) (o := .cells #[.int .u32 t188, .slice Ao26 t189.length co26] 25 (0, 0)) (by (with_reducible repeat (first | refine blk_drewN ?_ _ | refine blk_drew ?_ | refine blk_alloc ?_ _)); exact BK193.out) hb); have n7_ := Aside0.mk (below_step (by repeat (first | (with_reducible first | exact HB.out | apply below_alloc | apply pw_below_drewN | apply below_drew1 | refine below_set ?_ GE193.out) | exact HB.out)) hb); clear HO179; clear HO183; clear HO187; clear HO191; clear HO196; clear BK193; clear HB; have HO179 := n0_; have HO183 := n1_; have HO187 := n2_; have HO191 := n3_; have HO196 := n4_; have HO200 := n5_; have BK193 := n6_; have HB := n7_; clear n0_ n1_ n2_ n3_ n4_ n5_ n6_ n7_; (try clear hb); (try clear hb2); (try clear hk); (try clear hi); (try clear ho0)) | ((with_reducible refine gate_dst (N := 7) rfl ?_); (try (refine gate_guard (by rfl) ?_; dsimp only)); refine box_event ?hg (N := 7) ?hd (cs := #[.int .u32 0, .slice none 0 0]) (t := 25) ?hr ?_; (case hd => rfl); (case hg => rfl); (case hr => first | (go_simp; done) | (go_simp; rfl)); intro gb202 hg w31 hbox hb; have n0_ := Aside0.mk (Kd.R_below (by (with_reducible repeat (first | apply Kd.R_alloc | apply Kd.R_drewN | apply Kd.R_drew)); exact HO179.out) hb); have n1_ := Aside0.mk (Kd.R_below (by (with_reducible repeat (first | apply Kd.R_alloc | apply Kd.R_drewN | apply Kd.R_drew)); exact HO183.out) hb); have n2_ := Aside0.mk (Kd.R_below (by (with_reducible repeat (first | apply Kd.R_alloc | apply Kd.R_drewN | apply Kd.R_drew)); exact HO187.out) hb); have n3_ := Aside0.mk (Kd.S_below (by (with_reducible repeat (first | apply Kd.S_alloc | apply Kd.S_drewN | apply Kd.S_drew)); exact HO191.out) hb); have n4_ := Aside0.mk (Kd.R_below (by (with_reducible repeat (first | apply Kd.R_alloc | apply Kd.R_drewN | apply Kd.R_drew)); exact HO196.out) hb); have n5_ := Aside0.mk (Kd.S_below (by (with_reducible repeat (first | apply Kd.S_alloc | apply Kd.S_drewN | apply Kd.S_drew)); exact HO200.out) hb); have n6_ := Aside0.mk (blk_below (g := gb193) (o := .cells #[.int .u32 t188, .slice Ao26 t189.length co26] 25 (0, 0)) (by (with_reducible repeat (first | refine blk_drewN ?_ _ | refine blk_drew ?_ | refine blk_alloc ?_ _)); exact BK193.out) hb); have n7_ := Aside0.mk (below_step (by repeat (first | (with_reducible first | exact HB.out | apply below_alloc | apply pw_below_drewN | apply below_drew1 | refine below_set ?_ GE193.out) | exact HB.out)) hb); have n8_ := Aside0.mk (hbox); have n9_ := Aside0.mk ((by rw [hg]; exact (below_size (by repeat (first | (with_reducible first | exact HB.out | apply below_alloc | apply pw_below_drewN | apply below_drew1 | refine below_set ?_ GE193.out) | exact HB.out))) : w.heap.size ≤ gb202)); have n10_ := Aside0.mk ((by rw [hg]; exact (below_size (by repeat (first | (with_reducible first | exact HB.out | apply below_alloc | apply pw_below_drewN | apply below_drew1 | refine below_set ?_ GE193.out) | exact HB.out))) : w.heap.size ≤ gb202)); have n11_ := Aside0.mk ((by rw [hg]; exact Nat.ne_of_lt (blk_lt (g := gb193) (o := .cells #[.int .u32 t188, .slice Ao26 t189.length co26] 25 (0, 0)) (by (with_reducible repeat (first | refine blk_drewN ?_ _ | refine blk_drew ?_ | refine blk_alloc ?_ _)); exact BK193.out)) : gb193 ≠ gb202)); have n12_ := Aside0.mk ((by rw [hg]; exact Nat.ne_of_gt (blk_lt (g := gb193) (o := .cells #[.int .u32 t188, .slice Ao26 t189.length co26] 25 (0, 0)) (by (with_reducible repeat (first | refine blk_drewN ?_ _ | refine blk_drew ?_ | refine blk_alloc ?_ _)); exact BK193.out)) : gb202 ≠ gb193)); clear HO179; clear HO183; clear HO187; clear HO191; clear HO196; clear HO200; clear BK193; clear HB; have HO179 := n0_; have HO183 := n1_; have HO187 := n2_; have HO191 := n3_; have HO196 := n4_; have HO200 := n5_; have BK193 := n6_; have HB := n7_; have BK202 := n8_; have GW202 := n9_; have GE202 := n10_; have NB193_202 := n11_; have NB202_193 := n12_; clear n0_ n1_ n2_ n3_ n4_ n5_ n6_ n7_ n8_ n9_ n10_ n11_ n12_; clear hb hbox hg; have hnb32 := NB202_193.out; have hnc32 := NB193_202.out; have hcz33_0 : w31.cell? ⟨gb202, 0, none⟩ = some (.int .u32 0) := (blk_cell BK202.out 0).trans rfl; have hcz33_1 : w31.cell? ⟨gb202, 1, none⟩ = some (.slice none 0 0) := (blk_cell BK202.out 1).trans rfl; have hfz33_0 := blk_frozen BK202.out 0; have hfz33_1 := blk_frozen BK202.out 1; obtain ⟨Ao34, co34, eo34⟩ := Kd.S_slice HO200.out; subst eo34) | ((with_reducible refine gate_dst (N := 34) rfl ?_); (try (refine gate_guard (by rfl) ?_; dsimp only)); refine Kd.R_lit (Kd.int .u8) _ 5 ?hg (N := 34) ?hd (xs := ([1, 0, 0] : List Int)) (inner := [.int .u8 1, .int .u8 0, .int .u8 0]) (ok := fun _ => True) (okp := fun _ => True) ?hr ?hp (fun _ hk => hk) trivial (Below.refl _ _) (Nat.le_refl _) (by simp) ?_; (case hd => rfl); (case hg => rfl); (case hr => first | (go_simp; done) | (go_simp; rfl)); (case hp => exact (Reps.one (show Kd.M (Kd.int .u8) _ _ _ 1 [.int .u8 1] from rfl) (Reps.one (show Kd.M (Kd.int .u8) _ _ _ 0 [.int .u8 0] from rfl) (Reps.one (show Kd.M (Kd.int .u8) _ _ _ 0 [.int .u8 0] from rfl) (Reps.none _ _))))); intro v204 w35 ho36 hb hg_ hnew_; clear hg_ hnew_; (first | rw [← Ny203.out] at ho36 | (simp only [Int.reduceToNat] at ho36; rw [← Ny203.out] at ho36)); have n0_ := Aside0.mk (Kd.R_elder' (by (with_reducible repeat (first | apply Kd.R_alloc | apply Kd.R_drewN | apply Kd.R_drew)); exact (Kd.R_mono (Kd.R_far (p := ⟨gb202, 1, none⟩) (Kd.R_far (p := ⟨gb202, 0, none⟩) (Kd.R_types HO179.out BK202.out (by decide)) (fun _ hk => hk.2) (.int .u32 t197)) (fun _ hk => hk.2) (.slice Ao34 t198.length co34)) (fun _ h_ => h_.1))) (Kd.R_base ho36) hb); have n1_ := Aside0.mk (Kd.R_elder' (by (with_reducible repeat (first | apply Kd.R_alloc | apply Kd.R_drewN | apply Kd.R_drew)); exact (Kd.R_mono (Kd.R_far (p := ⟨gb202, 1, none⟩) (Kd.R_far (p := ⟨gb202, 0, none⟩) (Kd.R_types HO183.out BK202.out (by decide)) (fun _ hk => hk.2) (.int .u32 t197)) (fun _ hk => hk.2) (.slice Ao34 t198.length co34)) (fun _ h_ => h_.1))) (Kd.R_base ho36) hb); have n2_ := Aside0.mk (Kd.R_elder' (by (with_reducible repeat (first | apply Kd.R_alloc | apply Kd.R_drewN | apply Kd.R_drew)); exact (Kd.R_mono (Kd.R_far (p := ⟨gb202, 1, none⟩) (Kd.R_far (p := ⟨gb202, 0, none⟩) (Kd.R_types HO187.out BK202.out (by decide)) (fun _ hk => hk.2) (.int .u32 t197)) (fun _ hk => hk.2) (.slice Ao34 t198.length co34)) (fun _ h_ => h_.1))) (Kd.R_base ho36) hb); have n3_ := Aside0.mk (Kd.S_below (by (with_reducible repeat (first | apply Kd.S_alloc | apply Kd.S_drewN | apply Kd.S_drew)); exact (Kd.S_mono (Kd.S_far (p := ⟨gb202, 1, none⟩) (Kd.S_far (p := ⟨gb202, 0, none⟩) (Kd.S_types HO191.out BK202.out (by decide)) (fun _ hk => hk.2) (.int .u32 t197)) (fun _ hk => hk.2) (.slice Ao34 t198.length co34)) (fun _ h_ => h_.1))) hb); have n4_ := Aside0.mk (Kd.R_elder' (by (with_reducible repeat (first | apply Kd.R_alloc | apply Kd.R_drewN | apply Kd.R_drew)); exact (Kd.R_mono (Kd.R_far (p := ⟨gb202, 1, none⟩) (Kd.R_far (p := ⟨gb202, 0, none⟩) (Kd.R_types HO196.out BK202.out (by decide)) (fun _ hk => hk.2) (.int .u32 t197)) (fun _ hk => hk.2) (.slice Ao34 t198.length co34)) (fun _ h_ => h_.1))) (Kd.R_base ho36) hb); have n5_ := Aside0.mk (Kd.S_below (by (with_reducible repeat (first | apply Kd.S_alloc | apply Kd.S_drewN | apply Kd.S_drew)); exact (Kd.S_mono (Kd.S_far (p := ⟨gb202, 1, none⟩) (Kd.S_far (p := ⟨gb202, 0, none⟩) (Kd.S_types HO200.out BK202.out (by decide)) (fun _ hk => hk.2) (.int .u32 t197)) (fun _ hk => hk.2) (.slice Ao34 t198.length co34)) (fun _ h_ => h_.1))) hb); have n6_ := Aside0.mk (Kd.R_lower (Kd.R_new' (Kd.R_new' (Kd.R_new' (Kd.R_new' ho36 (Kd.R_lt (by (with_reducible repeat (first | apply Kd.R_alloc | apply Kd.R_drewN | apply Kd.R_drew)); exact (Kd.R_mono (Kd.R_far (p := ⟨gb202, 1, none⟩) (Kd.R_far (p := ⟨gb202, 0, none⟩) (Kd.R_types HO179.out BK202.out (by decide)) (fun _ hk => hk.2) (.int .u32 t197)) (fun _ hk => hk.2) (.slice Ao34 t198.length co34)) (fun _ h_ => h_.1))))) (Kd.R_lt (by (with_reducible repeat (first | apply Kd.R_alloc | apply Kd.R_drewN | apply Kd.R_drew)); exact (Kd.R_mono (Kd.R_far (p := ⟨gb202, 1, none⟩) (Kd.R_far (p := ⟨gb202, 0, none⟩) (Kd.R_types HO183.out BK202.out (by decide)) (fun _ hk => hk.2) (.int .u32 t197)) (fun _ hk => hk.2) (.slice Ao34 t198.length co34)) (fun _ h_ => h_.1))))) (Kd.R_lt (by (with_reducible repeat (first | apply Kd.R_alloc | apply Kd.R_drewN | apply Kd.R_drew)); exact (Kd.R_mono (Kd.R_far (p := ⟨gb202, 1, none⟩) (Kd.R_far (p := ⟨gb202, 0, none⟩) (Kd.R_types HO187.out BK202.out (by decide)) (fun _ hk => hk.2) (.int .u32 t197)) (fun _ hk => hk.2) (.slice Ao34 t198.length co34)) (fun _ h_ => h_.1))))) (Kd.R_lt (by (with_reducible repeat (first | apply Kd.R_alloc | apply Kd.R_drewN | apply Kd.R_drew)); exact (Kd.R_mono (Kd.R_far (p := ⟨gb202, 1, none⟩) (Kd.R_far (p := ⟨gb202, 0, none⟩) (Kd.R_types HO196.out BK202.out (by decide)) (fun _ hk => hk.2) (.int .u32 t197)) (fun _ hk => hk.2) (.slice Ao34 t198.length co34)) (fun _ h_ => h_.1))))) (below_size (by repeat (first | (with_reducible first | exact HB.out | apply below_alloc | apply pw_below_drewN | apply below_drew1 | refine below_set ?_ GE193.out | refine below_set ?_ GE202.out) | exact HB.out)))); have n7_ := Aside0.mk (blk_below (g := gb193) (o := .cells #[.int .u32 t188, .slice Ao26 t189.length co26] 25 (0, 0)) (by (with_reducible repeat (first | refine blk_drewN ?_ _ | refine blk_drew ?_ | refine blk_alloc ?_ _)); refine blk_far ?_ NB193_202.out _; (with_reducible repeat (first | refine blk_drewN ?_ _ | refine blk_drew ?_ | refine blk_alloc ?_ _)); refine blk_far ?_ NB193_202.out _; (with_reducible repeat (first | refine blk_drewN ?_ _ | refine blk_drew ?_ | refine blk_alloc ?_ _)); exact BK193.out) hb); have n8_ := Aside0.mk (blk_below (g := gb202) (o := .cells #[.int .u32 t197, .slice Ao34 t198.length co34] 25 (0, 0)) (by (with_reducible repeat (first | refine blk_drewN ?_ _ | refine blk_drew ?_ | refine blk_alloc ?_ _)); refine blk_put (cs := #[.int .u32 t197, .slice none 0 0]) ?_ 1 _ rfl; (with_reducible repeat (first | refine blk_drewN ?_ _ | refine blk_drew ?_ | refine blk_alloc ?_ _)); refine blk_put (cs := #[.int .u32 0, .slice none 0 0]) ?_ 0 _ rfl; (with_reducible repeat (first | refine blk_drewN ?_ _ | refine blk_drew ?_ | refine blk_alloc ?_ _)); exact BK202.out) hb); have n9_ := Aside0.mk (below_step (by repeat (first | (with_reducible first | exact HB.out | apply below_alloc | apply pw_below_drewN | apply below_drew1 | refine below_set ?_ GE193.out | refine below_set ?_ GE202.out) | exact HB.out)) hb); clear HO179; clear HO183; clear HO187; clear HO191; clear HO196; clear HO200; clear BK193; clear BK202; clear HB; have HO179 := n0_; have HO183 := n1_; have HO187 := n2_; have HO191 := n3_; have HO196 := n4_; have HO200 := n5_; have HO205 := n6_; have BK193 := n7_; have BK202 := n8_; have HB := n9_; clear n0_ n1_ n2_ n3_ n4_ n5_ n6_ n7_ n8_ n9_; clear hb ho36; obtain ⟨Ao37, co37, eo37⟩ := Kd.R_slice HO205.out; subst eo37) | ((with_reducible refine gate_callee (f := 28) rfl ?_); refine goesL_ (some 35) rfl rfl Try.func28 (by kernel_rfl) rfl #[.slice Ao37 y203.length co37] rfl (by (try simp only [List.map_toArray, List.map_cons, List.map_nil]); first | done | rfl | (simp only [List.length_drop, List.length_take]; rfl) | (rw [IntKind.wrap_u64, Int.emod_eq_of_lt (by omega) (by omega)]; rfl)) ?_; (with_reducible refine (codec_Decode.calls _ _ y203 t206 t207 t210 _ ?side1 ?side2 A5.out).mono ?_); (case side1 => repeat (first | exact (Kd.R_reads' HO205.out).2.2 | (with_reducible refine Kd.C_alloc ?_ _) | (with_reducible refine Kd.C_drewN ?_ _) | (with_reducible refine Kd.C_drew ?_))); (case side2 => exact (Kd.R_reads' HO205.out).2.1); rintro e w38 ⟨v208, rfl, ho0, hb⟩; refine ⟨_, rfl, ?_⟩; have n0_ := Aside0.mk (Kd.R_below (by (with_reducible repeat (first | apply Kd.R_alloc | apply Kd.R_drewN | apply Kd.R_drew)); exact HO179.out) hb); have n1_ := Aside0.mk (Kd.R_below (by (with_reducible repeat (first | apply Kd.R_alloc | apply Kd.R_drewN | apply Kd.R_drew)); exact HO183.out) hb); have n2_ := Aside0.mk (Kd.R_below (by (with_reducible repeat (first | apply Kd.R_alloc | apply Kd.R_drewN | apply Kd.R_drew)); exact HO187.out) hb); have n3_ := Aside0.mk (Kd.S_elder' (by (with_reducible repeat (first | apply Kd.S_alloc | apply Kd.S_drewN | apply Kd.S_drew)); exact HO191.out) (Kd.S_base ho0) hb); have n4_ := Aside0.mk (Kd.R_below (by (with_reducible repeat (first | apply Kd.R_alloc | apply Kd.R_drewN | apply Kd.R_drew)); exact HO196.out) hb); have n5_ := Aside0.mk (Kd.S_elder' (by (with_reducible repeat (first | apply Kd.S_alloc | apply Kd.S_drewN | apply Kd.S_drew)); exact HO200.out) (Kd.S_base ho0) hb); have n6_ := Aside0.mk (Kd.R_below (by (with_reducible repeat (first | apply Kd.R_alloc | apply Kd.R_drewN | apply Kd.R_drew)); exact HO205.out) hb); have n7_ := Aside0.mk (Kd.S_lower (Kd.S_new' (Kd.S_new' ho0 (Kd.S_lt (by (with_reducible repeat (first | apply Kd.S_alloc | apply Kd.S_drewN | apply Kd.S_drew)); exact HO191.out))) (Kd.S_lt (by (with_reducible repeat (first | apply Kd.S_alloc | apply Kd.S_drewN | apply Kd.S_drew)); exact HO200.out))) (below_size (by repeat (first | (with_reducible first | exact HB.out | apply below_alloc | apply pw_below_drewN | apply below_drew1 | refine below_set ?_ GE193.out | refine below_set ?_ GE202.out) | exact HB.out)))); have n8_ := Aside0.mk (blk_below (g := gb193) (o := .cells #[.int .u32 t188, .slice Ao26 t189.length co26] 25 (0, 0)) (by (with_reducible repeat (first | refine blk_drewN ?_ _ | refine blk_drew ?_ | refine blk_alloc ?_ _)); exact BK193.out) hb); have n9_ := Aside0.mk (blk_below (g := gb202) (o := .cells #[.int .u32 t197, .slice Ao34 t198.length co34] 25 (0, 0)) (by (with_reducible repeat (first | refine blk_drewN ?_ _ | refine blk_drew ?_ | refine blk_alloc ?_ _)); exact BK202.out) hb); have n10_ := Aside0.mk (below_step (by repeat (first | (with_reducible first | exact HB.out | apply below_alloc | apply pw_below_drewN | apply below_drew1 | refine below_set ?_ GE193.out | refine below_set ?_ GE202.out) | exact HB.out)) hb); clear HO179; clear HO183; clear HO187; clear HO191; clear HO196; clear HO200; clear HO205; clear BK193; clear BK202; clear HB; have HO179 := n0_; have HO183 := n1_; have HO187 := n2_; have HO191 := n3_; have HO196 := n4_; have HO200 := n5_; have HO205 := n6_; have HO209 := n7_; have BK193 := n8_; have BK202 := n9_; have HB := n10_; clear n0_ n1_ n2_ n3_ n4_ n5_ n6_ n7_ n8_ n9_ n10_; (try clear hb); (try clear hb2); (try clear hk); (try clear hi); (try clear ho0)) | ((with_reducible refine gate_dst (N := 9) rfl ?_); (try (refine gate_guard (by rfl) ?_; dsimp only)); refine box_event ?hg (N := 9) ?hd (cs := #[.int .u32 0, .slice none 0 0]) (t := 25) ?hr ?_; (case hd => rfl); (case hg => rfl); (case hr => first | (go_simp; done) | (go_simp; rfl)); intro gb211 hg w39 hbox hb; have n0_ := Aside0.mk (Kd.R_below (by (with_reducible repeat (first | apply Kd.R_alloc | apply Kd.R_drewN | apply Kd.R_drew)); exact HO179.out) hb); have n1_ := Aside0.mk (Kd.R_below (by (with_reducible repeat (first | apply Kd.R_alloc | apply Kd.R_drewN | apply Kd.R_drew)); exact HO183.out) hb); have n2_ := Aside0.mk (Kd.R_below (by (with_reducible repeat (first | apply Kd.R_alloc | apply Kd.R_drewN | apply Kd.R_drew)); exact HO187.out) hb); have n3_ := Aside0.mk (Kd.S_below (by (with_reducible repeat (first | apply Kd.S_alloc | apply Kd.S_drewN | apply Kd.S_drew)); exact HO191.out) hb); have n4_ := Aside0.mk (Kd.R_below (by (with_reducible repeat (first | apply Kd.R_alloc | apply Kd.R_drewN | apply Kd.R_drew)); exact HO196.out) hb); have n5_ := Aside0.mk (Kd.S_below (by (with_reducible repeat (first | apply Kd.S_alloc | apply Kd.S_drewN | apply Kd.S_drew)); exact HO200.out) hb); have n6_ := Aside0.mk (Kd.R_below (by (with_reducible repeat (first | apply Kd.R_alloc | apply Kd.R_drewN | apply Kd.R_drew)); exact HO205.out) hb); have n7_ := Aside0.mk (Kd.S_below (by (with_reducible repeat (first | apply Kd.S_alloc | apply Kd.S_drewN | apply Kd.S_drew)); exact HO209.out) hb); have n8_ := Aside0.mk (blk_below (g := gb193) (o := .cells #[.int .u32 t188, .slice Ao26 t189.length co26] 25 (0, 0)) (by (with_reducible repeat (first | refine blk_drewN ?_ _ | refine blk_drew ?_ | refine blk_alloc ?_ _)); exact BK193.out) hb); have n9_ := Aside0.mk (blk_below (g := gb202) (o := .cells #[.int .u32 t197, .slice Ao34 t198.length co34] 25 (0, 0)) (by (with_reducible repeat (first | refine blk_drewN ?_ _ | refine blk_drew ?_ | refine blk_alloc ?_ _)); exact BK202.out) hb); have n10_ := Aside0.mk (below_step (by repeat (first | (with_reducible first | exact HB.out | apply below_alloc | apply pw_below_drewN | apply below_drew1 | refine below_set ?_ GE193.out | refine below_set ?_ GE202.out) | exact HB.out)) hb); have n11_ := Aside0.mk (hbox); have n12_ := Aside0.mk ((by rw [hg]; exact (below_size (by repeat (first | (with_reducible first | exact HB.out | apply below_alloc | apply pw_below_drewN | apply below_drew1 | refine below_set ?_ GE193.out | refine below_set ?_ GE202.out) | exact HB.out))) : w.heap.size ≤ gb211)); have n13_ := Aside0.mk ((by rw [hg]; exact (below_size (by repeat (first | (with_reducible first | exact HB.out | apply below_alloc | apply pw_below_drewN | apply below_drew1 | refine below_set ?_ GE193.out | refine below_set ?_ GE202.out) | exact HB.out))) : w.heap.size ≤ gb211)); have n14_ := Aside0.mk ((by rw [hg]; exact Nat.ne_of_lt (blk_lt (g := gb193) (o := .cells #[.int .u32 t188, .slice Ao26 t189.length co26] 25 (0, 0)) (by (with_reducible repeat (first | refine blk_drewN ?_ _ | refine blk_drew ?_ | refine blk_alloc ?_ _)); exact BK193.out)) : gb193 ≠ gb211)); have n15_ := Aside0.mk ((by rw [hg]; exact Nat.ne_of_gt (blk_lt (g := gb193) (o := .cells #[.int .u32 t188, .slice Ao26 t189.length co26] 25 (0, 0)) (by (with_reducible repeat (first | refine blk_drewN ?_ _ | refine blk_drew ?_ | refine blk_alloc ?_ _)); exact BK193.out)) : gb211 ≠ gb193)); have n16_ := Aside0.mk ((by rw [hg]; exact Nat.ne_of_lt (blk_lt (g := gb202) (o := .cells #[.int .u32 t197, .slice Ao34 t198.length co34] 25 (0, 0)) (by (with_reducible repeat (first | refine blk_drewN ?_ _ | refine blk_drew ?_ | refine blk_alloc ?_ _)); exact BK202.out)) : gb202 ≠ gb211)); have n17_ := Aside0.mk ((by rw [hg]; exact Nat.ne_of_gt (blk_lt (g := gb202) (o := .cells #[.int .u32 t197, .slice Ao34 t198.length co34] 25 (0, 0)) (by (with_reducible repeat (first | refine blk_drewN ?_ _ | refine blk_drew ?_ | refine blk_alloc ?_ _)); exact BK202.out)) : gb211 ≠ gb202)); clear HO179; clear HO183; clear HO187; clear HO191; clear HO196; clear HO200; clear HO205; clear HO209; clear BK193; clear BK202; clear HB; have HO179 := n0_; have HO183 := n1_; have HO187 := n2_; have HO191 := n3_; have HO196 := n4_; have HO200 := n5_; have HO205 := n6_; have HO209 := n7_; have BK193 := n8_; have BK202 := n9_; have HB := n10_; have BK211 := n11_; have GW211 := n12_; have GE211 := n13_; have NB193_211 := n14_; have NB211_193 := n15_; have NB202_211 := n16_; have NB211_202 := n17_; clear n0_ n1_ n2_ n3_ n4_ n5_ n6_ n7_ n8_ n9_ n10_ n11_ n12_ n13_ n14_ n15_ n16_ n17_; clear hb hbox hg; have hnb40 := NB211_193.out; have hnc40 := NB193_211.out; have hnb41 := NB211_202.out; have hnc41 := NB202_211.out; have hcz42_0 : w39.cell? ⟨gb211, 0, none⟩ = some (.int .u32 0) := (blk_cell BK211.out 0).trans rfl; have hcz42_1 : w39.cell? ⟨gb211, 1, none⟩ = some (.slice none 0 0) := (blk_cell BK211.out 1).trans rfl; have hfz42_0 := blk_frozen BK211.out 0; have hfz42_1 := blk_frozen BK211.out 1; obtain ⟨Ao43, co43, eo43⟩ := Kd.S_slice HO209.out; subst eo43) | ((with_reducible refine gate_dst (N := 41) rfl ?_); (try (refine gate_guard (by rfl) ?_; dsimp only)); refine Kd.R_lit k57 _ 57 ?hg (N := 41) ?hd (xs := ([(⟨(⟨2, (⟨#[97]⟩ : ByteArray)⟩ : S28), (⟨#[98, 99]⟩ : ByteArray)⟩ : S57)] : List (S57))) (inner := [.int .u8 2, .string (⟨#[97]⟩ : ByteArray), .string (⟨#[98, 99]⟩ : ByteArray)]) (ok := fun _ => True) (okp := fun _ => True) ?hr ?hp (fun _ hk => hk) trivial (Below.refl _ _) (Nat.le_refl _) (by simp) ?_; (case hd => rfl); (case hg => rfl); (case hr => first | (go_simp; done) | (go_simp; rfl)); (case hp => exact (Reps.c3 (show Kd.M k57 _ _ _ (⟨(⟨2, (⟨#[97]⟩ : ByteArray)⟩ : S28), (⟨#[98, 99]⟩ : ByteArray)⟩ : S57) [.int .u8 2, .string (⟨#[97]⟩ : ByteArray), .string (⟨#[98, 99]⟩ : ByteArray)] from (k57_mkM _ _ _ (⟨(⟨2, (⟨#[97]⟩ : ByteArray)⟩ : S28), (⟨#[98, 99]⟩ : ByteArray)⟩ : S57) )) (Reps.none _ _))); intro v213 w44 ho45 hb hg_ hnew_; clear hg_ hnew_; (first | rw [← Ny212.out] at ho45 | (simp only [Int.reduceToNat] at ho45; rw [← Ny212.out] at ho45)); have n0_ := Aside0.mk (Kd.R_below (by (with_reducible repeat (first | apply Kd.R_alloc | apply Kd.R_drewN | apply Kd.R_drew)); exact (Kd.R_mono (Kd.R_far (p := ⟨gb211, 1, none⟩) (Kd.R_far (p := ⟨gb211, 0, none⟩) (Kd.R_types HO179.out BK211.out (by decide)) (fun _ hk => hk.2) (.int .u32 t206)) (fun _ hk => hk.2) (.slice Ao43 t207.length co43)) (fun _ h_ => h_.1))) hb); have n1_ := Aside0.mk (Kd.R_below (by (with_reducible repeat (first | apply Kd.R_alloc | apply Kd.R_drewN | apply Kd.R_drew)); exact (Kd.R_mono (Kd.R_far (p := ⟨gb211, 1, none⟩) (Kd.R_far (p := ⟨gb211, 0, none⟩) (Kd.R_types HO183.out BK211.out (by decide)) (fun _ hk => hk.2) (.int .u32 t206)) (fun _ hk => hk.2) (.slice Ao43 t207.length co43)) (fun _ h_ => h_.1))) hb); have n2_ := Aside0.mk (Kd.R_below (by (with_reducible repeat (first | apply Kd.R_alloc | apply Kd.R_drewN | apply Kd.R_drew)); exact (Kd.R_mono (Kd.R_far (p := ⟨gb211, 1, none⟩) (Kd.R_far (p := ⟨gb211, 0, none⟩) (Kd.R_types HO187.out BK211.out (by decide)) (fun _ hk => hk.2) (.int .u32 t206)) (fun _ hk => hk.2) (.slice Ao43 t207.length co43)) (fun _ h_ => h_.1))) hb); have n3_ := Aside0.mk (Kd.S_below (by (with_reducible repeat (first | apply Kd.S_alloc | apply Kd.S_drewN | apply Kd.S_drew)); exact (Kd.S_mono (Kd.S_far (p := ⟨gb211, 1, none⟩) (Kd.S_far (p := ⟨gb211, 0, none⟩) (Kd.S_types HO191.out BK211.out (by decide)) (fun _ hk => hk.2) (.int .u32 t206)) (fun _ hk => hk.2) (.slice Ao43 t207.length co43)) (fun _ h_ => h_.1))) hb); have n4_ := Aside0.mk (Kd.R_below (by (with_reducible repeat (first | apply Kd.R_alloc | apply Kd.R_drewN | apply Kd.R_drew)); exact (Kd.R_mono (Kd.R_far (p := ⟨gb211, 1, none⟩) (Kd.R_far (p := ⟨gb211, 0, none⟩) (Kd.R_types HO196.out BK211.out (by decide)) (fun _ hk => hk.2) (.int .u32 t206)) (fun _ hk => hk.2) (.slice Ao43 t207.length co43)) (fun _ h_ => h_.1))) hb); have n5_ := Aside0.mk (Kd.S_below (by (with_reducible repeat (first | apply Kd.S_alloc | apply Kd.S_drewN | apply Kd.S_drew)); exact (Kd.S_mono (Kd.S_far (p := ⟨gb211, 1, none⟩) (Kd.S_far (p := ⟨gb211, 0, none⟩) (Kd.S_types HO200.out BK211.out (by decide)) (fun _ hk => hk.2) (.int .u32 t206)) (fun _ hk => hk.2) (.slice Ao43 t207.length co43)) (fun _ h_ => h_.1))) hb); have n6_ := Aside0.mk (Kd.R_below (by (with_reducible repeat (first | apply Kd.R_alloc | apply Kd.R_drewN | apply Kd.R_drew)); exact (Kd.R_mono (Kd.R_far (p := ⟨gb211, 1, none⟩) (Kd.R_far (p := ⟨gb211, 0, none⟩) (Kd.R_types HO205.out BK211.out (by decide)) (fun _ hk => hk.2) (.int .u32 t206)) (fun _ hk => hk.2) (.slice Ao43 t207.length co43)) (fun _ h_ => h_.1))) hb); have n7_ := Aside0.mk (Kd.S_below (by (with_reducible repeat (first | apply Kd.S_alloc | apply Kd.S_drewN | apply Kd.S_drew)); exact (Kd.S_mono (Kd.S_far (p := ⟨gb211, 1, none⟩) (Kd.S_far (p := ⟨gb211, 0, none⟩) (Kd.S_types HO209.out BK211.out (by decide)) (fun _ hk => hk.2) (.int .u32 t206)) (fun _ hk => hk.2) (.slice Ao43 t207.length co43)) (fun _ h_ => h_.1))) hb); have n8_ := Aside0.mk (Kd.R_lower ho45 (below_size (by repeat (first | (with_reducible first | exact HB.out | apply below_alloc | apply pw_below_drewN | apply below_drew1 | refine below_set ?_ GE193.out | refine below_set ?_ GE202.out | refine below_set ?_ GE211.out) | exact HB.out)))); have n9_ := Aside0.mk (blk_below (g := gb193) (o := .cells #[.int .u32 t188, .slice Ao26 t189.length co26] 25 (0, 0)) (by (with_reducible repeat (first | refine blk_drewN ?_ _ | refine blk_drew ?_ | refine blk_alloc ?_ _)); refine blk_far ?_ NB193_211.out _; (with_reducible repeat (first | refine blk_drewN ?_ _ | refine blk_drew ?_ | refine blk_alloc ?_ _)); refine blk_far ?_ NB193_211.out _; (with_reducible repeat (first | refine blk_drewN ?_ _ | refine blk_drew ?_ | refine blk_alloc ?_ _)); exact BK193.out) hb); have n10_ := Aside0.mk (blk_below (g := gb202) (o := .cells #[.int .u32 t197, .slice Ao34 t198.length co34] 25 (0, 0)) (by (with_reducible repeat (first | refine blk_drewN ?_ _ | refine blk_drew ?_ | refine blk_alloc ?_ _)); refine blk_far ?_ NB202_211.out _; (with_reducible repeat (first | refine blk_drewN ?_ _ | refine blk_drew ?_ | refine blk_alloc ?_ _)); refine blk_far ?_ NB202_211.out _; (with_reducible repeat (first | refine blk_drewN ?_ _ | refine blk_drew ?_ | refine blk_alloc ?_ _)); exact BK202.out) hb); have n11_ := Aside0.mk (blk_below (g := gb211) (o := .cells #[.int .u32 t206, .slice Ao43 t207.length co43] 25 (0, 0)) (by (with_reducible repeat (first | refine blk_drewN ?_ _ | refine blk_drew ?_ | refine blk_alloc ?_ _)); refine blk_put (cs := #[.int .u32 t206, .slice none 0 0]) ?_ 1 _ rfl; (with_reducible repeat (first | refine blk_drewN ?_ _ | refine blk_drew ?_ | refine blk_alloc ?_ _)); refine blk_put (cs := #[.int .u32 0, .slice none 0 0]) ?_ 0 _ rfl; (with_reducible repeat (first | refine blk_drewN ?_ _ | refine blk_drew ?_ | refine blk_alloc ?_ _)); exact BK211.out) hb); have n12_ := Aside0.mk (below_step (by repeat (first | (with_reducible first | exact HB.out | apply below_alloc | apply pw_below_drewN | apply below_drew1 | refine below_set ?_ GE193.out | refine below_set ?_ GE202.out | refine below_set ?_ GE211.out) | exact HB.out)) hb); clear HO179; clear HO183; clear HO187; clear HO191; clear HO196; clear HO200; clear HO205; clear HO209; clear BK193; clear BK202; clear BK211; clear HB; have HO179 := n0_; have HO183 := n1_; have HO187 := n2_; have HO191 := n3_; have HO196 := n4_; have HO200 := n5_; have HO205 := n6_; have HO209 := n7_; have HO214 := n8_; have BK193 := n9_; have BK202 := n10_; have BK211 := n11_; have HB := n12_; clear n0_ n1_ n2_ n3_ n4_ n5_ n6_ n7_ n8_ n9_ n10_ n11_ n12_; clear hb ho45; obtain ⟨Ao46, co46, eo46⟩ := Kd.R_slice HO214.out; subst eo46) | ((with_reducible refine gate_callee (f := 17) rfl ?_); refine goesL_ (some 42) rfl rfl Try.func17 (by kernel_rfl) rfl #[.slice Ao46 y212.length co46] rfl (by (try simp only [List.map_toArray, List.map_cons, List.map_nil]); first | done | rfl | (simp only [List.length_drop, List.length_take]; rfl) | (rw [IntKind.wrap_u64, Int.emod_eq_of_lt (by omega) (by omega)]; rfl)) ?_; (with_reducible refine (codec_EncodeRows.calls k _ _ y212 t215 t216 _ ?side1 ?side2 A6.out).mono ?_); (case side1 => repeat (first | exact (Kd.R_reads' HO214.out).2.2 | (with_reducible refine Kd.C_alloc ?_ _) | (with_reducible refine Kd.C_drewN ?_ _) | (with_reducible refine Kd.C_drew ?_))); (case side2 => exact (Kd.R_reads' HO214.out).2.1); rintro e w47 ⟨v217, rfl, ho0, hb⟩; refine ⟨_, rfl, ?_⟩; have n0_ := Aside0.mk (Kd.R_elder' (by (with_reducible repeat (first | apply Kd.R_alloc | apply Kd.R_drewN | apply Kd.R_drew)); exact HO179.out) (Kd.R_base ho0) hb); have n1_ := Aside0.mk (Kd.R_elder' (by (with_reducible repeat (first | apply Kd.R_alloc | apply Kd.R_drewN | apply Kd.R_drew)); exact HO183.out) (Kd.R_base ho0) hb); have n2_ := Aside0.mk (Kd.R_elder' (by (with_reducible repeat (first | apply Kd.R_alloc | apply Kd.R_drewN | apply Kd.R_drew)); exact HO187.out) (Kd.R_base ho0) hb); have n3_ := Aside0.mk (Kd.S_below (by (with_reducible repeat (first | apply Kd.S_alloc | apply Kd.S_drewN | apply Kd.S_drew)); exact HO191.out) hb); have n4_ := Aside0.mk (Kd.R_elder' (by (with_reducible repeat (first | apply Kd.R_alloc | apply Kd.R_drewN | apply Kd.R_drew)); exact HO196.out) (Kd.R_base ho0) hb); have n5_ := Aside0.mk (Kd.S_below (by (with_reducible repeat (first | apply Kd.S_alloc | apply Kd.S_drewN | apply Kd.S_drew)); exact HO200.out) hb); have n6_ := Aside0.mk (Kd.R_elder' (by (with_reducible repeat (first | apply Kd.R_alloc | apply Kd.R_drewN | apply Kd.R_drew)); exact HO205.out) (Kd.R_base ho0) hb); have n7_ := Aside0.mk (Kd.S_below (by (with_reducible repeat (first | apply Kd.S_alloc | apply Kd.S_drewN | apply Kd.S_drew)); exact HO209.out) hb); have n8_ := Aside0.mk (Kd.R_below (by (with_reducible repeat (first | apply Kd.R_alloc | apply Kd.R_drewN | apply Kd.R_drew)); exact HO214.out) hb); have n9_ := Aside0.mk (Kd.R_lower (Kd.R_new' (Kd.R_new' (Kd.R_new' (Kd.R_new' (Kd.R_new' ho0 (Kd.R_lt (by (with_reducible repeat (first | apply Kd.R_alloc | apply Kd.R_drewN | apply Kd.R_drew)); exact HO179.out))) (Kd.R_lt (by (with_reducible repeat (first | apply Kd.R_alloc | apply Kd.R_drewN | apply Kd.R_drew)); exact HO183.out))) (Kd.R_lt (by (with_reducible repeat (first | apply Kd.R_alloc | apply Kd.R_drewN | apply Kd.R_drew)); exact HO187.out))) (Kd.R_lt (by (with_reducible repeat (first | apply Kd.R_alloc | apply Kd.R_drewN | apply Kd.R_drew)); exact HO196.out))) (Kd.R_lt (by (with_reducible repeat (first | apply Kd.R_alloc | apply Kd.R_drewN | apply Kd.R_drew)); exact HO205.out))) (below_size (by repeat (first | (with_reducible first | exact HB.out | apply below_alloc | apply pw_below_drewN | apply below_drew1 | refine below_set ?_ GE193.out | refine below_set ?_ GE202.out | refine below_set ?_ GE211.out) | exact HB.out)))); have n10_ := Aside0.mk (blk_below (g := gb193) (o := .cells #[.int .u32 t188, .slice Ao26 t189.length co26] 25 (0, 0)) (by (with_reducible repeat (first | refine blk_drewN ?_ _ | refine blk_drew ?_ | refine blk_alloc ?_ _)); exact BK193.out) hb); have n11_ := Aside0.mk (blk_below (g := gb202) (o := .cells #[.int .u32 t197, .slice Ao34 t198.length co34] 25 (0, 0)) (by (with_reducible repeat (first | refine blk_drewN ?_ _ | refine blk_drew ?_ | refine blk_alloc ?_ _)); exact BK202.out) hb); have n12_ := Aside0.mk (blk_below (g := gb211) (o := .cells #[.int .u32 t206, .slice Ao43 t207.length co43] 25 (0, 0)) (by (with_reducible repeat (first | refine blk_drewN ?_ _ | refine blk_drew ?_ | refine blk_alloc ?_ _)); exact BK211.out) hb); have n13_ := Aside0.mk (below_step (by repeat (first | (with_reducible first | exact HB.out | apply below_alloc | apply pw_below_drewN | apply below_drew1 | refine below_set ?_ GE193.out | refine below_set ?_ GE202.out | refine below_set ?_ GE211.out) | exact HB.out)) hb); clear HO179; clear HO183; clear HO187; clear HO191; clear HO196; clear HO200; clear HO205; clear HO209; clear HO214; clear BK193; clear BK202; clear BK211; clear HB; have HO179 := n0_; have HO183 := n1_; have HO187 := n2_; have HO191 := n3_; have HO196 := n4_; have HO200 := n5_; have HO205 := n6_; have HO209 := n7_; have HO214 := n8_; have HO218 := n9_; have BK193 := n10_; have BK202 := n11_; have BK211 := n12_; have HB := n13_; clear n0_ n1_ n2_ n3_ n4_ n5_ n6_ n7_ n8_ n9_ n10_ n11_ n12_ n13_; (try clear hb); (try clear hb2); (try clear hk); (try clear hi); (try clear ho0); have hcv48 := own_string (P := Try.prog) Try.underlying32 Try.underlying5 Try.underlying9 (Kd.own_of_R HO179.out); have hcv49 := fun nq_ => own_string (P := Try.prog) Try.underlying32 Try.underlying5 Try.underlying9 (Kd.own_of_R (Kd.R_drewN HO179.out nq_)); have hcz50_0 : w47.cell? ⟨gb193, 0, none⟩ = some (.int .u32 t188) := (blk_cell BK193.out 0).trans rfl; have hcz50_1 : w47.cell? ⟨gb193, 1, none⟩ = some (.slice Ao26 t189.length co26) := (blk_cell BK193.out 1).trans rfl; have hfz50_0 := blk_frozen BK193.out 0; have hfz50_1 := blk_frozen BK193.out 1; have hcv51 := own_string (P := Try.prog) Try.underlying32 Try.underlying5 Try.underlying9 (Kd.own_of_R HO218.out); have hcv52 := fun nq_ => own_string (P := Try.prog) Try.underlying32 Try.underlying5 Try.underlying9 (Kd.own_of_R (Kd.R_drewN HO218.out nq_))) | (go_at_call 22; (with_reducible refine (codec_Less.calls k 1 (⟨#[122]⟩ : ByteArray) 2 (⟨#[97]⟩ : ByteArray) t219 _ A17.out).mono ?_); rintro e w53 ⟨rfl, hb⟩; have n0_ := Aside0.mk (Kd.R_below (by (with_reducible repeat (first | apply Kd.R_alloc | apply Kd.R_drewN | apply Kd.R_drew)); exact HO179.out) hb); have n1_ := Aside0.mk (Kd.R_below (by (with_reducible repeat (first | apply Kd.R_alloc | apply Kd.R_drewN | apply Kd.R_drew)); exact HO183.out) hb); have n2_ := Aside0.mk (Kd.R_below (by (with_reducible repeat (first | apply Kd.R_alloc | apply Kd.R_drewN | apply Kd.R_drew)); exact HO187.out) hb); have n3_ := Aside0.mk (Kd.S_below (by (with_reducible repeat (first | apply Kd.S_alloc | apply Kd.S_drewN | apply Kd.S_drew)); exact HO191.out) hb); have n4_ := Aside0.mk (Kd.R_below (by (with_reducible repeat (first | apply Kd.R_alloc | apply Kd.R_drewN | apply Kd.R_drew)); exact HO196.out) hb); have n5_ := Aside0.mk (Kd.S_below (by (with_reducible repeat (first | apply Kd.S_alloc | apply Kd.S_drewN | apply Kd.S_drew)); exact HO200.out) hb); have n6_ := Aside0.mk (Kd.R_below (by (with_reducible repeat (first | apply Kd.R_alloc | apply Kd.R_drewN | apply Kd.R_drew)); exact HO205.out) hb); have n7_ := Aside0.mk (Kd.S_below (by (with_reducible repeat (first | apply Kd.S_alloc | apply Kd.S_drewN | apply Kd.S_drew)); exact HO209.out) hb); have n8_ := Aside0.mk (Kd.R_below (by (with_reducible repeat (first | apply Kd.R_alloc | apply Kd.R_drewN | apply Kd.R_drew)); exact HO214.out) hb); have n9_ := Aside0.mk (Kd.R_below (by (with_reducible repeat (first | apply Kd.R_alloc | apply Kd.R_drewN | apply Kd.R_drew)); exact HO218.out) hb); have n10_ := Aside0.mk (blk_below (g := gb193) (o := .cells #[.int .u32 t188, .slice Ao26 t189.length co26] 25 (0, 0)) (by (with_reducible repeat (first | refine blk_drewN ?_ _ | refine blk_drew ?_ | refine blk_alloc ?_ _)); exact BK193.out) hb); have n11_ := Aside0.mk (blk_below (g := gb202) (o := .cells #[.int .u32 t197, .slice Ao34 t198.length co34] 25 (0, 0)) (by (with_reducible repeat (first | refine blk_drewN ?_ _ | refine blk_drew ?_ | refine blk_alloc ?_ _)); exact BK202.out) hb); have n12_ := Aside0.mk (blk_below (g := gb211) (o := .cells #[.int .u32 t206, .slice Ao43 t207.length co43] 25 (0, 0)) (by (with_reducible repeat (first | refine blk_drewN ?_ _ | refine blk_drew ?_ | refine blk_alloc ?_ _)); exact BK211.out) hb); have n13_ := Aside0.mk (below_step (by repeat (first | (with_reducible first | exact HB.out | apply below_alloc | apply pw_below_drewN | apply below_drew1 | refine below_set ?_ GE193.out | refine below_set ?_ GE202.out | refine below_set ?_ GE211.out) | exact HB.out)) hb); clear HO179; clear HO183; clear HO187; clear HO191; clear HO196; clear HO200; clear HO205; clear HO209; clear HO214; clear HO218; clear BK193; clear BK202; clear BK211; clear HB; have HO179 := n0_; have HO183 := n1_; have HO187 := n2_; have HO191 := n3_; have HO196 := n4_; have HO200 := n5_; have HO205 := n6_; have HO209 := n7_; have HO214 := n8_; have HO218 := n9_; have BK193 := n10_; have BK202 := n11_; have BK211 := n12_; have HB := n13_; clear n0_ n1_ n2_ n3_ n4_ n5_ n6_ n7_ n8_ n9_ n10_ n11_ n12_ n13_; (try clear hb); (try clear hb2); (try clear hk); (try clear hi)))
                      go_ret
                      exact ⟨by first | rfl | (simp [errW_none, errW_some] <;> rfl) | (simp [*, errW_none, errW_some] <;> rfl), by repeat (first | (with_reducible first | exact HB.out | apply below_alloc | apply pw_below_drewN | apply below_drew1 | refine below_set ?_ GE193.out | refine below_set ?_ GE202.out | refine below_set ?_ GE211.out) | exact HB.out)⟩
                    · rw [if_neg c16] at H
                      have c16b0 : (t216 == 0) = false := beq_eq_false_iff_ne.mpr c16
                      have c16b1 : (t216 != 0) = true := bne_iff_ne.mpr c16
                      exact absurd ((Option.some.inj H).trans HRT.out) (by decide)
                  · rw [if_neg c15] at H
                    have c15b0 : ((strOfNums t215).toList == ([1, 2, 1, 97, 2, 98, 99] : List UInt8)) = false := beq_eq_false_iff_ne.mpr c15
                    have c15b1 : ((strOfNums t215).toList != ([1, 2, 1, 97, 2, 98, 99] : List UInt8)) = true := bne_iff_ne.mpr c15
                    exact absurd ((Option.some.inj H).trans HRT.out) (by decide)
                · rw [if_neg c14] at H
                  have c14b0 : (t210 == 3) = false := beq_eq_false_iff_ne.mpr c14
                  have c14b1 : (t210 != 3) = true := bne_iff_ne.mpr c14
                  exact absurd ((Option.some.inj H).trans HRT.out) (by decide)
              · rw [if_neg c13] at H
                have c13b0 : (t201 == 2) = false := beq_eq_false_iff_ne.mpr c13
                have c13b1 : (t201 != 2) = true := bne_iff_ne.mpr c13
                exact absurd ((Option.some.inj H).trans HRT.out) (by decide)
            · rw [if_neg c12] at H
              have c12b0 : (t192 == 0) = false := beq_eq_false_iff_ne.mpr c12
              have c12b1 : (t192 != 0) = true := bne_iff_ne.mpr c12
              exact absurd ((Option.some.inj H).trans HRT.out) (by decide)
          · rw [if_neg c11] at H
            have c11b0 : ((t189.length : Int) == 0) = false := beq_eq_false_iff_ne.mpr c11
            have c11b1 : ((t189.length : Int) != 0) = true := bne_iff_ne.mpr c11
            have c11b2 : ¬ (t189 = []) := fun h_ => c11 (by rw [h_]; rfl)
            exact absurd ((Option.some.inj H).trans HRT.out) (by decide)
        · rw [if_neg c10] at H
          have c10b0 : (t188 == 1) = false := beq_eq_false_iff_ne.mpr c10
          have c10b1 : (t188 != 1) = true := bne_iff_ne.mpr c10
          exact absurd ((Option.some.inj H).trans HRT.out) (by decide)
      · rw [if_neg c9] at H
        have c9b0 : (t184 == 1) = false := beq_eq_false_iff_ne.mpr c9
        have c9b1 : (t184 != 1) = true := bne_iff_ne.mpr c9
        exact absurd ((Option.some.inj H).trans HRT.out) (by decide)
    · rw [if_neg c8] at H
      have c8b0 : (t180 == 0) = false := beq_eq_false_iff_ne.mpr c8
      have c8b1 : (t180 != 0) = true := bne_iff_ne.mpr c8
      exact absurd ((Option.some.inj H).trans HRT.out) (by decide)
  · rw [if_neg c7] at H
    have c7b0 : ((strOfNums t177).toList == ([1, 0] : List UInt8)) = false := beq_eq_false_iff_ne.mpr c7
    have c7b1 : ((strOfNums t177).toList != ([1, 0] : List UInt8)) = true := bne_iff_ne.mpr c7
    exact absurd ((Option.some.inj H).trans HRT.out) (by decide)

/-- shown, as a plain function. -/
def tidemarklaw04_shown.f : Option Bool := some true
theorem shown_k : shownK.f 30 = some true := by decide +kernel
theorem tidemarklaw04_shown.calls (r : Bool) (w : World) (h : tidemarklaw04_shown.f = some r) : Calls Try.prog 13 #[] w fun e w' => e = .returned (.bool r) ∧ Below w.heap.size w w' := by
  obtain rfl := Option.some.inj h
  exact shownK.calls 30 true w rfl shown_k
end Go.Proofs.Ytgmdoapedhppmaa.PC

/- Proofs that functions of the program come to what plain Lean functions say; made by wip/drive.py. -/
namespace Go.Proofs.Ytgmdoapedhppmaa.PC
set_option linter.unusedVariables false
set_option linter.unusedSimpArgs false
open Go.RowKit Go.Proofs.YtgmdoapedhppmaaW.PrintWords Go.Proofs.YtgmdoapedhppmaaW.PrintLast Go.Proofs.YtgmdoapedhppmaaW.PrintMore
attribute [local go_sem] max2_int min2_int max_two min_two max_three min_three max_four min_four   -- for this text's walks alone
set_option linter.unusedVariables false
set_option linter.unusedSimpArgs false

/-! ### tidemarklaw04_CodecMost: function 9 -/
mutual
def tidemarklaw04_CodecMost.l0 : Nat → Int → Bool → ByteArray → Int → Option (Bool)
  | 0, _, _, _, _ => none
  | k + 1, x0, x3, x4, x5 => if x5 < 63 then (if x4.size + 1 ≤ 9223372036854775807 then (tidemarklaw04_CodecMost.l0 k x0 x3 (x4 ++ (⟨#[110]⟩ : ByteArray)) (wrap64 (x5 + 1))) else (none)) else (tidemarklaw04_CodecMost.l1 k x0 x3 x4 (⟨#[]⟩ : ByteArray) 0)
def tidemarklaw04_CodecMost.l1 : Nat → Int → Bool → ByteArray → ByteArray → Int → Option (Bool)
  | 0, _, _, _, _, _ => none
  | k + 1, x0, x3, x4, x6, x7 => if x7 < 256 then ((some (([x0] : List Int) : List Int)).bind fun y553 => (if x6.size + (strOfNums y553).size ≤ 9223372036854775807 then (tidemarklaw04_CodecMost.l1 k x0 x3 x4 (x6 ++ (strOfNums y553)) (wrap64 (x7 + 1))) else (none))) else (tidemarklaw04_CodecMost.l2 k x3 x4 x6 0 4294967295 ([] : List (S47)))
def tidemarklaw04_CodecMost.l2 : Nat → Bool → ByteArray → ByteArray → Int → Int → List (S47) → Option (Bool)
  | 0, _, _, _, _, _, _ => none
  | k + 1, x3, x4, x6, x9, x557000, x557001 => if x9 < 65 then (tidemarklaw04_CodecMost.l3 k x3 x4 x6 x9 0 x557000 x557001 (IntKind.u64.wrap ((IntKind.u64.wrap ((IntKind.u64.wrap ((IntKind.u64.wrap ((IntKind.u64.wrap (x557000)) * 4294967296)) + 4294967296)) - 65)) + (IntKind.u64.wrap (x9)))) ([] : List (S50))) else ((codec_Right.f x557000 x557001).bind fun t567 => (if 64 ≤ (x557001.length : Int) then ((some (x557001.take (64 : Int).toNat : List (S47))).bind fun y568 => ((codec_Encode.f k x557000 y568).bind fun bt571 => ((codec_Decode.f bt571.1).bind fun bt575 => (if x3 = true then (if t567 = 1 then (if bt571.2 = 0 then (if (bt571.1.length : Int) ≤ 1048576 then (if bt575.2.2 = 0 then ((tidemarkref04_Same.f k bt575.1 bt575.2.1 x557000 y568).bind fun t581 => (some t581)) else (some false)) else (some false)) else (some false)) else (some false)) else (some false))))) else (none)))
def tidemarklaw04_CodecMost.l3 : Nat → Bool → ByteArray → ByteArray → Int → Int → Int → List (S47) → Int → List (S50) → Option (Bool)
  | 0, _, _, _, _, _, _, _, _, _ => none
  | k + 1, x3, x4, x6, x9, x11, x557000, x557001, x558000, x558001 => if x11 < 32 then ((some (([(wrap64 (65 + x11)) % 256] : List Int) : List Int)).bind fun y558 => (if x4.size + (strOfNums y558).size ≤ 9223372036854775807 then (if x558001.length < 2932031007402 then (tidemarklaw04_CodecMost.l3 k x3 x4 x6 x9 (wrap64 (x11 + 1)) x557000 x557001 x558000 (x558001 ++ [(⟨(⟨7, x4 ++ (strOfNums y558)⟩ : S28), false, x6⟩ : S50)])) else (none)) else (none))) else (if x557001.length < 4398046511104 then (tidemarklaw04_CodecMost.l2 k x3 x4 x6 (wrap64 (x9 + 1)) x557000 (x557001 ++ [(⟨x558000, x558001⟩ : S47)])) else (none))
end
def tidemarklaw04_CodecMost.f (k : Nat) (a0 : Int) : Option (Bool) := (tidemarklaw04_shown.f).bind fun t552 => (tidemarklaw04_CodecMost.l0 k a0 t552 (⟨#[]⟩ : ByteArray) 0)
theorem tidemarklaw04_CodecMost.mono_l : ∀ k, (∀ y0 y1 y2 y3, LeO (tidemarklaw04_CodecMost.l0 k y0 y1 y2 y3) (tidemarklaw04_CodecMost.l0 (k + 1) y0 y1 y2 y3)) ∧ (∀ y0 y1 y2 y3 y4, LeO (tidemarklaw04_CodecMost.l1 k y0 y1 y2 y3 y4) (tidemarklaw04_CodecMost.l1 (k + 1) y0 y1 y2 y3 y4)) ∧ (∀ y0 y1 y2 y3 y4 y5, LeO (tidemarklaw04_CodecMost.l2 k y0 y1 y2 y3 y4 y5) (tidemarklaw04_CodecMost.l2 (k + 1) y0 y1 y2 y3 y4 y5)) ∧ (∀ y0 y1 y2 y3 y4 y5 y6 y7 y8, LeO (tidemarklaw04_CodecMost.l3 k y0 y1 y2 y3 y4 y5 y6 y7 y8) (tidemarklaw04_CodecMost.l3 (k + 1) y0 y1 y2 y3 y4 y5 y6 y7 y8))
  | 0 => ⟨fun _ _ _ _ r h => by simp [tidemarklaw04_CodecMost.l0] at h, fun _ _ _ _ _ r h => by simp [tidemarklaw04_CodecMost.l1] at h, fun _ _ _ _ _ _ r h => by simp [tidemarklaw04_CodecMost.l2] at h, fun _ _ _ _ _ _ _ _ _ r h => by simp [tidemarklaw04_CodecMost.l3] at h⟩
  | k + 1 => by
    obtain ⟨ih0, ih1, ih2, ih3⟩ := tidemarklaw04_CodecMost.mono_l k
    refine ⟨?_, ?_, ?_, ?_⟩
    · intro y0 y1 y2 y3
      unfold tidemarklaw04_CodecMost.l0
      repeat' first
      | (with_reducible exact ih0 _ _ _ _)
      | (with_reducible exact ih1 _ _ _ _ _)
      | (with_reducible exact ih2 _ _ _ _ _ _)
      | (with_reducible exact ih3 _ _ _ _ _ _ _ _ _)
      | (with_reducible exact codec_Encode.mono _ _ _)
      | (with_reducible exact tidemarkref04_Same.mono _ _ _ _ _)
      | (with_reducible exact LeO.refl _)
      | (with_reducible exact LeO.none _)
      | (with_reducible refine LeO.ite ?_ ?_)
      | (with_reducible refine LeO.bind ?_ (fun _ => ?_))
      | exact ih0 _ _ _ _
      | exact ih1 _ _ _ _ _
      | exact ih2 _ _ _ _ _ _
      | exact ih3 _ _ _ _ _ _ _ _ _
      | exact codec_Encode.mono _ _ _
      | exact tidemarkref04_Same.mono _ _ _ _ _
      | exact LeO.none _
      | refine LeO.ite ?_ ?_
      | refine LeO.bind ?_ (fun _ => ?_)
    · intro y0 y1 y2 y3 y4
      unfold tidemarklaw04_CodecMost.l1
      repeat' first
      | (with_reducible exact ih0 _ _ _ _)
      | (with_reducible exact ih1 _ _ _ _ _)
      | (with_reducible exact ih2 _ _ _ _ _ _)
      | (with_reducible exact ih3 _ _ _ _ _ _ _ _ _)
      | (with_reducible exact codec_Encode.mono _ _ _)
      | (with_reducible exact tidemarkref04_Same.mono _ _ _ _ _)
      | (with_reducible exact LeO.refl _)
      | (with_reducible exact LeO.none _)
      | (with_reducible refine LeO.ite ?_ ?_)
      | (with_reducible refine LeO.bind ?_ (fun _ => ?_))
      | exact ih0 _ _ _ _
      | exact ih1 _ _ _ _ _
      | exact ih2 _ _ _ _ _ _
      | exact ih3 _ _ _ _ _ _ _ _ _
      | exact codec_Encode.mono _ _ _
      | exact tidemarkref04_Same.mono _ _ _ _ _
      | exact LeO.none _
      | refine LeO.ite ?_ ?_
      | refine LeO.bind ?_ (fun _ => ?_)
    · intro y0 y1 y2 y3 y4 y5
      unfold tidemarklaw04_CodecMost.l2
      repeat' first
      | (with_reducible exact ih0 _ _ _ _)
      | (with_reducible exact ih1 _ _ _ _ _)
      | (with_reducible exact ih2 _ _ _ _ _ _)
      | (with_reducible exact ih3 _ _ _ _ _ _ _ _ _)
      | (with_reducible exact codec_Encode.mono _ _ _)
      | (with_reducible exact tidemarkref04_Same.mono _ _ _ _ _)
      | (with_reducible exact LeO.refl _)
      | (with_reducible exact LeO.none _)
      | (with_reducible refine LeO.ite ?_ ?_)
      | (with_reducible refine LeO.bind ?_ (fun _ => ?_))
      | exact ih0 _ _ _ _
      | exact ih1 _ _ _ _ _
      | exact ih2 _ _ _ _ _ _
      | exact ih3 _ _ _ _ _ _ _ _ _
      | exact codec_Encode.mono _ _ _
      | exact tidemarkref04_Same.mono _ _ _ _ _
      | exact LeO.none _
      | refine LeO.ite ?_ ?_
      | refine LeO.bind ?_ (fun _ => ?_)
    · intro y0 y1 y2 y3 y4 y5 y6 y7 y8
      unfold tidemarklaw04_CodecMost.l3
      repeat' first
      | (with_reducible exact ih0 _ _ _ _)
      | (with_reducible exact ih1 _ _ _ _ _)
      | (with_reducible exact ih2 _ _ _ _ _ _)
      | (with_reducible exact ih3 _ _ _ _ _ _ _ _ _)
      | (with_reducible exact codec_Encode.mono _ _ _)
      | (with_reducible exact tidemarkref04_Same.mono _ _ _ _ _)
      | (with_reducible exact LeO.refl _)
      | (with_reducible exact LeO.none _)
      | (with_reducible refine LeO.ite ?_ ?_)
      | (with_reducible refine LeO.bind ?_ (fun _ => ?_))
      | exact ih0 _ _ _ _
      | exact ih1 _ _ _ _ _
      | exact ih2 _ _ _ _ _ _
      | exact ih3 _ _ _ _ _ _ _ _ _
      | exact codec_Encode.mono _ _ _
      | exact tidemarkref04_Same.mono _ _ _ _ _
      | exact LeO.none _
      | refine LeO.ite ?_ ?_
      | refine LeO.bind ?_ (fun _ => ?_)
theorem tidemarklaw04_CodecMost.mono : ∀ a0 k, LeO (tidemarklaw04_CodecMost.f k a0) (tidemarklaw04_CodecMost.f (k + 1) a0) := by
  intro a0 k
  obtain ⟨ih0, ih1, ih2, ih3⟩ := tidemarklaw04_CodecMost.mono_l k
  unfold tidemarklaw04_CodecMost.f
  repeat' first
      | (with_reducible exact ih0 _ _ _ _)
      | (with_reducible exact ih1 _ _ _ _ _)
      | (with_reducible exact ih2 _ _ _ _ _ _)
      | (with_reducible exact ih3 _ _ _ _ _ _ _ _ _)
      | (with_reducible exact codec_Encode.mono _ _ _)
      | (with_reducible exact tidemarkref04_Same.mono _ _ _ _ _)
      | (with_reducible exact LeO.refl _)
      | (with_reducible exact LeO.none _)
      | (with_reducible refine LeO.ite ?_ ?_)
      | (with_reducible refine LeO.bind ?_ (fun _ => ?_))
      | exact ih0 _ _ _ _
      | exact ih1 _ _ _ _ _
      | exact ih2 _ _ _ _ _ _
      | exact ih3 _ _ _ _ _ _ _ _ _
      | exact codec_Encode.mono _ _ _
      | exact tidemarkref04_Same.mono _ _ _ _ _
      | exact LeO.none _
      | refine LeO.ite ?_ ?_
      | refine LeO.bind ?_ (fun _ => ?_)
set_option maxHeartbeats 8000000 in
set_option maxRecDepth 100000 in
theorem tidemarklaw04_CodecMost.calls (k : Nat) (a0 : Int) (r : Bool) (w : World) (hrt : r = true) (h : tidemarklaw04_CodecMost.f k a0 = some r) :
    Calls Try.prog 9 #[.int .u8 a0] w fun e w' => e = .returned (.bool r) ∧ Below w.heap.size w w' := by
  have HRT := Aside0.mk hrt
  clear hrt
  have hu25 := Try.underlying25
  have hu47 := Try.underlying47
  have hu28 := Try.underlying28
  have hu50 := Try.underlying50
  have HB := Aside0.mk (Below.refl w.heap.size w)
  have H : ((tidemarklaw04_shown.f).bind fun t552 => (tidemarklaw04_CodecMost.l0 k a0 t552 (⟨#[]⟩ : ByteArray) 0)) = some r := h
  clear h
  replace H := Option.bind_eq_some_iff.mp H
  obtain ⟨t552, A20, H⟩ := H
  replace H : (tidemarklaw04_CodecMost.l0 k a0 t552 (⟨#[]⟩ : ByteArray) 0) = some r := H
  have A2 := Aside0.mk A20
  clear A20
  have H' := Aside0.mk H
  clear H
  go_enter Try.func9, Try.ntmps9
  go_wp2_with (first | ((with_reducible refine gate_callee (f := 13) rfl ?_); refine goesL_ (some 17) rfl rfl Try.func13 (by kernel_rfl) rfl #[] rfl (by (try simp only [List.map_toArray, List.map_cons, List.map_nil]); first | done | rfl | (simp only [List.length_drop, List.length_take]; rfl) | (rw [IntKind.wrap_u64, Int.emod_eq_of_lt (by omega) (by omega)]; rfl)) ?_; (with_reducible refine (tidemarklaw04_shown.calls  t552 _ A2.out).mono ?_); rintro e w3 ⟨rfl, hb⟩; refine ⟨_, rfl, ?_⟩; have n0_ := Aside0.mk (below_step (by repeat (first | (with_reducible first | exact HB.out | apply below_alloc | apply pw_below_drewN | apply below_drew1) | exact HB.out)) hb); clear HB; have HB := n0_; clear n0_; (try clear hb); (try clear hb2); (try clear hk); (try clear hi)))
  go_loopg [4, 5] k (fun kq v4 v5 w' => ∃ (x4_1 : ByteArray) (x5_1 : Int), v4 = .string x4_1 ∧ v5 = .int .i64 x5_1 ∧ Aside0 (tidemarklaw04_CodecMost.l0 kq a0 t552 x4_1 x5_1 = some r) ∧ Aside0 (kq ≤ k) ∧ Aside0 (Below w.heap.size w w'))
  case atStart => exact ⟨((⟨#[]⟩ : ByteArray)), (0), (by first | rfl | (simp; done) | (simp [*]; done)), (by first | rfl | (simp; done) | (simp [*]; done)), H', ⟨Nat.le_refl _⟩, ⟨by repeat (first | (with_reducible first | exact HB.out | apply below_alloc | apply pw_below_drewN | apply below_drew1) | exact HB.out)⟩⟩
  case round =>
    clear H'
    try clear c1
    try clear p2
    obtain ⟨x4_1, x5_1, rfl, rfl, HA, HK1, HB⟩ := hrel
    cases gk with
    | zero => exact absurd HA.out (by simp [tidemarklaw04_CodecMost.l0])
    | succ k1 =>
      have H := HA.out
      clear HA
      simp only [tidemarklaw04_CodecMost.l0] at H
      by_cases c4 : x5_1 < 63
      · rw [if_pos c4] at H
        have c4b0 : decide (x5_1 < 63) = true := decide_eq_true c4
        clear c4
        by_cases c5 : x4_1.size + 1 ≤ 9223372036854775807
        · rw [if_pos c5] at H
          have c5b0 := eq_true c5
          have c5b1 : decide (x4_1.size + 1 ≤ 9223372036854775807) = true := decide_eq_true c5
          try have c5b2 : (9223372036854775807 < x4_1.size + 1) = False := eq_false (Nat.not_lt.2 c5)
          try (have c5b3 := c5b2; simp only [ByteArray.size_append] at c5b3)
          have H' := Aside0.mk H
          clear H
          go_wp2
          go_roundg k1
          case measure => have := HK1.out; omega
          case rel => exact ⟨(x4_1 ++ (⟨#[110]⟩ : ByteArray)), (wrap64 (x5_1 + 1)), (by first | rfl | (simp; done) | (simp [*]; done)), (by first | rfl | (simp; done) | (simp [*]; done)), H', ⟨by have := HK1.out; omega⟩, ⟨by repeat (first | (with_reducible first | exact HB.out | apply below_alloc | apply pw_below_drewN | apply below_drew1) | exact HB.out)⟩⟩
        · rw [if_neg c5] at H
          exact absurd H (by simp)
      · rw [if_neg c4] at H
        have c4b0 : decide (x5_1 < 63) = false := decide_eq_false c4
        clear c4
        have H' := Aside0.mk H
        clear H
        go_wp2
        go_loopg [6, 7] k1 (fun kq v6 v7 w' => ∃ (x6_2 : ByteArray) (x7_2 : Int), v6 = .string x6_2 ∧ v7 = .int .i64 x7_2 ∧ Aside0 (tidemarklaw04_CodecMost.l1 kq a0 t552 x4_1 x6_2 x7_2 = some r) ∧ Aside0 (kq ≤ k1) ∧ Aside0 (Below w.heap.size w w'))
        case atStart => exact ⟨((⟨#[]⟩ : ByteArray)), (0), (by first | rfl | (simp; done) | (simp [*]; done)), (by first | rfl | (simp; done) | (simp [*]; done)), H', ⟨Nat.le_refl _⟩, ⟨by repeat (first | (with_reducible first | exact HB.out | apply below_alloc | apply pw_below_drewN | apply below_drew1) | exact HB.out)⟩⟩
        case round =>
          clear H'
          try clear c1
          try clear p2
          try clear c4
          try clear c4b0
          try clear c5
          try clear c5b0
          try clear c5b1
          try clear c5b2
          try clear p2
          obtain ⟨x6_2, x7_2, rfl, rfl, HA, HK2, HB⟩ := hrel
          cases gk with
          | zero => exact absurd HA.out (by simp [tidemarklaw04_CodecMost.l1])
          | succ k2 =>
            have H := HA.out
            clear HA
            simp only [tidemarklaw04_CodecMost.l1] at H
            by_cases c6 : x7_2 < 256
            · rw [if_pos c6] at H
              have c6b0 : decide (x7_2 < 256) = true := decide_eq_true c6
              clear c6
              obtain ⟨y553, hy553⟩ : ∃ y_ : List Int, y_ = (([a0] : List Int)) := ⟨_, rfl⟩
              replace H : (if x6_2.size + (strOfNums y553).size ≤ 9223372036854775807 then (tidemarklaw04_CodecMost.l1 k2 a0 t552 x4_1 (x6_2 ++ (strOfNums y553)) (wrap64 (x7_2 + 1))) else (none)) = some r := by first | (rw [hy553]; with_reducible exact H) | (have H2_ := (Option.bind_some _ _).symm.trans H; rw [hy553]; with_reducible exact H2_) | (have H2_ := (Option.bind_some _ _).symm.trans H; with_reducible exact H2_) | with_reducible exact H | (rw [hy553]; exact H) | exact H
              have Ny553 := Aside0.mk hy553
              clear hy553
              by_cases c7 : x6_2.size + (strOfNums y553).size ≤ 9223372036854775807
              · rw [if_pos c7] at H
                have c7b0 := eq_true c7
                have c7b1 : decide (x6_2.size + (strOfNums y553).size ≤ 9223372036854775807) = true := decide_eq_true c7
                try have c7b2 : (9223372036854775807 < x6_2.size + (strOfNums y553).size) = False := eq_false (Nat.not_lt.2 c7)
                try (have c7b3 := c7b2; simp only [ByteArray.size_append] at c7b3)
                have H' := Aside0.mk H
                clear H
                go_wp2_with (first | ((with_reducible refine gate_dst (N := 30) rfl ?_); (try (refine gate_guard (by rfl) ?_; dsimp only)); refine Kd.R_lit (Kd.int .u8) _ 5 ?hg (N := 30) ?hd (xs := ([a0] : List Int)) (inner := [.int .u8 a0]) (ok := fun _ => True) (okp := fun _ => True) ?hr ?hp (fun _ hk => hk) trivial (Below.refl _ _) (Nat.le_refl _) (by simp) ?_; (case hd => rfl); (case hg => rfl); (case hr => first | (go_simp; done) | (go_simp; rfl)); (case hp => exact (Reps.one (show Kd.M (Kd.int .u8) _ _ _ a0 [.int .u8 a0] from rfl) (Reps.none _ _))); intro v554 w8 ho9 hb hg_ hnew_; clear hg_ hnew_; (first | rw [← Ny553.out] at ho9 | (simp only [Int.reduceToNat] at ho9; rw [← Ny553.out] at ho9)); have n0_ := Aside0.mk (Kd.R_lower ho9 (below_size (by repeat (first | (with_reducible first | exact HB.out | apply below_alloc | apply pw_below_drewN | apply below_drew1) | exact HB.out)))); have n1_ := Aside0.mk (below_step (by repeat (first | (with_reducible first | exact HB.out | apply below_alloc | apply pw_below_drewN | apply below_drew1) | exact HB.out)) hb); clear HB; have HO555 := n0_; have HB := n1_; clear n0_ n1_; clear hb ho9; have hcv10 := own_string (P := Try.prog) Try.underlying32 Try.underlying5 Try.underlying9 (Kd.own_of_R HO555.out); have hcv11 := fun nq_ => own_string (P := Try.prog) Try.underlying32 Try.underlying5 Try.underlying9 (Kd.own_of_R (Kd.R_drewN HO555.out nq_))))
                go_roundg k2
                case measure => have := HK1.out; have := HK2.out; omega
                case rel => exact ⟨(x6_2 ++ (strOfNums y553)), (wrap64 (x7_2 + 1)), (by first | rfl | (simp; done) | (simp [*]; done)), (by first | rfl | (simp; done) | (simp [*]; done)), H', ⟨by have := HK1.out; have := HK2.out; omega⟩, ⟨by repeat (first | (with_reducible first | exact HB.out | apply below_alloc | apply pw_below_drewN | apply below_drew1) | exact HB.out)⟩⟩
              · rw [if_neg c7] at H
                exact absurd H (by simp)
            · rw [if_neg c6] at H
              have c6b0 : decide (x7_2 < 256) = false := decide_eq_false c6
              clear c6
              have H' := Aside0.mk H
              clear H
              go_wp2_with (first | ((with_reducible refine gate_dst (N := 8) rfl ?_); (try (refine gate_guard (by rfl) ?_; dsimp only)); refine box_event ?hg (N := 8) ?hd (cs := #[.int .u32 0, .slice none 0 0]) (t := 25) ?hr ?_; (case hd => rfl); (case hg => rfl); (case hr => first | (go_simp; done) | (go_simp; rfl)); intro gb556 hg w12 hbox hb; have n0_ := Aside0.mk (below_step (by repeat (first | (with_reducible first | exact HB.out | apply below_alloc | apply pw_below_drewN | apply below_drew1) | exact HB.out)) hb); have n1_ := Aside0.mk (hbox); have n2_ := Aside0.mk ((by rw [hg]; exact (below_size (by repeat (first | (with_reducible first | exact HB.out | apply below_alloc | apply pw_below_drewN | apply below_drew1) | exact HB.out))) : w.heap.size ≤ gb556)); have n3_ := Aside0.mk ((by rw [hg]; exact (below_size (by repeat (first | (with_reducible first | exact HB.out | apply below_alloc | apply pw_below_drewN | apply below_drew1) | exact HB.out))) : w.heap.size ≤ gb556)); clear HB; have HB := n0_; have BK556 := n1_; have GW556 := n2_; have GE556 := n3_; clear n0_ n1_ n2_ n3_; clear hb hbox hg; have hcz13_0 : w12.cell? ⟨gb556, 0, none⟩ = some (.int .u32 0) := (blk_cell BK556.out 0).trans rfl; have hcz13_1 : w12.cell? ⟨gb556, 1, none⟩ = some (.slice none 0 0) := (blk_cell BK556.out 1).trans rfl; have hfz13_0 := blk_frozen BK556.out 0; have hfz13_1 := blk_frozen BK556.out 1))
              go_loopg [9] k2 (fun kq v9 w' => ∃ (x9_3 : Int) (x557001_3 : List (S47)) (u557001 : Value), v9 = .int .i64 x9_3 ∧ Aside0 (tidemarklaw04_CodecMost.l2 kq t552 x4_1 x6_2 x9_3 4294967295 x557001_3 = some r) ∧ Aside0 (kq ≤ k2) ∧ Aside0 (Kd.S k47 47 w' w.heap.size (fun _ => True) u557001 x557001_3) ∧ Aside0 (w'.heap[gb556]? = some (.cells #[.int .u32 4294967295, u557001] 25 (0, 0))) ∧ Aside0 (Below w.heap.size w w'))
              case atStart => exact ⟨(0), (([] : List (S47))), (.slice none 0 0), (by first | rfl | (simp; done) | (simp [*]; done)), H', ⟨Nat.le_refl _⟩, ⟨by first | exact Kd.S_nil _ _ _ _ _ | exact Kd.N_nil _ _ _ _ _ | exact Kd.V_nil _ _ _ _ _ | exact Kd.Q_nil _ _ _ _ _ | exact Kd.R_nil _ _ _ _ _⟩, ⟨by (with_reducible repeat (first | refine blk_drewN ?_ _ | refine blk_drew ?_ | refine blk_alloc ?_ _)); refine blk_put (cs := #[.int .u32 4294967295, .slice none 0 0]) ?_ 1 _ rfl; (with_reducible repeat (first | refine blk_drewN ?_ _ | refine blk_drew ?_ | refine blk_alloc ?_ _)); refine blk_put (cs := #[.int .u32 0, .slice none 0 0]) ?_ 0 _ rfl; (with_reducible repeat (first | refine blk_drewN ?_ _ | refine blk_drew ?_ | refine blk_alloc ?_ _)); exact BK556.out⟩, ⟨by repeat (first | (with_reducible first | exact HB.out | apply below_alloc | apply pw_below_drewN | apply below_drew1 | refine below_set ?_ GE556.out) | exact HB.out)⟩⟩
              case round =>
                clear H'
                try clear c1
                try clear hcv1
                try clear p2
                try clear c4
                try clear c4b0
                try clear c5
                try clear c5b0
                try clear c5b1
                try clear c5b2
                try clear c6
                try clear c6b0
                try clear p6
                try clear c7
                try clear c7b0
                try clear c7b1
                try clear c7b2
                try clear c9
                try clear hcv10
                try clear hcv11
                try clear c13
                try clear hcz13_0
                try clear hcz13_1
                try clear hfz13_0
                try clear hfz13_1
                try clear p2
                obtain ⟨x9_3, x557001_3, u557001, rfl, HA, HK3, HO_557001, BK556, HB⟩ := hrel
                cases gk with
                | zero => exact absurd HA.out (by simp [tidemarklaw04_CodecMost.l2])
                | succ k3 =>
                  have H := HA.out
                  clear HA
                  simp only [tidemarklaw04_CodecMost.l2] at H
                  by_cases c14 : x9_3 < 65
                  · rw [if_pos c14] at H
                    have c14b0 : decide (x9_3 < 65) = true := decide_eq_true c14
                    clear c14
                    have H' := Aside0.mk H
                    clear H
                    have hcz15_0 : wr.cell? ⟨gb556, 0, none⟩ = some (.int .u32 4294967295) := (blk_cell BK556.out 0).trans rfl
                    have hcz15_1 : wr.cell? ⟨gb556, 1, none⟩ = some (u557001) := (blk_cell BK556.out 1).trans rfl
                    have hfz15_0 := blk_frozen BK556.out 0
                    have hfz15_1 := blk_frozen BK556.out 1
                    go_wp2_with (first | ((with_reducible refine gate_dst (N := 10) rfl ?_); (try (refine gate_guard (by rfl) ?_; dsimp only)); refine box_event ?hg (N := 10) ?hd (cs := #[.int .u64 0, .slice none 0 0]) (t := 47) ?hr ?_; (case hd => rfl); (case hg => rfl); (case hr => first | (go_simp; done) | (go_simp; rfl)); intro gb557 hg w16 hbox hb; have n0_ := Aside0.mk (Kd.S_below (Kd.S_elderB (by (with_reducible repeat (first | apply Kd.S_alloc | apply Kd.S_drewN | apply Kd.S_drew)); exact HO_557001.out) gb557 (Nat.le_of_eq hg.symm)) hb); have n1_ := Aside0.mk (blk_below (g := gb556) (o := .cells #[.int .u32 4294967295, u557001] 25 (0, 0)) (by (with_reducible repeat (first | refine blk_drewN ?_ _ | refine blk_drew ?_ | refine blk_alloc ?_ _)); exact BK556.out) hb); have n2_ := Aside0.mk (below_step (by repeat (first | (with_reducible first | exact HB.out | apply below_alloc | apply pw_below_drewN | apply below_drew1 | refine below_set ?_ GE556.out) | exact HB.out)) hb); have n3_ := Aside0.mk (hbox); have n4_ := Aside0.mk ((by rw [hg]; exact (below_size (by repeat (first | (with_reducible first | exact HB.out | apply below_alloc | apply pw_below_drewN | apply below_drew1 | refine below_set ?_ GE556.out) | exact HB.out))) : w.heap.size ≤ gb557)); have n5_ := Aside0.mk ((by rw [hg]; exact (below_size (by repeat (first | (with_reducible first | exact HB.out | apply below_alloc | apply pw_below_drewN | apply below_drew1 | refine below_set ?_ GE556.out) | exact HB.out))) : w.heap.size ≤ gb557)); have n6_ := Aside0.mk ((by rw [hg]; exact Nat.ne_of_lt (blk_lt (g := gb556) (o := .cells #[.int .u32 4294967295, u557001] 25 (0, 0)) (by (with_reducible repeat (first | refine blk_drewN ?_ _ | refine blk_drew ?_ | refine blk_alloc ?_ _)); exact BK556.out)) : gb556 ≠ gb557)); have n7_ := Aside0.mk ((by rw [hg]; exact Nat.ne_of_gt (blk_lt (g := gb556) (o := .cells #[.int .u32 4294967295, u557001] 25 (0, 0)) (by (with_reducible repeat (first | refine blk_drewN ?_ _ | refine blk_drew ?_ | refine blk_alloc ?_ _)); exact BK556.out)) : gb557 ≠ gb556)); clear HO_557001; clear BK556; clear HB; have HO_557001 := n0_; have BK556 := n1_; have HB := n2_; have BK557 := n3_; have GW557 := n4_; have GE557 := n5_; have NB556_557 := n6_; have NB557_556 := n7_; clear n0_ n1_ n2_ n3_ n4_ n5_ n6_ n7_; clear hb hbox hg; have hnb17 := NB557_556.out; have hnc17 := NB556_557.out; have hcz18_0 : w16.cell? ⟨gb557, 0, none⟩ = some (.int .u64 0) := (blk_cell BK557.out 0).trans rfl; have hcz18_1 : w16.cell? ⟨gb557, 1, none⟩ = some (.slice none 0 0) := (blk_cell BK557.out 1).trans rfl; have hfz18_0 := blk_frozen BK557.out 0; have hfz18_1 := blk_frozen BK557.out 1))
                    go_loopg [11] k3 (fun kq v11 w' => ∃ (x11_4 : Int) (x558001_4 : List (S50)) (u558001 : Value), v11 = .int .i64 x11_4 ∧ Aside0 (tidemarklaw04_CodecMost.l3 kq t552 x4_1 x6_2 x9_3 x11_4 4294967295 x557001_3 (IntKind.u64.wrap ((IntKind.u64.wrap ((IntKind.u64.wrap ((IntKind.u64.wrap ((IntKind.u64.wrap (4294967295)) * 4294967296)) + 4294967296)) - 65)) + (IntKind.u64.wrap (x9_3)))) x558001_4 = some r) ∧ Aside0 (kq ≤ k3) ∧ Aside0 (Kd.S k47 47 w' w.heap.size (fun k_ => some k_ ≠ (u558001 : Value).ownBlock ∧ k_ ≠ gb557) u557001 x557001_3) ∧ Aside0 (Kd.R k50 50 w' w.heap.size (fun _ => True) u558001 x558001_4) ∧ Aside0 (w'.heap[gb556]? = some (.cells #[.int .u32 4294967295, u557001] 25 (0, 0))) ∧ Aside0 (w'.heap[gb557]? = some (.cells #[.int .u64 (IntKind.u64.wrap ((IntKind.u64.wrap ((IntKind.u64.wrap ((IntKind.u64.wrap ((IntKind.u64.wrap (4294967295)) * 4294967296)) + 4294967296)) - 65)) + (IntKind.u64.wrap (x9_3)))), u558001] 47 (0, 0))) ∧ Aside0 (Below w.heap.size w w'))
                    case atStart => exact ⟨(0), (([] : List (S50))), (.slice none 0 0), (by first | rfl | (simp; done) | (simp [*]; done)), H', ⟨Nat.le_refl _⟩, ⟨by (with_reducible repeat (first | apply Kd.S_alloc | apply Kd.S_drewN | apply Kd.S_drew)); exact Kd.S_mono (Kd.S_far (p := ⟨gb557, 1, none⟩) (Kd.S_far (p := ⟨gb557, 0, none⟩) (Kd.S_mono HO_557001.out (fun k_ hk => (⟨hk, hk.2⟩ : _ ∧ k_ ≠ gb557))) (fun _ hk => hk.2) (.int .u64 (IntKind.u64.wrap ((IntKind.u64.wrap ((IntKind.u64.wrap ((IntKind.u64.wrap ((IntKind.u64.wrap (4294967295)) * 4294967296)) + 4294967296)) - 65)) + (IntKind.u64.wrap (x9_3)))))) (fun _ hk => hk.2) (.slice none 0 0)) (fun _ hk => ⟨(by simp [Value.ownBlock]), hk.1.2⟩)⟩, ⟨by first | exact Kd.R_nil _ _ _ _ _ | exact Kd.N_nil _ _ _ _ _ | exact Kd.V_nil _ _ _ _ _ | exact Kd.Q_nil _ _ _ _ _ | exact Kd.S_nil _ _ _ _ _⟩, ⟨by (with_reducible repeat (first | refine blk_drewN ?_ _ | refine blk_drew ?_ | refine blk_alloc ?_ _)); refine blk_far ?_ NB556_557.out _; (with_reducible repeat (first | refine blk_drewN ?_ _ | refine blk_drew ?_ | refine blk_alloc ?_ _)); refine blk_far ?_ NB556_557.out _; (with_reducible repeat (first | refine blk_drewN ?_ _ | refine blk_drew ?_ | refine blk_alloc ?_ _)); exact BK556.out⟩, ⟨by (with_reducible repeat (first | refine blk_drewN ?_ _ | refine blk_drew ?_ | refine blk_alloc ?_ _)); refine blk_put (cs := #[.int .u64 (IntKind.u64.wrap ((IntKind.u64.wrap ((IntKind.u64.wrap ((IntKind.u64.wrap ((IntKind.u64.wrap (4294967295)) * 4294967296)) + 4294967296)) - 65)) + (IntKind.u64.wrap (x9_3)))), .slice none 0 0]) ?_ 1 _ rfl; (with_reducible repeat (first | refine blk_drewN ?_ _ | refine blk_drew ?_ | refine blk_alloc ?_ _)); refine blk_put (cs := #[.int .u64 0, .slice none 0 0]) ?_ 0 _ rfl; (with_reducible repeat (first | refine blk_drewN ?_ _ | refine blk_drew ?_ | refine blk_alloc ?_ _)); exact BK557.out⟩, ⟨by repeat (first | (with_reducible first | exact HB.out | apply below_alloc | apply pw_below_drewN | apply below_drew1 | refine below_set ?_ GE556.out | refine below_set ?_ GE557.out) | exact HB.out)⟩⟩
                    case round =>
                      clear H'
                      try clear c1
                      try clear hcv1
                      try clear p2
                      try clear c4
                      try clear c4b0
                      try clear c5
                      try clear c5b0
                      try clear c5b1
                      try clear c5b2
                      try clear c6
                      try clear c6b0
                      try clear p6
                      try clear c7
                      try clear c7b0
                      try clear c7b1
                      try clear c7b2
                      try clear c9
                      try clear hcv10
                      try clear hcv11
                      try clear c13
                      try clear c14
                      try clear c14b0
                      try clear c17
                      try clear hcz13_0
                      try clear hcz13_1
                      try clear hcz15_0
                      try clear hcz15_1
                      try clear hcz18_0
                      try clear hcz18_1
                      try clear hfz13_0
                      try clear hfz13_1
                      try clear hfz15_0
                      try clear hfz15_1
                      try clear hfz18_0
                      try clear hfz18_1
                      try clear p2
                      try clear p6
                      obtain ⟨x11_4, x558001_4, u558001, rfl, HA, HK4, HO_557001, HO_558001, BK556, BK557, HB⟩ := hrel
                      cases gk with
                      | zero => exact absurd HA.out (by simp [tidemarklaw04_CodecMost.l3])
                      | succ k4 =>
                        have H := HA.out
                        clear HA
                        simp only [tidemarklaw04_CodecMost.l3] at H
                        by_cases c19 : x11_4 < 32
                        · rw [if_pos c19] at H
                          have c19b0 : decide (x11_4 < 32) = true := decide_eq_true c19
                          clear c19
                          obtain ⟨y558, hy558⟩ : ∃ y_ : List Int, y_ = (([(wrap64 (65 + x11_4)) % 256] : List Int)) := ⟨_, rfl⟩
                          replace H : (if x4_1.size + (strOfNums y558).size ≤ 9223372036854775807 then (if x558001_4.length < 2932031007402 then (tidemarklaw04_CodecMost.l3 k4 t552 x4_1 x6_2 x9_3 (wrap64 (x11_4 + 1)) 4294967295 x557001_3 (IntKind.u64.wrap ((IntKind.u64.wrap ((IntKind.u64.wrap ((IntKind.u64.wrap ((IntKind.u64.wrap (4294967295)) * 4294967296)) + 4294967296)) - 65)) + (IntKind.u64.wrap (x9_3)))) (x558001_4 ++ [(⟨(⟨7, x4_1 ++ (strOfNums y558)⟩ : S28), false, x6_2⟩ : S50)])) else (none)) else (none)) = some r := by first | (rw [hy558]; with_reducible exact H) | (have H2_ := (Option.bind_some _ _).symm.trans H; rw [hy558]; with_reducible exact H2_) | (have H2_ := (Option.bind_some _ _).symm.trans H; with_reducible exact H2_) | with_reducible exact H | (rw [hy558]; exact H) | exact H
                          have Ny558 := Aside0.mk hy558
                          clear hy558
                          by_cases c20 : x4_1.size + (strOfNums y558).size ≤ 9223372036854775807
                          · rw [if_pos c20] at H
                            have c20b0 := eq_true c20
                            have c20b1 : decide (x4_1.size + (strOfNums y558).size ≤ 9223372036854775807) = true := decide_eq_true c20
                            try have c20b2 : (9223372036854775807 < x4_1.size + (strOfNums y558).size) = False := eq_false (Nat.not_lt.2 c20)
                            try (have c20b3 := c20b2; simp only [ByteArray.size_append] at c20b3)
                            by_cases c21 : x558001_4.length < 2932031007402
                            · rw [if_pos c21] at H
                              have LMc21 := Aside0.mk c21
                              clear c21
                              obtain ⟨y561, hy561⟩ : ∃ y_ : List (S50), y_ = (x558001_4 ++ [(⟨(⟨7, x4_1 ++ (strOfNums y558)⟩ : S28), false, x6_2⟩ : S50)]) := ⟨_, rfl⟩
                              replace H : (tidemarklaw04_CodecMost.l3 k4 t552 x4_1 x6_2 x9_3 (wrap64 (x11_4 + 1)) 4294967295 x557001_3 (IntKind.u64.wrap ((IntKind.u64.wrap ((IntKind.u64.wrap ((IntKind.u64.wrap ((IntKind.u64.wrap (4294967295)) * 4294967296)) + 4294967296)) - 65)) + (IntKind.u64.wrap (x9_3)))) y561) = some r := by first | (rw [hy561]; with_reducible exact H) | (have H2_ := (Option.bind_some _ _).symm.trans H; rw [hy561]; with_reducible exact H2_) | (have H2_ := (Option.bind_some _ _).symm.trans H; with_reducible exact H2_) | with_reducible exact H | (rw [hy561]; exact H) | exact H
                              have Ny561 := Aside0.mk hy561
                              clear hy561
                              have H' := Aside0.mk H
                              clear H
                              have hnb22 := NB557_556.out
                              have hnc22 := NB556_557.out
                              have hcz23_0 : wr.cell? ⟨gb557, 0, none⟩ = some (.int .u64 (IntKind.u64.wrap ((IntKind.u64.wrap ((IntKind.u64.wrap ((IntKind.u64.wrap ((IntKind.u64.wrap (4294967295)) * 4294967296)) + 4294967296)) - 65)) + (IntKind.u64.wrap (x9_3))))) := (blk_cell BK557.out 0).trans rfl
                              have hcz23_1 : wr.cell? ⟨gb557, 1, none⟩ = some (u558001) := (blk_cell BK557.out 1).trans rfl
                              have hfz23_0 := blk_frozen BK557.out 0
                              have hfz23_1 := blk_frozen BK557.out 1
                              go_wp2_with (first | ((with_reducible refine gate_dst (N := 58) rfl ?_); (try (refine gate_guard (by rfl) ?_; dsimp only)); refine Kd.R_lit (Kd.int .u8) _ 5 ?hg (N := 58) ?hd (xs := ([(wrap64 (65 + x11_4)) % 256] : List Int)) (inner := [.int .u8 ((wrap64 (65 + x11_4)) % 256)]) (ok := fun _ => True) (okp := fun _ => True) ?hr ?hp (fun _ hk => hk) trivial (Below.refl _ _) (Nat.le_refl _) (by simp) ?_; (case hd => rfl); (case hg => rfl); (case hr => first | (go_simp; done) | (go_simp; rfl)); (case hp => exact (Reps.one (show Kd.M (Kd.int .u8) _ _ _ ((wrap64 (65 + x11_4)) % 256) [.int .u8 ((wrap64 (65 + x11_4)) % 256)] from rfl) (Reps.none _ _))); intro v559 w24 ho25 hb hg_ hnew_; clear hg_ hnew_; (first | rw [← Ny558.out] at ho25 | (simp only [Int.reduceToNat] at ho25; rw [← Ny558.out] at ho25)); have n0_ := Aside0.mk (Kd.S_below (by (with_reducible repeat (first | apply Kd.S_alloc | apply Kd.S_drewN | apply Kd.S_drew)); exact HO_557001.out) hb); have n1_ := Aside0.mk (Kd.R_below (by (with_reducible repeat (first | apply Kd.R_alloc | apply Kd.R_drewN | apply Kd.R_drew)); exact HO_558001.out) hb); have n2_ := Aside0.mk (Kd.R_lower ho25 (below_size (by repeat (first | (with_reducible first | exact HB.out | apply below_alloc | apply pw_below_drewN | apply below_drew1 | refine below_set ?_ GE556.out | refine below_set ?_ GE557.out) | exact HB.out)))); have n3_ := Aside0.mk (blk_below (g := gb556) (o := .cells #[.int .u32 4294967295, u557001] 25 (0, 0)) (by (with_reducible repeat (first | refine blk_drewN ?_ _ | refine blk_drew ?_ | refine blk_alloc ?_ _)); exact BK556.out) hb); have n4_ := Aside0.mk (blk_below (g := gb557) (o := .cells #[.int .u64 (IntKind.u64.wrap ((IntKind.u64.wrap ((IntKind.u64.wrap ((IntKind.u64.wrap ((IntKind.u64.wrap (4294967295)) * 4294967296)) + 4294967296)) - 65)) + (IntKind.u64.wrap (x9_3)))), u558001] 47 (0, 0)) (by (with_reducible repeat (first | refine blk_drewN ?_ _ | refine blk_drew ?_ | refine blk_alloc ?_ _)); exact BK557.out) hb); have n5_ := Aside0.mk (below_step (by repeat (first | (with_reducible first | exact HB.out | apply below_alloc | apply pw_below_drewN | apply below_drew1 | refine below_set ?_ GE556.out | refine below_set ?_ GE557.out) | exact HB.out)) hb); clear HO_557001; clear HO_558001; clear BK556; clear BK557; clear HB; have HO_557001 := n0_; have HO_558001 := n1_; have HO560 := n2_; have BK556 := n3_; have BK557 := n4_; have HB := n5_; clear n0_ n1_ n2_ n3_ n4_ n5_; clear hb ho25; have hcv26 := own_string (P := Try.prog) Try.underlying32 Try.underlying5 Try.underlying9 (Kd.own_of_R HO560.out); have hcv27 := fun nq_ => own_string (P := Try.prog) Try.underlying32 Try.underlying5 Try.underlying9 (Kd.own_of_R (Kd.R_drewN HO560.out nq_))) | ((with_reducible refine gate_builtin (b := .append) (xs := #[.tmp 53, .tmp 64]) rfl ?_); (try (refine gate_guard (by rfl) ?_; dsimp only)); at_builtin; refine Kd.R_append k50 (w0 := w) w.heap.size rfl (.tmp 53) (.tmp 64) 45 50 (.agg #[(.int .u8 0), (.string ⟨#[]⟩), (.bool false), (.string ⟨#[]⟩)]) 48 rfl Try.underlying45 info50 rfl (by decide) (by omega) u558001 x558001_4 (⟨(⟨7, x4_1 ++ (strOfNums y558)⟩ : S28), false, x6_2⟩ : S50) [.int .u8 7, .string (x4_1 ++ (strOfNums y558)), .bool false, .string x6_2] (fun _ => True) (fun _ => False) rfl rfl ?aP (fun _ hk => hk.elim) ?aF ?aO ?aB ?aS ?aL ?_; (case aP => exact k50_mkM _ _ _ (⟨(⟨7, x4_1 ++ (strOfNums y558)⟩ : S28), false, x6_2⟩ : S50)); (case aB => exact (by repeat (first | (with_reducible first | exact HB.out | apply below_alloc | apply pw_below_drewN | apply below_drew1 | refine below_set ?_ GE556.out | refine below_set ?_ GE557.out) | exact HB.out))); (case aF => exact (fun _ _ => trivial)); (case aO => exact (by (with_reducible repeat (first | apply Kd.R_alloc | apply Kd.R_drewN | apply Kd.R_drew)); exact HO_558001.out)); (case aS => exact (below_size (by repeat (first | (with_reducible first | exact HB.out | apply below_alloc | apply pw_below_drewN | apply below_drew1 | refine below_set ?_ GE556.out | refine below_set ?_ GE557.out) | exact HB.out)))); (case aL => have := LMc21.out; omega); intro v562 w28 ho hb hg hat; rw [← Ny561.out] at ho; have n0_ := Aside0.mk (Kd.S_after (ok := (fun k_ => k_ ≠ gb557)) (by (with_reducible repeat (first | apply Kd.S_alloc | apply Kd.S_drewN | apply Kd.S_drew)); exact Kd.S_mono HO_557001.out (fun _ hk => ⟨hk.2, hk.1⟩)) hg hat); have n1_ := Aside0.mk (blk_grown (g := gb556) (o := .cells #[.int .u32 4294967295, u557001] 25 (0, 0)) (by (with_reducible repeat (first | refine blk_drewN ?_ _ | refine blk_drew ?_ | refine blk_alloc ?_ _)); exact BK556.out) hg (Kd.R_ne HO_558001.out BK556.out (by decide))); have n2_ := Aside0.mk (blk_grown (g := gb557) (o := .cells #[.int .u64 (IntKind.u64.wrap ((IntKind.u64.wrap ((IntKind.u64.wrap ((IntKind.u64.wrap ((IntKind.u64.wrap (4294967295)) * 4294967296)) + 4294967296)) - 65)) + (IntKind.u64.wrap (x9_3)))), u558001] 47 (0, 0)) (by (with_reducible repeat (first | refine blk_drewN ?_ _ | refine blk_drew ?_ | refine blk_alloc ?_ _)); exact BK557.out) hg (Kd.R_ne HO_558001.out BK557.out (by decide))); have n3_ := Aside0.mk (Kd.R_over' (by (with_reducible repeat (first | apply Kd.R_alloc | apply Kd.R_drewN | apply Kd.R_drew)); exact HO560.out) (Kd.R_typed (by (with_reducible repeat (first | apply Kd.R_alloc | apply Kd.R_drewN | apply Kd.R_drew)); exact HO_558001.out)) (by decide) hg); have n4_ := Aside0.mk (hb); have n5_ := Aside0.mk (ho); clear HO_557001; clear BK556; clear BK557; clear HO560; clear HB; clear HO_558001; have HO_557001 := n0_; have BK556 := n1_; have BK557 := n2_; have HO560 := n3_; have HB := n4_; have HO563 := n5_; clear n0_ n1_ n2_ n3_ n4_ n5_; clear ho hb hg hat; obtain ⟨Ao29, co29, eo29⟩ := Kd.R_slice HO563.out; subst eo29; have hcz30_0 : w28.cell? ⟨gb557, 0, none⟩ = some (.int .u64 (IntKind.u64.wrap ((IntKind.u64.wrap ((IntKind.u64.wrap ((IntKind.u64.wrap ((IntKind.u64.wrap (4294967295)) * 4294967296)) + 4294967296)) - 65)) + (IntKind.u64.wrap (x9_3))))) := (blk_cell BK557.out 0).trans rfl; have hcz30_1 : w28.cell? ⟨gb557, 1, none⟩ = some (u558001) := (blk_cell BK557.out 1).trans rfl; have hfz30_0 := blk_frozen BK557.out 0; have hfz30_1 := blk_frozen BK557.out 1))
                              go_roundg k4
                              case measure => have := HK1.out; have := HK2.out; have := HK3.out; have := HK4.out; omega
                              case rel => exact ⟨(wrap64 (x11_4 + 1)), (y561), (.slice Ao29 y561.length co29), (by first | rfl | (simp; done) | (simp [*]; done)), H', ⟨by have := HK1.out; have := HK2.out; have := HK3.out; have := HK4.out; omega⟩, ⟨by (with_reducible repeat (first | apply Kd.S_alloc | apply Kd.S_drewN | apply Kd.S_drew)); exact Kd.S_mono (Kd.S_far (p := ⟨gb557, 1, none⟩) (Kd.S_mono HO_557001.out (fun k_ hk => (⟨hk, hk.1⟩ : _ ∧ k_ ≠ gb557))) (fun _ hk => hk.2) (.slice Ao29 y561.length co29)) (fun _ hk => ⟨hk.1.2, hk.1.1⟩)⟩, ⟨by (with_reducible repeat (first | apply Kd.R_alloc | apply Kd.R_drewN | apply Kd.R_drew)); exact Kd.R_mono (Kd.R_far (p := ⟨gb557, 1, none⟩) (Kd.R_types HO563.out BK557.out (by decide)) (fun _ hk => hk.2) (.slice Ao29 y561.length co29)) (fun _ hk => trivial)⟩, ⟨by (with_reducible repeat (first | refine blk_drewN ?_ _ | refine blk_drew ?_ | refine blk_alloc ?_ _)); refine blk_far ?_ NB556_557.out _; (with_reducible repeat (first | refine blk_drewN ?_ _ | refine blk_drew ?_ | refine blk_alloc ?_ _)); exact BK556.out⟩, ⟨by (with_reducible repeat (first | refine blk_drewN ?_ _ | refine blk_drew ?_ | refine blk_alloc ?_ _)); refine blk_put (cs := #[.int .u64 (IntKind.u64.wrap ((IntKind.u64.wrap ((IntKind.u64.wrap ((IntKind.u64.wrap ((IntKind.u64.wrap (4294967295)) * 4294967296)) + 4294967296)) - 65)) + (IntKind.u64.wrap (x9_3)))), u558001]) ?_ 1 _ rfl; (with_reducible repeat (first | refine blk_drewN ?_ _ | refine blk_drew ?_ | refine blk_alloc ?_ _)); exact BK557.out⟩, ⟨by repeat (first | (with_reducible first | exact HB.out | apply below_alloc | apply pw_below_drewN | apply below_drew1 | refine below_set ?_ GE556.out | refine below_set ?_ GE557.out) | exact HB.out)⟩⟩
                            · rw [if_neg c21] at H
                              exact absurd H (by simp)
                          · rw [if_neg c20] at H
                            exact absurd H (by simp)
                        · rw [if_neg c19] at H
                          have c19b0 : decide (x11_4 < 32) = false := decide_eq_false c19
                          clear c19
                          by_cases c31 : x557001_3.length < 4398046511104
                          · rw [if_pos c31] at H
                            have LMc31 := Aside0.mk c31
                            clear c31
                            obtain ⟨y564, hy564⟩ : ∃ y_ : List (S47), y_ = (x557001_3 ++ [(⟨(IntKind.u64.wrap ((IntKind.u64.wrap ((IntKind.u64.wrap ((IntKind.u64.wrap ((IntKind.u64.wrap (4294967295)) * 4294967296)) + 4294967296)) - 65)) + (IntKind.u64.wrap (x9_3)))), x558001_4⟩ : S47)]) := ⟨_, rfl⟩
                            replace H : (tidemarklaw04_CodecMost.l2 k4 t552 x4_1 x6_2 (wrap64 (x9_3 + 1)) 4294967295 y564) = some r := by first | (rw [hy564]; with_reducible exact H) | (have H2_ := (Option.bind_some _ _).symm.trans H; rw [hy564]; with_reducible exact H2_) | (have H2_ := (Option.bind_some _ _).symm.trans H; with_reducible exact H2_) | with_reducible exact H | (rw [hy564]; exact H) | exact H
                            have Ny564 := Aside0.mk hy564
                            clear hy564
                            have H' := Aside0.mk H
                            clear H
                            have hnb32 := NB556_557.out
                            have hnc32 := NB557_556.out
                            have hcz33_0 : wr.cell? ⟨gb556, 0, none⟩ = some (.int .u32 4294967295) := (blk_cell BK556.out 0).trans rfl
                            have hcz33_1 : wr.cell? ⟨gb556, 1, none⟩ = some (u557001) := (blk_cell BK556.out 1).trans rfl
                            have hfz33_0 := blk_frozen BK556.out 0
                            have hfz33_1 := blk_frozen BK556.out 1
                            have hcz34_0 : wr.cell? ⟨gb557, 0, none⟩ = some (.int .u64 (IntKind.u64.wrap ((IntKind.u64.wrap ((IntKind.u64.wrap ((IntKind.u64.wrap ((IntKind.u64.wrap (4294967295)) * 4294967296)) + 4294967296)) - 65)) + (IntKind.u64.wrap (x9_3))))) := (blk_cell BK557.out 0).trans rfl
                            have hcz34_1 : wr.cell? ⟨gb557, 1, none⟩ = some (u558001) := (blk_cell BK557.out 1).trans rfl
                            have hfz34_0 := blk_frozen BK557.out 0
                            have hfz34_1 := blk_frozen BK557.out 1
                            obtain ⟨Ao36, co36, eo36⟩ := Kd.R_slice HO_558001.out
                            subst eo36
                            go_wp2_with (first | ((with_reducible refine gate_builtin (b := .append) (xs := #[.tmp 68, .tmp 70]) rfl ?_); (try (refine gate_guard (by rfl) ?_; dsimp only)); at_builtin; refine Kd.S_append k47 (w0 := w) w.heap.size rfl (.tmp 68) (.tmp 70) 23 47 (.agg #[(.int .u64 0), (.slice none 0 0)]) 32 rfl Try.underlying23 info47 rfl (by decide) (by omega) u557001 x557001_3 (⟨(IntKind.u64.wrap ((IntKind.u64.wrap ((IntKind.u64.wrap ((IntKind.u64.wrap ((IntKind.u64.wrap (4294967295)) * 4294967296)) + 4294967296)) - 65)) + (IntKind.u64.wrap (x9_3)))), x558001_4⟩ : S47) [.int .u64 (IntKind.u64.wrap ((IntKind.u64.wrap ((IntKind.u64.wrap ((IntKind.u64.wrap ((IntKind.u64.wrap (4294967295)) * 4294967296)) + 4294967296)) - 65)) + (IntKind.u64.wrap (x9_3)))), .slice Ao36 x558001_4.length co36] (fun k_ => k_ ≠ gb557) (fun k_ => some k_ = (.slice Ao36 x558001_4.length co36 : Value).ownBlock) rfl rfl ?aP (fun k_ hk_ => ((Kd.R_mono (ok' := fun k_ => ((fun k_ => k_ ≠ gb557)) k_ ∧ some k_ ≠ (u557001 : Value).ownBlock) (Kd.R_types (Kd.R_apart' (HO_558001.out) (Kd.S_typed HO_557001.out) (by decide)) BK557.out (by decide)) (fun k_ hk => ⟨hk.2, hk.1.2⟩))).1 k_ hk_.symm) ?aF ?aO ?aB ?aS ?aL ?_; (case aP => exact k47_mkM _ _ _ (⟨(IntKind.u64.wrap ((IntKind.u64.wrap ((IntKind.u64.wrap ((IntKind.u64.wrap ((IntKind.u64.wrap (4294967295)) * 4294967296)) + 4294967296)) - 65)) + (IntKind.u64.wrap (x9_3)))), x558001_4⟩ : S47) (Kd.R_mono (Kd.R_tight rfl (Kd.R_mono (ok' := fun k_ => ((fun k_ => k_ ≠ gb557)) k_ ∧ some k_ ≠ (u557001 : Value).ownBlock) (Kd.R_types (Kd.R_apart' (HO_558001.out) (Kd.S_typed HO_557001.out) (by decide)) BK557.out (by decide)) (fun k_ hk => ⟨hk.2, hk.1.2⟩))) (fun _ h_ => h_))); (case aB => exact (by repeat (first | (with_reducible first | exact HB.out | apply below_alloc | apply pw_below_drewN | apply below_drew1 | refine below_set ?_ GE556.out | refine below_set ?_ GE557.out) | exact HB.out))); (case aF => exact (fun k_ hk => Kd.freshB (g := gb557) (o := .cells #[.int .u64 (IntKind.u64.wrap ((IntKind.u64.wrap ((IntKind.u64.wrap ((IntKind.u64.wrap ((IntKind.u64.wrap (4294967295)) * 4294967296)) + 4294967296)) - 65)) + (IntKind.u64.wrap (x9_3)))), .slice Ao36 x558001_4.length co36] 47 (0, 0)) (by (with_reducible repeat (first | refine blk_drewN ?_ _ | refine blk_drew ?_ | refine blk_alloc ?_ _)); exact BK557.out) k_ hk)); (case aO => exact (by (with_reducible repeat (first | apply Kd.S_alloc | apply Kd.S_drewN | apply Kd.S_drew)); exact Kd.S_mono HO_557001.out (fun k_ hk => ⟨hk.2, fun e_ => hk.1 e_⟩))); (case aS => exact (below_size (by repeat (first | (with_reducible first | exact HB.out | apply below_alloc | apply pw_below_drewN | apply below_drew1 | refine below_set ?_ GE556.out | refine below_set ?_ GE557.out) | exact HB.out)))); (case aL => have := LMc31.out; omega); intro v565 w35 ho hb hg hat; rw [← Ny564.out] at ho; have n0_ := Aside0.mk (blk_grown (g := gb556) (o := .cells #[.int .u32 4294967295, u557001] 25 (0, 0)) (by (with_reducible repeat (first | refine blk_drewN ?_ _ | refine blk_drew ?_ | refine blk_alloc ?_ _)); exact BK556.out) hg (Kd.S_ne HO_557001.out BK556.out (by decide))); have n1_ := Aside0.mk (blk_grown (g := gb557) (o := .cells #[.int .u64 (IntKind.u64.wrap ((IntKind.u64.wrap ((IntKind.u64.wrap ((IntKind.u64.wrap ((IntKind.u64.wrap (4294967295)) * 4294967296)) + 4294967296)) - 65)) + (IntKind.u64.wrap (x9_3)))), .slice Ao36 x558001_4.length co36] 47 (0, 0)) (by (with_reducible repeat (first | refine blk_drewN ?_ _ | refine blk_drew ?_ | refine blk_alloc ?_ _)); exact BK557.out) hg (Kd.S_away HO_557001.out (fun _ hk => hk.2))); have n2_ := Aside0.mk (hb); have n3_ := Aside0.mk (ho); clear BK556; clear BK557; clear HB; clear HO_557001; clear HO_558001; have BK556 := n0_; have BK557 := n1_; have HB := n2_; have HO566 := n3_; clear n0_ n1_ n2_ n3_; clear ho hb hg hat; obtain ⟨Ao37, co37, eo37⟩ := Kd.S_slice HO566.out; subst eo37; have hcz38_0 : w35.cell? ⟨gb556, 0, none⟩ = some (.int .u32 4294967295) := (blk_cell BK556.out 0).trans rfl; have hcz38_1 : w35.cell? ⟨gb556, 1, none⟩ = some (u557001) := (blk_cell BK556.out 1).trans rfl; have hfz38_0 := blk_frozen BK556.out 0; have hfz38_1 := blk_frozen BK556.out 1))
                            go_roundg k4
                            case measure => have := HK1.out; have := HK2.out; have := HK3.out; have := HK4.out; omega
                            case rel => exact ⟨(wrap64 (x9_3 + 1)), (y564), (.slice Ao37 y564.length co37), (by first | rfl | (simp; done) | (simp [*]; done)), H', ⟨by have := HK1.out; have := HK2.out; have := HK3.out; have := HK4.out; omega⟩, ⟨by (with_reducible repeat (first | apply Kd.S_alloc | apply Kd.S_drewN | apply Kd.S_drew)); exact Kd.S_mono (Kd.S_far (p := ⟨gb556, 1, none⟩) (Kd.S_types HO566.out BK556.out (by decide)) (fun _ hk => hk.2) (.slice Ao37 y564.length co37)) (fun _ hk => trivial)⟩, ⟨by (with_reducible repeat (first | refine blk_drewN ?_ _ | refine blk_drew ?_ | refine blk_alloc ?_ _)); refine blk_put (cs := #[.int .u32 4294967295, u557001]) ?_ 1 _ rfl; (with_reducible repeat (first | refine blk_drewN ?_ _ | refine blk_drew ?_ | refine blk_alloc ?_ _)); exact BK556.out⟩, ⟨by repeat (first | (with_reducible first | exact HB.out | apply below_alloc | apply pw_below_drewN | apply below_drew1 | refine below_set ?_ GE556.out | refine below_set ?_ GE557.out) | exact HB.out)⟩⟩
                          · rw [if_neg c31] at H
                            exact absurd H (by simp)
                  · rw [if_neg c14] at H
                    have c14b0 : decide (x9_3 < 65) = false := decide_eq_false c14
                    clear c14
                    replace H := Option.bind_eq_some_iff.mp H
                    obtain ⟨t567, A390, H⟩ := H
                    replace H : (if 64 ≤ (x557001_3.length : Int) then ((some (x557001_3.take (64 : Int).toNat : List (S47))).bind fun y568 => ((codec_Encode.f k3 4294967295 y568).bind fun bt571 => ((codec_Decode.f bt571.1).bind fun bt575 => (if t552 = true then (if t567 = 1 then (if bt571.2 = 0 then (if (bt571.1.length : Int) ≤ 1048576 then (if bt575.2.2 = 0 then ((tidemarkref04_Same.f k3 bt575.1 bt575.2.1 4294967295 y568).bind fun t581 => (some t581)) else (some false)) else (some false)) else (some false)) else (some false)) else (some false))))) else (none)) = some r := H
                    have A39 := Aside0.mk A390
                    clear A390
                    by_cases c40 : 64 ≤ (x557001_3.length : Int)
                    · rw [if_pos c40] at H
                      have c40b0 := eq_true c40
                      have c40b1 : decide (64 ≤ (x557001_3.length : Int)) = true := decide_eq_true c40
                      clear c40
                      obtain ⟨y568, hy568⟩ : ∃ y_ : List (S47), y_ = (x557001_3.take (64 : Int).toNat) := ⟨_, rfl⟩
                      replace H : ((codec_Encode.f k3 4294967295 y568).bind fun bt571 => ((codec_Decode.f bt571.1).bind fun bt575 => (if t552 = true then (if t567 = 1 then (if bt571.2 = 0 then (if (bt571.1.length : Int) ≤ 1048576 then (if bt575.2.2 = 0 then ((tidemarkref04_Same.f k3 bt575.1 bt575.2.1 4294967295 y568).bind fun t581 => (some t581)) else (some false)) else (some false)) else (some false)) else (some false)) else (some false)))) = some r := by first | (rw [hy568]; with_reducible exact H) | (have H2_ := (Option.bind_some _ _).symm.trans H; rw [hy568]; with_reducible exact H2_) | (have H2_ := (Option.bind_some _ _).symm.trans H; with_reducible exact H2_) | with_reducible exact H | (rw [hy568]; exact H) | exact H
                      have Ny568 := Aside0.mk hy568
                      clear hy568
                      replace H := Option.bind_eq_some_iff.mp H
                      obtain ⟨⟨t571, t574⟩, A410, H⟩ := H
                      replace H : ((codec_Decode.f t571).bind fun bt575 => (if t552 = true then (if t567 = 1 then (if t574 = 0 then (if (t571.length : Int) ≤ 1048576 then (if bt575.2.2 = 0 then ((tidemarkref04_Same.f k3 bt575.1 bt575.2.1 4294967295 y568).bind fun t581 => (some t581)) else (some false)) else (some false)) else (some false)) else (some false)) else (some false))) = some r := H
                      have A41 := Aside0.mk A410
                      clear A410
                      replace H := Option.bind_eq_some_iff.mp H
                      obtain ⟨⟨t575, t576, t579⟩, A420, H⟩ := H
                      replace H : (if t552 = true then (if t567 = 1 then (if t574 = 0 then (if (t571.length : Int) ≤ 1048576 then (if t579 = 0 then ((tidemarkref04_Same.f k3 t575 t576 4294967295 y568).bind fun t581 => (some t581)) else (some false)) else (some false)) else (some false)) else (some false)) else (some false)) = some r := H
                      have A42 := Aside0.mk A420
                      clear A420
                      by_cases c43 : t552 = true
                      · subst c43
                        have H1 : (if t567 = 1 then (if t574 = 0 then (if (t571.length : Int) ≤ 1048576 then (if t579 = 0 then ((tidemarkref04_Same.f k3 t575 t576 4294967295 y568).bind fun t581 => (some t581)) else (some false)) else (some false)) else (some false)) else (some false)) = some r := by rw [if_pos rfl] at H; exact H
                        clear H
                        have H := H1
                        clear H1
                        by_cases c44 : t567 = 1
                        · rw [if_pos c44] at H
                          have c44b0 : (t567 == 1) = true := beq_iff_eq.mpr c44
                          have c44b1 : (t567 != 1) = false := bne_eq_false_iff_eq.mpr c44
                          clear c44
                          by_cases c45 : t574 = 0
                          · rw [if_pos c45] at H
                            have c45b0 : (t574 == 0) = true := beq_iff_eq.mpr c45
                            have c45b1 : (t574 != 0) = false := bne_eq_false_iff_eq.mpr c45
                            clear c45
                            by_cases c46 : (t571.length : Int) ≤ 1048576
                            · rw [if_pos c46] at H
                              have c46b0 : decide ((t571.length : Int) ≤ 1048576) = true := decide_eq_true c46
                              have c46b1 : decide (t571.length ≤ 1048576) = true := decide_eq_true (by omega)
                              clear c46
                              by_cases c47 : t579 = 0
                              · rw [if_pos c47] at H
                                have c47b0 : (t579 == 0) = true := beq_iff_eq.mpr c47
                                have c47b1 : (t579 != 0) = false := bne_eq_false_iff_eq.mpr c47
                                clear c47
                                replace H := Option.bind_eq_some_iff.mp H
                                obtain ⟨t581, A480, H⟩ := H
                                replace H : (some t581) = some r := H
                                have A48 := Aside0.mk A480
                                clear A480
                                obtain rfl := Option.some.inj H
                                have hcz49_0 : wr.cell? ⟨gb556, 0, none⟩ = some (.int .u32 4294967295) := (blk_cell BK556.out 0).trans rfl
                                have hcz49_1 : wr.cell? ⟨gb556, 1, none⟩ = some (u557001) := (blk_cell BK556.out 1).trans rfl
                                have hfz49_0 := blk_frozen BK556.out 0
                                have hfz49_1 := blk_frozen BK556.out 1
                                obtain ⟨Ao50, co50, eo50⟩ := Kd.S_slice HO_557001.out
                                subst eo50
                                go_wp2_with (first | ((with_reducible refine gate_callee (f := 20) rfl ?_); refine goesL_ (some 74) rfl rfl Try.func20 (by kernel_rfl) rfl #[.agg #[.int .u32 4294967295, .slice Ao50 x557001_3.length co50]] rfl (by (try simp only [List.map_toArray, List.map_cons, List.map_nil]); first | done | rfl | (simp only [List.length_drop, List.length_take]; rfl) | (rw [IntKind.wrap_u64, Int.emod_eq_of_lt (by omega) (by omega)]; rfl)) ?_; (with_reducible refine (codec_Right.calls 4294967295 _ _ x557001_3 t567 _ ?side1 ?side2 A39.out).mono ?_); (case side1 => repeat (first | exact (Kd.S_reads' HO_557001.out).2.2 | (with_reducible refine Kd.C_alloc ?_ _) | (with_reducible refine Kd.C_drewN ?_ _) | (with_reducible refine Kd.C_drew ?_))); (case side2 => exact (Kd.S_reads' HO_557001.out).2.1); rintro e w51 ⟨rfl, hb⟩; refine ⟨_, rfl, ?_⟩; have n0_ := Aside0.mk (Kd.S_below (by (with_reducible repeat (first | apply Kd.S_alloc | apply Kd.S_drewN | apply Kd.S_drew)); exact HO_557001.out) hb); have n1_ := Aside0.mk (blk_below (g := gb556) (o := .cells #[.int .u32 4294967295, .slice Ao50 x557001_3.length co50] 25 (0, 0)) (by (with_reducible repeat (first | refine blk_drewN ?_ _ | refine blk_drew ?_ | refine blk_alloc ?_ _)); exact BK556.out) hb); have n2_ := Aside0.mk (below_step (by repeat (first | (with_reducible first | exact HB.out | apply below_alloc | apply pw_below_drewN | apply below_drew1 | refine below_set ?_ GE556.out) | exact HB.out)) hb); clear HO_557001; clear BK556; clear HB; have HO_557001 := n0_; have BK556 := n1_; have HB := n2_; clear n0_ n1_ n2_; (try clear hb); (try clear hb2); (try clear hk); (try clear hi); have hcz52_0 : w51.cell? ⟨gb556, 0, none⟩ = some (.int .u32 4294967295) := (blk_cell BK556.out 0).trans rfl; have hcz52_1 : w51.cell? ⟨gb556, 1, none⟩ = some (.slice Ao50 x557001_3.length co50) := (blk_cell BK556.out 1).trans rfl; have hfz52_0 := blk_frozen BK556.out 0; have hfz52_1 := blk_frozen BK556.out 1; have q53 : (64 : Int) ≤ ((x557001_3.length : Int) : Int) := of_decide_eq_true (by first | (with_reducible assumption) | assumption); obtain ⟨i053, hi053, _, hsz53, _⟩ := info_parts info47; have hcut53 := cut_to (P := Try.prog) 23 47 .i64 Try.underlying23 hi053 Ao50 x557001_3.length co50 64 (by omega) q53 (Kd.S_reads' HO_557001.out).2.1; have hr53 := Kd.S_take (m := (64 : Int).toNat) HO_557001.out (by omega); have hy53 : y568.length = (64 : Int).toNat := (by rw [Ny568.out, List.length_take]; omega); rw [← Ny568.out] at hr53; rw [← hy53] at hr53 hcut53; clear hy53 hi053 hsz53 HO_557001; have HO570 := Aside0.mk hr53; clear hr53; replace q53 := eq_true q53) | ((with_reducible refine gate_callee (f := 16) rfl ?_); refine goesL_ (some 81) rfl rfl Try.func16 (by kernel_rfl) rfl #[.agg #[.int .u32 4294967295, .slice Ao50 y568.length co50]] rfl (by (try simp only [List.map_toArray, List.map_cons, List.map_nil]); first | done | rfl | (simp only [List.length_drop, List.length_take]; rfl) | (rw [IntKind.wrap_u64, Int.emod_eq_of_lt (by omega) (by omega)]; rfl)) ?_; (with_reducible refine (codec_Encode.calls k3 4294967295 _ _ y568 t571 t574 _ ?side1 ?side2 A41.out).mono ?_); (case side1 => refine (Kd.S_reads' (e := 47) (base := w.heap.size) (ok := fun k_ => True) (n := y568.length) (c := co50) ?_).2.2; exact (by (with_reducible repeat (first | apply Kd.S_alloc | apply Kd.S_drewN | apply Kd.S_drew)); exact (Kd.S_mono (Kd.S_far (p := ⟨gb556, 1, none⟩) (Kd.S_types HO570.out BK556.out (by decide)) (fun _ hk => hk.2) (.slice Ao50 y568.length co50)) (fun _ h_ => h_.1)))); (case side2 => exact (Kd.S_reads' HO570.out).2.1); rintro e w54 ⟨v572, rfl, ho0, hb⟩; refine ⟨_, rfl, ?_⟩; have n0_ := Aside0.mk (Kd.S_below (by (with_reducible repeat (first | apply Kd.S_alloc | apply Kd.S_drewN | apply Kd.S_drew)); exact (Kd.S_mono (Kd.S_far (p := ⟨gb556, 1, none⟩) (Kd.S_types HO570.out BK556.out (by decide)) (fun _ hk => hk.2) (.slice Ao50 y568.length co50)) (fun _ h_ => h_.1))) hb); have n1_ := Aside0.mk (Kd.R_lower ho0 (below_size (by repeat (first | (with_reducible first | exact HB.out | apply below_alloc | apply pw_below_drewN | apply below_drew1 | refine below_set ?_ GE556.out) | exact HB.out)))); have n2_ := Aside0.mk (blk_below (g := gb556) (o := .cells #[.int .u32 4294967295, .slice Ao50 y568.length co50] 25 (0, 0)) (by (with_reducible repeat (first | refine blk_drewN ?_ _ | refine blk_drew ?_ | refine blk_alloc ?_ _)); refine blk_put (cs := #[.int .u32 4294967295, .slice Ao50 x557001_3.length co50]) ?_ 1 _ rfl; (with_reducible repeat (first | refine blk_drewN ?_ _ | refine blk_drew ?_ | refine blk_alloc ?_ _)); exact BK556.out) hb); have n3_ := Aside0.mk (below_step (by repeat (first | (with_reducible first | exact HB.out | apply below_alloc | apply pw_below_drewN | apply below_drew1 | refine below_set ?_ GE556.out) | exact HB.out)) hb); clear HO570; clear BK556; clear HB; have HO570 := n0_; have HO573 := n1_; have BK556 := n2_; have HB := n3_; clear n0_ n1_ n2_ n3_; (try clear hb); (try clear hb2); (try clear hk); (try clear hi); (try clear ho0); obtain ⟨Ao55, co55, eo55⟩ := Kd.R_slice HO573.out; subst eo55) | ((with_reducible refine gate_callee (f := 28) rfl ?_); refine goesL_ (some 86) rfl rfl Try.func28 (by kernel_rfl) rfl #[.slice Ao55 t571.length co55] rfl (by (try simp only [List.map_toArray, List.map_cons, List.map_nil]); first | done | rfl | (simp only [List.length_drop, List.length_take]; rfl) | (rw [IntKind.wrap_u64, Int.emod_eq_of_lt (by omega) (by omega)]; rfl)) ?_; (with_reducible refine (codec_Decode.calls _ _ t571 t575 t576 t579 _ ?side1 ?side2 A42.out).mono ?_); (case side1 => repeat (first | exact (Kd.R_reads' HO573.out).2.2 | (with_reducible refine Kd.C_alloc ?_ _) | (with_reducible refine Kd.C_drewN ?_ _) | (with_reducible refine Kd.C_drew ?_))); (case side2 => exact (Kd.R_reads' HO573.out).2.1); rintro e w56 ⟨v577, rfl, ho0, hb⟩; refine ⟨_, rfl, ?_⟩; have n0_ := Aside0.mk (Kd.S_elder' (by (with_reducible repeat (first | apply Kd.S_alloc | apply Kd.S_drewN | apply Kd.S_drew)); exact HO570.out) (Kd.S_base ho0) hb); have n1_ := Aside0.mk (Kd.R_below (by (with_reducible repeat (first | apply Kd.R_alloc | apply Kd.R_drewN | apply Kd.R_drew)); exact HO573.out) hb); have n2_ := Aside0.mk (Kd.S_lower (Kd.S_new' ho0 (Kd.S_lt (by (with_reducible repeat (first | apply Kd.S_alloc | apply Kd.S_drewN | apply Kd.S_drew)); exact HO570.out))) (below_size (by repeat (first | (with_reducible first | exact HB.out | apply below_alloc | apply pw_below_drewN | apply below_drew1 | refine below_set ?_ GE556.out) | exact HB.out)))); have n3_ := Aside0.mk (blk_below (g := gb556) (o := .cells #[.int .u32 4294967295, .slice Ao50 y568.length co50] 25 (0, 0)) (by (with_reducible repeat (first | refine blk_drewN ?_ _ | refine blk_drew ?_ | refine blk_alloc ?_ _)); exact BK556.out) hb); have n4_ := Aside0.mk (below_step (by repeat (first | (with_reducible first | exact HB.out | apply below_alloc | apply pw_below_drewN | apply below_drew1 | refine below_set ?_ GE556.out) | exact HB.out)) hb); clear HO570; clear HO573; clear BK556; clear HB; have HO570 := n0_; have HO573 := n1_; have HO578 := n2_; have BK556 := n3_; have HB := n4_; clear n0_ n1_ n2_ n3_ n4_; (try clear hb); (try clear hb2); (try clear hk); (try clear hi); (try clear ho0)) | ((with_reducible refine gate_dst (N := 15) rfl ?_); (try (refine gate_guard (by rfl) ?_; dsimp only)); refine box_event ?hg (N := 15) ?hd (cs := #[.int .u32 0, .slice none 0 0]) (t := 25) ?hr ?_; (case hd => rfl); (case hg => rfl); (case hr => first | (go_simp; done) | (go_simp; rfl)); intro gb580 hg w57 hbox hb; have n0_ := Aside0.mk (Kd.S_below (by (with_reducible repeat (first | apply Kd.S_alloc | apply Kd.S_drewN | apply Kd.S_drew)); exact HO570.out) hb); have n1_ := Aside0.mk (Kd.R_below (by (with_reducible repeat (first | apply Kd.R_alloc | apply Kd.R_drewN | apply Kd.R_drew)); exact HO573.out) hb); have n2_ := Aside0.mk (Kd.S_below (by (with_reducible repeat (first | apply Kd.S_alloc | apply Kd.S_drewN | apply Kd.S_drew)); exact HO578.out) hb); have n3_ := Aside0.mk (blk_below (g := gb556) (o := .cells #[.int .u32 4294967295, .slice Ao50 y568.length co50] 25 (0, 0)) (by (with_reducible repeat (first | refine blk_drewN ?_ _ | refine blk_drew ?_ | refine blk_alloc ?_ _)); exact BK556.out) hb); have n4_ := Aside0.mk (below_step (by repeat (first | (with_reducible first | exact HB.out | apply below_alloc | apply pw_below_drewN | apply below_drew1 | refine below_set ?_ GE556.out) | exact HB.out)) hb); have n5_ := Aside0.mk (hbox); have n6_ := Aside0.mk ((by rw [hg]; exact (below_size (by repeat (first | (with_reducible first | exact HB.out | apply below_alloc | apply pw_below_drewN | apply below_drew1 | refine below_set ?_ GE556.out) | exact HB.out))) : w.heap.size ≤ gb580)); have n7_ := Aside0.mk ((by rw [hg]; exact (below_size (by repeat (first | (with_reducible first | exact HB.out | apply below_alloc | apply pw_below_drewN | apply below_drew1 | refine below_set ?_ GE556.out) | exact HB.out))) : w.heap.size ≤ gb580)); have n8_ := Aside0.mk ((by rw [hg]; exact Nat.ne_of_lt (blk_lt (g := gb556) (o := .cells #[.int .u32 4294967295, .slice Ao50 y568.length co50] 25 (0, 0)) (by (with_reducible repeat (first | refine blk_drewN ?_ _ | refine blk_drew ?_ | refine blk_alloc ?_ _)); exact BK556.out)) : gb556 ≠ gb580)); have n9_ := Aside0.mk ((by rw [hg]; exact Nat.ne_of_gt (blk_lt (g := gb556) (o := .cells #[.int .u32 4294967295, .slice Ao50 y568.length co50] 25 (0, 0)) (by (with_reducible repeat (first | refine blk_drewN ?_ _ | refine blk_drew ?_ | refine blk_alloc ?_ _)); exact BK556.out)) : gb580 ≠ gb556)); clear HO570; clear HO573; clear HO578; clear BK556; clear HB; have HO570 := n0_; have HO573 := n1_; have HO578 := n2_; have BK556 := n3_; have HB := n4_; have BK580 := n5_; have GW580 := n6_; have GE580 := n7_; have NB556_580 := n8_; have NB580_556 := n9_; clear n0_ n1_ n2_ n3_ n4_ n5_ n6_ n7_ n8_ n9_; clear hb hbox hg; have hnb58 := NB580_556.out; have hnc58 := NB556_580.out; have hcz59_0 : w57.cell? ⟨gb580, 0, none⟩ = some (.int .u32 0) := (blk_cell BK580.out 0).trans rfl; have hcz59_1 : w57.cell? ⟨gb580, 1, none⟩ = some (.slice none 0 0) := (blk_cell BK580.out 1).trans rfl; have hfz59_0 := blk_frozen BK580.out 0; have hfz59_1 := blk_frozen BK580.out 1; obtain ⟨Ao60, co60, eo60⟩ := Kd.S_slice HO578.out; subst eo60; have hcz61_0 : w57.cell? ⟨gb556, 0, none⟩ = some (.int .u32 4294967295) := (blk_cell BK556.out 0).trans rfl; have hcz61_1 : w57.cell? ⟨gb556, 1, none⟩ = some (.slice Ao50 y568.length co50) := (blk_cell BK556.out 1).trans rfl; have hfz61_0 := blk_frozen BK556.out 0; have hfz61_1 := blk_frozen BK556.out 1) | (go_at_call 26; (with_reducible refine (tidemarkref04_Same.calls k3 t575 _ _ t576 4294967295 _ _ y568 t581 _ ?side1 ?side2 ?side3 ?side4 A48.out).mono ?_); (case side1 => refine (Kd.S_reads' (e := 47) (base := w.heap.size) (ok := fun k_ => (True ∧ some k_ ≠ (.slice Ao50 y568.length co50 : Value).ownBlock)) (n := t576.length) (c := co60) ?_).2.2; exact (by (with_reducible repeat (first | apply Kd.S_alloc | apply Kd.S_drewN | apply Kd.S_drew)); exact (Kd.S_mono (Kd.S_far (p := ⟨gb580, 1, none⟩) (Kd.S_far (p := ⟨gb580, 0, none⟩) (Kd.S_types HO578.out BK580.out (by decide)) (fun _ hk => hk.2) (.int .u32 t575)) (fun _ hk => hk.2) (.slice Ao60 t576.length co60)) (fun _ h_ => h_.1)))); (case side2 => exact (Kd.S_reads' HO578.out).2.1); (case side3 => refine (Kd.S_reads' (e := 47) (base := w.heap.size) (ok := fun k_ => (True ∧ some k_ ≠ (.slice Ao60 t576.length co60 : Value).ownBlock)) (n := y568.length) (c := co50) ?_).2.2; exact (by (with_reducible repeat (first | apply Kd.S_alloc | apply Kd.S_drewN | apply Kd.S_drew)); exact (Kd.S_mono (Kd.S_far (p := ⟨gb580, 1, none⟩) (Kd.S_far (p := ⟨gb580, 0, none⟩) (Kd.S_types HO570.out BK580.out (by decide)) (fun _ hk => hk.2) (.int .u32 t575)) (fun _ hk => hk.2) (.slice Ao60 t576.length co60)) (fun _ h_ => h_.1)))); (case side4 => exact (Kd.S_reads' HO570.out).2.1); rintro e w62 ⟨rfl, hb⟩; have n0_ := Aside0.mk (Kd.S_below (by (with_reducible repeat (first | apply Kd.S_alloc | apply Kd.S_drewN | apply Kd.S_drew)); exact (Kd.S_mono (Kd.S_far (p := ⟨gb580, 1, none⟩) (Kd.S_far (p := ⟨gb580, 0, none⟩) (Kd.S_types HO570.out BK580.out (by decide)) (fun _ hk => hk.2) (.int .u32 t575)) (fun _ hk => hk.2) (.slice Ao60 t576.length co60)) (fun _ h_ => h_.1))) hb); have n1_ := Aside0.mk (Kd.R_below (by (with_reducible repeat (first | apply Kd.R_alloc | apply Kd.R_drewN | apply Kd.R_drew)); exact (Kd.R_mono (Kd.R_far (p := ⟨gb580, 1, none⟩) (Kd.R_far (p := ⟨gb580, 0, none⟩) (Kd.R_types HO573.out BK580.out (by decide)) (fun _ hk => hk.2) (.int .u32 t575)) (fun _ hk => hk.2) (.slice Ao60 t576.length co60)) (fun _ h_ => h_.1))) hb); have n2_ := Aside0.mk (Kd.S_below (by (with_reducible repeat (first | apply Kd.S_alloc | apply Kd.S_drewN | apply Kd.S_drew)); exact (Kd.S_mono (Kd.S_far (p := ⟨gb580, 1, none⟩) (Kd.S_far (p := ⟨gb580, 0, none⟩) (Kd.S_types HO578.out BK580.out (by decide)) (fun _ hk => hk.2) (.int .u32 t575)) (fun _ hk => hk.2) (.slice Ao60 t576.length co60)) (fun _ h_ => h_.1))) hb); have n3_ := Aside0.mk (blk_below (g := gb556) (o := .cells #[.int .u32 4294967295, .slice Ao50 y568.length co50] 25 (0, 0)) (by (with_reducible repeat (first | refine blk_drewN ?_ _ | refine blk_drew ?_ | refine blk_alloc ?_ _)); refine blk_far ?_ NB556_580.out _; (with_reducible repeat (first | refine blk_drewN ?_ _ | refine blk_drew ?_ | refine blk_alloc ?_ _)); refine blk_far ?_ NB556_580.out _; (with_reducible repeat (first | refine blk_drewN ?_ _ | refine blk_drew ?_ | refine blk_alloc ?_ _)); exact BK556.out) hb); have n4_ := Aside0.mk (blk_below (g := gb580) (o := .cells #[.int .u32 t575, .slice Ao60 t576.length co60] 25 (0, 0)) (by (with_reducible repeat (first | refine blk_drewN ?_ _ | refine blk_drew ?_ | refine blk_alloc ?_ _)); refine blk_put (cs := #[.int .u32 t575, .slice none 0 0]) ?_ 1 _ rfl; (with_reducible repeat (first | refine blk_drewN ?_ _ | refine blk_drew ?_ | refine blk_alloc ?_ _)); refine blk_put (cs := #[.int .u32 0, .slice none 0 0]) ?_ 0 _ rfl; (with_reducible repeat (first | refine blk_drewN ?_ _ | refine blk_drew ?_ | refine blk_alloc ?_ _)); exact BK580.out) hb); have n5_ := Aside0.mk (below_step (by repeat (first | (with_reducible first | exact HB.out | apply below_alloc | apply pw_below_drewN | apply below_drew1 | refine below_set ?_ GE556.out | refine below_set ?_ GE580.out) | exact HB.out)) hb); clear HO570; clear HO573; clear HO578; clear BK556; clear BK580; clear HB; have HO570 := n0_; have HO573 := n1_; have HO578 := n2_; have BK556 := n3_; have BK580 := n4_; have HB := n5_; clear n0_ n1_ n2_ n3_ n4_ n5_; (try clear hb); (try clear hb2); (try clear hk); (try clear hi)))
                                go_ret
                                exact ⟨by first | rfl | (simp [errW_none, errW_some] <;> rfl) | (simp [*, errW_none, errW_some] <;> rfl), by repeat (first | (with_reducible first | exact HB.out | apply below_alloc | apply pw_below_drewN | apply below_drew1 | refine below_set ?_ GE556.out | refine below_set ?_ GE580.out) | exact HB.out)⟩
                              · rw [if_neg c47] at H
                                have c47b0 : (t579 == 0) = false := beq_eq_false_iff_ne.mpr c47
                                have c47b1 : (t579 != 0) = true := bne_iff_ne.mpr c47
                                exact absurd ((Option.some.inj H).trans HRT.out) (by decide)
                            · rw [if_neg c46] at H
                              have c46b0 : decide ((t571.length : Int) ≤ 1048576) = false := decide_eq_false c46
                              have c46b1 : decide (t571.length ≤ 1048576) = false := decide_eq_false (by omega)
                              clear c46
                              exact absurd ((Option.some.inj H).trans HRT.out) (by decide)
                          · rw [if_neg c45] at H
                            have c45b0 : (t574 == 0) = false := beq_eq_false_iff_ne.mpr c45
                            have c45b1 : (t574 != 0) = true := bne_iff_ne.mpr c45
                            exact absurd ((Option.some.inj H).trans HRT.out) (by decide)
                        · rw [if_neg c44] at H
                          have c44b0 : (t567 == 1) = false := beq_eq_false_iff_ne.mpr c44
                          have c44b1 : (t567 != 1) = true := bne_iff_ne.mpr c44
                          exact absurd ((Option.some.inj H).trans HRT.out) (by decide)
                      · replace c43 := Bool.eq_false_iff.mpr c43
                        subst c43
                        have H1 : (some false) = some r := by rw [if_neg (show ¬ (false = true) by decide)] at H; exact H
                        clear H
                        have H := H1
                        clear H1
                        exact absurd ((Option.some.inj H).trans HRT.out) (by decide)
                    · rw [if_neg c40] at H
                      exact absurd H (by simp)

/-- THE ONE PURE STATEMENT of tidemarklaw04_CodecMost: yours. -/
def tidemarklaw04_CodecMost.Pure : Prop := ∀ (a0 : Int), (Lit.int .u8 a0).wf = true → ∃ k, tidemarklaw04_CodecMost.f k a0 = some true
theorem tidemarklaw04_CodecMost.walk (P : tidemarklaw04_CodecMost.Pure) (a0 : Int) (w : World) (w0 : (Lit.int .u8 a0).wf = true) :
    Calls Try.prog 9 #[.int .u8 a0] w fun e w' => e = .returned (.bool true) ∧ Below w.heap.size w w' := by
  obtain ⟨k, h⟩ := P a0 w0
  refine (tidemarklaw04_CodecMost.calls k a0 true w rfl h).mono ?_
  rintro e w' ⟨rfl, hd⟩
  exact ⟨rfl, hd⟩

end Go.Proofs.Ytgmdoapedhppmaa.PC

/- Plain facts on numbers as bytes: puts is what PutUint puts, gets is what GetUint gets; one is the other's turning back. Bytes are whole numbers from 0 to 255. -/
namespace Go.Proofs.Ytgmdoapedhppmaa.B
set_option linter.unusedVariables false
set_option linter.unusedSimpArgs false
open Go.RowKit

/-- The bytes of a number. -/
def puts (n : Nat) : List Int := if n < 128 then [(n : Int)] else ((n % 128 + 128 : Nat) : Int) :: puts (n / 128)
theorem puts_lo {n : Nat} (h : n < 128) : puts n = [(n : Int)] := by rw [puts, if_pos h]
theorem puts_hi {n : Nat} (h : ¬ n < 128) : puts n = ((n % 128 + 128 : Nat) : Int) :: puts (n / 128) := by rw [puts, if_neg h]
theorem puts_pos (n : Nat) : 0 < (puts n).length := by
  by_cases h : n < 128
  · rw [puts_lo h]; simp
  · rw [puts_hi h]; simp
theorem puts_ne (n : Nat) : puts n ≠ [] := by have := puts_pos n; intro h; rw [h] at this; simp at this
theorem puts_le (m : Nat) : ∀ n, n < 128 ^ (m + 1) → (puts n).length ≤ m + 1 := by
  induction m with
  | zero => intro n h; rw [puts_lo (by omega)]; simp
  | succ m ih =>
    intro n h
    by_cases hn : n < 128
    · rw [puts_lo hn]; simp
    · rw [puts_hi hn]
      have := ih (n / 128) (by rw [Nat.pow_succ] at h; exact Nat.div_lt_of_lt_mul (by rw [Nat.mul_comm]; exact h))
      simp only [List.length_cons]; omega
theorem puts_ge (m : Nat) : ∀ n, 128 ^ m ≤ n → m + 1 ≤ (puts n).length := by
  induction m with
  | zero => intro n _; have := puts_pos n; omega
  | succ m ih =>
    intro n h
    have h1 : ¬ n < 128 := by
      have : 0 < 128 ^ m := Nat.pow_pos (by decide)
      rw [Nat.pow_succ] at h; omega
    rw [puts_hi h1]
    have := ih (n / 128) (by rw [Nat.pow_succ] at h; exact (Nat.le_div_iff_mul_le (by decide)).2 h)
    simp only [List.length_cons]; omega
theorem pow10 : 128 ^ 10 = 1180591620717411303424 := by decide
theorem puts_ten (n : Nat) (h : n < 18446744073709551616) : (puts n).length ≤ 10 := puts_le 9 n (by have := pow10; omega)
theorem puts_byte (n : Nat) : ∀ c ∈ puts n, 0 ≤ c ∧ c < 256 := by
  induction n using Nat.strongRecOn with
  | _ n ih =>
    by_cases h : n < 128
    · rw [puts_lo h]; intro c hc; simp at hc; omega
    · rw [puts_hi h]; intro c hc
      rcases List.mem_cons.1 hc with rfl | hc
      · omega
      · exact ih (n / 128) (by omega) c hc

theorem or128 : ∀ c : Fin 256, Go.bits .or .u8 ((c.val : Nat) : Int) 128 = ((c.val % 128 + 128 : Nat) : Int) := by decide +kernel
theorem andNot128 : ∀ c : Fin 256, Go.bits .andNot .u8 ((c.val : Nat) : Int) 128 = ((c.val % 128 : Nat) : Int) := by decide +kernel
theorem or128_at (c : Int) (h0 : 0 ≤ c) (h1 : c < 256) : Go.bits .or .u8 c 128 = c % 128 + 128 := by
  have := or128 ⟨c.toNat, by omega⟩
  simp only [show ((c.toNat : Nat) : Int) = c by omega] at this
  rw [this]; omega
theorem andNot128_at (c : Int) (h0 : 0 ≤ c) (h1 : c < 256) : Go.bits .andNot .u8 c 128 = c % 128 := by
  have := andNot128 ⟨c.toNat, by omega⟩
  simp only [show ((c.toNat : Nat) : Int) = c by omega] at this
  rw [this]; omega

/-- What GetUint gets: c is read at place i, n has been gathered so far. -/
def gets : List Int → Nat → Int → Int × Int × Int
  | [], i, _ => if i = 10 then (0, 0, 3) else (0, 0, 2)
  | c :: r, i, n => if i = 10 then (0, 0, 3) else if 18446744073709551616 ≤ (c % 128) * 128 ^ i then (0, 0, 3) else if 128 ≤ c then gets r (i + 1) (n + (c % 128) * 128 ^ i)
      else if c = 0 ∧ 0 < i then (0, 0, 3) else (n + (c % 128) * 128 ^ i, (i : Int) + 1, 0)
def Bytes (l : List Int) : Prop := ∀ x ∈ l, 0 ≤ x ∧ x < 256
theorem Bytes.drop {l : List Int} (h : Bytes l) (k : Nat) : Bytes (l.drop k) := fun x hx => h x (List.mem_of_mem_drop hx)
theorem Bytes.take {l : List Int} (h : Bytes l) (k : Nat) : Bytes (l.take k) := fun x hx => h x (List.mem_of_mem_take hx)
theorem Bytes.app {l m : List Int} (h : Bytes l) (h' : Bytes m) : Bytes (l ++ m) := fun x hx => (List.mem_append.1 hx).elim (h x) (h' x)
theorem puts_bytes (n : Nat) : Bytes (puts n) := puts_byte n
theorem pow128_pos (i : Nat) : (0 : Int) < 128 ^ i := Int.pow_pos (by decide)
theorem pow128_cast (i : Nat) : (((128 : Nat) ^ i : Nat) : Int) = (128 : Int) ^ i := by simp
theorem pow_shift (i : Nat) : (2 : Int) ^ (7 * i) = 128 ^ i := by rw [Int.pow_mul]; rfl
/-- What is told of what goes on. -/
theorem gets_err {xs : List Int} : ∀ {i : Nat} {n : Int} {a b e : Int}, gets xs i n = (a, b, e) → e = 0 ∨ (a = 0 ∧ b = 0 ∧ (e = 2 ∨ e = 3)) := by
  induction xs with
  | nil => intro i n a b e h; simp only [gets] at h; split at h <;> (cases h; simp)
  | cons c r ih =>
    intro i n a b e h
    simp only [gets] at h
    split at h
    · cases h; simp
    · split at h
      · cases h; simp
      · split at h
        · exact ih h
        · split at h <;> (cases h; simp)
/-- A number, or ErrForm, stays, whatever stands behind. -/
theorem gets_more (ys : List Int) : ∀ (xs : List Int) (i : Nat) (n : Int), (gets xs i n).2.2 ≠ 2 → i ≤ 10 → gets (xs ++ ys) i n = gets xs i n := by
  intro xs
  induction xs with
  | nil =>
    intro i n h hi
    simp only [gets] at h ⊢
    by_cases h10 : i = 10
    · subst h10; rw [if_pos rfl]
      cases ys with
      | nil => simp [gets]
      | cons y ys => simp [gets]
    · rw [if_neg h10] at h; simp at h
  | cons c r ih =>
    intro i n h hi
    simp only [List.cons_append, gets] at h ⊢
    by_cases h10 : i = 10
    · rw [if_pos h10, if_pos h10]
    · rw [if_neg h10] at h ⊢
      rw [if_neg h10]
      split
      · rfl
      · rename_i hb
        rw [if_neg hb] at h
        split
        · rename_i hc
          rw [if_pos hc] at h
          exact ih _ _ h (by omega)
        · rfl
/-- What ends too early goes on: a 1 behind makes a number. -/
theorem gets_one : ∀ (xs : List Int) (i : Nat) (n : Int), Bytes xs → (gets xs i n).2.2 = 2 → i ≤ 9 → 0 ≤ n → ∃ v, gets (xs ++ [1]) i n = (v, ((i + xs.length : Nat) : Int) + 1, 0) ∧ 0 < v := by
  intro xs
  induction xs with
  | nil =>
    intro i n hB h hi hn
    have hp := pow128_pos i
    have hm : (128 : Int) ^ i ≤ 128 ^ 9 := by
      have := Nat.pow_le_pow_right (show 0 < 128 by decide) hi
      have a := pow128_cast i
      have b := pow128_cast 9
      omega
    have e9 : (128 : Int) ^ 9 = 9223372036854775808 := by decide
    simp only [List.nil_append, gets]
    rw [if_neg (by omega), show (1 : Int) % 128 = 1 by decide, Int.one_mul, if_neg (by omega), if_neg (by decide), if_neg (by omega)]
    exact ⟨n + 128 ^ i, by simp, by omega⟩
  | cons c r ih =>
    intro i n hB h hi hn
    have hc := hB c (by simp)
    have hp := pow128_pos i
    simp only [gets] at h
    rw [if_neg (by omega)] at h
    split at h
    · simp at h
    · rename_i hb
      split at h
      · rename_i h128
        have hn' : 0 ≤ n + c % 128 * 128 ^ i := Int.add_nonneg hn (Int.mul_nonneg (by omega) (by omega))
        by_cases h9 : i = 9
        · exfalso
          subst h9
          cases r with
          | nil => simp [gets] at h
          | cons => simp [gets] at h
        · obtain ⟨v, hv, hpos⟩ := ih (i + 1) _ (fun x hx => hB x (by simp [hx])) h (by omega) hn'
          refine ⟨v, ?_, hpos⟩
          simp only [List.cons_append, gets]
          rw [if_neg (by omega), if_neg hb, if_pos h128, hv]
          simp; omega
      · split at h <;> simp at h

/-- What was put is got, whatever stands behind. -/
theorem gets_puts_at (rest : List Int) (n : Nat) : ∀ (i : Nat) (acc : Int), (n : Int) * 128 ^ i < 18446744073709551616 → (i = 0 ∨ 0 < n) → gets (puts n ++ rest) i acc = (acc + n * 128 ^ i, ((i + (puts n).length : Nat) : Int), 0) := by
  induction n using Nat.strongRecOn with
  | _ n ih =>
    intro i acc hn h0
    have hp := pow128_pos i
    have hi : i ≠ 10 := by
      intro h
      subst h
      rcases h0 with h0 | h0
      · omega
      · have e : (128 : Int) ^ 10 = 1180591620717411303424 := by decide
        rw [e] at hn; omega
    by_cases h : n < 128
    · rw [puts_lo h]
      simp only [List.cons_append, gets]
      rw [if_neg hi, show (n : Int) % 128 = n by omega, if_neg (by omega), if_neg (by omega), if_neg (by omega)]
      simp
    · have e1 : ((n % 128 + 128 : Nat) : Int) % 128 = ((n % 128 : Nat) : Int) := by omega
      have hle : ((n % 128 : Nat) : Int) * 128 ^ i ≤ (n : Int) * 128 ^ i := Int.mul_le_mul_of_nonneg_right (by omega) (by omega)
      have hmul : ((n / 128 : Nat) : Int) * 128 ^ (i + 1) = (((n / 128 : Nat) : Int) * 128) * 128 ^ i := by rw [Int.pow_succ, Int.mul_comm ((128 : Int) ^ i) 128, ← Int.mul_assoc]
      have hle2 : (((n / 128 : Nat) : Int) * 128) * 128 ^ i ≤ (n : Int) * 128 ^ i := Int.mul_le_mul_of_nonneg_right (by omega) (by omega)
      rw [puts_hi h]
      simp only [List.cons_append, gets]
      rw [if_neg hi, e1, if_neg (by omega), if_pos (by omega), ih (n / 128) (by omega) (i + 1) _ (by rw [hmul]; omega) (Or.inr (by omega)), hmul]
      have hsum : ((n % 128 : Nat) : Int) * 128 ^ i + (((n / 128 : Nat) : Int) * 128) * 128 ^ i = (n : Int) * 128 ^ i := by
        rw [← Int.add_mul]; congr 1; omega
      simp only [List.length_cons]
      refine Prod.ext ?_ (Prod.ext ?_ rfl)
      · show acc + _ + _ = _
        omega
      · show ((i + 1 + (puts (n / 128)).length : Nat) : Int) = ((i + ((puts (n / 128)).length + 1) : Nat) : Int)
        omega
theorem gets_puts (rest : List Int) (n : Nat) (hn : n < 18446744073709551616) : gets (puts n ++ rest) 0 0 = ((n : Int), ((puts n).length : Int), 0) := by
  have := gets_puts_at rest n 0 0 (by simp; omega) (Or.inl rfl)
  simpa using this
theorem gets_cut (n : Nat) : ∀ (i : Nat) (acc : Int) (c : Nat), (n : Int) * 128 ^ i < 18446744073709551616 → (i = 0 ∨ 0 < n) → c < (puts n).length → gets ((puts n).take c) i acc = (0, 0, 2) := by
  induction n using Nat.strongRecOn with
  | _ n ih =>
    intro i acc c hn h0 hc
    have hp := pow128_pos i
    have hi : i ≠ 10 := by
      intro h
      subst h
      rcases h0 with h0 | h0
      · omega
      · have e : (128 : Int) ^ 10 = 1180591620717411303424 := by decide
        rw [e] at hn; omega
    cases c with
    | zero => simp only [List.take_zero, gets]; rw [if_neg hi]
    | succ c =>
      by_cases h : n < 128
      · rw [puts_lo h] at hc; simp at hc
      · have e1 : ((n % 128 + 128 : Nat) : Int) % 128 = ((n % 128 : Nat) : Int) := by omega
        have hle : ((n % 128 : Nat) : Int) * 128 ^ i ≤ (n : Int) * 128 ^ i := Int.mul_le_mul_of_nonneg_right (by omega) (by omega)
        have hmul : ((n / 128 : Nat) : Int) * 128 ^ (i + 1) = (((n / 128 : Nat) : Int) * 128) * 128 ^ i := by rw [Int.pow_succ, Int.mul_comm ((128 : Int) ^ i) 128, ← Int.mul_assoc]
        have hle2 : (((n / 128 : Nat) : Int) * 128) * 128 ^ i ≤ (n : Int) * 128 ^ i := Int.mul_le_mul_of_nonneg_right (by omega) (by omega)
        rw [puts_hi h] at hc ⊢
        simp only [List.take_succ_cons, gets]
        rw [if_neg hi, e1, if_neg (by omega), if_pos (by omega)]
        exact ih (n / 128) (by omega) (i + 1) _ c (by rw [hmul]; omega) (Or.inr (by omega)) (by simpa using hc)
/-- What is got is put: the bytes that were read are the number's. -/
theorem gets_inv : ∀ (xs : List Int) (i : Nat) (acc z s : Int), Bytes xs → i ≤ 10 → gets xs i acc = (z, s, 0) → ∃ (v k : Nat), z = acc + (v : Int) * 128 ^ i ∧ s = ((i + k : Nat) : Int) ∧ k ≤ xs.length ∧ xs.take k = puts v ∧ (i = 0 ∨ 0 < v) ∧ (v : Int) * 128 ^ i < 18446744073709551616 := by
  intro xs
  induction xs with
  | nil => intro i acc z s _ _ h; simp only [gets] at h; split at h <;> simp at h
  | cons c r ih =>
    intro i acc z s hB hi h
    have hc := hB c (by simp)
    have hp := pow128_pos i
    simp only [gets] at h
    split at h
    · simp at h
    · rename_i h10
      split at h
      · simp at h
      · rename_i hroom
        split at h
        · rename_i h128
          obtain ⟨v, k, hz, hs, hk, ht, h0, hv⟩ := ih (i + 1) _ z s (fun x hx => hB x (by simp [hx])) (by omega) h
          have hv0 : 0 < v := by omega
          have hmul : (v : Int) * 128 ^ (i + 1) = ((v : Int) * 128) * 128 ^ i := by rw [Int.pow_succ, Int.mul_comm ((128 : Int) ^ i) 128, ← Int.mul_assoc]
          have hn : ((c.toNat % 128 + v * 128 : Nat) : Int) = c % 128 + (v : Int) * 128 := by omega
          refine ⟨c.toNat % 128 + v * 128, k + 1, ?_, by omega, by simp; omega, ?_, Or.inr (by omega), ?_⟩
          · rw [hn, Int.add_mul, hz, hmul]; omega
          · have e1 : (c.toNat % 128 + v * 128) / 128 = v := by omega
            have e2 : (((c.toNat % 128 + v * 128) % 128 + 128 : Nat) : Int) = c := by omega
            rw [List.take_succ_cons, ht, puts_hi (n := c.toNat % 128 + v * 128) (by omega), e1, e2]
          · rw [hn, Int.add_mul, ← hmul]
            -- below 2^64: the digits lie under the place of v
            have hi9 : i ≤ 9 := by omega
            have e64 : (18446744073709551616 : Int) = 2 * 128 ^ 9 := by decide
            have hd : (c % 128) * 128 ^ i < 128 ^ (i + 1) := by
              rw [Int.pow_succ, Int.mul_comm ((128 : Int) ^ i) 128]
              exact Int.mul_lt_mul_of_pos_right (by omega) hp
            by_cases h9 : i + 1 ≤ 9
            · obtain ⟨j, hj⟩ : ∃ j, 9 = (i + 1) + j := ⟨9 - (i + 1), by omega⟩
              have e9 : (128 : Int) ^ 9 = 128 ^ j * 128 ^ (i + 1) := by rw [hj, Int.pow_add, Int.mul_comm]
              rw [e64, e9, ← Int.mul_assoc] at hv ⊢
              have hP := pow128_pos (i + 1)
              have hlt : (v : Int) < 2 * 128 ^ j := Int.lt_of_mul_lt_mul_right hv (by omega)
              have hle : ((v : Int) + 1) * 128 ^ (i + 1) ≤ (2 * 128 ^ j) * 128 ^ (i + 1) := Int.mul_le_mul_of_nonneg_right (by omega) (by omega)
              rw [Int.add_mul] at hle
              omega
            · exfalso
              have : i = 9 := by omega
              subst this
              have e10 : (128 : Int) ^ (9 + 1) = 1180591620717411303424 := by decide
              rw [e10] at hv; omega
        · rename_i h128
          split at h
          · simp at h
          · rename_i h00
            simp only [Prod.mk.injEq, and_true] at h
            have hcn : ((c.toNat : Nat) : Int) = c := by omega
            have hcm : c % 128 = c := by omega
            rw [hcm] at h hroom
            refine ⟨c.toNat, 1, by rw [hcn]; omega, by omega, by simp, ?_, ?_, by rw [hcn]; omega⟩
            · rw [List.take_succ_cons, List.take_zero, puts_lo (by omega), hcn]
            · by_cases hi0 : i = 0
              · exact Or.inl hi0
              · refine Or.inr ?_
                have : c ≠ 0 := fun hcz => h00 ⟨hcz, by omega⟩
                omega
end Go.Proofs.Ytgmdoapedhppmaa.B

/- GetUint of the program gets what gets says, of any bytes. -/
namespace Go.Proofs.Ytgmdoapedhppmaa.Pure
set_option linter.unusedVariables false
set_option linter.unusedSimpArgs false
open Go.RowKit Go.Proofs.Ytgmdoapedhppmaa.PC Go.Proofs.YtgmdoapedhppmaaW.PrintWords Go.Proofs.YtgmdoapedhppmaaW.PrintLast Go.Proofs.YtgmdoapedhppmaaW.PrintMore Go.Proofs.Ytgmdoapedhppmaa.B

theorem pow_le_9 (i : Nat) (h : i ≤ 9) : (128 : Int) ^ i ≤ 9223372036854775808 := by
  have := Nat.pow_le_pow_right (show 0 < 128 by decide) h
  have a := pow128_cast i
  have e9 : (128 : Nat) ^ 9 = 9223372036854775808 := by decide
  omega
theorem shl_at (b : Int) (i : Nat) (hi : i ≤ 9) : shl .u64 b (7 * (i : Int)) = (b * 128 ^ i) % 18446744073709551616 := by
  unfold shl
  rw [show (7 * (i : Int)).toNat = 7 * i by omega, Nat.min_eq_left (by show 7 * i ≤ 64; omega), pow_shift, IntKind.wrap_u64]
theorem shr_at (b : Int) (i : Nat) (hi : i ≤ 9) : shr .u64 b (7 * (i : Int)) = b / 128 ^ i := by
  unfold shr
  rw [show (7 * (i : Int)).toNat = 7 * i by omega, Nat.min_eq_left (by show 7 * i ≤ 64; omega), pow_shift]
theorem room_iff (b : Int) (i : Nat) (hb0 : 0 ≤ b) (hi : i ≤ 9) : (b * 128 ^ i) % 18446744073709551616 / 128 ^ i = b ↔ b * 128 ^ i < 18446744073709551616 := by
  have hp := pow128_pos i
  constructor
  · intro h
    by_cases hlt : b * 128 ^ i < 18446744073709551616
    · exact hlt
    · exfalso
      have h1 := Int.emod_lt_of_pos (b * 128 ^ i) (show (0 : Int) < 18446744073709551616 by decide)
      have h2 := Int.ediv_mul_le ((b * 128 ^ i) % 18446744073709551616) (show (128 : Int) ^ i ≠ 0 by omega)
      rw [h] at h2
      omega
  · intro h
    rw [Int.emod_eq_of_lt (Int.mul_nonneg hb0 (by omega)) h, Int.mul_ediv_cancel _ (by omega)]
theorem or_place (n b : Int) (i : Nat) (hn0 : 0 ≤ n) (hn1 : n < 128 ^ i) (hb0 : 0 ≤ b) (hb1 : b * 128 ^ i < 18446744073709551616) (hi : i ≤ 9) :
    Go.bits .or .u64 n (b * 128 ^ i) = n + b * 128 ^ i := by
  have h9 := pow_le_9 i hi
  have hp := pow128_pos i
  rw [B.or_comm, or_join (7 * i) (b * 128 ^ i) n (Int.mul_nonneg hb0 (by omega)) (by rw [pow_shift]; exact Int.mul_emod_left _ _) hb1 hn0 (by rw [pow_shift]; exact hn1) (by omega), Int.add_comm]
theorem rd_at (xs : List Int) (i : Nat) (h : i < xs.length) : rd xs (i : Int) = xs[i] := by
  unfold rd; simp [List.getD, h]
theorem get_l (d : Nat) : ∀ (k i : Nat) (n : Int) (xs : List Int), Bytes xs → i + d = 10 → i ≤ xs.length → xs.length ≤ 9223372036854775807 → 0 ≤ n → n < 128 ^ i → 2 * d + 2 ≤ k →
    shift_GetUint.l0 k xs n (i : Int) = some (gets (xs.drop i) i n) := by
  induction d with
  | zero =>
    intro k i n xs hB hd hi hL hn0 hn1 hk
    obtain ⟨k, rfl⟩ : ∃ m, k = m + 2 := ⟨k - 2, by omega⟩
    obtain rfl : i = 10 := by omega
    simp only [shift_GetUint.l0]
    have e : ∀ b : Bool, b = false → shift_GetUint.j1 (k + 1) xs n ((10 : Nat) : Int) b = some (0, 0, 3) := by
      intro b hb; subst hb; simp only [shift_GetUint.j1]; rw [if_neg (by decide), if_pos (by decide)]
    rw [e _ (by simp), e _ rfl]
    split
    · cases h : xs.drop 10 with
      | nil => simp [gets]
      | cons c r => simp [gets]
    · cases h : xs.drop 10 with
      | nil => simp [gets]
      | cons c r => simp [gets]
  | succ d ih =>
    intro k i n xs hB hd hi hL hn0 hn1 hk
    obtain ⟨k, rfl⟩ : ∃ m, k = m + 2 := ⟨k - 2, by omega⟩
    have hi9 : i ≤ 9 := by omega
    simp only [shift_GetUint.l0]
    by_cases hlt : i < xs.length
    · rw [if_pos (by omega), show decide ((i : Int) < 10) = true from decide_eq_true (by omega)]
      simp only [shift_GetUint.j1]
      have hdr : xs.drop i = xs[i] :: xs.drop (i + 1) := List.drop_eq_getElem_cons hlt
      have hc := hB xs[i] (List.getElem_mem hlt)
      have hw : wrap64 (7 * (i : Int)) = 7 * (i : Int) := wrap64_id _ (by omega) (by omega)
      have hw1 : wrap64 ((i : Int) + 1) = ((i + 1 : Nat) : Int) := by rw [wrap64_id _ (by omega) (by omega)]; simp
      have hp := pow128_pos i
      have h9 := pow_le_9 i hi9
      rw [if_pos trivial, if_pos (by omega), if_pos (by omega), rd_at xs i hlt, hw, hw1, if_pos (by omega), andNot128_at _ hc.1 hc.2,
        show IntKind.u64.wrap (xs[i] % 128) = xs[i] % 128 by rw [IntKind.wrap_u64]; omega, shl_at _ i hi9, shr_at _ i hi9, hdr]
      simp only [gets]
      rw [if_neg (by omega : ¬ i = 10)]
      obtain ⟨b, hb⟩ : ∃ b, b = xs[i] % 128 := ⟨_, rfl⟩
      rw [← hb]
      have hb0 : 0 ≤ b := by omega
      have hb1 : b < 128 := by omega
      have hr := room_iff b i hb0 hi9
      by_cases hroom : b * 128 ^ i < 18446744073709551616
      · rw [if_pos (hr.2 hroom), if_neg (show ¬ 18446744073709551616 ≤ b * 128 ^ i by omega), Int.emod_eq_of_lt (Int.mul_nonneg hb0 (by omega)) hroom, or_place n b i hn0 hn1 hb0 hroom hi9]
        have hmul : b * 128 ^ i ≤ 127 * 128 ^ i := Int.mul_le_mul_of_nonneg_right (by omega) (by omega)
        by_cases h128 : 128 ≤ xs[i]
        · rw [if_neg (show ¬ xs[i] / 128 = 0 by omega), if_pos h128]
          exact ih k (i + 1) _ xs hB (by omega) (by omega) hL (by have := Int.mul_nonneg hb0 (show (0 : Int) ≤ 128 ^ i by omega); omega) (by rw [Int.pow_succ]; omega) (by omega)
        · rw [if_pos (show xs[i] / 128 = 0 by omega), if_neg h128]
          by_cases h0 : xs[i] = 0
          · rw [if_pos h0]
            by_cases hi0 : 0 < i
            · rw [if_pos (by omega), if_pos ⟨h0, hi0⟩]
            · rw [if_neg (by omega), if_neg (fun h => hi0 h.2)]; simp
          · rw [if_neg h0, if_neg (fun h => h0 h.1)]; simp
      · rw [if_neg (fun h => hroom (hr.1 h)), if_pos (by omega)]
    · rw [if_neg (by omega)]
      simp only [shift_GetUint.j1]
      rw [if_neg (by decide), if_neg (by omega), List.drop_eq_nil_of_le (by omega)]
      simp only [gets]
      rw [if_neg (by omega)]
theorem get_f (k : Nat) (xs : List Int) (hB : Bytes xs) (hL : xs.length ≤ 9223372036854775807) (hk : 22 ≤ k) : shift_GetUint.f k xs = some (gets xs 0 0) := by
  unfold shift_GetUint.f
  have := get_l 10 k 0 0 xs hB (by omega) (by omega) hL (by omega) (by decide) (by omega)
  simpa using this
theorem put_l (d : Nat) : ∀ (k : Nat) (n : Nat) (l : List Int), n < 128 ^ (d + 1) → d < k → l.length + d < 140737488355328 → shift_PutUint.l0 k l (n : Int) = some (l ++ puts n) := by
  induction d with
  | zero =>
    intro k n l hn hk hl
    obtain ⟨k, rfl⟩ : ∃ m, k = m + 1 := ⟨k - 1, by omega⟩
    simp only [shift_PutUint.l0]
    rw [if_pos (by omega), if_pos (by omega), puts_lo (by omega), show (n : Int) % 256 = n by omega]
  | succ d ih =>
    intro k n l hn hk hl
    obtain ⟨k, rfl⟩ : ∃ m, k = m + 1 := ⟨k - 1, by omega⟩
    simp only [shift_PutUint.l0]
    by_cases h : n < 128
    · rw [if_pos (by omega), if_pos (by omega), puts_lo (by omega), show (n : Int) % 256 = n by omega]
    · rw [if_neg (by omega), if_pos (by omega), show (n : Int) / 128 = ((n / 128 : Nat) : Int) by omega,
        ih k (n / 128) _ (by rw [Nat.pow_succ] at hn; exact Nat.div_lt_of_lt_mul (by rw [Nat.mul_comm]; exact hn)) (by omega) (by simp; omega),
        puts_hi h, or128_at _ (by omega) (by omega), show (n : Int) % 256 % 128 + 128 = ((n % 128 + 128 : Nat) : Int) by omega, List.append_assoc]
      rfl
theorem put_f (k : Nat) (l : List Int) (n : Int) (h0 : 0 ≤ n) (h1 : n < 18446744073709551616) (hk : 10 ≤ k) (hl : l.length + 10 < 140737488355328) :
    shift_PutUint.f k l n = some (l ++ puts n.toNat) := by
  unfold shift_PutUint.f
  have := put_l 9 k n.toNat l (by have := pow10; omega) (by omega) (by omega)
  rwa [show ((n.toNat : Nat) : Int) = n by omega] at this
end Go.Proofs.Ytgmdoapedhppmaa.Pure
