/- Texts of this session in one: HKey, HWhole, HDecode0, HDecode1, HRows, HBits, HEpoch, HNum, HGet, HCode, HOrder, HCode2, HDecode2, HDecode, HCode3. Plain functions, and that the program's come to them. -/
import Derived.Recover
import Derived.Test.YtgmdoapedhppmaaWMore
import Derived.PlainAid
import Derived.Laws.BitsLemmas
import Derived.Test.YtgmdoapedhppmaaBCodecUnlike0
import Derived.Test.YtgmdoapedhppmaaBCodecUnlike1

namespace Go.Proofs.Ytgmdoapedhppmaa.PC
set_option linter.unusedVariables false
set_option linter.unusedSimpArgs false
open Go.RowKit Go.Proofs.YtgmdoapedhppmaaW.PrintWords Go.Proofs.YtgmdoapedhppmaaW.PrintLast Go.Proofs.YtgmdoapedhppmaaW.PrintMore
/-- The byte that stands first. -/
def byte0 (s : ByteArray) : Int := if h : 0 < s.size then ((s[0]'h).toNat : Int) else 0
def keyCells (x : S28) : Obj := .cells #[.int .u8 x.f0, .string x.f1] 28 (0, 0)
/-- The next key, above another one. -/
def takeKey (k : Nat) (last : S28) (l : List Int) : Option (Except Int (S28 × List Int)) :=
  match takeB 1 l with
  | .error c => some (.error c)
  | .ok (s, l1) => if byte0 s < 8 then
      (takeN k 1 64 l1).bind fun q => match q with
        | .error c => some (.error c)
        | .ok (n, l2) => match takeB n l2 with
          | .error c => some (.error c)
          | .ok (nm, l3) => some (if lessB last ⟨byte0 s, nm⟩ then .ok (⟨byte0 s, nm⟩, l3) else .error 3)
    else some (.error 3)
theorem takeB_nat {n : Int} {l l' : List Int} {s : ByteArray} (h : takeB n l = .ok (s, l')) : n ≤ (l.length : Int) := by
  unfold takeB at h
  split at h
  · cases h
  · omega
theorem takeB_one {l l' : List Int} {s : ByteArray} (h : takeB 1 l = .ok (s, l')) : s.size = 1 := by
  have hl := takeB_nat h
  unfold takeB at h
  rw [if_neg (by omega)] at h
  injection h with h
  injection h with h1 h2
  rw [← h1]
  cases l with
  | nil => simp at hl
  | cons x l => rfl
theorem byte0_get {s : ByteArray} (h : 0 < s.size) : byte0 s = ((s[0]'h).toNat : Int) := dif_pos h
theorem takeN_ok {k : Nat} {lo hi n : Int} {l l' : List Int} (h : takeN k lo hi l = some (.ok (n, l'))) (h0 : 0 ≤ lo) (h1 : hi < 9223372036854775808) : lo ≤ n ∧ n ≤ hi := by
  unfold takeN at h
  obtain ⟨⟨m, s, e⟩, hG, h⟩ := Option.bind_eq_some_iff.1 h
  simp only at h
  split at h
  · split at h
    · split at h
      · rename_i hh
        simp only [Option.some.injEq, Except.ok.injEq, Prod.mk.injEq] at h
        have hw : wrap64 m = m := by unfold wrap64; omega
        rw [hw] at h
        omega
      · simp at h
    · cases h
  · simp at h
def key4_T : Bool × List (List Nat × List Nat) := (true, [([], []), ([0], [0]), ([1], [1]), ([], []), ([2, 3], [2, 3]), ([4, 4], [4])])
def key4_B : List Nat := [0, 1, 3, 0, 15, 31]
theorem key4_tab : rtab .any (opsOf Try.f76 4) = key4_T := by kernel_rfl
theorem key4_bits : waitsOk key4_T.2 key4_B = true := by kernel_rfl
set_option maxRecDepth 100000 in
set_option maxHeartbeats 4000000 in
theorem key_calls (k : Nat) (last : S28) (q : Except Int (S28 × List Int)) (w0 w : World) (g h : Nat) (l : List Int) (hR : Rd w0 w g l) (hB : Below w0.heap.size w0 w) (hg : w0.heap.size ≤ g) (hh : w0.heap.size ≤ h) (hgh : h ≠ g) (hL : w.heap[h]? = some (keyCells last)) (hq : takeKey k last l = some q) :
    Calls Try.prog 76 #[.pointer (some ⟨g, 0, none⟩), .pointer (some ⟨h, 0, none⟩)] w fun e w' => Out w0 g (fun x : S28 => .agg #[.int .u8 x.f0, .string x.f1]) q e w' ∧ Stay (fun k => k = g ∨ k = h) w w' ∧ (∀ p, q = .ok p → w'.heap[h]? = some (keyCells p.1)) := by
  have GL : Aside0 (g < w.heap.size) := ⟨by obtain ⟨_, _, hb, _⟩ := hR; exact blk_lt hb⟩
  have HL := Aside0.mk (blk_lt hL)
  have HR := Aside0.mk hR
  have HLC := Aside0.mk hL
  have HQ := Aside0.mk hq
  clear hR hL hq
  cases q1 : takeB 1 l with
  | error c =>
    obtain rfl : q = .error c := by have := HQ.out; unfold takeKey at this; rw [q1] at this; exact (Option.some.inj this).symm
    clear HQ
    have Q1 := Aside0.mk q1
    clear q1
    go_enter Try.func76, Try.ntmps76
    go_wp2_with (((with_reducible refine gate_dst (N := 4) rfl ?_); refine box_event ?hg (N := 4) ?hd (cs := #[.int .u8 0, .string (⟨#[]⟩ : ByteArray)]) (t := 28) ?hr ?_; (case hd => rfl); (case hg => rfl); (case hr => first | (go_simp; done) | (go_simp; rfl)); intro gk hgk w1 hbox hb; have BK := Aside0.mk hbox; have HK := Aside0.mk hgk; have HB := Aside0.mk hb; clear hb hbox hgk))
    refine (bytes_calls 1 (by decide) w0 w1 g l (HR.out.stay (Stay.of_below (fun _ => False) HB.out) id) (below_step hB (HB.out)) hg).mono ?_
    rintro e w2 ⟨ho, hs⟩
    rw [Q1.out] at ho
    obtain rfl := ho
    exact ⟨rfl, rfl, (Stay.of_below _ HB.out).trans (hs.mono (fun k hk => .inl hk)), fun p hp => by cases hp⟩
  | ok p1 =>
    obtain ⟨s, l1⟩ := p1
    have hs1 := takeB_one q1
    have Q1 := Aside0.mk q1
    have S1 := Aside0.mk hs1
    go_enter Try.func76, Try.ntmps76
    go_wp2_with (((with_reducible refine gate_dst (N := 4) rfl ?_); refine box_event ?hg (N := 4) ?hd (cs := #[.int .u8 0, .string (⟨#[]⟩ : ByteArray)]) (t := 28) ?hr ?_; (case hd => rfl); (case hg => rfl); (case hr => first | (go_simp; done) | (go_simp; rfl)); intro gk hgk w1 hbox hb; have BK := Aside0.mk hbox; have HK := Aside0.mk hgk; have HB := Aside0.mk hb; clear hb hbox hgk))
    refine (bytes_calls 1 (by decide) w0 w1 g l (HR.out.stay (Stay.of_below (fun _ => False) HB.out) id) (below_step hB (HB.out)) hg).mono ?_
    rintro e w2 ⟨ho, hs⟩
    rw [Q1.out] at ho
    obtain ⟨rfl, hr2⟩ := ho
    have R2 := Aside0.mk hr2
    have ST := Aside0.mk hs
    have hne : ¬ gk = g := by rw [HK.out]; have := GL.out; omega
    have BK2 := Aside0.mk (hs.blk BK.out hne)
    clear hs hr2 q1
    have hz0 : w2.cell? ⟨gk, 0, none⟩ = some (.int .u8 0) := (blk_cell BK2.out 0).trans rfl
    have hf0 := blk_frozen BK2.out 0
    have i0 : (0 : Int) < (s.size : Int) := by omega
    have hbt := byte0_get (s := s) (by omega)
    have TQ : Aside0 ((if byte0 s < 8 then
      (takeN k 1 64 l1).bind fun q => match q with
        | .error c => some (.error c)
        | .ok (n, l2) => match takeB n l2 with
          | .error c => some (.error c)
          | .ok (nm, l3) => some (if lessB last ⟨byte0 s, nm⟩ then .ok (⟨byte0 s, nm⟩, l3) else .error 3)
      else some (.error 3)) = some q) := ⟨by have := HQ.out; unfold takeKey at this; rw [Q1.out] at this; exact this⟩
    generalize byte0 s = tb at hbt TQ
    clear HQ Q1 HR
    go_wp2_with fail
    rw [← hbt]
    have BK3 := Aside0.mk (blk_put (cs := #[.int .u8 0, .string (⟨#[]⟩ : ByteArray)]) BK2.out 0 (.int .u8 tb) rfl)
    have ST3 : Aside0 (Stay (fun k => k = g) w (w2.setCell ⟨gk, 0, none⟩ (.int .u8 tb))) := ⟨((Stay.of_below (fun k => k = g) HB.out).trans ST.out).set (.inr (by rw [HK.out]; exact Nat.le_refl _)) 0 _⟩
    have R3 : Aside0 (Rd w0 (w2.setCell ⟨gk, 0, none⟩ (.int .u8 tb)) g l1) := ⟨R2.out.stay ((Stay.refl (fun k => k = gk) w2).set (.inl rfl) 0 _) (fun e => hne e.symm)⟩
    clear BK BK2 ST R2 hz0 hf0 i0 hbt hs1 S1
    generalize w2.setCell ⟨gk, 0, none⟩ (.int .u8 tb) = w3 at BK3 ST3 R3 ⊢
    by_cases ht : tb < 8
    · have d1 : decide (tb < 8) = true := decide_eq_true ht
      have TQ2 := TQ.out
      rw [if_pos ht] at TQ2
      have TN := Aside0.mk TQ2
      clear TQ TQ2 ht
      rw [d1]
      refine (must_calls true _).mono ?_
      rintro e w4 ⟨he, hb⟩
      rw [if_pos rfl] at he
      subst he
      have BK4 := Aside0.mk (blk_below BK3.out hb)
      have ST4 := Aside0.mk (ST3.out.trans (Stay.of_below _ hb))
      have R4 := Aside0.mk (R3.out.stay (Stay.of_below (fun _ => False) hb) id)
      clear BK3 ST3 R3 hb d1
      obtain ⟨q2, hq2, hq3⟩ := Option.bind_eq_some_iff.1 TN.out
      have N1 := Aside0.mk hq2
      have N2 := Aside0.mk hq3
      clear hq2 hq3 TN
      cases q2 with
      | error c =>
        obtain rfl : q = .error c := (Option.some.inj N2.out).symm
        go_wp2_with fail
        refine (number_calls k 1 64 _ w0 w4 g l1 R4.out (ST4.out.below hB (by intro k hk; have hk : k = g := hk; rw [hk]; exact hg)) hg N1.out).mono ?_
        rintro e w5 ⟨ho, hs⟩
        obtain rfl := ho
        exact ⟨rfl, rfl, (ST4.out.trans hs).mono (fun k hk => .inl hk), fun p hp => by cases hp⟩
      | ok p2 =>
        obtain ⟨n, l2⟩ := p2
        have hn := takeN_ok N1.out (by decide) (by decide)
        have N3 : Aside0 ((match takeB n l2 with | .error c => some (.error c) | .ok (nm, l3) => some (if lessB last ⟨tb, nm⟩ then .ok (⟨tb, nm⟩, l3) else .error 3)) = some q) := ⟨N2.out⟩
        clear N2
        have HN : Aside0 (0 ≤ n) := ⟨by omega⟩
        clear hn
        cases q3 : takeB n l2 with
        | error c =>
          have q4 := N3.out
          rw [q3] at q4
          obtain rfl := Option.some.inj q4
          have Q3 := Aside0.mk q3
          clear q3 q4 N3
          go_wp2_with fail
          refine (number_calls k 1 64 _ w0 w4 g l1 R4.out (ST4.out.below hB (by intro k hk; have hk : k = g := hk; rw [hk]; exact hg)) hg N1.out).mono ?_
          rintro e w5 ⟨ho, hs⟩
          obtain ⟨rfl, hr5⟩ := ho
          have R5 := Aside0.mk hr5
          have ST5 := Aside0.mk (ST4.out.trans hs)
          have BK5 := Aside0.mk (hs.blk BK4.out hne)
          clear R4 ST4 BK4 hs hr5 N1
          go_wp2_with fail
          refine (bytes_calls n HN.out w0 w5 g l2 R5.out (ST5.out.below hB (by intro k hk; have hk : k = g := hk; rw [hk]; exact hg)) hg).mono ?_
          rintro e w6 ⟨ho, hs⟩
          rw [Q3.out] at ho
          obtain rfl := ho
          exact ⟨rfl, rfl, (ST5.out.trans hs).mono (fun k hk => .inl hk), fun p hp => by cases hp⟩
        | ok p3 =>
          obtain ⟨nm, l3⟩ := p3
          have q4 := N3.out
          rw [q3] at q4
          have Q4 := Aside0.mk (Option.some.inj q4)
          have Q3 := Aside0.mk q3
          clear q3 q4 N3
          go_wp2_with fail
          refine (number_calls k 1 64 _ w0 w4 g l1 R4.out (ST4.out.below hB (by intro k hk; have hk : k = g := hk; rw [hk]; exact hg)) hg N1.out).mono ?_
          rintro e w5 ⟨ho, hs⟩
          obtain ⟨rfl, hr5⟩ := ho
          have R5 := Aside0.mk hr5
          have ST5 := Aside0.mk (ST4.out.trans hs)
          have BK5 := Aside0.mk (hs.blk BK4.out hne)
          clear R4 ST4 BK4 hs hr5 N1
          go_wp2_with fail
          refine (bytes_calls n HN.out w0 w5 g l2 R5.out (ST5.out.below hB (by intro k hk; have hk : k = g := hk; rw [hk]; exact hg)) hg).mono ?_
          rintro e w6 ⟨ho, hs⟩
          rw [Q3.out] at ho
          obtain ⟨rfl, hr6⟩ := ho
          have R6 := Aside0.mk hr6
          have ST6 := Aside0.mk (ST5.out.trans hs)
          have BK6 := Aside0.mk (hs.blk BK5.out hne)
          clear R5 ST5 BK5 hs hr6 Q3
          have hz1 : w6.cell? ⟨gk, 1, none⟩ = some (.string (⟨#[]⟩ : ByteArray)) := (blk_cell BK6.out 1).trans rfl
          have hf1 := blk_frozen BK6.out 1
          go_wp2_with fail
          have BK7 : Aside0 ((w6.setCell ⟨gk, 1, none⟩ (.string nm)).heap[gk]? = some (keyCells ⟨tb, nm⟩)) := ⟨blk_put BK6.out 1 (.string nm) rfl⟩
          have ST7 := Aside0.mk (ST6.out.set (.inr (by rw [HK.out]; exact Nat.le_refl _) : gk = g ∨ w.heap.size ≤ gk) 1 (.string nm))
          have R7 := Aside0.mk (R6.out.stay ((Stay.refl (fun k => k = gk) w6).set (.inl rfl) 1 (.string nm)) (fun e => hne e.symm))
          clear R6 ST6 BK6 hz1 hf1
          generalize w6.setCell ⟨gk, 1, none⟩ (.string nm) = w7 at R7 ST7 BK7 ⊢
          have HL7 := Aside0.mk (ST7.out.blk HLC.out hgh)
          have LF := Aside0.mk (less_f last ⟨tb, nm⟩)
          obtain ⟨q5, hq5⟩ : ∃ q5, q5 = lessB last ⟨tb, nm⟩ := ⟨_, rfl⟩
          have Q5 := Aside0.mk hq5
          clear hq5
          cases q5 with
          | true =>
            refine start_ (n := 6) (S := fun W => W.heap[h]? = some (keyCells last) ∧ W.heap[gk]? = some (keyCells ⟨tb, nm⟩)) (ds := []) #[false, false, false, false, false, false] (by kernel_rfl) rfl rfl ⟨blk_drew HL7.out, blk_drew BK7.out⟩ (fun hHeld => ?_)
            refine with_tabW key4_tab key4_bits (fun HT_ HW_ => ?_)
            refine pure_ (i := 0) (N := some 18) (v := ?_) (a' := ?_) #[true, false, false, false, false, false] rfl rfl (any_of HT_.out (by kernel_rfl)) (fun _ _ _ h => h) (Or.inl ⟨by rfl, ?_⟩) ?_ ?_
            rotate_left
            · intro w'
              go_simp
              all_goals with_reducible rfl
            rotate_left
            · simp only [Act.put, List.setIfInBounds_toArray, List.set_cons_zero, List.set_cons_succ, i64_w, i32_w]
              rfl
            refine pure_ (i := 1) (N := some 19) (v := ?_) (a' := ?_) #[true, true, false, false, false, false] rfl rfl (any_of HT_.out (by kernel_rfl)) (fun _ _ _ h => h) (Or.inl ⟨by rfl, ?_⟩) ?_ ?_
            rotate_left
            · intro w'
              go_simp
              all_goals with_reducible rfl
            rotate_left
            · simp only [Act.put, List.setIfInBounds_toArray, List.set_cons_zero, List.set_cons_succ, i64_w, i32_w]
              rfl
            refine take_ (i := 2) (N := some 20) (v := ?_) (a' := ?_) #[true, true, true, false, false, false] rfl rfl (take_ofW HT_.out HW_.out (by kernel_rfl)) (fun _ _ _ h => h) (Or.inl ⟨by rfl, ?_⟩) hHeld ?_ ?_
            rotate_left
            · rintro w' ⟨s0, s1⟩
              have z0 := (blk_cell s0 0).trans rfl; have z1 := (blk_cell s0 1).trans rfl; go_simp
              with_reducible rfl
            rotate_left
            · simp only [Act.put, List.setIfInBounds_toArray, List.set_cons_zero, List.set_cons_succ, i64_w, i32_w]
              rfl
            refine take_ (i := 3) (N := some 21) (v := ?_) (a' := ?_) #[true, true, true, true, false, false] rfl rfl (take_ofW HT_.out HW_.out (by kernel_rfl)) (fun _ _ _ h => h) (Or.inl ⟨by rfl, ?_⟩) hHeld ?_ ?_
            rotate_left
            · rintro w' ⟨s0, s1⟩
              have z0 := (blk_cell s1 0).trans rfl; have z1 := (blk_cell s1 1).trans rfl; go_simp
              with_reducible rfl
            rotate_left
            · simp only [Act.put, List.setIfInBounds_toArray, List.set_cons_zero, List.set_cons_succ, i64_w, i32_w]
              rfl
            refine one_ (i := 4) (N := some 22) #[true, true, true, true, true, false] rfl rfl (one_of HT_.out (by kernel_rfl)) (by decide) (fun K hK => ?_)
            refine goes_ Try.func22 (by kernel_rfl) rfl #[.agg #[.int .u8 last.f0, .string last.f1], .agg #[.int .u8 tb, .string nm]] (by rfl) rfl rfl (by (try simp only [List.map_toArray, List.map_cons, List.map_nil]); first | done | rfl) ?_
            refine (codec_Less.calls 3 last.f0 last.f1 tb nm _ _ LF.out).mono ?_
            rintro e w8 ⟨rfl, hb8⟩
            refine ⟨_, rfl, ?_⟩
            have HB8 := Aside0.mk hb8
            clear hb8
            rw [← Q5.out]
            refine hK.out _ _ (⟨blk_below hHeld.1 HB8.out, blk_below hHeld.2 HB8.out⟩) (fun hHeld => ?_)
            clear hK K
            refine norm_ (a' := ?_) ?_ ?_
            rotate_left
            · show Act.put _ (some 22) _ = _
              simp only [Act.put, List.setIfInBounds_toArray, List.set_cons_zero, List.set_cons_succ, i64_w, i32_w]
              rfl
            refine one_ (i := 5) (N := some 23) #[true, true, true, true, true, true] rfl rfl (one_of HT_.out (by kernel_rfl)) (by decide) (fun K hK => ?_)
            refine goes_ Try.func74 (by kernel_rfl) rfl #[.bool true] (by rfl) rfl rfl (by (try simp only [List.map_toArray, List.map_cons, List.map_nil]); first | done | rfl) ?_
            refine (must_calls true _).mono ?_
            rintro e w9 ⟨he, hb9⟩
            rw [if_pos rfl] at he
            subst he
            refine ⟨_, rfl, ?_⟩
            have HB9 := Aside0.mk hb9
            clear hb9
            refine hK.out _ _ (⟨blk_below hHeld.1 HB9.out, blk_below hHeld.2 HB9.out⟩) (fun hHeld => ?_)
            clear hK K
            refine norm_ (a' := ?_) ?_ ?_
            rotate_left
            · show Act.put _ (some 23) _ = _
              simp only [Act.put, List.setIfInBounds_toArray, List.set_cons_zero, List.set_cons_succ, i64_w, i32_w]
              rfl
            refine done_ (done_of HT_.out (by kernel_rfl)) ?_
            obtain rfl : .ok (⟨tb, nm⟩, l3) = q := by have := Q4.out; rw [← Q5.out] at this; exact this
            have ST9 := Aside0.mk ((ST7.out.trans (Stay.of_below (fun k => k = g) (below_drew (Below.refl w7.heap.size w7)))).trans ((Stay.of_below (fun k => k = g) HB8.out).trans (Stay.of_below (fun k => k = g) HB9.out)))
            have R9 : Aside0 (Rd w0 w9 g l3) := ⟨((R7.out.stay (Stay.of_below (fun _ => False) (below_drew (Below.refl w7.heap.size w7))) id).stay (Stay.of_below (fun _ => False) HB8.out) id).stay (Stay.of_below (fun _ => False) HB9.out) id⟩
            obtain ⟨hl9, hk9⟩ := hHeld
            have HL9 := Aside0.mk hl9
            have BK9 := Aside0.mk hk9
            clear hl9 hk9 R7 ST7 BK7 HL7 HB8 HB9 Q4 Q5 LF HT_ HW_
            have hz0 : w9.cell? ⟨gk, 0, none⟩ = some (.int .u8 tb) := (blk_cell BK9.out 0).trans rfl
            have hz1 : w9.cell? ⟨gk, 1, none⟩ = some (.string nm) := (blk_cell BK9.out 1).trans rfl
            have hy0 : w9.cell? ⟨h, 0, none⟩ = some (.int .u8 last.f0) := (blk_cell HL9.out 0).trans rfl
            have hy1 : w9.cell? ⟨h, 1, none⟩ = some (.string last.f1) := (blk_cell HL9.out 1).trans rfl
            have hfgk0 := blk_frozen BK9.out 0
            have hfgk1 := blk_frozen BK9.out 1
            have hfh0 := blk_frozen HL9.out 0
            have hfh1 := blk_frozen HL9.out 1
            have hkh : gk ≠ h := by rw [HK.out]; have := HL.out; omega
            have hhk : h ≠ gk := fun e => hkh e.symm
            go_wp2
            have HLf : Aside0 (((((w9.setCell ⟨h, 0, none⟩ (.int .u8 tb)).setCell ⟨h, 1, none⟩ (.string nm)).setCell ⟨gk, 0, none⟩ (.int .u8 tb)).setCell ⟨gk, 1, none⟩ (.string nm)).heap[h]? = some (keyCells ⟨tb, nm⟩)) := ⟨(((Stay.refl (fun k => k = gk) _).set (.inl rfl) 0 (.int .u8 tb)).set (.inl rfl) 1 (.string nm)).blk (blk_put (blk_put HL9.out 0 (.int .u8 tb) rfl) 1 (.string nm) rfl) hhk⟩
            have Rf : Aside0 (Rd w0 ((((w9.setCell ⟨h, 0, none⟩ (.int .u8 tb)).setCell ⟨h, 1, none⟩ (.string nm)).setCell ⟨gk, 0, none⟩ (.int .u8 tb)).setCell ⟨gk, 1, none⟩ (.string nm)) g l3) := ⟨R9.out.stay (((((Stay.refl (fun k => k = gk ∨ k = h) w9).set (.inl (.inr rfl)) 0 (.int .u8 tb)).set (.inl (.inr rfl)) 1 (.string nm)).set (.inl (.inl rfl)) 0 (.int .u8 tb)).set (.inl (.inl rfl)) 1 (.string nm)) (fun e => e.elim (fun e => hne e.symm) (fun e => hgh e.symm))⟩
            have STf : Aside0 (Stay (fun k => k = g ∨ k = h) w ((((w9.setCell ⟨h, 0, none⟩ (.int .u8 tb)).setCell ⟨h, 1, none⟩ (.string nm)).setCell ⟨gk, 0, none⟩ (.int .u8 tb)).setCell ⟨gk, 1, none⟩ (.string nm))) := ⟨(((((ST9.out.mono (fun k hk => .inl hk) : Stay (fun k => k = g ∨ k = h) w w9).set (.inl (.inr rfl)) 0 (.int .u8 tb)).set (.inl (.inr rfl)) 1 (.string nm)).set (.inr (by rw [HK.out]; exact Nat.le_refl _)) 0 (.int .u8 tb)).set (.inr (by rw [HK.out]; exact Nat.le_refl _)) 1 (.string nm))⟩
            refine bodyPost_ret (by simp [results, Try.results76, go_sem, hz0, hz1, hkh, hhk]; try rfl) rfl ?_
            exact ⟨⟨rfl, Rf.out⟩, STf.out, fun p hp => by cases hp; exact HLf.out⟩
          | false =>
            refine start_ (n := 6) (S := fun W => W.heap[h]? = some (keyCells last) ∧ W.heap[gk]? = some (keyCells ⟨tb, nm⟩)) (ds := []) #[false, false, false, false, false, false] (by kernel_rfl) rfl rfl ⟨blk_drew HL7.out, blk_drew BK7.out⟩ (fun hHeld => ?_)
            refine with_tabW key4_tab key4_bits (fun HT_ HW_ => ?_)
            refine pure_ (i := 0) (N := some 18) (v := ?_) (a' := ?_) #[true, false, false, false, false, false] rfl rfl (any_of HT_.out (by kernel_rfl)) (fun _ _ _ h => h) (Or.inl ⟨by rfl, ?_⟩) ?_ ?_
            rotate_left
            · intro w'
              go_simp
              all_goals with_reducible rfl
            rotate_left
            · simp only [Act.put, List.setIfInBounds_toArray, List.set_cons_zero, List.set_cons_succ, i64_w, i32_w]
              rfl
            refine pure_ (i := 1) (N := some 19) (v := ?_) (a' := ?_) #[true, true, false, false, false, false] rfl rfl (any_of HT_.out (by kernel_rfl)) (fun _ _ _ h => h) (Or.inl ⟨by rfl, ?_⟩) ?_ ?_
            rotate_left
            · intro w'
              go_simp
              all_goals with_reducible rfl
            rotate_left
            · simp only [Act.put, List.setIfInBounds_toArray, List.set_cons_zero, List.set_cons_succ, i64_w, i32_w]
              rfl
            refine take_ (i := 2) (N := some 20) (v := ?_) (a' := ?_) #[true, true, true, false, false, false] rfl rfl (take_ofW HT_.out HW_.out (by kernel_rfl)) (fun _ _ _ h => h) (Or.inl ⟨by rfl, ?_⟩) hHeld ?_ ?_
            rotate_left
            · rintro w' ⟨s0, s1⟩
              have z0 := (blk_cell s0 0).trans rfl; have z1 := (blk_cell s0 1).trans rfl; go_simp
              with_reducible rfl
            rotate_left
            · simp only [Act.put, List.setIfInBounds_toArray, List.set_cons_zero, List.set_cons_succ, i64_w, i32_w]
              rfl
            refine take_ (i := 3) (N := some 21) (v := ?_) (a' := ?_) #[true, true, true, true, false, false] rfl rfl (take_ofW HT_.out HW_.out (by kernel_rfl)) (fun _ _ _ h => h) (Or.inl ⟨by rfl, ?_⟩) hHeld ?_ ?_
            rotate_left
            · rintro w' ⟨s0, s1⟩
              have z0 := (blk_cell s1 0).trans rfl; have z1 := (blk_cell s1 1).trans rfl; go_simp
              with_reducible rfl
            rotate_left
            · simp only [Act.put, List.setIfInBounds_toArray, List.set_cons_zero, List.set_cons_succ, i64_w, i32_w]
              rfl
            refine one_ (i := 4) (N := some 22) #[true, true, true, true, true, false] rfl rfl (one_of HT_.out (by kernel_rfl)) (by decide) (fun K hK => ?_)
            refine goes_ Try.func22 (by kernel_rfl) rfl #[.agg #[.int .u8 last.f0, .string last.f1], .agg #[.int .u8 tb, .string nm]] (by rfl) rfl rfl (by (try simp only [List.map_toArray, List.map_cons, List.map_nil]); first | done | rfl) ?_
            refine (codec_Less.calls 3 last.f0 last.f1 tb nm _ _ LF.out).mono ?_
            rintro e w8 ⟨rfl, hb8⟩
            refine ⟨_, rfl, ?_⟩
            have HB8 := Aside0.mk hb8
            clear hb8
            rw [← Q5.out]
            refine hK.out _ _ (⟨blk_below hHeld.1 HB8.out, blk_below hHeld.2 HB8.out⟩) (fun hHeld => ?_)
            clear hK K
            refine norm_ (a' := ?_) ?_ ?_
            rotate_left
            · show Act.put _ (some 22) _ = _
              simp only [Act.put, List.setIfInBounds_toArray, List.set_cons_zero, List.set_cons_succ, i64_w, i32_w]
              rfl
            refine one_ (i := 5) (N := some 23) #[true, true, true, true, true, true] rfl rfl (one_of HT_.out (by kernel_rfl)) (by decide) (fun K hK => ?_)
            refine goesP_ Try.func74 (by kernel_rfl) rfl #[.bool false] (by rfl) rfl rfl (by (try simp only [List.map_toArray, List.map_cons, List.map_nil]); first | done | rfl) ?_
            refine (must_calls false _).mono ?_
            rintro e w9 ⟨he, hb9⟩
            rw [if_neg (by decide)] at he
            refine ⟨_, he, ?_⟩
            obtain rfl : .error 3 = q := by have := Q4.out; rw [← Q5.out] at this; exact this
            exact ⟨rfl, rfl, ((ST7.out.trans (Stay.of_below (fun k => k = g) (below_drew (Below.refl w7.heap.size w7)))).trans ((Stay.of_below (fun k => k = g) HB8.out).trans (Stay.of_below (fun k => k = g) hb9))).mono (fun k hk => .inl hk), fun p hp => by cases hp⟩
    · have d1 : decide (tb < 8) = false := decide_eq_false ht
      have TQ2 := TQ.out
      rw [if_neg ht] at TQ2
      obtain rfl := Option.some.inj TQ2
      clear TQ TQ2 ht
      rw [d1]
      refine (must_calls false _).mono ?_
      rintro e w4 ⟨he, hb⟩
      rw [if_neg (by decide)] at he
      subst he
      exact ⟨rfl, rfl, (ST3.out.trans (Stay.of_below _ hb)).mono (fun k hk => .inl hk), fun p hp => by cases hp⟩
end Go.Proofs.Ytgmdoapedhppmaa.PC

namespace Go.Proofs.Ytgmdoapedhppmaa.PC
set_option linter.unusedVariables false
set_option linter.unusedSimpArgs false
open Go.RowKit Go.Proofs.YtgmdoapedhppmaaW.PrintWords Go.Proofs.YtgmdoapedhppmaaW.PrintLast Go.Proofs.YtgmdoapedhppmaaW.PrintMore
set_option maxRecDepth 100000 in
set_option maxHeartbeats 2000000 in
theorem catch_epoch (g1 g2 : Nat) (h12 : g1 ≠ g2) (n : Int) (v : Value) (e0 c : Int) (w : World) (h1 : w.heap[g1]? = some (.cells #[.int .u32 n, v] 25 (0, 0))) (h2 : w.heap[g2]? = some (.cells #[.int .i64 e0] 33 (0, 0))) :
    CallsD Try.prog 73 #[.pointer (some ⟨g1, 0, none⟩), .pointer (some ⟨g2, 0, none⟩)] (.panicking [{ v := .iface 113 (.int .i64 c), recovered := false }]) w fun e u' w' =>
      e = .returned (.tuple #[]) ∧ u' = .panicking [{ v := .iface 113 (.int .i64 c), recovered := true }] ∧ Stay (fun k => k = g1 ∨ k = g2) w w' ∧ w'.heap[g1]? = some (.cells #[.int .u32 0, .slice none 0 0] 25 (0, 0)) ∧ w'.heap[g2]? = some (.cells #[.int .i64 c] 33 (0, 0)) := by
  have hz10 : w.cell? ⟨g1, 0, none⟩ = some (.int .u32 n) := (blk_cell h1 0).trans rfl
  have hz11 : w.cell? ⟨g1, 1, none⟩ = some v := (blk_cell h1 1).trans rfl
  have hz20 : w.cell? ⟨g2, 0, none⟩ = some (.int .i64 e0) := (blk_cell h2 0).trans rfl
  have hf10 := blk_frozen h1 0
  have hf11 := blk_frozen h1 1
  have hf20 := blk_frozen h2 0
  refine callsD_of_wpS Try.func73 rfl fun c₀ cs hu => ?_
  apply wpS_seq
  apply wpS_region
  simp [wpOpsS, go_sem, recoverD, hu, Try.ntmps73, Exit.thenS]
  have hta : ∀ (v : Value) (W : World), (Instr.typeAssert (.iface 113 v) 20 113 true).run Try.prog W = .ok (.tuple #[v, .bool true]) W := fun v W => by rfl
  change Code.wpS Try.prog _ _ { tmps := #[.pointer (some ⟨g1, 0, none⟩), .pointer (some ⟨g2, 0, none⟩), .iface 113 (.int .i64 c), undef, undef, undef, .iface 113 (.int .i64 c), undef, undef, undef, undef, undef, undef, undef, undef, undef, undef, undef, undef], defers := [] } _ w
  refine wpS_of_wp ?_
  generalize hQ : bodyPostS Try.prog Try.f73 c₀ cs _ = Q
  have HQ := Aside0.mk hQ
  have H1 := Aside0.mk h1
  have H2 := Aside0.mk h2
  have HU := Aside0.mk hu
  clear hQ hu h1 h2 hz10 hz11 hz20 hf10 hf11 hf20
  go_wp2_with (((with_reducible refine gate_dst (N := 5) rfl ?_); refine box_event ?hg (N := 5) ?hd (cs := #[.int .u32 0, .slice none 0 0]) (t := 25) ?hr ?_; (case hd => rfl); (case hg => rfl); (case hr => first | (go_simp; done) | (go_simp; rfl)); intro gk hgk w1 hbox hb; have BK := Aside0.mk hbox; have HK := Aside0.mk hgk; have HB := Aside0.mk hb; clear hb hbox hgk; have K1 := Aside0.mk (blk_below H1.out HB.out); have K2 := Aside0.mk (blk_below H2.out HB.out); have hz10 : w1.cell? ⟨g1, 0, none⟩ = some (.int .u32 n) := (blk_cell K1.out 0).trans rfl; have hz11 : w1.cell? ⟨g1, 1, none⟩ = some v := (blk_cell K1.out 1).trans rfl; have hz20 : w1.cell? ⟨g2, 0, none⟩ = some (.int .i64 e0) := (blk_cell K2.out 0).trans rfl; have hzk0 : w1.cell? ⟨gk, 0, none⟩ = some (.int .u32 0) := (blk_cell BK.out 0).trans rfl; have hzk1 : w1.cell? ⟨gk, 1, none⟩ = some (.slice none 0 0) := (blk_cell BK.out 1).trans rfl; have hf10 := blk_frozen K1.out 0; have hf11 := blk_frozen K1.out 1; have hf20 := blk_frozen K2.out 0; have h21 : g2 ≠ g1 := fun e => h12 e.symm))
  have HE : Aside0 (Stay (fun k => k = g1 ∨ k = g2) w (((w1.setCell ⟨g1, 0, none⟩ (.int .u32 0)).setCell ⟨g1, 1, none⟩ (.slice none 0 0)).setCell ⟨g2, 0, none⟩ (.int .i64 c))) := ⟨(((Stay.of_below (fun k => k = g1 ∨ k = g2) HB.out).set (.inl (.inl rfl)) 0 _).set (.inl (.inl rfl)) 1 _).set (.inl (.inr rfl)) 0 _⟩
  have E1 : Aside0 ((((w1.setCell ⟨g1, 0, none⟩ (.int .u32 0)).setCell ⟨g1, 1, none⟩ (.slice none 0 0)).setCell ⟨g2, 0, none⟩ (.int .i64 c)).heap[g1]? = some (.cells #[.int .u32 0, .slice none 0 0] 25 (0, 0))) := ⟨((Stay.refl (fun k => k = g2) _).set (.inl rfl) 0 (.int .i64 c)).blk (blk_put (blk_put K1.out 0 (.int .u32 0) rfl) 1 (.slice none 0 0) rfl) h12⟩
  have E2 : Aside0 ((((w1.setCell ⟨g1, 0, none⟩ (.int .u32 0)).setCell ⟨g1, 1, none⟩ (.slice none 0 0)).setCell ⟨g2, 0, none⟩ (.int .i64 c)).heap[g2]? = some (.cells #[.int .i64 c] 33 (0, 0))) := ⟨blk_put ((((Stay.refl (fun k => k = g1) w1).set (.inl rfl) 0 (.int .u32 0)).set (.inl rfl) 1 (.slice none 0 0)).blk K2.out h21) 0 (.int .i64 c) rfl⟩
  rw [← HQ.out]
  simp [bodyPostS, results, Try.results73]
  exact ⟨HE.out, E1.out, E2.out⟩
set_option maxRecDepth 100000 in
set_option maxHeartbeats 2000000 in
theorem idle_epoch (p q : Addr) (w : World) :
    CallsD Try.prog 73 #[.pointer (some p), .pointer (some q)] .returning w fun e u' w' => e = .returned (.tuple #[]) ∧ u' = .returning ∧ w' = w := by
  refine callsD_of_wpS Try.func73 rfl fun c₀ cs hu => ?_
  apply wpS_seq
  apply wpS_region
  simp [wpOpsS, go_sem, recoverD, hu, Try.ntmps73, Exit.thenS]
  change Code.wpS Try.prog _ _ { tmps := #[.pointer (some p), .pointer (some q), .nilIface, undef, undef, undef, .nilIface, undef, undef, undef, undef, undef, undef, undef, undef, undef, undef, undef, undef], defers := [] } _ w
  refine wpS_of_wp ?_
  generalize hQ : bodyPostS Try.prog Try.f73 c₀ cs _ = Q
  have HQ := Aside0.mk hQ
  have HU := Aside0.mk hu
  clear hQ hu
  go_wp2_with fail
  rw [← HQ.out]
  have hu := HU.out
  cases c₀
  simp_all [bodyPostS, results, Try.results73]
set_option maxRecDepth 100000 in
set_option maxHeartbeats 2000000 in
theorem catch_rows (g1 g2 : Nat) (h12 : g1 ≠ g2) (v : Value) (e0 c : Int) (w : World) (h1 : w.heap[g1]? = some (.cells #[v] 26 (0, 0))) (h2 : w.heap[g2]? = some (.cells #[.int .i64 e0] 33 (0, 0))) :
    CallsD Try.prog 78 #[.pointer (some ⟨g1, 0, none⟩), .pointer (some ⟨g2, 0, none⟩)] (.panicking [{ v := .iface 113 (.int .i64 c), recovered := false }]) w fun e u' w' =>
      e = .returned (.tuple #[]) ∧ u' = .panicking [{ v := .iface 113 (.int .i64 c), recovered := true }] ∧ Stay (fun k => k = g1 ∨ k = g2) w w' ∧ w'.heap[g1]? = some (.cells #[.slice none 0 0] 26 (0, 0)) ∧ w'.heap[g2]? = some (.cells #[.int .i64 c] 33 (0, 0)) := by
  refine callsD_of_wpS Try.func78 rfl fun c₀ cs hu => ?_
  apply wpS_seq
  apply wpS_region
  simp [wpOpsS, go_sem, recoverD, hu, Try.ntmps78, Exit.thenS]
  have hta : ∀ (v : Value) (W : World), (Instr.typeAssert (.iface 113 v) 20 113 true).run Try.prog W = .ok (.tuple #[v, .bool true]) W := fun v W => by rfl
  change Code.wpS Try.prog _ _ { tmps := #[.pointer (some ⟨g1, 0, none⟩), .pointer (some ⟨g2, 0, none⟩), .iface 113 (.int .i64 c), undef, undef, undef, .iface 113 (.int .i64 c), undef, undef, undef, undef, undef, undef, undef, undef, undef, undef, undef, undef], defers := [] } _ w
  refine wpS_of_wp ?_
  generalize hQ : bodyPostS Try.prog Try.f78 c₀ cs _ = Q
  have HQ := Aside0.mk hQ
  have H1 := Aside0.mk h1
  have H2 := Aside0.mk h2
  have HU := Aside0.mk hu
  clear hQ hu h1 h2
  have hz10 : w.cell? ⟨g1, 0, none⟩ = some v := (blk_cell H1.out 0).trans rfl
  have hz20 : w.cell? ⟨g2, 0, none⟩ = some (.int .i64 e0) := (blk_cell H2.out 0).trans rfl
  have hf10 := blk_frozen H1.out 0
  have hf20 := blk_frozen H2.out 0
  have h21 : g2 ≠ g1 := fun e => h12 e.symm
  go_wp2_with fail
  have HE : Aside0 (Stay (fun k => k = g1 ∨ k = g2) w ((w.setCell ⟨g1, 0, none⟩ (.slice none 0 0)).setCell ⟨g2, 0, none⟩ (.int .i64 c))) := ⟨((Stay.refl (fun k => k = g1 ∨ k = g2) w).set (.inl (.inl rfl)) 0 _).set (.inl (.inr rfl)) 0 _⟩
  have E1 : Aside0 (((w.setCell ⟨g1, 0, none⟩ (.slice none 0 0)).setCell ⟨g2, 0, none⟩ (.int .i64 c)).heap[g1]? = some (.cells #[.slice none 0 0] 26 (0, 0))) := ⟨((Stay.refl (fun k => k = g2) _).set (.inl rfl) 0 (.int .i64 c)).blk (blk_put H1.out 0 (.slice none 0 0) rfl) h12⟩
  have E2 : Aside0 (((w.setCell ⟨g1, 0, none⟩ (.slice none 0 0)).setCell ⟨g2, 0, none⟩ (.int .i64 c)).heap[g2]? = some (.cells #[.int .i64 c] 33 (0, 0))) := ⟨blk_put (((Stay.refl (fun k => k = g1) w).set (.inl rfl) 0 (.slice none 0 0)).blk H2.out h21) 0 (.int .i64 c) rfl⟩
  rw [← HQ.out]
  simp [bodyPostS, results, Try.results78]
  exact ⟨HE.out, E1.out, E2.out⟩
set_option maxRecDepth 100000 in
set_option maxHeartbeats 2000000 in
theorem idle_rows (p q : Addr) (w : World) :
    CallsD Try.prog 78 #[.pointer (some p), .pointer (some q)] .returning w fun e u' w' => e = .returned (.tuple #[]) ∧ u' = .returning ∧ w' = w := by
  refine callsD_of_wpS Try.func78 rfl fun c₀ cs hu => ?_
  apply wpS_seq
  apply wpS_region
  simp [wpOpsS, go_sem, recoverD, hu, Try.ntmps78, Exit.thenS]
  change Code.wpS Try.prog _ _ { tmps := #[.pointer (some p), .pointer (some q), .nilIface, undef, undef, undef, .nilIface, undef, undef, undef, undef, undef, undef, undef, undef, undef, undef, undef, undef], defers := [] } _ w
  refine wpS_of_wp ?_
  generalize hQ : bodyPostS Try.prog Try.f78 c₀ cs _ = Q
  have HQ := Aside0.mk hQ
  have HU := Aside0.mk hu
  clear hQ hu
  go_wp2_with fail
  rw [← HQ.out]
  have hu := HU.out
  cases c₀
  simp_all [bodyPostS, results, Try.results78]
end Go.Proofs.Ytgmdoapedhppmaa.PC

namespace Go.Proofs.Ytgmdoapedhppmaa.PC
set_option linter.unusedVariables false
set_option linter.unusedSimpArgs false
open Go.RowKit Go.Proofs.YtgmdoapedhppmaaW.PrintWords Go.Proofs.YtgmdoapedhppmaaW.PrintLast Go.Proofs.YtgmdoapedhppmaaW.PrintMore
/-- What is asked of the epoch's reader. -/
def EpochCalls (f : List Int → Option (Except Int ((Int × List S47) × List Int))) : Prop :=
  ∀ (w0 w : World) (g : Nat) (l : List Int) (q : Except Int ((Int × List S47) × List Int)), Rd w0 w g l → Below w0.heap.size w0 w → w0.heap.size ≤ g → f l = some q →
    Calls Try.prog 53 #[.pointer (some ⟨g, 0, none⟩)] w fun e w' => (match q with
      | .ok p => ∃ v, e = .returned (.agg #[.int .u32 p.1.1, v]) ∧ Kd.S k47 47 w' w.heap.size (fun _ => True) v p.1.2 ∧ Rd w0 w' g p.2
      | .error c => e = .panicked [{ v := .iface 113 (.int .i64 c), recovered := false }]) ∧ Stay (fun k => k = g) w w'
def finish {β : Type} (q : Except Int (β × List Int)) : Except Int β := match q with
  | .error c => .error c
  | .ok (x, l) => if l.length = 0 then .ok x else .error 3
theorem three_allocs (w : World) (o1 o2 o3 : Obj) : ∃ W3, W3 = ((w.alloc o1).alloc o2).alloc o3 ∧ W3.heap[w.heap.size]? = some o1 ∧ W3.heap[w.heap.size + 1]? = some o2 ∧ W3.heap[w.heap.size + 1 + 1]? = some o3 ∧ Below w.heap.size w W3 := by
  have s1 : (w.alloc o1).heap.size = w.heap.size + 1 := by simp
  have s2 : ((w.alloc o1).alloc o2).heap.size = w.heap.size + 1 + 1 := by simp
  refine ⟨_, rfl, blk_alloc (blk_alloc (blk_new w o1) _) _, ?_, ?_, below_alloc (below_alloc (below_alloc (Below.refl _ _) _) _) _⟩
  · have := blk_new (w.alloc o1) o2
    rw [s1] at this
    exact blk_alloc this _
  · have := blk_new ((w.alloc o1).alloc o2) o3
    rwa [s2] at this
def epN (r : Except Int (Int × List S47)) : Int := match r with | .ok p => p.1 | .error _ => 0
def epL (r : Except Int (Int × List S47)) : List S47 := match r with | .ok p => p.2 | .error _ => []
def epE {β : Type} (r : Except Int β) : Int := match r with | .ok _ => 0 | .error c => c
set_option maxRecDepth 100000 in
set_option maxHeartbeats 2000000 in
theorem whole_epoch (f : List Int → Option (Except Int ((Int × List S47) × List Int))) (F : EpochCalls f) (A0 : Option Addr) (c0 : Nat) (l0 : List Int) (q : Except Int ((Int × List S47) × List Int)) (w : World) (hr0 : Kd.C (Kd.int .u8) w A0 l0.length l0) (hc0 : l0.length ≤ c0) (hq : f l0 = some q) :
    Calls Try.prog 52 #[.slice A0 l0.length c0, .func (.func 53) #[] #[]] w fun e w' => ∃ v, e = .returned (.tuple #[.agg #[.int .u32 (epN (finish q)), v], .int .i64 (epE (finish q))]) ∧ Kd.S k47 47 w' w.heap.size (fun _ => True) v (epL (finish q)) ∧ Below w.heap.size w w' := by
  have hmf : ∀ (fn : Fn) (first cap : Array Value) (w : World), (Instr.makeFunc fn first cap).run Try.prog w = .ok (.func fn first cap) w := fun _ _ _ _ => rfl
  have HC := Aside0.mk hr0
  have HQ := Aside0.mk hq
  clear hr0 hq
  cases q with
  | error c =>
    go_enter_defers Try.func52, Try.ntmps52
    go_wp2_with fail
    obtain ⟨W3, W, H1, H2, H3, HB⟩ := three_allocs w (.cells #[.int .u32 0, .slice none 0 0] 25 (0, 0)) (.cells #[.int .i64 0] 33 (0, 0)) (.cells #[.slice A0 l0.length c0] 116 (0, 0))
    rw [← W]
    have B := Aside0.mk HB
    have R : Aside0 (Rd w W3 (w.heap.size + 1 + 1) l0) := ⟨⟨A0, c0, H3, hc0, HC.out⟩⟩
    have H1a := Aside0.mk H1
    have H2a := Aside0.mk H2
    clear H1 H2 H3 HB W
    refine (F w W3 (w.heap.size + 1 + 1) l0 _ R.out B.out (by omega) HQ.out).mono ?_
    rintro e w4 ⟨rfl, hs⟩
    have S := Aside0.mk hs
    have H1b := Aside0.mk (hs.blk H1a.out (by omega))
    have H2b := Aside0.mk (hs.blk H2a.out (by omega))
    clear hs
    refine leaves_cons (f := 73) (args := #[.pointer (some ⟨w.heap.size, 0, none⟩), .pointer (some ⟨w.heap.size + 1, 0, none⟩)]) (by simp) (by simp [go_sem]) ?_
    refine (catch_epoch w.heap.size (w.heap.size + 1) (by omega) 0 (.slice none 0 0) 0 c w4 H1b.out H2b.out).mono ?_
    rintro e u' w5 ⟨rfl, rfl, hs, h1, h2⟩
    have hz0 : w5.cell? ⟨w.heap.size, 0, none⟩ = some (.int .u32 0) := (blk_cell h1 0).trans rfl
    have hz1 : w5.cell? ⟨w.heap.size, 1, none⟩ = some (.slice none 0 0) := (blk_cell h1 1).trans rfl
    have hz2 : w5.cell? ⟨w.heap.size + 1, 0, none⟩ = some (.int .i64 c) := (blk_cell h2 0).trans rfl
    have BF : Aside0 (Below w.heap.size w w5) := ⟨hs.below (S.out.below B.out (by intro k hk; omega)) (by intro k hk; omega)⟩
    simp [Leaves, settle, results, Try.results52, go_sem, hz0, hz1, hz2]
    exact ⟨.slice none 0 0, ⟨⟨rfl, rfl⟩, rfl⟩, Kd.S_nil _ _ _ _ _, BF.out⟩
  | ok p =>
    obtain ⟨⟨N, xs⟩, l'⟩ := p
    go_enter_defers Try.func52, Try.ntmps52
    go_wp2_with fail
    obtain ⟨W3, W, H1, H2, H3, HB⟩ := three_allocs w (.cells #[.int .u32 0, .slice none 0 0] 25 (0, 0)) (.cells #[.int .i64 0] 33 (0, 0)) (.cells #[.slice A0 l0.length c0] 116 (0, 0))
    rw [← W]
    have B := Aside0.mk HB
    have R : Aside0 (Rd w W3 (w.heap.size + 1 + 1) l0) := ⟨⟨A0, c0, H3, hc0, HC.out⟩⟩
    have H1a := Aside0.mk H1
    have H2a := Aside0.mk H2
    clear H1 H2 H3 HB W
    refine (F w W3 (w.heap.size + 1 + 1) l0 _ R.out B.out (by omega) HQ.out).mono ?_
    rintro e w4 ⟨⟨v, rfl, hS, hR⟩, hs⟩
    have S := Aside0.mk hs
    have HS := Aside0.mk hS
    have HR := Aside0.mk hR
    have H1b := Aside0.mk (hs.blk H1a.out (by omega))
    have H2b := Aside0.mk (hs.blk H2a.out (by omega))
    obtain ⟨Av, cv, rfl⟩ := Kd.S_slice hS
    clear hs hS hR
    have hz10 : w4.cell? ⟨w.heap.size, 0, none⟩ = some (.int .u32 0) := (blk_cell H1b.out 0).trans rfl
    have hz11 : w4.cell? ⟨w.heap.size, 1, none⟩ = some (.slice none 0 0) := (blk_cell H1b.out 1).trans rfl
    have hf10 := blk_frozen H1b.out 0
    have hf11 := blk_frozen H1b.out 1
    obtain ⟨A', c', hr1, hr2, hr3⟩ := HR.out
    have hzr : w4.cell? ⟨w.heap.size + 1 + 1, 0, none⟩ = some (.slice A' l'.length c') := (blk_cell hr1 0).trans rfl
    have HR3 := Aside0.mk hr3
    have HR1 := Aside0.mk hr1
    clear hr1 hr3
    go_wp2_with fail
    have S5 := Aside0.mk (Kd.S_set (Kd.S_set HS.out H1b.out (by decide) 0 (.int .u32 N)) (blk_put H1b.out 0 (.int .u32 N) rfl) (by decide) 1 (.slice Av xs.length cv))
    have K5 := Aside0.mk (blk_put (blk_put H1b.out 0 (.int .u32 N) rfl) 1 (.slice Av xs.length cv) rfl)
    have T5 := Aside0.mk (((Stay.refl (fun k => k = w.heap.size) w4).set (.inl rfl) 0 (.int .u32 N)).set (.inl rfl) 1 (.slice Av xs.length cv))
    have L5 := Aside0.mk (T5.out.blk H2b.out (by omega))
    have B4 := Aside0.mk (S.out.below B.out (by intro k hk; omega))
    have B5 := Aside0.mk (T5.out.below B4.out (by intro k hk; omega))
    have hW3 : Aside0 (w.heap.size ≤ W3.heap.size) := ⟨B.out.size⟩
    clear HS H1b H2b hz10 hz11 hf10 hf11 hzr T5 B4
    generalize (w4.setCell ⟨w.heap.size, 0, none⟩ (.int .u32 N)).setCell ⟨w.heap.size, 1, none⟩ (.slice Av xs.length cv) = w5 at S5 K5 L5 B5 ⊢
    by_cases h0 : l'.length = 0
    · have d0 : ((l'.length : Int) == 0) = true := beq_iff_eq.2 (by omega)
      rw [d0]
      have Fq : Aside0 (finish (.ok ((N, xs), l')) = .ok (N, xs)) := ⟨by unfold finish; simp [h0]⟩
      refine (must_calls true _).mono ?_
      rintro e w6 ⟨he, hb⟩
      rw [if_pos rfl] at he
      subst he
      have S6 := Aside0.mk (Kd.S_below S5.out hb)
      have K6 := Aside0.mk (blk_below K5.out hb)
      have L6 := Aside0.mk (blk_below L5.out hb)
      have B6 := Aside0.mk (below_step B5.out hb)
      clear S5 K5 L5 B5 hb d0
      have hz10 : w6.cell? ⟨w.heap.size, 0, none⟩ = some (.int .u32 N) := (blk_cell K6.out 0).trans rfl
      have hz11 : w6.cell? ⟨w.heap.size, 1, none⟩ = some (.slice Av xs.length cv) := (blk_cell K6.out 1).trans rfl
      have hz20 : w6.cell? ⟨w.heap.size + 1, 0, none⟩ = some (.int .i64 0) := (blk_cell L6.out 0).trans rfl
      have hf10 := blk_frozen K6.out 0
      have hf11 := blk_frozen K6.out 1
      have hf20 := blk_frozen L6.out 0
      go_wp2_with fail
      refine leaves_cons (f := 73) (args := #[.pointer (some ⟨w.heap.size, 0, none⟩), .pointer (some ⟨w.heap.size + 1, 0, none⟩)]) (by simp) (by simp [go_sem]) ?_
      refine (idle_epoch _ _ _).mono ?_
      rintro e u' w7 ⟨rfl, rfl, rfl⟩
      have K8 := blk_put (blk_put K6.out 0 (.int .u32 N) rfl) 1 (.slice Av xs.length cv) rfl
      have T8 := ((Stay.refl (fun k => k = w.heap.size) w6).set (.inl rfl) 0 (.int .u32 N)).set (.inl rfl) 1 (.slice Av xs.length cv)
      have L8 := T8.blk L6.out (by omega)
      have S8 := Kd.S_set (Kd.S_set (Kd.S_set S6.out K6.out (by decide) 0 (.int .u32 N)) (blk_put K6.out 0 (.int .u32 N) rfl) (by decide) 1 (.slice Av xs.length cv)) L8 (by decide) 0 (.int .i64 0)
      have K9 := ((Stay.refl (fun k => k = w.heap.size + 1) _).set (.inl rfl) 0 (.int .i64 0)).blk K8 (by omega)
      have L9 := blk_put L8 0 (.int .i64 0) rfl
      have B9 := Aside0.mk ((T8.mono (fun k hk => .inl hk) : Stay (fun k => k = w.heap.size ∨ k = w.heap.size + 1) w6 _).set (.inl (.inr rfl)) 0 (.int .i64 0) |>.below B6.out (by intro k hk; omega))
      generalize ((w6.setCell ⟨w.heap.size, 0, none⟩ (.int .u32 N)).setCell ⟨w.heap.size, 1, none⟩ (.slice Av xs.length cv)).setCell ⟨w.heap.size + 1, 0, none⟩ (.int .i64 0) = w9 at K9 L9 B9 S8 ⊢
      have hz0 : w9.cell? ⟨w.heap.size, 0, none⟩ = some (.int .u32 N) := (blk_cell K9 0).trans rfl
      have hz1 : w9.cell? ⟨w.heap.size, 1, none⟩ = some (.slice Av xs.length cv) := (blk_cell K9 1).trans rfl
      have hz2 : w9.cell? ⟨w.heap.size + 1, 0, none⟩ = some (.int .i64 0) := (blk_cell L9 0).trans rfl
      simp [Leaves, settle, results, Try.results52, go_sem, hz0, hz1, hz2, Fq.out]
      exact ⟨_, ⟨⟨rfl, rfl⟩, rfl⟩, Kd.S_lower S8 hW3.out, B9.out⟩
    · have d0 : ((l'.length : Int) == 0) = false := beq_eq_false_iff_ne.2 (by omega)
      have Fq : Aside0 (finish (.ok ((N, xs), l')) = .error 3) := ⟨by unfold finish; simp [h0]⟩
      rw [d0]
      refine (must_calls false _).mono ?_
      rintro e w6 ⟨he, hb⟩
      rw [if_neg (by decide)] at he
      subst he
      refine leaves_cons (f := 73) (args := #[.pointer (some ⟨w.heap.size, 0, none⟩), .pointer (some ⟨w.heap.size + 1, 0, none⟩)]) (by simp) (by simp [go_sem]) ?_
      refine (catch_epoch w.heap.size (w.heap.size + 1) (by omega) N _ 0 3 w6 (blk_below K5.out hb) (blk_below L5.out hb)).mono ?_
      rintro e u' w7 ⟨rfl, rfl, hs, h1, h2⟩
      have hz0 : w7.cell? ⟨w.heap.size, 0, none⟩ = some (.int .u32 0) := (blk_cell h1 0).trans rfl
      have hz1 : w7.cell? ⟨w.heap.size, 1, none⟩ = some (.slice none 0 0) := (blk_cell h1 1).trans rfl
      have hz2 : w7.cell? ⟨w.heap.size + 1, 0, none⟩ = some (.int .i64 3) := (blk_cell h2 0).trans rfl
      have BF : Aside0 (Below w.heap.size w w7) := ⟨hs.below (below_step B5.out hb) (by intro k hk; omega)⟩
      simp [Leaves, settle, results, Try.results52, go_sem, hz0, hz1, hz2, Fq.out]
      exact ⟨_, ⟨⟨rfl, rfl⟩, rfl⟩, Kd.S_nil _ _ _ _ _, BF.out⟩
end Go.Proofs.Ytgmdoapedhppmaa.PC

namespace Go.Proofs.Ytgmdoapedhppmaa.PC
set_option linter.unusedVariables false
set_option linter.unusedSimpArgs false
open Go.RowKit Go.Proofs.YtgmdoapedhppmaaW.PrintWords Go.Proofs.YtgmdoapedhppmaaW.PrintLast Go.Proofs.YtgmdoapedhppmaaW.PrintMore
/-- What is asked of the rows' reader. -/
def RowsCalls (f : List Int → Option (Except Int (List S57 × List Int))) : Prop :=
  ∀ (w0 w : World) (g : Nat) (l : List Int) (q : Except Int (List S57 × List Int)), Rd w0 w g l → Below w0.heap.size w0 w → w0.heap.size ≤ g → f l = some q →
    Calls Try.prog 55 #[.pointer (some ⟨g, 0, none⟩)] w fun e w' => (match q with
      | .ok p => ∃ v, e = .returned v ∧ Kd.S k57 57 w' w.heap.size (fun _ => True) v p.1 ∧ Rd w0 w' g p.2
      | .error c => e = .panicked [{ v := .iface 113 (.int .i64 c), recovered := false }]) ∧ Stay (fun k => k = g) w w'
def rowsL (r : Except Int (List S57)) : List S57 := match r with | .ok p => p | .error _ => []
set_option maxRecDepth 100000 in
set_option maxHeartbeats 2000000 in
theorem whole_rows (f : List Int → Option (Except Int ((List S57) × List Int))) (F : RowsCalls f) (A0 : Option Addr) (c0 : Nat) (l0 : List Int) (q : Except Int ((List S57) × List Int)) (w : World) (hr0 : Kd.C (Kd.int .u8) w A0 l0.length l0) (hc0 : l0.length ≤ c0) (hq : f l0 = some q) :
    Calls Try.prog 54 #[.slice A0 l0.length c0, .func (.func 55) #[] #[]] w fun e w' => ∃ v, e = .returned (.tuple #[v, .int .i64 (epE (finish q))]) ∧ Kd.S k57 57 w' w.heap.size (fun _ => True) v (rowsL (finish q)) ∧ Below w.heap.size w w' := by
  have hmf : ∀ (fn : Fn) (first cap : Array Value) (w : World), (Instr.makeFunc fn first cap).run Try.prog w = .ok (.func fn first cap) w := fun _ _ _ _ => rfl
  have HC := Aside0.mk hr0
  have HQ := Aside0.mk hq
  clear hr0 hq
  cases q with
  | error c =>
    go_enter_defers Try.func54, Try.ntmps54
    go_wp2_with fail
    obtain ⟨W3, W, H1, H2, H3, HB⟩ := three_allocs w (.cells #[.slice none 0 0] 26 (0, 0)) (.cells #[.int .i64 0] 33 (0, 0)) (.cells #[.slice A0 l0.length c0] 116 (0, 0))
    rw [← W]
    have B := Aside0.mk HB
    have R : Aside0 (Rd w W3 (w.heap.size + 1 + 1) l0) := ⟨⟨A0, c0, H3, hc0, HC.out⟩⟩
    have H1a := Aside0.mk H1
    have H2a := Aside0.mk H2
    clear H1 H2 H3 HB W
    refine (F w W3 (w.heap.size + 1 + 1) l0 _ R.out B.out (by omega) HQ.out).mono ?_
    rintro e w4 ⟨rfl, hs⟩
    have S := Aside0.mk hs
    have H1b := Aside0.mk (hs.blk H1a.out (by omega))
    have H2b := Aside0.mk (hs.blk H2a.out (by omega))
    clear hs
    refine leaves_cons (f := 78) (args := #[.pointer (some ⟨w.heap.size, 0, none⟩), .pointer (some ⟨w.heap.size + 1, 0, none⟩)]) (by simp) (by simp [go_sem]) ?_
    refine (catch_rows w.heap.size (w.heap.size + 1) (by omega) (.slice none 0 0) 0 c w4 H1b.out H2b.out).mono ?_
    rintro e u' w5 ⟨rfl, rfl, hs, h1, h2⟩
    have hz0 : w5.cell? ⟨w.heap.size, 0, none⟩ = some (.slice none 0 0) := (blk_cell h1 0).trans rfl
    have hz2 : w5.cell? ⟨w.heap.size + 1, 0, none⟩ = some (.int .i64 c) := (blk_cell h2 0).trans rfl
    have BF : Aside0 (Below w.heap.size w w5) := ⟨hs.below (S.out.below B.out (by intro k hk; omega)) (by intro k hk; omega)⟩
    simp [Leaves, settle, results, Try.results54, go_sem, hz0, hz2]
    exact ⟨.slice none 0 0, ⟨rfl, rfl⟩, Kd.S_nil _ _ _ _ _, BF.out⟩
  | ok p =>
    obtain ⟨xs, l'⟩ := p
    go_enter_defers Try.func54, Try.ntmps54
    go_wp2_with fail
    obtain ⟨W3, W, H1, H2, H3, HB⟩ := three_allocs w (.cells #[.slice none 0 0] 26 (0, 0)) (.cells #[.int .i64 0] 33 (0, 0)) (.cells #[.slice A0 l0.length c0] 116 (0, 0))
    rw [← W]
    have B := Aside0.mk HB
    have R : Aside0 (Rd w W3 (w.heap.size + 1 + 1) l0) := ⟨⟨A0, c0, H3, hc0, HC.out⟩⟩
    have H1a := Aside0.mk H1
    have H2a := Aside0.mk H2
    clear H1 H2 H3 HB W
    refine (F w W3 (w.heap.size + 1 + 1) l0 _ R.out B.out (by omega) HQ.out).mono ?_
    rintro e w4 ⟨⟨v, rfl, hS, hR⟩, hs⟩
    have S := Aside0.mk hs
    have HS := Aside0.mk hS
    have HR := Aside0.mk hR
    have H1b := Aside0.mk (hs.blk H1a.out (by omega))
    have H2b := Aside0.mk (hs.blk H2a.out (by omega))
    obtain ⟨Av, cv, rfl⟩ := Kd.S_slice hS
    clear hs hS hR
    have hz10 : w4.cell? ⟨w.heap.size, 0, none⟩ = some (.slice none 0 0) := (blk_cell H1b.out 0).trans rfl
    have hf10 := blk_frozen H1b.out 0
    obtain ⟨A', c', hr1, hr2, hr3⟩ := HR.out
    have hzr : w4.cell? ⟨w.heap.size + 1 + 1, 0, none⟩ = some (.slice A' l'.length c') := (blk_cell hr1 0).trans rfl
    have HR3 := Aside0.mk hr3
    have HR1 := Aside0.mk hr1
    clear hr1 hr3
    go_wp2_with fail
    have S5 := Aside0.mk (Kd.S_set HS.out H1b.out (by decide) 0 (.slice Av xs.length cv))
    have K5 := Aside0.mk (blk_put H1b.out 0 (.slice Av xs.length cv) rfl)
    have T5 := Aside0.mk ((Stay.refl (fun k => k = w.heap.size) w4).set (.inl rfl) 0 (.slice Av xs.length cv))
    have L5 := Aside0.mk (T5.out.blk H2b.out (by omega))
    have B4 := Aside0.mk (S.out.below B.out (by intro k hk; omega))
    have B5 := Aside0.mk (T5.out.below B4.out (by intro k hk; omega))
    have hW3 : Aside0 (w.heap.size ≤ W3.heap.size) := ⟨B.out.size⟩
    clear HS H1b H2b hz10 hf10 hzr T5 B4
    generalize w4.setCell ⟨w.heap.size, 0, none⟩ (.slice Av xs.length cv) = w5 at S5 K5 L5 B5 ⊢
    by_cases h0 : l'.length = 0
    · have d0 : ((l'.length : Int) == 0) = true := beq_iff_eq.2 (by omega)
      rw [d0]
      have Fq : Aside0 (finish (.ok (xs, l')) = .ok xs) := ⟨by unfold finish; simp [h0]⟩
      refine (must_calls true _).mono ?_
      rintro e w6 ⟨he, hb⟩
      rw [if_pos rfl] at he
      subst he
      have S6 := Aside0.mk (Kd.S_below S5.out hb)
      have K6 := Aside0.mk (blk_below K5.out hb)
      have L6 := Aside0.mk (blk_below L5.out hb)
      have B6 := Aside0.mk (below_step B5.out hb)
      clear S5 K5 L5 B5 hb d0
      have hz10 : w6.cell? ⟨w.heap.size, 0, none⟩ = some (.slice Av xs.length cv) := (blk_cell K6.out 0).trans rfl
      have hz20 : w6.cell? ⟨w.heap.size + 1, 0, none⟩ = some (.int .i64 0) := (blk_cell L6.out 0).trans rfl
      have hf10 := blk_frozen K6.out 0
      have hf20 := blk_frozen L6.out 0
      go_wp2_with fail
      refine leaves_cons (f := 78) (args := #[.pointer (some ⟨w.heap.size, 0, none⟩), .pointer (some ⟨w.heap.size + 1, 0, none⟩)]) (by simp) (by simp [go_sem]) ?_
      refine (idle_rows _ _ _).mono ?_
      rintro e u' w7 ⟨rfl, rfl, rfl⟩
      have K8 := blk_put K6.out 0 (.slice Av xs.length cv) rfl
      have T8 := (Stay.refl (fun k => k = w.heap.size) w6).set (.inl rfl) 0 (.slice Av xs.length cv)
      have L8 := T8.blk L6.out (by omega)
      have S8 := Kd.S_set (Kd.S_set S6.out K6.out (by decide) 0 (.slice Av xs.length cv)) L8 (by decide) 0 (.int .i64 0)
      have K9 := ((Stay.refl (fun k => k = w.heap.size + 1) _).set (.inl rfl) 0 (.int .i64 0)).blk K8 (by omega)
      have L9 := blk_put L8 0 (.int .i64 0) rfl
      have B9 := Aside0.mk ((T8.mono (fun k hk => .inl hk) : Stay (fun k => k = w.heap.size ∨ k = w.heap.size + 1) w6 _).set (.inl (.inr rfl)) 0 (.int .i64 0) |>.below B6.out (by intro k hk; omega))
      generalize (w6.setCell ⟨w.heap.size, 0, none⟩ (.slice Av xs.length cv)).setCell ⟨w.heap.size + 1, 0, none⟩ (.int .i64 0) = w9 at K9 L9 B9 S8 ⊢
      have hz0 : w9.cell? ⟨w.heap.size, 0, none⟩ = some (.slice Av xs.length cv) := (blk_cell K9 0).trans rfl
      have hz2 : w9.cell? ⟨w.heap.size + 1, 0, none⟩ = some (.int .i64 0) := (blk_cell L9 0).trans rfl
      simp [Leaves, settle, results, Try.results54, go_sem, hz0, hz2, Fq.out]
      exact ⟨_, ⟨rfl, rfl⟩, Kd.S_lower S8 hW3.out, B9.out⟩
    · have d0 : ((l'.length : Int) == 0) = false := beq_eq_false_iff_ne.2 (by omega)
      have Fq : Aside0 (finish (.ok (xs, l')) = .error 3) := ⟨by unfold finish; simp [h0]⟩
      rw [d0]
      refine (must_calls false _).mono ?_
      rintro e w6 ⟨he, hb⟩
      rw [if_neg (by decide)] at he
      subst he
      refine leaves_cons (f := 78) (args := #[.pointer (some ⟨w.heap.size, 0, none⟩), .pointer (some ⟨w.heap.size + 1, 0, none⟩)]) (by simp) (by simp [go_sem]) ?_
      refine (catch_rows w.heap.size (w.heap.size + 1) (by omega) _ 0 3 w6 (blk_below K5.out hb) (blk_below L5.out hb)).mono ?_
      rintro e u' w7 ⟨rfl, rfl, hs, h1, h2⟩
      have hz0 : w7.cell? ⟨w.heap.size, 0, none⟩ = some (.slice none 0 0) := (blk_cell h1 0).trans rfl
      have hz2 : w7.cell? ⟨w.heap.size + 1, 0, none⟩ = some (.int .i64 3) := (blk_cell h2 0).trans rfl
      have BF : Aside0 (Below w.heap.size w w7) := ⟨hs.below (below_step B5.out hb) (by intro k hk; omega)⟩
      simp [Leaves, settle, results, Try.results54, go_sem, hz0, hz2, Fq.out]
      exact ⟨_, ⟨rfl, rfl⟩, Kd.S_nil _ _ _ _ _, BF.out⟩
end Go.Proofs.Ytgmdoapedhppmaa.PC

namespace Go.Proofs.Ytgmdoapedhppmaa.PC
set_option linter.unusedVariables false
set_option linter.unusedSimpArgs false
open Go.RowKit Go.Proofs.YtgmdoapedhppmaaW.PrintWords Go.Proofs.YtgmdoapedhppmaaW.PrintLast Go.Proofs.YtgmdoapedhppmaaW.PrintMore
theorem Stay.step {S T : Nat → Prop} {a b c : World} (h : Stay S a b) (k : Stay T b c) (hT : ∀ i, T i → S i ∨ a.heap.size ≤ i) : Stay S a c :=
  ⟨k.os.trans h.os, k.tape.trans h.tape, k.output.trans h.output, Nat.le_trans h.size k.size, fun i hi hs => (k.block i (Nat.lt_of_lt_of_le hi h.size) (fun ht => (hT i ht).elim hs (fun h => by omega))).trans (h.block i hi hs)⟩
theorem Stay.of_grown {a b : World} {row : Option Nat} (h : a.grownBy b row) : Stay (fun k => some k = row) a b := ⟨h.os, h.tape, h.output, h.size, fun k hk hn => h.block k hk hn⟩
section
variable {α : Type} {d : Kd α} {e : Nat} {w w1 : World} {base : Nat} {ok : Nat → Prop} {v : Value} {xs : List α}
theorem S_stay {S : Nat → Prop} (h : Kd.S d e w base ok v xs) (hs : Stay S w w1) (hok : ∀ k, ok k → ¬ S k) : Kd.S d e w1 base ok v xs := Kd.S_step h (fun k ho hk => hs.block k hk (hok k ho))
/-- The reader is turned: rows of the call's own stay. -/
theorem S_stayT {g : Nat} {l : List Int} {w0 : World} (ht : ∀ q, q ∈ e :: d.E → q ≠ 116) (h : Kd.S d e w base ok v xs) (hR : Rd w0 w g l) (hs : Stay (fun k => k = g) w w1) : Kd.S d e w1 base ok v xs := by
  obtain ⟨A, c, hb, _⟩ := hR
  exact Kd.S_mono (S_stay (Kd.S_types h hb ht) hs (fun k hk e => hk.2 e)) (fun _ hk => hk.1)
/-- .. and the key ahead. -/
theorem S_stay2T {g h : Nat} {l : List Int} {w0 : World} {x : S28} (ht : ∀ q, q ∈ e :: d.E → q ≠ 116) (ht' : ∀ q, q ∈ e :: d.E → q ≠ 28) (hS : Kd.S d e w base ok v xs) (hR : Rd w0 w g l) (hL : w.heap[h]? = some (keyCells x)) (hs : Stay (fun k => k = g ∨ k = h) w w1) : Kd.S d e w1 base ok v xs := by
  obtain ⟨A, c, hb, _⟩ := hR
  exact Kd.S_mono (S_stay (Kd.S_types (Kd.S_types hS hb ht) hL ht') hs (fun k hk e => e.elim hk.1.2 hk.2)) (fun _ hk => hk.1.1)
end
theorem S_stay1 {w0 w w1 : World} {base g : Nat} {l : List Int} {v : Value} {xs : List S57} (h : Kd.S k57 57 w base (fun _ => True) v xs) (hR : Rd w0 w g l) (hs : Stay (fun k => k = g) w w1) : Kd.S k57 57 w1 base (fun _ => True) v xs := S_stayT (by decide) h hR hs
/-- Some rows more. -/
def takeRowsL (k : Nat) : Nat → S28 → List S57 → List Int → Option (Except Int (List S57 × List Int))
  | 0, _, acc, l => some (.ok (acc, l))
  | n + 1, last, acc, l => (takeKey k last l).bind fun q => match q with
    | .error c => some (.error c)
    | .ok (key, l1) => (takeN k 0 256 l1).bind fun q => match q with
      | .error c => some (.error c)
      | .ok (m, l2) => match takeB m l2 with
        | .error c => some (.error c)
        | .ok (v, l3) => if acc.length < 3518437208883 then takeRowsL k n key (acc ++ [⟨key, v⟩]) l3 else none
/-- Rows, as many as stands ahead of them. -/
def takeRows (k : Nat) (l : List Int) : Option (Except Int (List S57 × List Int)) :=
  (takeN k 0 4611686018427387904 l).bind fun q => match q with
    | .error c => some (.error c)
    | .ok (n, l1) => takeRowsL k n.toNat ⟨0, ⟨#[]⟩⟩ [] l1
def rows6_T : Bool × List (List Nat × List Nat) := (true, [([], []), ([], []), ([], []), ([], []), ([3], [3]), ([2, 4, 4], [2, 4]), ([1, 5], [1, 5]), ([6], [6]), ([0, 7, 5], [0, 7]), ([8, 8, 0, 1, 2, 3, 4, 5, 6, 7, 8], [0, 8])])
def rows6_B : List Nat := [0, 0, 0, 0, 8, 28, 62, 126, 255, 511]
theorem rows6_tab : rtab .any (opsOf Try.f55 6) = rows6_T := by kernel_rfl
theorem rows6_bits : waitsOk rows6_T.2 rows6_B = true := by kernel_rfl
set_option maxRecDepth 100000 in
set_option maxHeartbeats 4000000 in
theorem rows_calls (k : Nat) : RowsCalls (takeRows k) := by
  intro w0 w g l q hR hB hg hq
  have HR := Aside0.mk hR
  have HB0 := Aside0.mk hB
  have GL : Aside0 (g < w.heap.size) := ⟨by obtain ⟨_, _, hb, _⟩ := hR; exact blk_lt hb⟩
  obtain ⟨q1, hq1, hq2⟩ := Option.bind_eq_some_iff.1 (show (takeN k 0 4611686018427387904 l).bind _ = some q from hq)
  have hgb : ∀ i, i = g → w0.heap.size ≤ i := fun i hi => by rw [hi]; exact hg
  have N1 := Aside0.mk hq1
  have N2 := Aside0.mk hq2
  clear hR hB hq hq1 hq2
  go_enter Try.func55, Try.ntmps55
  go_wp2_with (((with_reducible refine gate_dst (N := 3) rfl ?_); refine box_event ?hg (N := 3) ?hd (cs := #[.int .u8 0, .string (⟨#[]⟩ : ByteArray)]) (t := 28) ?hr ?_; (case hd => rfl); (case hg => rfl); (case hr => first | (go_simp; done) | (go_simp; rfl)); intro h hh w1 hbox hb; have BL1 := Aside0.mk hbox; have HH := Aside0.mk hh; have HB1 := Aside0.mk hb; clear hb hbox hh))
  have hw1 : Aside0 (Below w0.heap.size w0 w1) := ⟨below_step HB0.out HB1.out⟩
  have hne1 : ¬ h = g := by rw [HH.out]; have := GL.out; omega
  cases q1 with
  | error c =>
    obtain rfl : .error c = q := Option.some.inj N2.out
    refine (number_calls k 0 4611686018427387904 _ w0 w1 g l (HR.out.stay (Stay.of_below (fun _ => False) HB1.out) id) hw1.out hg N1.out).mono ?_
    rintro e w2 ⟨ho, hs⟩
    obtain rfl := ho
    exact ⟨rfl, rfl, (Stay.of_below _ HB1.out).trans hs⟩
  | ok p1 =>
    obtain ⟨n0, l1⟩ := p1
    have hn := takeN_ok N1.out (by decide) (by decide)
    refine (number_calls k 0 4611686018427387904 _ w0 w1 g l (HR.out.stay (Stay.of_below (fun _ => False) HB1.out) id) hw1.out hg N1.out).mono ?_
    rintro e w2 ⟨⟨rfl, hr2⟩, hs⟩
    have R2 := Aside0.mk hr2
    have BL2 := Aside0.mk (hs.blk BL1.out hne1)
    have ST2 := Aside0.mk ((Stay.of_below (fun k => k = g) HB1.out).trans hs)
    have N3 : Aside0 (takeRowsL k n0.toNat ⟨0, ⟨#[]⟩⟩ [] l1 = some q) := ⟨N2.out⟩
    clear hs hr2 N1 N2 BL1 HB1 hw1 HR
    go_wp2_with fail
    go_loopg [2, 4] n0.toNat (fun kq v2 v4 w' => ∃ (acc : List S57) (last : S28) (l' : List Int) (x4 : Int), v4 = .int .i64 x4 ∧ Aside0 (x4 = (kq : Int)) ∧ 0 ≤ x4 ∧ x4 ≤ 4611686018427387904 ∧ Aside0 (takeRowsL k kq last acc l' = some q) ∧ Aside0 (Rd w0 w' g l') ∧ Aside0 (w'.heap[h]? = some (keyCells last)) ∧ Aside0 (Kd.S k57 57 w' w.heap.size (fun _ => True) v2 acc) ∧ Aside0 (Stay (fun k => k = g) w w'))
    case atStart => exact ⟨[], ⟨0, ⟨#[]⟩⟩, l1, n0, rfl, ⟨by omega⟩, by omega, by omega, N3, R2, BL2, ⟨Kd.S_nil _ _ _ _ _⟩, ST2⟩
    case round =>
      clear N3 R2 BL2 ST2 hn
      obtain ⟨acc, last, l', x4, rfl, HX, hx0, hx1, HT, R2, BL2, S2, ST2⟩ := hrel
      by_cases hp : 0 < x4
      · have dp : decide (0 < x4) = true := decide_eq_true hp
        cases gk with
        | zero => exact absurd HX.out (by omega)
        | succ gk1 =>
          have H := HT.out
          clear HT
          simp only [takeRowsL] at H
          obtain ⟨qk, hqk, H⟩ := Option.bind_eq_some_iff.1 H
          have QK := Aside0.mk hqk
          have Q3 := Aside0.mk H
          clear hqk H
          go_wp2_with fail
          cases qk with
          | error c =>
            obtain rfl : .error c = q := Option.some.inj Q3.out
            refine (key_calls k last _ w0 _ g h l' R2.out (ST2.out.below HB0.out hgb) hg (by rw [HH.out]; exact HB0.out.size) hne1 BL2.out QK.out).mono ?_
            rintro e w3 ⟨ho, hs, _⟩
            obtain rfl := ho
            exact ⟨rfl, rfl, ST2.out.step hs (fun i hi => hi.elim Or.inl (fun e => Or.inr (by rw [e, HH.out]; exact Nat.le_refl _)))⟩
          | ok pk =>
            obtain ⟨key, l1⟩ := pk
            refine (key_calls k last _ w0 _ g h l' R2.out (ST2.out.below HB0.out hgb) hg (by rw [HH.out]; exact HB0.out.size) hne1 BL2.out QK.out).mono ?_
            rintro e w3 ⟨⟨rfl, hr3⟩, hs, hl3⟩
            have R3 := Aside0.mk hr3
            have BL3 := Aside0.mk (hl3 _ rfl)
            have S3 := Aside0.mk (S_stay2T (by decide) (by decide) S2.out R2.out BL2.out hs)
            have ST3 : Aside0 (Stay (fun k => k = g) w w3) := ⟨ST2.out.step hs (fun i hi => hi.elim Or.inl (fun e => Or.inr (by rw [e, HH.out]; exact Nat.le_refl _)))⟩
            clear R2 BL2 S2 ST2 hr3 hs hl3 QK
            go_wp2_with (((with_reducible refine gate_dst (N := 5) rfl ?_); refine box_event ?hg (N := 5) ?hd (cs := #[.int .u8 0, .string (⟨#[]⟩ : ByteArray)]) (t := 28) ?hr ?_; (case hd => rfl); (case hg => rfl); (case hr => first | (go_simp; done) | (go_simp; rfl)); intro gk hgk w4 hbox hb; have BK4 := Aside0.mk hbox; have HK := Aside0.mk hgk; have HB4 := Aside0.mk hb; have hz0 := (blk_cell hbox 0).trans rfl; have hz1 := (blk_cell hbox 1).trans rfl; have hf0 := blk_frozen hbox 0; have hf1 := blk_frozen hbox 1; clear hb hbox hgk))
            have hne3 : ¬ gk = g := by rw [HK.out]; have := GL.out; have := ST3.out.size; omega
            have hne4 : ¬ gk = h := by rw [HK.out]; have := blk_lt BL3.out; omega
            have T4 : Aside0 (Stay (fun k => k = gk) w4 ((w4.setCell ⟨gk, 0, none⟩ (.int .u8 key.f0)).setCell ⟨gk, 1, none⟩ (.string key.f1))) := ⟨((Stay.refl (fun k => k = gk) w4).set (.inl rfl) 0 _).set (.inl rfl) 1 _⟩
            have BK5 : Aside0 (((w4.setCell ⟨gk, 0, none⟩ (.int .u8 key.f0)).setCell ⟨gk, 1, none⟩ (.string key.f1)).heap[gk]? = some (keyCells key)) := ⟨blk_put (cs := #[.int .u8 key.f0, .string (⟨#[]⟩ : ByteArray)]) (blk_put (cs := #[.int .u8 0, .string (⟨#[]⟩ : ByteArray)]) BK4.out 0 _ rfl) 1 _ rfl⟩
            have R5 := Aside0.mk ((R3.out.stay (Stay.of_below (fun _ => False) HB4.out) id).stay T4.out (fun e => hne3 e.symm))
            have BL5 := Aside0.mk (T4.out.blk (blk_below BL3.out HB4.out) (fun e => hne4 e.symm))
            have S5 := Aside0.mk (Kd.S_set (Kd.S_set (Kd.S_below S3.out HB4.out) BK4.out (by decide) 0 (.int .u8 key.f0)) (blk_put (cs := #[.int .u8 0, .string (⟨#[]⟩ : ByteArray)]) BK4.out 0 (.int .u8 key.f0) rfl) (by decide) 1 (.string key.f1))
            have ST5 := Aside0.mk ((ST3.out.trans (Stay.of_below _ HB4.out)).step T4.out (fun i hi => Or.inr (by rw [hi, HK.out]; exact ST3.out.size)))
            clear R3 BL3 S3 ST3 BK4 HB4 T4 hz0 hz1 hf0 hf1
            generalize (w4.setCell ⟨gk, 0, none⟩ (.int .u8 key.f0)).setCell ⟨gk, 1, none⟩ (.string key.f1) = w5 at R5 BL5 S5 ST5 BK5 ⊢
            obtain ⟨qn, hqn, H⟩ := Option.bind_eq_some_iff.1 Q3.out
            have QN := Aside0.mk hqn
            have Q4 := Aside0.mk H
            clear hqn H Q3
            refine start_ (n := 10) (S := fun W => W.heap[gk]? = some (keyCells key)) (ds := []) #[false, false, false, false, false, false, false, false, false, false] (by kernel_rfl) rfl rfl (blk_drew BK5.out) (fun hHeld => ?_)
            refine with_tabW rows6_tab rows6_bits (fun HT_ HW_ => ?_)
            have R6 := Aside0.mk (R5.out.stay (Stay.of_below (fun _ => False) (below_drew (Below.refl w5.heap.size w5))) id)
            have BL6 := Aside0.mk (blk_drew BL5.out)
            have S6 := Aside0.mk (Kd.S_drew S5.out)
            have ST6 := Aside0.mk (ST5.out.trans (Stay.of_below _ (below_drew (Below.refl w5.heap.size w5))))
            clear R5 BL5 S5 ST5 BK5
            generalize w5.drew = w6 at R6 BL6 S6 ST6 hHeld ⊢
            refine pure_ (i := 0) (N := some 14) (v := ?_) (a' := ?_) #[true, false, false, false, false, false, false, false, false, false] rfl rfl (any_of HT_.out (by kernel_rfl)) (fun _ _ _ h => h) (Or.inl ⟨by rfl, ?_⟩) ?_ ?_
            rotate_left
            · intro w'
              go_simp
              all_goals with_reducible rfl
            rotate_left
            · simp only [Act.put, List.setIfInBounds_toArray, List.set_cons_zero, List.set_cons_succ, i64_w, i32_w]
              rfl
            refine pure_ (i := 2) (N := some 16) (v := ?_) (a' := ?_) #[true, false, true, false, false, false, false, false, false, false] rfl rfl (any_of HT_.out (by kernel_rfl)) (fun _ _ _ h => h) (Or.inl ⟨by rfl, ?_⟩) ?_ ?_
            rotate_left
            · intro w'
              go_simp
              all_goals with_reducible rfl
            rotate_left
            · simp only [Act.put, List.setIfInBounds_toArray, List.set_cons_zero, List.set_cons_succ, i64_w, i32_w]
              rfl
            refine pure_ (i := 3) (N := some 17) (v := ?_) (a' := ?_) #[true, false, true, true, false, false, false, false, false, false] rfl rfl (any_of HT_.out (by kernel_rfl)) (fun _ _ _ h => h) (Or.inl ⟨by rfl, ?_⟩) ?_ ?_
            rotate_left
            · intro w'
              go_simp
              all_goals with_reducible rfl
            rotate_left
            · simp only [Act.put, List.setIfInBounds_toArray, List.set_cons_zero, List.set_cons_succ, i64_w, i32_w]
              rfl
            refine take_ (i := 1) (N := some 15) (v := ?_) (a' := ?_) #[true, true, true, true, false, false, false, false, false, false] rfl rfl (take_ofW HT_.out HW_.out (by kernel_rfl)) (fun _ _ _ h => h) (Or.inl ⟨by rfl, ?_⟩) hHeld ?_ ?_
            rotate_left
            · rintro w' s0
              have z0 := (blk_cell s0 0).trans rfl; have z1 := (blk_cell s0 1).trans rfl; go_simp
              with_reducible rfl
            rotate_left
            · simp only [Act.put, List.setIfInBounds_toArray, List.set_cons_zero, List.set_cons_succ, i64_w, i32_w]
              rfl
            refine one_ (i := 4) (N := some 18) #[true, true, true, true, true, false, false, false, false, false] rfl rfl (one_of HT_.out (by kernel_rfl)) (by decide) (fun K hK => ?_)
            cases qn with
            | error c =>
              obtain rfl : .error c = q := Option.some.inj Q4.out
              refine goesP_ Try.func75 (by kernel_rfl) rfl #[.pointer (some ⟨g, 0, none⟩), .int .u64 0, .int .u64 256] (by rfl) rfl rfl (by (try simp only [List.map_toArray, List.map_cons, List.map_nil]); first | done | rfl) ?_
              refine (number_calls k 0 256 _ w0 w6 g l1 R6.out (ST6.out.below HB0.out hgb) hg QN.out).mono ?_
              rintro e w7 ⟨ho, hs⟩
              refine ⟨_, ho, ?_⟩
              exact ⟨rfl, rfl, ST6.out.trans hs⟩
            | ok pn =>
              obtain ⟨n, l2⟩ := pn
              have hn := takeN_ok QN.out (by decide) (by decide)
              have HN : Aside0 (0 ≤ n) := ⟨hn.1⟩
              clear hn
              have Q5 : Aside0 ((match takeB n l2 with | .error c => some (.error c) | .ok (vl, l3) => if acc.length < 3518437208883 then takeRowsL k gk1 key (acc ++ [⟨key, vl⟩]) l3 else none) = some q) := ⟨Q4.out⟩
              clear Q4
              refine goes_ Try.func75 (by kernel_rfl) rfl #[.pointer (some ⟨g, 0, none⟩), .int .u64 0, .int .u64 256] (by rfl) rfl rfl (by (try simp only [List.map_toArray, List.map_cons, List.map_nil]); first | done | rfl) ?_
              refine (number_calls k 0 256 _ w0 w6 g l1 R6.out (ST6.out.below HB0.out hgb) hg QN.out).mono ?_
              rintro e w7 ⟨⟨rfl, hr7⟩, hs⟩
              refine ⟨_, rfl, ?_⟩
              have BK7 := Aside0.mk (hs.blk hHeld hne3)
              have BL7 := Aside0.mk (hs.blk BL6.out hne1)
              have S7 := Aside0.mk (S_stay1 S6.out R6.out hs)
              have ST7 := Aside0.mk (ST6.out.trans hs)
              have R7 := Aside0.mk hr7
              clear R6 BL6 S6 ST6 hHeld hs hr7 QN
              refine hK.out _ _ (BK7.out) (fun hHeld => ?_)
              clear hK K
              refine norm_ (a' := ?_) ?_ ?_
              rotate_left
              · show Act.put _ (some 18) _ = _
                simp only [Act.put, List.setIfInBounds_toArray, List.set_cons_zero, List.set_cons_succ, i64_w, i32_w]
                rfl
              clear BK7
              refine one_ (i := 5) (N := some 19) #[true, true, true, true, true, true, false, false, false, false] rfl rfl (one_of HT_.out (by kernel_rfl)) (by decide) (fun K hK => ?_)
              cases qb : takeB n l2 with
              | error c =>
                obtain rfl : .error c = q := by have := Q5.out; rw [qb] at this; exact Option.some.inj this
                refine goesP_ Try.func77 (by kernel_rfl) rfl #[.pointer (some ⟨g, 0, none⟩), .int .i64 n] (by rfl) rfl rfl (by (try simp only [List.map_toArray, List.map_cons, List.map_nil]); first | done | rfl) ?_
                refine (bytes_calls n HN.out w0 w7 g l2 R7.out (ST7.out.below HB0.out hgb) hg).mono ?_
                rintro e w8 ⟨ho, hs⟩
                rw [qb] at ho
                refine ⟨_, ho, ?_⟩
                exact ⟨rfl, rfl, ST7.out.trans hs⟩
              | ok pb =>
                obtain ⟨vl, l3⟩ := pb
                have Q6 : Aside0 ((if acc.length < 3518437208883 then takeRowsL k gk1 key (acc ++ [⟨key, vl⟩]) l3 else none) = some q) := ⟨by have := Q5.out; rw [qb] at this; exact this⟩
                clear Q5
                refine goes_ Try.func77 (by kernel_rfl) rfl #[.pointer (some ⟨g, 0, none⟩), .int .i64 n] (by rfl) rfl rfl (by (try simp only [List.map_toArray, List.map_cons, List.map_nil]); first | done | rfl) ?_
                refine (bytes_calls n HN.out w0 w7 g l2 R7.out (ST7.out.below HB0.out hgb) hg).mono ?_
                rintro e w8 ⟨ho, hs⟩
                rw [qb] at ho
                obtain ⟨rfl, hr8⟩ := ho
                refine ⟨_, rfl, ?_⟩
                have BK8 := Aside0.mk (hs.blk hHeld hne3)
                have BL8 := Aside0.mk (hs.blk BL7.out hne1)
                have S8 := Aside0.mk (S_stay1 S7.out R7.out hs)
                have ST8 := Aside0.mk (ST7.out.trans hs)
                have R8 := Aside0.mk hr8
                clear R7 BL7 S7 ST7 hHeld hs hr8 qb
                refine hK.out _ _ (BK8.out) (fun hHeld => ?_)
                clear hK K
                refine norm_ (a' := ?_) ?_ ?_
                rotate_left
                · show Act.put _ (some 19) _ = _
                  simp only [Act.put, List.setIfInBounds_toArray, List.set_cons_zero, List.set_cons_succ, i64_w, i32_w]
                  rfl
                clear BK8
                have hHeld8 := Aside0.mk hHeld
                refine pure_ (i := 6) (N := some 20) (v := ?_) (a' := ?_) #[true, true, true, true, true, true, true, false, false, false] rfl rfl (any_of HT_.out (by kernel_rfl)) (fun _ _ _ h => h) (Or.inl ⟨by rfl, ?_⟩) ?_ ?_
                rotate_left
                · intro w'
                  go_simp
                  all_goals with_reducible rfl
                rotate_left
                · simp only [Act.put, List.setIfInBounds_toArray, List.set_cons_zero, List.set_cons_succ, i64_w, i32_w]
                  rfl
                refine one_ (i := 7) (N := some 21) #[true, true, true, true, true, true, true, true, false, false] rfl rfl (one_of HT_.out (by kernel_rfl)) (by decide) (fun K hK => ?_)
                refine value_ (w1 := ?_) (v := ?_) (by rfl) rfl ?_ ?_
                rotate_left 2
                · go_simp
                  constructor
                  · rfl
                  · rfl
                refine hK.out _ _ (blk_alloc hHeld _) (fun hHeld => ?_)
                clear hK K
                refine norm_ (a' := ?_) ?_ ?_
                rotate_left
                · show Act.put _ (some 21) _ = _
                  simp only [Act.put, List.setIfInBounds_toArray, List.set_cons_zero, List.set_cons_succ, i64_w, i32_w]
                  rfl
                by_cases hlen : acc.length < 3518437208883
                · have Q7 : Aside0 (takeRowsL k gk1 key (acc ++ [⟨key, vl⟩]) l3 = some q) := ⟨by have := Q6.out; rwa [if_pos hlen] at this⟩
                  have HLN := Aside0.mk hlen
                  clear Q6 hlen
                  refine one_ (i := 8) (N := some 22) #[true, true, true, true, true, true, true, true, true, false] rfl rfl (one_of HT_.out (by kernel_rfl)) (by decide) (fun K hK => ?_)
                  refine Kd.S_append_step k57 (w0 := w8) w.heap.size (by rfl) (.tmp 14) (.tmp 21) 26 57 (.agg #[(.int .u8 0), (.string ⟨#[]⟩), (.string ⟨#[]⟩)]) 40 rfl Try.underlying26 info57 rfl (by decide) (by omega) u2 acc (⟨key, vl⟩ : S57) [.int .u8 key.f0, .string key.f1, .string vl] (fun _ => True) (fun _ => False) rfl rfl ?aP (fun _ hk => hk.elim) ?aF ?aO ?aB ?aS ?aL ?_
                  (case aP => exact k57_mkM _ _ _ _)
                  (case aF => exact (fun _ _ => trivial))
                  (case aO => exact Kd.S_mono S8.out (fun _ _ => ⟨trivial, fun h => h⟩))
                  (case aB => exact Below.refl _ _)
                  (case aS => exact ST8.out.size)
                  (case aL => have := HLN.out; omega)
                  intro v9 w9 ho hb hgw hat
                  have S9 := Aside0.mk ho
                  have ST9 : Aside0 (Stay (fun k => k = g) w w9) := ⟨ST8.out.step (Stay.of_grown hgw) (fun i hi => Or.inr (Kd.S_base S8.out i hi.symm))⟩
                  have hng : some g ≠ u2.ownBlock := by obtain ⟨A, c, hb, _⟩ := R8.out; exact Kd.S_ne S8.out hb (by decide)
                  have hnh : some h ≠ u2.ownBlock := Kd.S_ne S8.out BL8.out (by decide)
                  have hnk : some gk ≠ u2.ownBlock := Kd.S_ne S8.out hHeld8.out (by decide)
                  have BK9 := Aside0.mk ((Stay.of_grown hgw).blk hHeld8.out hnk)
                  have R9 := Aside0.mk (R8.out.stay (Stay.of_grown hgw) hng)
                  have BL9 := Aside0.mk ((Stay.of_grown hgw).blk BL8.out hnh)
                  clear S8 ST8 R8 BL8 ho hb hgw hat hng hnh
                  obtain ⟨acc2, hacc2⟩ : ∃ a, a = acc ++ [(⟨key, vl⟩ : S57)] := ⟨_, rfl⟩
                  rw [← hacc2] at S9 Q7
                  clear hacc2
                  obtain ⟨A9, c9, rfl⟩ := Kd.S_slice S9.out
                  refine hK.out _ _ (BK9.out) (fun hHeld => ?_)
                  clear hK K
                  refine norm_ (a' := ?_) ?_ ?_
                  rotate_left
                  · show Act.put _ (some 22) _ = _
                    simp only [Act.put, List.setIfInBounds_toArray, List.set_cons_zero, List.set_cons_succ, i64_w, i32_w]
                    rfl
                  refine pure_ (i := 9) (N := some 2) (v := ?_) (a' := ?_) #[true, true, true, true, true, true, true, true, true, true] rfl rfl (any_of HT_.out (by kernel_rfl)) (fun _ _ _ h => h) (Or.inl ⟨by rfl, ?_⟩) ?_ ?_
                  rotate_left
                  · intro w'
                    go_simp
                    all_goals with_reducible rfl
                  rotate_left
                  · simp only [Act.put, List.setIfInBounds_toArray, List.set_cons_zero, List.set_cons_succ, i64_w, i32_w]
                    rfl
                  refine done_ (done_of HT_.out (by kernel_rfl)) ?_
                  go_wp2_with fail
                  go_roundg gk1
                  case measure => omega
                  case rel => exact ⟨acc2, key, l3, x4 - 1, rfl, ⟨by have := HX.out; omega⟩, by omega, by omega, Q7, R9, BL9, S9, ST9⟩
                · have H9 := Q6.out; rw [if_neg hlen] at H9; cases H9
      · have dp : decide (0 < x4) = false := decide_eq_false hp
        have hk0 : gk = 0 := by have := HX.out; omega
        subst hk0
        have H := HT.out
        simp only [takeRowsL] at H
        obtain rfl := Option.some.inj H
        go_wp2_with fail
        go_ret
        exact ⟨⟨_, rfl, S2.out, R2.out⟩, ST2.out⟩
end Go.Proofs.Ytgmdoapedhppmaa.PC

/- Plain facts on bits of numbers: xor, or, and; Zig, Zag and Pack as arithmetic. No condition but the ranges of the kinds. -/
namespace Go.Proofs.Ytgmdoapedhppmaa.B
set_option linter.unusedVariables false
set_option linter.unusedSimpArgs false
open Go.RowKit

theorem two64 : (2 : Int) ^ 64 = 18446744073709551616 := by decide
theorem wraps_u64 (n : Int) (h₀ : 0 ≤ n) (h₁ : n < 2 ^ 64) : IntKind.u64.wrap n = n := by rw [two64] at h₁; rw [IntKind.wrap_u64]; omega

theorem xor_ones (x : Int) (h0 : 0 ≤ x) (h1 : x < 18446744073709551616) : Go.bits .xor .u64 x 18446744073709551615 = 18446744073709551615 - x := by
  obtain ⟨a, rfl⟩ := Int.eq_ofNat_of_zero_le h0
  have ha : a < 2 ^ 64 := by omega
  have e : (BitVec.ofInt 64 (a : Int) ^^^ BitVec.ofInt 64 18446744073709551615) = ~~~ (BitVec.ofInt 64 (a : Int)) := by
    have : BitVec.ofInt 64 18446744073709551615 = BitVec.allOnes 64 := by decide
    rw [this, BitVec.xor_allOnes]
  have b : Go.bits .xor .u64 (a : Int) 18446744073709551615 = IntKind.u64.wrap ((BitVec.ofInt 64 (a : Int) ^^^ BitVec.ofInt 64 18446744073709551615).toNat : Int) := rfl
  rw [b, e]
  simp only [BitVec.toNat_not, BitVec.ofInt_natCast, BitVec.toNat_ofNat, Nat.mod_eq_of_lt ha]
  rw [IntKind.wrap_u64]; omega
theorem xor_zero (x : Int) (h0 : 0 ≤ x) (h1 : x < 18446744073709551616) : Go.bits .xor .u64 x 0 = x := by
  obtain ⟨a, rfl⟩ := Int.eq_ofNat_of_zero_le h0
  have ha : a < 2 ^ 64 := by omega
  have e : (BitVec.ofInt 64 (a : Int) ^^^ BitVec.ofInt 64 0) = (BitVec.ofInt 64 (a : Int)) := by
    have : BitVec.ofInt 64 0 = 0#64 := by decide
    rw [this, BitVec.xor_zero]
  have b : Go.bits .xor .u64 (a : Int) 0 = IntKind.u64.wrap ((BitVec.ofInt 64 (a : Int) ^^^ BitVec.ofInt 64 0).toNat : Int) := rfl
  rw [b, e]
  simp only [BitVec.ofInt_natCast, BitVec.toNat_ofNat, Nat.mod_eq_of_lt ha]
  rw [IntKind.wrap_u64]; omega
theorem xor_zero_i (x : Int) (h0 : 0 ≤ x) (h1 : x < 9223372036854775808) : Go.bits .xor .i64 x 0 = x := by
  obtain ⟨a, rfl⟩ := Int.eq_ofNat_of_zero_le h0
  have ha : a < 2 ^ 64 := by omega
  have e : (BitVec.ofInt 64 (a : Int) ^^^ BitVec.ofInt 64 0) = (BitVec.ofInt 64 (a : Int)) := by
    have : BitVec.ofInt 64 0 = 0#64 := by decide
    rw [this, BitVec.xor_zero]
  have b : Go.bits .xor .i64 (a : Int) 0 = IntKind.i64.wrap ((BitVec.ofInt 64 (a : Int) ^^^ BitVec.ofInt 64 0).toNat : Int) := rfl
  rw [b, e]
  simp only [BitVec.ofInt_natCast, BitVec.toNat_ofNat, Nat.mod_eq_of_lt ha]
  rw [IntKind.wrap_i64]; omega
theorem xor_ones_i (x : Int) (h0 : 0 ≤ x) (h1 : x < 9223372036854775808) : Go.bits .xor .i64 x (-1) = -x - 1 := by
  obtain ⟨a, rfl⟩ := Int.eq_ofNat_of_zero_le h0
  have ha : a < 2 ^ 64 := by omega
  have e : (BitVec.ofInt 64 (a : Int) ^^^ BitVec.ofInt 64 (-1)) = ~~~ (BitVec.ofInt 64 (a : Int)) := by
    have : BitVec.ofInt 64 (-1) = BitVec.allOnes 64 := by decide
    rw [this, BitVec.xor_allOnes]
  have b : Go.bits .xor .i64 (a : Int) (-1) = IntKind.i64.wrap ((BitVec.ofInt 64 (a : Int) ^^^ BitVec.ofInt 64 (-1)).toNat : Int) := rfl
  rw [b, e]
  simp only [BitVec.toNat_not, BitVec.ofInt_natCast, BitVec.toNat_ofNat, Nat.mod_eq_of_lt ha]
  rw [IntKind.wrap_i64]; omega
theorem and_one (x : Int) (h0 : 0 ≤ x) (h1 : x < 18446744073709551616) : Go.bits .and .u64 x 1 = x % 2 := by
  have := bits_mask .u64 64 (by decide) wraps_u64 1 (by decide) x h0 (by rw [two64]; exact h1)
  simpa using this
theorem and_24 (x : Int) (h0 : 0 ≤ x) (h1 : x < 4294967296) : Go.bits .and .u32 x 16777215 = x % 16777216 := by
  have := bits_mask .u32 32 (by decide) (fun n a b => by have : (2:Int)^32 = 4294967296 := by decide
                                                         rw [this] at b; rw [IntKind.wrap_u32]; omega) 24 (by decide) x h0 (by have : (2:Int)^32 = 4294967296 := by decide
                                                                                                                               rw [this]; exact h1)
  simpa using this
theorem or_join (i : Nat) (x y : Int) (hx₀ : 0 ≤ x) (hx : x % 2 ^ i = 0) (hx₁ : x < 18446744073709551616) (hy₀ : 0 ≤ y) (hy : y < 2 ^ i) (hy₁ : y < 18446744073709551616) :
    Go.bits .or .u64 x y = x + y :=
  bits_join .u64 64 (by decide) wraps_u64 i x y hx₀ hx (by rw [two64]; exact hx₁) hy₀ hy (by rw [two64]; exact hy₁)
theorem or_comm (k : IntKind) (x y : Int) : Go.bits .or k x y = Go.bits .or k y x := by
  simp only [Go.bits, BitVec.or_comm]

/-- Zig and Zag, as numbers. -/
def zig (n : Int) : Int := if n < 0 then -2 * n - 1 else 2 * n
def zag (n : Int) : Int := if n % 2 = 0 then n / 2 else -(n / 2) - 1
theorem zig_is (n : Int) (h0 : -9223372036854775808 ≤ n) (h1 : n ≤ 9223372036854775807) :
    Go.bits .xor .u64 (IntKind.u64.wrap ((IntKind.u64.wrap (n)) * 2)) (IntKind.u64.wrap (n / 9223372036854775808)) = zig n := by
  unfold zig
  by_cases h : n < 0
  · rw [if_pos h, show n / 9223372036854775808 = -1 by omega, show IntKind.u64.wrap (-1) = 18446744073709551615 by rw [IntKind.wrap_u64]; decide,
      IntKind.wrap_u64, IntKind.wrap_u64, xor_ones _ (by omega) (by omega)]
    omega
  · rw [if_neg h, show n / 9223372036854775808 = 0 by omega, show IntKind.u64.wrap 0 = 0 by rw [IntKind.wrap_u64]; decide,
      IntKind.wrap_u64, IntKind.wrap_u64, xor_zero _ (by omega) (by omega)]
    omega
theorem wrap64_id (n : Int) (h0 : -9223372036854775808 ≤ n) (h1 : n ≤ 9223372036854775807) : wrap64 n = n := by unfold wrap64; omega
theorem zag_is (n : Int) (h0 : 0 ≤ n) (h1 : n < 18446744073709551616) :
    Go.bits .xor .i64 (wrap64 (n / 2)) (wrap64 (-(wrap64 (Go.bits .and .u64 n 1)))) = zag n := by
  unfold zag
  rw [and_one n h0 h1, wrap64_id (n / 2) (by omega) (by omega), wrap64_id (n % 2) (by omega) (by omega), wrap64_id (-(n % 2)) (by omega) (by omega)]
  by_cases h : n % 2 = 0
  · rw [if_pos h, h]; exact xor_zero_i _ (by omega) (by omega)
  · rw [if_neg h, show n % 2 = 1 by omega]; exact xor_ones_i _ (by omega) (by omega)
theorem zig_lo (n : Int) : 0 ≤ zig n := by unfold zig; split <;> omega
theorem zig_hi (n : Int) (h0 : -9223372036854775808 ≤ n) (h1 : n ≤ 9223372036854775807) : zig n < 18446744073709551616 := by unfold zig; split <;> omega
theorem zag_zig (n : Int) : zag (zig n) = n := by unfold zag zig; split <;> split <;> omega
theorem zig_zag (n : Int) (h0 : 0 ≤ n) : zig (zag n) = n := by unfold zag zig; split <;> split <;> omega
/-- Pack, as a number. -/
theorem pack_is (a b c : Int) (ha0 : 0 ≤ a) (ha1 : a < 4294967296) (hb0 : 0 ≤ b) (hb1 : b < 256) (hc0 : 0 ≤ c) (hc1 : c < 16777216) :
    Go.bits .or .u64 (Go.bits .or .u64 (IntKind.u64.wrap ((IntKind.u64.wrap (a)) * 4294967296)) (IntKind.u64.wrap ((IntKind.u64.wrap (c)) * 256))) (IntKind.u64.wrap (b)) = a * 4294967296 + c * 256 + b := by
  rw [IntKind.wrap_u64 a, show a % 18446744073709551616 = a by omega, IntKind.wrap_u64 (a * _), show (a * 4294967296) % 18446744073709551616 = a * 4294967296 by omega,
    IntKind.wrap_u64 c, show c % 18446744073709551616 = c by omega, IntKind.wrap_u64 (c * _), show (c * 256) % 18446744073709551616 = c * 256 by omega,
    IntKind.wrap_u64 b, show b % 18446744073709551616 = b by omega]
  have e32 : (2 : Int) ^ 32 = 4294967296 := by decide
  have e8 : (2 : Int) ^ 8 = 256 := by decide
  rw [or_join 32 (a * 4294967296) (c * 256) (by omega) (by rw [e32]; omega) (by omega) (by omega) (by rw [e32]; omega) (by omega),
    or_join 8 _ b (by omega) (by rw [e8]; omega) (by omega) hb0 (by rw [e8]; omega) (by omega)]
theorem u32_at (a : Int) (h : (Lit.int .u32 a).wf = true) : 0 ≤ a ∧ a < 4294967296 := by
  simp [Lit.wf, IntKind.min, IntKind.max, IntKind.signed, IntKind.bits] at h; omega
theorem u8_at (a : Int) (h : (Lit.int .u8 a).wf = true) : 0 ≤ a ∧ a < 256 := by
  simp [Lit.wf, IntKind.min, IntKind.max, IntKind.signed, IntKind.bits] at h; omega
theorem u64_at (a : Int) (h : (Lit.int .u64 a).wf = true) : 0 ≤ a ∧ a < 18446744073709551616 := by
  simp [Lit.wf, IntKind.min, IntKind.max, IntKind.signed, IntKind.bits] at h; omega
theorem i64_at (a : Int) (h : (Lit.int .i64 a).wf = true) : -9223372036854775808 ≤ a ∧ a ≤ 9223372036854775807 := by
  simp [Lit.wf, IntKind.min, IntKind.max, IntKind.signed, IntKind.bits] at h; omega
theorem i32_at (a : Int) (h : (Lit.int .i32 a).wf = true) : -2147483648 ≤ a ∧ a ≤ 2147483647 := by
  simp [Lit.wf, IntKind.min, IntKind.max, IntKind.signed, IntKind.bits] at h; omega
end Go.Proofs.Ytgmdoapedhppmaa.B

namespace Go.Proofs.Ytgmdoapedhppmaa.PC
set_option linter.unusedVariables false
set_option linter.unusedSimpArgs false
open Go.RowKit Go.Proofs.YtgmdoapedhppmaaW.PrintWords Go.Proofs.YtgmdoapedhppmaaW.PrintLast Go.Proofs.YtgmdoapedhppmaaW.PrintMore
attribute [local go_sem] max2_int min2_int max_two min_two max_three min_three max_four min_four
def takeChangesL (k : Nat) : Nat → S28 → List S50 → List Int → Option (Except Int (List S50 × List Int))
  | 0, _, acc, l => some (.ok (acc, l))
  | n + 1, last, acc, l => (takeKey k last l).bind fun q => match q with
    | .error c => some (.error c)
    | .ok (key, l1) => (takeN k 0 257 l1).bind fun q => match q with
      | .error c => some (.error c)
      | .ok (m, l2) => match takeB (mx (m - 1) 0) l2 with
        | .error c => some (.error c)
        | .ok (v, l3) => takeChangesL k n key (acc ++ [⟨key, m == 0, v⟩]) l3
def takeTxnsL (k : Nat) (N : Int) : Nat → Int → List S47 → List Int → Option (Except Int (List S47 × List Int))
  | 0, _, acc, l => some (.ok (acc, l))
  | n + 1, last, acc, l => (takeN k 0 4294967295 l).bind fun q => match q with
    | .error c => some (.error c)
    | .ok (tid, l1) => if last < tid then (takeN k 1 32 l1).bind fun q => match q with
        | .error c => some (.error c)
        | .ok (m, l2) => (takeChangesL k m.toNat ⟨0, ⟨#[]⟩⟩ [] l2).bind fun q => match q with
          | .error c => some (.error c)
          | .ok (cs, l3) => takeTxnsL k N n tid (acc ++ [⟨N * 4294967296 + tid, cs⟩]) l3
      else some (.error 3)
def takeEpoch (k : Nat) (l : List Int) : Option (Except Int ((Int × List S47) × List Int)) :=
  (takeN k 1 4294967295 l).bind fun q => match q with
    | .error c => some (.error c)
    | .ok (N, l1) => (takeN k 0 64 l1).bind fun q => match q with
      | .error c => some (.error c)
      | .ok (n, l2) => (takeTxnsL k N n.toNat (-1) [] l2).bind fun q => match q with
        | .error c => some (.error c)
        | .ok (xs, l3) => some (.ok ((N, xs), l3))
set_option maxRecDepth 100000 in
set_option maxHeartbeats 4000000 in
theorem epoch_calls (k : Nat) : EpochCalls (takeEpoch k) := by
  intro w0 w g l q hR hB hg hq
  have HR := Aside0.mk hR
  have HB0 := Aside0.mk hB
  have GL : Aside0 (g < w.heap.size) := ⟨by obtain ⟨_, _, hb, _⟩ := hR; exact blk_lt hb⟩
  obtain ⟨q1, hq1, hq2⟩ := Option.bind_eq_some_iff.1 (show (takeN k 1 4294967295 l).bind _ = some q from hq)
  have hgb : ∀ i, i = g → w0.heap.size ≤ i := fun i hi => by rw [hi]; exact hg
  have N1 := Aside0.mk hq1
  have N2 := Aside0.mk hq2
  clear hR hB hq hq1 hq2
  go_enter Try.func53, Try.ntmps53
  go_wp2_with (((with_reducible refine gate_dst (N := 2) rfl ?_); refine box_event ?hg (N := 2) ?hd (cs := #[.int .u32 0, .slice none 0 0]) (t := 25) ?hr ?_; (case hd => rfl); (case hg => rfl); (case hr => first | (go_simp; done) | (go_simp; rfl)); intro ge hge w1 hbox hb; have BE1 := Aside0.mk hbox; have HE := Aside0.mk hge; have HB1 := Aside0.mk hb; clear hb hbox hge))
  have hw1 : Aside0 (Below w0.heap.size w0 w1) := ⟨below_step HB0.out HB1.out⟩
  have hne1 : ¬ ge = g := by rw [HE.out]; have := GL.out; omega
  cases q1 with
  | error c =>
    obtain rfl : .error c = q := Option.some.inj N2.out
    refine (number_calls k 1 4294967295 _ w0 w1 g l (HR.out.stay (Stay.of_below (fun _ => False) HB1.out) id) hw1.out hg N1.out).mono ?_
    rintro e w2 ⟨ho, hs⟩
    obtain rfl := ho
    exact ⟨rfl, rfl, (Stay.of_below _ HB1.out).trans hs⟩
  | ok p1 =>
    obtain ⟨N, l1⟩ := p1
    have hn := takeN_ok N1.out (by decide) (by decide)
    refine (number_calls k 1 4294967295 _ w0 w1 g l (HR.out.stay (Stay.of_below (fun _ => False) HB1.out) id) hw1.out hg N1.out).mono ?_
    rintro e w2 ⟨⟨rfl, hr2⟩, hs⟩
    have R2 := Aside0.mk hr2
    have BE2 := Aside0.mk (hs.blk BE1.out hne1)
    have ST2 := Aside0.mk ((Stay.of_below (fun k => k = g) HB1.out).trans hs)
    obtain ⟨q2, hq1, hq2⟩ := Option.bind_eq_some_iff.1 (show (takeN k 0 64 l1).bind _ = some q from N2.out)
    clear hs hr2 N1 N2 BE1 HB1 hw1 HR
    have N1 := Aside0.mk hq1
    have N2 := Aside0.mk hq2
    clear hq1 hq2
    have hz0 : w2.cell? ⟨ge, 0, none⟩ = some (.int .u32 0) := (blk_cell BE2.out 0).trans rfl
    have hf0 := blk_frozen BE2.out 0
    obtain ⟨hn0, hn1⟩ := hn
    go_wp2_with fail
    have T3 : Aside0 (Stay (fun k => k = ge) w2 (w2.setCell ⟨ge, 0, none⟩ (.int .u32 N))) := ⟨(Stay.refl (fun k => k = ge) w2).set (.inl rfl) 0 _⟩
    have BE3 := Aside0.mk (blk_put (cs := #[.int .u32 0, .slice none 0 0]) BE2.out 0 (.int .u32 N) rfl)
    have R3 := Aside0.mk (R2.out.stay T3.out (fun e => hne1 e.symm))
    have ST3 : Aside0 (Stay (fun k => k = g) w (w2.setCell ⟨ge, 0, none⟩ (.int .u32 N))) := ⟨ST2.out.step T3.out (fun i hi => Or.inr (by rw [hi, HE.out]; exact Nat.le_refl _))⟩
    clear BE2 R2 ST2 T3 hz0 hf0
    generalize w2.setCell ⟨ge, 0, none⟩ (.int .u32 N) = w3 at BE3 R3 ST3 ⊢
    cases q2 with
    | error c =>
      obtain rfl : .error c = q := Option.some.inj N2.out
      refine (number_calls k 0 64 _ w0 w3 g l1 R3.out (ST3.out.below HB0.out hgb) hg N1.out).mono ?_
      rintro e w2 ⟨ho, hs⟩
      obtain rfl := ho
      exact ⟨rfl, rfl, ST3.out.trans hs⟩
    | ok p2 =>
    obtain ⟨n2, l2⟩ := p2
    have hm := takeN_ok N1.out (by decide) (by decide)
    obtain ⟨hm0, hm1⟩ := hm
    refine (number_calls k 0 64 _ w0 w3 g l1 R3.out (ST3.out.below HB0.out hgb) hg N1.out).mono ?_
    rintro e w4 ⟨⟨rfl, hr4⟩, hs⟩
    have R4 := Aside0.mk hr4
    have BE4 := Aside0.mk (hs.blk BE3.out hne1)
    have ST4 := Aside0.mk (ST3.out.trans hs)
    obtain ⟨q3, hq1, hq2⟩ := Option.bind_eq_some_iff.1 (show (takeTxnsL k N n2.toNat (-1) [] l2).bind _ = some q from N2.out)
    have TX := Aside0.mk hq1
    have FQ := Aside0.mk hq2
    clear hs hr4 BE3 R3 ST3 N1 N2 hq1 hq2
    go_wp2_with fail
    go_loopg [3, 15] n2.toNat (fun kq v3 v15 w' => ∃ (acc : List S47) (last : Int) (l' : List Int) (x15 : Int) (v : Value), v3 = .int .i64 last ∧ v15 = .int .i64 x15 ∧ Aside0 (n2 - x15 = (kq : Int)) ∧ 0 ≤ x15 ∧ x15 ≤ n2 ∧ -1 ≤ last ∧ last ≤ 4294967295 ∧ Aside0 (acc.length + kq ≤ 64) ∧ Aside0 (takeTxnsL k N kq last acc l' = some q3) ∧ Aside0 (Rd w0 w' g l') ∧ Aside0 (w'.heap[ge]? = some (.cells #[.int .u32 N, v] 25 (0, 0))) ∧ Aside0 (Kd.S k47 47 w' w.heap.size (fun _ => True) v acc) ∧ Aside0 (Stay (fun k => k = g) w w'))
    case atStart => exact ⟨[], -1, l2, 0, .slice none 0 0, rfl, rfl, ⟨by omega⟩, by omega, by omega, by omega, by omega, ⟨by simp; omega⟩, TX, R4, BE4, ⟨Kd.S_nil _ _ _ _ _⟩, ST4⟩
    case round =>
      clear TX R4 BE4 ST4
      obtain ⟨acc, last, l', x15, v, rfl, rfl, HX, hx0, hx1, hl0, hl1, HA, TX, R2, BE2, S2, ST2⟩ := hrel
      by_cases hp : x15 < n2
      · have dp : decide (x15 < n2) = true := decide_eq_true hp
        cases gk with
        | zero => exact absurd HX.out (by omega)
        | succ gk1 =>
          have H := TX.out
          clear TX
          simp only [takeTxnsL] at H
          obtain ⟨qk, hqk, H⟩ := Option.bind_eq_some_iff.1 H
          have QK := Aside0.mk hqk
          have Q3 := Aside0.mk H
          clear hqk H
          go_wp2_with fail
          cases qk with
          | error c =>
            obtain rfl : .error c = q3 := Option.some.inj Q3.out
            obtain rfl : .error c = q := Option.some.inj FQ.out
            refine (number_calls k 0 4294967295 _ w0 _ g l' R2.out (ST2.out.below HB0.out hgb) hg QK.out).mono ?_
            rintro e w3 ⟨ho, hs⟩
            obtain rfl := ho
            exact ⟨rfl, rfl, ST2.out.trans hs⟩
          | ok pk =>
          obtain ⟨tid, l1⟩ := pk
          obtain ⟨ht0, ht1⟩ := takeN_ok QK.out (by decide) (by decide)
          refine (number_calls k 0 4294967295 _ w0 _ g l' R2.out (ST2.out.below HB0.out hgb) hg QK.out).mono ?_
          rintro e w3 ⟨⟨rfl, hr3⟩, hs⟩
          have R3 := Aside0.mk hr3
          have BE3 := Aside0.mk (hs.blk BE2.out hne1)
          have S3 := Aside0.mk (S_stayT (by decide) S2.out R2.out hs)
          have ST3 := Aside0.mk (ST2.out.trans hs)
          clear R2 BE2 S2 ST2 hr3 hs QK
          go_wp2_with fail
          by_cases hlt : last < tid
          case neg =>
            have dl : decide (last < tid) = false := decide_eq_false hlt
            have H := Q3.out
            simp only [if_neg hlt] at H
            obtain rfl : .error 3 = q3 := Option.some.inj H
            obtain rfl : .error 3 = q := Option.some.inj FQ.out
            rw [dl]
            refine (must_calls false _).mono ?_
            rintro e w4 ⟨he, hb⟩
            rw [if_neg (by decide)] at he
            subst he
            exact ⟨rfl, rfl, ST3.out.trans (Stay.of_below _ hb)⟩
          have dl : decide (last < tid) = true := decide_eq_true hlt
          have H := Q3.out
          simp only [if_pos hlt] at H
          obtain ⟨qm, hqm, H⟩ := Option.bind_eq_some_iff.1 H
          have QM := Aside0.mk hqm
          have Q4 := Aside0.mk H
          clear hqm H Q3
          rw [dl]
          refine (must_calls true _).mono ?_
          rintro e w4 ⟨he, hb⟩
          rw [if_pos rfl] at he
          subst he
          have R4 := Aside0.mk (R3.out.stay (Stay.of_below (fun _ => False) hb) id)
          have BE4 := Aside0.mk (blk_below BE3.out hb)
          have S4 := Aside0.mk (Kd.S_below S3.out hb)
          have ST4 := Aside0.mk (ST3.out.trans (Stay.of_below _ hb))
          clear R3 BE3 S3 ST3 hb dl hlt
          have hz0 : w4.cell? ⟨ge, 0, none⟩ = some (.int .u32 N) := (blk_cell BE4.out 0).trans rfl
          have hf0 := blk_frozen BE4.out 0
          have hor : Go.bits .or .u64 (N * 4294967296) tid = N * 4294967296 + tid := by
            have e32 : (2 : Int) ^ 32 = 4294967296 := by decide
            exact B.or_join 32 (N * 4294967296) tid (by omega) (by rw [e32]; omega) (by omega) (by omega) (by rw [e32]; omega) (by omega)
          go_wp2_with (first | ((with_reducible refine gate_dst (N := 5) rfl ?_); refine box_event ?hg (N := 5) ?hd (cs := #[.int .u64 0, .slice none 0 0]) (t := 47) ?hr ?_; (case hd => rfl); (case hg => rfl); (case hr => first | (go_simp; done) | (go_simp; rfl)); intro gt hgt w5 hbox hb; have BT5 := Aside0.mk hbox; have HGT := Aside0.mk hgt; have HB5 := Aside0.mk hb; have hz10 := (blk_cell hbox 0).trans rfl; have hz11 := (blk_cell hbox 1).trans rfl; have hf10 := blk_frozen hbox 0; have hf11 := blk_frozen hbox 1; clear hb hbox hgt) | ((with_reducible refine gate_dst (N := 6) rfl ?_); refine box_event ?hg (N := 6) ?hd (cs := #[.int .u8 0, .string (⟨#[]⟩ : ByteArray)]) (t := 28) ?hr ?_; (case hd => rfl); (case hg => rfl); (case hr => first | (go_simp; done) | (go_simp; rfl)); intro gh hgh w6 hbox hb; have BH6 := Aside0.mk hbox; have HGH := Aside0.mk hgh; have HB6 := Aside0.mk hb; clear hb hbox hgh))
          have T5 : Aside0 (Stay (fun k => k = gt) w5 ((w5.setCell ⟨gt, 0, none⟩ (.int .u64 (N * 4294967296 + tid))).setCell ⟨gt, 1, none⟩ (.slice none 0 0))) := ⟨((Stay.refl (fun k => k = gt) w5).set (.inl rfl) 0 _).set (.inl rfl) 1 _⟩
          obtain ⟨H0, hH0⟩ : ∃ n, n = w4.heap.size := ⟨_, rfl⟩
          have GT0 : Aside0 (gt = H0) := ⟨by rw [HGT.out, hH0]⟩
          have WH0 : Aside0 (w.heap.size ≤ H0) := ⟨by rw [hH0]; exact ST4.out.size⟩
          have GE0 : Aside0 (ge < H0) := ⟨by rw [hH0]; exact blk_lt BE4.out⟩
          have GG0 : Aside0 (g < H0) := ⟨by have := GL.out; have := WH0.out; omega⟩
          have S5 : Aside0 (Kd.S k47 47 w5 w.heap.size (fun k => k < H0) v acc) := ⟨Kd.S_mono (Kd.S_old S4.out HB5.out) (fun k hk => by rw [hH0]; exact hk.2)⟩
          have S5b : Aside0 (Kd.S k47 47 ((w5.setCell ⟨gt, 0, none⟩ (.int .u64 (N * 4294967296 + tid))).setCell ⟨gt, 1, none⟩ (.slice none 0 0)) w.heap.size (fun k => k < H0) v acc) := ⟨Kd.S_far (p := ⟨gt, 1, none⟩) (Kd.S_far (p := ⟨gt, 0, none⟩) S5.out (fun k hk e => by have := GT0.out; have e : k = gt := e; omega) _) (fun k hk e => by have := GT0.out; have e : k = gt := e; omega) _⟩
          have R5 := Aside0.mk ((R4.out.stay (Stay.of_below (fun _ => False) HB5.out) id).stay T5.out (fun e => by have := GG0.out; have := GT0.out; omega))
          have BE5 := Aside0.mk (T5.out.blk (blk_below BE4.out HB5.out) (by have := GE0.out; have := GT0.out; omega))
          have BT5b := Aside0.mk (blk_put (cs := #[.int .u64 (N * 4294967296 + tid), .slice none 0 0]) (blk_put (cs := #[.int .u64 0, .slice none 0 0]) BT5.out 0 (.int .u64 (N * 4294967296 + tid)) rfl) 1 (.slice none 0 0) rfl)
          have ST5 := Aside0.mk ((ST4.out.trans (Stay.of_below _ HB5.out)).step T5.out (fun i hi => Or.inr (by rw [hi, GT0.out]; exact WH0.out)))
          have SZ5 : Aside0 (H0 < w5.heap.size) := ⟨by have := blk_lt BT5.out; have := GT0.out; omega⟩
          have SZ5b : Aside0 (H0 < ((w5.setCell ⟨gt, 0, none⟩ (.int .u64 (N * 4294967296 + tid))).setCell ⟨gt, 1, none⟩ (.slice none 0 0)).heap.size) := ⟨Nat.lt_of_lt_of_le SZ5.out T5.out.size⟩
          clear hz0 hf0 hz10 hz11 hf10 hf11 S4 S5 R4 BE4 BT5 ST4 HB5 T5 hH0 HGT hor SZ5
          generalize (w5.setCell ⟨gt, 0, none⟩ (.int .u64 (N * 4294967296 + tid))).setCell ⟨gt, 1, none⟩ (.slice none 0 0) = w5b at S5b R5 BE5 BT5b ST5 SZ5b HB6 HGH ⊢
          have GH0 : Aside0 (H0 < gh) := ⟨by rw [HGH.out]; exact SZ5b.out⟩
          have S6 := Aside0.mk (Kd.S_below S5b.out HB6.out)
          have R6 := Aside0.mk (R5.out.stay (Stay.of_below (fun _ => False) HB6.out) id)
          have BE6 := Aside0.mk (blk_below BE5.out HB6.out)
          have BT6 := Aside0.mk (blk_below BT5b.out HB6.out)
          have ST6 := Aside0.mk (ST5.out.trans (Stay.of_below _ HB6.out))
          have hneh : ¬ gh = g := by have := GH0.out; have := GG0.out; omega
          clear S5b R5 BE5 BT5b ST5 SZ5b HB6 HGH
          cases qm with
          | error c =>
            obtain rfl : .error c = q3 := Option.some.inj Q4.out
            obtain rfl : .error c = q := Option.some.inj FQ.out
            refine (number_calls k 1 32 _ w0 _ g l1 R6.out (ST6.out.below HB0.out hgb) hg QM.out).mono ?_
            rintro e w3 ⟨ho, hs⟩
            obtain rfl := ho
            exact ⟨rfl, rfl, ST6.out.trans hs⟩
          | ok pm =>
          obtain ⟨m, l2⟩ := pm
          obtain ⟨hmm0, hmm1⟩ := takeN_ok QM.out (by decide) (by decide)
          refine (number_calls k 1 32 _ w0 _ g l1 R6.out (ST6.out.below HB0.out hgb) hg QM.out).mono ?_
          rintro e w7 ⟨⟨rfl, hr7⟩, hs⟩
          have R7 := Aside0.mk hr7
          have BE7 := Aside0.mk (hs.blk BE6.out hne1)
          have BT7 := Aside0.mk (hs.blk BT6.out (by have := GG0.out; have := GT0.out; omega))
          have BH7 := Aside0.mk (hs.blk BH6.out hneh)
          have S7 := Aside0.mk (S_stayT (by decide) S6.out R6.out hs)
          have ST7 := Aside0.mk (ST6.out.trans hs)
          clear R6 BE6 S6 ST6 BT6 BH6 hr7 hs QM
          obtain ⟨qc, hqc, H⟩ := Option.bind_eq_some_iff.1 (show (takeChangesL k m.toNat ⟨0, ⟨#[]⟩⟩ [] l2).bind _ = some q3 from Q4.out)
          have QC := Aside0.mk hqc
          have Q5 := Aside0.mk H
          clear hqc H Q4
          go_wp2_with fail
          obtain ⟨wo, hwo⟩ : ∃ wo : World, wo = wr := ⟨_, rfl⟩
          clear hwo
          go_loopg [34] m.toNat (fun kq v34 w' => ∃ (cs : List S50) (last2 : S28) (l' : List Int) (x34 : Int) (vc : Value), v34 = .int .i64 x34 ∧ Aside0 (m - x34 = (kq : Int)) ∧ 0 ≤ x34 ∧ x34 ≤ m ∧ Aside0 (cs.length + kq ≤ 32) ∧ Aside0 (takeChangesL k kq last2 cs l' = some qc) ∧ Aside0 (Rd w0 w' g l') ∧ Aside0 (w'.heap[ge]? = some (.cells #[.int .u32 N, v] 25 (0, 0))) ∧ Aside0 (w'.heap[gt]? = some (.cells #[.int .u64 (N * 4294967296 + tid), vc] 47 (0, 0))) ∧ Aside0 (w'.heap[gh]? = some (keyCells last2)) ∧ Aside0 (Kd.S k50 50 w' H0 (fun _ => True) vc cs) ∧ Aside0 (Kd.S k47 47 w' w.heap.size (fun k => k < H0) v acc) ∧ Aside0 (Stay (fun k => k = g) w w'))
          case atStart => exact ⟨[], ⟨0, ⟨#[]⟩⟩, l2, 0, .slice none 0 0, rfl, ⟨by omega⟩, by omega, by omega, ⟨by simp; omega⟩, QC, R7, BE7, BT7, BH7, ⟨Kd.S_nil _ _ _ _ _⟩, S7, ST7⟩
          case round =>
            clear QC R7 BE7 BT7 BH7 S7 ST7
            obtain ⟨cs, last2, l', x34, vc, rfl, HX2, hx20, hx21, HA2, QC, R2, BE2, BT2, BH2, SC2, S2, ST2⟩ := hrel
            by_cases hp2 : x34 < m
            · have dp2 : decide (x34 < m) = true := decide_eq_true hp2
              cases gk with
              | zero => exact absurd HX2.out (by omega)
              | succ gk2 =>
                have H := QC.out
                clear QC
                simp only [takeChangesL] at H
                obtain ⟨qk, hqk, H⟩ := Option.bind_eq_some_iff.1 H
                have QK := Aside0.mk hqk
                have Q6 := Aside0.mk H
                clear hqk H
                go_wp2_with fail
                cases qk with
                | error c =>
                  obtain rfl : .error c = qc := Option.some.inj Q6.out
                  obtain rfl : .error c = q3 := Option.some.inj Q5.out
                  obtain rfl : .error c = q := Option.some.inj FQ.out
                  refine (key_calls k last2 _ w0 _ g gh l' R2.out (ST2.out.below HB0.out hgb) hg (by have := GH0.out; have := WH0.out; have := HB0.out.size; omega) hneh BH2.out QK.out).mono ?_
                  rintro e w3 ⟨ho, hs, _⟩
                  obtain rfl := ho
                  exact ⟨rfl, rfl, ST2.out.step hs (fun i hi => hi.elim Or.inl (fun e => Or.inr (by have := GH0.out; have := WH0.out; omega)))⟩
                | ok pk =>
                obtain ⟨key, l1⟩ := pk
                refine (key_calls k last2 _ w0 _ g gh l' R2.out (ST2.out.below HB0.out hgb) hg (by have := GH0.out; have := WH0.out; have := HB0.out.size; omega) hneh BH2.out QK.out).mono ?_
                rintro e w8 ⟨⟨rfl, hr8⟩, hs, hl8⟩
                have R8 := Aside0.mk hr8
                have BE8 := Aside0.mk (hs.blk BE2.out (fun e => e.elim hne1 (fun e => by have := GE0.out; have := GH0.out; omega)))
                have BT8 := Aside0.mk (hs.blk BT2.out (fun e => e.elim (fun e => by have := GG0.out; have := GT0.out; omega) (fun e => by have := GT0.out; have := GH0.out; omega)))
                have BH8 := Aside0.mk (hl8 _ rfl)
                have SC8 := Aside0.mk (S_stay2T (by decide) (by decide) SC2.out R2.out BH2.out hs)
                have S8 := Aside0.mk (S_stay2T (by decide) (by decide) S2.out R2.out BH2.out hs)
                have ST8 : Aside0 (Stay (fun k => k = g) w w8) := ⟨ST2.out.step hs (fun i hi => hi.elim Or.inl (fun e => Or.inr (by have := GH0.out; have := WH0.out; omega)))⟩
                have SZ8 : Aside0 (gh < w8.heap.size) := ⟨blk_lt BH8.out⟩
                clear R2 BE2 BT2 BH2 SC2 S2 ST2 hr8 hs hl8 QK
                go_wp2_with (((with_reducible refine gate_dst (N := 7) rfl ?_); refine box_event ?hg (N := 7) ?hd (cs := #[.int .u8 0, .string (⟨#[]⟩ : ByteArray), .bool false, .string (⟨#[]⟩ : ByteArray)]) (t := 50) ?hr ?_; (case hd => rfl); (case hg => rfl); (case hr => first | (go_simp; done) | (go_simp; rfl)); intro gc hgc w9 hbox hb; have BC9 := Aside0.mk hbox; have HGC := Aside0.mk hgc; have HB9 := Aside0.mk hb; have hz0 := (blk_cell hbox 0).trans rfl; have hz1 := (blk_cell hbox 1).trans rfl; have hz2 := (blk_cell hbox 2).trans rfl; have hz3 := (blk_cell hbox 3).trans rfl; have hf0 := blk_frozen hbox 0; have hf1 := blk_frozen hbox 1; have hf2 := blk_frozen hbox 2; have hf3 := blk_frozen hbox 3; clear hb hbox hgc))
                have T9 : Aside0 (Stay (fun k => k = gc) w9 ((((w9.setCell ⟨gc, 0, none⟩ (.int .u8 key.f0)).setCell ⟨gc, 1, none⟩ (.string key.f1)).setCell ⟨gc, 2, none⟩ (.bool false)).setCell ⟨gc, 3, none⟩ (.string (⟨#[]⟩ : ByteArray)))) := ⟨((((Stay.refl (fun k => k = gc) w9).set (.inl rfl) 0 _).set (.inl rfl) 1 _).set (.inl rfl) 2 _).set (.inl rfl) 3 _⟩
                have BC10 := Aside0.mk (blk_put (cs := #[.int .u8 key.f0, .string key.f1, .bool false, .string (⟨#[]⟩ : ByteArray)]) (blk_put (cs := #[.int .u8 key.f0, .string key.f1, .bool false, .string (⟨#[]⟩ : ByteArray)]) (blk_put (cs := #[.int .u8 key.f0, .string (⟨#[]⟩ : ByteArray), .bool false, .string (⟨#[]⟩ : ByteArray)]) (blk_put (cs := #[.int .u8 0, .string (⟨#[]⟩ : ByteArray), .bool false, .string (⟨#[]⟩ : ByteArray)]) BC9.out 0 (.int .u8 key.f0) rfl) 1 (.string key.f1) rfl) 2 (.bool false) rfl) 3 (.string (⟨#[]⟩ : ByteArray)) rfl)
                have GC0 : Aside0 (gh < gc) := ⟨by rw [HGC.out]; exact SZ8.out⟩
                have SC9 := Aside0.mk (Kd.S_below (Kd.S_elderB SC8.out gc (by rw [HGC.out]; exact Nat.le_refl _)) HB9.out)
                have SC10 : Aside0 (Kd.S k50 50 ((((w9.setCell ⟨gc, 0, none⟩ (.int .u8 key.f0)).setCell ⟨gc, 1, none⟩ (.string key.f1)).setCell ⟨gc, 2, none⟩ (.bool false)).setCell ⟨gc, 3, none⟩ (.string (⟨#[]⟩ : ByteArray))) H0 (fun k => True ∧ k ≠ gc) vc cs) := ⟨S_stay SC9.out T9.out (fun k hk e => hk.2 e)⟩
                have S10 := Aside0.mk (S_stay (Kd.S_below S8.out HB9.out) T9.out (fun k hk e => by have := GC0.out; have := GH0.out; omega))
                have R10 := Aside0.mk ((R8.out.stay (Stay.of_below (fun _ => False) HB9.out) id).stay T9.out (fun e => by have := GC0.out; have := GH0.out; have := GG0.out; omega))
                have BE10 := Aside0.mk (T9.out.blk (blk_below BE8.out HB9.out) (by have := GC0.out; have := GH0.out; have := GE0.out; omega))
                have BT10 := Aside0.mk (T9.out.blk (blk_below BT8.out HB9.out) (by have := GC0.out; have := GH0.out; have := GT0.out; omega))
                have BH10 := Aside0.mk (T9.out.blk (blk_below BH8.out HB9.out) (by have := GC0.out; omega))
                have ST10 := Aside0.mk ((ST8.out.trans (Stay.of_below _ HB9.out)).step T9.out (fun i hi => Or.inr (by have := GC0.out; have := GH0.out; have := WH0.out; omega)))
                have hnec : ¬ gc = g := by have := GC0.out; have := GH0.out; have := GG0.out; omega
                clear hz0 hz1 hz2 hz3 hf0 hf1 hf2 hf3 SC8 SC9 S8 R8 BE8 BT8 BH8 ST8 SZ8 T9 BC9 HGC HB9
                generalize (((w9.setCell ⟨gc, 0, none⟩ (.int .u8 key.f0)).setCell ⟨gc, 1, none⟩ (.string key.f1)).setCell ⟨gc, 2, none⟩ (.bool false)).setCell ⟨gc, 3, none⟩ (.string (⟨#[]⟩ : ByteArray)) = w10 at BC10 SC10 S10 R10 BE10 BT10 BH10 ST10 ⊢
                obtain ⟨qn, hqn, H⟩ := Option.bind_eq_some_iff.1 (show (takeN k 0 257 l1).bind _ = some qc from Q6.out)
                have QN := Aside0.mk hqn
                have Q7 := Aside0.mk H
                clear hqn H Q6
                cases qn with
                | error c =>
                  obtain rfl : .error c = qc := Option.some.inj Q7.out
                  obtain rfl : .error c = q3 := Option.some.inj Q5.out
                  obtain rfl : .error c = q := Option.some.inj FQ.out
                  refine (number_calls k 0 257 _ w0 _ g l1 R10.out (ST10.out.below HB0.out hgb) hg QN.out).mono ?_
                  rintro e w3 ⟨ho, hs⟩
                  obtain rfl := ho
                  exact ⟨rfl, rfl, ST10.out.trans hs⟩
                | ok pn =>
                obtain ⟨n, l2⟩ := pn
                obtain ⟨hnn0, hnn1⟩ := takeN_ok QN.out (by decide) (by decide)
                refine (number_calls k 0 257 _ w0 _ g l1 R10.out (ST10.out.below HB0.out hgb) hg QN.out).mono ?_
                rintro e w11 ⟨⟨rfl, hr11⟩, hs⟩
                have R11 := Aside0.mk hr11
                have BC11 := Aside0.mk (hs.blk BC10.out hnec)
                have BE11 := Aside0.mk (hs.blk BE10.out hne1)
                have BT11 := Aside0.mk (hs.blk BT10.out (by have := GG0.out; have := GT0.out; omega))
                have BH11 := Aside0.mk (hs.blk BH10.out hneh)
                have SC11 := Aside0.mk (S_stayT (by decide) SC10.out R10.out hs)
                have S11 := Aside0.mk (S_stayT (by decide) S10.out R10.out hs)
                have ST11 := Aside0.mk (ST10.out.trans hs)
                clear R10 BC10 BE10 S10 SC10 ST10 BT10 BH10 hr11 hs QN
                have hz2 : w11.cell? ⟨gc, 2, none⟩ = some (.bool false) := (blk_cell BC11.out 2).trans rfl
                have hf2 := blk_frozen BC11.out 2
                have T11 : Aside0 (Stay (fun k => k = gc) w11 (w11.setCell ⟨gc, 2, none⟩ (.bool (n == 0)))) := ⟨(Stay.refl (fun k => k = gc) w11).set (.inl rfl) 2 _⟩
                have BC12 := Aside0.mk (blk_put (cs := #[.int .u8 key.f0, .string key.f1, .bool false, .string (⟨#[]⟩ : ByteArray)]) BC11.out 2 (.bool (n == 0)) rfl)
                have SC12 := Aside0.mk (S_stay SC11.out T11.out (fun k hk e => hk.2 e))
                have S12 := Aside0.mk (S_stay S11.out T11.out (fun k hk e => by have := GC0.out; have := GH0.out; omega))
                have R12 := Aside0.mk (R11.out.stay T11.out (fun e => hnec e.symm))
                have BE12 := Aside0.mk (T11.out.blk BE11.out (by have := GC0.out; have := GH0.out; have := GE0.out; omega))
                have BT12 := Aside0.mk (T11.out.blk BT11.out (by have := GC0.out; have := GH0.out; have := GT0.out; omega))
                have BH12 := Aside0.mk (T11.out.blk BH11.out (by have := GC0.out; omega))
                have ST12 : Aside0 (Stay (fun k => k = g) w (w11.setCell ⟨gc, 2, none⟩ (.bool (n == 0)))) := ⟨ST11.out.step T11.out (fun i hi => Or.inr (by have := GC0.out; have := GH0.out; have := WH0.out; omega))⟩
                have TB1 : Aside0 (1 ≤ n → mx (n - 1) 0 = n - 1) := ⟨fun h => by unfold mx; rw [if_neg (by omega)]⟩
                have TB0 : Aside0 (n < 1 → mx (n - 1) 0 = 0) := ⟨fun h => by unfold mx; rw [if_pos (by omega)]⟩
                have Q8a : ∀ qb, qb = takeB (mx (n - 1) 0) l2 → (match qb with | .error c => some (.error c) | .ok (v, l3) => takeChangesL k gk2 key (cs ++ [⟨key, n == 0, v⟩]) l3) = some qc := by rintro _ rfl; exact Q7.out
                obtain ⟨qb, hqb⟩ : ∃ qb, qb = takeB (mx (n - 1) 0) l2 := ⟨_, rfl⟩
                have Q8 := Aside0.mk (Q8a qb hqb)
                clear Q8a
                have QB := Aside0.mk hqb
                clear hqb Q7 R11 BC11 BE11 BT11 BH11 SC11 S11 ST11 T11
                go_wp2_with fail
                all_goals
                  clear hz2 hf2
                  generalize w11.setCell ⟨gc, 2, none⟩ (.bool (n == 0)) = w12 at R12 BC12 BE12 BT12 BH12 SC12 S12 ST12 ⊢
                  refine (bytes_calls _ (by omega) w0 _ g l2 R12.out (ST12.out.below HB0.out hgb) hg).mono ?_
                  rintro e w13 ⟨ho, hs⟩
                  replace ho : Out w0 g Value.string qb e w13 := by (rw [QB.out]; first | (rw [TB1.out (by omega)]; exact ho) | (rw [TB0.out (by omega)]; exact ho))
                  have HS := Aside0.mk hs
                  clear hs
                  cases qb with
                  | error c =>
                    obtain rfl : .error c = qc := Option.some.inj Q8.out
                    obtain rfl : .error c = q3 := Option.some.inj Q5.out
                    obtain rfl : .error c = q := Option.some.inj FQ.out
                    obtain rfl := ho
                    exact ⟨rfl, rfl, ST12.out.trans HS.out⟩
                  | ok pb =>
                  obtain ⟨vl, l3⟩ := pb
                  obtain ⟨rfl, hr13⟩ := ho
                  have R13 := Aside0.mk hr13
                  have BC13 := Aside0.mk (HS.out.blk BC12.out hnec)
                  have BE13 := Aside0.mk (HS.out.blk BE12.out hne1)
                  have BT13 := Aside0.mk (HS.out.blk BT12.out (by have := GG0.out; have := GT0.out; omega))
                  have BH13 := Aside0.mk (HS.out.blk BH12.out hneh)
                  have SC13 := Aside0.mk (S_stayT (by decide) SC12.out R12.out HS.out)
                  have S13 := Aside0.mk (S_stayT (by decide) S12.out R12.out HS.out)
                  have ST13 := Aside0.mk (ST12.out.trans HS.out)
                  clear R12 BC12 BE12 S12 SC12 ST12 BT12 BH12 hr13 HS QB TB0 TB1
                  have Q9 : Aside0 (takeChangesL k gk2 key (cs ++ [⟨key, n == 0, vl⟩]) l3 = some qc) := ⟨Q8.out⟩
                  have T13 : Aside0 (Stay (fun k => k = gc) w13 (w13.setCell ⟨gc, 3, none⟩ (.string vl))) := ⟨(Stay.refl (fun k => k = gc) w13).set (.inl rfl) 3 _⟩
                  have BC14 := Aside0.mk (blk_put (cs := #[.int .u8 key.f0, .string key.f1, .bool (n == 0), .string (⟨#[]⟩ : ByteArray)]) BC13.out 3 (.string vl) rfl)
                  have SC14 := Aside0.mk (S_stay SC13.out T13.out (fun k hk e => hk.2 e))
                  have S14 := Aside0.mk (S_stay S13.out T13.out (fun k hk e => by have := GC0.out; have := GH0.out; omega))
                  have R14 := Aside0.mk (R13.out.stay T13.out (fun e => hnec e.symm))
                  have BE14 := Aside0.mk (T13.out.blk BE13.out (by have := GC0.out; have := GH0.out; have := GE0.out; omega))
                  have BT14 := Aside0.mk (T13.out.blk BT13.out (by have := GC0.out; have := GH0.out; have := GT0.out; omega))
                  have BH14 := Aside0.mk (T13.out.blk BH13.out (by have := GC0.out; omega))
                  have ST14 : Aside0 (Stay (fun k => k = g) w (w13.setCell ⟨gc, 3, none⟩ (.string vl))) := ⟨ST13.out.step T13.out (fun i hi => Or.inr (by have := GC0.out; have := GH0.out; have := WH0.out; omega))⟩
                  have hz3 : w13.cell? ⟨gc, 3, none⟩ = some (.string (⟨#[]⟩ : ByteArray)) := (blk_cell BC13.out 3).trans rfl
                  have hf3 := blk_frozen BC13.out 3
                  clear R13 BC13 BE13 BT13 BH13 SC13 S13 ST13 T13 Q8
                  go_upto_region 16 with (fail)
                  clear hz3 hf3
                  generalize w13.setCell ⟨gc, 3, none⟩ (.string vl) = w14 at BC14 SC14 S14 R14 BE14 BT14 BH14 ST14 ⊢
                  have hzt1 : w14.cell? ⟨gt, 1, none⟩ = some vc := (blk_cell BT14.out 1).trans rfl
                  have hzc0 : w14.cell? ⟨gc, 0, none⟩ = some (.int .u8 key.f0) := (blk_cell BC14.out 0).trans rfl
                  have hzc1 : w14.cell? ⟨gc, 1, none⟩ = some (.string key.f1) := (blk_cell BC14.out 1).trans rfl
                  have hzc2 : w14.cell? ⟨gc, 2, none⟩ = some (.bool (n == 0)) := (blk_cell BC14.out 2).trans rfl
                  have hzc3 : w14.cell? ⟨gc, 3, none⟩ = some (.string vl) := (blk_cell BC14.out 3).trans rfl
                  go_wp2_with ((with_reducible refine gate_builtin (b := .append) (xs := #[.tmp 51, .tmp 53]) rfl ?_); at_builtin; refine Kd.S_append k50 (w0 := w14) H0 rfl (.tmp 51) (.tmp 53) 45 50 (.agg #[(.int .u8 0), (.string ⟨#[]⟩), (.bool false), (.string ⟨#[]⟩)]) 48 rfl Try.underlying45 info50 rfl (by decide) (by omega) vc cs (⟨key, n == 0, vl⟩ : S50) [.int .u8 key.f0, .string key.f1, .bool (n == 0), .string vl] (fun _ => True) (fun _ => False) rfl rfl ?aP (fun _ hk => hk.elim) ?aF ?aO ?aB ?aS ?aL ?_; (case aP => exact k50_mkM _ _ _ _); (case aF => exact (fun _ _ => trivial)); (case aO => exact Kd.S_mono SC14.out (fun _ _ => ⟨trivial, fun h => h⟩)); (case aB => exact Below.refl _ _); (case aS => exact Nat.le_of_lt (Nat.lt_trans GH0.out (blk_lt BH14.out))); (case aL => have := HA2.out; omega); intro v15 w15 ho hb hgw hat; have SC15 := Aside0.mk ho; have HGW := Aside0.mk hgw; clear ho hb hgw hat; have hzt1 : w15.cell? ⟨gt, 1, none⟩ = some vc := (blk_cell ((Stay.of_grown HGW.out).blk BT14.out (Kd.S_ne SC14.out BT14.out (by decide))) 1).trans rfl; have hft1 := blk_frozen ((Stay.of_grown HGW.out).blk BT14.out (Kd.S_ne SC14.out BT14.out (by decide))) 1; (obtain ⟨cs2, hcs2⟩ : ∃ c, c = cs ++ [(⟨key, n == 0, vl⟩ : S50)] := ⟨_, rfl⟩); rw [← hcs2] at SC15 Q9; have HC2 : Aside0 (cs2.length = cs.length + 1) := ⟨by rw [hcs2, List.length_append]; rfl⟩; clear hcs2; obtain ⟨A15, c15, rfl⟩ := Kd.S_slice SC15.out)
                  have G15 := Aside0.mk (Stay.of_grown HGW.out)
                  have hsb : Aside0 (∀ i, some i = vc.ownBlock → H0 ≤ i) := ⟨fun i hi => Kd.S_base SC14.out i hi.symm⟩
                  have S15 := Aside0.mk (S_stay S14.out G15.out (fun k hk e => by have := hsb.out k e; omega))
                  have R15 := Aside0.mk (R14.out.stay G15.out (by obtain ⟨A, c, hb, _⟩ := R14.out; exact Kd.S_ne SC14.out hb (by decide)))
                  have BE15 := Aside0.mk (G15.out.blk BE14.out (Kd.S_ne SC14.out BE14.out (by decide)))
                  have BT15 := Aside0.mk (G15.out.blk BT14.out (Kd.S_ne SC14.out BT14.out (by decide)))
                  have BH15 := Aside0.mk (G15.out.blk BH14.out (Kd.S_ne SC14.out BH14.out (by decide)))
                  have ST15 := Aside0.mk (ST14.out.step G15.out (fun i hi => Or.inr (by have := hsb.out i hi; have := WH0.out; omega)))
                  clear S14 R14 BE14 BT14 BH14 ST14 SC14 BC14 hsb HGW G15
                  have T15 : Aside0 (Stay (fun k => k = gt) w15 (w15.setCell ⟨gt, 1, none⟩ (.slice A15 cs2.length c15))) := ⟨(Stay.refl (fun k => k = gt) w15).set (.inl rfl) 1 _⟩
                  have SC16 := Aside0.mk (Kd.S_set SC15.out BT15.out (by decide) 1 (.slice A15 cs2.length c15))
                  have S16 := Aside0.mk (S_stay S15.out T15.out (fun k hk e => by have := GT0.out; omega))
                  have R16 := Aside0.mk (R15.out.stay T15.out (fun e => by have := GG0.out; have := GT0.out; omega))
                  have BE16 := Aside0.mk (T15.out.blk BE15.out (by have := GT0.out; have := GE0.out; omega))
                  have BT16 := Aside0.mk (blk_put (cs := #[.int .u64 (N * 4294967296 + tid), vc]) BT15.out 1 (.slice A15 cs2.length c15) rfl)
                  have BH16 := Aside0.mk (T15.out.blk BH15.out (by have := GH0.out; have := GT0.out; omega))
                  have ST16 := Aside0.mk (ST15.out.step T15.out (fun i hi => Or.inr (by have := GT0.out; have := WH0.out; omega)))
                  clear S15 R15 BE15 BT15 BH15 ST15 SC15 T15 hzt1 hft1 hzc0 hzc1 hzc2 hzc3
                  generalize w15.setCell ⟨gt, 1, none⟩ (.slice A15 cs2.length c15) = w16 at SC16 S16 R16 BE16 BT16 BH16 ST16 ⊢
                  go_wp2_with fail
                  go_roundg gk2
                  case measure => omega
                  case rel => exact ⟨cs2, key, l3, x34 + 1, .slice A15 cs2.length c15, rfl, ⟨by have := HX2.out; omega⟩, by omega, by omega, ⟨by have := HA2.out; have := HC2.out; omega⟩, Q9, R16, BE16, BT16, BH16, SC16, S16, ST16⟩
            · have dp2 : decide (x34 < m) = false := decide_eq_false hp2
              have hk0 : gk = 0 := by have := HX2.out; omega
              subst hk0
              have H := QC.out
              simp only [takeChangesL] at H
              obtain rfl := Option.some.inj H
              have Q6 : Aside0 (takeTxnsL k N gk1 tid (acc ++ [⟨N * 4294967296 + tid, cs⟩]) l' = some q3) := ⟨Q5.out⟩
              clear QC H Q5
              obtain ⟨Ac, cc, rfl⟩ := Kd.S_slice SC2.out
              have hgw : wr.heap[gt]? = some (.cells #[.int .u64 (N * 4294967296 + tid), .slice Ac cs.length cc] 47 (0, 0)) := BT2.out
              have hze1 : wr.cell? ⟨ge, 1, none⟩ = some v := (blk_cell BE2.out 1).trans rfl
              have hzt0 : wr.cell? ⟨gt, 0, none⟩ = some (.int .u64 (N * 4294967296 + tid)) := (blk_cell BT2.out 0).trans rfl
              have hzt1 : wr.cell? ⟨gt, 1, none⟩ = some (.slice Ac cs.length cc) := (blk_cell BT2.out 1).trans rfl
              have HVL : Aside0 (∀ k, v.ownBlock = some k → k < H0) := ⟨(Kd.S_R S2.out).1⟩
              clear hgw
              go_wp2_with ((with_reducible refine gate_builtin (b := .append) (xs := #[.tmp 58, .tmp 60]) rfl ?_); at_builtin; refine Kd.S_append k47 (w0 := wr) w.heap.size rfl (.tmp 58) (.tmp 60) 23 47 (.agg #[(.int .u64 0), (.slice none 0 0)]) 32 rfl Try.underlying23 info47 rfl (by decide) (by omega) v acc (⟨N * 4294967296 + tid, cs⟩ : S47) [.int .u64 (N * 4294967296 + tid), .slice Ac cs.length cc] (fun _ => True) (fun k => H0 ≤ k) rfl rfl ?aP ?aK ?aF ?aO ?aB ?aS ?aL ?_; (case aP => exact k47_mkM _ _ _ _ (Kd.R_lower (Kd.R_mono (Kd.R_bound (Kd.S_R SC2.out)) (fun k hk => hk.2.1)) WH0.out)); (case aK => exact (fun k hk => ⟨trivial, fun e => by have := HVL.out k e.symm; omega⟩)); (case aF => exact (fun _ _ => trivial)); (case aO => exact Kd.S_mono S2.out (fun k hk => ⟨trivial, by omega⟩)); (case aB => exact Below.refl _ _); (case aS => exact ST2.out.size); (case aL => have := HA.out; omega); intro v17 w17 ho hb hgw hat; have S17 := Aside0.mk ho; have HGW := Aside0.mk hgw; clear ho hb hgw hat; have hze1 : w17.cell? ⟨ge, 1, none⟩ = some v := (blk_cell ((Stay.of_grown HGW.out).blk BE2.out (Kd.S_ne S2.out BE2.out (by decide))) 1).trans rfl; have hfe1 := blk_frozen ((Stay.of_grown HGW.out).blk BE2.out (Kd.S_ne S2.out BE2.out (by decide))) 1; (obtain ⟨acc2, hacc2⟩ : ∃ c, c = acc ++ [(⟨N * 4294967296 + tid, cs⟩ : S47)] := ⟨_, rfl⟩); rw [← hacc2] at S17 Q6; have HC2 : Aside0 (acc2.length = acc.length + 1) := ⟨by rw [hacc2, List.length_append]; rfl⟩; clear hacc2; obtain ⟨A17, c17, rfl⟩ := Kd.S_slice S17.out)
              have G17 := Aside0.mk (Stay.of_grown HGW.out)
              have hsb : Aside0 (∀ i, some i = v.ownBlock → w.heap.size ≤ i) := ⟨fun i hi => Kd.S_base S2.out i hi.symm⟩
              have R17 := Aside0.mk (R2.out.stay G17.out (by obtain ⟨A, c, hb, _⟩ := R2.out; exact Kd.S_ne S2.out hb (by decide)))
              have BE17 := Aside0.mk (G17.out.blk BE2.out (Kd.S_ne S2.out BE2.out (by decide)))
              have ST17 := Aside0.mk (ST2.out.step G17.out (fun i hi => Or.inr (hsb.out i hi)))
              clear S2 R2 BE2 BT2 BH2 ST2 SC2 hsb HGW G17
              have T17 : Aside0 (Stay (fun k => k = ge) w17 (w17.setCell ⟨ge, 1, none⟩ (.slice A17 acc2.length c17))) := ⟨(Stay.refl (fun k => k = ge) w17).set (.inl rfl) 1 _⟩
              have S18 := Aside0.mk (Kd.S_set S17.out BE17.out (by decide) 1 (.slice A17 acc2.length c17))
              have R18 := Aside0.mk (R17.out.stay T17.out (fun e => hne1 e.symm))
              have BE18 := Aside0.mk (blk_put (cs := #[.int .u32 N, v]) BE17.out 1 (.slice A17 acc2.length c17) rfl)
              have ST18 := Aside0.mk (ST17.out.step T17.out (fun i hi => Or.inr (by rw [hi, HE.out]; exact Nat.le_refl _)))
              clear S17 R17 BE17 ST17 T17 hze1 hfe1 hzt0 hzt1
              generalize w17.setCell ⟨ge, 1, none⟩ (.slice A17 acc2.length c17) = w18 at S18 R18 BE18 ST18 ⊢
              go_wp2_with fail
              go_roundg gk1
              case measure => omega
              case rel => exact ⟨acc2, tid, l', x15 + 1, .slice A17 acc2.length c17, rfl, rfl, ⟨by have := HX.out; omega⟩, by omega, by omega, by omega, by omega, ⟨by have := HA.out; have := HC2.out; omega⟩, Q6, R18, BE18, S18, ST18⟩
      · have dp : decide (x15 < n2) = false := decide_eq_false hp
        have hk0 : gk = 0 := by have := HX.out; omega
        subst hk0
        have H := TX.out
        simp only [takeTxnsL] at H
        obtain rfl := Option.some.inj H
        obtain rfl : .ok ((N, acc), l') = q := Option.some.inj FQ.out
        obtain ⟨Av, cv, rfl⟩ := Kd.S_slice S2.out
        have hze0 : wr.cell? ⟨ge, 0, none⟩ = some (.int .u32 N) := (blk_cell BE2.out 0).trans rfl
        have hze1 : wr.cell? ⟨ge, 1, none⟩ = some (.slice Av acc.length cv) := (blk_cell BE2.out 1).trans rfl
        have hfe0 := blk_frozen BE2.out 0
        have hfe1 := blk_frozen BE2.out 1
        go_wp2_with fail
        have T3 : Stay (fun k => k = ge) wr ((wr.setCell ⟨ge, 0, none⟩ (.int .u32 N)).setCell ⟨ge, 1, none⟩ (.slice Av acc.length cv)) := ((Stay.refl (fun k => k = ge) wr).set (.inl rfl) 0 _).set (.inl rfl) 1 _
        have HS := Kd.S_set (Kd.S_set S2.out BE2.out (by decide) 0 (.int .u32 N)) (blk_put (cs := #[.int .u32 N, .slice Av acc.length cv]) BE2.out 0 (.int .u32 N) rfl) (by decide) 1 (.slice Av acc.length cv)
        have HF := Aside0.mk HS
        have RF := Aside0.mk (R2.out.stay T3 (fun e => hne1 e.symm))
        have SF := Aside0.mk (ST2.out.step T3 (fun i hi => Or.inr (by rw [hi, HE.out]; exact Nat.le_refl _)))
        clear HS T3
        refine bodyPost_ret (by simp [results, Try.results53, go_sem, hze0, hze1]; try rfl) rfl ?_
        exact ⟨⟨_, rfl, HF.out, RF.out⟩, SF.out⟩
end Go.Proofs.Ytgmdoapedhppmaa.PC

/- Plain facts on numbers as bytes: puts is what PutUint puts, gets is what GetUint gets; one is the other's turning back. Bytes are whole numbers from 0 to 255. -/
namespace Go.Proofs.Ytgmdoapedhppmaa.B
set_option linter.unusedVariables false
set_option linter.unusedSimpArgs false
open Go.RowKit

/-- The bytes of a number. -/
def puts (n : Nat) : List Int := if n < 128 then [(n : Int)] else ((n % 128 + 128 : Nat) : Int) :: puts (n / 128)
theorem puts_lo {n : Nat} (h : n < 128) : puts n = [(n : Int)] := by rw [puts, if_pos h]
theorem puts_hi {n : Nat} (h : ¬ n < 128) : puts n = ((n % 128 + 128 : Nat) : Int) :: puts (n / 128) := by rw [puts, if_neg h]
theorem puts_pos (n : Nat) : 0 < (puts n).length := by
  by_cases h : n < 128
  · rw [puts_lo h]; simp
  · rw [puts_hi h]; simp
theorem puts_ne (n : Nat) : puts n ≠ [] := by have := puts_pos n; intro h; rw [h] at this; simp at this
theorem puts_le (m : Nat) : ∀ n, n < 128 ^ (m + 1) → (puts n).length ≤ m + 1 := by
  induction m with
  | zero => intro n h; rw [puts_lo (by omega)]; simp
  | succ m ih =>
    intro n h
    by_cases hn : n < 128
    · rw [puts_lo hn]; simp
    · rw [puts_hi hn]
      have := ih (n / 128) (by rw [Nat.pow_succ] at h; exact Nat.div_lt_of_lt_mul (by rw [Nat.mul_comm]; exact h))
      simp only [List.length_cons]; omega
theorem puts_ge (m : Nat) : ∀ n, 128 ^ m ≤ n → m + 1 ≤ (puts n).length := by
  induction m with
  | zero => intro n _; have := puts_pos n; omega
  | succ m ih =>
    intro n h
    have h1 : ¬ n < 128 := by
      have : 0 < 128 ^ m := Nat.pow_pos (by decide)
      rw [Nat.pow_succ] at h; omega
    rw [puts_hi h1]
    have := ih (n / 128) (by rw [Nat.pow_succ] at h; exact (Nat.le_div_iff_mul_le (by decide)).2 h)
    simp only [List.length_cons]; omega
theorem pow10 : 128 ^ 10 = 1180591620717411303424 := by decide
theorem puts_ten (n : Nat) (h : n < 18446744073709551616) : (puts n).length ≤ 10 := puts_le 9 n (by have := pow10; omega)
theorem puts_byte (n : Nat) : ∀ c ∈ puts n, 0 ≤ c ∧ c < 256 := by
  induction n using Nat.strongRecOn with
  | _ n ih =>
    by_cases h : n < 128
    · rw [puts_lo h]; intro c hc; simp at hc; omega
    · rw [puts_hi h]; intro c hc
      rcases List.mem_cons.1 hc with rfl | hc
      · omega
      · exact ih (n / 128) (by omega) c hc

theorem or128 : ∀ c : Fin 256, Go.bits .or .u8 ((c.val : Nat) : Int) 128 = ((c.val % 128 + 128 : Nat) : Int) := by decide +kernel
theorem andNot128 : ∀ c : Fin 256, Go.bits .andNot .u8 ((c.val : Nat) : Int) 128 = ((c.val % 128 : Nat) : Int) := by decide +kernel
theorem or128_at (c : Int) (h0 : 0 ≤ c) (h1 : c < 256) : Go.bits .or .u8 c 128 = c % 128 + 128 := by
  have := or128 ⟨c.toNat, by omega⟩
  simp only [show ((c.toNat : Nat) : Int) = c by omega] at this
  rw [this]; omega
theorem andNot128_at (c : Int) (h0 : 0 ≤ c) (h1 : c < 256) : Go.bits .andNot .u8 c 128 = c % 128 := by
  have := andNot128 ⟨c.toNat, by omega⟩
  simp only [show ((c.toNat : Nat) : Int) = c by omega] at this
  rw [this]; omega

/-- What GetUint gets: c is read at place i, n has been gathered so far. -/
def gets : List Int → Nat → Int → Int × Int × Int
  | [], i, _ => if i = 10 then (0, 0, 3) else (0, 0, 2)
  | c :: r, i, n => if i = 10 then (0, 0, 3) else if 18446744073709551616 ≤ (c % 128) * 128 ^ i then (0, 0, 3) else if 128 ≤ c then gets r (i + 1) (n + (c % 128) * 128 ^ i)
      else if c = 0 ∧ 0 < i then (0, 0, 3) else (n + (c % 128) * 128 ^ i, (i : Int) + 1, 0)
def Bytes (l : List Int) : Prop := ∀ x ∈ l, 0 ≤ x ∧ x < 256
theorem Bytes.drop {l : List Int} (h : Bytes l) (k : Nat) : Bytes (l.drop k) := fun x hx => h x (List.mem_of_mem_drop hx)
theorem Bytes.take {l : List Int} (h : Bytes l) (k : Nat) : Bytes (l.take k) := fun x hx => h x (List.mem_of_mem_take hx)
theorem Bytes.app {l m : List Int} (h : Bytes l) (h' : Bytes m) : Bytes (l ++ m) := fun x hx => (List.mem_append.1 hx).elim (h x) (h' x)
theorem puts_bytes (n : Nat) : Bytes (puts n) := puts_byte n
theorem pow128_pos (i : Nat) : (0 : Int) < 128 ^ i := Int.pow_pos (by decide)
theorem pow128_cast (i : Nat) : (((128 : Nat) ^ i : Nat) : Int) = (128 : Int) ^ i := by simp
theorem pow_shift (i : Nat) : (2 : Int) ^ (7 * i) = 128 ^ i := by rw [Int.pow_mul]; rfl
/-- What is told of what goes on. -/
theorem gets_err {xs : List Int} : ∀ {i : Nat} {n : Int} {a b e : Int}, gets xs i n = (a, b, e) → e = 0 ∨ (a = 0 ∧ b = 0 ∧ (e = 2 ∨ e = 3)) := by
  induction xs with
  | nil => intro i n a b e h; simp only [gets] at h; split at h <;> (cases h; simp)
  | cons c r ih =>
    intro i n a b e h
    simp only [gets] at h
    split at h
    · cases h; simp
    · split at h
      · cases h; simp
      · split at h
        · exact ih h
        · split at h <;> (cases h; simp)
/-- A number, or ErrForm, stays, whatever stands behind. -/
theorem gets_more (ys : List Int) : ∀ (xs : List Int) (i : Nat) (n : Int), (gets xs i n).2.2 ≠ 2 → i ≤ 10 → gets (xs ++ ys) i n = gets xs i n := by
  intro xs
  induction xs with
  | nil =>
    intro i n h hi
    simp only [gets] at h ⊢
    by_cases h10 : i = 10
    · subst h10; rw [if_pos rfl]
      cases ys with
      | nil => simp [gets]
      | cons y ys => simp [gets]
    · rw [if_neg h10] at h; simp at h
  | cons c r ih =>
    intro i n h hi
    simp only [List.cons_append, gets] at h ⊢
    by_cases h10 : i = 10
    · rw [if_pos h10, if_pos h10]
    · rw [if_neg h10] at h ⊢
      rw [if_neg h10]
      split
      · rfl
      · rename_i hb
        rw [if_neg hb] at h
        split
        · rename_i hc
          rw [if_pos hc] at h
          exact ih _ _ h (by omega)
        · rfl
/-- What ends too early goes on: a 1 behind makes a number. -/
theorem gets_one : ∀ (xs : List Int) (i : Nat) (n : Int), Bytes xs → (gets xs i n).2.2 = 2 → i ≤ 9 → 0 ≤ n → ∃ v, gets (xs ++ [1]) i n = (v, ((i + xs.length : Nat) : Int) + 1, 0) ∧ 0 < v := by
  intro xs
  induction xs with
  | nil =>
    intro i n hB h hi hn
    have hp := pow128_pos i
    have hm : (128 : Int) ^ i ≤ 128 ^ 9 := by
      have := Nat.pow_le_pow_right (show 0 < 128 by decide) hi
      have a := pow128_cast i
      have b := pow128_cast 9
      omega
    have e9 : (128 : Int) ^ 9 = 9223372036854775808 := by decide
    simp only [List.nil_append, gets]
    rw [if_neg (by omega), show (1 : Int) % 128 = 1 by decide, Int.one_mul, if_neg (by omega), if_neg (by decide), if_neg (by omega)]
    exact ⟨n + 128 ^ i, by simp, by omega⟩
  | cons c r ih =>
    intro i n hB h hi hn
    have hc := hB c (by simp)
    have hp := pow128_pos i
    simp only [gets] at h
    rw [if_neg (by omega)] at h
    split at h
    · simp at h
    · rename_i hb
      split at h
      · rename_i h128
        have hn' : 0 ≤ n + c % 128 * 128 ^ i := Int.add_nonneg hn (Int.mul_nonneg (by omega) (by omega))
        by_cases h9 : i = 9
        · exfalso
          subst h9
          cases r with
          | nil => simp [gets] at h
          | cons => simp [gets] at h
        · obtain ⟨v, hv, hpos⟩ := ih (i + 1) _ (fun x hx => hB x (by simp [hx])) h (by omega) hn'
          refine ⟨v, ?_, hpos⟩
          simp only [List.cons_append, gets]
          rw [if_neg (by omega), if_neg hb, if_pos h128, hv]
          simp; omega
      · split at h <;> simp at h

/-- What was put is got, whatever stands behind. -/
theorem gets_puts_at (rest : List Int) (n : Nat) : ∀ (i : Nat) (acc : Int), (n : Int) * 128 ^ i < 18446744073709551616 → (i = 0 ∨ 0 < n) → gets (puts n ++ rest) i acc = (acc + n * 128 ^ i, ((i + (puts n).length : Nat) : Int), 0) := by
  induction n using Nat.strongRecOn with
  | _ n ih =>
    intro i acc hn h0
    have hp := pow128_pos i
    have hi : i ≠ 10 := by
      intro h
      subst h
      rcases h0 with h0 | h0
      · omega
      · have e : (128 : Int) ^ 10 = 1180591620717411303424 := by decide
        rw [e] at hn; omega
    by_cases h : n < 128
    · rw [puts_lo h]
      simp only [List.cons_append, gets]
      rw [if_neg hi, show (n : Int) % 128 = n by omega, if_neg (by omega), if_neg (by omega), if_neg (by omega)]
      simp
    · have e1 : ((n % 128 + 128 : Nat) : Int) % 128 = ((n % 128 : Nat) : Int) := by omega
      have hle : ((n % 128 : Nat) : Int) * 128 ^ i ≤ (n : Int) * 128 ^ i := Int.mul_le_mul_of_nonneg_right (by omega) (by omega)
      have hmul : ((n / 128 : Nat) : Int) * 128 ^ (i + 1) = (((n / 128 : Nat) : Int) * 128) * 128 ^ i := by rw [Int.pow_succ, Int.mul_comm ((128 : Int) ^ i) 128, ← Int.mul_assoc]
      have hle2 : (((n / 128 : Nat) : Int) * 128) * 128 ^ i ≤ (n : Int) * 128 ^ i := Int.mul_le_mul_of_nonneg_right (by omega) (by omega)
      rw [puts_hi h]
      simp only [List.cons_append, gets]
      rw [if_neg hi, e1, if_neg (by omega), if_pos (by omega), ih (n / 128) (by omega) (i + 1) _ (by rw [hmul]; omega) (Or.inr (by omega)), hmul]
      have hsum : ((n % 128 : Nat) : Int) * 128 ^ i + (((n / 128 : Nat) : Int) * 128) * 128 ^ i = (n : Int) * 128 ^ i := by
        rw [← Int.add_mul]; congr 1; omega
      simp only [List.length_cons]
      refine Prod.ext ?_ (Prod.ext ?_ rfl)
      · show acc + _ + _ = _
        omega
      · show ((i + 1 + (puts (n / 128)).length : Nat) : Int) = ((i + ((puts (n / 128)).length + 1) : Nat) : Int)
        omega
theorem gets_puts (rest : List Int) (n : Nat) (hn : n < 18446744073709551616) : gets (puts n ++ rest) 0 0 = ((n : Int), ((puts n).length : Int), 0) := by
  have := gets_puts_at rest n 0 0 (by simp; omega) (Or.inl rfl)
  simpa using this
theorem gets_cut (n : Nat) : ∀ (i : Nat) (acc : Int) (c : Nat), (n : Int) * 128 ^ i < 18446744073709551616 → (i = 0 ∨ 0 < n) → c < (puts n).length → gets ((puts n).take c) i acc = (0, 0, 2) := by
  induction n using Nat.strongRecOn with
  | _ n ih =>
    intro i acc c hn h0 hc
    have hp := pow128_pos i
    have hi : i ≠ 10 := by
      intro h
      subst h
      rcases h0 with h0 | h0
      · omega
      · have e : (128 : Int) ^ 10 = 1180591620717411303424 := by decide
        rw [e] at hn; omega
    cases c with
    | zero => simp only [List.take_zero, gets]; rw [if_neg hi]
    | succ c =>
      by_cases h : n < 128
      · rw [puts_lo h] at hc; simp at hc
      · have e1 : ((n % 128 + 128 : Nat) : Int) % 128 = ((n % 128 : Nat) : Int) := by omega
        have hle : ((n % 128 : Nat) : Int) * 128 ^ i ≤ (n : Int) * 128 ^ i := Int.mul_le_mul_of_nonneg_right (by omega) (by omega)
        have hmul : ((n / 128 : Nat) : Int) * 128 ^ (i + 1) = (((n / 128 : Nat) : Int) * 128) * 128 ^ i := by rw [Int.pow_succ, Int.mul_comm ((128 : Int) ^ i) 128, ← Int.mul_assoc]
        have hle2 : (((n / 128 : Nat) : Int) * 128) * 128 ^ i ≤ (n : Int) * 128 ^ i := Int.mul_le_mul_of_nonneg_right (by omega) (by omega)
        rw [puts_hi h] at hc ⊢
        simp only [List.take_succ_cons, gets]
        rw [if_neg hi, e1, if_neg (by omega), if_pos (by omega)]
        exact ih (n / 128) (by omega) (i + 1) _ c (by rw [hmul]; omega) (Or.inr (by omega)) (by simpa using hc)
/-- What is got is put: the bytes that were read are the number's. -/
theorem gets_inv : ∀ (xs : List Int) (i : Nat) (acc z s : Int), Bytes xs → i ≤ 10 → gets xs i acc = (z, s, 0) → ∃ (v k : Nat), z = acc + (v : Int) * 128 ^ i ∧ s = ((i + k : Nat) : Int) ∧ k ≤ xs.length ∧ xs.take k = puts v ∧ (i = 0 ∨ 0 < v) ∧ (v : Int) * 128 ^ i < 18446744073709551616 := by
  intro xs
  induction xs with
  | nil => intro i acc z s _ _ h; simp only [gets] at h; split at h <;> simp at h
  | cons c r ih =>
    intro i acc z s hB hi h
    have hc := hB c (by simp)
    have hp := pow128_pos i
    simp only [gets] at h
    split at h
    · simp at h
    · rename_i h10
      split at h
      · simp at h
      · rename_i hroom
        split at h
        · rename_i h128
          obtain ⟨v, k, hz, hs, hk, ht, h0, hv⟩ := ih (i + 1) _ z s (fun x hx => hB x (by simp [hx])) (by omega) h
          have hv0 : 0 < v := by omega
          have hmul : (v : Int) * 128 ^ (i + 1) = ((v : Int) * 128) * 128 ^ i := by rw [Int.pow_succ, Int.mul_comm ((128 : Int) ^ i) 128, ← Int.mul_assoc]
          have hn : ((c.toNat % 128 + v * 128 : Nat) : Int) = c % 128 + (v : Int) * 128 := by omega
          refine ⟨c.toNat % 128 + v * 128, k + 1, ?_, by omega, by simp; omega, ?_, Or.inr (by omega), ?_⟩
          · rw [hn, Int.add_mul, hz, hmul]; omega
          · have e1 : (c.toNat % 128 + v * 128) / 128 = v := by omega
            have e2 : (((c.toNat % 128 + v * 128) % 128 + 128 : Nat) : Int) = c := by omega
            rw [List.take_succ_cons, ht, puts_hi (n := c.toNat % 128 + v * 128) (by omega), e1, e2]
          · rw [hn, Int.add_mul, ← hmul]
            -- below 2^64: the digits lie under the place of v
            have hi9 : i ≤ 9 := by omega
            have e64 : (18446744073709551616 : Int) = 2 * 128 ^ 9 := by decide
            have hd : (c % 128) * 128 ^ i < 128 ^ (i + 1) := by
              rw [Int.pow_succ, Int.mul_comm ((128 : Int) ^ i) 128]
              exact Int.mul_lt_mul_of_pos_right (by omega) hp
            by_cases h9 : i + 1 ≤ 9
            · obtain ⟨j, hj⟩ : ∃ j, 9 = (i + 1) + j := ⟨9 - (i + 1), by omega⟩
              have e9 : (128 : Int) ^ 9 = 128 ^ j * 128 ^ (i + 1) := by rw [hj, Int.pow_add, Int.mul_comm]
              rw [e64, e9, ← Int.mul_assoc] at hv ⊢
              have hP := pow128_pos (i + 1)
              have hlt : (v : Int) < 2 * 128 ^ j := Int.lt_of_mul_lt_mul_right hv (by omega)
              have hle : ((v : Int) + 1) * 128 ^ (i + 1) ≤ (2 * 128 ^ j) * 128 ^ (i + 1) := Int.mul_le_mul_of_nonneg_right (by omega) (by omega)
              rw [Int.add_mul] at hle
              omega
            · exfalso
              have : i = 9 := by omega
              subst this
              have e10 : (128 : Int) ^ (9 + 1) = 1180591620717411303424 := by decide
              rw [e10] at hv; omega
        · rename_i h128
          split at h
          · simp at h
          · rename_i h00
            simp only [Prod.mk.injEq, and_true] at h
            have hcn : ((c.toNat : Nat) : Int) = c := by omega
            have hcm : c % 128 = c := by omega
            rw [hcm] at h hroom
            refine ⟨c.toNat, 1, by rw [hcn]; omega, by omega, by simp, ?_, ?_, by rw [hcn]; omega⟩
            · rw [List.take_succ_cons, List.take_zero, puts_lo (by omega), hcn]
            · by_cases hi0 : i = 0
              · exact Or.inl hi0
              · refine Or.inr ?_
                have : c ≠ 0 := fun hcz => h00 ⟨hcz, by omega⟩
                omega
end Go.Proofs.Ytgmdoapedhppmaa.B

/- GetUint of the program gets what gets says, of any bytes. -/
namespace Go.Proofs.Ytgmdoapedhppmaa.Pure
set_option linter.unusedVariables false
set_option linter.unusedSimpArgs false
open Go.RowKit Go.Proofs.Ytgmdoapedhppmaa.PC Go.Proofs.YtgmdoapedhppmaaW.PrintWords Go.Proofs.YtgmdoapedhppmaaW.PrintLast Go.Proofs.YtgmdoapedhppmaaW.PrintMore Go.Proofs.Ytgmdoapedhppmaa.B

theorem pow_le_9 (i : Nat) (h : i ≤ 9) : (128 : Int) ^ i ≤ 9223372036854775808 := by
  have := Nat.pow_le_pow_right (show 0 < 128 by decide) h
  have a := pow128_cast i
  have e9 : (128 : Nat) ^ 9 = 9223372036854775808 := by decide
  omega
theorem shl_at (b : Int) (i : Nat) (hi : i ≤ 9) : shl .u64 b (7 * (i : Int)) = (b * 128 ^ i) % 18446744073709551616 := by
  unfold shl
  rw [show (7 * (i : Int)).toNat = 7 * i by omega, Nat.min_eq_left (by show 7 * i ≤ 64; omega), pow_shift, IntKind.wrap_u64]
theorem shr_at (b : Int) (i : Nat) (hi : i ≤ 9) : shr .u64 b (7 * (i : Int)) = b / 128 ^ i := by
  unfold shr
  rw [show (7 * (i : Int)).toNat = 7 * i by omega, Nat.min_eq_left (by show 7 * i ≤ 64; omega), pow_shift]
theorem room_iff (b : Int) (i : Nat) (hb0 : 0 ≤ b) (hi : i ≤ 9) : (b * 128 ^ i) % 18446744073709551616 / 128 ^ i = b ↔ b * 128 ^ i < 18446744073709551616 := by
  have hp := pow128_pos i
  constructor
  · intro h
    by_cases hlt : b * 128 ^ i < 18446744073709551616
    · exact hlt
    · exfalso
      have h1 := Int.emod_lt_of_pos (b * 128 ^ i) (show (0 : Int) < 18446744073709551616 by decide)
      have h2 := Int.ediv_mul_le ((b * 128 ^ i) % 18446744073709551616) (show (128 : Int) ^ i ≠ 0 by omega)
      rw [h] at h2
      omega
  · intro h
    rw [Int.emod_eq_of_lt (Int.mul_nonneg hb0 (by omega)) h, Int.mul_ediv_cancel _ (by omega)]
theorem or_place (n b : Int) (i : Nat) (hn0 : 0 ≤ n) (hn1 : n < 128 ^ i) (hb0 : 0 ≤ b) (hb1 : b * 128 ^ i < 18446744073709551616) (hi : i ≤ 9) :
    Go.bits .or .u64 n (b * 128 ^ i) = n + b * 128 ^ i := by
  have h9 := pow_le_9 i hi
  have hp := pow128_pos i
  rw [B.or_comm, or_join (7 * i) (b * 128 ^ i) n (Int.mul_nonneg hb0 (by omega)) (by rw [pow_shift]; exact Int.mul_emod_left _ _) hb1 hn0 (by rw [pow_shift]; exact hn1) (by omega), Int.add_comm]
theorem rd_at (xs : List Int) (i : Nat) (h : i < xs.length) : rd xs (i : Int) = xs[i] := by
  unfold rd; simp [List.getD, h]
theorem get_l (d : Nat) : ∀ (k i : Nat) (n : Int) (xs : List Int), Bytes xs → i + d = 10 → i ≤ xs.length → xs.length ≤ 9223372036854775807 → 0 ≤ n → n < 128 ^ i → 2 * d + 2 ≤ k →
    shift_GetUint.l0 k xs n (i : Int) = some (gets (xs.drop i) i n) := by
  induction d with
  | zero =>
    intro k i n xs hB hd hi hL hn0 hn1 hk
    obtain ⟨k, rfl⟩ : ∃ m, k = m + 2 := ⟨k - 2, by omega⟩
    obtain rfl : i = 10 := by omega
    simp only [shift_GetUint.l0]
    have e : ∀ b : Bool, b = false → shift_GetUint.j1 (k + 1) xs n ((10 : Nat) : Int) b = some (0, 0, 3) := by
      intro b hb; subst hb; simp only [shift_GetUint.j1]; rw [if_neg (by decide), if_pos (by decide)]
    rw [e _ (by simp), e _ rfl]
    split
    · cases h : xs.drop 10 with
      | nil => simp [gets]
      | cons c r => simp [gets]
    · cases h : xs.drop 10 with
      | nil => simp [gets]
      | cons c r => simp [gets]
  | succ d ih =>
    intro k i n xs hB hd hi hL hn0 hn1 hk
    obtain ⟨k, rfl⟩ : ∃ m, k = m + 2 := ⟨k - 2, by omega⟩
    have hi9 : i ≤ 9 := by omega
    simp only [shift_GetUint.l0]
    by_cases hlt : i < xs.length
    · rw [if_pos (by omega), show decide ((i : Int) < 10) = true from decide_eq_true (by omega)]
      simp only [shift_GetUint.j1]
      have hdr : xs.drop i = xs[i] :: xs.drop (i + 1) := List.drop_eq_getElem_cons hlt
      have hc := hB xs[i] (List.getElem_mem hlt)
      have hw : wrap64 (7 * (i : Int)) = 7 * (i : Int) := wrap64_id _ (by omega) (by omega)
      have hw1 : wrap64 ((i : Int) + 1) = ((i + 1 : Nat) : Int) := by rw [wrap64_id _ (by omega) (by omega)]; simp
      have hp := pow128_pos i
      have h9 := pow_le_9 i hi9
      rw [if_pos trivial, if_pos (by omega), if_pos (by omega), rd_at xs i hlt, hw, hw1, if_pos (by omega), andNot128_at _ hc.1 hc.2,
        show IntKind.u64.wrap (xs[i] % 128) = xs[i] % 128 by rw [IntKind.wrap_u64]; omega, shl_at _ i hi9, shr_at _ i hi9, hdr]
      simp only [gets]
      rw [if_neg (by omega : ¬ i = 10)]
      obtain ⟨b, hb⟩ : ∃ b, b = xs[i] % 128 := ⟨_, rfl⟩
      rw [← hb]
      have hb0 : 0 ≤ b := by omega
      have hb1 : b < 128 := by omega
      have hr := room_iff b i hb0 hi9
      by_cases hroom : b * 128 ^ i < 18446744073709551616
      · rw [if_pos (hr.2 hroom), if_neg (show ¬ 18446744073709551616 ≤ b * 128 ^ i by omega), Int.emod_eq_of_lt (Int.mul_nonneg hb0 (by omega)) hroom, or_place n b i hn0 hn1 hb0 hroom hi9]
        have hmul : b * 128 ^ i ≤ 127 * 128 ^ i := Int.mul_le_mul_of_nonneg_right (by omega) (by omega)
        by_cases h128 : 128 ≤ xs[i]
        · rw [if_neg (show ¬ xs[i] / 128 = 0 by omega), if_pos h128]
          exact ih k (i + 1) _ xs hB (by omega) (by omega) hL (by have := Int.mul_nonneg hb0 (show (0 : Int) ≤ 128 ^ i by omega); omega) (by rw [Int.pow_succ]; omega) (by omega)
        · rw [if_pos (show xs[i] / 128 = 0 by omega), if_neg h128]
          by_cases h0 : xs[i] = 0
          · rw [if_pos h0]
            by_cases hi0 : 0 < i
            · rw [if_pos (by omega), if_pos ⟨h0, hi0⟩]
            · rw [if_neg (by omega), if_neg (fun h => hi0 h.2)]; simp
          · rw [if_neg h0, if_neg (fun h => h0 h.1)]; simp
      · rw [if_neg (fun h => hroom (hr.1 h)), if_pos (by omega)]
    · rw [if_neg (by omega)]
      simp only [shift_GetUint.j1]
      rw [if_neg (by decide), if_neg (by omega), List.drop_eq_nil_of_le (by omega)]
      simp only [gets]
      rw [if_neg (by omega)]
theorem get_f (k : Nat) (xs : List Int) (hB : Bytes xs) (hL : xs.length ≤ 9223372036854775807) (hk : 22 ≤ k) : shift_GetUint.f k xs = some (gets xs 0 0) := by
  unfold shift_GetUint.f
  have := get_l 10 k 0 0 xs hB (by omega) (by omega) hL (by omega) (by decide) (by omega)
  simpa using this
theorem put_l (d : Nat) : ∀ (k : Nat) (n : Nat) (l : List Int), n < 128 ^ (d + 1) → d < k → l.length + d < 140737488355328 → shift_PutUint.l0 k l (n : Int) = some (l ++ puts n) := by
  induction d with
  | zero =>
    intro k n l hn hk hl
    obtain ⟨k, rfl⟩ : ∃ m, k = m + 1 := ⟨k - 1, by omega⟩
    simp only [shift_PutUint.l0]
    rw [if_pos (by omega), if_pos (by omega), puts_lo (by omega), show (n : Int) % 256 = n by omega]
  | succ d ih =>
    intro k n l hn hk hl
    obtain ⟨k, rfl⟩ : ∃ m, k = m + 1 := ⟨k - 1, by omega⟩
    simp only [shift_PutUint.l0]
    by_cases h : n < 128
    · rw [if_pos (by omega), if_pos (by omega), puts_lo (by omega), show (n : Int) % 256 = n by omega]
    · rw [if_neg (by omega), if_pos (by omega), show (n : Int) / 128 = ((n / 128 : Nat) : Int) by omega,
        ih k (n / 128) _ (by rw [Nat.pow_succ] at hn; exact Nat.div_lt_of_lt_mul (by rw [Nat.mul_comm]; exact hn)) (by omega) (by simp; omega),
        puts_hi h, or128_at _ (by omega) (by omega), show (n : Int) % 256 % 128 + 128 = ((n % 128 + 128 : Nat) : Int) by omega, List.append_assoc]
      rfl
theorem put_f (k : Nat) (l : List Int) (n : Int) (h0 : 0 ≤ n) (h1 : n < 18446744073709551616) (hk : 10 ≤ k) (hl : l.length + 10 < 140737488355328) :
    shift_PutUint.f k l n = some (l ++ puts n.toNat) := by
  unfold shift_PutUint.f
  have := put_l 9 k n.toNat l (by have := pow10; omega) (by omega) (by omega)
  rwa [show ((n.toNat : Nat) : Int) = n by omega] at this
end Go.Proofs.Ytgmdoapedhppmaa.Pure

/- The codec, plain: bytes of epochs and rows, and readers of them, over whole numbers, lists and strings; no program in it but the readers of HRead, HKey, HRows, HEpoch. -/
namespace Go.Proofs.Ytgmdoapedhppmaa.Code
set_option linter.unusedVariables false
set_option linter.unusedSimpArgs false
open Go.RowKit Go.Proofs.Ytgmdoapedhppmaa.PC Go.Proofs.Ytgmdoapedhppmaa.B Go.Proofs.Ytgmdoapedhppmaa.Pure Go.Proofs.YtgmdoapedhppmaaW.PrintWords Go.Proofs.YtgmdoapedhppmaaW.PrintLast Go.Proofs.YtgmdoapedhppmaaW.PrintMore
/-- So many bytes are never had. -/
def LIM : Nat := 3518437208882
def bnd {α β : Type} (q : Except Int α) (f : α → Except Int β) : Except Int β := match q with | .error c => .error c | .ok x => f x
theorem bnd_ok {α β : Type} {q : Except Int α} {f : α → Except Int β} {y : β} (h : bnd q f = .ok y) : ∃ x, q = .ok x ∧ f x = .ok y := by
  cases q with
  | error c => cases h
  | ok x => exact ⟨x, rfl, h⟩
/-! ### Bytes and strings -/
theorem strs_bytes (s : ByteArray) : strOfNums (bytesOf s) = s := by
  apply ByteArray.ext
  apply Array.ext'
  simp only [strOfNums, bytesOf, List.map_map]
  conv => rhs; rw [← List.map_id s.data.toList]
  apply List.map_congr_left
  intro x _
  simp
theorem bytes_strs (l : List Int) (h : Bytes l) : bytesOf (strOfNums l) = l := by
  unfold bytesOf strOfNums
  simp only [List.map_map]
  conv => rhs; rw [← List.map_id l]
  apply List.map_congr_left
  intro x hx
  have := h x hx
  simp only [Function.comp, UInt8.toNat_ofNat', id]
  omega
theorem bytesOf_bytes (s : ByteArray) : Bytes (bytesOf s) := by
  intro x hx
  obtain ⟨b, _, rfl⟩ := List.mem_map.1 hx
  have := b.toNat_lt
  exact ⟨by omega, by omega⟩
theorem bytesOf_inj {s t : ByteArray} (h : bytesOf s = bytesOf t) : s = t := by rw [← strs_bytes s, h, strs_bytes]
theorem bytesOf_nil {s : ByteArray} : s.size = 0 ↔ bytesOf s = [] := by rw [← List.length_eq_zero_iff, bytesOf_length]
/-! ### Takers -/
def tN (lo hi : Int) (l : List Int) : Except Int (Int × List Int) :=
  if (gets l 0 0).2.2 = 0 then (if lo ≤ (gets l 0 0).1 ∧ (gets l 0 0).1 ≤ hi then .ok ((gets l 0 0).1, l.drop (gets l 0 0).2.1.toNat) else .error 3) else .error (gets l 0 0).2.2
def tKey (last : S28) (l : List Int) : Except Int (S28 × List Int) :=
  bnd (takeB 1 l) fun p => if byte0 p.1 < 8 then bnd (tN 1 64 p.2) fun n => bnd (takeB n.1 n.2) fun m => if lessB last ⟨byte0 p.1, m.1⟩ then .ok (⟨byte0 p.1, m.1⟩, m.2) else .error 3 else .error 3
def tChange (last : S28) (l : List Int) : Except Int (S50 × List Int) :=
  bnd (tKey last l) fun p => bnd (tN 0 257 p.2) fun n => bnd (takeB (mx (n.1 - 1) 0) n.2) fun m => .ok (⟨p.1, n.1 == 0, m.1⟩, m.2)
def tChanges : Nat → S28 → List Int → Except Int (List S50 × List Int)
  | 0, _, l => .ok ([], l)
  | n + 1, last, l => bnd (tChange last l) fun p => bnd (tChanges n p.1.f0 p.2) fun q => .ok (p.1 :: q.1, q.2)
def key0 : S28 := ⟨0, ⟨#[]⟩⟩
def tTxn (N last : Int) (l : List Int) : Except Int (S47 × List Int) :=
  bnd (tN 0 4294967295 l) fun p => if last < p.1 then bnd (tN 1 32 p.2) fun n => bnd (tChanges n.1.toNat key0 n.2) fun q => .ok (⟨N * 4294967296 + p.1, q.1⟩, q.2) else .error 3
def tTxns (N : Int) : Nat → Int → List Int → Except Int (List S47 × List Int)
  | 0, _, l => .ok ([], l)
  | n + 1, last, l => bnd (tTxn N last l) fun p => bnd (tTxns N n (p.1.f0 - N * 4294967296) p.2) fun q => .ok (p.1 :: q.1, q.2)
def tEpoch (l : List Int) : Except Int ((Int × List S47) × List Int) :=
  bnd (tN 1 4294967295 l) fun p => bnd (tN 0 64 p.2) fun n => bnd (tTxns p.1 n.1.toNat (-1) n.2) fun q => .ok ((p.1, q.1), q.2)
def tRow (last : S28) (l : List Int) : Except Int (S57 × List Int) :=
  bnd (tKey last l) fun p => bnd (tN 0 256 p.2) fun n => bnd (takeB n.1 n.2) fun m => .ok (⟨p.1, m.1⟩, m.2)
def tRowsL : Nat → S28 → List Int → Except Int (List S57 × List Int)
  | 0, _, l => .ok ([], l)
  | n + 1, last, l => bnd (tRow last l) fun p => bnd (tRowsL n p.1.f0 p.2) fun q => .ok (p.1 :: q.1, q.2)
def tRows (l : List Int) : Except Int (List S57 × List Int) := bnd (tN 0 4611686018427387904 l) fun p => tRowsL p.1.toNat key0 p.2
/-! ### They are the readers -/
/-- What is left is an end of what there was. -/
def Rest (l' l : List Int) : Prop := ∃ k, l' = l.drop k
theorem Rest.bytes {l' l : List Int} (h : Rest l' l) (hB : Bytes l) : Bytes l' := by obtain ⟨k, rfl⟩ := h; exact hB.drop k
theorem Rest.len {l' l : List Int} (h : Rest l' l) : l'.length ≤ l.length := by obtain ⟨k, rfl⟩ := h; rw [List.length_drop]; omega
theorem Rest.trans {a b c : List Int} (h : Rest a b) (k : Rest b c) : Rest a c := by
  obtain ⟨i, rfl⟩ := h
  obtain ⟨j, rfl⟩ := k
  exact ⟨j + i, by rw [List.drop_drop]⟩
theorem Rest.refl (a : List Int) : Rest a a := ⟨0, rfl⟩
theorem tN_rest {lo hi n : Int} {l l' : List Int} (h : tN lo hi l = .ok (n, l')) : Rest l' l := by
  unfold tN at h
  split at h
  · split at h
    · injection h with h; injection h with _ h; exact ⟨_, h.symm⟩
    · cases h
  · cases h
theorem takeB_rest {n : Int} {s : ByteArray} {l l' : List Int} (h : takeB n l = .ok (s, l')) : Rest l' l := by
  unfold PC.takeB at h
  split at h
  · cases h
  · injection h with h; injection h with _ h; exact ⟨_, h.symm⟩
theorem tKey_rest {last x : S28} {l l' : List Int} (h : tKey last l = .ok (x, l')) : Rest l' l ∧ l'.length < l.length := by
  unfold tKey at h
  obtain ⟨⟨s, l1⟩, h1, h⟩ := bnd_ok h
  simp only at h
  split at h
  · obtain ⟨⟨n, l2⟩, h2, h⟩ := bnd_ok h
    obtain ⟨⟨m, l3⟩, h3, h⟩ := bnd_ok h
    simp only at h
    split at h
    · injection h with h; injection h with _ h; subst h
      have a : Rest l3 l2 := takeB_rest h3
      have b := tN_rest h2
      have c := takeB_rest h1
      refine ⟨a.trans (b.trans c), ?_⟩
      have hn := takeB_nat h1
      have e1 : l1.length < l.length := by
        unfold PC.takeB at h1
        rw [if_neg (by omega)] at h1
        injection h1 with h1; injection h1 with _ h1
        rw [← h1, List.length_drop]
        simp; omega
      have := a.len
      have := b.len
      omega
    · cases h
  · cases h
theorem takeN_t {lo hi : Int} {l : List Int} (hB : Bytes l) (hL : l.length ≤ LIM) (h0 : 0 ≤ lo) (h1 : hi < 9223372036854775808) : takeN 40 lo hi l = some (tN lo hi l) := by
  unfold takeN tN
  rw [get_f 40 l hB (by unfold LIM at hL; omega) (by decide)]
  simp only [Option.bind_some]
  rcases hg : gets l 0 0 with ⟨n, s, e⟩
  simp only
  by_cases he : e = 0
  · subst he
    obtain ⟨v, k, hv, hs, hk, _, _, _⟩ := gets_inv l 0 0 n s hB (by omega) hg
    have hs' : 0 ≤ s ∧ s ≤ (l.length : Int) := by omega
    rw [if_pos rfl, if_pos hs', if_pos rfl]
    congr 1
    by_cases hn : lo ≤ n ∧ n ≤ hi
    · rw [if_pos hn, if_pos hn]
      have hw : wrap64 n = n := by unfold wrap64; omega
      rw [hw]
    · rw [if_neg hn, if_neg hn]
  · rw [if_neg he, if_neg he]
theorem takeKey_t {last : S28} {l : List Int} (hB : Bytes l) (hL : l.length ≤ LIM) : takeKey 40 last l = some (tKey last l) := by
  unfold takeKey tKey
  cases h1 : takeB 1 l with
  | error c => rfl
  | ok p =>
    obtain ⟨s, l1⟩ := p
    have r1 := takeB_rest h1
    simp only [bnd]
    by_cases hs : byte0 s < 8
    · rw [if_pos hs, if_pos hs, takeN_t (r1.bytes hB) (Nat.le_trans r1.len hL) (by decide) (by decide)]
      simp only [Option.bind_some]
      cases h2 : tN 1 64 l1 with
      | error c => rfl
      | ok q =>
        obtain ⟨n, l2⟩ := q
        simp only
        cases takeB n l2 with
        | error c => rfl
        | ok m => obtain ⟨m, l3⟩ := m; simp only [apply_ite some]
    · rw [if_neg hs, if_neg hs]
theorem takeChanges_t (n : Nat) : ∀ (last : S28) (acc : List S50) (l : List Int), Bytes l → l.length ≤ LIM → takeChangesL 40 n last acc l = some (bnd (tChanges n last l) fun q => .ok (acc ++ q.1, q.2)) := by
  induction n with
  | zero => intro last acc l _ _; simp [takeChangesL, tChanges, bnd]
  | succ n ih =>
    intro last acc l hB hL
    simp only [takeChangesL, tChanges, tChange]
    rw [takeKey_t hB hL]
    simp only [Option.bind_some]
    cases h1 : tKey last l with
    | error c => rfl
    | ok p =>
      obtain ⟨key, l1⟩ := p
      have r1 := (tKey_rest h1).1
      simp only [bnd]
      rw [takeN_t (r1.bytes hB) (Nat.le_trans r1.len hL) (by decide) (by decide)]
      simp only [Option.bind_some]
      cases h2 : tN 0 257 l1 with
      | error c => rfl
      | ok q =>
        obtain ⟨m, l2⟩ := q
        have r2 := (tN_rest h2).trans r1
        simp only
        cases h3 : takeB (mx (m - 1) 0) l2 with
        | error c => rfl
        | ok v =>
          obtain ⟨v, l3⟩ := v
          have r3 := (takeB_rest h3).trans r2
          simp only
          rw [ih key _ l3 (r3.bytes hB) (Nat.le_trans r3.len hL)]
          cases tChanges n key l3 with
          | error c => rfl
          | ok q => simp only [bnd, List.append_assoc, List.singleton_append]
theorem tChange_rest {last : S28} {x : S50} {l l' : List Int} (h : tChange last l = .ok (x, l')) : Rest l' l := by
  unfold tChange at h
  obtain ⟨⟨k, l1⟩, h1, h⟩ := bnd_ok h
  obtain ⟨⟨n, l2⟩, h2, h⟩ := bnd_ok h
  obtain ⟨⟨m, l3⟩, h3, h⟩ := bnd_ok h
  injection h with h; injection h with _ h; subst h
  exact (takeB_rest h3).trans ((tN_rest h2).trans (tKey_rest h1).1)
theorem tChanges_rest (n : Nat) : ∀ {last : S28} {xs : List S50} {l l' : List Int}, tChanges n last l = .ok (xs, l') → Rest l' l := by
  induction n with
  | zero => intro last xs l l' h; injection h with h; injection h with _ h; exact ⟨0, h.symm⟩
  | succ n ih =>
    intro last xs l l' h
    obtain ⟨⟨c, l1⟩, h1, h⟩ := bnd_ok h
    obtain ⟨⟨cs, l2⟩, h2, h⟩ := bnd_ok h
    injection h with h; injection h with _ h; subst h
    exact (ih h2).trans (tChange_rest h1)
theorem tTxn_rest {N last : Int} {x : S47} {l l' : List Int} (h : tTxn N last l = .ok (x, l')) : Rest l' l := by
  unfold tTxn at h
  obtain ⟨⟨k, l1⟩, h1, h⟩ := bnd_ok h
  simp only at h
  split at h
  · obtain ⟨⟨n, l2⟩, h2, h⟩ := bnd_ok h
    obtain ⟨⟨m, l3⟩, h3, h⟩ := bnd_ok h
    injection h with h; injection h with _ h; subst h
    exact (tChanges_rest _ h3).trans ((tN_rest h2).trans (tN_rest h1))
  · cases h
theorem takeTxns_t (N : Int) (n : Nat) : ∀ (last : Int) (acc : List S47) (l : List Int), Bytes l → l.length ≤ LIM → takeTxnsL 40 N n last acc l = some (bnd (tTxns N n last l) fun q => .ok (acc ++ q.1, q.2)) := by
  induction n with
  | zero => intro last acc l _ _; simp [takeTxnsL, tTxns, bnd]
  | succ n ih =>
    intro last acc l hB hL
    simp only [takeTxnsL, tTxns, tTxn]
    rw [takeN_t hB hL (by decide) (by decide)]
    simp only [Option.bind_some]
    cases h1 : tN 0 4294967295 l with
    | error c => rfl
    | ok p =>
      obtain ⟨tid, l1⟩ := p
      have r1 := tN_rest h1
      simp only [bnd]
      by_cases hlt : last < tid
      · rw [if_pos hlt, if_pos hlt, takeN_t (r1.bytes hB) (Nat.le_trans r1.len hL) (by decide) (by decide)]
        simp only [Option.bind_some]
        cases h2 : tN 1 32 l1 with
        | error c => rfl
        | ok q =>
          obtain ⟨m, l2⟩ := q
          have r2 := (tN_rest h2).trans r1
          simp only
          have := takeChanges_t m.toNat key0 [] l2 (r2.bytes hB) (Nat.le_trans r2.len hL)
          rw [show takeChangesL 40 m.toNat ⟨0, ⟨#[]⟩⟩ [] l2 = _ from this]
          cases h3 : tChanges m.toNat key0 l2 with
          | error c => rfl
          | ok v =>
            obtain ⟨cs, l3⟩ := v
            have r3 := (tChanges_rest _ h3).trans r2
            simp only [bnd, Option.bind_some, List.nil_append]
            rw [ih tid _ l3 (r3.bytes hB) (Nat.le_trans r3.len hL), show N * 4294967296 + tid - N * 4294967296 = tid by omega]
            cases tTxns N n tid l3 with
            | error c => rfl
            | ok q => simp only [bnd, List.append_assoc, List.singleton_append]
      · rw [if_neg hlt, if_neg hlt]
theorem takeEpoch_t {l : List Int} (hB : Bytes l) (hL : l.length ≤ LIM) : takeEpoch 40 l = some (tEpoch l) := by
  unfold takeEpoch tEpoch
  rw [takeN_t hB hL (by decide) (by decide)]
  simp only [Option.bind_some]
  cases h1 : tN 1 4294967295 l with
  | error c => rfl
  | ok p =>
    obtain ⟨N, l1⟩ := p
    have r1 := tN_rest h1
    simp only [bnd]
    rw [takeN_t (r1.bytes hB) (Nat.le_trans r1.len hL) (by decide) (by decide)]
    simp only [Option.bind_some]
    cases h2 : tN 0 64 l1 with
    | error c => rfl
    | ok q =>
      obtain ⟨n, l2⟩ := q
      have r2 := (tN_rest h2).trans r1
      simp only
      rw [takeTxns_t N n.toNat (-1) [] l2 (r2.bytes hB) (Nat.le_trans r2.len hL)]
      cases tTxns N n.toNat (-1) l2 with
      | error c => rfl
      | ok q => simp [bnd]
theorem takeRowsL_t (n : Nat) : ∀ (last : S28) (acc : List S57) (l : List Int), Bytes l → acc.length + l.length ≤ LIM → takeRowsL 40 n last acc l = some (bnd (tRowsL n last l) fun q => .ok (acc ++ q.1, q.2)) := by
  induction n with
  | zero => intro last acc l _ _; simp [takeRowsL, tRowsL, bnd]
  | succ n ih =>
    intro last acc l hB hL
    have hL' : l.length ≤ LIM := by omega
    simp only [takeRowsL, tRowsL, tRow]
    rw [takeKey_t hB hL']
    simp only [Option.bind_some]
    cases h1 : tKey last l with
    | error c => rfl
    | ok p =>
      obtain ⟨key, l1⟩ := p
      obtain ⟨r1, s1⟩ := tKey_rest h1
      simp only [bnd]
      rw [takeN_t (r1.bytes hB) (Nat.le_trans r1.len hL') (by decide) (by decide)]
      simp only [Option.bind_some]
      cases h2 : tN 0 256 l1 with
      | error c => rfl
      | ok q =>
        obtain ⟨m, l2⟩ := q
        have r2 := (tN_rest h2).trans r1
        have s2 := (tN_rest h2).len
        simp only
        cases h3 : takeB m l2 with
        | error c => rfl
        | ok v =>
          obtain ⟨v, l3⟩ := v
          have r3 := (takeB_rest h3).trans r2
          have s3 := (takeB_rest h3).len
          simp only
          rw [if_pos (by unfold LIM at hL; omega), ih key _ l3 (r3.bytes hB) (by rw [List.length_append, List.length_singleton]; omega)]
          cases tRowsL n key l3 with
          | error c => rfl
          | ok q => simp only [bnd, List.append_assoc, List.singleton_append]
theorem takeRows_t {l : List Int} (hB : Bytes l) (hL : l.length ≤ LIM) : takeRows 40 l = some (tRows l) := by
  unfold takeRows tRows
  rw [takeN_t hB hL (by decide) (by decide)]
  simp only [Option.bind_some]
  cases h1 : tN 0 4611686018427387904 l with
  | error c => rfl
  | ok p =>
    obtain ⟨n, l1⟩ := p
    have r1 := tN_rest h1
    simp only [bnd]
    have := takeRowsL_t n.toNat key0 [] l1 (r1.bytes hB) (by have := r1.len; simp; omega)
    rw [show takeRowsL 40 n.toNat ⟨0, ⟨#[]⟩⟩ [] l1 = _ from this]
    cases tRowsL n.toNat key0 l1 with
    | error c => rfl
    | ok q => simp [bnd]
end Go.Proofs.Ytgmdoapedhppmaa.Code

/- Less, plain: an order of keys. -/
namespace Go.Proofs.Ytgmdoapedhppmaa.PC
set_option linter.unusedVariables false
set_option linter.unusedSimpArgs false
open Go.RowKit Go.Proofs.YtgmdoapedhppmaaW.PrintWords Go.Proofs.YtgmdoapedhppmaaW.PrintLast Go.Proofs.YtgmdoapedhppmaaW.PrintMore
theorem less_k (k : Nat) (hk : 3 ≤ k) (a b : S28) : codec_Less.f k a.f0 a.f1 b.f0 b.f1 = some (lessB a b) := at_rounds (codec_Less.mono _ _ _ _) hk (less_f a b)
theorem less_irrefl (a : S28) : lessB a a = false := by
  unfold lessB
  simp [bl_irrefl]
theorem less_trans {a b c : S28} (h1 : lessB a b = true) (h2 : lessB b c = true) : lessB a c = true := by
  unfold lessB at *
  simp only [Bool.or_eq_true, Bool.and_eq_true, decide_eq_true_eq] at *
  rcases h1 with h1 | ⟨e1, h1⟩
  · rcases h2 with h2 | ⟨e2, h2⟩
    · exact .inl (by omega)
    · exact .inl (by omega)
  · rcases h2 with h2 | ⟨e2, h2⟩
    · exact .inl (by omega)
    · exact .inr ⟨by omega, bl_trans _ _ _ h1 h2⟩
theorem less_asymm {a b : S28} (h1 : lessB a b = true) : lessB b a = false := by
  cases h : lessB b a with
  | false => rfl
  | true => have := less_trans h1 h; rw [less_irrefl] at this; cases this
theorem less_tri (a b : S28) : (lessB a b || lessB b a) = !(a.f0 == b.f0 && (a.f1.toList == b.f1.toList)) := by
  unfold lessB
  by_cases h : a.f0 = b.f0
  · have h2 : ¬ a.f0 < b.f0 := by omega
    have h3 : ¬ b.f0 < a.f0 := by omega
    rcases bl_tri a.f1.toList b.f1.toList with ⟨p, q, r⟩ | ⟨p, q, r⟩ | ⟨p, q, r⟩
    · simp [h, p, q, r]
    · simp [h, p, q, r]
    · simp [h, p, q, r, bl_irrefl]
  · by_cases h2 : a.f0 < b.f0
    · simp [h, h2]
    · have h3 : b.f0 < a.f0 := by omega
      simp [h, h3]
theorem less_more (a : S28) : lessB a ⟨a.f0, a.f1 ++ (⟨#[120]⟩ : ByteArray)⟩ = true := by
  unfold lessB
  have : (a.f1 ++ (⟨#[120]⟩ : ByteArray)).toList = a.f1.toList ++ [120] := by
    rw [ByteArray.toList_eq, ByteArray.toList_eq, ByteArray.data_append, Array.toList_append]
  simp [this, bl_more]
end Go.Proofs.Ytgmdoapedhppmaa.PC

/- The codec, plain: what is written is read; cut off it ends too early; what is read was written. -/
namespace Go.Proofs.Ytgmdoapedhppmaa.Code
set_option linter.unusedVariables false
set_option linter.unusedSimpArgs false
open Go.RowKit Go.Proofs.Ytgmdoapedhppmaa.PC Go.Proofs.Ytgmdoapedhppmaa.B Go.Proofs.Ytgmdoapedhppmaa.Pure Go.Proofs.YtgmdoapedhppmaaW.PrintWords Go.Proofs.YtgmdoapedhppmaaW.PrintLast Go.Proofs.YtgmdoapedhppmaaW.PrintMore
/-! ### The bytes -/
def eKey (k : S28) : List Int := [k.f0] ++ (puts k.f1.size ++ bytesOf k.f1)
def eChange (c : S50) : List Int := eKey c.f0 ++ (puts (if c.f1 then 0 else c.f2.size + 1) ++ bytesOf c.f2)
def eChanges : List S50 → List Int
  | [] => []
  | c :: l => eChange c ++ eChanges l
def eTxn (N : Int) (t : S47) : List Int := puts (t.f0 - N * 4294967296).toNat ++ (puts t.f1.length ++ eChanges t.f1)
def eTxns (N : Int) : List S47 → List Int
  | [] => []
  | t :: l => eTxn N t ++ eTxns N l
def eEpoch (N : Int) (l : List S47) : List Int := puts N.toNat ++ (puts l.length ++ eTxns N l)
def eRow (r : S57) : List Int := eKey r.f0 ++ (puts r.f1.size ++ bytesOf r.f1)
def eRowsL : List S57 → List Int
  | [] => []
  | r :: l => eRow r ++ eRowsL l
def eRows (l : List S57) : List Int := puts l.length ++ eRowsL l
/-! ### What may be -/
structure GKey (k : S28) : Prop where
  lo : 0 ≤ k.f0
  hi : k.f0 < 8
  pos : 0 < k.f1.size
  most : k.f1.size ≤ 64
structure GChange (c : S50) : Prop where
  key : GKey c.f0
  most : c.f2.size ≤ 256
  gone : c.f1 = true → c.f2.size = 0
def GChanges : S28 → List S50 → Prop
  | _, [] => True
  | last, c :: l => lessB last c.f0 = true ∧ GChange c ∧ GChanges c.f0 l
structure GTxn (N : Int) (t : S47) : Prop where
  lo : N * 4294967296 ≤ t.f0
  hi : t.f0 ≤ N * 4294967296 + 4294967295
  pos : 1 ≤ t.f1.length
  most : t.f1.length ≤ 32
  all : GChanges key0 t.f1
def GTxns (N : Int) : Int → List S47 → Prop
  | _, [] => True
  | last, t :: l => last < t.f0 - N * 4294967296 ∧ GTxn N t ∧ GTxns N (t.f0 - N * 4294967296) l
structure GEpoch (N : Int) (l : List S47) : Prop where
  lo : 1 ≤ N
  hi : N ≤ 4294967295
  most : l.length ≤ 64
  all : GTxns N (-1) l
structure GRow (r : S57) : Prop where
  key : GKey r.f0
  most : r.f1.size ≤ 256
def GRowsL : S28 → List S57 → Prop
  | _, [] => True
  | last, r :: l => lessB last r.f0 = true ∧ GRow r ∧ GRowsL r.f0 l
/-! ### Written, then read -/
/-- p reads x off the bytes e; cut off, it ends too early. -/
structure Reads {β : Type} (p : List Int → Except Int (β × List Int)) (x : β) (e : List Int) : Prop where
  ok : ∀ rest, p (e ++ rest) = .ok (x, rest)
  cut : ∀ c, c < e.length → p (e.take c) = .error 2
theorem Reads.bind {α β : Type} {p : List Int → Except Int (α × List Int)} {f : α → List Int → Except Int (β × List Int)} {x : α} {y : β} {e e' : List Int} (h : Reads p x e) (k : Reads (f x) y e') : Reads (fun l => bnd (p l) fun q => f q.1 q.2) y (e ++ e') := by
  refine ⟨fun rest => ?_, fun c hc => ?_⟩
  · show bnd (p (e ++ e' ++ rest)) _ = _
    rw [List.append_assoc, h.ok]
    exact k.ok rest
  · show bnd (p ((e ++ e').take c)) _ = _
    by_cases hc' : c < e.length
    · rw [List.take_append_of_le_length (by omega), h.cut c hc']
      rfl
    · rw [List.take_append, List.take_of_length_le (by omega), h.ok]
      exact k.cut (c - e.length) (by rw [List.length_append] at hc; omega)
theorem Reads.done {β : Type} (x : β) : Reads (fun l => .ok (x, l)) x [] := ⟨fun rest => rfl, fun c hc => absurd hc (Nat.not_lt_zero c)⟩
theorem Reads.of {β : Type} {p p' : List Int → Except Int (β × List Int)} {x : β} {e e' : List Int} (h : Reads p x e) (hp : p' = p) (he : e' = e) : Reads p' x e' := by subst hp; subst he; exact h
theorem reads_n (lo hi n : Int) (h0 : 0 ≤ n) (h1 : n < 18446744073709551616) (hlo : lo ≤ n) (hhi : n ≤ hi) : Reads (tN lo hi) n (puts n.toNat) := by
  refine ⟨fun rest => ?_, fun c hc => ?_⟩
  · unfold tN
    rw [gets_puts rest n.toNat (by omega)]
    simp only [if_true]
    rw [if_pos (by omega), show ((n.toNat : Nat) : Int) = n by omega, Int.toNat_natCast, List.drop_left]
  · unfold tN
    rw [gets_cut n.toNat 0 0 c (by simp; omega) (Or.inl rfl) hc]
    rfl
theorem reads_b (s : ByteArray) (n : Int) (hn : n = (s.size : Int)) : Reads (PC.takeB n) s (bytesOf s) := by
  subst hn
  refine ⟨fun rest => ?_, fun c hc => ?_⟩
  · unfold PC.takeB
    have e : (bytesOf s).length = s.size := bytesOf_length s
    rw [if_neg (by rw [List.length_append]; omega), Int.toNat_natCast, ← e, List.take_left, List.drop_left, strs_bytes]
  · unfold PC.takeB
    rw [bytesOf_length] at hc
    rw [if_pos (by rw [List.length_take, bytesOf_length]; omega)]
theorem reads_one (x : Int) (h0 : 0 ≤ x) (h1 : x < 256) : Reads (PC.takeB 1) (strOfNums [x]) [x] := by
  refine ⟨fun rest => ?_, fun c hc => ?_⟩
  · unfold PC.takeB
    rw [if_neg (by simp; omega)]
    rfl
  · have : c = 0 := by simpa using hc
    subst this
    rfl
theorem byte0_one (x : Int) (h0 : 0 ≤ x) (h1 : x < 256) : byte0 (strOfNums [x]) = x := by
  have h : 0 < (strOfNums [x]).size := by rw [strOfNums_size]; exact Nat.zero_lt_one
  rw [byte0_get h]
  have e : (strOfNums [x])[0] = UInt8.ofNat x.toNat := by simp [strOfNums, ByteArray.getElem_eq_getElem_data]
  rw [e]
  simp only [UInt8.toNat_ofNat']
  omega
theorem reads_key (last k : S28) (hk : GKey k) (hl : lessB last k = true) : Reads (tKey last) k (eKey k) := by
  obtain ⟨h0, h1, h2, h3⟩ := hk
  have b := byte0_one k.f0 h0 (by omega)
  have r2 := reads_n 1 64 (k.f1.size : Int) (by omega) (by omega) (by omega) (by omega)
  rw [Int.toNat_natCast] at r2
  have r3 := reads_b k.f1 _ rfl
  have d : Reads (fun l => if lessB last ⟨byte0 (strOfNums [k.f0]), k.f1⟩ = true then .ok ((⟨byte0 (strOfNums [k.f0]), k.f1⟩ : S28), l) else .error 3) k [] := by
    rw [b]
    show Reads (fun l => if lessB last k = true then .ok (k, l) else .error 3) k []
    rw [hl]
    exact Reads.done k
  have a3 := r3.bind (f := fun m l => if lessB last ⟨byte0 (strOfNums [k.f0]), m⟩ = true then .ok ((⟨byte0 (strOfNums [k.f0]), m⟩ : S28), l) else .error 3) d
  have a2 := r2.bind (f := fun n l => bnd (PC.takeB n l) fun m => if lessB last ⟨byte0 (strOfNums [k.f0]), m.1⟩ = true then .ok ((⟨byte0 (strOfNums [k.f0]), m.1⟩ : S28), m.2) else .error 3) a3
  have a1 := (reads_one k.f0 h0 (by omega)).bind (f := fun s l => if byte0 s < 8 then bnd (tN 1 64 l) fun n => bnd (PC.takeB n.1 n.2) fun m => if lessB last ⟨byte0 s, m.1⟩ = true then .ok ((⟨byte0 s, m.1⟩ : S28), m.2) else .error 3 else .error 3) (y := k) (e' := puts k.f1.size ++ (bytesOf k.f1 ++ [])) (by
    have : byte0 (strOfNums [k.f0]) < 8 := by rw [b]; exact h1
    simp only [if_pos this]
    exact a2)
  exact a1.of rfl (by rw [List.append_nil]; rfl)
theorem reads_change (last : S28) (c : S50) (hc : GChange c) (hl : lessB last c.f0 = true) : Reads (tChange last) c (eChange c) := by
  obtain ⟨hk, h1, h2⟩ := hc
  have r1 := reads_key last c.f0 hk hl
  cases hg : c.f1 with
  | true =>
    have hs := h2 hg
    have r2 := reads_n 0 257 0 (by omega) (by omega) (by omega) (by omega)
    have r3 := reads_b c.f2 (mx (0 - 1) 0) (by rw [hs]; rfl)
    have d : Reads (fun l => .ok ((⟨c.f0, (0 : Int) == 0, c.f2⟩ : S50), l)) c [] := by
      have : (⟨c.f0, (0 : Int) == 0, c.f2⟩ : S50) = c := by cases c; simp_all
      rw [this]
      exact Reads.done c
    have a3 := r3.bind (f := fun m l => .ok ((⟨c.f0, (0 : Int) == 0, m⟩ : S50), l)) d
    have a2 := r2.bind (f := fun n l => bnd (PC.takeB (mx (n - 1) 0) l) fun m => .ok ((⟨c.f0, n == 0, m.1⟩ : S50), m.2)) a3
    have a1 := r1.bind (f := fun k l => bnd (tN 0 257 l) fun n => bnd (PC.takeB (mx (n.1 - 1) 0) n.2) fun m => .ok ((⟨k, n.1 == 0, m.1⟩ : S50), m.2)) a2
    exact a1.of rfl (by unfold eChange; rw [hg, List.append_nil]; rfl)
  | false =>
    have r2 := reads_n 0 257 ((c.f2.size + 1 : Nat) : Int) (by omega) (by omega) (by omega) (by omega)
    rw [Int.toNat_natCast] at r2
    have r3 := reads_b c.f2 (mx (((c.f2.size + 1 : Nat) : Int) - 1) 0) (by unfold mx; rw [if_neg (by omega)]; omega)
    have d : Reads (fun l => .ok ((⟨c.f0, ((c.f2.size + 1 : Nat) : Int) == 0, c.f2⟩ : S50), l)) c [] := by
      have e : (((c.f2.size + 1 : Nat) : Int) == 0) = false := beq_eq_false_iff_ne.2 (by omega)
      have : (⟨c.f0, ((c.f2.size + 1 : Nat) : Int) == 0, c.f2⟩ : S50) = c := by rw [e]; cases c; simp_all
      rw [this]
      exact Reads.done c
    have a3 := r3.bind (f := fun m l => .ok ((⟨c.f0, ((c.f2.size + 1 : Nat) : Int) == 0, m⟩ : S50), l)) d
    have a2 := r2.bind (f := fun n l => bnd (PC.takeB (mx (n - 1) 0) l) fun m => .ok ((⟨c.f0, n == 0, m.1⟩ : S50), m.2)) a3
    have a1 := r1.bind (f := fun k l => bnd (tN 0 257 l) fun n => bnd (PC.takeB (mx (n.1 - 1) 0) n.2) fun m => .ok ((⟨k, n.1 == 0, m.1⟩ : S50), m.2)) a2
    exact a1.of rfl (by unfold eChange; rw [hg, List.append_nil]; rfl)
theorem reads_changes : ∀ (l : List S50) (last : S28), GChanges last l → Reads (tChanges l.length last) l (eChanges l)
  | [], last, _ => Reads.done []
  | c :: l, last, h => by
    obtain ⟨h1, h2, h3⟩ := h
    have a2 := (reads_changes l c.f0 h3).bind (f := fun q r => .ok (c :: q, r)) (Reads.done (c :: l))
    have a1 := (reads_change last c h2 h1).bind (f := fun x r => bnd (tChanges l.length x.f0 r) fun q => .ok (x :: q.1, q.2)) a2
    exact a1.of rfl (by rw [List.append_nil]; rfl)
theorem reads_txn (N last : Int) (t : S47) (ht : GTxn N t) (hl : last < t.f0 - N * 4294967296) : Reads (tTxn N last) t (eTxn N t) := by
  obtain ⟨h1, h2, h3, h4, h5⟩ := ht
  have r1 := reads_n 0 4294967295 (t.f0 - N * 4294967296) (by omega) (by omega) (by omega) (by omega)
  have r2 := reads_n 1 32 (t.f1.length : Int) (by omega) (by omega) (by omega) (by omega)
  rw [Int.toNat_natCast] at r2
  have r3 := reads_changes t.f1 key0 h5
  have d : Reads (fun l => .ok ((⟨N * 4294967296 + (t.f0 - N * 4294967296), t.f1⟩ : S47), l)) t [] := by
    have : (⟨N * 4294967296 + (t.f0 - N * 4294967296), t.f1⟩ : S47) = t := by
      have e : N * 4294967296 + (t.f0 - N * 4294967296) = t.f0 := by omega
      rw [e]
    rw [this]
    exact Reads.done t
  have a3 := r3.bind (f := fun q l => .ok ((⟨N * 4294967296 + (t.f0 - N * 4294967296), q⟩ : S47), l)) d
  have a2 := r2.bind (f := fun n l => bnd (tChanges n.toNat key0 l) fun q => .ok ((⟨N * 4294967296 + (t.f0 - N * 4294967296), q.1⟩ : S47), q.2)) (by rw [Int.toNat_natCast]; exact a3)
  have a1 := r1.bind (f := fun p l => if last < p then bnd (tN 1 32 l) fun n => bnd (tChanges n.1.toNat key0 n.2) fun q => .ok ((⟨N * 4294967296 + p, q.1⟩ : S47), q.2) else .error 3) (by simp only [if_pos hl]; exact a2)
  exact a1.of rfl (by rw [List.append_nil]; rfl)
theorem reads_txns (N : Int) : ∀ (l : List S47) (last : Int), GTxns N last l → Reads (tTxns N l.length last) l (eTxns N l)
  | [], last, _ => Reads.done []
  | t :: l, last, h => by
    obtain ⟨h1, h2, h3⟩ := h
    have a2 := (reads_txns N l _ h3).bind (f := fun q r => .ok (t :: q, r)) (Reads.done (t :: l))
    have a1 := (reads_txn N last t h2 h1).bind (f := fun x r => bnd (tTxns N l.length (x.f0 - N * 4294967296) r) fun q => .ok (x :: q.1, q.2)) a2
    exact a1.of rfl (by rw [List.append_nil]; rfl)
theorem reads_epoch (N : Int) (l : List S47) (h : GEpoch N l) : Reads tEpoch (N, l) (eEpoch N l) := by
  obtain ⟨h1, h2, h3, h4⟩ := h
  have r1 := reads_n 1 4294967295 N (by omega) (by omega) (by omega) (by omega)
  have r2 := reads_n 0 64 (l.length : Int) (by omega) (by omega) (by omega) (by omega)
  rw [Int.toNat_natCast] at r2
  have a3 := (reads_txns N l (-1) h4).bind (f := fun q r => .ok ((N, q), r)) (Reads.done (N, l))
  have a2 := r2.bind (f := fun n r => bnd (tTxns N n.toNat (-1) r) fun q => .ok ((N, q.1), q.2)) (by rw [Int.toNat_natCast]; exact a3)
  have a1 := r1.bind (f := fun p r => bnd (tN 0 64 r) fun n => bnd (tTxns p n.1.toNat (-1) n.2) fun q => .ok ((p, q.1), q.2)) a2
  exact a1.of rfl (by rw [List.append_nil]; rfl)
theorem reads_row (last : S28) (r : S57) (hr : GRow r) (hl : lessB last r.f0 = true) : Reads (tRow last) r (eRow r) := by
  obtain ⟨hk, h1⟩ := hr
  have r2 := reads_n 0 256 (r.f1.size : Int) (by omega) (by omega) (by omega) (by omega)
  rw [Int.toNat_natCast] at r2
  have a3 := (reads_b r.f1 _ rfl).bind (f := fun m l => .ok ((⟨r.f0, m⟩ : S57), l)) (Reads.done r)
  have a2 := r2.bind (f := fun n l => bnd (PC.takeB n l) fun m => .ok ((⟨r.f0, m.1⟩ : S57), m.2)) a3
  have a1 := (reads_key last r.f0 hk hl).bind (f := fun k l => bnd (tN 0 256 l) fun n => bnd (PC.takeB n.1 n.2) fun m => .ok ((⟨k, m.1⟩ : S57), m.2)) a2
  exact a1.of rfl (by rw [List.append_nil]; rfl)
theorem reads_rowsL : ∀ (l : List S57) (last : S28), GRowsL last l → Reads (tRowsL l.length last) l (eRowsL l)
  | [], last, _ => Reads.done []
  | r :: l, last, h => by
    obtain ⟨h1, h2, h3⟩ := h
    have a2 := (reads_rowsL l r.f0 h3).bind (f := fun q z => .ok (r :: q, z)) (Reads.done (r :: l))
    have a1 := (reads_row last r h2 h1).bind (f := fun x z => bnd (tRowsL l.length x.f0 z) fun q => .ok (x :: q.1, q.2)) a2
    exact a1.of rfl (by rw [List.append_nil]; rfl)
theorem reads_rows (l : List S57) (h : GRowsL key0 l) (hl : l.length ≤ 4611686018427387904) : Reads tRows l (eRows l) := by
  have r1 := reads_n 0 4611686018427387904 (l.length : Int) (by omega) (by omega) (by omega) (by omega)
  rw [Int.toNat_natCast] at r1
  exact r1.bind (f := fun n r => tRowsL n.toNat key0 r) (by rw [Int.toNat_natCast]; exact reads_rowsL l key0 h)
/-! ### Read, so it was written -/
/-- Whatever p reads is good, and these were its bytes. -/
def Says {β : Type} (p : List Int → Except Int (β × List Int)) (e : β → List Int) (G : β → Prop) : Prop :=
  ∀ (l : List Int) (x : β) (l' : List Int), Bytes l → p l = .ok (x, l') → l = e x ++ l' ∧ G x
theorem says_n (lo hi : Int) (h0 : 0 ≤ lo) : Says (tN lo hi) (fun n => puts n.toNat) (fun n => lo ≤ n ∧ n ≤ hi) := by
  intro l n l' hB h
  unfold tN at h
  rcases hg : gets l 0 0 with ⟨v, s, e⟩
  rw [hg] at h
  simp only at h
  split at h
  · rename_i he
    subst he
    split at h
    · rename_i hn
      injection h with h
      injection h with h1 h2
      obtain ⟨u, k, hv, hs, hk, ht, _, _⟩ := gets_inv l 0 0 v s hB (by omega) hg
      have hv' : v = (u : Int) := by simpa using hv
      have hs' : s.toNat = k := by omega
      rw [← h1, ← h2]
      refine ⟨?_, hn⟩
      show l = puts v.toNat ++ _
      rw [hs', hv', Int.toNat_natCast, ← ht, List.take_append_drop]
    · cases h
  · cases h
theorem says_b (n : Int) (hn : 0 ≤ n) : Says (PC.takeB n) bytesOf (fun s => (s.size : Int) = n) := by
  intro l s l' hB h
  unfold PC.takeB at h
  split at h
  · cases h
  · injection h with h
    injection h with h1 h2
    rw [← h1, ← h2, bytes_strs _ (hB.take _), List.take_append_drop]
    refine ⟨rfl, ?_⟩
    show ((strOfNums (l.take n.toNat)).size : Int) = n
    rw [strOfNums_size, List.length_take]
    omega
theorem bytes_one {s : ByteArray} (hs : s.size = 1) : bytesOf s = [byte0 s] := by
  rw [byte0_get (by omega)]
  obtain ⟨⟨l⟩⟩ := s
  match l, hs with
  | [b], _ => rfl
theorem says_key (last : S28) : Says (tKey last) eKey (fun k => GKey k ∧ lessB last k = true) := by
  intro l k l' hB h
  unfold tKey at h
  obtain ⟨⟨s, l1⟩, h1, h⟩ := bnd_ok h
  obtain ⟨e1, g1⟩ := says_b 1 (by decide) l s l1 hB h1
  try dsimp only at e1 g1
  have B1 := (takeB_rest h1).bytes hB
  simp only at h
  split at h
  · rename_i h8
    obtain ⟨⟨n, l2⟩, h2, h⟩ := bnd_ok h
    simp only at h2 h
    obtain ⟨e2, g2⟩ := says_n 1 64 (by decide) l1 n l2 B1 h2
    try dsimp only at e2 g2
    have B2 := (tN_rest h2).bytes B1
    obtain ⟨⟨m, l3⟩, h3, h⟩ := bnd_ok h
    simp only at h3 h
    obtain ⟨e3, g3⟩ := says_b n (by omega) l2 m l3 B2 h3
    try dsimp only at e3 g3
    split at h
    · rename_i hl
      injection h with h
      injection h with ha hb
      have hs : s.size = 1 := by omega
      have hx : bytesOf s = [byte0 s] := bytes_one hs
      rw [← ha, ← hb]
      refine ⟨?_, ⟨?_, h8, by show 0 < m.size; omega, by show m.size ≤ 64; omega⟩, hl⟩
      · rw [e1, e2, e3, hx, show n.toNat = m.size by omega]
        simp [eKey]
      · show 0 ≤ byte0 s
        rw [byte0_get (by omega)]
        omega
    · cases h
  · cases h
theorem says_change (last : S28) : Says (tChange last) eChange (fun c => GChange c ∧ lessB last c.f0 = true) := by
  intro l c l' hB h
  unfold tChange at h
  obtain ⟨⟨k, l1⟩, h1, h⟩ := bnd_ok h
  obtain ⟨e1, g1, g1'⟩ := says_key last l k l1 hB h1
  try dsimp only at e1 g1 g1'
  have B1 := (tKey_rest h1).1.bytes hB
  obtain ⟨⟨n, l2⟩, h2, h⟩ := bnd_ok h
  simp only at h2 h
  obtain ⟨e2, g2⟩ := says_n 0 257 (by decide) l1 n l2 B1 h2
  try dsimp only at e2 g2
  have B2 := (tN_rest h2).bytes B1
  obtain ⟨⟨m, l3⟩, h3, h⟩ := bnd_ok h
  simp only at h3 h
  obtain ⟨e3, g3⟩ := says_b (mx (n - 1) 0) (by unfold mx; split <;> omega) l2 m l3 B2 h3
  try dsimp only at e3 g3
  injection h with h
  injection h with ha hb
  rw [← ha, ← hb]
  by_cases hn : n = 0
  · subst hn
    have hm : m.size = 0 := by
      have : mx (0 - 1) 0 = 0 := rfl
      rw [this] at g3
      omega
    refine ⟨?_, ⟨g1, by show m.size ≤ 256; omega, fun _ => hm⟩, g1'⟩
    rw [e1, e2, e3]
    simp [eChange]
  · have he : (n == 0) = false := beq_eq_false_iff_ne.2 hn
    have hm : (m.size : Int) = n - 1 := by
      have : mx (n - 1) 0 = n - 1 := by unfold mx; rw [if_neg (by omega)]
      rw [this] at g3
      exact g3
    refine ⟨?_, ⟨g1, by show m.size ≤ 256; omega, fun h => by rw [he] at h; cases h⟩, g1'⟩
    rw [e1, e2, e3, show n.toNat = m.size + 1 by omega]
    simp [eChange, he]
theorem says_changes (n : Nat) : ∀ last, Says (tChanges n last) eChanges (fun l => GChanges last l ∧ l.length = n) := by
  induction n with
  | zero =>
    intro last l xs l' _ h
    injection h with h
    injection h with h1 h2
    rw [← h1, ← h2]
    exact ⟨rfl, trivial, rfl⟩
  | succ n ih =>
    intro last l xs l' hB h
    obtain ⟨⟨c, l1⟩, h1, h⟩ := bnd_ok h
    obtain ⟨e1, g1, g1'⟩ := says_change last l c l1 hB h1
    try dsimp only at e1 g1 g1'
    have B1 := (tChange_rest h1).bytes hB
    obtain ⟨⟨cs, l2⟩, h2, h⟩ := bnd_ok h
    obtain ⟨e2, g2, g2'⟩ := ih c.f0 l1 cs l2 B1 h2
    try dsimp only at e2 g2 g2'
    injection h with h
    injection h with ha hb
    rw [← ha, ← hb]
    exact ⟨by rw [e1, e2]; simp [eChanges], ⟨g1', g1, g2⟩, by simp [g2']⟩
theorem says_txn (N last : Int) (hl : -1 ≤ last) : Says (tTxn N last) (eTxn N) (fun t => GTxn N t ∧ last < t.f0 - N * 4294967296) := by
  intro l t l' hB h
  unfold tTxn at h
  obtain ⟨⟨p, l1⟩, h1, h⟩ := bnd_ok h
  obtain ⟨e1, g1⟩ := says_n 0 4294967295 (by decide) l p l1 hB h1
  try dsimp only at e1 g1
  have B1 := (tN_rest h1).bytes hB
  simp only at h
  split at h
  · rename_i hp
    obtain ⟨⟨n, l2⟩, h2, h⟩ := bnd_ok h
    simp only at h2 h
    obtain ⟨e2, g2⟩ := says_n 1 32 (by decide) l1 n l2 B1 h2
    try dsimp only at e2 g2
    have B2 := (tN_rest h2).bytes B1
    obtain ⟨⟨cs, l3⟩, h3, h⟩ := bnd_ok h
    simp only at h3 h
    obtain ⟨e3, g3, g3'⟩ := says_changes n.toNat key0 l2 cs l3 B2 h3
    try dsimp only at e3 g3 g3'
    injection h with h
    injection h with ha hb
    rw [← ha, ← hb]
    have ep : N * 4294967296 + p - N * 4294967296 = p := by omega
    refine ⟨?_, ⟨by show _ ≤ N * 4294967296 + p; omega, by show N * 4294967296 + p ≤ _; omega, by show 1 ≤ cs.length; omega, by show cs.length ≤ 32; omega, g3⟩, by show last < N * 4294967296 + p - N * 4294967296; omega⟩
    rw [e1, e2, e3, show n.toNat = cs.length by omega]
    simp [eTxn, ep]
  · cases h
theorem says_txns (N : Int) (n : Nat) : ∀ last, -1 ≤ last → Says (tTxns N n last) (eTxns N) (fun l => GTxns N last l ∧ l.length = n) := by
  induction n with
  | zero =>
    intro last _ l xs l' _ h
    injection h with h
    injection h with h1 h2
    rw [← h1, ← h2]
    exact ⟨rfl, trivial, rfl⟩
  | succ n ih =>
    intro last hl l xs l' hB h
    obtain ⟨⟨t, l1⟩, h1, h⟩ := bnd_ok h
    obtain ⟨e1, g1, g1'⟩ := says_txn N last hl l t l1 hB h1
    try dsimp only at e1 g1 g1'
    have B1 := (tTxn_rest h1).bytes hB
    obtain ⟨⟨ts, l2⟩, h2, h⟩ := bnd_ok h
    obtain ⟨e2, g2, g2'⟩ := ih _ (by show -1 ≤ t.f0 - N * 4294967296; omega) l1 ts l2 B1 h2
    try dsimp only at e2 g2 g2'
    injection h with h
    injection h with ha hb
    rw [← ha, ← hb]
    exact ⟨by rw [e1, e2]; simp [eTxns], ⟨g1', g1, g2⟩, by simp [g2']⟩
theorem says_epoch : Says tEpoch (fun x => eEpoch x.1 x.2) (fun x => GEpoch x.1 x.2) := by
  intro l x l' hB h
  unfold tEpoch at h
  obtain ⟨⟨N, l1⟩, h1, h⟩ := bnd_ok h
  obtain ⟨e1, g1⟩ := says_n 1 4294967295 (by decide) l N l1 hB h1
  try dsimp only at e1 g1
  have B1 := (tN_rest h1).bytes hB
  obtain ⟨⟨n, l2⟩, h2, h⟩ := bnd_ok h
  simp only at h2 h
  obtain ⟨e2, g2⟩ := says_n 0 64 (by decide) l1 n l2 B1 h2
  try dsimp only at e2 g2
  have B2 := (tN_rest h2).bytes B1
  obtain ⟨⟨ts, l3⟩, h3, h⟩ := bnd_ok h
  simp only at h3 h
  obtain ⟨e3, g3, g3'⟩ := says_txns N n.toNat (-1) (by decide) l2 ts l3 B2 h3
  try dsimp only at e3 g3 g3'
  injection h with h
  injection h with ha hb
  rw [← ha, ← hb]
  refine ⟨?_, ⟨g1.1, g1.2, by show ts.length ≤ 64; omega, g3⟩⟩
  rw [e1, e2, e3, show n.toNat = ts.length by omega]
  simp [eEpoch]
theorem tRow_rest {last : S28} {x : S57} {l l' : List Int} (h : tRow last l = .ok (x, l')) : Rest l' l := by
  unfold tRow at h
  obtain ⟨⟨k, l1⟩, h1, h⟩ := bnd_ok h
  obtain ⟨⟨n, l2⟩, h2, h⟩ := bnd_ok h
  obtain ⟨⟨m, l3⟩, h3, h⟩ := bnd_ok h
  injection h with h; injection h with _ h; subst h
  exact (takeB_rest h3).trans ((tN_rest h2).trans (tKey_rest h1).1)
theorem says_row (last : S28) : Says (tRow last) eRow (fun r => GRow r ∧ lessB last r.f0 = true) := by
  intro l c l' hB h
  unfold tRow at h
  obtain ⟨⟨k, l1⟩, h1, h⟩ := bnd_ok h
  obtain ⟨e1, g1, g1'⟩ := says_key last l k l1 hB h1
  try dsimp only at e1 g1 g1'
  have B1 := (tKey_rest h1).1.bytes hB
  obtain ⟨⟨n, l2⟩, h2, h⟩ := bnd_ok h
  simp only at h2 h
  obtain ⟨e2, g2⟩ := says_n 0 256 (by decide) l1 n l2 B1 h2
  try dsimp only at e2 g2
  have B2 := (tN_rest h2).bytes B1
  obtain ⟨⟨m, l3⟩, h3, h⟩ := bnd_ok h
  simp only at h3 h
  obtain ⟨e3, g3⟩ := says_b n (by omega) l2 m l3 B2 h3
  try dsimp only at e3 g3
  injection h with h
  injection h with ha hb
  rw [← ha, ← hb]
  refine ⟨?_, ⟨g1, by show m.size ≤ 256; omega⟩, g1'⟩
  rw [e1, e2, e3, show n.toNat = m.size by omega]
  simp [eRow]
theorem says_rowsL (n : Nat) : ∀ last, Says (tRowsL n last) eRowsL (fun l => GRowsL last l ∧ l.length = n) := by
  induction n with
  | zero =>
    intro last l xs l' _ h
    injection h with h
    injection h with h1 h2
    rw [← h1, ← h2]
    exact ⟨rfl, trivial, rfl⟩
  | succ n ih =>
    intro last l xs l' hB h
    obtain ⟨⟨c, l1⟩, h1, h⟩ := bnd_ok h
    obtain ⟨e1, g1, g1'⟩ := says_row last l c l1 hB h1
    try dsimp only at e1 g1 g1'
    have B1 := (tRow_rest h1).bytes hB
    obtain ⟨⟨cs, l2⟩, h2, h⟩ := bnd_ok h
    obtain ⟨e2, g2, g2'⟩ := ih c.f0 l1 cs l2 B1 h2
    try dsimp only at e2 g2 g2'
    injection h with h
    injection h with ha hb
    rw [← ha, ← hb]
    exact ⟨by rw [e1, e2]; simp [eRowsL], ⟨g1', g1, g2⟩, by simp [g2']⟩
theorem says_rows : Says tRows eRows (fun l => GRowsL key0 l) := by
  intro l x l' hB h
  unfold tRows at h
  obtain ⟨⟨n, l1⟩, h1, h⟩ := bnd_ok h
  obtain ⟨e1, g1⟩ := says_n 0 4611686018427387904 (by decide) l n l1 hB h1
  try dsimp only at e1 g1
  have B1 := (tN_rest h1).bytes hB
  simp only at h
  obtain ⟨e2, g2, g2'⟩ := says_rowsL n.toNat key0 l1 x l' B1 h
  try dsimp only at e2 g2 g2'
  refine ⟨?_, g2⟩
  rw [e1, e2, ← g2']
  simp [eRows]
end Go.Proofs.Ytgmdoapedhppmaa.Code

namespace Go.Proofs.Ytgmdoapedhppmaa.PC
set_option linter.unusedVariables false
set_option linter.unusedSimpArgs false
open Go.RowKit Go.Proofs.YtgmdoapedhppmaaW.PrintWords Go.Proofs.YtgmdoapedhppmaaW.PrintLast Go.Proofs.YtgmdoapedhppmaaW.PrintMore
set_option maxRecDepth 100000 in
set_option maxHeartbeats 2000000 in
theorem decode_rows (f : List Int → Option (Except Int (List S57 × List Int))) (F : RowsCalls f) (A0 : Option Addr) (c0 : Nat) (l0 : List Int) (q : Except Int (List S57 × List Int)) (w : World) (hr0 : Kd.C (Kd.int .u8) w A0 l0.length l0) (hc0 : l0.length ≤ c0) (hq : f l0 = some q) :
    Calls Try.prog 29 #[.slice A0 l0.length c0] w fun e w' => ∃ v, e = .returned (.tuple #[v, .int .i64 (epE (finish q))]) ∧ Kd.S k57 57 w' w.heap.size (fun _ => True) v (rowsL (finish q)) ∧ Below w.heap.size w w' := by
  have H := Aside0.mk (whole_rows f F A0 c0 l0 q w hr0 hc0 hq)
  clear hr0 hq F
  generalize epE (finish q) = r at H ⊢
  generalize rowsL (finish q) = xs at H ⊢
  go_enter Try.func29, Try.ntmps29
  go_wp2_with fail
  refine H.out.mono ?_
  rintro e w1 ⟨v, rfl, hS, hB⟩
  have HS := Aside0.mk hS
  have HB := Aside0.mk hB
  clear hS hB
  go_wp2
  go_ret2
  exact ⟨v, by first | rfl | simp, HS.out, HB.out⟩
set_option maxRecDepth 100000 in
set_option maxHeartbeats 2000000 in
theorem decode_epoch (f : List Int → Option (Except Int ((Int × List S47) × List Int))) (F : EpochCalls f) (A0 : Option Addr) (c0 : Nat) (l0 : List Int) (q : Except Int ((Int × List S47) × List Int)) (w : World) (hr0 : Kd.C (Kd.int .u8) w A0 l0.length l0) (hc0 : l0.length ≤ c0) (hq : f l0 = some q) :
    Calls Try.prog 28 #[.slice A0 l0.length c0] w fun e w' => ∃ v, e = .returned (.tuple #[.agg #[.int .u32 (epN (finish q)), v], .int .i64 (epE (finish q))]) ∧ Kd.S k47 47 w' w.heap.size (fun _ => True) v (epL (finish q)) ∧ Below w.heap.size w w' := by
  have HC := Aside0.mk hr0
  have H := Aside0.mk (fun (w1 : World) (hb : Below w.heap.size w w1) => whole_epoch f F A0 c0 l0 q w1 (Kd.C_below hr0 hb) hc0 hq)
  clear hr0 hq F
  generalize epE (finish q) = r at H ⊢
  generalize epN (finish q) = n at H ⊢
  generalize epL (finish q) = xs at H ⊢
  go_enter Try.func28, Try.ntmps28
  go_wp2_with (((with_reducible refine gate_dst (N := 2) rfl ?_); refine box_event ?hg (N := 2) ?hd (cs := #[.int .u32 0, .slice none 0 0]) (t := 25) ?hr ?_; (case hd => rfl); (case hg => rfl); (case hr => first | (go_simp; done) | (go_simp; rfl)); intro gk hgk w1 hbox hb; have BK := Aside0.mk hbox; have HK := Aside0.mk hgk; have HB := Aside0.mk hb; clear hb hbox hgk))
  refine (H.out w1 HB.out).mono ?_
  rintro e w2 ⟨v, rfl, hS, hB⟩
  obtain ⟨Av, cv, rfl⟩ := Kd.S_slice hS
  have K2 := Aside0.mk (blk_below BK.out hB)
  have HS := Aside0.mk hS
  have HB2 := Aside0.mk (below_step HB.out hB)
  have W1 := Aside0.mk HB.out.size
  clear hS hB H BK HB
  have hz0 : w2.cell? ⟨gk, 0, none⟩ = some (.int .u32 0) := (blk_cell K2.out 0).trans rfl
  have hz1 : w2.cell? ⟨gk, 1, none⟩ = some (.slice none 0 0) := (blk_cell K2.out 1).trans rfl
  have hf0 := blk_frozen K2.out 0
  have hf1 := blk_frozen K2.out 1
  go_wp2
  refine bodyPost_ret (by simp [results, Try.results28, go_sem, hz0, hz1]; try rfl) rfl ?_
  exact ⟨_, rfl, Kd.S_lower (Kd.S_set (Kd.S_set HS.out K2.out (by decide) 0 (.int .u32 n)) (blk_put K2.out 0 (.int .u32 n) rfl) (by decide) 1 (.slice Av xs.length cv)) W1.out, (((Stay.refl (fun k => k = gk) w2).set (.inl rfl) 0 (.int .u32 n)).set (.inl rfl) 1 (.slice Av xs.length cv)).below HB2.out (by intro k hk; have hk : k = gk := hk; rw [hk, HK.out]; exact Nat.le_refl _)⟩
end Go.Proofs.Ytgmdoapedhppmaa.PC

namespace Go.Proofs.Ytgmdoapedhppmaa.PC
set_option linter.unusedVariables false
set_option linter.unusedSimpArgs false
open Go.RowKit Go.Proofs.YtgmdoapedhppmaaW.PrintWords Go.Proofs.YtgmdoapedhppmaaW.PrintLast Go.Proofs.YtgmdoapedhppmaaW.PrintMore
/-- Decode, as a plain function: the number, the transactions, what is wrong. -/
def codec_Decode.f (l : List Int) : Option (Int × List S47 × Int) := (takeEpoch 40 l).map fun q => (epN (finish q), epL (finish q), epE (finish q))
/-- DecodeRows, as a plain function. -/
def codec_DecodeRows.f (l : List Int) : Option (List S57 × Int) := (takeRows 40 l).map fun q => (rowsL (finish q), epE (finish q))
theorem codec_Decode.calls (A0 : Option Addr) (c0 : Nat) (l0 : List Int) (r1 : Int) (r2 : List S47) (r3 : Int) (w : World) (hr0 : Kd.C (Kd.int .u8) w A0 l0.length l0) (hc0 : l0.length ≤ c0) (h : codec_Decode.f l0 = some (r1, r2, r3)) :
    Calls Try.prog 28 #[.slice A0 l0.length c0] w fun e w' => ∃ v0_ : Value, e = .returned (.tuple #[.agg #[.int .u32 r1, v0_], .int .i64 r3]) ∧ Kd.S k47 47 w' w.heap.size (fun _ => True) v0_ r2 ∧ Below w.heap.size w w' := by
  unfold codec_Decode.f at h
  obtain ⟨q, hq, h⟩ := Option.map_eq_some_iff.1 h
  injection h with h1 h2
  injection h2 with h2 h3
  rw [← h1, ← h2, ← h3]
  exact decode_epoch (takeEpoch 40) (epoch_calls 40) A0 c0 l0 q w hr0 hc0 hq
theorem codec_DecodeRows.calls (A0 : Option Addr) (c0 : Nat) (l0 : List Int) (r1 : List S57) (r2 : Int) (w : World) (hr0 : Kd.C (Kd.int .u8) w A0 l0.length l0) (hc0 : l0.length ≤ c0) (h : codec_DecodeRows.f l0 = some (r1, r2)) :
    Calls Try.prog 29 #[.slice A0 l0.length c0] w fun e w' => ∃ v0_ : Value, e = .returned (.tuple #[v0_, .int .i64 r2]) ∧ Kd.R k57 57 w' w.heap.size (fun _ => True) v0_ r1 ∧ Below w.heap.size w w' := by
  unfold codec_DecodeRows.f at h
  obtain ⟨q, hq, h⟩ := Option.map_eq_some_iff.1 h
  injection h with h1 h2
  rw [← h1, ← h2]
  refine (decode_rows (takeRows 40) (rows_calls 40) A0 c0 l0 q w hr0 hc0 hq).mono ?_
  rintro e w' ⟨v, h1, h2, h3⟩
  exact ⟨v, h1, Kd.S_R h2, h3⟩
end Go.Proofs.Ytgmdoapedhppmaa.PC

/- The codec, plain: what may be is what Right says; Encode writes the bytes. -/
namespace Go.Proofs.Ytgmdoapedhppmaa.Code
set_option linter.unusedVariables false
set_option linter.unusedSimpArgs false
open Go.RowKit Go.Proofs.Ytgmdoapedhppmaa.PC Go.Proofs.Ytgmdoapedhppmaa.B Go.Proofs.Ytgmdoapedhppmaa.Pure Go.Proofs.YtgmdoapedhppmaaW.PrintWords Go.Proofs.YtgmdoapedhppmaaW.PrintLast Go.Proofs.YtgmdoapedhppmaaW.PrintMore
/-! ### Right -/
theorem rises_iff {α : Type} (c : α → α → Int) (z : α) (l : List α) : rises c z l = true ↔ ∀ j, 0 < j → j < l.length → c (l.getD (j - 1) z) (l.getD j z) < 0 := by
  refine ⟨fun h j h0 h1 => ?_, rises_yes c z l⟩
  unfold rises at h
  have := List.all_eq_true.1 h j (List.mem_range.2 h1)
  simp only [Bool.or_eq_true, decide_eq_true_eq] at this
  omega
theorem rises_cons {α : Type} (c : α → α → Int) (z a b : α) (l : List α) : rises c z (a :: b :: l) = true ↔ c a b < 0 ∧ rises c z (b :: l) = true := by
  rw [rises_iff, rises_iff]
  refine ⟨fun h => ⟨h 1 (by omega) (by simp), fun j h0 h1 => ?_⟩, fun ⟨h, k⟩ j h0 h1 => ?_⟩
  · have := h (j + 1) (by omega) (by simpa using h1)
    obtain ⟨i, rfl⟩ : ∃ i, j = i + 1 := ⟨j - 1, by omega⟩
    simpa using this
  · by_cases e : j = 1
    · subst e; exact h
    · obtain ⟨i, rfl⟩ : ∃ i, j = i + 2 := ⟨j - 2, by omega⟩
      have := k (i + 1) (by omega) (by simpa using h1)
      simpa using this
theorem rises_nil {α : Type} (c : α → α → Int) (z : α) : rises c z [] = true := rfl
theorem rises_one {α : Type} (c : α → α → Int) (z a : α) : rises c z [a] = true := by rw [rises_iff]; intro j h0 h1; simp at h1; omega
theorem str_nil (s : ByteArray) : s.toList = ([] : List UInt8) ↔ s.size = 0 := by
  rw [ByteArray.toList_eq]
  constructor
  · intro h
    have : s.data.toList.length = 0 := by rw [h]; rfl
    simpa using this
  · intro h
    exact List.length_eq_zero_iff.1 (by simpa using h)
theorem keyB_iff (k : S28) (h : 0 ≤ k.f0) : keyB k = true ↔ GKey k := by
  unfold keyB
  simp only [Bool.and_eq_true, decide_eq_true_eq, bne_iff_ne, ne_eq, str_nil]
  exact ⟨fun ⟨⟨h1, h2⟩, h3⟩ => ⟨h, h1, by omega, by omega⟩, fun ⟨_, h1, h2, h3⟩ => ⟨⟨h1, by omega⟩, by omega⟩⟩
theorem changeB_iff (c : S50) (h : 0 ≤ c.f0.f0) : changeB c = true ↔ GChange c := by
  unfold changeB valueB
  simp only [Bool.and_eq_true, decide_eq_true_eq, Bool.or_eq_true, Bool.not_eq_true', beq_iff_eq, str_nil, keyB_iff c.f0 h]
  refine ⟨fun ⟨⟨h1, h2⟩, h3⟩ => ⟨h1, by omega, fun hg => ?_⟩, fun ⟨h1, h2, h3⟩ => ⟨⟨h1, by omega⟩, ?_⟩⟩
  · rcases h3 with h3 | h3
    · rw [hg] at h3; cases h3
    · exact h3
  · cases hg : c.f1 with
    | true => exact .inr (h3 hg)
    | false => exact .inl rfl
theorem less_key0 (k : S28) (h : GKey k) : lessB key0 k = true := by
  unfold lessB key0
  simp only [Bool.or_eq_true, Bool.and_eq_true, decide_eq_true_eq]
  have := h.lo
  by_cases e : 0 = k.f0
  · refine .inr ⟨e, ?_⟩
    have hn : k.f1.toList ≠ [] := fun hn => by have := (str_nil k.f1).1 hn; have := h.pos; omega
    have e0 : (⟨#[]⟩ : ByteArray).toList = [] := by rw [ByteArray.toList_eq]
    rw [e0]
    cases hl : k.f1.toList with
    | nil => exact absurd hl hn
    | cons a l => rfl
  · exact .inl (by omega)
theorem changes_iff : ∀ (l : List S50) (last : S28), (∀ c ∈ l, 0 ≤ c.f0.f0) → (GChanges last l ↔ (∀ c ∈ l, GChange c) ∧ (∀ c, l.head? = some c → lessB last c.f0 = true) ∧ rises (fun a b => ordI a.f0 b.f0) z50 l = true)
  | [], last, _ => by simp [GChanges, rises_nil]
  | [a], last, _ => by simp [GChanges, rises_one]; exact ⟨fun h => ⟨h.2, h.1⟩, fun h => ⟨h.2, h.1⟩⟩
  | a :: b :: l, last, hw => by
    rw [rises_cons]
    have ih := changes_iff (b :: l) a.f0 (fun c hc => hw c (List.mem_cons_of_mem _ hc))
    show (lessB last a.f0 = true ∧ GChange a ∧ GChanges a.f0 (b :: l)) ↔ _
    rw [ih, ord_less]
    constructor
    · rintro ⟨h1, h2, h3, h4, h5⟩
      exact ⟨fun c hc => (List.mem_cons.1 hc).elim (fun e => e ▸ h2) (h3 c), fun c hc => by cases hc; exact h1, h4 b rfl, h5⟩
    · rintro ⟨h1, h2, h3, h4⟩
      exact ⟨h2 a rfl, h1 a List.mem_cons_self, fun c hc => h1 c (List.mem_cons_of_mem _ hc), fun c hc => by cases hc; exact h3, h4⟩
theorem rowsL_iff : ∀ (l : List S57) (last : S28), (GRowsL last l ↔ (∀ c ∈ l, GRow c) ∧ (∀ c, l.head? = some c → lessB last c.f0 = true) ∧ rises (fun a b => ordI a.f0 b.f0) z57 l = true)
  | [], last => by simp [GRowsL, rises_nil]
  | [a], last => by simp [GRowsL, rises_one]; exact ⟨fun h => ⟨h.2, h.1⟩, fun h => ⟨h.2, h.1⟩⟩
  | a :: b :: l, last => by
    rw [rises_cons]
    have ih := rowsL_iff (b :: l) a.f0
    show (lessB last a.f0 = true ∧ GRow a ∧ GRowsL a.f0 (b :: l)) ↔ _
    rw [ih, ord_less]
    constructor
    · rintro ⟨h1, h2, h3, h4, h5⟩
      exact ⟨fun c hc => (List.mem_cons.1 hc).elim (fun e => e ▸ h2) (h3 c), fun c hc => by cases hc; exact h1, h4 b rfl, h5⟩
    · rintro ⟨h1, h2, h3, h4⟩
      exact ⟨h2 a rfl, h1 a List.mem_cons_self, fun c hc => h1 c (List.mem_cons_of_mem _ hc), fun c hc => by cases hc; exact h3, h4⟩
structure WTxn (t : S47) : Prop where
  lo : 0 ≤ t.f0
  hi : t.f0 < 18446744073709551616
  all : ∀ c ∈ t.f1, 0 ≤ c.f0.f0
structure WEpoch (N : Int) (l : List S47) : Prop where
  lo : 0 ≤ N
  hi : N ≤ 4294967295
  all : ∀ t ∈ l, WTxn t
def WRows (l : List S57) : Prop := ∀ r ∈ l, 0 ≤ r.f0.f0
theorem any_iff {α : Type} (p : α → Bool) (l : List α) : (!l.any (fun x => !p x)) = true ↔ ∀ x ∈ l, p x = true := by
  simp
theorem txnB_iff (N : Int) (t : S47) (hN : 0 ≤ N ∧ N ≤ 4294967295) (h : WTxn t) : txnB N t = true ↔ GTxn N t := by
  unfold txnB badChange
  simp only [Bool.and_eq_true, decide_eq_true_eq, any_iff]
  obtain ⟨h0, h1, h2⟩ := h
  constructor
  · rintro ⟨⟨⟨⟨a, b⟩, c⟩, d⟩, e⟩
    refine ⟨by omega, by omega, by omega, by omega, (changes_iff t.f1 key0 h2).2 ⟨fun c hc => (changeB_iff c (h2 c hc)).1 (d c hc), fun c hc => ?_, e⟩⟩
    have hm := List.mem_of_head? hc
    exact less_key0 _ ((changeB_iff c (h2 c hm)).1 (d c hm)).key
  · rintro ⟨a, b, c, d, e⟩
    obtain ⟨e1, e2, e3⟩ := (changes_iff t.f1 key0 h2).1 e
    exact ⟨⟨⟨⟨by omega, by omega⟩, by omega⟩, fun c hc => (changeB_iff c (h2 c hc)).2 (e1 c hc)⟩, e3⟩
theorem cmpI_lt (a b : Int) : cmpI a b < 0 ↔ a < b := by
  unfold cmpI
  by_cases h : a < b
  · simp [h]
  · by_cases h2 : a > b
    · simp [h, h2]
    · simp [h, h2]
theorem txns_iff (N : Int) : ∀ (l : List S47) (last : Int), (GTxns N last l ↔ (∀ t ∈ l, GTxn N t) ∧ (∀ t, l.head? = some t → last < t.f0 - N * 4294967296) ∧ rises (fun a b => cmpI a.f0 b.f0) z47 l = true)
  | [], last => by simp [GTxns, rises_nil]
  | [a], last => by simp [GTxns, rises_one]; exact ⟨fun h => ⟨h.2, h.1⟩, fun h => ⟨h.2, h.1⟩⟩
  | a :: b :: l, last => by
    rw [rises_cons]
    have ih := txns_iff N (b :: l) (a.f0 - N * 4294967296)
    show (last < a.f0 - N * 4294967296 ∧ GTxn N a ∧ GTxns N (a.f0 - N * 4294967296) (b :: l)) ↔ _
    rw [ih, cmpI_lt]
    constructor
    · rintro ⟨h1, h2, h3, h4, h5⟩
      have h6 := h4 b rfl
      exact ⟨fun c hc => (List.mem_cons.1 hc).elim (fun e => e ▸ h2) (h3 c), fun c hc => by cases hc; exact h1, by omega, h5⟩
    · rintro ⟨h1, h2, h3, h4⟩
      exact ⟨h2 a rfl, h1 a List.mem_cons_self, fun c hc => h1 c (List.mem_cons_of_mem _ hc), fun c hc => by cases hc; omega, h4⟩
theorem right_iff (N : Int) (l : List S47) (h : WEpoch N l) : rightB N l = true ↔ GEpoch N l := by
  unfold rightB badTxn
  rw [Bool.and_eq_true, Bool.and_eq_true, Bool.and_eq_true, any_iff (fun t => txnB N t)]
  simp only [Bool.not_eq_true', decide_eq_false_iff_not]
  obtain ⟨h0, h1, h2⟩ := h
  constructor
  · rintro ⟨⟨⟨a, b⟩, c⟩, d⟩
    refine ⟨by omega, by omega, by omega, (txns_iff N l (-1)).2 ⟨fun t ht => (txnB_iff N t ⟨h0, h1⟩ (h2 t ht)).1 (c t ht), fun t ht => ?_, d⟩⟩
    have hm := List.mem_of_head? ht
    have := ((txnB_iff N t ⟨h0, h1⟩ (h2 t hm)).1 (c t hm)).lo
    omega
  · rintro ⟨a, b, c, d⟩
    obtain ⟨e1, e2, e3⟩ := (txns_iff N l (-1)).1 d
    exact ⟨⟨⟨by omega, by omega⟩, fun t ht => (txnB_iff N t ⟨h0, h1⟩ (h2 t ht)).2 (e1 t ht)⟩, e3⟩
theorem rows_iff (l : List S57) (h : WRows l) : rowsB l = true ↔ GRowsL key0 l := by
  unfold rowsB badRow valueB
  rw [Bool.and_eq_true, any_iff (fun r : S57 => keyB r.f0 && decide ((r.f1.size : Int) ≤ 256)), rowsL_iff]
  simp only [Bool.and_eq_true, decide_eq_true_eq]
  constructor
  · rintro ⟨a, b⟩
    have ha : ∀ r ∈ l, GRow r := fun r hr => ⟨(keyB_iff r.f0 (h r hr)).1 (a r hr).1, by have := (a r hr).2; omega⟩
    exact ⟨ha, fun r hr => less_key0 _ (ha r (List.mem_of_head? hr)).key, b⟩
  · rintro ⟨a, _, b⟩
    exact ⟨fun r hr => ⟨(keyB_iff r.f0 (h r hr)).2 (a r hr).key, by have := (a r hr).most; omega⟩, b⟩
theorem right_f (N : Int) (l : List S47) : codec_Right.f N l = some (if rightB N l then 0 else 1) := rfl
/-! ### Encode -/
theorem puts_len (n : Nat) (h : n < 18446744073709551616) : (puts n).length ≤ 10 := puts_ten n h
theorem eKey_len (k : S28) (h : GKey k) : (eKey k).length ≤ 75 := by
  have := puts_len k.f1.size (by have := h.most; omega)
  have := h.most
  unfold eKey
  simp only [List.length_append, List.length_cons, List.length_nil, bytesOf_length]
  omega
theorem eChange_len (c : S50) (h : GChange c) : (eChange c).length ≤ 341 := by
  have h1 := eKey_len c.f0 h.key
  have h2 : (puts (if c.f1 then 0 else c.f2.size + 1)).length ≤ 10 := puts_len _ (by have := h.most; split <;> omega)
  have := h.most
  unfold eChange
  simp only [List.length_append, bytesOf_length]
  omega
theorem eChanges_len : ∀ (l : List S50), (∀ c ∈ l, GChange c) → (eChanges l).length ≤ 341 * l.length
  | [], _ => by simp [eChanges]
  | c :: l, h => by
    have h1 := eChange_len c (h c List.mem_cons_self)
    have h2 := eChanges_len l (fun x hx => h x (List.mem_cons_of_mem _ hx))
    simp only [eChanges, List.length_append, List.length_cons]
    omega
theorem gchanges_all {last : S28} {l : List S50} : GChanges last l → ∀ c ∈ l, GChange c := by
  induction l generalizing last with
  | nil => intro _ c hc; cases hc
  | cons a l ih =>
    rintro ⟨_, h2, h3⟩ c hc
    rcases List.mem_cons.1 hc with rfl | hc
    · exact h2
    · exact ih h3 c hc
theorem gtxns_all {N last : Int} {l : List S47} : GTxns N last l → ∀ c ∈ l, GTxn N c := by
  induction l generalizing last with
  | nil => intro _ c hc; cases hc
  | cons a l ih =>
    rintro ⟨_, h2, h3⟩ c hc
    rcases List.mem_cons.1 hc with rfl | hc
    · exact h2
    · exact ih h3 c hc
theorem growsL_all {last : S28} {l : List S57} : GRowsL last l → ∀ c ∈ l, GRow c := by
  induction l generalizing last with
  | nil => intro _ c hc; cases hc
  | cons a l ih =>
    rintro ⟨_, h2, h3⟩ c hc
    rcases List.mem_cons.1 hc with rfl | hc
    · exact h2
    · exact ih h3 c hc
theorem eTxn_len (N : Int) (t : S47) (h : GTxn N t) : (eTxn N t).length ≤ 10932 := by
  have h1 := puts_len (t.f0 - N * 4294967296).toNat (by have := h.hi; omega)
  have h2 := puts_len t.f1.length (by have := h.most; omega)
  have h3 := eChanges_len t.f1 (gchanges_all h.all)
  have := h.most
  unfold eTxn
  simp only [List.length_append]
  omega
theorem eTxns_len (N : Int) : ∀ (l : List S47), (∀ c ∈ l, GTxn N c) → (eTxns N l).length ≤ 10932 * l.length
  | [], _ => by simp [eTxns]
  | c :: l, h => by
    have h1 := eTxn_len N c (h c List.mem_cons_self)
    have h2 := eTxns_len N l (fun x hx => h x (List.mem_cons_of_mem _ hx))
    simp only [eTxns, List.length_append, List.length_cons]
    omega
theorem eEpoch_len (N : Int) (l : List S47) (h : GEpoch N l) : (eEpoch N l).length ≤ 700000 := by
  have h1 := puts_len N.toNat (by have := h.hi; omega)
  have h2 := puts_len l.length (by have := h.most; omega)
  have h3 := eTxns_len N l (gtxns_all h.all)
  have := h.most
  unfold eEpoch
  simp only [List.length_append]
  omega
theorem eRow_len (r : S57) (h : GRow r) : (eRow r).length ≤ 341 := by
  have h1 := eKey_len r.f0 h.key
  have h2 := puts_len r.f1.size (by have := h.most; omega)
  have := h.most
  unfold eRow
  simp only [List.length_append, bytesOf_length]
  omega
theorem eRowsL_len : ∀ (l : List S57), (∀ c ∈ l, GRow c) → (eRowsL l).length ≤ 341 * l.length
  | [], _ => by simp [eRowsL]
  | c :: l, h => by
    have h1 := eRow_len c (h c List.mem_cons_self)
    have h2 := eRowsL_len l (fun x hx => h x (List.mem_cons_of_mem _ hx))
    simp only [eRowsL, List.length_append, List.length_cons]
    omega
theorem eKey_bytes (k : S28) (h : GKey k) : Bytes (eKey k) := by
  unfold eKey
  refine Bytes.app ?_ ((puts_bytes _).app (bytesOf_bytes _))
  intro x hx
  have := List.mem_singleton.1 hx
  have := h.lo
  have := h.hi
  omega
theorem eChange_bytes (c : S50) (h : GChange c) : Bytes (eChange c) := (eKey_bytes _ h.key).app ((puts_bytes _).app (bytesOf_bytes _))
theorem bytes_nil : Bytes [] := fun x hx => by cases hx
theorem eChanges_bytes : ∀ (l : List S50), (∀ c ∈ l, GChange c) → Bytes (eChanges l)
  | [], _ => bytes_nil
  | c :: l, h => (eChange_bytes c (h c List.mem_cons_self)).app (eChanges_bytes l (fun x hx => h x (List.mem_cons_of_mem _ hx)))
theorem eTxns_bytes (N : Int) : ∀ (l : List S47), (∀ c ∈ l, GTxn N c) → Bytes (eTxns N l)
  | [], _ => bytes_nil
  | c :: l, h => ((puts_bytes _).app ((puts_bytes _).app (eChanges_bytes _ (gchanges_all (h c List.mem_cons_self).all)))).app (eTxns_bytes N l (fun x hx => h x (List.mem_cons_of_mem _ hx)))
theorem eEpoch_bytes (N : Int) (l : List S47) (h : GEpoch N l) : Bytes (eEpoch N l) := (puts_bytes _).app ((puts_bytes _).app (eTxns_bytes N l (gtxns_all h.all)))
theorem eRowsL_bytes : ∀ (l : List S57), (∀ c ∈ l, GRow c) → Bytes (eRowsL l)
  | [], _ => bytes_nil
  | c :: l, h => ((eKey_bytes _ (h c List.mem_cons_self).key).app ((puts_bytes _).app (bytesOf_bytes _))).app (eRowsL_bytes l (fun x hx => h x (List.mem_cons_of_mem _ hx)))
theorem eRows_bytes (l : List S57) (h : GRowsL key0 l) : Bytes (eRows l) := (puts_bytes _).app (eRowsL_bytes l (growsL_all h))
/-! #### The loops -/
theorem put_k (k : Nat) (hk : 10 ≤ k) (l : List Int) (n : Nat) (hn : n < 18446744073709551616) (hl : l.length + 10 < 140737488355328) : shift_PutUint.f k l (n : Int) = some (l ++ puts n) := by
  have := put_f k l (n : Int) (by omega) (by omega) hk hl
  rwa [Int.toNat_natCast] at this
theorem wrapN (n : Nat) (hn : n < 18446744073709551616) : IntKind.u64.wrap (n : Int) = (n : Int) := by rw [IntKind.wrap_u64]; omega
theorem text_k (k : Nat) (hk : 10 ≤ k) (l : List Int) (s : ByteArray) (hs : s.size ≤ 1000) (hl : l.length ≤ 100000000) : codec_text.f k l s = some (l ++ (puts s.size ++ bytesOf s)) := by
  unfold codec_text.f
  rw [wrapN s.size (by omega), put_k k hk l s.size (by omega) (by omega)]
  have := puts_len s.size (by omega)
  simp only [Option.bind_some]
  rw [if_pos (by rw [List.length_append]; omega), List.append_assoc]
theorem rd50_drop (cs : List S50) (i : Nat) (h : i < cs.length) : cs.drop i = rd_T50 cs (i : Int) :: cs.drop (i + 1) := by
  rw [List.drop_eq_getElem_cons h]
  unfold rd_T50
  rw [Int.toNat_natCast, List.getD_eq_getElem?_getD, List.getElem?_eq_getElem h]
  rfl
theorem rd47_drop (cs : List S47) (i : Nat) (h : i < cs.length) : cs.drop i = rd_T47 cs (i : Int) :: cs.drop (i + 1) := by
  rw [List.drop_eq_getElem_cons h]
  unfold rd_T47
  rw [Int.toNat_natCast, List.getD_eq_getElem?_getD, List.getElem?_eq_getElem h]
  rfl
theorem rd57_drop (cs : List S57) (i : Nat) (h : i < cs.length) : cs.drop i = rd_T57 cs (i : Int) :: cs.drop (i + 1) := by
  rw [List.drop_eq_getElem_cons h]
  unfold rd_T57
  rw [Int.toNat_natCast, List.getD_eq_getElem?_getD, List.getElem?_eq_getElem h]
  rfl
theorem wrap_succ (i : Nat) (h : i < 1000000) : wrap64 ((i : Int) + 1) = ((i + 1 : Nat) : Int) := by unfold wrap64; omega
theorem enc_l1 (l : List S47) (n j : Int) (cs : List S50) (hcs : ∀ c ∈ cs, GChange c) (hlen : cs.length ≤ 1000) (k : Nat) (hk : 10 ≤ k) : ∀ (d i : Nat) (acc : List Int), i + d = cs.length → acc.length + 341 * d ≤ 90000000 →
    codec_Encode.l1 (k + d + 1) acc l n j cs (cs.length : Int) (i : Int) = codec_Encode.l0 k (acc ++ eChanges (cs.drop i)) l n (wrap64 (j + 1)) := by
  intro d
  induction d with
  | zero =>
    intro i acc hi _
    have : i = cs.length := by omega
    subst this
    simp only [codec_Encode.l1]
    rw [if_neg (by omega), List.drop_length]
    simp [eChanges]
  | succ d ih =>
    intro i acc hi ha
    have hlt : i < cs.length := by omega
    have hd := rd50_drop cs i hlt
    have hg := hcs (rd_T50 cs (i : Int)) (by have : rd_T50 cs (i : Int) ∈ cs.drop i := by rw [hd]; exact List.mem_cons_self
                                             exact List.mem_of_mem_drop this)
    have hcl := eChange_len _ hg
    obtain ⟨K, hK⟩ : ∃ K, K = k + d + 1 := ⟨_, rfl⟩
    rw [hd, show k + (d + 1) + 1 = K + 1 by omega]
    simp only [codec_Encode.l1, eChanges]
    have hKk : 10 ≤ K := by omega
    rw [if_pos (show (i : Int) < (cs.length : Int) by omega), if_pos (show (0 : Int) ≤ (i : Int) by omega), if_pos (show (i : Int) < (cs.length : Int) by omega), if_pos (show acc.length < 140737488355328 by omega), wrap_succ i (by omega)]
    generalize rd_T50 cs (i : Int) = c at hg hcl ⊢
    rw [text_k K hKk _ c.f0.f1 (by have := hg.key.most; omega) (by rw [List.length_append, List.length_singleton]; omega)]
    simp only [Option.bind_some]
    have hkl := eKey_len c.f0 hg.key
    have e1 : acc ++ [c.f0.f0] ++ (puts c.f0.f1.size ++ bytesOf c.f0.f1) = acc ++ eKey c.f0 := by rw [List.append_assoc]; rfl
    rw [e1]
    have hl1 : (acc ++ eKey c.f0).length ≤ 90000000 + 75 := by rw [List.length_append]; omega
    have ih' := ih (i + 1) (acc ++ eChange c) (by omega) (by rw [List.length_append]; omega)
    rw [← hK] at ih'
    cases hgo : c.f1 with
    | true =>
      have hs : c.f2.size = 0 := hg.gone hgo
      rw [if_pos rfl, if_pos (by omega)]
      have e2 : acc ++ eKey c.f0 ++ [0] = acc ++ eChange c := by
        unfold eChange
        rw [hgo, if_pos rfl, bytesOf_nil.1 hs, List.append_nil, List.append_assoc, puts_lo (by decide)]
        rfl
      rw [e2, ih', List.append_assoc]
    | false =>
      rw [if_neg (by decide), wrapN c.f2.size (by have := hg.most; omega), show ((c.f2.size : Int) + 1) = ((c.f2.size + 1 : Nat) : Int) by omega, wrapN (c.f2.size + 1) (by have := hg.most; omega), put_k K hKk _ _ (by have := hg.most; omega) (by omega)]
      simp only [Option.bind_some]
      have hp := puts_len (c.f2.size + 1) (by have := hg.most; omega)
      rw [if_pos (by rw [List.length_append]; have := hg.most; omega)]
      have e2 : acc ++ eKey c.f0 ++ puts (c.f2.size + 1) ++ bytesOf c.f2 = acc ++ eChange c := by
        unfold eChange
        rw [hgo, if_neg (by decide)]
        simp only [List.append_assoc]
      rw [e2, ih', List.append_assoc]
theorem and_low (x : Int) (h0 : 0 ≤ x) (h1 : x < 18446744073709551616) : Go.bits .and .u64 x 4294967295 = x % 4294967296 := by
  have := bits_mask .u64 64 (by decide) wraps_u64 32 (by decide) x h0 (by rw [two64]; exact h1)
  simpa using this
theorem enc_l0 (N : Int) (hN : 0 ≤ N ∧ N ≤ 4294967295) (l : List S47) (hl : ∀ t ∈ l, GTxn N t) (hlen : l.length ≤ 64) : ∀ (d i : Nat) (acc : List Int), i + d = l.length → acc.length + 10932 * d ≤ 80000000 →
    ∃ s, ∀ k, codec_Encode.l0 (k + 10 + s) acc l (l.length : Int) (i : Int) = some (acc ++ eTxns N (l.drop i), 0) := by
  intro d
  induction d with
  | zero =>
    intro i acc hi _
    have : i = l.length := by omega
    subst this
    refine ⟨1, fun k => ?_⟩
    simp only [codec_Encode.l0]
    rw [if_neg (by omega), List.drop_length]
    simp [eTxns]
  | succ d ih =>
    intro i acc hi ha
    have hlt : i < l.length := by omega
    have hd := rd47_drop l i hlt
    have hg := hl (rd_T47 l (i : Int)) (by have : rd_T47 l (i : Int) ∈ l.drop i := by rw [hd]; exact List.mem_cons_self
                                           exact List.mem_of_mem_drop this)
    have htl := eTxn_len N _ hg
    obtain ⟨s, hs⟩ := ih (i + 1) (acc ++ eTxn N (rd_T47 l (i : Int))) (by omega) (by rw [List.length_append]; omega)
    refine ⟨s + (rd_T47 l (i : Int)).f1.length + 2, fun k => ?_⟩
    obtain ⟨K, hK⟩ : ∃ K, K = k + 10 + s + (rd_T47 l (i : Int)).f1.length + 1 := ⟨_, rfl⟩
    rw [hd, show k + 10 + (s + (rd_T47 l (i : Int)).f1.length + 2) = K + 1 by omega]
    simp only [codec_Encode.l0, eTxns]
    rw [if_pos (show (i : Int) < (l.length : Int) by omega), if_pos (show (0 : Int) ≤ (i : Int) by omega), if_pos (show (i : Int) < (l.length : Int) by omega)]
    generalize rd_T47 l (i : Int) = t at hg htl hs hK ⊢
    have hk1 : 10 ≤ K := by omega
    have ht0 := hg.lo
    have ht1 := hg.hi
    rw [and_low t.f0 (by omega) (by omega), show t.f0 % 4294967296 = (((t.f0 - N * 4294967296).toNat : Nat) : Int) by omega, put_k K hk1 _ _ (by omega) (by omega)]
    simp only [Option.bind_some]
    have hp := puts_len (t.f0 - N * 4294967296).toNat (by omega)
    rw [wrapN t.f1.length (by have := hg.most; omega), put_k K hk1 _ _ (by have := hg.most; omega) (by rw [List.length_append]; omega)]
    simp only [Option.bind_some]
    have hp2 := puts_len t.f1.length (by have := hg.most; omega)
    have := enc_l1 l (l.length : Int) (i : Int) t.f1 (gchanges_all hg.all) (by have := hg.most; omega) (k + 10 + s) (by omega) t.f1.length 0 (acc ++ puts (t.f0 - N * 4294967296).toNat ++ puts t.f1.length) (by omega) (by
      simp only [List.length_append]
      have := hg.most
      omega)
    rw [← hK] at this
    rw [show ((0 : Nat) : Int) = 0 from rfl] at this
    rw [this, wrap_succ i (by omega)]
    have e : acc ++ puts (t.f0 - N * 4294967296).toNat ++ puts t.f1.length ++ eChanges (t.f1.drop 0) = acc ++ eTxn N t := by
      unfold eTxn
      simp only [List.drop_zero, List.append_assoc]
    rw [e, hs, List.append_assoc]
theorem encode_ok (N : Int) (l : List S47) (h : GEpoch N l) (hw : WEpoch N l) : ∃ K, ∀ k, K ≤ k → codec_Encode.f k N l = some (eEpoch N l, 0) := by
  have hm := h.most
  have hN := h.hi
  have hN0 := h.lo
  have h1 := puts_len N.toNat (by omega)
  have h2 := puts_len l.length (by omega)
  obtain ⟨s, hs⟩ := enc_l0 N ⟨by omega, hN⟩ l (gtxns_all h.all) hm l.length 0 (puts N.toNat ++ puts l.length) (by omega) (by rw [List.length_append]; omega)
  refine ⟨10 + s, fun k hk => ?_⟩
  unfold codec_Encode.f
  rw [right_f, (right_iff N l hw).2 h]
  simp only [if_true, Option.bind_some]
  have e0 : IntKind.u64.wrap N = ((N.toNat : Nat) : Int) := by rw [IntKind.wrap_u64]; omega
  rw [e0, put_k k (by omega) [] N.toNat (by omega) (by simp), List.nil_append]
  simp only [Option.bind_some]
  rw [wrapN l.length (by omega), put_k k (by omega) _ l.length (by omega) (by omega)]
  simp only [Option.bind_some]
  have := hs (k - 10 - s)
  rw [show k - 10 - s + 10 + s = k by omega, show ((0 : Nat) : Int) = 0 from rfl] at this
  rw [this]
  simp [eEpoch]
theorem encode_no (N : Int) (l : List S47) (h : ¬ GEpoch N l) (hw : WEpoch N l) (k : Nat) : codec_Encode.f k N l = some ([], 1) := by
  unfold codec_Encode.f
  have : rightB N l = false := by
    cases hr : rightB N l with
    | false => rfl
    | true => exact absurd ((right_iff N l hw).1 hr) h
  rw [right_f, this]
  rfl
theorem encr_l0 (l : List S57) (hl : ∀ t ∈ l, GRow t) (hlen : l.length ≤ 1000) (k : Nat) : ∀ (d i : Nat) (acc : List Int), i + d = l.length → acc.length + 341 * d ≤ 80000000 →
    codec_EncodeRows.l0 (k + 10 + d + 1) acc l (l.length : Int) (i : Int) = some (acc ++ eRowsL (l.drop i), 0) := by
  intro d
  induction d with
  | zero =>
    intro i acc hi _
    have : i = l.length := by omega
    subst this
    simp only [codec_EncodeRows.l0]
    rw [if_neg (by omega), List.drop_length]
    simp [eRowsL]
  | succ d ih =>
    intro i acc hi ha
    have hlt : i < l.length := by omega
    have hd := rd57_drop l i hlt
    have hg := hl (rd_T57 l (i : Int)) (by have : rd_T57 l (i : Int) ∈ l.drop i := by rw [hd]; exact List.mem_cons_self
                                           exact List.mem_of_mem_drop this)
    have htl := eRow_len _ hg
    obtain ⟨K, hK⟩ : ∃ K, K = k + 10 + d + 1 := ⟨_, rfl⟩
    rw [hd, show k + 10 + (d + 1) + 1 = K + 1 by omega]
    simp only [codec_EncodeRows.l0, eRowsL]
    rw [if_pos (show (i : Int) < (l.length : Int) by omega), if_pos (show (0 : Int) ≤ (i : Int) by omega), if_pos (show (i : Int) < (l.length : Int) by omega), if_pos (show acc.length < 140737488355328 by omega), wrap_succ i (by omega)]
    generalize rd_T57 l (i : Int) = r at hg htl ⊢
    have hkl := eKey_len r.f0 hg.key
    rw [text_k K (by omega) _ r.f0.f1 (by have := hg.key.most; omega) (by rw [List.length_append, List.length_singleton]; omega)]
    simp only [Option.bind_some]
    have e1 : acc ++ [r.f0.f0] ++ (puts r.f0.f1.size ++ bytesOf r.f0.f1) = acc ++ eKey r.f0 := by rw [List.append_assoc]; rfl
    rw [e1, text_k K (by omega) _ r.f1 (by have := hg.most; omega) (by rw [List.length_append]; omega)]
    simp only [Option.bind_some]
    have e2 : acc ++ eKey r.f0 ++ (puts r.f1.size ++ bytesOf r.f1) = acc ++ eRow r := by rw [List.append_assoc]; rfl
    have ih' := ih (i + 1) (acc ++ eRow r) (by omega) (by rw [List.length_append]; omega)
    rw [e2, hK, ih', List.append_assoc]
theorem rowsB_f (l : List S57) (hl : l.length < 9223372036854775807) : codec_RightRows.f l = some (if rowsB l then 0 else 1) := by unfold codec_RightRows.f; rw [if_pos hl]
theorem encodeR_ok (l : List S57) (h : GRowsL key0 l) (hw : WRows l) (hlen : l.length ≤ 1000) : ∃ K, ∀ k, K ≤ k → codec_EncodeRows.f k l = some (eRows l, 0) := by
  have h2 := puts_len l.length (by omega)
  refine ⟨10 + l.length + 1, fun k hk => ?_⟩
  unfold codec_EncodeRows.f
  rw [rowsB_f l (by omega), (rows_iff l hw).2 h]
  simp only [if_true, Option.bind_some]
  rw [wrapN l.length (by omega), put_k k (by omega) [] l.length (by omega) (by simp), List.nil_append]
  simp only [Option.bind_some]
  have := encr_l0 l (growsL_all h) hlen (k - 10 - l.length - 1) l.length 0 (puts l.length) (by omega) (by omega)
  rw [show k - 10 - l.length - 1 + 10 + l.length + 1 = k by omega, show ((0 : Nat) : Int) = 0 from rfl] at this
  rw [this]
  simp [eRows]
theorem encodeR_no (l : List S57) (h : ¬ GRowsL key0 l) (hw : WRows l) (hlen : l.length < 9223372036854775807) (k : Nat) : codec_EncodeRows.f k l = some ([], 1) := by
  unfold codec_EncodeRows.f
  have : rowsB l = false := by
    cases hr : rowsB l with
    | false => rfl
    | true => exact absurd ((rows_iff l hw).1 hr) h
  rw [rowsB_f l hlen, this]
  rfl
/-! ### Decode -/
theorem decode_t {l : List Int} (hB : Bytes l) (hL : l.length ≤ LIM) : codec_Decode.f l = some (epN (finish (tEpoch l)), epL (finish (tEpoch l)), epE (finish (tEpoch l))) := by
  unfold codec_Decode.f
  rw [takeEpoch_t hB hL]
  rfl
theorem decodeR_t {l : List Int} (hB : Bytes l) (hL : l.length ≤ LIM) : codec_DecodeRows.f l = some (rowsL (finish (tRows l)), epE (finish (tRows l))) := by
  unfold codec_DecodeRows.f
  rw [takeRows_t hB hL]
  rfl
theorem decode_back (N : Int) (l : List S47) (h : GEpoch N l) : codec_Decode.f (eEpoch N l) = some (N, l, 0) := by
  have hl := eEpoch_len N l h
  have := (reads_epoch N l h).ok []
  rw [List.append_nil] at this
  rw [decode_t (eEpoch_bytes N l h) (by unfold LIM; omega), this]
  rfl
theorem decode_more (N : Int) (l : List S47) (h : GEpoch N l) (rest : List Int) (hr : rest ≠ []) (hB : Bytes rest) (hL : rest.length ≤ 90000000) : codec_Decode.f (eEpoch N l ++ rest) = some (0, [], 3) := by
  have hl := eEpoch_len N l h
  have := (reads_epoch N l h).ok rest
  rw [decode_t ((eEpoch_bytes N l h).app hB) (by rw [List.length_append]; unfold LIM; omega), this]
  have e : rest.length ≠ 0 := fun e => hr (List.length_eq_zero_iff.1 e)
  simp only [finish, if_neg e]
  rfl
theorem decode_cut (N : Int) (l : List S47) (h : GEpoch N l) (c : Nat) (hc : c < (eEpoch N l).length) : codec_Decode.f ((eEpoch N l).take c) = some (0, [], 2) := by
  have hl := eEpoch_len N l h
  rw [decode_t ((eEpoch_bytes N l h).take c) (by rw [List.length_take]; unfold LIM; omega), (reads_epoch N l h).cut c hc]
  rfl
theorem eRows_len (l : List S57) (h : GRowsL key0 l) (hlen : l.length ≤ 1000) : (eRows l).length ≤ 400000 := by
  have h2 := puts_len l.length (by omega)
  have := eRowsL_len l (growsL_all h)
  unfold eRows
  rw [List.length_append]
  omega
theorem decodeR_back (l : List S57) (h : GRowsL key0 l) (hlen : l.length ≤ 1000) : codec_DecodeRows.f (eRows l) = some (l, 0) := by
  have hl := eRows_len l h hlen
  have := (reads_rows l h (by omega)).ok []
  rw [List.append_nil] at this
  rw [decodeR_t (eRows_bytes l h) (by unfold LIM; omega), this]
  rfl
theorem decodeR_more (l : List S57) (h : GRowsL key0 l) (hlen : l.length ≤ 1000) (rest : List Int) (hr : rest ≠ []) (hB : Bytes rest) (hL : rest.length ≤ 90000000) : codec_DecodeRows.f (eRows l ++ rest) = some ([], 3) := by
  have hl := eRows_len l h hlen
  have := (reads_rows l h (by omega)).ok rest
  rw [decodeR_t ((eRows_bytes l h).app hB) (by rw [List.length_append]; unfold LIM; omega), this]
  have e : rest.length ≠ 0 := fun e => hr (List.length_eq_zero_iff.1 e)
  simp only [finish, if_neg e]
  rfl
theorem decodeR_cut (l : List S57) (h : GRowsL key0 l) (hlen : l.length ≤ 1000) (c : Nat) (hc : c < (eRows l).length) : codec_DecodeRows.f ((eRows l).take c) = some ([], 2) := by
  have hl := eRows_len l h hlen
  rw [decodeR_t ((eRows_bytes l h).take c) (by rw [List.length_take]; unfold LIM; omega), (reads_rows l h (by omega)).cut c hc]
  rfl
theorem eEpoch_ne (N : Int) (l : List S47) : eEpoch N l ≠ [] := by
  unfold eEpoch
  intro h
  exact puts_ne _ (List.append_eq_nil_iff.1 h).1
theorem eRows_ne (l : List S57) : eRows l ≠ [] := by
  unfold eRows
  intro h
  exact puts_ne _ (List.append_eq_nil_iff.1 h).1
end Go.Proofs.Ytgmdoapedhppmaa.Code
