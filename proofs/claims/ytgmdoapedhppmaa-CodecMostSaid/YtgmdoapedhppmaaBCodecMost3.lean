/- Texts of this session in one: HCode, HOrder, HCode2, HCode3, HSame, HPureMost, PureCodecMost. Plain functions, and that the program's come to them. -/
import Derived.Test.YtgmdoapedhppmaaBCodecMost0
import Derived.Test.YtgmdoapedhppmaaBCodecMost1
import Derived.Test.YtgmdoapedhppmaaBCodecMost2

/- The codec, plain: bytes of epochs and rows, and readers of them, over whole numbers, lists and strings; no program in it but the readers of HRead, HKey, HRows, HEpoch. -/
namespace Go.Proofs.Ytgmdoapedhppmaa.Code
set_option linter.unusedVariables false
set_option linter.unusedSimpArgs false
open Go.RowKit Go.Proofs.Ytgmdoapedhppmaa.PC Go.Proofs.Ytgmdoapedhppmaa.B Go.Proofs.Ytgmdoapedhppmaa.Pure Go.Proofs.YtgmdoapedhppmaaW.PrintWords Go.Proofs.YtgmdoapedhppmaaW.PrintLast Go.Proofs.YtgmdoapedhppmaaW.PrintMore
/-- So many bytes are never had. -/
def LIM : Nat := 3518437208882
def bnd {α β : Type} (q : Except Int α) (f : α → Except Int β) : Except Int β := match q with | .error c => .error c | .ok x => f x
theorem bnd_ok {α β : Type} {q : Except Int α} {f : α → Except Int β} {y : β} (h : bnd q f = .ok y) : ∃ x, q = .ok x ∧ f x = .ok y := by
  cases q with
  | error c => cases h
  | ok x => exact ⟨x, rfl, h⟩
/-! ### Bytes and strings -/
theorem strs_bytes (s : ByteArray) : strOfNums (bytesOf s) = s := by
  apply ByteArray.ext
  apply Array.ext'
  simp only [strOfNums, bytesOf, List.map_map]
  conv => rhs; rw [← List.map_id s.data.toList]
  apply List.map_congr_left
  intro x _
  simp
theorem bytes_strs (l : List Int) (h : Bytes l) : bytesOf (strOfNums l) = l := by
  unfold bytesOf strOfNums
  simp only [List.map_map]
  conv => rhs; rw [← List.map_id l]
  apply List.map_congr_left
  intro x hx
  have := h x hx
  simp only [Function.comp, UInt8.toNat_ofNat', id]
  omega
theorem bytesOf_bytes (s : ByteArray) : Bytes (bytesOf s) := by
  intro x hx
  obtain ⟨b, _, rfl⟩ := List.mem_map.1 hx
  have := b.toNat_lt
  exact ⟨by omega, by omega⟩
theorem bytesOf_inj {s t : ByteArray} (h : bytesOf s = bytesOf t) : s = t := by rw [← strs_bytes s, h, strs_bytes]
theorem bytesOf_nil {s : ByteArray} : s.size = 0 ↔ bytesOf s = [] := by rw [← List.length_eq_zero_iff, bytesOf_length]
/-! ### Takers -/
def tN (lo hi : Int) (l : List Int) : Except Int (Int × List Int) :=
  if (gets l 0 0).2.2 = 0 then (if lo ≤ (gets l 0 0).1 ∧ (gets l 0 0).1 ≤ hi then .ok ((gets l 0 0).1, l.drop (gets l 0 0).2.1.toNat) else .error 3) else .error (gets l 0 0).2.2
def tKey (last : S28) (l : List Int) : Except Int (S28 × List Int) :=
  bnd (takeB 1 l) fun p => if byte0 p.1 < 8 then bnd (tN 1 64 p.2) fun n => bnd (takeB n.1 n.2) fun m => if lessB last ⟨byte0 p.1, m.1⟩ then .ok (⟨byte0 p.1, m.1⟩, m.2) else .error 3 else .error 3
def tChange (last : S28) (l : List Int) : Except Int (S50 × List Int) :=
  bnd (tKey last l) fun p => bnd (tN 0 257 p.2) fun n => bnd (takeB (mx (n.1 - 1) 0) n.2) fun m => .ok (⟨p.1, n.1 == 0, m.1⟩, m.2)
def tChanges : Nat → S28 → List Int → Except Int (List S50 × List Int)
  | 0, _, l => .ok ([], l)
  | n + 1, last, l => bnd (tChange last l) fun p => bnd (tChanges n p.1.f0 p.2) fun q => .ok (p.1 :: q.1, q.2)
def key0 : S28 := ⟨0, ⟨#[]⟩⟩
def tTxn (N last : Int) (l : List Int) : Except Int (S47 × List Int) :=
  bnd (tN 0 4294967295 l) fun p => if last < p.1 then bnd (tN 1 32 p.2) fun n => bnd (tChanges n.1.toNat key0 n.2) fun q => .ok (⟨N * 4294967296 + p.1, q.1⟩, q.2) else .error 3
def tTxns (N : Int) : Nat → Int → List Int → Except Int (List S47 × List Int)
  | 0, _, l => .ok ([], l)
  | n + 1, last, l => bnd (tTxn N last l) fun p => bnd (tTxns N n (p.1.f0 - N * 4294967296) p.2) fun q => .ok (p.1 :: q.1, q.2)
def tEpoch (l : List Int) : Except Int ((Int × List S47) × List Int) :=
  bnd (tN 1 4294967295 l) fun p => bnd (tN 0 64 p.2) fun n => bnd (tTxns p.1 n.1.toNat (-1) n.2) fun q => .ok ((p.1, q.1), q.2)
def tRow (last : S28) (l : List Int) : Except Int (S57 × List Int) :=
  bnd (tKey last l) fun p => bnd (tN 0 256 p.2) fun n => bnd (takeB n.1 n.2) fun m => .ok (⟨p.1, m.1⟩, m.2)
def tRowsL : Nat → S28 → List Int → Except Int (List S57 × List Int)
  | 0, _, l => .ok ([], l)
  | n + 1, last, l => bnd (tRow last l) fun p => bnd (tRowsL n p.1.f0 p.2) fun q => .ok (p.1 :: q.1, q.2)
def tRows (l : List Int) : Except Int (List S57 × List Int) := bnd (tN 0 4611686018427387904 l) fun p => tRowsL p.1.toNat key0 p.2
/-! ### They are the readers -/
/-- What is left is an end of what there was. -/
def Rest (l' l : List Int) : Prop := ∃ k, l' = l.drop k
theorem Rest.bytes {l' l : List Int} (h : Rest l' l) (hB : Bytes l) : Bytes l' := by obtain ⟨k, rfl⟩ := h; exact hB.drop k
theorem Rest.len {l' l : List Int} (h : Rest l' l) : l'.length ≤ l.length := by obtain ⟨k, rfl⟩ := h; rw [List.length_drop]; omega
theorem Rest.trans {a b c : List Int} (h : Rest a b) (k : Rest b c) : Rest a c := by
  obtain ⟨i, rfl⟩ := h
  obtain ⟨j, rfl⟩ := k
  exact ⟨j + i, by rw [List.drop_drop]⟩
theorem Rest.refl (a : List Int) : Rest a a := ⟨0, rfl⟩
theorem tN_rest {lo hi n : Int} {l l' : List Int} (h : tN lo hi l = .ok (n, l')) : Rest l' l := by
  unfold tN at h
  split at h
  · split at h
    · injection h with h; injection h with _ h; exact ⟨_, h.symm⟩
    · cases h
  · cases h
theorem takeB_rest {n : Int} {s : ByteArray} {l l' : List Int} (h : takeB n l = .ok (s, l')) : Rest l' l := by
  unfold PC.takeB at h
  split at h
  · cases h
  · injection h with h; injection h with _ h; exact ⟨_, h.symm⟩
theorem tKey_rest {last x : S28} {l l' : List Int} (h : tKey last l = .ok (x, l')) : Rest l' l ∧ l'.length < l.length := by
  unfold tKey at h
  obtain ⟨⟨s, l1⟩, h1, h⟩ := bnd_ok h
  simp only at h
  split at h
  · obtain ⟨⟨n, l2⟩, h2, h⟩ := bnd_ok h
    obtain ⟨⟨m, l3⟩, h3, h⟩ := bnd_ok h
    simp only at h
    split at h
    · injection h with h; injection h with _ h; subst h
      have a : Rest l3 l2 := takeB_rest h3
      have b := tN_rest h2
      have c := takeB_rest h1
      refine ⟨a.trans (b.trans c), ?_⟩
      have hn := takeB_nat h1
      have e1 : l1.length < l.length := by
        unfold PC.takeB at h1
        rw [if_neg (by omega)] at h1
        injection h1 with h1; injection h1 with _ h1
        rw [← h1, List.length_drop]
        simp; omega
      have := a.len
      have := b.len
      omega
    · cases h
  · cases h
theorem takeN_t {lo hi : Int} {l : List Int} (hB : Bytes l) (hL : l.length ≤ LIM) (h0 : 0 ≤ lo) (h1 : hi < 9223372036854775808) : takeN 40 lo hi l = some (tN lo hi l) := by
  unfold takeN tN
  rw [get_f 40 l hB (by unfold LIM at hL; omega) (by decide)]
  simp only [Option.bind_some]
  rcases hg : gets l 0 0 with ⟨n, s, e⟩
  simp only
  by_cases he : e = 0
  · subst he
    obtain ⟨v, k, hv, hs, hk, _, _, _⟩ := gets_inv l 0 0 n s hB (by omega) hg
    have hs' : 0 ≤ s ∧ s ≤ (l.length : Int) := by omega
    rw [if_pos rfl, if_pos hs', if_pos rfl]
    congr 1
    by_cases hn : lo ≤ n ∧ n ≤ hi
    · rw [if_pos hn, if_pos hn]
      have hw : wrap64 n = n := by unfold wrap64; omega
      rw [hw]
    · rw [if_neg hn, if_neg hn]
  · rw [if_neg he, if_neg he]
theorem takeKey_t {last : S28} {l : List Int} (hB : Bytes l) (hL : l.length ≤ LIM) : takeKey 40 last l = some (tKey last l) := by
  unfold takeKey tKey
  cases h1 : takeB 1 l with
  | error c => rfl
  | ok p =>
    obtain ⟨s, l1⟩ := p
    have r1 := takeB_rest h1
    simp only [bnd]
    by_cases hs : byte0 s < 8
    · rw [if_pos hs, if_pos hs, takeN_t (r1.bytes hB) (Nat.le_trans r1.len hL) (by decide) (by decide)]
      simp only [Option.bind_some]
      cases h2 : tN 1 64 l1 with
      | error c => rfl
      | ok q =>
        obtain ⟨n, l2⟩ := q
        simp only
        cases takeB n l2 with
        | error c => rfl
        | ok m => obtain ⟨m, l3⟩ := m; simp only [apply_ite some]
    · rw [if_neg hs, if_neg hs]
theorem takeChanges_t (n : Nat) : ∀ (last : S28) (acc : List S50) (l : List Int), Bytes l → l.length ≤ LIM → takeChangesL 40 n last acc l = some (bnd (tChanges n last l) fun q => .ok (acc ++ q.1, q.2)) := by
  induction n with
  | zero => intro last acc l _ _; simp [takeChangesL, tChanges, bnd]
  | succ n ih =>
    intro last acc l hB hL
    simp only [takeChangesL, tChanges, tChange]
    rw [takeKey_t hB hL]
    simp only [Option.bind_some]
    cases h1 : tKey last l with
    | error c => rfl
    | ok p =>
      obtain ⟨key, l1⟩ := p
      have r1 := (tKey_rest h1).1
      simp only [bnd]
      rw [takeN_t (r1.bytes hB) (Nat.le_trans r1.len hL) (by decide) (by decide)]
      simp only [Option.bind_some]
      cases h2 : tN 0 257 l1 with
      | error c => rfl
      | ok q =>
        obtain ⟨m, l2⟩ := q
        have r2 := (tN_rest h2).trans r1
        simp only
        cases h3 : takeB (mx (m - 1) 0) l2 with
        | error c => rfl
        | ok v =>
          obtain ⟨v, l3⟩ := v
          have r3 := (takeB_rest h3).trans r2
          simp only
          rw [ih key _ l3 (r3.bytes hB) (Nat.le_trans r3.len hL)]
          cases tChanges n key l3 with
          | error c => rfl
          | ok q => simp only [bnd, List.append_assoc, List.singleton_append]
theorem tChange_rest {last : S28} {x : S50} {l l' : List Int} (h : tChange last l = .ok (x, l')) : Rest l' l := by
  unfold tChange at h
  obtain ⟨⟨k, l1⟩, h1, h⟩ := bnd_ok h
  obtain ⟨⟨n, l2⟩, h2, h⟩ := bnd_ok h
  obtain ⟨⟨m, l3⟩, h3, h⟩ := bnd_ok h
  injection h with h; injection h with _ h; subst h
  exact (takeB_rest h3).trans ((tN_rest h2).trans (tKey_rest h1).1)
theorem tChanges_rest (n : Nat) : ∀ {last : S28} {xs : List S50} {l l' : List Int}, tChanges n last l = .ok (xs, l') → Rest l' l := by
  induction n with
  | zero => intro last xs l l' h; injection h with h; injection h with _ h; exact ⟨0, h.symm⟩
  | succ n ih =>
    intro last xs l l' h
    obtain ⟨⟨c, l1⟩, h1, h⟩ := bnd_ok h
    obtain ⟨⟨cs, l2⟩, h2, h⟩ := bnd_ok h
    injection h with h; injection h with _ h; subst h
    exact (ih h2).trans (tChange_rest h1)
theorem tTxn_rest {N last : Int} {x : S47} {l l' : List Int} (h : tTxn N last l = .ok (x, l')) : Rest l' l := by
  unfold tTxn at h
  obtain ⟨⟨k, l1⟩, h1, h⟩ := bnd_ok h
  simp only at h
  split at h
  · obtain ⟨⟨n, l2⟩, h2, h⟩ := bnd_ok h
    obtain ⟨⟨m, l3⟩, h3, h⟩ := bnd_ok h
    injection h with h; injection h with _ h; subst h
    exact (tChanges_rest _ h3).trans ((tN_rest h2).trans (tN_rest h1))
  · cases h
theorem takeTxns_t (N : Int) (n : Nat) : ∀ (last : Int) (acc : List S47) (l : List Int), Bytes l → l.length ≤ LIM → takeTxnsL 40 N n last acc l = some (bnd (tTxns N n last l) fun q => .ok (acc ++ q.1, q.2)) := by
  induction n with
  | zero => intro last acc l _ _; simp [takeTxnsL, tTxns, bnd]
  | succ n ih =>
    intro last acc l hB hL
    simp only [takeTxnsL, tTxns, tTxn]
    rw [takeN_t hB hL (by decide) (by decide)]
    simp only [Option.bind_some]
    cases h1 : tN 0 4294967295 l with
    | error c => rfl
    | ok p =>
      obtain ⟨tid, l1⟩ := p
      have r1 := tN_rest h1
      simp only [bnd]
      by_cases hlt : last < tid
      · rw [if_pos hlt, if_pos hlt, takeN_t (r1.bytes hB) (Nat.le_trans r1.len hL) (by decide) (by decide)]
        simp only [Option.bind_some]
        cases h2 : tN 1 32 l1 with
        | error c => rfl
        | ok q =>
          obtain ⟨m, l2⟩ := q
          have r2 := (tN_rest h2).trans r1
          simp only
          have := takeChanges_t m.toNat key0 [] l2 (r2.bytes hB) (Nat.le_trans r2.len hL)
          rw [show takeChangesL 40 m.toNat ⟨0, ⟨#[]⟩⟩ [] l2 = _ from this]
          cases h3 : tChanges m.toNat key0 l2 with
          | error c => rfl
          | ok v =>
            obtain ⟨cs, l3⟩ := v
            have r3 := (tChanges_rest _ h3).trans r2
            simp only [bnd, Option.bind_some, List.nil_append]
            rw [ih tid _ l3 (r3.bytes hB) (Nat.le_trans r3.len hL), show N * 4294967296 + tid - N * 4294967296 = tid by omega]
            cases tTxns N n tid l3 with
            | error c => rfl
            | ok q => simp only [bnd, List.append_assoc, List.singleton_append]
      · rw [if_neg hlt, if_neg hlt]
theorem takeEpoch_t {l : List Int} (hB : Bytes l) (hL : l.length ≤ LIM) : takeEpoch 40 l = some (tEpoch l) := by
  unfold takeEpoch tEpoch
  rw [takeN_t hB hL (by decide) (by decide)]
  simp only [Option.bind_some]
  cases h1 : tN 1 4294967295 l with
  | error c => rfl
  | ok p =>
    obtain ⟨N, l1⟩ := p
    have r1 := tN_rest h1
    simp only [bnd]
    rw [takeN_t (r1.bytes hB) (Nat.le_trans r1.len hL) (by decide) (by decide)]
    simp only [Option.bind_some]
    cases h2 : tN 0 64 l1 with
    | error c => rfl
    | ok q =>
      obtain ⟨n, l2⟩ := q
      have r2 := (tN_rest h2).trans r1
      simp only
      rw [takeTxns_t N n.toNat (-1) [] l2 (r2.bytes hB) (Nat.le_trans r2.len hL)]
      cases tTxns N n.toNat (-1) l2 with
      | error c => rfl
      | ok q => simp [bnd]
theorem takeRowsL_t (n : Nat) : ∀ (last : S28) (acc : List S57) (l : List Int), Bytes l → acc.length + l.length ≤ LIM → takeRowsL 40 n last acc l = some (bnd (tRowsL n last l) fun q => .ok (acc ++ q.1, q.2)) := by
  induction n with
  | zero => intro last acc l _ _; simp [takeRowsL, tRowsL, bnd]
  | succ n ih =>
    intro last acc l hB hL
    have hL' : l.length ≤ LIM := by omega
    simp only [takeRowsL, tRowsL, tRow]
    rw [takeKey_t hB hL']
    simp only [Option.bind_some]
    cases h1 : tKey last l with
    | error c => rfl
    | ok p =>
      obtain ⟨key, l1⟩ := p
      obtain ⟨r1, s1⟩ := tKey_rest h1
      simp only [bnd]
      rw [takeN_t (r1.bytes hB) (Nat.le_trans r1.len hL') (by decide) (by decide)]
      simp only [Option.bind_some]
      cases h2 : tN 0 256 l1 with
      | error c => rfl
      | ok q =>
        obtain ⟨m, l2⟩ := q
        have r2 := (tN_rest h2).trans r1
        have s2 := (tN_rest h2).len
        simp only
        cases h3 : takeB m l2 with
        | error c => rfl
        | ok v =>
          obtain ⟨v, l3⟩ := v
          have r3 := (takeB_rest h3).trans r2
          have s3 := (takeB_rest h3).len
          simp only
          rw [if_pos (by unfold LIM at hL; omega), ih key _ l3 (r3.bytes hB) (by rw [List.length_append, List.length_singleton]; omega)]
          cases tRowsL n key l3 with
          | error c => rfl
          | ok q => simp only [bnd, List.append_assoc, List.singleton_append]
theorem takeRows_t {l : List Int} (hB : Bytes l) (hL : l.length ≤ LIM) : takeRows 40 l = some (tRows l) := by
  unfold takeRows tRows
  rw [takeN_t hB hL (by decide) (by decide)]
  simp only [Option.bind_some]
  cases h1 : tN 0 4611686018427387904 l with
  | error c => rfl
  | ok p =>
    obtain ⟨n, l1⟩ := p
    have r1 := tN_rest h1
    simp only [bnd]
    have := takeRowsL_t n.toNat key0 [] l1 (r1.bytes hB) (by have := r1.len; simp; omega)
    rw [show takeRowsL 40 n.toNat ⟨0, ⟨#[]⟩⟩ [] l1 = _ from this]
    cases tRowsL n.toNat key0 l1 with
    | error c => rfl
    | ok q => simp [bnd]
end Go.Proofs.Ytgmdoapedhppmaa.Code

/- Less, plain: an order of keys. -/
namespace Go.Proofs.Ytgmdoapedhppmaa.PC
set_option linter.unusedVariables false
set_option linter.unusedSimpArgs false
open Go.RowKit Go.Proofs.YtgmdoapedhppmaaW.PrintWords Go.Proofs.YtgmdoapedhppmaaW.PrintLast Go.Proofs.YtgmdoapedhppmaaW.PrintMore
theorem less_k (k : Nat) (hk : 3 ≤ k) (a b : S28) : codec_Less.f k a.f0 a.f1 b.f0 b.f1 = some (lessB a b) := at_rounds (codec_Less.mono _ _ _ _) hk (less_f a b)
theorem less_irrefl (a : S28) : lessB a a = false := by
  unfold lessB
  simp [bl_irrefl]
theorem less_trans {a b c : S28} (h1 : lessB a b = true) (h2 : lessB b c = true) : lessB a c = true := by
  unfold lessB at *
  simp only [Bool.or_eq_true, Bool.and_eq_true, decide_eq_true_eq] at *
  rcases h1 with h1 | ⟨e1, h1⟩
  · rcases h2 with h2 | ⟨e2, h2⟩
    · exact .inl (by omega)
    · exact .inl (by omega)
  · rcases h2 with h2 | ⟨e2, h2⟩
    · exact .inl (by omega)
    · exact .inr ⟨by omega, bl_trans _ _ _ h1 h2⟩
theorem less_asymm {a b : S28} (h1 : lessB a b = true) : lessB b a = false := by
  cases h : lessB b a with
  | false => rfl
  | true => have := less_trans h1 h; rw [less_irrefl] at this; cases this
theorem less_tri (a b : S28) : (lessB a b || lessB b a) = !(a.f0 == b.f0 && (a.f1.toList == b.f1.toList)) := by
  unfold lessB
  by_cases h : a.f0 = b.f0
  · have h2 : ¬ a.f0 < b.f0 := by omega
    have h3 : ¬ b.f0 < a.f0 := by omega
    rcases bl_tri a.f1.toList b.f1.toList with ⟨p, q, r⟩ | ⟨p, q, r⟩ | ⟨p, q, r⟩
    · simp [h, p, q, r]
    · simp [h, p, q, r]
    · simp [h, p, q, r, bl_irrefl]
  · by_cases h2 : a.f0 < b.f0
    · simp [h, h2]
    · have h3 : b.f0 < a.f0 := by omega
      simp [h, h3]
theorem less_more (a : S28) : lessB a ⟨a.f0, a.f1 ++ (⟨#[120]⟩ : ByteArray)⟩ = true := by
  unfold lessB
  have : (a.f1 ++ (⟨#[120]⟩ : ByteArray)).toList = a.f1.toList ++ [120] := by
    rw [ByteArray.toList_eq, ByteArray.toList_eq, ByteArray.data_append, Array.toList_append]
  simp [this, bl_more]
end Go.Proofs.Ytgmdoapedhppmaa.PC

/- The codec, plain: what is written is read; cut off it ends too early; what is read was written. -/
namespace Go.Proofs.Ytgmdoapedhppmaa.Code
set_option linter.unusedVariables false
set_option linter.unusedSimpArgs false
open Go.RowKit Go.Proofs.Ytgmdoapedhppmaa.PC Go.Proofs.Ytgmdoapedhppmaa.B Go.Proofs.Ytgmdoapedhppmaa.Pure Go.Proofs.YtgmdoapedhppmaaW.PrintWords Go.Proofs.YtgmdoapedhppmaaW.PrintLast Go.Proofs.YtgmdoapedhppmaaW.PrintMore
/-! ### The bytes -/
def eKey (k : S28) : List Int := [k.f0] ++ (puts k.f1.size ++ bytesOf k.f1)
def eChange (c : S50) : List Int := eKey c.f0 ++ (puts (if c.f1 then 0 else c.f2.size + 1) ++ bytesOf c.f2)
def eChanges : List S50 → List Int
  | [] => []
  | c :: l => eChange c ++ eChanges l
def eTxn (N : Int) (t : S47) : List Int := puts (t.f0 - N * 4294967296).toNat ++ (puts t.f1.length ++ eChanges t.f1)
def eTxns (N : Int) : List S47 → List Int
  | [] => []
  | t :: l => eTxn N t ++ eTxns N l
def eEpoch (N : Int) (l : List S47) : List Int := puts N.toNat ++ (puts l.length ++ eTxns N l)
def eRow (r : S57) : List Int := eKey r.f0 ++ (puts r.f1.size ++ bytesOf r.f1)
def eRowsL : List S57 → List Int
  | [] => []
  | r :: l => eRow r ++ eRowsL l
def eRows (l : List S57) : List Int := puts l.length ++ eRowsL l
/-! ### What may be -/
structure GKey (k : S28) : Prop where
  lo : 0 ≤ k.f0
  hi : k.f0 < 8
  pos : 0 < k.f1.size
  most : k.f1.size ≤ 64
structure GChange (c : S50) : Prop where
  key : GKey c.f0
  most : c.f2.size ≤ 256
  gone : c.f1 = true → c.f2.size = 0
def GChanges : S28 → List S50 → Prop
  | _, [] => True
  | last, c :: l => lessB last c.f0 = true ∧ GChange c ∧ GChanges c.f0 l
structure GTxn (N : Int) (t : S47) : Prop where
  lo : N * 4294967296 ≤ t.f0
  hi : t.f0 ≤ N * 4294967296 + 4294967295
  pos : 1 ≤ t.f1.length
  most : t.f1.length ≤ 32
  all : GChanges key0 t.f1
def GTxns (N : Int) : Int → List S47 → Prop
  | _, [] => True
  | last, t :: l => last < t.f0 - N * 4294967296 ∧ GTxn N t ∧ GTxns N (t.f0 - N * 4294967296) l
structure GEpoch (N : Int) (l : List S47) : Prop where
  lo : 1 ≤ N
  hi : N ≤ 4294967295
  most : l.length ≤ 64
  all : GTxns N (-1) l
structure GRow (r : S57) : Prop where
  key : GKey r.f0
  most : r.f1.size ≤ 256
def GRowsL : S28 → List S57 → Prop
  | _, [] => True
  | last, r :: l => lessB last r.f0 = true ∧ GRow r ∧ GRowsL r.f0 l
/-! ### Written, then read -/
/-- p reads x off the bytes e; cut off, it ends too early. -/
structure Reads {β : Type} (p : List Int → Except Int (β × List Int)) (x : β) (e : List Int) : Prop where
  ok : ∀ rest, p (e ++ rest) = .ok (x, rest)
  cut : ∀ c, c < e.length → p (e.take c) = .error 2
theorem Reads.bind {α β : Type} {p : List Int → Except Int (α × List Int)} {f : α → List Int → Except Int (β × List Int)} {x : α} {y : β} {e e' : List Int} (h : Reads p x e) (k : Reads (f x) y e') : Reads (fun l => bnd (p l) fun q => f q.1 q.2) y (e ++ e') := by
  refine ⟨fun rest => ?_, fun c hc => ?_⟩
  · show bnd (p (e ++ e' ++ rest)) _ = _
    rw [List.append_assoc, h.ok]
    exact k.ok rest
  · show bnd (p ((e ++ e').take c)) _ = _
    by_cases hc' : c < e.length
    · rw [List.take_append_of_le_length (by omega), h.cut c hc']
      rfl
    · rw [List.take_append, List.take_of_length_le (by omega), h.ok]
      exact k.cut (c - e.length) (by rw [List.length_append] at hc; omega)
theorem Reads.done {β : Type} (x : β) : Reads (fun l => .ok (x, l)) x [] := ⟨fun rest => rfl, fun c hc => absurd hc (Nat.not_lt_zero c)⟩
theorem Reads.of {β : Type} {p p' : List Int → Except Int (β × List Int)} {x : β} {e e' : List Int} (h : Reads p x e) (hp : p' = p) (he : e' = e) : Reads p' x e' := by subst hp; subst he; exact h
theorem reads_n (lo hi n : Int) (h0 : 0 ≤ n) (h1 : n < 18446744073709551616) (hlo : lo ≤ n) (hhi : n ≤ hi) : Reads (tN lo hi) n (puts n.toNat) := by
  refine ⟨fun rest => ?_, fun c hc => ?_⟩
  · unfold tN
    rw [gets_puts rest n.toNat (by omega)]
    simp only [if_true]
    rw [if_pos (by omega), show ((n.toNat : Nat) : Int) = n by omega, Int.toNat_natCast, List.drop_left]
  · unfold tN
    rw [gets_cut n.toNat 0 0 c (by simp; omega) (Or.inl rfl) hc]
    rfl
theorem reads_b (s : ByteArray) (n : Int) (hn : n = (s.size : Int)) : Reads (PC.takeB n) s (bytesOf s) := by
  subst hn
  refine ⟨fun rest => ?_, fun c hc => ?_⟩
  · unfold PC.takeB
    have e : (bytesOf s).length = s.size := bytesOf_length s
    rw [if_neg (by rw [List.length_append]; omega), Int.toNat_natCast, ← e, List.take_left, List.drop_left, strs_bytes]
  · unfold PC.takeB
    rw [bytesOf_length] at hc
    rw [if_pos (by rw [List.length_take, bytesOf_length]; omega)]
theorem reads_one (x : Int) (h0 : 0 ≤ x) (h1 : x < 256) : Reads (PC.takeB 1) (strOfNums [x]) [x] := by
  refine ⟨fun rest => ?_, fun c hc => ?_⟩
  · unfold PC.takeB
    rw [if_neg (by simp; omega)]
    rfl
  · have : c = 0 := by simpa using hc
    subst this
    rfl
theorem byte0_one (x : Int) (h0 : 0 ≤ x) (h1 : x < 256) : byte0 (strOfNums [x]) = x := by
  have h : 0 < (strOfNums [x]).size := by rw [strOfNums_size]; exact Nat.zero_lt_one
  rw [byte0_get h]
  have e : (strOfNums [x])[0] = UInt8.ofNat x.toNat := by simp [strOfNums, ByteArray.getElem_eq_getElem_data]
  rw [e]
  simp only [UInt8.toNat_ofNat']
  omega
theorem reads_key (last k : S28) (hk : GKey k) (hl : lessB last k = true) : Reads (tKey last) k (eKey k) := by
  obtain ⟨h0, h1, h2, h3⟩ := hk
  have b := byte0_one k.f0 h0 (by omega)
  have r2 := reads_n 1 64 (k.f1.size : Int) (by omega) (by omega) (by omega) (by omega)
  rw [Int.toNat_natCast] at r2
  have r3 := reads_b k.f1 _ rfl
  have d : Reads (fun l => if lessB last ⟨byte0 (strOfNums [k.f0]), k.f1⟩ = true then .ok ((⟨byte0 (strOfNums [k.f0]), k.f1⟩ : S28), l) else .error 3) k [] := by
    rw [b]
    show Reads (fun l => if lessB last k = true then .ok (k, l) else .error 3) k []
    rw [hl]
    exact Reads.done k
  have a3 := r3.bind (f := fun m l => if lessB last ⟨byte0 (strOfNums [k.f0]), m⟩ = true then .ok ((⟨byte0 (strOfNums [k.f0]), m⟩ : S28), l) else .error 3) d
  have a2 := r2.bind (f := fun n l => bnd (PC.takeB n l) fun m => if lessB last ⟨byte0 (strOfNums [k.f0]), m.1⟩ = true then .ok ((⟨byte0 (strOfNums [k.f0]), m.1⟩ : S28), m.2) else .error 3) a3
  have a1 := (reads_one k.f0 h0 (by omega)).bind (f := fun s l => if byte0 s < 8 then bnd (tN 1 64 l) fun n => bnd (PC.takeB n.1 n.2) fun m => if lessB last ⟨byte0 s, m.1⟩ = true then .ok ((⟨byte0 s, m.1⟩ : S28), m.2) else .error 3 else .error 3) (y := k) (e' := puts k.f1.size ++ (bytesOf k.f1 ++ [])) (by
    have : byte0 (strOfNums [k.f0]) < 8 := by rw [b]; exact h1
    simp only [if_pos this]
    exact a2)
  exact a1.of rfl (by rw [List.append_nil]; rfl)
theorem reads_change (last : S28) (c : S50) (hc : GChange c) (hl : lessB last c.f0 = true) : Reads (tChange last) c (eChange c) := by
  obtain ⟨hk, h1, h2⟩ := hc
  have r1 := reads_key last c.f0 hk hl
  cases hg : c.f1 with
  | true =>
    have hs := h2 hg
    have r2 := reads_n 0 257 0 (by omega) (by omega) (by omega) (by omega)
    have r3 := reads_b c.f2 (mx (0 - 1) 0) (by rw [hs]; rfl)
    have d : Reads (fun l => .ok ((⟨c.f0, (0 : Int) == 0, c.f2⟩ : S50), l)) c [] := by
      have : (⟨c.f0, (0 : Int) == 0, c.f2⟩ : S50) = c := by cases c; simp_all
      rw [this]
      exact Reads.done c
    have a3 := r3.bind (f := fun m l => .ok ((⟨c.f0, (0 : Int) == 0, m⟩ : S50), l)) d
    have a2 := r2.bind (f := fun n l => bnd (PC.takeB (mx (n - 1) 0) l) fun m => .ok ((⟨c.f0, n == 0, m.1⟩ : S50), m.2)) a3
    have a1 := r1.bind (f := fun k l => bnd (tN 0 257 l) fun n => bnd (PC.takeB (mx (n.1 - 1) 0) n.2) fun m => .ok ((⟨k, n.1 == 0, m.1⟩ : S50), m.2)) a2
    exact a1.of rfl (by unfold eChange; rw [hg, List.append_nil]; rfl)
  | false =>
    have r2 := reads_n 0 257 ((c.f2.size + 1 : Nat) : Int) (by omega) (by omega) (by omega) (by omega)
    rw [Int.toNat_natCast] at r2
    have r3 := reads_b c.f2 (mx (((c.f2.size + 1 : Nat) : Int) - 1) 0) (by unfold mx; rw [if_neg (by omega)]; omega)
    have d : Reads (fun l => .ok ((⟨c.f0, ((c.f2.size + 1 : Nat) : Int) == 0, c.f2⟩ : S50), l)) c [] := by
      have e : (((c.f2.size + 1 : Nat) : Int) == 0) = false := beq_eq_false_iff_ne.2 (by omega)
      have : (⟨c.f0, ((c.f2.size + 1 : Nat) : Int) == 0, c.f2⟩ : S50) = c := by rw [e]; cases c; simp_all
      rw [this]
      exact Reads.done c
    have a3 := r3.bind (f := fun m l => .ok ((⟨c.f0, ((c.f2.size + 1 : Nat) : Int) == 0, m⟩ : S50), l)) d
    have a2 := r2.bind (f := fun n l => bnd (PC.takeB (mx (n - 1) 0) l) fun m => .ok ((⟨c.f0, n == 0, m.1⟩ : S50), m.2)) a3
    have a1 := r1.bind (f := fun k l => bnd (tN 0 257 l) fun n => bnd (PC.takeB (mx (n.1 - 1) 0) n.2) fun m => .ok ((⟨k, n.1 == 0, m.1⟩ : S50), m.2)) a2
    exact a1.of rfl (by unfold eChange; rw [hg, List.append_nil]; rfl)
theorem reads_changes : ∀ (l : List S50) (last : S28), GChanges last l → Reads (tChanges l.length last) l (eChanges l)
  | [], last, _ => Reads.done []
  | c :: l, last, h => by
    obtain ⟨h1, h2, h3⟩ := h
    have a2 := (reads_changes l c.f0 h3).bind (f := fun q r => .ok (c :: q, r)) (Reads.done (c :: l))
    have a1 := (reads_change last c h2 h1).bind (f := fun x r => bnd (tChanges l.length x.f0 r) fun q => .ok (x :: q.1, q.2)) a2
    exact a1.of rfl (by rw [List.append_nil]; rfl)
theorem reads_txn (N last : Int) (t : S47) (ht : GTxn N t) (hl : last < t.f0 - N * 4294967296) : Reads (tTxn N last) t (eTxn N t) := by
  obtain ⟨h1, h2, h3, h4, h5⟩ := ht
  have r1 := reads_n 0 4294967295 (t.f0 - N * 4294967296) (by omega) (by omega) (by omega) (by omega)
  have r2 := reads_n 1 32 (t.f1.length : Int) (by omega) (by omega) (by omega) (by omega)
  rw [Int.toNat_natCast] at r2
  have r3 := reads_changes t.f1 key0 h5
  have d : Reads (fun l => .ok ((⟨N * 4294967296 + (t.f0 - N * 4294967296), t.f1⟩ : S47), l)) t [] := by
    have : (⟨N * 4294967296 + (t.f0 - N * 4294967296), t.f1⟩ : S47) = t := by
      have e : N * 4294967296 + (t.f0 - N * 4294967296) = t.f0 := by omega
      rw [e]
    rw [this]
    exact Reads.done t
  have a3 := r3.bind (f := fun q l => .ok ((⟨N * 4294967296 + (t.f0 - N * 4294967296), q⟩ : S47), l)) d
  have a2 := r2.bind (f := fun n l => bnd (tChanges n.toNat key0 l) fun q => .ok ((⟨N * 4294967296 + (t.f0 - N * 4294967296), q.1⟩ : S47), q.2)) (by rw [Int.toNat_natCast]; exact a3)
  have a1 := r1.bind (f := fun p l => if last < p then bnd (tN 1 32 l) fun n => bnd (tChanges n.1.toNat key0 n.2) fun q => .ok ((⟨N * 4294967296 + p, q.1⟩ : S47), q.2) else .error 3) (by simp only [if_pos hl]; exact a2)
  exact a1.of rfl (by rw [List.append_nil]; rfl)
theorem reads_txns (N : Int) : ∀ (l : List S47) (last : Int), GTxns N last l → Reads (tTxns N l.length last) l (eTxns N l)
  | [], last, _ => Reads.done []
  | t :: l, last, h => by
    obtain ⟨h1, h2, h3⟩ := h
    have a2 := (reads_txns N l _ h3).bind (f := fun q r => .ok (t :: q, r)) (Reads.done (t :: l))
    have a1 := (reads_txn N last t h2 h1).bind (f := fun x r => bnd (tTxns N l.length (x.f0 - N * 4294967296) r) fun q => .ok (x :: q.1, q.2)) a2
    exact a1.of rfl (by rw [List.append_nil]; rfl)
theorem reads_epoch (N : Int) (l : List S47) (h : GEpoch N l) : Reads tEpoch (N, l) (eEpoch N l) := by
  obtain ⟨h1, h2, h3, h4⟩ := h
  have r1 := reads_n 1 4294967295 N (by omega) (by omega) (by omega) (by omega)
  have r2 := reads_n 0 64 (l.length : Int) (by omega) (by omega) (by omega) (by omega)
  rw [Int.toNat_natCast] at r2
  have a3 := (reads_txns N l (-1) h4).bind (f := fun q r => .ok ((N, q), r)) (Reads.done (N, l))
  have a2 := r2.bind (f := fun n r => bnd (tTxns N n.toNat (-1) r) fun q => .ok ((N, q.1), q.2)) (by rw [Int.toNat_natCast]; exact a3)
  have a1 := r1.bind (f := fun p r => bnd (tN 0 64 r) fun n => bnd (tTxns p n.1.toNat (-1) n.2) fun q => .ok ((p, q.1), q.2)) a2
  exact a1.of rfl (by rw [List.append_nil]; rfl)
theorem reads_row (last : S28) (r : S57) (hr : GRow r) (hl : lessB last r.f0 = true) : Reads (tRow last) r (eRow r) := by
  obtain ⟨hk, h1⟩ := hr
  have r2 := reads_n 0 256 (r.f1.size : Int) (by omega) (by omega) (by omega) (by omega)
  rw [Int.toNat_natCast] at r2
  have a3 := (reads_b r.f1 _ rfl).bind (f := fun m l => .ok ((⟨r.f0, m⟩ : S57), l)) (Reads.done r)
  have a2 := r2.bind (f := fun n l => bnd (PC.takeB n l) fun m => .ok ((⟨r.f0, m.1⟩ : S57), m.2)) a3
  have a1 := (reads_key last r.f0 hk hl).bind (f := fun k l => bnd (tN 0 256 l) fun n => bnd (PC.takeB n.1 n.2) fun m => .ok ((⟨k, m.1⟩ : S57), m.2)) a2
  exact a1.of rfl (by rw [List.append_nil]; rfl)
theorem reads_rowsL : ∀ (l : List S57) (last : S28), GRowsL last l → Reads (tRowsL l.length last) l (eRowsL l)
  | [], last, _ => Reads.done []
  | r :: l, last, h => by
    obtain ⟨h1, h2, h3⟩ := h
    have a2 := (reads_rowsL l r.f0 h3).bind (f := fun q z => .ok (r :: q, z)) (Reads.done (r :: l))
    have a1 := (reads_row last r h2 h1).bind (f := fun x z => bnd (tRowsL l.length x.f0 z) fun q => .ok (x :: q.1, q.2)) a2
    exact a1.of rfl (by rw [List.append_nil]; rfl)
theorem reads_rows (l : List S57) (h : GRowsL key0 l) (hl : l.length ≤ 4611686018427387904) : Reads tRows l (eRows l) := by
  have r1 := reads_n 0 4611686018427387904 (l.length : Int) (by omega) (by omega) (by omega) (by omega)
  rw [Int.toNat_natCast] at r1
  exact r1.bind (f := fun n r => tRowsL n.toNat key0 r) (by rw [Int.toNat_natCast]; exact reads_rowsL l key0 h)
/-! ### Read, so it was written -/
/-- Whatever p reads is good, and these were its bytes. -/
def Says {β : Type} (p : List Int → Except Int (β × List Int)) (e : β → List Int) (G : β → Prop) : Prop :=
  ∀ (l : List Int) (x : β) (l' : List Int), Bytes l → p l = .ok (x, l') → l = e x ++ l' ∧ G x
theorem says_n (lo hi : Int) (h0 : 0 ≤ lo) : Says (tN lo hi) (fun n => puts n.toNat) (fun n => lo ≤ n ∧ n ≤ hi) := by
  intro l n l' hB h
  unfold tN at h
  rcases hg : gets l 0 0 with ⟨v, s, e⟩
  rw [hg] at h
  simp only at h
  split at h
  · rename_i he
    subst he
    split at h
    · rename_i hn
      injection h with h
      injection h with h1 h2
      obtain ⟨u, k, hv, hs, hk, ht, _, _⟩ := gets_inv l 0 0 v s hB (by omega) hg
      have hv' : v = (u : Int) := by simpa using hv
      have hs' : s.toNat = k := by omega
      rw [← h1, ← h2]
      refine ⟨?_, hn⟩
      show l = puts v.toNat ++ _
      rw [hs', hv', Int.toNat_natCast, ← ht, List.take_append_drop]
    · cases h
  · cases h
theorem says_b (n : Int) (hn : 0 ≤ n) : Says (PC.takeB n) bytesOf (fun s => (s.size : Int) = n) := by
  intro l s l' hB h
  unfold PC.takeB at h
  split at h
  · cases h
  · injection h with h
    injection h with h1 h2
    rw [← h1, ← h2, bytes_strs _ (hB.take _), List.take_append_drop]
    refine ⟨rfl, ?_⟩
    show ((strOfNums (l.take n.toNat)).size : Int) = n
    rw [strOfNums_size, List.length_take]
    omega
theorem bytes_one {s : ByteArray} (hs : s.size = 1) : bytesOf s = [byte0 s] := by
  rw [byte0_get (by omega)]
  obtain ⟨⟨l⟩⟩ := s
  match l, hs with
  | [b], _ => rfl
theorem says_key (last : S28) : Says (tKey last) eKey (fun k => GKey k ∧ lessB last k = true) := by
  intro l k l' hB h
  unfold tKey at h
  obtain ⟨⟨s, l1⟩, h1, h⟩ := bnd_ok h
  obtain ⟨e1, g1⟩ := says_b 1 (by decide) l s l1 hB h1
  try dsimp only at e1 g1
  have B1 := (takeB_rest h1).bytes hB
  simp only at h
  split at h
  · rename_i h8
    obtain ⟨⟨n, l2⟩, h2, h⟩ := bnd_ok h
    simp only at h2 h
    obtain ⟨e2, g2⟩ := says_n 1 64 (by decide) l1 n l2 B1 h2
    try dsimp only at e2 g2
    have B2 := (tN_rest h2).bytes B1
    obtain ⟨⟨m, l3⟩, h3, h⟩ := bnd_ok h
    simp only at h3 h
    obtain ⟨e3, g3⟩ := says_b n (by omega) l2 m l3 B2 h3
    try dsimp only at e3 g3
    split at h
    · rename_i hl
      injection h with h
      injection h with ha hb
      have hs : s.size = 1 := by omega
      have hx : bytesOf s = [byte0 s] := bytes_one hs
      rw [← ha, ← hb]
      refine ⟨?_, ⟨?_, h8, by show 0 < m.size; omega, by show m.size ≤ 64; omega⟩, hl⟩
      · rw [e1, e2, e3, hx, show n.toNat = m.size by omega]
        simp [eKey]
      · show 0 ≤ byte0 s
        rw [byte0_get (by omega)]
        omega
    · cases h
  · cases h
theorem says_change (last : S28) : Says (tChange last) eChange (fun c => GChange c ∧ lessB last c.f0 = true) := by
  intro l c l' hB h
  unfold tChange at h
  obtain ⟨⟨k, l1⟩, h1, h⟩ := bnd_ok h
  obtain ⟨e1, g1, g1'⟩ := says_key last l k l1 hB h1
  try dsimp only at e1 g1 g1'
  have B1 := (tKey_rest h1).1.bytes hB
  obtain ⟨⟨n, l2⟩, h2, h⟩ := bnd_ok h
  simp only at h2 h
  obtain ⟨e2, g2⟩ := says_n 0 257 (by decide) l1 n l2 B1 h2
  try dsimp only at e2 g2
  have B2 := (tN_rest h2).bytes B1
  obtain ⟨⟨m, l3⟩, h3, h⟩ := bnd_ok h
  simp only at h3 h
  obtain ⟨e3, g3⟩ := says_b (mx (n - 1) 0) (by unfold mx; split <;> omega) l2 m l3 B2 h3
  try dsimp only at e3 g3
  injection h with h
  injection h with ha hb
  rw [← ha, ← hb]
  by_cases hn : n = 0
  · subst hn
    have hm : m.size = 0 := by
      have : mx (0 - 1) 0 = 0 := rfl
      rw [this] at g3
      omega
    refine ⟨?_, ⟨g1, by show m.size ≤ 256; omega, fun _ => hm⟩, g1'⟩
    rw [e1, e2, e3]
    simp [eChange]
  · have he : (n == 0) = false := beq_eq_false_iff_ne.2 hn
    have hm : (m.size : Int) = n - 1 := by
      have : mx (n - 1) 0 = n - 1 := by unfold mx; rw [if_neg (by omega)]
      rw [this] at g3
      exact g3
    refine ⟨?_, ⟨g1, by show m.size ≤ 256; omega, fun h => by rw [he] at h; cases h⟩, g1'⟩
    rw [e1, e2, e3, show n.toNat = m.size + 1 by omega]
    simp [eChange, he]
theorem says_changes (n : Nat) : ∀ last, Says (tChanges n last) eChanges (fun l => GChanges last l ∧ l.length = n) := by
  induction n with
  | zero =>
    intro last l xs l' _ h
    injection h with h
    injection h with h1 h2
    rw [← h1, ← h2]
    exact ⟨rfl, trivial, rfl⟩
  | succ n ih =>
    intro last l xs l' hB h
    obtain ⟨⟨c, l1⟩, h1, h⟩ := bnd_ok h
    obtain ⟨e1, g1, g1'⟩ := says_change last l c l1 hB h1
    try dsimp only at e1 g1 g1'
    have B1 := (tChange_rest h1).bytes hB
    obtain ⟨⟨cs, l2⟩, h2, h⟩ := bnd_ok h
    obtain ⟨e2, g2, g2'⟩ := ih c.f0 l1 cs l2 B1 h2
    try dsimp only at e2 g2 g2'
    injection h with h
    injection h with ha hb
    rw [← ha, ← hb]
    exact ⟨by rw [e1, e2]; simp [eChanges], ⟨g1', g1, g2⟩, by simp [g2']⟩
theorem says_txn (N last : Int) (hl : -1 ≤ last) : Says (tTxn N last) (eTxn N) (fun t => GTxn N t ∧ last < t.f0 - N * 4294967296) := by
  intro l t l' hB h
  unfold tTxn at h
  obtain ⟨⟨p, l1⟩, h1, h⟩ := bnd_ok h
  obtain ⟨e1, g1⟩ := says_n 0 4294967295 (by decide) l p l1 hB h1
  try dsimp only at e1 g1
  have B1 := (tN_rest h1).bytes hB
  simp only at h
  split at h
  · rename_i hp
    obtain ⟨⟨n, l2⟩, h2, h⟩ := bnd_ok h
    simp only at h2 h
    obtain ⟨e2, g2⟩ := says_n 1 32 (by decide) l1 n l2 B1 h2
    try dsimp only at e2 g2
    have B2 := (tN_rest h2).bytes B1
    obtain ⟨⟨cs, l3⟩, h3, h⟩ := bnd_ok h
    simp only at h3 h
    obtain ⟨e3, g3, g3'⟩ := says_changes n.toNat key0 l2 cs l3 B2 h3
    try dsimp only at e3 g3 g3'
    injection h with h
    injection h with ha hb
    rw [← ha, ← hb]
    have ep : N * 4294967296 + p - N * 4294967296 = p := by omega
    refine ⟨?_, ⟨by show _ ≤ N * 4294967296 + p; omega, by show N * 4294967296 + p ≤ _; omega, by show 1 ≤ cs.length; omega, by show cs.length ≤ 32; omega, g3⟩, by show last < N * 4294967296 + p - N * 4294967296; omega⟩
    rw [e1, e2, e3, show n.toNat = cs.length by omega]
    simp [eTxn, ep]
  · cases h
theorem says_txns (N : Int) (n : Nat) : ∀ last, -1 ≤ last → Says (tTxns N n last) (eTxns N) (fun l => GTxns N last l ∧ l.length = n) := by
  induction n with
  | zero =>
    intro last _ l xs l' _ h
    injection h with h
    injection h with h1 h2
    rw [← h1, ← h2]
    exact ⟨rfl, trivial, rfl⟩
  | succ n ih =>
    intro last hl l xs l' hB h
    obtain ⟨⟨t, l1⟩, h1, h⟩ := bnd_ok h
    obtain ⟨e1, g1, g1'⟩ := says_txn N last hl l t l1 hB h1
    try dsimp only at e1 g1 g1'
    have B1 := (tTxn_rest h1).bytes hB
    obtain ⟨⟨ts, l2⟩, h2, h⟩ := bnd_ok h
    obtain ⟨e2, g2, g2'⟩ := ih _ (by show -1 ≤ t.f0 - N * 4294967296; omega) l1 ts l2 B1 h2
    try dsimp only at e2 g2 g2'
    injection h with h
    injection h with ha hb
    rw [← ha, ← hb]
    exact ⟨by rw [e1, e2]; simp [eTxns], ⟨g1', g1, g2⟩, by simp [g2']⟩
theorem says_epoch : Says tEpoch (fun x => eEpoch x.1 x.2) (fun x => GEpoch x.1 x.2) := by
  intro l x l' hB h
  unfold tEpoch at h
  obtain ⟨⟨N, l1⟩, h1, h⟩ := bnd_ok h
  obtain ⟨e1, g1⟩ := says_n 1 4294967295 (by decide) l N l1 hB h1
  try dsimp only at e1 g1
  have B1 := (tN_rest h1).bytes hB
  obtain ⟨⟨n, l2⟩, h2, h⟩ := bnd_ok h
  simp only at h2 h
  obtain ⟨e2, g2⟩ := says_n 0 64 (by decide) l1 n l2 B1 h2
  try dsimp only at e2 g2
  have B2 := (tN_rest h2).bytes B1
  obtain ⟨⟨ts, l3⟩, h3, h⟩ := bnd_ok h
  simp only at h3 h
  obtain ⟨e3, g3, g3'⟩ := says_txns N n.toNat (-1) (by decide) l2 ts l3 B2 h3
  try dsimp only at e3 g3 g3'
  injection h with h
  injection h with ha hb
  rw [← ha, ← hb]
  refine ⟨?_, ⟨g1.1, g1.2, by show ts.length ≤ 64; omega, g3⟩⟩
  rw [e1, e2, e3, show n.toNat = ts.length by omega]
  simp [eEpoch]
theorem tRow_rest {last : S28} {x : S57} {l l' : List Int} (h : tRow last l = .ok (x, l')) : Rest l' l := by
  unfold tRow at h
  obtain ⟨⟨k, l1⟩, h1, h⟩ := bnd_ok h
  obtain ⟨⟨n, l2⟩, h2, h⟩ := bnd_ok h
  obtain ⟨⟨m, l3⟩, h3, h⟩ := bnd_ok h
  injection h with h; injection h with _ h; subst h
  exact (takeB_rest h3).trans ((tN_rest h2).trans (tKey_rest h1).1)
theorem says_row (last : S28) : Says (tRow last) eRow (fun r => GRow r ∧ lessB last r.f0 = true) := by
  intro l c l' hB h
  unfold tRow at h
  obtain ⟨⟨k, l1⟩, h1, h⟩ := bnd_ok h
  obtain ⟨e1, g1, g1'⟩ := says_key last l k l1 hB h1
  try dsimp only at e1 g1 g1'
  have B1 := (tKey_rest h1).1.bytes hB
  obtain ⟨⟨n, l2⟩, h2, h⟩ := bnd_ok h
  simp only at h2 h
  obtain ⟨e2, g2⟩ := says_n 0 256 (by decide) l1 n l2 B1 h2
  try dsimp only at e2 g2
  have B2 := (tN_rest h2).bytes B1
  obtain ⟨⟨m, l3⟩, h3, h⟩ := bnd_ok h
  simp only at h3 h
  obtain ⟨e3, g3⟩ := says_b n (by omega) l2 m l3 B2 h3
  try dsimp only at e3 g3
  injection h with h
  injection h with ha hb
  rw [← ha, ← hb]
  refine ⟨?_, ⟨g1, by show m.size ≤ 256; omega⟩, g1'⟩
  rw [e1, e2, e3, show n.toNat = m.size by omega]
  simp [eRow]
theorem says_rowsL (n : Nat) : ∀ last, Says (tRowsL n last) eRowsL (fun l => GRowsL last l ∧ l.length = n) := by
  induction n with
  | zero =>
    intro last l xs l' _ h
    injection h with h
    injection h with h1 h2
    rw [← h1, ← h2]
    exact ⟨rfl, trivial, rfl⟩
  | succ n ih =>
    intro last l xs l' hB h
    obtain ⟨⟨c, l1⟩, h1, h⟩ := bnd_ok h
    obtain ⟨e1, g1, g1'⟩ := says_row last l c l1 hB h1
    try dsimp only at e1 g1 g1'
    have B1 := (tRow_rest h1).bytes hB
    obtain ⟨⟨cs, l2⟩, h2, h⟩ := bnd_ok h
    obtain ⟨e2, g2, g2'⟩ := ih c.f0 l1 cs l2 B1 h2
    try dsimp only at e2 g2 g2'
    injection h with h
    injection h with ha hb
    rw [← ha, ← hb]
    exact ⟨by rw [e1, e2]; simp [eRowsL], ⟨g1', g1, g2⟩, by simp [g2']⟩
theorem says_rows : Says tRows eRows (fun l => GRowsL key0 l) := by
  intro l x l' hB h
  unfold tRows at h
  obtain ⟨⟨n, l1⟩, h1, h⟩ := bnd_ok h
  obtain ⟨e1, g1⟩ := says_n 0 4611686018427387904 (by decide) l n l1 hB h1
  try dsimp only at e1 g1
  have B1 := (tN_rest h1).bytes hB
  simp only at h
  obtain ⟨e2, g2, g2'⟩ := says_rowsL n.toNat key0 l1 x l' B1 h
  try dsimp only at e2 g2 g2'
  refine ⟨?_, g2⟩
  rw [e1, e2, ← g2']
  simp [eRows]
end Go.Proofs.Ytgmdoapedhppmaa.Code

/- The codec, plain: what may be is what Right says; Encode writes the bytes. -/
namespace Go.Proofs.Ytgmdoapedhppmaa.Code
set_option linter.unusedVariables false
set_option linter.unusedSimpArgs false
open Go.RowKit Go.Proofs.Ytgmdoapedhppmaa.PC Go.Proofs.Ytgmdoapedhppmaa.B Go.Proofs.Ytgmdoapedhppmaa.Pure Go.Proofs.YtgmdoapedhppmaaW.PrintWords Go.Proofs.YtgmdoapedhppmaaW.PrintLast Go.Proofs.YtgmdoapedhppmaaW.PrintMore
/-! ### Right -/
theorem rises_iff {α : Type} (c : α → α → Int) (z : α) (l : List α) : rises c z l = true ↔ ∀ j, 0 < j → j < l.length → c (l.getD (j - 1) z) (l.getD j z) < 0 := by
  refine ⟨fun h j h0 h1 => ?_, rises_yes c z l⟩
  unfold rises at h
  have := List.all_eq_true.1 h j (List.mem_range.2 h1)
  simp only [Bool.or_eq_true, decide_eq_true_eq] at this
  omega
theorem rises_cons {α : Type} (c : α → α → Int) (z a b : α) (l : List α) : rises c z (a :: b :: l) = true ↔ c a b < 0 ∧ rises c z (b :: l) = true := by
  rw [rises_iff, rises_iff]
  refine ⟨fun h => ⟨h 1 (by omega) (by simp), fun j h0 h1 => ?_⟩, fun ⟨h, k⟩ j h0 h1 => ?_⟩
  · have := h (j + 1) (by omega) (by simpa using h1)
    obtain ⟨i, rfl⟩ : ∃ i, j = i + 1 := ⟨j - 1, by omega⟩
    simpa using this
  · by_cases e : j = 1
    · subst e; exact h
    · obtain ⟨i, rfl⟩ : ∃ i, j = i + 2 := ⟨j - 2, by omega⟩
      have := k (i + 1) (by omega) (by simpa using h1)
      simpa using this
theorem rises_nil {α : Type} (c : α → α → Int) (z : α) : rises c z [] = true := rfl
theorem rises_one {α : Type} (c : α → α → Int) (z a : α) : rises c z [a] = true := by rw [rises_iff]; intro j h0 h1; simp at h1; omega
theorem str_nil (s : ByteArray) : s.toList = ([] : List UInt8) ↔ s.size = 0 := by
  rw [ByteArray.toList_eq]
  constructor
  · intro h
    have : s.data.toList.length = 0 := by rw [h]; rfl
    simpa using this
  · intro h
    exact List.length_eq_zero_iff.1 (by simpa using h)
theorem keyB_iff (k : S28) (h : 0 ≤ k.f0) : keyB k = true ↔ GKey k := by
  unfold keyB
  simp only [Bool.and_eq_true, decide_eq_true_eq, bne_iff_ne, ne_eq, str_nil]
  exact ⟨fun ⟨⟨h1, h2⟩, h3⟩ => ⟨h, h1, by omega, by omega⟩, fun ⟨_, h1, h2, h3⟩ => ⟨⟨h1, by omega⟩, by omega⟩⟩
theorem changeB_iff (c : S50) (h : 0 ≤ c.f0.f0) : changeB c = true ↔ GChange c := by
  unfold changeB valueB
  simp only [Bool.and_eq_true, decide_eq_true_eq, Bool.or_eq_true, Bool.not_eq_true', beq_iff_eq, str_nil, keyB_iff c.f0 h]
  refine ⟨fun ⟨⟨h1, h2⟩, h3⟩ => ⟨h1, by omega, fun hg => ?_⟩, fun ⟨h1, h2, h3⟩ => ⟨⟨h1, by omega⟩, ?_⟩⟩
  · rcases h3 with h3 | h3
    · rw [hg] at h3; cases h3
    · exact h3
  · cases hg : c.f1 with
    | true => exact .inr (h3 hg)
    | false => exact .inl rfl
theorem less_key0 (k : S28) (h : GKey k) : lessB key0 k = true := by
  unfold lessB key0
  simp only [Bool.or_eq_true, Bool.and_eq_true, decide_eq_true_eq]
  have := h.lo
  by_cases e : 0 = k.f0
  · refine .inr ⟨e, ?_⟩
    have hn : k.f1.toList ≠ [] := fun hn => by have := (str_nil k.f1).1 hn; have := h.pos; omega
    have e0 : (⟨#[]⟩ : ByteArray).toList = [] := by rw [ByteArray.toList_eq]
    rw [e0]
    cases hl : k.f1.toList with
    | nil => exact absurd hl hn
    | cons a l => rfl
  · exact .inl (by omega)
theorem changes_iff : ∀ (l : List S50) (last : S28), (∀ c ∈ l, 0 ≤ c.f0.f0) → (GChanges last l ↔ (∀ c ∈ l, GChange c) ∧ (∀ c, l.head? = some c → lessB last c.f0 = true) ∧ rises (fun a b => ordI a.f0 b.f0) z50 l = true)
  | [], last, _ => by simp [GChanges, rises_nil]
  | [a], last, _ => by simp [GChanges, rises_one]; exact ⟨fun h => ⟨h.2, h.1⟩, fun h => ⟨h.2, h.1⟩⟩
  | a :: b :: l, last, hw => by
    rw [rises_cons]
    have ih := changes_iff (b :: l) a.f0 (fun c hc => hw c (List.mem_cons_of_mem _ hc))
    show (lessB last a.f0 = true ∧ GChange a ∧ GChanges a.f0 (b :: l)) ↔ _
    rw [ih, ord_less]
    constructor
    · rintro ⟨h1, h2, h3, h4, h5⟩
      exact ⟨fun c hc => (List.mem_cons.1 hc).elim (fun e => e ▸ h2) (h3 c), fun c hc => by cases hc; exact h1, h4 b rfl, h5⟩
    · rintro ⟨h1, h2, h3, h4⟩
      exact ⟨h2 a rfl, h1 a List.mem_cons_self, fun c hc => h1 c (List.mem_cons_of_mem _ hc), fun c hc => by cases hc; exact h3, h4⟩
theorem rowsL_iff : ∀ (l : List S57) (last : S28), (GRowsL last l ↔ (∀ c ∈ l, GRow c) ∧ (∀ c, l.head? = some c → lessB last c.f0 = true) ∧ rises (fun a b => ordI a.f0 b.f0) z57 l = true)
  | [], last => by simp [GRowsL, rises_nil]
  | [a], last => by simp [GRowsL, rises_one]; exact ⟨fun h => ⟨h.2, h.1⟩, fun h => ⟨h.2, h.1⟩⟩
  | a :: b :: l, last => by
    rw [rises_cons]
    have ih := rowsL_iff (b :: l) a.f0
    show (lessB last a.f0 = true ∧ GRow a ∧ GRowsL a.f0 (b :: l)) ↔ _
    rw [ih, ord_less]
    constructor
    · rintro ⟨h1, h2, h3, h4, h5⟩
      exact ⟨fun c hc => (List.mem_cons.1 hc).elim (fun e => e ▸ h2) (h3 c), fun c hc => by cases hc; exact h1, h4 b rfl, h5⟩
    · rintro ⟨h1, h2, h3, h4⟩
      exact ⟨h2 a rfl, h1 a List.mem_cons_self, fun c hc => h1 c (List.mem_cons_of_mem _ hc), fun c hc => by cases hc; exact h3, h4⟩
structure WTxn (t : S47) : Prop where
  lo : 0 ≤ t.f0
  hi : t.f0 < 18446744073709551616
  all : ∀ c ∈ t.f1, 0 ≤ c.f0.f0
structure WEpoch (N : Int) (l : List S47) : Prop where
  lo : 0 ≤ N
  hi : N ≤ 4294967295
  all : ∀ t ∈ l, WTxn t
def WRows (l : List S57) : Prop := ∀ r ∈ l, 0 ≤ r.f0.f0
theorem any_iff {α : Type} (p : α → Bool) (l : List α) : (!l.any (fun x => !p x)) = true ↔ ∀ x ∈ l, p x = true := by
  simp
theorem txnB_iff (N : Int) (t : S47) (hN : 0 ≤ N ∧ N ≤ 4294967295) (h : WTxn t) : txnB N t = true ↔ GTxn N t := by
  unfold txnB badChange
  simp only [Bool.and_eq_true, decide_eq_true_eq, any_iff]
  obtain ⟨h0, h1, h2⟩ := h
  constructor
  · rintro ⟨⟨⟨⟨a, b⟩, c⟩, d⟩, e⟩
    refine ⟨by omega, by omega, by omega, by omega, (changes_iff t.f1 key0 h2).2 ⟨fun c hc => (changeB_iff c (h2 c hc)).1 (d c hc), fun c hc => ?_, e⟩⟩
    have hm := List.mem_of_head? hc
    exact less_key0 _ ((changeB_iff c (h2 c hm)).1 (d c hm)).key
  · rintro ⟨a, b, c, d, e⟩
    obtain ⟨e1, e2, e3⟩ := (changes_iff t.f1 key0 h2).1 e
    exact ⟨⟨⟨⟨by omega, by omega⟩, by omega⟩, fun c hc => (changeB_iff c (h2 c hc)).2 (e1 c hc)⟩, e3⟩
theorem cmpI_lt (a b : Int) : cmpI a b < 0 ↔ a < b := by
  unfold cmpI
  by_cases h : a < b
  · simp [h]
  · by_cases h2 : a > b
    · simp [h, h2]
    · simp [h, h2]
theorem txns_iff (N : Int) : ∀ (l : List S47) (last : Int), (GTxns N last l ↔ (∀ t ∈ l, GTxn N t) ∧ (∀ t, l.head? = some t → last < t.f0 - N * 4294967296) ∧ rises (fun a b => cmpI a.f0 b.f0) z47 l = true)
  | [], last => by simp [GTxns, rises_nil]
  | [a], last => by simp [GTxns, rises_one]; exact ⟨fun h => ⟨h.2, h.1⟩, fun h => ⟨h.2, h.1⟩⟩
  | a :: b :: l, last => by
    rw [rises_cons]
    have ih := txns_iff N (b :: l) (a.f0 - N * 4294967296)
    show (last < a.f0 - N * 4294967296 ∧ GTxn N a ∧ GTxns N (a.f0 - N * 4294967296) (b :: l)) ↔ _
    rw [ih, cmpI_lt]
    constructor
    · rintro ⟨h1, h2, h3, h4, h5⟩
      have h6 := h4 b rfl
      exact ⟨fun c hc => (List.mem_cons.1 hc).elim (fun e => e ▸ h2) (h3 c), fun c hc => by cases hc; exact h1, by omega, h5⟩
    · rintro ⟨h1, h2, h3, h4⟩
      exact ⟨h2 a rfl, h1 a List.mem_cons_self, fun c hc => h1 c (List.mem_cons_of_mem _ hc), fun c hc => by cases hc; omega, h4⟩
theorem right_iff (N : Int) (l : List S47) (h : WEpoch N l) : rightB N l = true ↔ GEpoch N l := by
  unfold rightB badTxn
  rw [Bool.and_eq_true, Bool.and_eq_true, Bool.and_eq_true, any_iff (fun t => txnB N t)]
  simp only [Bool.not_eq_true', decide_eq_false_iff_not]
  obtain ⟨h0, h1, h2⟩ := h
  constructor
  · rintro ⟨⟨⟨a, b⟩, c⟩, d⟩
    refine ⟨by omega, by omega, by omega, (txns_iff N l (-1)).2 ⟨fun t ht => (txnB_iff N t ⟨h0, h1⟩ (h2 t ht)).1 (c t ht), fun t ht => ?_, d⟩⟩
    have hm := List.mem_of_head? ht
    have := ((txnB_iff N t ⟨h0, h1⟩ (h2 t hm)).1 (c t hm)).lo
    omega
  · rintro ⟨a, b, c, d⟩
    obtain ⟨e1, e2, e3⟩ := (txns_iff N l (-1)).1 d
    exact ⟨⟨⟨by omega, by omega⟩, fun t ht => (txnB_iff N t ⟨h0, h1⟩ (h2 t ht)).2 (e1 t ht)⟩, e3⟩
theorem rows_iff (l : List S57) (h : WRows l) : rowsB l = true ↔ GRowsL key0 l := by
  unfold rowsB badRow valueB
  rw [Bool.and_eq_true, any_iff (fun r : S57 => keyB r.f0 && decide ((r.f1.size : Int) ≤ 256)), rowsL_iff]
  simp only [Bool.and_eq_true, decide_eq_true_eq]
  constructor
  · rintro ⟨a, b⟩
    have ha : ∀ r ∈ l, GRow r := fun r hr => ⟨(keyB_iff r.f0 (h r hr)).1 (a r hr).1, by have := (a r hr).2; omega⟩
    exact ⟨ha, fun r hr => less_key0 _ (ha r (List.mem_of_head? hr)).key, b⟩
  · rintro ⟨a, _, b⟩
    exact ⟨fun r hr => ⟨(keyB_iff r.f0 (h r hr)).2 (a r hr).key, by have := (a r hr).most; omega⟩, b⟩
theorem right_f (N : Int) (l : List S47) : codec_Right.f N l = some (if rightB N l then 0 else 1) := rfl
/-! ### Encode -/
theorem puts_len (n : Nat) (h : n < 18446744073709551616) : (puts n).length ≤ 10 := puts_ten n h
theorem eKey_len (k : S28) (h : GKey k) : (eKey k).length ≤ 75 := by
  have := puts_len k.f1.size (by have := h.most; omega)
  have := h.most
  unfold eKey
  simp only [List.length_append, List.length_cons, List.length_nil, bytesOf_length]
  omega
theorem eChange_len (c : S50) (h : GChange c) : (eChange c).length ≤ 341 := by
  have h1 := eKey_len c.f0 h.key
  have h2 : (puts (if c.f1 then 0 else c.f2.size + 1)).length ≤ 10 := puts_len _ (by have := h.most; split <;> omega)
  have := h.most
  unfold eChange
  simp only [List.length_append, bytesOf_length]
  omega
theorem eChanges_len : ∀ (l : List S50), (∀ c ∈ l, GChange c) → (eChanges l).length ≤ 341 * l.length
  | [], _ => by simp [eChanges]
  | c :: l, h => by
    have h1 := eChange_len c (h c List.mem_cons_self)
    have h2 := eChanges_len l (fun x hx => h x (List.mem_cons_of_mem _ hx))
    simp only [eChanges, List.length_append, List.length_cons]
    omega
theorem gchanges_all {last : S28} {l : List S50} : GChanges last l → ∀ c ∈ l, GChange c := by
  induction l generalizing last with
  | nil => intro _ c hc; cases hc
  | cons a l ih =>
    rintro ⟨_, h2, h3⟩ c hc
    rcases List.mem_cons.1 hc with rfl | hc
    · exact h2
    · exact ih h3 c hc
theorem gtxns_all {N last : Int} {l : List S47} : GTxns N last l → ∀ c ∈ l, GTxn N c := by
  induction l generalizing last with
  | nil => intro _ c hc; cases hc
  | cons a l ih =>
    rintro ⟨_, h2, h3⟩ c hc
    rcases List.mem_cons.1 hc with rfl | hc
    · exact h2
    · exact ih h3 c hc
theorem growsL_all {last : S28} {l : List S57} : GRowsL last l → ∀ c ∈ l, GRow c := by
  induction l generalizing last with
  | nil => intro _ c hc; cases hc
  | cons a l ih =>
    rintro ⟨_, h2, h3⟩ c hc
    rcases List.mem_cons.1 hc with rfl | hc
    · exact h2
    · exact ih h3 c hc
theorem eTxn_len (N : Int) (t : S47) (h : GTxn N t) : (eTxn N t).length ≤ 10932 := by
  have h1 := puts_len (t.f0 - N * 4294967296).toNat (by have := h.hi; omega)
  have h2 := puts_len t.f1.length (by have := h.most; omega)
  have h3 := eChanges_len t.f1 (gchanges_all h.all)
  have := h.most
  unfold eTxn
  simp only [List.length_append]
  omega
theorem eTxns_len (N : Int) : ∀ (l : List S47), (∀ c ∈ l, GTxn N c) → (eTxns N l).length ≤ 10932 * l.length
  | [], _ => by simp [eTxns]
  | c :: l, h => by
    have h1 := eTxn_len N c (h c List.mem_cons_self)
    have h2 := eTxns_len N l (fun x hx => h x (List.mem_cons_of_mem _ hx))
    simp only [eTxns, List.length_append, List.length_cons]
    omega
theorem eEpoch_len (N : Int) (l : List S47) (h : GEpoch N l) : (eEpoch N l).length ≤ 700000 := by
  have h1 := puts_len N.toNat (by have := h.hi; omega)
  have h2 := puts_len l.length (by have := h.most; omega)
  have h3 := eTxns_len N l (gtxns_all h.all)
  have := h.most
  unfold eEpoch
  simp only [List.length_append]
  omega
theorem eRow_len (r : S57) (h : GRow r) : (eRow r).length ≤ 341 := by
  have h1 := eKey_len r.f0 h.key
  have h2 := puts_len r.f1.size (by have := h.most; omega)
  have := h.most
  unfold eRow
  simp only [List.length_append, bytesOf_length]
  omega
theorem eRowsL_len : ∀ (l : List S57), (∀ c ∈ l, GRow c) → (eRowsL l).length ≤ 341 * l.length
  | [], _ => by simp [eRowsL]
  | c :: l, h => by
    have h1 := eRow_len c (h c List.mem_cons_self)
    have h2 := eRowsL_len l (fun x hx => h x (List.mem_cons_of_mem _ hx))
    simp only [eRowsL, List.length_append, List.length_cons]
    omega
theorem eKey_bytes (k : S28) (h : GKey k) : Bytes (eKey k) := by
  unfold eKey
  refine Bytes.app ?_ ((puts_bytes _).app (bytesOf_bytes _))
  intro x hx
  have := List.mem_singleton.1 hx
  have := h.lo
  have := h.hi
  omega
theorem eChange_bytes (c : S50) (h : GChange c) : Bytes (eChange c) := (eKey_bytes _ h.key).app ((puts_bytes _).app (bytesOf_bytes _))
theorem bytes_nil : Bytes [] := fun x hx => by cases hx
theorem eChanges_bytes : ∀ (l : List S50), (∀ c ∈ l, GChange c) → Bytes (eChanges l)
  | [], _ => bytes_nil
  | c :: l, h => (eChange_bytes c (h c List.mem_cons_self)).app (eChanges_bytes l (fun x hx => h x (List.mem_cons_of_mem _ hx)))
theorem eTxns_bytes (N : Int) : ∀ (l : List S47), (∀ c ∈ l, GTxn N c) → Bytes (eTxns N l)
  | [], _ => bytes_nil
  | c :: l, h => ((puts_bytes _).app ((puts_bytes _).app (eChanges_bytes _ (gchanges_all (h c List.mem_cons_self).all)))).app (eTxns_bytes N l (fun x hx => h x (List.mem_cons_of_mem _ hx)))
theorem eEpoch_bytes (N : Int) (l : List S47) (h : GEpoch N l) : Bytes (eEpoch N l) := (puts_bytes _).app ((puts_bytes _).app (eTxns_bytes N l (gtxns_all h.all)))
theorem eRowsL_bytes : ∀ (l : List S57), (∀ c ∈ l, GRow c) → Bytes (eRowsL l)
  | [], _ => bytes_nil
  | c :: l, h => ((eKey_bytes _ (h c List.mem_cons_self).key).app ((puts_bytes _).app (bytesOf_bytes _))).app (eRowsL_bytes l (fun x hx => h x (List.mem_cons_of_mem _ hx)))
theorem eRows_bytes (l : List S57) (h : GRowsL key0 l) : Bytes (eRows l) := (puts_bytes _).app (eRowsL_bytes l (growsL_all h))
/-! #### The loops -/
theorem put_k (k : Nat) (hk : 10 ≤ k) (l : List Int) (n : Nat) (hn : n < 18446744073709551616) (hl : l.length + 10 < 140737488355328) : shift_PutUint.f k l (n : Int) = some (l ++ puts n) := by
  have := put_f k l (n : Int) (by omega) (by omega) hk hl
  rwa [Int.toNat_natCast] at this
theorem wrapN (n : Nat) (hn : n < 18446744073709551616) : IntKind.u64.wrap (n : Int) = (n : Int) := by rw [IntKind.wrap_u64]; omega
theorem text_k (k : Nat) (hk : 10 ≤ k) (l : List Int) (s : ByteArray) (hs : s.size ≤ 1000) (hl : l.length ≤ 100000000) : codec_text.f k l s = some (l ++ (puts s.size ++ bytesOf s)) := by
  unfold codec_text.f
  rw [wrapN s.size (by omega), put_k k hk l s.size (by omega) (by omega)]
  have := puts_len s.size (by omega)
  simp only [Option.bind_some]
  rw [if_pos (by rw [List.length_append]; omega), List.append_assoc]
theorem rd50_drop (cs : List S50) (i : Nat) (h : i < cs.length) : cs.drop i = rd_T50 cs (i : Int) :: cs.drop (i + 1) := by
  rw [List.drop_eq_getElem_cons h]
  unfold rd_T50
  rw [Int.toNat_natCast, List.getD_eq_getElem?_getD, List.getElem?_eq_getElem h]
  rfl
theorem rd47_drop (cs : List S47) (i : Nat) (h : i < cs.length) : cs.drop i = rd_T47 cs (i : Int) :: cs.drop (i + 1) := by
  rw [List.drop_eq_getElem_cons h]
  unfold rd_T47
  rw [Int.toNat_natCast, List.getD_eq_getElem?_getD, List.getElem?_eq_getElem h]
  rfl
theorem rd57_drop (cs : List S57) (i : Nat) (h : i < cs.length) : cs.drop i = rd_T57 cs (i : Int) :: cs.drop (i + 1) := by
  rw [List.drop_eq_getElem_cons h]
  unfold rd_T57
  rw [Int.toNat_natCast, List.getD_eq_getElem?_getD, List.getElem?_eq_getElem h]
  rfl
theorem wrap_succ (i : Nat) (h : i < 1000000) : wrap64 ((i : Int) + 1) = ((i + 1 : Nat) : Int) := by unfold wrap64; omega
theorem enc_l1 (l : List S47) (n j : Int) (cs : List S50) (hcs : ∀ c ∈ cs, GChange c) (hlen : cs.length ≤ 1000) (k : Nat) (hk : 10 ≤ k) : ∀ (d i : Nat) (acc : List Int), i + d = cs.length → acc.length + 341 * d ≤ 90000000 →
    codec_Encode.l1 (k + d + 1) acc l n j cs (cs.length : Int) (i : Int) = codec_Encode.l0 k (acc ++ eChanges (cs.drop i)) l n (wrap64 (j + 1)) := by
  intro d
  induction d with
  | zero =>
    intro i acc hi _
    have : i = cs.length := by omega
    subst this
    simp only [codec_Encode.l1]
    rw [if_neg (by omega), List.drop_length]
    simp [eChanges]
  | succ d ih =>
    intro i acc hi ha
    have hlt : i < cs.length := by omega
    have hd := rd50_drop cs i hlt
    have hg := hcs (rd_T50 cs (i : Int)) (by have : rd_T50 cs (i : Int) ∈ cs.drop i := by rw [hd]; exact List.mem_cons_self
                                             exact List.mem_of_mem_drop this)
    have hcl := eChange_len _ hg
    obtain ⟨K, hK⟩ : ∃ K, K = k + d + 1 := ⟨_, rfl⟩
    rw [hd, show k + (d + 1) + 1 = K + 1 by omega]
    simp only [codec_Encode.l1, eChanges]
    have hKk : 10 ≤ K := by omega
    rw [if_pos (show (i : Int) < (cs.length : Int) by omega), if_pos (show (0 : Int) ≤ (i : Int) by omega), if_pos (show (i : Int) < (cs.length : Int) by omega), if_pos (show acc.length < 140737488355328 by omega), wrap_succ i (by omega)]
    generalize rd_T50 cs (i : Int) = c at hg hcl ⊢
    rw [text_k K hKk _ c.f0.f1 (by have := hg.key.most; omega) (by rw [List.length_append, List.length_singleton]; omega)]
    simp only [Option.bind_some]
    have hkl := eKey_len c.f0 hg.key
    have e1 : acc ++ [c.f0.f0] ++ (puts c.f0.f1.size ++ bytesOf c.f0.f1) = acc ++ eKey c.f0 := by rw [List.append_assoc]; rfl
    rw [e1]
    have hl1 : (acc ++ eKey c.f0).length ≤ 90000000 + 75 := by rw [List.length_append]; omega
    have ih' := ih (i + 1) (acc ++ eChange c) (by omega) (by rw [List.length_append]; omega)
    rw [← hK] at ih'
    cases hgo : c.f1 with
    | true =>
      have hs : c.f2.size = 0 := hg.gone hgo
      rw [if_pos rfl, if_pos (by omega)]
      have e2 : acc ++ eKey c.f0 ++ [0] = acc ++ eChange c := by
        unfold eChange
        rw [hgo, if_pos rfl, bytesOf_nil.1 hs, List.append_nil, List.append_assoc, puts_lo (by decide)]
        rfl
      rw [e2, ih', List.append_assoc]
    | false =>
      rw [if_neg (by decide), wrapN c.f2.size (by have := hg.most; omega), show ((c.f2.size : Int) + 1) = ((c.f2.size + 1 : Nat) : Int) by omega, wrapN (c.f2.size + 1) (by have := hg.most; omega), put_k K hKk _ _ (by have := hg.most; omega) (by omega)]
      simp only [Option.bind_some]
      have hp := puts_len (c.f2.size + 1) (by have := hg.most; omega)
      rw [if_pos (by rw [List.length_append]; have := hg.most; omega)]
      have e2 : acc ++ eKey c.f0 ++ puts (c.f2.size + 1) ++ bytesOf c.f2 = acc ++ eChange c := by
        unfold eChange
        rw [hgo, if_neg (by decide)]
        simp only [List.append_assoc]
      rw [e2, ih', List.append_assoc]
theorem and_low (x : Int) (h0 : 0 ≤ x) (h1 : x < 18446744073709551616) : Go.bits .and .u64 x 4294967295 = x % 4294967296 := by
  have := bits_mask .u64 64 (by decide) wraps_u64 32 (by decide) x h0 (by rw [two64]; exact h1)
  simpa using this
theorem enc_l0 (N : Int) (hN : 0 ≤ N ∧ N ≤ 4294967295) (l : List S47) (hl : ∀ t ∈ l, GTxn N t) (hlen : l.length ≤ 64) : ∀ (d i : Nat) (acc : List Int), i + d = l.length → acc.length + 10932 * d ≤ 80000000 →
    ∃ s, ∀ k, codec_Encode.l0 (k + 10 + s) acc l (l.length : Int) (i : Int) = some (acc ++ eTxns N (l.drop i), 0) := by
  intro d
  induction d with
  | zero =>
    intro i acc hi _
    have : i = l.length := by omega
    subst this
    refine ⟨1, fun k => ?_⟩
    simp only [codec_Encode.l0]
    rw [if_neg (by omega), List.drop_length]
    simp [eTxns]
  | succ d ih =>
    intro i acc hi ha
    have hlt : i < l.length := by omega
    have hd := rd47_drop l i hlt
    have hg := hl (rd_T47 l (i : Int)) (by have : rd_T47 l (i : Int) ∈ l.drop i := by rw [hd]; exact List.mem_cons_self
                                           exact List.mem_of_mem_drop this)
    have htl := eTxn_len N _ hg
    obtain ⟨s, hs⟩ := ih (i + 1) (acc ++ eTxn N (rd_T47 l (i : Int))) (by omega) (by rw [List.length_append]; omega)
    refine ⟨s + (rd_T47 l (i : Int)).f1.length + 2, fun k => ?_⟩
    obtain ⟨K, hK⟩ : ∃ K, K = k + 10 + s + (rd_T47 l (i : Int)).f1.length + 1 := ⟨_, rfl⟩
    rw [hd, show k + 10 + (s + (rd_T47 l (i : Int)).f1.length + 2) = K + 1 by omega]
    simp only [codec_Encode.l0, eTxns]
    rw [if_pos (show (i : Int) < (l.length : Int) by omega), if_pos (show (0 : Int) ≤ (i : Int) by omega), if_pos (show (i : Int) < (l.length : Int) by omega)]
    generalize rd_T47 l (i : Int) = t at hg htl hs hK ⊢
    have hk1 : 10 ≤ K := by omega
    have ht0 := hg.lo
    have ht1 := hg.hi
    rw [and_low t.f0 (by omega) (by omega), show t.f0 % 4294967296 = (((t.f0 - N * 4294967296).toNat : Nat) : Int) by omega, put_k K hk1 _ _ (by omega) (by omega)]
    simp only [Option.bind_some]
    have hp := puts_len (t.f0 - N * 4294967296).toNat (by omega)
    rw [wrapN t.f1.length (by have := hg.most; omega), put_k K hk1 _ _ (by have := hg.most; omega) (by rw [List.length_append]; omega)]
    simp only [Option.bind_some]
    have hp2 := puts_len t.f1.length (by have := hg.most; omega)
    have := enc_l1 l (l.length : Int) (i : Int) t.f1 (gchanges_all hg.all) (by have := hg.most; omega) (k + 10 + s) (by omega) t.f1.length 0 (acc ++ puts (t.f0 - N * 4294967296).toNat ++ puts t.f1.length) (by omega) (by
      simp only [List.length_append]
      have := hg.most
      omega)
    rw [← hK] at this
    rw [show ((0 : Nat) : Int) = 0 from rfl] at this
    rw [this, wrap_succ i (by omega)]
    have e : acc ++ puts (t.f0 - N * 4294967296).toNat ++ puts t.f1.length ++ eChanges (t.f1.drop 0) = acc ++ eTxn N t := by
      unfold eTxn
      simp only [List.drop_zero, List.append_assoc]
    rw [e, hs, List.append_assoc]
theorem encode_ok (N : Int) (l : List S47) (h : GEpoch N l) (hw : WEpoch N l) : ∃ K, ∀ k, K ≤ k → codec_Encode.f k N l = some (eEpoch N l, 0) := by
  have hm := h.most
  have hN := h.hi
  have hN0 := h.lo
  have h1 := puts_len N.toNat (by omega)
  have h2 := puts_len l.length (by omega)
  obtain ⟨s, hs⟩ := enc_l0 N ⟨by omega, hN⟩ l (gtxns_all h.all) hm l.length 0 (puts N.toNat ++ puts l.length) (by omega) (by rw [List.length_append]; omega)
  refine ⟨10 + s, fun k hk => ?_⟩
  unfold codec_Encode.f
  rw [right_f, (right_iff N l hw).2 h]
  simp only [if_true, Option.bind_some]
  have e0 : IntKind.u64.wrap N = ((N.toNat : Nat) : Int) := by rw [IntKind.wrap_u64]; omega
  rw [e0, put_k k (by omega) [] N.toNat (by omega) (by simp), List.nil_append]
  simp only [Option.bind_some]
  rw [wrapN l.length (by omega), put_k k (by omega) _ l.length (by omega) (by omega)]
  simp only [Option.bind_some]
  have := hs (k - 10 - s)
  rw [show k - 10 - s + 10 + s = k by omega, show ((0 : Nat) : Int) = 0 from rfl] at this
  rw [this]
  simp [eEpoch]
theorem encode_no (N : Int) (l : List S47) (h : ¬ GEpoch N l) (hw : WEpoch N l) (k : Nat) : codec_Encode.f k N l = some ([], 1) := by
  unfold codec_Encode.f
  have : rightB N l = false := by
    cases hr : rightB N l with
    | false => rfl
    | true => exact absurd ((right_iff N l hw).1 hr) h
  rw [right_f, this]
  rfl
theorem encr_l0 (l : List S57) (hl : ∀ t ∈ l, GRow t) (hlen : l.length ≤ 1000) (k : Nat) : ∀ (d i : Nat) (acc : List Int), i + d = l.length → acc.length + 341 * d ≤ 80000000 →
    codec_EncodeRows.l0 (k + 10 + d + 1) acc l (l.length : Int) (i : Int) = some (acc ++ eRowsL (l.drop i), 0) := by
  intro d
  induction d with
  | zero =>
    intro i acc hi _
    have : i = l.length := by omega
    subst this
    simp only [codec_EncodeRows.l0]
    rw [if_neg (by omega), List.drop_length]
    simp [eRowsL]
  | succ d ih =>
    intro i acc hi ha
    have hlt : i < l.length := by omega
    have hd := rd57_drop l i hlt
    have hg := hl (rd_T57 l (i : Int)) (by have : rd_T57 l (i : Int) ∈ l.drop i := by rw [hd]; exact List.mem_cons_self
                                           exact List.mem_of_mem_drop this)
    have htl := eRow_len _ hg
    obtain ⟨K, hK⟩ : ∃ K, K = k + 10 + d + 1 := ⟨_, rfl⟩
    rw [hd, show k + 10 + (d + 1) + 1 = K + 1 by omega]
    simp only [codec_EncodeRows.l0, eRowsL]
    rw [if_pos (show (i : Int) < (l.length : Int) by omega), if_pos (show (0 : Int) ≤ (i : Int) by omega), if_pos (show (i : Int) < (l.length : Int) by omega), if_pos (show acc.length < 140737488355328 by omega), wrap_succ i (by omega)]
    generalize rd_T57 l (i : Int) = r at hg htl ⊢
    have hkl := eKey_len r.f0 hg.key
    rw [text_k K (by omega) _ r.f0.f1 (by have := hg.key.most; omega) (by rw [List.length_append, List.length_singleton]; omega)]
    simp only [Option.bind_some]
    have e1 : acc ++ [r.f0.f0] ++ (puts r.f0.f1.size ++ bytesOf r.f0.f1) = acc ++ eKey r.f0 := by rw [List.append_assoc]; rfl
    rw [e1, text_k K (by omega) _ r.f1 (by have := hg.most; omega) (by rw [List.length_append]; omega)]
    simp only [Option.bind_some]
    have e2 : acc ++ eKey r.f0 ++ (puts r.f1.size ++ bytesOf r.f1) = acc ++ eRow r := by rw [List.append_assoc]; rfl
    have ih' := ih (i + 1) (acc ++ eRow r) (by omega) (by rw [List.length_append]; omega)
    rw [e2, hK, ih', List.append_assoc]
theorem rowsB_f (l : List S57) (hl : l.length < 9223372036854775807) : codec_RightRows.f l = some (if rowsB l then 0 else 1) := by unfold codec_RightRows.f; rw [if_pos hl]
theorem encodeR_ok (l : List S57) (h : GRowsL key0 l) (hw : WRows l) (hlen : l.length ≤ 1000) : ∃ K, ∀ k, K ≤ k → codec_EncodeRows.f k l = some (eRows l, 0) := by
  have h2 := puts_len l.length (by omega)
  refine ⟨10 + l.length + 1, fun k hk => ?_⟩
  unfold codec_EncodeRows.f
  rw [rowsB_f l (by omega), (rows_iff l hw).2 h]
  simp only [if_true, Option.bind_some]
  rw [wrapN l.length (by omega), put_k k (by omega) [] l.length (by omega) (by simp), List.nil_append]
  simp only [Option.bind_some]
  have := encr_l0 l (growsL_all h) hlen (k - 10 - l.length - 1) l.length 0 (puts l.length) (by omega) (by omega)
  rw [show k - 10 - l.length - 1 + 10 + l.length + 1 = k by omega, show ((0 : Nat) : Int) = 0 from rfl] at this
  rw [this]
  simp [eRows]
theorem encodeR_no (l : List S57) (h : ¬ GRowsL key0 l) (hw : WRows l) (hlen : l.length < 9223372036854775807) (k : Nat) : codec_EncodeRows.f k l = some ([], 1) := by
  unfold codec_EncodeRows.f
  have : rowsB l = false := by
    cases hr : rowsB l with
    | false => rfl
    | true => exact absurd ((rows_iff l hw).1 hr) h
  rw [rowsB_f l hlen, this]
  rfl
/-! ### Decode -/
theorem decode_t {l : List Int} (hB : Bytes l) (hL : l.length ≤ LIM) : codec_Decode.f l = some (epN (finish (tEpoch l)), epL (finish (tEpoch l)), epE (finish (tEpoch l))) := by
  unfold codec_Decode.f
  rw [takeEpoch_t hB hL]
  rfl
theorem decodeR_t {l : List Int} (hB : Bytes l) (hL : l.length ≤ LIM) : codec_DecodeRows.f l = some (rowsL (finish (tRows l)), epE (finish (tRows l))) := by
  unfold codec_DecodeRows.f
  rw [takeRows_t hB hL]
  rfl
theorem decode_back (N : Int) (l : List S47) (h : GEpoch N l) : codec_Decode.f (eEpoch N l) = some (N, l, 0) := by
  have hl := eEpoch_len N l h
  have := (reads_epoch N l h).ok []
  rw [List.append_nil] at this
  rw [decode_t (eEpoch_bytes N l h) (by unfold LIM; omega), this]
  rfl
theorem decode_more (N : Int) (l : List S47) (h : GEpoch N l) (rest : List Int) (hr : rest ≠ []) (hB : Bytes rest) (hL : rest.length ≤ 90000000) : codec_Decode.f (eEpoch N l ++ rest) = some (0, [], 3) := by
  have hl := eEpoch_len N l h
  have := (reads_epoch N l h).ok rest
  rw [decode_t ((eEpoch_bytes N l h).app hB) (by rw [List.length_append]; unfold LIM; omega), this]
  have e : rest.length ≠ 0 := fun e => hr (List.length_eq_zero_iff.1 e)
  simp only [finish, if_neg e]
  rfl
theorem decode_cut (N : Int) (l : List S47) (h : GEpoch N l) (c : Nat) (hc : c < (eEpoch N l).length) : codec_Decode.f ((eEpoch N l).take c) = some (0, [], 2) := by
  have hl := eEpoch_len N l h
  rw [decode_t ((eEpoch_bytes N l h).take c) (by rw [List.length_take]; unfold LIM; omega), (reads_epoch N l h).cut c hc]
  rfl
theorem eRows_len (l : List S57) (h : GRowsL key0 l) (hlen : l.length ≤ 1000) : (eRows l).length ≤ 400000 := by
  have h2 := puts_len l.length (by omega)
  have := eRowsL_len l (growsL_all h)
  unfold eRows
  rw [List.length_append]
  omega
theorem decodeR_back (l : List S57) (h : GRowsL key0 l) (hlen : l.length ≤ 1000) : codec_DecodeRows.f (eRows l) = some (l, 0) := by
  have hl := eRows_len l h hlen
  have := (reads_rows l h (by omega)).ok []
  rw [List.append_nil] at this
  rw [decodeR_t (eRows_bytes l h) (by unfold LIM; omega), this]
  rfl
theorem decodeR_more (l : List S57) (h : GRowsL key0 l) (hlen : l.length ≤ 1000) (rest : List Int) (hr : rest ≠ []) (hB : Bytes rest) (hL : rest.length ≤ 90000000) : codec_DecodeRows.f (eRows l ++ rest) = some ([], 3) := by
  have hl := eRows_len l h hlen
  have := (reads_rows l h (by omega)).ok rest
  rw [decodeR_t ((eRows_bytes l h).app hB) (by rw [List.length_append]; unfold LIM; omega), this]
  have e : rest.length ≠ 0 := fun e => hr (List.length_eq_zero_iff.1 e)
  simp only [finish, if_neg e]
  rfl
theorem decodeR_cut (l : List S57) (h : GRowsL key0 l) (hlen : l.length ≤ 1000) (c : Nat) (hc : c < (eRows l).length) : codec_DecodeRows.f ((eRows l).take c) = some ([], 2) := by
  have hl := eRows_len l h hlen
  rw [decodeR_t ((eRows_bytes l h).take c) (by rw [List.length_take]; unfold LIM; omega), (reads_rows l h (by omega)).cut c hc]
  rfl
theorem eEpoch_ne (N : Int) (l : List S47) : eEpoch N l ≠ [] := by
  unfold eEpoch
  intro h
  exact puts_ne _ (List.append_eq_nil_iff.1 h).1
theorem eRows_ne (l : List S57) : eRows l ≠ [] := by
  unfold eRows
  intro h
  exact puts_ne _ (List.append_eq_nil_iff.1 h).1
end Go.Proofs.Ytgmdoapedhppmaa.Code

/- Same and SameRows of the document's answer, plain: they say whether two are the same. -/
namespace Go.Proofs.Ytgmdoapedhppmaa.Code
set_option linter.unusedVariables false
set_option linter.unusedSimpArgs false
open Go.RowKit Go.Proofs.Ytgmdoapedhppmaa.PC Go.Proofs.Ytgmdoapedhppmaa.B Go.Proofs.Ytgmdoapedhppmaa.Pure Go.Proofs.YtgmdoapedhppmaaW.PrintWords Go.Proofs.YtgmdoapedhppmaaW.PrintLast Go.Proofs.YtgmdoapedhppmaaW.PrintMore
theorem str_ext {s t : ByteArray} : s.toList = t.toList ↔ s = t := by
  rw [ByteArray.toList_eq, ByteArray.toList_eq]
  exact ⟨fun h => ByteArray.ext (Array.ext' h), fun h => by rw [h]⟩
theorem ne_change (a b : S50) : ((!((a.f0.f0) == (b.f0.f0)) || (!(((a.f0.f1).toList) == ((b.f0.f1).toList)))) || (!((a.f1) == (b.f1)) || (!(((a.f2).toList) == ((b.f2).toList))))) = true ↔ a ≠ b := by
  obtain ⟨⟨a1, a2⟩, a3, a4⟩ := a
  obtain ⟨⟨b1, b2⟩, b3, b4⟩ := b
  simp only [Bool.or_eq_true, Bool.not_eq_true', beq_eq_false_iff_ne, ne_eq, str_ext, S50.mk.injEq, S28.mk.injEq]
  constructor
  · rintro ((h | h) | (h | h)) ⟨⟨e1, e2⟩, e3, e4⟩
    · exact h e1
    · exact h e2
    · exact h e3
    · exact h e4
  · intro h
    by_cases e1 : a1 = b1
    · by_cases e2 : a2 = b2
      · by_cases e3 : a3 = b3
        · by_cases e4 : a4 = b4
          · exact absurd ⟨⟨e1, e2⟩, e3, e4⟩ h
          · exact .inr (.inr e4)
        · exact .inr (.inl e3)
      · exact .inl (.inr e2)
    · exact .inl (.inl e1)
theorem same_l1 (n n' : Int) (l m : List S47) (i : Nat) (hi : i < l.length) (hi' : i < m.length) (hlen : (rd_T47 l (i : Int)).f1.length = (rd_T47 m (i : Int)).f1.length) (hmx : (rd_T47 l (i : Int)).f1.length ≤ 100000) : ∀ (d j : Nat), j + d = (rd_T47 l (i : Int)).f1.length →
    ((rd_T47 l (i : Int)).f1.drop j = (rd_T47 m (i : Int)).f1.drop j ∧ ∀ k, tidemarkref04_Same.l1 (k + d + 1) (i : Int) (j : Int) n l n' m = tidemarkref04_Same.l0 k (wrap64 ((i : Int) + 1)) n l n' m) ∨
    ((rd_T47 l (i : Int)).f1.drop j ≠ (rd_T47 m (i : Int)).f1.drop j ∧ ∀ k, tidemarkref04_Same.l1 (k + d + 1) (i : Int) (j : Int) n l n' m = some false) := by
  classical
  intro d
  induction d with
  | zero =>
    intro j hj
    refine .inl ⟨by rw [List.drop_of_length_le (by omega), List.drop_of_length_le (by omega)], fun k => ?_⟩
    simp only [tidemarkref04_Same.l1]
    rw [if_pos (show (0 : Int) ≤ (i : Int) by omega), if_pos (show (i : Int) < (l.length : Int) by omega), if_neg (by omega)]
  | succ d ih =>
    intro j hj
    have e1 := rd50_drop (rd_T47 l (i : Int)).f1 j (by omega)
    have e2 := rd50_drop (rd_T47 m (i : Int)).f1 j (by omega)
    have hw : wrap64 ((j : Int) + 1) = ((j + 1 : Nat) : Int) := wrap_succ j (by omega)
    have step : ∀ K, tidemarkref04_Same.l1 (K + 1) (i : Int) (j : Int) n l n' m = if rd_T50 (rd_T47 l (i : Int)).f1 (j : Int) ≠ rd_T50 (rd_T47 m (i : Int)).f1 (j : Int) then some false else tidemarkref04_Same.l1 K (i : Int) ((j + 1 : Nat) : Int) n l n' m := by
      intro K
      simp only [tidemarkref04_Same.l1]
      rw [if_pos (show (0 : Int) ≤ (i : Int) by omega), if_pos (show (i : Int) < (l.length : Int) by omega), if_pos (show (j : Int) < _ by omega), if_pos (show (0 : Int) ≤ (j : Int) by omega), if_pos (show (i : Int) < (m.length : Int) by omega), if_pos (show (j : Int) < _ by omega), hw]
      by_cases h : rd_T50 (rd_T47 l (i : Int)).f1 (j : Int) ≠ rd_T50 (rd_T47 m (i : Int)).f1 (j : Int)
      · rw [if_pos h, if_pos ((ne_change _ _).2 h)]
      · rw [if_neg h, if_neg (fun hh => h ((ne_change _ _).1 hh))]
    by_cases h : rd_T50 (rd_T47 l (i : Int)).f1 (j : Int) ≠ rd_T50 (rd_T47 m (i : Int)).f1 (j : Int)
    · refine .inr ⟨fun he => ?_, fun k => by rw [show k + (d + 1) + 1 = (k + d + 1) + 1 by omega, step, if_pos h]⟩
      rw [e1, e2] at he
      injection he with he _
      exact h he
    · rcases ih (j + 1) (by omega) with ⟨a, b⟩ | ⟨a, b⟩
      · exact .inl ⟨by rw [e1, e2, a, Classical.not_not.1 h], fun k => by rw [show k + (d + 1) + 1 = (k + d + 1) + 1 by omega, step, if_neg h]; exact b k⟩
      · refine .inr ⟨fun he => ?_, fun k => by rw [show k + (d + 1) + 1 = (k + d + 1) + 1 by omega, step, if_neg h]; exact b k⟩
        rw [e1, e2] at he
        injection he with _ he
        exact a he
theorem same_l0 (n n' : Int) (l m : List S47) (hlen : l.length = m.length) (hmx : l.length ≤ 100000) (hm : ∀ t ∈ l, t.f1.length ≤ 100000) : ∀ (d i : Nat), i + d = l.length →
    ∃ (s : Nat) (r : Bool), (∀ k, tidemarkref04_Same.l0 (k + s) (i : Int) n l n' m = some r) ∧ (r = true ↔ l.drop i = m.drop i) := by
  intro d
  induction d with
  | zero =>
    intro i hi
    refine ⟨1, true, fun k => ?_, by simp [List.drop_of_length_le (show l.length ≤ i by omega), List.drop_of_length_le (show m.length ≤ i by omega)]⟩
    simp only [tidemarkref04_Same.l0]
    rw [if_neg (by omega)]
  | succ d ih =>
    intro i hi
    obtain ⟨s, r, h1, h2⟩ := ih (i + 1) (by omega)
    have e1 := rd47_drop l i (by omega)
    have e2 := rd47_drop m i (by omega)
    have hml := hm (rd_T47 l (i : Int)) (by have : rd_T47 l (i : Int) ∈ l.drop i := by rw [e1]; exact List.mem_cons_self
                                            exact List.mem_of_mem_drop this)
    have hw : wrap64 ((i : Int) + 1) = ((i + 1 : Nat) : Int) := wrap_succ i (by omega)
    have step : ∀ K, tidemarkref04_Same.l0 (K + 2) (i : Int) n l n' m = if (rd_T47 l (i : Int)).f0 = (rd_T47 m (i : Int)).f0 ∧ (rd_T47 l (i : Int)).f1.length = (rd_T47 m (i : Int)).f1.length then tidemarkref04_Same.l1 K (i : Int) ((0 : Nat) : Int) n l n' m else some false := by
      intro K
      simp only [tidemarkref04_Same.l0, tidemarkref04_Same.j2]
      rw [if_pos (show (i : Int) < (l.length : Int) by omega), if_pos (show (0 : Int) ≤ (i : Int) by omega), if_pos (show (i : Int) < (m.length : Int) by omega)]
      by_cases a : (rd_T47 l (i : Int)).f0 = (rd_T47 m (i : Int)).f0
      · rw [if_pos a]
        by_cases b : (rd_T47 l (i : Int)).f1.length = (rd_T47 m (i : Int)).f1.length
        · rw [if_neg (by simp [b]), if_pos ⟨a, b⟩]
          rfl
        · have b' : ¬ ((rd_T47 l (i : Int)).f1.length : Int) = ((rd_T47 m (i : Int)).f1.length : Int) := by omega
          rw [if_pos (by simp [b']), if_neg (fun h => b h.2)]
      · rw [if_neg a, if_pos trivial, if_neg (fun h => a h.1)]
    by_cases hab : (rd_T47 l (i : Int)).f0 = (rd_T47 m (i : Int)).f0 ∧ (rd_T47 l (i : Int)).f1.length = (rd_T47 m (i : Int)).f1.length
    · rcases same_l1 n n' l m i (by omega) (by omega) hab.2 hml (rd_T47 l (i : Int)).f1.length 0 (by omega) with ⟨a, b⟩ | ⟨a, b⟩
      · refine ⟨s + (rd_T47 l (i : Int)).f1.length + 3, r, fun k => ?_, ?_⟩
        · rw [show k + (s + (rd_T47 l (i : Int)).f1.length + 3) = (k + s + (rd_T47 l (i : Int)).f1.length + 1) + 2 by omega, step, if_pos hab, b, hw, h1]
        · rw [h2, e1, e2]
          simp only [List.drop_zero] at a
          have ht : rd_T47 l (i : Int) = rd_T47 m (i : Int) := by
            revert hab a
            generalize rd_T47 l (i : Int) = x
            generalize rd_T47 m (i : Int) = y
            intro hab a
            obtain ⟨x1, x2⟩ := x
            obtain ⟨y1, y2⟩ := y
            simp only at a hab
            rw [a, hab.1]
          rw [ht]
          simp
      · refine ⟨(rd_T47 l (i : Int)).f1.length + 3, false, fun k => ?_, ?_⟩
        · rw [show k + ((rd_T47 l (i : Int)).f1.length + 3) = (k + (rd_T47 l (i : Int)).f1.length + 1) + 2 by omega, step, if_pos hab, b]
        · rw [e1, e2]
          simp only [List.drop_zero] at a
          constructor
          · intro h; cases h
          · intro h
            injection h with h _
            exact absurd (by rw [h]) a
    · refine ⟨2, false, fun k => by rw [step, if_neg hab], ?_⟩
      rw [e1, e2]
      constructor
      · intro h; cases h
      · intro h
        injection h with h _
        exact absurd ⟨by rw [h], by rw [h]⟩ hab
theorem same_f (n n' : Int) (l m : List S47) (hmx : l.length ≤ 100000) (hm : ∀ t ∈ l, t.f1.length ≤ 100000) : ∃ (K : Nat) (r : Bool), (∀ k, K ≤ k → tidemarkref04_Same.f k n l n' m = some r) ∧ (r = true ↔ n = n' ∧ l = m) := by
  by_cases h : n = n' ∧ l.length = m.length
  · obtain ⟨s, r, h1, h2⟩ := same_l0 n n' l m h.2 hmx hm l.length 0 (by omega)
    refine ⟨s + 1, r, fun k hk => ?_, by rw [h2]; simp [h.1]⟩
    unfold tidemarkref04_Same.f
    obtain ⟨K, rfl⟩ : ∃ K, k = (K + s) + 1 := ⟨k - s - 1, by omega⟩
    rw [if_pos h.1]
    simp only [tidemarkref04_Same.j0]
    rw [if_neg (by simp [h.2])]
    exact h1 K
  · refine ⟨1, false, fun k hk => ?_, ?_⟩
    · unfold tidemarkref04_Same.f
      obtain ⟨K, rfl⟩ : ∃ K, k = K + 1 := ⟨k - 1, by omega⟩
      simp only [tidemarkref04_Same.j0]
      by_cases a : n = n'
      · have b : ¬ (l.length : Int) = (m.length : Int) := by omega
        rw [if_pos a, if_pos (by simp [b])]
      · rw [if_neg a, if_pos trivial]
    · constructor
      · intro h; cases h
      · rintro ⟨a, b⟩
        exact absurd ⟨a, by rw [b]⟩ h
end Go.Proofs.Ytgmdoapedhppmaa.Code

/- CodecMost, plain: the largest epoch has room in a frame, and is read again; with one transaction more it is not right. -/
namespace Go.Proofs.Ytgmdoapedhppmaa.PC
set_option linter.unusedVariables false
set_option linter.unusedSimpArgs false
open Go.RowKit Go.Proofs.Ytgmdoapedhppmaa.Code Go.Proofs.Ytgmdoapedhppmaa.B Go.Proofs.YtgmdoapedhppmaaW.PrintWords Go.Proofs.YtgmdoapedhppmaaW.PrintLast Go.Proofs.YtgmdoapedhppmaaW.PrintMore
theorem shown_m : tidemarklaw04_shown.f = some true := rfl
theorem most_l0 (x0 : Int) : ∀ (d i : Nat) (x4 : ByteArray), i + d = 63 → x4.size = i → ∃ v : ByteArray, v.size = 63 ∧ ∀ k, tidemarklaw04_CodecMost.l0 (k + d + 1) x0 true x4 (i : Int) = tidemarklaw04_CodecMost.l1 k x0 true v (⟨#[]⟩ : ByteArray) 0 := by
  intro d
  induction d with
  | zero =>
    intro i x4 hi hs
    refine ⟨x4, by omega, fun k => ?_⟩
    simp only [tidemarklaw04_CodecMost.l0]
    rw [if_neg (by omega)]
  | succ d ih =>
    intro i x4 hi hs
    obtain ⟨v, h1, h2⟩ := ih (i + 1) (x4 ++ (⟨#[110]⟩ : ByteArray)) (by omega) (by rw [ByteArray.size_append, hs]; rfl)
    refine ⟨v, h1, fun k => ?_⟩
    obtain ⟨K, hK⟩ : ∃ K, K = k + d + 1 := ⟨_, rfl⟩
    rw [show k + (d + 1) + 1 = K + 1 by omega]
    simp only [tidemarklaw04_CodecMost.l0]
    rw [if_pos (by omega), if_pos (by omega), wrap_succ i (by omega), hK, h2]
theorem most_l1 (x0 : Int) (x4 : ByteArray) : ∀ (d i : Nat) (x6 : ByteArray), i + d = 256 → x6.size = i → ∃ v : ByteArray, v.size = 256 ∧ ∀ k, tidemarklaw04_CodecMost.l1 (k + d + 1) x0 true x4 x6 (i : Int) = tidemarklaw04_CodecMost.l2 k true x4 v 0 4294967295 [] := by
  intro d
  induction d with
  | zero =>
    intro i x6 hi hs
    refine ⟨x6, by omega, fun k => ?_⟩
    simp only [tidemarklaw04_CodecMost.l1]
    rw [if_neg (by omega)]
  | succ d ih =>
    intro i x6 hi hs
    have e1 : (strOfNums [x0]).size = 1 := by rw [strOfNums_size]; rfl
    obtain ⟨v, h1, h2⟩ := ih (i + 1) (x6 ++ strOfNums [x0]) (by omega) (by rw [ByteArray.size_append, hs, e1])
    refine ⟨v, h1, fun k => ?_⟩
    obtain ⟨K, hK⟩ : ∃ K, K = k + d + 1 := ⟨_, rfl⟩
    rw [show k + (d + 1) + 1 = K + 1 by omega]
    simp only [tidemarklaw04_CodecMost.l1, Option.bind_some]
    rw [if_pos (by omega), if_pos (by omega), wrap_succ i (by omega), hK, h2]
/-- The changes from the j-th on. -/
def mostC (nm vl : ByteArray) (j d : Nat) : List S50 := (List.range' j d).map fun (x : Nat) => ⟨⟨7, nm ++ strOfNums [65 + (x : Int)]⟩, false, vl⟩
theorem most_l3 (nm vl : ByteArray) (hn : nm.size = 63) (i N : Int) (xs : List S47) (hxs : xs.length < 4398046511104) (tid : Int) : ∀ (d j : Nat) (acc : List S50), j + d = 32 → acc.length = j → ∀ k, tidemarklaw04_CodecMost.l3 (k + d + 1) true nm vl i (j : Int) N xs tid acc = tidemarklaw04_CodecMost.l2 k true nm vl (wrap64 (i + 1)) N (xs ++ [⟨tid, acc ++ mostC nm vl j d⟩]) := by
  intro d
  induction d with
  | zero =>
    intro j acc hj ha k
    simp only [tidemarklaw04_CodecMost.l3]
    rw [if_neg (by omega), if_pos hxs]
    simp [mostC]
  | succ d ih =>
    intro j acc hj ha k
    obtain ⟨K, hK⟩ : ∃ K, K = k + d + 1 := ⟨_, rfl⟩
    rw [show k + (d + 1) + 1 = K + 1 by omega]
    simp only [tidemarklaw04_CodecMost.l3, Option.bind_some]
    have e1 : wrap64 (65 + (j : Int)) % 256 = 65 + (j : Int) := by unfold wrap64; omega
    rw [e1, if_pos (by omega), if_pos (by rw [hn, strOfNums_size]; simp), if_pos (by omega), wrap_succ j (by omega), hK, ih (j + 1) _ (by omega) (by simp [ha])]
    simp only [mostC, List.range'_succ, List.map_cons, List.append_assoc, List.singleton_append]
def mostT (nm vl : ByteArray) (i d : Nat) : List S47 := (List.range' i d).map fun (x : Nat) => ⟨4294967295 * 4294967296 + (4294967296 - 65 + (x : Int)), mostC nm vl 0 32⟩
theorem most_l2 (nm vl : ByteArray) (hn : nm.size = 63) : ∀ (d i : Nat) (xs : List S47), i + d = 65 → xs.length = i → ∃ s, ∀ k, tidemarklaw04_CodecMost.l2 (k + s) true nm vl (i : Int) 4294967295 xs = tidemarklaw04_CodecMost.l2 k true nm vl 65 4294967295 (xs ++ mostT nm vl i d) := by
  intro d
  induction d with
  | zero =>
    intro i xs hi hx
    have : i = 65 := by omega
    subst this
    exact ⟨0, fun k => by simp [mostT]⟩
  | succ d ih =>
    intro i xs hi hx
    obtain ⟨s, hs⟩ := ih (i + 1) (xs ++ [⟨4294967295 * 4294967296 + (4294967296 - 65 + (i : Int)), mostC nm vl 0 32⟩]) (by omega) (by simp [hx])
    refine ⟨s + 34, fun k => ?_⟩
    obtain ⟨K, hK⟩ : ∃ K, K = k + s + 32 + 1 := ⟨_, rfl⟩
    rw [show k + (s + 34) = K + 1 by omega]
    simp only [tidemarklaw04_CodecMost.l2]
    have e1 : IntKind.u64.wrap ((IntKind.u64.wrap ((IntKind.u64.wrap ((IntKind.u64.wrap ((IntKind.u64.wrap (4294967295)) * 4294967296)) + 4294967296)) - 65)) + (IntKind.u64.wrap ((i : Int)))) = 4294967295 * 4294967296 + (4294967296 - 65 + (i : Int)) := by
      simp only [IntKind.wrap_u64]
      omega
    rw [if_pos (by omega), e1, hK]
    have := most_l3 nm vl hn (i : Int) 4294967295 xs (by omega) (4294967295 * 4294967296 + (4294967296 - 65 + (i : Int))) 32 0 [] (by omega) rfl (k + s)
    rw [show ((0 : Nat) : Int) = 0 from rfl] at this
    rw [this, wrap_succ i (by omega), List.nil_append, hs]
    simp only [mostT, List.range'_succ, List.map_cons, List.append_assoc, List.singleton_append]
theorem bl_pre (p x y : List UInt8) : Op.bytesLess (p ++ x) (p ++ y) = Op.bytesLess x y := by
  induction p with
  | nil => rfl
  | cons a p ih => simp [Op.bytesLess, ih]
theorem most_key (nm : ByteArray) (x y : Nat) (h : x < y) (hy : y < 32) : lessB ⟨7, nm ++ strOfNums [65 + (x : Int)]⟩ ⟨7, nm ++ strOfNums [65 + (y : Int)]⟩ = true := by
  unfold lessB
  have e : ∀ z : Nat, (nm ++ strOfNums [65 + (z : Int)]).toList = nm.data.toList ++ [UInt8.ofNat (65 + z)] := by
    intro z
    rw [ByteArray.toList_eq, ByteArray.data_append, Array.toList_append]
    simp [strOfNums, show (65 + (z : Int)).toNat = 65 + z by omega]
  rw [e, e, bl_pre]
  have : UInt8.ofNat (65 + x) < UInt8.ofNat (65 + y) := by
    rw [UInt8.lt_iff_toNat_lt, UInt8.toNat_ofNat', UInt8.toNat_ofNat']
    omega
  generalize UInt8.ofNat (65 + x) = a at this ⊢
  generalize UInt8.ofNat (65 + y) = b at this ⊢
  simp [Op.bytesLess, this]
theorem most_changes (nm vl : ByteArray) (hn : nm.size = 63) (hv : vl.size = 256) : ∀ (d j : Nat) (last : S28), j + d = 32 → (∀ k, j ≤ k → k < 32 → lessB last ⟨7, nm ++ strOfNums [65 + (k : Int)]⟩ = true) → GChanges last (mostC nm vl j d) := by
  intro d
  induction d with
  | zero => intro j last _ _; exact trivial
  | succ d ih =>
    intro j last hj hl
    simp only [mostC, List.range'_succ, List.map_cons]
    have hs : (nm ++ strOfNums [65 + (j : Int)]).size = 64 := by rw [ByteArray.size_append, hn, strOfNums_size]; rfl
    refine ⟨hl j (Nat.le_refl _) (by omega), ⟨⟨by show (0 : Int) ≤ 7; decide, by show (7 : Int) < 8; decide, by show 0 < (nm ++ strOfNums [65 + (j : Int)]).size; omega, by show (nm ++ strOfNums [65 + (j : Int)]).size ≤ 64; omega⟩, by show vl.size ≤ 256; omega, fun h => by cases h⟩, ?_⟩
    exact ih (j + 1) _ (by omega) (fun k h1 h2 => most_key nm j k (by omega) h2)
theorem most_txns (nm vl : ByteArray) (hn : nm.size = 63) (hv : vl.size = 256) : ∀ (d i : Nat) (last : Int), i + d ≤ 65 → last < 4294967296 - 65 + (i : Int) → GTxns 4294967295 last (mostT nm vl i d) := by
  intro d
  induction d with
  | zero => intro i last _ _; exact trivial
  | succ d ih =>
    intro i last hi hl
    simp only [mostT, List.range'_succ, List.map_cons]
    have hc : (mostC nm vl 0 32).length = 32 := by simp [mostC]
    refine ⟨?_, ⟨?_, ?_, ?_, ?_, ?_⟩, ?_⟩
    · show last < 4294967295 * 4294967296 + (4294967296 - 65 + (i : Int)) - 4294967295 * 4294967296; omega
    · show _ ≤ 4294967295 * 4294967296 + (4294967296 - 65 + (i : Int)); omega
    · show 4294967295 * 4294967296 + (4294967296 - 65 + (i : Int)) ≤ _; omega
    · show 1 ≤ (mostC nm vl 0 32).length; omega
    · show (mostC nm vl 0 32).length ≤ 32; omega
    · exact most_changes nm vl hn hv 32 0 key0 (by omega) (fun k _ _ => by
        unfold lessB key0
        simp)
    · exact ih (i + 1) _ (by omega) (by show 4294967295 * 4294967296 + (4294967296 - 65 + (i : Int)) - 4294967295 * 4294967296 < _; omega)
theorem most_take (nm vl : ByteArray) : (mostT nm vl 0 65).take 64 = mostT nm vl 0 64 := by
  unfold mostT
  rw [← List.map_take]
  congr 1
theorem most_len (nm vl : ByteArray) (d : Nat) : (mostT nm vl 0 d).length = d := by unfold mostT; rw [List.length_map, List.length_range']
theorem most_no (nm vl : ByteArray) : rightB 4294967295 (mostT nm vl 0 65) = false := by
  unfold rightB
  rw [most_len]
  simp
theorem most_good (nm vl : ByteArray) (hn : nm.size = 63) (hv : vl.size = 256) : GEpoch 4294967295 (mostT nm vl 0 64) := ⟨by decide, by decide, by rw [most_len]; decide, most_txns nm vl hn hv 64 0 (-1) (by omega) (by omega)⟩
theorem most_w (nm vl : ByteArray) : WEpoch 4294967295 (mostT nm vl 0 64) := by
  refine ⟨by decide, by decide, fun t ht => ?_⟩
  obtain ⟨x, hx, rfl⟩ := List.mem_map.1 ht
  have hx' := List.mem_range'_1.1 hx
  refine ⟨by show (0 : Int) ≤ 4294967295 * 4294967296 + (4294967296 - 65 + (x : Int)); omega, by show 4294967295 * 4294967296 + (4294967296 - 65 + (x : Int)) < _; omega, fun c hc => ?_⟩
  obtain ⟨y, _, rfl⟩ := List.mem_map.1 hc
  show (0 : Int) ≤ 7
  decide
theorem most_end (k : Nat) (nm vl : ByteArray) (b : List Int) (hE : codec_Encode.f k 4294967295 (mostT nm vl 0 64) = some (b, 0)) (hlen : b.length ≤ 700000) (hD : codec_Decode.f b = some (4294967295, mostT nm vl 0 64, 0)) (hS : tidemarkref04_Same.f k 4294967295 (mostT nm vl 0 64) 4294967295 (mostT nm vl 0 64) = some true) :
    tidemarklaw04_CodecMost.l2 (k + 1) true nm vl 65 4294967295 (mostT nm vl 0 65) = some true := by
  have e1 := most_no nm vl
  have e2 := most_take nm vl
  have e3 := most_len nm vl 65
  generalize mostT nm vl 0 64 = x at hE hD hS e2
  generalize mostT nm vl 0 65 = y at e1 e2 e3 ⊢
  simp only [tidemarklaw04_CodecMost.l2]
  rw [if_neg (by decide), right_f, e1]
  simp only [Option.bind_some]
  rw [if_pos (by omega), show (64 : Int).toNat = 64 from rfl, e2, hE]
  simp only [Option.bind_some]
  rw [hD]
  simp only [Option.bind_some]
  rw [if_pos trivial, if_pos (by simp), if_pos trivial, if_pos (by omega), if_pos trivial, hS]
  rfl
theorem CodecMost_pure : tidemarklaw04_CodecMost.Pure := by
  intro a0 _
  obtain ⟨nm, hn, h0⟩ := most_l0 a0 63 0 (⟨#[]⟩ : ByteArray) (by omega) rfl
  obtain ⟨vl, hv, h1⟩ := most_l1 a0 nm 256 0 (⟨#[]⟩ : ByteArray) (by omega) rfl
  obtain ⟨s, h2⟩ := most_l2 nm vl hn 65 0 [] (by omega) rfl
  rw [show ((0 : Nat) : Int) = 0 from rfl] at h0 h1 h2
  have hG := most_good nm vl hn hv
  obtain ⟨K, hK⟩ := encode_ok _ _ hG (most_w nm vl)
  obtain ⟨K2, r, hS, hr⟩ := same_f 4294967295 4294967295 (mostT nm vl 0 64) (mostT nm vl 0 64) (by rw [most_len]; decide) (fun t ht => by
    obtain ⟨x, _, rfl⟩ := List.mem_map.1 ht
    show (mostC nm vl 0 32).length ≤ 100000
    unfold mostC
    rw [List.length_map, List.length_range']
    decide)
  have hr' : r = true := hr.2 ⟨rfl, rfl⟩
  subst hr'
  have hE := most_end (K + K2) nm vl _ (hK _ (by omega)) (eEpoch_len _ _ hG) (decode_back _ _ hG) (hS _ (by omega))
  obtain ⟨k1, hk1⟩ : ∃ k1, k1 = K + K2 + 1 := ⟨_, rfl⟩
  rw [← hk1] at hE
  refine ⟨k1 + s + 256 + 1 + 63 + 1, ?_⟩
  have e0 := h0 (k1 + s + 256 + 1)
  have e1 := h1 (k1 + s)
  have e2 := h2 k1
  rw [List.nil_append] at e2
  have ef : ∀ k, tidemarklaw04_CodecMost.f k a0 = tidemarklaw04_CodecMost.l0 k a0 true (⟨#[]⟩ : ByteArray) 0 := fun k => rfl
  rw [ef]
  exact e0.trans (e1.trans (e2.trans hE))
end Go.Proofs.Ytgmdoapedhppmaa.PC

/- CodecMost, plain: as HPureMost proves it. -/
namespace Go.Proofs.Ytgmdoapedhppmaa.Pure
set_option linter.unusedVariables false
set_option linter.unusedSimpArgs false
theorem CodecMost : PC.tidemarklaw04_CodecMost.Pure := PC.CodecMost_pure
end Go.Proofs.Ytgmdoapedhppmaa.Pure
