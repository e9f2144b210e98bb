/- Texts of this session in one: HOrder, HCode2, HCode3, HOpen, HOpen2, HCode4, HPureTwo. Plain functions, and that the program's come to them. -/
import Derived.Test.YtgmdoapedhppmaaWWords
import Derived.Deep.Slices
import Derived.SizedLaws
import Derived.ChangeArms
import Derived.WideShapes
import Derived.Test.YtgmdoapedhppmaaBCodecTwo0
import Derived.Test.YtgmdoapedhppmaaBCodecTwo1
import Derived.Test.YtgmdoapedhppmaaBCodecTwo2

/- Less, plain: an order of keys. -/
namespace Go.Proofs.Ytgmdoapedhppmaa.PC
set_option linter.unusedVariables false
set_option linter.unusedSimpArgs false
open Go.RowKit Go.Proofs.YtgmdoapedhppmaaW.PrintWords Go.Proofs.YtgmdoapedhppmaaW.PrintLast Go.Proofs.YtgmdoapedhppmaaW.PrintMore
theorem less_k (k : Nat) (hk : 3 ≤ k) (a b : S28) : codec_Less.f k a.f0 a.f1 b.f0 b.f1 = some (lessB a b) := at_rounds (codec_Less.mono _ _ _ _) hk (less_f a b)
theorem less_irrefl (a : S28) : lessB a a = false := by
  unfold lessB
  simp [bl_irrefl]
theorem less_trans {a b c : S28} (h1 : lessB a b = true) (h2 : lessB b c = true) : lessB a c = true := by
  unfold lessB at *
  simp only [Bool.or_eq_true, Bool.and_eq_true, decide_eq_true_eq] at *
  rcases h1 with h1 | ⟨e1, h1⟩
  · rcases h2 with h2 | ⟨e2, h2⟩
    · exact .inl (by omega)
    · exact .inl (by omega)
  · rcases h2 with h2 | ⟨e2, h2⟩
    · exact .inl (by omega)
    · exact .inr ⟨by omega, bl_trans _ _ _ h1 h2⟩
theorem less_asymm {a b : S28} (h1 : lessB a b = true) : lessB b a = false := by
  cases h : lessB b a with
  | false => rfl
  | true => have := less_trans h1 h; rw [less_irrefl] at this; cases this
theorem less_tri (a b : S28) : (lessB a b || lessB b a) = !(a.f0 == b.f0 && (a.f1.toList == b.f1.toList)) := by
  unfold lessB
  by_cases h : a.f0 = b.f0
  · have h2 : ¬ a.f0 < b.f0 := by omega
    have h3 : ¬ b.f0 < a.f0 := by omega
    rcases bl_tri a.f1.toList b.f1.toList with ⟨p, q, r⟩ | ⟨p, q, r⟩ | ⟨p, q, r⟩
    · simp [h, p, q, r]
    · simp [h, p, q, r]
    · simp [h, p, q, r, bl_irrefl]
  · by_cases h2 : a.f0 < b.f0
    · simp [h, h2]
    · have h3 : b.f0 < a.f0 := by omega
      simp [h, h3]
theorem less_more (a : S28) : lessB a ⟨a.f0, a.f1 ++ (⟨#[120]⟩ : ByteArray)⟩ = true := by
  unfold lessB
  have : (a.f1 ++ (⟨#[120]⟩ : ByteArray)).toList = a.f1.toList ++ [120] := by
    rw [ByteArray.toList_eq, ByteArray.toList_eq, ByteArray.data_append, Array.toList_append]
  simp [this, bl_more]
end Go.Proofs.Ytgmdoapedhppmaa.PC

/- The codec, plain: what is written is read; cut off it ends too early; what is read was written. -/
namespace Go.Proofs.Ytgmdoapedhppmaa.Code
set_option linter.unusedVariables false
set_option linter.unusedSimpArgs false
open Go.RowKit Go.Proofs.Ytgmdoapedhppmaa.PC Go.Proofs.Ytgmdoapedhppmaa.B Go.Proofs.Ytgmdoapedhppmaa.Pure Go.Proofs.YtgmdoapedhppmaaW.PrintWords Go.Proofs.YtgmdoapedhppmaaW.PrintLast Go.Proofs.YtgmdoapedhppmaaW.PrintMore
/-! ### The bytes -/
def eKey (k : S28) : List Int := [k.f0] ++ (puts k.f1.size ++ bytesOf k.f1)
def eChange (c : S50) : List Int := eKey c.f0 ++ (puts (if c.f1 then 0 else c.f2.size + 1) ++ bytesOf c.f2)
def eChanges : List S50 → List Int
  | [] => []
  | c :: l => eChange c ++ eChanges l
def eTxn (N : Int) (t : S47) : List Int := puts (t.f0 - N * 4294967296).toNat ++ (puts t.f1.length ++ eChanges t.f1)
def eTxns (N : Int) : List S47 → List Int
  | [] => []
  | t :: l => eTxn N t ++ eTxns N l
def eEpoch (N : Int) (l : List S47) : List Int := puts N.toNat ++ (puts l.length ++ eTxns N l)
def eRow (r : S57) : List Int := eKey r.f0 ++ (puts r.f1.size ++ bytesOf r.f1)
def eRowsL : List S57 → List Int
  | [] => []
  | r :: l => eRow r ++ eRowsL l
def eRows (l : List S57) : List Int := puts l.length ++ eRowsL l
/-! ### What may be -/
structure GKey (k : S28) : Prop where
  lo : 0 ≤ k.f0
  hi : k.f0 < 8
  pos : 0 < k.f1.size
  most : k.f1.size ≤ 64
structure GChange (c : S50) : Prop where
  key : GKey c.f0
  most : c.f2.size ≤ 256
  gone : c.f1 = true → c.f2.size = 0
def GChanges : S28 → List S50 → Prop
  | _, [] => True
  | last, c :: l => lessB last c.f0 = true ∧ GChange c ∧ GChanges c.f0 l
structure GTxn (N : Int) (t : S47) : Prop where
  lo : N * 4294967296 ≤ t.f0
  hi : t.f0 ≤ N * 4294967296 + 4294967295
  pos : 1 ≤ t.f1.length
  most : t.f1.length ≤ 32
  all : GChanges key0 t.f1
def GTxns (N : Int) : Int → List S47 → Prop
  | _, [] => True
  | last, t :: l => last < t.f0 - N * 4294967296 ∧ GTxn N t ∧ GTxns N (t.f0 - N * 4294967296) l
structure GEpoch (N : Int) (l : List S47) : Prop where
  lo : 1 ≤ N
  hi : N ≤ 4294967295
  most : l.length ≤ 64
  all : GTxns N (-1) l
structure GRow (r : S57) : Prop where
  key : GKey r.f0
  most : r.f1.size ≤ 256
def GRowsL : S28 → List S57 → Prop
  | _, [] => True
  | last, r :: l => lessB last r.f0 = true ∧ GRow r ∧ GRowsL r.f0 l
/-! ### Written, then read -/
/-- p reads x off the bytes e; cut off, it ends too early. -/
structure Reads {β : Type} (p : List Int → Except Int (β × List Int)) (x : β) (e : List Int) : Prop where
  ok : ∀ rest, p (e ++ rest) = .ok (x, rest)
  cut : ∀ c, c < e.length → p (e.take c) = .error 2
theorem Reads.bind {α β : Type} {p : List Int → Except Int (α × List Int)} {f : α → List Int → Except Int (β × List Int)} {x : α} {y : β} {e e' : List Int} (h : Reads p x e) (k : Reads (f x) y e') : Reads (fun l => bnd (p l) fun q => f q.1 q.2) y (e ++ e') := by
  refine ⟨fun rest => ?_, fun c hc => ?_⟩
  · show bnd (p (e ++ e' ++ rest)) _ = _
    rw [List.append_assoc, h.ok]
    exact k.ok rest
  · show bnd (p ((e ++ e').take c)) _ = _
    by_cases hc' : c < e.length
    · rw [List.take_append_of_le_length (by omega), h.cut c hc']
      rfl
    · rw [List.take_append, List.take_of_length_le (by omega), h.ok]
      exact k.cut (c - e.length) (by rw [List.length_append] at hc; omega)
theorem Reads.done {β : Type} (x : β) : Reads (fun l => .ok (x, l)) x [] := ⟨fun rest => rfl, fun c hc => absurd hc (Nat.not_lt_zero c)⟩
theorem Reads.of {β : Type} {p p' : List Int → Except Int (β × List Int)} {x : β} {e e' : List Int} (h : Reads p x e) (hp : p' = p) (he : e' = e) : Reads p' x e' := by subst hp; subst he; exact h
theorem reads_n (lo hi n : Int) (h0 : 0 ≤ n) (h1 : n < 18446744073709551616) (hlo : lo ≤ n) (hhi : n ≤ hi) : Reads (tN lo hi) n (puts n.toNat) := by
  refine ⟨fun rest => ?_, fun c hc => ?_⟩
  · unfold tN
    rw [gets_puts rest n.toNat (by omega)]
    simp only [if_true]
    rw [if_pos (by omega), show ((n.toNat : Nat) : Int) = n by omega, Int.toNat_natCast, List.drop_left]
  · unfold tN
    rw [gets_cut n.toNat 0 0 c (by simp; omega) (Or.inl rfl) hc]
    rfl
theorem reads_b (s : ByteArray) (n : Int) (hn : n = (s.size : Int)) : Reads (PC.takeB n) s (bytesOf s) := by
  subst hn
  refine ⟨fun rest => ?_, fun c hc => ?_⟩
  · unfold PC.takeB
    have e : (bytesOf s).length = s.size := bytesOf_length s
    rw [if_neg (by rw [List.length_append]; omega), Int.toNat_natCast, ← e, List.take_left, List.drop_left, strs_bytes]
  · unfold PC.takeB
    rw [bytesOf_length] at hc
    rw [if_pos (by rw [List.length_take, bytesOf_length]; omega)]
theorem reads_one (x : Int) (h0 : 0 ≤ x) (h1 : x < 256) : Reads (PC.takeB 1) (strOfNums [x]) [x] := by
  refine ⟨fun rest => ?_, fun c hc => ?_⟩
  · unfold PC.takeB
    rw [if_neg (by simp; omega)]
    rfl
  · have : c = 0 := by simpa using hc
    subst this
    rfl
theorem byte0_one (x : Int) (h0 : 0 ≤ x) (h1 : x < 256) : byte0 (strOfNums [x]) = x := by
  have h : 0 < (strOfNums [x]).size := by rw [strOfNums_size]; exact Nat.zero_lt_one
  rw [byte0_get h]
  have e : (strOfNums [x])[0] = UInt8.ofNat x.toNat := by simp [strOfNums, ByteArray.getElem_eq_getElem_data]
  rw [e]
  simp only [UInt8.toNat_ofNat']
  omega
theorem reads_key (last k : S28) (hk : GKey k) (hl : lessB last k = true) : Reads (tKey last) k (eKey k) := by
  obtain ⟨h0, h1, h2, h3⟩ := hk
  have b := byte0_one k.f0 h0 (by omega)
  have r2 := reads_n 1 64 (k.f1.size : Int) (by omega) (by omega) (by omega) (by omega)
  rw [Int.toNat_natCast] at r2
  have r3 := reads_b k.f1 _ rfl
  have d : Reads (fun l => if lessB last ⟨byte0 (strOfNums [k.f0]), k.f1⟩ = true then .ok ((⟨byte0 (strOfNums [k.f0]), k.f1⟩ : S28), l) else .error 3) k [] := by
    rw [b]
    show Reads (fun l => if lessB last k = true then .ok (k, l) else .error 3) k []
    rw [hl]
    exact Reads.done k
  have a3 := r3.bind (f := fun m l => if lessB last ⟨byte0 (strOfNums [k.f0]), m⟩ = true then .ok ((⟨byte0 (strOfNums [k.f0]), m⟩ : S28), l) else .error 3) d
  have a2 := r2.bind (f := fun n l => bnd (PC.takeB n l) fun m => if lessB last ⟨byte0 (strOfNums [k.f0]), m.1⟩ = true then .ok ((⟨byte0 (strOfNums [k.f0]), m.1⟩ : S28), m.2) else .error 3) a3
  have a1 := (reads_one k.f0 h0 (by omega)).bind (f := fun s l => if byte0 s < 8 then bnd (tN 1 64 l) fun n => bnd (PC.takeB n.1 n.2) fun m => if lessB last ⟨byte0 s, m.1⟩ = true then .ok ((⟨byte0 s, m.1⟩ : S28), m.2) else .error 3 else .error 3) (y := k) (e' := puts k.f1.size ++ (bytesOf k.f1 ++ [])) (by
    have : byte0 (strOfNums [k.f0]) < 8 := by rw [b]; exact h1
    simp only [if_pos this]
    exact a2)
  exact a1.of rfl (by rw [List.append_nil]; rfl)
theorem reads_change (last : S28) (c : S50) (hc : GChange c) (hl : lessB last c.f0 = true) : Reads (tChange last) c (eChange c) := by
  obtain ⟨hk, h1, h2⟩ := hc
  have r1 := reads_key last c.f0 hk hl
  cases hg : c.f1 with
  | true =>
    have hs := h2 hg
    have r2 := reads_n 0 257 0 (by omega) (by omega) (by omega) (by omega)
    have r3 := reads_b c.f2 (mx (0 - 1) 0) (by rw [hs]; rfl)
    have d : Reads (fun l => .ok ((⟨c.f0, (0 : Int) == 0, c.f2⟩ : S50), l)) c [] := by
      have : (⟨c.f0, (0 : Int) == 0, c.f2⟩ : S50) = c := by cases c; simp_all
      rw [this]
      exact Reads.done c
    have a3 := r3.bind (f := fun m l => .ok ((⟨c.f0, (0 : Int) == 0, m⟩ : S50), l)) d
    have a2 := r2.bind (f := fun n l => bnd (PC.takeB (mx (n - 1) 0) l) fun m => .ok ((⟨c.f0, n == 0, m.1⟩ : S50), m.2)) a3
    have a1 := r1.bind (f := fun k l => bnd (tN 0 257 l) fun n => bnd (PC.takeB (mx (n.1 - 1) 0) n.2) fun m => .ok ((⟨k, n.1 == 0, m.1⟩ : S50), m.2)) a2
    exact a1.of rfl (by unfold eChange; rw [hg, List.append_nil]; rfl)
  | false =>
    have r2 := reads_n 0 257 ((c.f2.size + 1 : Nat) : Int) (by omega) (by omega) (by omega) (by omega)
    rw [Int.toNat_natCast] at r2
    have r3 := reads_b c.f2 (mx (((c.f2.size + 1 : Nat) : Int) - 1) 0) (by unfold mx; rw [if_neg (by omega)]; omega)
    have d : Reads (fun l => .ok ((⟨c.f0, ((c.f2.size + 1 : Nat) : Int) == 0, c.f2⟩ : S50), l)) c [] := by
      have e : (((c.f2.size + 1 : Nat) : Int) == 0) = false := beq_eq_false_iff_ne.2 (by omega)
      have : (⟨c.f0, ((c.f2.size + 1 : Nat) : Int) == 0, c.f2⟩ : S50) = c := by rw [e]; cases c; simp_all
      rw [this]
      exact Reads.done c
    have a3 := r3.bind (f := fun m l => .ok ((⟨c.f0, ((c.f2.size + 1 : Nat) : Int) == 0, m⟩ : S50), l)) d
    have a2 := r2.bind (f := fun n l => bnd (PC.takeB (mx (n - 1) 0) l) fun m => .ok ((⟨c.f0, n == 0, m.1⟩ : S50), m.2)) a3
    have a1 := r1.bind (f := fun k l => bnd (tN 0 257 l) fun n => bnd (PC.takeB (mx (n.1 - 1) 0) n.2) fun m => .ok ((⟨k, n.1 == 0, m.1⟩ : S50), m.2)) a2
    exact a1.of rfl (by unfold eChange; rw [hg, List.append_nil]; rfl)
theorem reads_changes : ∀ (l : List S50) (last : S28), GChanges last l → Reads (tChanges l.length last) l (eChanges l)
  | [], last, _ => Reads.done []
  | c :: l, last, h => by
    obtain ⟨h1, h2, h3⟩ := h
    have a2 := (reads_changes l c.f0 h3).bind (f := fun q r => .ok (c :: q, r)) (Reads.done (c :: l))
    have a1 := (reads_change last c h2 h1).bind (f := fun x r => bnd (tChanges l.length x.f0 r) fun q => .ok (x :: q.1, q.2)) a2
    exact a1.of rfl (by rw [List.append_nil]; rfl)
theorem reads_txn (N last : Int) (t : S47) (ht : GTxn N t) (hl : last < t.f0 - N * 4294967296) : Reads (tTxn N last) t (eTxn N t) := by
  obtain ⟨h1, h2, h3, h4, h5⟩ := ht
  have r1 := reads_n 0 4294967295 (t.f0 - N * 4294967296) (by omega) (by omega) (by omega) (by omega)
  have r2 := reads_n 1 32 (t.f1.length : Int) (by omega) (by omega) (by omega) (by omega)
  rw [Int.toNat_natCast] at r2
  have r3 := reads_changes t.f1 key0 h5
  have d : Reads (fun l => .ok ((⟨N * 4294967296 + (t.f0 - N * 4294967296), t.f1⟩ : S47), l)) t [] := by
    have : (⟨N * 4294967296 + (t.f0 - N * 4294967296), t.f1⟩ : S47) = t := by
      have e : N * 4294967296 + (t.f0 - N * 4294967296) = t.f0 := by omega
      rw [e]
    rw [this]
    exact Reads.done t
  have a3 := r3.bind (f := fun q l => .ok ((⟨N * 4294967296 + (t.f0 - N * 4294967296), q⟩ : S47), l)) d
  have a2 := r2.bind (f := fun n l => bnd (tChanges n.toNat key0 l) fun q => .ok ((⟨N * 4294967296 + (t.f0 - N * 4294967296), q.1⟩ : S47), q.2)) (by rw [Int.toNat_natCast]; exact a3)
  have a1 := r1.bind (f := fun p l => if last < p then bnd (tN 1 32 l) fun n => bnd (tChanges n.1.toNat key0 n.2) fun q => .ok ((⟨N * 4294967296 + p, q.1⟩ : S47), q.2) else .error 3) (by simp only [if_pos hl]; exact a2)
  exact a1.of rfl (by rw [List.append_nil]; rfl)
theorem reads_txns (N : Int) : ∀ (l : List S47) (last : Int), GTxns N last l → Reads (tTxns N l.length last) l (eTxns N l)
  | [], last, _ => Reads.done []
  | t :: l, last, h => by
    obtain ⟨h1, h2, h3⟩ := h
    have a2 := (reads_txns N l _ h3).bind (f := fun q r => .ok (t :: q, r)) (Reads.done (t :: l))
    have a1 := (reads_txn N last t h2 h1).bind (f := fun x r => bnd (tTxns N l.length (x.f0 - N * 4294967296) r) fun q => .ok (x :: q.1, q.2)) a2
    exact a1.of rfl (by rw [List.append_nil]; rfl)
theorem reads_epoch (N : Int) (l : List S47) (h : GEpoch N l) : Reads tEpoch (N, l) (eEpoch N l) := by
  obtain ⟨h1, h2, h3, h4⟩ := h
  have r1 := reads_n 1 4294967295 N (by omega) (by omega) (by omega) (by omega)
  have r2 := reads_n 0 64 (l.length : Int) (by omega) (by omega) (by omega) (by omega)
  rw [Int.toNat_natCast] at r2
  have a3 := (reads_txns N l (-1) h4).bind (f := fun q r => .ok ((N, q), r)) (Reads.done (N, l))
  have a2 := r2.bind (f := fun n r => bnd (tTxns N n.toNat (-1) r) fun q => .ok ((N, q.1), q.2)) (by rw [Int.toNat_natCast]; exact a3)
  have a1 := r1.bind (f := fun p r => bnd (tN 0 64 r) fun n => bnd (tTxns p n.1.toNat (-1) n.2) fun q => .ok ((p, q.1), q.2)) a2
  exact a1.of rfl (by rw [List.append_nil]; rfl)
theorem reads_row (last : S28) (r : S57) (hr : GRow r) (hl : lessB last r.f0 = true) : Reads (tRow last) r (eRow r) := by
  obtain ⟨hk, h1⟩ := hr
  have r2 := reads_n 0 256 (r.f1.size : Int) (by omega) (by omega) (by omega) (by omega)
  rw [Int.toNat_natCast] at r2
  have a3 := (reads_b r.f1 _ rfl).bind (f := fun m l => .ok ((⟨r.f0, m⟩ : S57), l)) (Reads.done r)
  have a2 := r2.bind (f := fun n l => bnd (PC.takeB n l) fun m => .ok ((⟨r.f0, m.1⟩ : S57), m.2)) a3
  have a1 := (reads_key last r.f0 hk hl).bind (f := fun k l => bnd (tN 0 256 l) fun n => bnd (PC.takeB n.1 n.2) fun m => .ok ((⟨k, m.1⟩ : S57), m.2)) a2
  exact a1.of rfl (by rw [List.append_nil]; rfl)
theorem reads_rowsL : ∀ (l : List S57) (last : S28), GRowsL last l → Reads (tRowsL l.length last) l (eRowsL l)
  | [], last, _ => Reads.done []
  | r :: l, last, h => by
    obtain ⟨h1, h2, h3⟩ := h
    have a2 := (reads_rowsL l r.f0 h3).bind (f := fun q z => .ok (r :: q, z)) (Reads.done (r :: l))
    have a1 := (reads_row last r h2 h1).bind (f := fun x z => bnd (tRowsL l.length x.f0 z) fun q => .ok (x :: q.1, q.2)) a2
    exact a1.of rfl (by rw [List.append_nil]; rfl)
theorem reads_rows (l : List S57) (h : GRowsL key0 l) (hl : l.length ≤ 4611686018427387904) : Reads tRows l (eRows l) := by
  have r1 := reads_n 0 4611686018427387904 (l.length : Int) (by omega) (by omega) (by omega) (by omega)
  rw [Int.toNat_natCast] at r1
  exact r1.bind (f := fun n r => tRowsL n.toNat key0 r) (by rw [Int.toNat_natCast]; exact reads_rowsL l key0 h)
/-! ### Read, so it was written -/
/-- Whatever p reads is good, and these were its bytes. -/
def Says {β : Type} (p : List Int → Except Int (β × List Int)) (e : β → List Int) (G : β → Prop) : Prop :=
  ∀ (l : List Int) (x : β) (l' : List Int), Bytes l → p l = .ok (x, l') → l = e x ++ l' ∧ G x
theorem says_n (lo hi : Int) (h0 : 0 ≤ lo) : Says (tN lo hi) (fun n => puts n.toNat) (fun n => lo ≤ n ∧ n ≤ hi) := by
  intro l n l' hB h
  unfold tN at h
  rcases hg : gets l 0 0 with ⟨v, s, e⟩
  rw [hg] at h
  simp only at h
  split at h
  · rename_i he
    subst he
    split at h
    · rename_i hn
      injection h with h
      injection h with h1 h2
      obtain ⟨u, k, hv, hs, hk, ht, _, _⟩ := gets_inv l 0 0 v s hB (by omega) hg
      have hv' : v = (u : Int) := by simpa using hv
      have hs' : s.toNat = k := by omega
      rw [← h1, ← h2]
      refine ⟨?_, hn⟩
      show l = puts v.toNat ++ _
      rw [hs', hv', Int.toNat_natCast, ← ht, List.take_append_drop]
    · cases h
  · cases h
theorem says_b (n : Int) (hn : 0 ≤ n) : Says (PC.takeB n) bytesOf (fun s => (s.size : Int) = n) := by
  intro l s l' hB h
  unfold PC.takeB at h
  split at h
  · cases h
  · injection h with h
    injection h with h1 h2
    rw [← h1, ← h2, bytes_strs _ (hB.take _), List.take_append_drop]
    refine ⟨rfl, ?_⟩
    show ((strOfNums (l.take n.toNat)).size : Int) = n
    rw [strOfNums_size, List.length_take]
    omega
theorem bytes_one {s : ByteArray} (hs : s.size = 1) : bytesOf s = [byte0 s] := by
  rw [byte0_get (by omega)]
  obtain ⟨⟨l⟩⟩ := s
  match l, hs with
  | [b], _ => rfl
theorem says_key (last : S28) : Says (tKey last) eKey (fun k => GKey k ∧ lessB last k = true) := by
  intro l k l' hB h
  unfold tKey at h
  obtain ⟨⟨s, l1⟩, h1, h⟩ := bnd_ok h
  obtain ⟨e1, g1⟩ := says_b 1 (by decide) l s l1 hB h1
  try dsimp only at e1 g1
  have B1 := (takeB_rest h1).bytes hB
  simp only at h
  split at h
  · rename_i h8
    obtain ⟨⟨n, l2⟩, h2, h⟩ := bnd_ok h
    simp only at h2 h
    obtain ⟨e2, g2⟩ := says_n 1 64 (by decide) l1 n l2 B1 h2
    try dsimp only at e2 g2
    have B2 := (tN_rest h2).bytes B1
    obtain ⟨⟨m, l3⟩, h3, h⟩ := bnd_ok h
    simp only at h3 h
    obtain ⟨e3, g3⟩ := says_b n (by omega) l2 m l3 B2 h3
    try dsimp only at e3 g3
    split at h
    · rename_i hl
      injection h with h
      injection h with ha hb
      have hs : s.size = 1 := by omega
      have hx : bytesOf s = [byte0 s] := bytes_one hs
      rw [← ha, ← hb]
      refine ⟨?_, ⟨?_, h8, by show 0 < m.size; omega, by show m.size ≤ 64; omega⟩, hl⟩
      · rw [e1, e2, e3, hx, show n.toNat = m.size by omega]
        simp [eKey]
      · show 0 ≤ byte0 s
        rw [byte0_get (by omega)]
        omega
    · cases h
  · cases h
theorem says_change (last : S28) : Says (tChange last) eChange (fun c => GChange c ∧ lessB last c.f0 = true) := by
  intro l c l' hB h
  unfold tChange at h
  obtain ⟨⟨k, l1⟩, h1, h⟩ := bnd_ok h
  obtain ⟨e1, g1, g1'⟩ := says_key last l k l1 hB h1
  try dsimp only at e1 g1 g1'
  have B1 := (tKey_rest h1).1.bytes hB
  obtain ⟨⟨n, l2⟩, h2, h⟩ := bnd_ok h
  simp only at h2 h
  obtain ⟨e2, g2⟩ := says_n 0 257 (by decide) l1 n l2 B1 h2
  try dsimp only at e2 g2
  have B2 := (tN_rest h2).bytes B1
  obtain ⟨⟨m, l3⟩, h3, h⟩ := bnd_ok h
  simp only at h3 h
  obtain ⟨e3, g3⟩ := says_b (mx (n - 1) 0) (by unfold mx; split <;> omega) l2 m l3 B2 h3
  try dsimp only at e3 g3
  injection h with h
  injection h with ha hb
  rw [← ha, ← hb]
  by_cases hn : n = 0
  · subst hn
    have hm : m.size = 0 := by
      have : mx (0 - 1) 0 = 0 := rfl
      rw [this] at g3
      omega
    refine ⟨?_, ⟨g1, by show m.size ≤ 256; omega, fun _ => hm⟩, g1'⟩
    rw [e1, e2, e3]
    simp [eChange]
  · have he : (n == 0) = false := beq_eq_false_iff_ne.2 hn
    have hm : (m.size : Int) = n - 1 := by
      have : mx (n - 1) 0 = n - 1 := by unfold mx; rw [if_neg (by omega)]
      rw [this] at g3
      exact g3
    refine ⟨?_, ⟨g1, by show m.size ≤ 256; omega, fun h => by rw [he] at h; cases h⟩, g1'⟩
    rw [e1, e2, e3, show n.toNat = m.size + 1 by omega]
    simp [eChange, he]
theorem says_changes (n : Nat) : ∀ last, Says (tChanges n last) eChanges (fun l => GChanges last l ∧ l.length = n) := by
  induction n with
  | zero =>
    intro last l xs l' _ h
    injection h with h
    injection h with h1 h2
    rw [← h1, ← h2]
    exact ⟨rfl, trivial, rfl⟩
  | succ n ih =>
    intro last l xs l' hB h
    obtain ⟨⟨c, l1⟩, h1, h⟩ := bnd_ok h
    obtain ⟨e1, g1, g1'⟩ := says_change last l c l1 hB h1
    try dsimp only at e1 g1 g1'
    have B1 := (tChange_rest h1).bytes hB
    obtain ⟨⟨cs, l2⟩, h2, h⟩ := bnd_ok h
    obtain ⟨e2, g2, g2'⟩ := ih c.f0 l1 cs l2 B1 h2
    try dsimp only at e2 g2 g2'
    injection h with h
    injection h with ha hb
    rw [← ha, ← hb]
    exact ⟨by rw [e1, e2]; simp [eChanges], ⟨g1', g1, g2⟩, by simp [g2']⟩
theorem says_txn (N last : Int) (hl : -1 ≤ last) : Says (tTxn N last) (eTxn N) (fun t => GTxn N t ∧ last < t.f0 - N * 4294967296) := by
  intro l t l' hB h
  unfold tTxn at h
  obtain ⟨⟨p, l1⟩, h1, h⟩ := bnd_ok h
  obtain ⟨e1, g1⟩ := says_n 0 4294967295 (by decide) l p l1 hB h1
  try dsimp only at e1 g1
  have B1 := (tN_rest h1).bytes hB
  simp only at h
  split at h
  · rename_i hp
    obtain ⟨⟨n, l2⟩, h2, h⟩ := bnd_ok h
    simp only at h2 h
    obtain ⟨e2, g2⟩ := says_n 1 32 (by decide) l1 n l2 B1 h2
    try dsimp only at e2 g2
    have B2 := (tN_rest h2).bytes B1
    obtain ⟨⟨cs, l3⟩, h3, h⟩ := bnd_ok h
    simp only at h3 h
    obtain ⟨e3, g3, g3'⟩ := says_changes n.toNat key0 l2 cs l3 B2 h3
    try dsimp only at e3 g3 g3'
    injection h with h
    injection h with ha hb
    rw [← ha, ← hb]
    have ep : N * 4294967296 + p - N * 4294967296 = p := by omega
    refine ⟨?_, ⟨by show _ ≤ N * 4294967296 + p; omega, by show N * 4294967296 + p ≤ _; omega, by show 1 ≤ cs.length; omega, by show cs.length ≤ 32; omega, g3⟩, by show last < N * 4294967296 + p - N * 4294967296; omega⟩
    rw [e1, e2, e3, show n.toNat = cs.length by omega]
    simp [eTxn, ep]
  · cases h
theorem says_txns (N : Int) (n : Nat) : ∀ last, -1 ≤ last → Says (tTxns N n last) (eTxns N) (fun l => GTxns N last l ∧ l.length = n) := by
  induction n with
  | zero =>
    intro last _ l xs l' _ h
    injection h with h
    injection h with h1 h2
    rw [← h1, ← h2]
    exact ⟨rfl, trivial, rfl⟩
  | succ n ih =>
    intro last hl l xs l' hB h
    obtain ⟨⟨t, l1⟩, h1, h⟩ := bnd_ok h
    obtain ⟨e1, g1, g1'⟩ := says_txn N last hl l t l1 hB h1
    try dsimp only at e1 g1 g1'
    have B1 := (tTxn_rest h1).bytes hB
    obtain ⟨⟨ts, l2⟩, h2, h⟩ := bnd_ok h
    obtain ⟨e2, g2, g2'⟩ := ih _ (by show -1 ≤ t.f0 - N * 4294967296; omega) l1 ts l2 B1 h2
    try dsimp only at e2 g2 g2'
    injection h with h
    injection h with ha hb
    rw [← ha, ← hb]
    exact ⟨by rw [e1, e2]; simp [eTxns], ⟨g1', g1, g2⟩, by simp [g2']⟩
theorem says_epoch : Says tEpoch (fun x => eEpoch x.1 x.2) (fun x => GEpoch x.1 x.2) := by
  intro l x l' hB h
  unfold tEpoch at h
  obtain ⟨⟨N, l1⟩, h1, h⟩ := bnd_ok h
  obtain ⟨e1, g1⟩ := says_n 1 4294967295 (by decide) l N l1 hB h1
  try dsimp only at e1 g1
  have B1 := (tN_rest h1).bytes hB
  obtain ⟨⟨n, l2⟩, h2, h⟩ := bnd_ok h
  simp only at h2 h
  obtain ⟨e2, g2⟩ := says_n 0 64 (by decide) l1 n l2 B1 h2
  try dsimp only at e2 g2
  have B2 := (tN_rest h2).bytes B1
  obtain ⟨⟨ts, l3⟩, h3, h⟩ := bnd_ok h
  simp only at h3 h
  obtain ⟨e3, g3, g3'⟩ := says_txns N n.toNat (-1) (by decide) l2 ts l3 B2 h3
  try dsimp only at e3 g3 g3'
  injection h with h
  injection h with ha hb
  rw [← ha, ← hb]
  refine ⟨?_, ⟨g1.1, g1.2, by show ts.length ≤ 64; omega, g3⟩⟩
  rw [e1, e2, e3, show n.toNat = ts.length by omega]
  simp [eEpoch]
theorem tRow_rest {last : S28} {x : S57} {l l' : List Int} (h : tRow last l = .ok (x, l')) : Rest l' l := by
  unfold tRow at h
  obtain ⟨⟨k, l1⟩, h1, h⟩ := bnd_ok h
  obtain ⟨⟨n, l2⟩, h2, h⟩ := bnd_ok h
  obtain ⟨⟨m, l3⟩, h3, h⟩ := bnd_ok h
  injection h with h; injection h with _ h; subst h
  exact (takeB_rest h3).trans ((tN_rest h2).trans (tKey_rest h1).1)
theorem says_row (last : S28) : Says (tRow last) eRow (fun r => GRow r ∧ lessB last r.f0 = true) := by
  intro l c l' hB h
  unfold tRow at h
  obtain ⟨⟨k, l1⟩, h1, h⟩ := bnd_ok h
  obtain ⟨e1, g1, g1'⟩ := says_key last l k l1 hB h1
  try dsimp only at e1 g1 g1'
  have B1 := (tKey_rest h1).1.bytes hB
  obtain ⟨⟨n, l2⟩, h2, h⟩ := bnd_ok h
  simp only at h2 h
  obtain ⟨e2, g2⟩ := says_n 0 256 (by decide) l1 n l2 B1 h2
  try dsimp only at e2 g2
  have B2 := (tN_rest h2).bytes B1
  obtain ⟨⟨m, l3⟩, h3, h⟩ := bnd_ok h
  simp only at h3 h
  obtain ⟨e3, g3⟩ := says_b n (by omega) l2 m l3 B2 h3
  try dsimp only at e3 g3
  injection h with h
  injection h with ha hb
  rw [← ha, ← hb]
  refine ⟨?_, ⟨g1, by show m.size ≤ 256; omega⟩, g1'⟩
  rw [e1, e2, e3, show n.toNat = m.size by omega]
  simp [eRow]
theorem says_rowsL (n : Nat) : ∀ last, Says (tRowsL n last) eRowsL (fun l => GRowsL last l ∧ l.length = n) := by
  induction n with
  | zero =>
    intro last l xs l' _ h
    injection h with h
    injection h with h1 h2
    rw [← h1, ← h2]
    exact ⟨rfl, trivial, rfl⟩
  | succ n ih =>
    intro last l xs l' hB h
    obtain ⟨⟨c, l1⟩, h1, h⟩ := bnd_ok h
    obtain ⟨e1, g1, g1'⟩ := says_row last l c l1 hB h1
    try dsimp only at e1 g1 g1'
    have B1 := (tRow_rest h1).bytes hB
    obtain ⟨⟨cs, l2⟩, h2, h⟩ := bnd_ok h
    obtain ⟨e2, g2, g2'⟩ := ih c.f0 l1 cs l2 B1 h2
    try dsimp only at e2 g2 g2'
    injection h with h
    injection h with ha hb
    rw [← ha, ← hb]
    exact ⟨by rw [e1, e2]; simp [eRowsL], ⟨g1', g1, g2⟩, by simp [g2']⟩
theorem says_rows : Says tRows eRows (fun l => GRowsL key0 l) := by
  intro l x l' hB h
  unfold tRows at h
  obtain ⟨⟨n, l1⟩, h1, h⟩ := bnd_ok h
  obtain ⟨e1, g1⟩ := says_n 0 4611686018427387904 (by decide) l n l1 hB h1
  try dsimp only at e1 g1
  have B1 := (tN_rest h1).bytes hB
  simp only at h
  obtain ⟨e2, g2, g2'⟩ := says_rowsL n.toNat key0 l1 x l' B1 h
  try dsimp only at e2 g2 g2'
  refine ⟨?_, g2⟩
  rw [e1, e2, ← g2']
  simp [eRows]
end Go.Proofs.Ytgmdoapedhppmaa.Code

/- The codec, plain: what may be is what Right says; Encode writes the bytes. -/
namespace Go.Proofs.Ytgmdoapedhppmaa.Code
set_option linter.unusedVariables false
set_option linter.unusedSimpArgs false
open Go.RowKit Go.Proofs.Ytgmdoapedhppmaa.PC Go.Proofs.Ytgmdoapedhppmaa.B Go.Proofs.Ytgmdoapedhppmaa.Pure Go.Proofs.YtgmdoapedhppmaaW.PrintWords Go.Proofs.YtgmdoapedhppmaaW.PrintLast Go.Proofs.YtgmdoapedhppmaaW.PrintMore
/-! ### Right -/
theorem rises_iff {α : Type} (c : α → α → Int) (z : α) (l : List α) : rises c z l = true ↔ ∀ j, 0 < j → j < l.length → c (l.getD (j - 1) z) (l.getD j z) < 0 := by
  refine ⟨fun h j h0 h1 => ?_, rises_yes c z l⟩
  unfold rises at h
  have := List.all_eq_true.1 h j (List.mem_range.2 h1)
  simp only [Bool.or_eq_true, decide_eq_true_eq] at this
  omega
theorem rises_cons {α : Type} (c : α → α → Int) (z a b : α) (l : List α) : rises c z (a :: b :: l) = true ↔ c a b < 0 ∧ rises c z (b :: l) = true := by
  rw [rises_iff, rises_iff]
  refine ⟨fun h => ⟨h 1 (by omega) (by simp), fun j h0 h1 => ?_⟩, fun ⟨h, k⟩ j h0 h1 => ?_⟩
  · have := h (j + 1) (by omega) (by simpa using h1)
    obtain ⟨i, rfl⟩ : ∃ i, j = i + 1 := ⟨j - 1, by omega⟩
    simpa using this
  · by_cases e : j = 1
    · subst e; exact h
    · obtain ⟨i, rfl⟩ : ∃ i, j = i + 2 := ⟨j - 2, by omega⟩
      have := k (i + 1) (by omega) (by simpa using h1)
      simpa using this
theorem rises_nil {α : Type} (c : α → α → Int) (z : α) : rises c z [] = true := rfl
theorem rises_one {α : Type} (c : α → α → Int) (z a : α) : rises c z [a] = true := by rw [rises_iff]; intro j h0 h1; simp at h1; omega
theorem str_nil (s : ByteArray) : s.toList = ([] : List UInt8) ↔ s.size = 0 := by
  rw [ByteArray.toList_eq]
  constructor
  · intro h
    have : s.data.toList.length = 0 := by rw [h]; rfl
    simpa using this
  · intro h
    exact List.length_eq_zero_iff.1 (by simpa using h)
theorem keyB_iff (k : S28) (h : 0 ≤ k.f0) : keyB k = true ↔ GKey k := by
  unfold keyB
  simp only [Bool.and_eq_true, decide_eq_true_eq, bne_iff_ne, ne_eq, str_nil]
  exact ⟨fun ⟨⟨h1, h2⟩, h3⟩ => ⟨h, h1, by omega, by omega⟩, fun ⟨_, h1, h2, h3⟩ => ⟨⟨h1, by omega⟩, by omega⟩⟩
theorem changeB_iff (c : S50) (h : 0 ≤ c.f0.f0) : changeB c = true ↔ GChange c := by
  unfold changeB valueB
  simp only [Bool.and_eq_true, decide_eq_true_eq, Bool.or_eq_true, Bool.not_eq_true', beq_iff_eq, str_nil, keyB_iff c.f0 h]
  refine ⟨fun ⟨⟨h1, h2⟩, h3⟩ => ⟨h1, by omega, fun hg => ?_⟩, fun ⟨h1, h2, h3⟩ => ⟨⟨h1, by omega⟩, ?_⟩⟩
  · rcases h3 with h3 | h3
    · rw [hg] at h3; cases h3
    · exact h3
  · cases hg : c.f1 with
    | true => exact .inr (h3 hg)
    | false => exact .inl rfl
theorem less_key0 (k : S28) (h : GKey k) : lessB key0 k = true := by
  unfold lessB key0
  simp only [Bool.or_eq_true, Bool.and_eq_true, decide_eq_true_eq]
  have := h.lo
  by_cases e : 0 = k.f0
  · refine .inr ⟨e, ?_⟩
    have hn : k.f1.toList ≠ [] := fun hn => by have := (str_nil k.f1).1 hn; have := h.pos; omega
    have e0 : (⟨#[]⟩ : ByteArray).toList = [] := by rw [ByteArray.toList_eq]
    rw [e0]
    cases hl : k.f1.toList with
    | nil => exact absurd hl hn
    | cons a l => rfl
  · exact .inl (by omega)
theorem changes_iff : ∀ (l : List S50) (last : S28), (∀ c ∈ l, 0 ≤ c.f0.f0) → (GChanges last l ↔ (∀ c ∈ l, GChange c) ∧ (∀ c, l.head? = some c → lessB last c.f0 = true) ∧ rises (fun a b => ordI a.f0 b.f0) z50 l = true)
  | [], last, _ => by simp [GChanges, rises_nil]
  | [a], last, _ => by simp [GChanges, rises_one]; exact ⟨fun h => ⟨h.2, h.1⟩, fun h => ⟨h.2, h.1⟩⟩
  | a :: b :: l, last, hw => by
    rw [rises_cons]
    have ih := changes_iff (b :: l) a.f0 (fun c hc => hw c (List.mem_cons_of_mem _ hc))
    show (lessB last a.f0 = true ∧ GChange a ∧ GChanges a.f0 (b :: l)) ↔ _
    rw [ih, ord_less]
    constructor
    · rintro ⟨h1, h2, h3, h4, h5⟩
      exact ⟨fun c hc => (List.mem_cons.1 hc).elim (fun e => e ▸ h2) (h3 c), fun c hc => by cases hc; exact h1, h4 b rfl, h5⟩
    · rintro ⟨h1, h2, h3, h4⟩
      exact ⟨h2 a rfl, h1 a List.mem_cons_self, fun c hc => h1 c (List.mem_cons_of_mem _ hc), fun c hc => by cases hc; exact h3, h4⟩
theorem rowsL_iff : ∀ (l : List S57) (last : S28), (GRowsL last l ↔ (∀ c ∈ l, GRow c) ∧ (∀ c, l.head? = some c → lessB last c.f0 = true) ∧ rises (fun a b => ordI a.f0 b.f0) z57 l = true)
  | [], last => by simp [GRowsL, rises_nil]
  | [a], last => by simp [GRowsL, rises_one]; exact ⟨fun h => ⟨h.2, h.1⟩, fun h => ⟨h.2, h.1⟩⟩
  | a :: b :: l, last => by
    rw [rises_cons]
    have ih := rowsL_iff (b :: l) a.f0
    show (lessB last a.f0 = true ∧ GRow a ∧ GRowsL a.f0 (b :: l)) ↔ _
    rw [ih, ord_less]
    constructor
    · rintro ⟨h1, h2, h3, h4, h5⟩
      exact ⟨fun c hc => (List.mem_cons.1 hc).elim (fun e => e ▸ h2) (h3 c), fun c hc => by cases hc; exact h1, h4 b rfl, h5⟩
    · rintro ⟨h1, h2, h3, h4⟩
      exact ⟨h2 a rfl, h1 a List.mem_cons_self, fun c hc => h1 c (List.mem_cons_of_mem _ hc), fun c hc => by cases hc; exact h3, h4⟩
structure WTxn (t : S47) : Prop where
  lo : 0 ≤ t.f0
  hi : t.f0 < 18446744073709551616
  all : ∀ c ∈ t.f1, 0 ≤ c.f0.f0
structure WEpoch (N : Int) (l : List S47) : Prop where
  lo : 0 ≤ N
  hi : N ≤ 4294967295
  all : ∀ t ∈ l, WTxn t
def WRows (l : List S57) : Prop := ∀ r ∈ l, 0 ≤ r.f0.f0
theorem any_iff {α : Type} (p : α → Bool) (l : List α) : (!l.any (fun x => !p x)) = true ↔ ∀ x ∈ l, p x = true := by
  simp
theorem txnB_iff (N : Int) (t : S47) (hN : 0 ≤ N ∧ N ≤ 4294967295) (h : WTxn t) : txnB N t = true ↔ GTxn N t := by
  unfold txnB badChange
  simp only [Bool.and_eq_true, decide_eq_true_eq, any_iff]
  obtain ⟨h0, h1, h2⟩ := h
  constructor
  · rintro ⟨⟨⟨⟨a, b⟩, c⟩, d⟩, e⟩
    refine ⟨by omega, by omega, by omega, by omega, (changes_iff t.f1 key0 h2).2 ⟨fun c hc => (changeB_iff c (h2 c hc)).1 (d c hc), fun c hc => ?_, e⟩⟩
    have hm := List.mem_of_head? hc
    exact less_key0 _ ((changeB_iff c (h2 c hm)).1 (d c hm)).key
  · rintro ⟨a, b, c, d, e⟩
    obtain ⟨e1, e2, e3⟩ := (changes_iff t.f1 key0 h2).1 e
    exact ⟨⟨⟨⟨by omega, by omega⟩, by omega⟩, fun c hc => (changeB_iff c (h2 c hc)).2 (e1 c hc)⟩, e3⟩
theorem cmpI_lt (a b : Int) : cmpI a b < 0 ↔ a < b := by
  unfold cmpI
  by_cases h : a < b
  · simp [h]
  · by_cases h2 : a > b
    · simp [h, h2]
    · simp [h, h2]
theorem txns_iff (N : Int) : ∀ (l : List S47) (last : Int), (GTxns N last l ↔ (∀ t ∈ l, GTxn N t) ∧ (∀ t, l.head? = some t → last < t.f0 - N * 4294967296) ∧ rises (fun a b => cmpI a.f0 b.f0) z47 l = true)
  | [], last => by simp [GTxns, rises_nil]
  | [a], last => by simp [GTxns, rises_one]; exact ⟨fun h => ⟨h.2, h.1⟩, fun h => ⟨h.2, h.1⟩⟩
  | a :: b :: l, last => by
    rw [rises_cons]
    have ih := txns_iff N (b :: l) (a.f0 - N * 4294967296)
    show (last < a.f0 - N * 4294967296 ∧ GTxn N a ∧ GTxns N (a.f0 - N * 4294967296) (b :: l)) ↔ _
    rw [ih, cmpI_lt]
    constructor
    · rintro ⟨h1, h2, h3, h4, h5⟩
      have h6 := h4 b rfl
      exact ⟨fun c hc => (List.mem_cons.1 hc).elim (fun e => e ▸ h2) (h3 c), fun c hc => by cases hc; exact h1, by omega, h5⟩
    · rintro ⟨h1, h2, h3, h4⟩
      exact ⟨h2 a rfl, h1 a List.mem_cons_self, fun c hc => h1 c (List.mem_cons_of_mem _ hc), fun c hc => by cases hc; omega, h4⟩
theorem right_iff (N : Int) (l : List S47) (h : WEpoch N l) : rightB N l = true ↔ GEpoch N l := by
  unfold rightB badTxn
  rw [Bool.and_eq_true, Bool.and_eq_true, Bool.and_eq_true, any_iff (fun t => txnB N t)]
  simp only [Bool.not_eq_true', decide_eq_false_iff_not]
  obtain ⟨h0, h1, h2⟩ := h
  constructor
  · rintro ⟨⟨⟨a, b⟩, c⟩, d⟩
    refine ⟨by omega, by omega, by omega, (txns_iff N l (-1)).2 ⟨fun t ht => (txnB_iff N t ⟨h0, h1⟩ (h2 t ht)).1 (c t ht), fun t ht => ?_, d⟩⟩
    have hm := List.mem_of_head? ht
    have := ((txnB_iff N t ⟨h0, h1⟩ (h2 t hm)).1 (c t hm)).lo
    omega
  · rintro ⟨a, b, c, d⟩
    obtain ⟨e1, e2, e3⟩ := (txns_iff N l (-1)).1 d
    exact ⟨⟨⟨by omega, by omega⟩, fun t ht => (txnB_iff N t ⟨h0, h1⟩ (h2 t ht)).2 (e1 t ht)⟩, e3⟩
theorem rows_iff (l : List S57) (h : WRows l) : rowsB l = true ↔ GRowsL key0 l := by
  unfold rowsB badRow valueB
  rw [Bool.and_eq_true, any_iff (fun r : S57 => keyB r.f0 && decide ((r.f1.size : Int) ≤ 256)), rowsL_iff]
  simp only [Bool.and_eq_true, decide_eq_true_eq]
  constructor
  · rintro ⟨a, b⟩
    have ha : ∀ r ∈ l, GRow r := fun r hr => ⟨(keyB_iff r.f0 (h r hr)).1 (a r hr).1, by have := (a r hr).2; omega⟩
    exact ⟨ha, fun r hr => less_key0 _ (ha r (List.mem_of_head? hr)).key, b⟩
  · rintro ⟨a, _, b⟩
    exact ⟨fun r hr => ⟨(keyB_iff r.f0 (h r hr)).2 (a r hr).key, by have := (a r hr).most; omega⟩, b⟩
theorem right_f (N : Int) (l : List S47) : codec_Right.f N l = some (if rightB N l then 0 else 1) := rfl
/-! ### Encode -/
theorem puts_len (n : Nat) (h : n < 18446744073709551616) : (puts n).length ≤ 10 := puts_ten n h
theorem eKey_len (k : S28) (h : GKey k) : (eKey k).length ≤ 75 := by
  have := puts_len k.f1.size (by have := h.most; omega)
  have := h.most
  unfold eKey
  simp only [List.length_append, List.length_cons, List.length_nil, bytesOf_length]
  omega
theorem eChange_len (c : S50) (h : GChange c) : (eChange c).length ≤ 341 := by
  have h1 := eKey_len c.f0 h.key
  have h2 : (puts (if c.f1 then 0 else c.f2.size + 1)).length ≤ 10 := puts_len _ (by have := h.most; split <;> omega)
  have := h.most
  unfold eChange
  simp only [List.length_append, bytesOf_length]
  omega
theorem eChanges_len : ∀ (l : List S50), (∀ c ∈ l, GChange c) → (eChanges l).length ≤ 341 * l.length
  | [], _ => by simp [eChanges]
  | c :: l, h => by
    have h1 := eChange_len c (h c List.mem_cons_self)
    have h2 := eChanges_len l (fun x hx => h x (List.mem_cons_of_mem _ hx))
    simp only [eChanges, List.length_append, List.length_cons]
    omega
theorem gchanges_all {last : S28} {l : List S50} : GChanges last l → ∀ c ∈ l, GChange c := by
  induction l generalizing last with
  | nil => intro _ c hc; cases hc
  | cons a l ih =>
    rintro ⟨_, h2, h3⟩ c hc
    rcases List.mem_cons.1 hc with rfl | hc
    · exact h2
    · exact ih h3 c hc
theorem gtxns_all {N last : Int} {l : List S47} : GTxns N last l → ∀ c ∈ l, GTxn N c := by
  induction l generalizing last with
  | nil => intro _ c hc; cases hc
  | cons a l ih =>
    rintro ⟨_, h2, h3⟩ c hc
    rcases List.mem_cons.1 hc with rfl | hc
    · exact h2
    · exact ih h3 c hc
theorem growsL_all {last : S28} {l : List S57} : GRowsL last l → ∀ c ∈ l, GRow c := by
  induction l generalizing last with
  | nil => intro _ c hc; cases hc
  | cons a l ih =>
    rintro ⟨_, h2, h3⟩ c hc
    rcases List.mem_cons.1 hc with rfl | hc
    · exact h2
    · exact ih h3 c hc
theorem eTxn_len (N : Int) (t : S47) (h : GTxn N t) : (eTxn N t).length ≤ 10932 := by
  have h1 := puts_len (t.f0 - N * 4294967296).toNat (by have := h.hi; omega)
  have h2 := puts_len t.f1.length (by have := h.most; omega)
  have h3 := eChanges_len t.f1 (gchanges_all h.all)
  have := h.most
  unfold eTxn
  simp only [List.length_append]
  omega
theorem eTxns_len (N : Int) : ∀ (l : List S47), (∀ c ∈ l, GTxn N c) → (eTxns N l).length ≤ 10932 * l.length
  | [], _ => by simp [eTxns]
  | c :: l, h => by
    have h1 := eTxn_len N c (h c List.mem_cons_self)
    have h2 := eTxns_len N l (fun x hx => h x (List.mem_cons_of_mem _ hx))
    simp only [eTxns, List.length_append, List.length_cons]
    omega
theorem eEpoch_len (N : Int) (l : List S47) (h : GEpoch N l) : (eEpoch N l).length ≤ 700000 := by
  have h1 := puts_len N.toNat (by have := h.hi; omega)
  have h2 := puts_len l.length (by have := h.most; omega)
  have h3 := eTxns_len N l (gtxns_all h.all)
  have := h.most
  unfold eEpoch
  simp only [List.length_append]
  omega
theorem eRow_len (r : S57) (h : GRow r) : (eRow r).length ≤ 341 := by
  have h1 := eKey_len r.f0 h.key
  have h2 := puts_len r.f1.size (by have := h.most; omega)
  have := h.most
  unfold eRow
  simp only [List.length_append, bytesOf_length]
  omega
theorem eRowsL_len : ∀ (l : List S57), (∀ c ∈ l, GRow c) → (eRowsL l).length ≤ 341 * l.length
  | [], _ => by simp [eRowsL]
  | c :: l, h => by
    have h1 := eRow_len c (h c List.mem_cons_self)
    have h2 := eRowsL_len l (fun x hx => h x (List.mem_cons_of_mem _ hx))
    simp only [eRowsL, List.length_append, List.length_cons]
    omega
theorem eKey_bytes (k : S28) (h : GKey k) : Bytes (eKey k) := by
  unfold eKey
  refine Bytes.app ?_ ((puts_bytes _).app (bytesOf_bytes _))
  intro x hx
  have := List.mem_singleton.1 hx
  have := h.lo
  have := h.hi
  omega
theorem eChange_bytes (c : S50) (h : GChange c) : Bytes (eChange c) := (eKey_bytes _ h.key).app ((puts_bytes _).app (bytesOf_bytes _))
theorem bytes_nil : Bytes [] := fun x hx => by cases hx
theorem eChanges_bytes : ∀ (l : List S50), (∀ c ∈ l, GChange c) → Bytes (eChanges l)
  | [], _ => bytes_nil
  | c :: l, h => (eChange_bytes c (h c List.mem_cons_self)).app (eChanges_bytes l (fun x hx => h x (List.mem_cons_of_mem _ hx)))
theorem eTxns_bytes (N : Int) : ∀ (l : List S47), (∀ c ∈ l, GTxn N c) → Bytes (eTxns N l)
  | [], _ => bytes_nil
  | c :: l, h => ((puts_bytes _).app ((puts_bytes _).app (eChanges_bytes _ (gchanges_all (h c List.mem_cons_self).all)))).app (eTxns_bytes N l (fun x hx => h x (List.mem_cons_of_mem _ hx)))
theorem eEpoch_bytes (N : Int) (l : List S47) (h : GEpoch N l) : Bytes (eEpoch N l) := (puts_bytes _).app ((puts_bytes _).app (eTxns_bytes N l (gtxns_all h.all)))
theorem eRowsL_bytes : ∀ (l : List S57), (∀ c ∈ l, GRow c) → Bytes (eRowsL l)
  | [], _ => bytes_nil
  | c :: l, h => ((eKey_bytes _ (h c List.mem_cons_self).key).app ((puts_bytes _).app (bytesOf_bytes _))).app (eRowsL_bytes l (fun x hx => h x (List.mem_cons_of_mem _ hx)))
theorem eRows_bytes (l : List S57) (h : GRowsL key0 l) : Bytes (eRows l) := (puts_bytes _).app (eRowsL_bytes l (growsL_all h))
/-! #### The loops -/
theorem put_k (k : Nat) (hk : 10 ≤ k) (l : List Int) (n : Nat) (hn : n < 18446744073709551616) (hl : l.length + 10 < 140737488355328) : shift_PutUint.f k l (n : Int) = some (l ++ puts n) := by
  have := put_f k l (n : Int) (by omega) (by omega) hk hl
  rwa [Int.toNat_natCast] at this
theorem wrapN (n : Nat) (hn : n < 18446744073709551616) : IntKind.u64.wrap (n : Int) = (n : Int) := by rw [IntKind.wrap_u64]; omega
theorem text_k (k : Nat) (hk : 10 ≤ k) (l : List Int) (s : ByteArray) (hs : s.size ≤ 1000) (hl : l.length ≤ 100000000) : codec_text.f k l s = some (l ++ (puts s.size ++ bytesOf s)) := by
  unfold codec_text.f
  rw [wrapN s.size (by omega), put_k k hk l s.size (by omega) (by omega)]
  have := puts_len s.size (by omega)
  simp only [Option.bind_some]
  rw [if_pos (by rw [List.length_append]; omega), List.append_assoc]
theorem rd50_drop (cs : List S50) (i : Nat) (h : i < cs.length) : cs.drop i = rd_T50 cs (i : Int) :: cs.drop (i + 1) := by
  rw [List.drop_eq_getElem_cons h]
  unfold rd_T50
  rw [Int.toNat_natCast, List.getD_eq_getElem?_getD, List.getElem?_eq_getElem h]
  rfl
theorem rd47_drop (cs : List S47) (i : Nat) (h : i < cs.length) : cs.drop i = rd_T47 cs (i : Int) :: cs.drop (i + 1) := by
  rw [List.drop_eq_getElem_cons h]
  unfold rd_T47
  rw [Int.toNat_natCast, List.getD_eq_getElem?_getD, List.getElem?_eq_getElem h]
  rfl
theorem rd57_drop (cs : List S57) (i : Nat) (h : i < cs.length) : cs.drop i = rd_T57 cs (i : Int) :: cs.drop (i + 1) := by
  rw [List.drop_eq_getElem_cons h]
  unfold rd_T57
  rw [Int.toNat_natCast, List.getD_eq_getElem?_getD, List.getElem?_eq_getElem h]
  rfl
theorem wrap_succ (i : Nat) (h : i < 1000000) : wrap64 ((i : Int) + 1) = ((i + 1 : Nat) : Int) := by unfold wrap64; omega
theorem enc_l1 (l : List S47) (n j : Int) (cs : List S50) (hcs : ∀ c ∈ cs, GChange c) (hlen : cs.length ≤ 1000) (k : Nat) (hk : 10 ≤ k) : ∀ (d i : Nat) (acc : List Int), i + d = cs.length → acc.length + 341 * d ≤ 90000000 →
    codec_Encode.l1 (k + d + 1) acc l n j cs (cs.length : Int) (i : Int) = codec_Encode.l0 k (acc ++ eChanges (cs.drop i)) l n (wrap64 (j + 1)) := by
  intro d
  induction d with
  | zero =>
    intro i acc hi _
    have : i = cs.length := by omega
    subst this
    simp only [codec_Encode.l1]
    rw [if_neg (by omega), List.drop_length]
    simp [eChanges]
  | succ d ih =>
    intro i acc hi ha
    have hlt : i < cs.length := by omega
    have hd := rd50_drop cs i hlt
    have hg := hcs (rd_T50 cs (i : Int)) (by have : rd_T50 cs (i : Int) ∈ cs.drop i := by rw [hd]; exact List.mem_cons_self
                                             exact List.mem_of_mem_drop this)
    have hcl := eChange_len _ hg
    obtain ⟨K, hK⟩ : ∃ K, K = k + d + 1 := ⟨_, rfl⟩
    rw [hd, show k + (d + 1) + 1 = K + 1 by omega]
    simp only [codec_Encode.l1, eChanges]
    have hKk : 10 ≤ K := by omega
    rw [if_pos (show (i : Int) < (cs.length : Int) by omega), if_pos (show (0 : Int) ≤ (i : Int) by omega), if_pos (show (i : Int) < (cs.length : Int) by omega), if_pos (show acc.length < 140737488355328 by omega), wrap_succ i (by omega)]
    generalize rd_T50 cs (i : Int) = c at hg hcl ⊢
    rw [text_k K hKk _ c.f0.f1 (by have := hg.key.most; omega) (by rw [List.length_append, List.length_singleton]; omega)]
    simp only [Option.bind_some]
    have hkl := eKey_len c.f0 hg.key
    have e1 : acc ++ [c.f0.f0] ++ (puts c.f0.f1.size ++ bytesOf c.f0.f1) = acc ++ eKey c.f0 := by rw [List.append_assoc]; rfl
    rw [e1]
    have hl1 : (acc ++ eKey c.f0).length ≤ 90000000 + 75 := by rw [List.length_append]; omega
    have ih' := ih (i + 1) (acc ++ eChange c) (by omega) (by rw [List.length_append]; omega)
    rw [← hK] at ih'
    cases hgo : c.f1 with
    | true =>
      have hs : c.f2.size = 0 := hg.gone hgo
      rw [if_pos rfl, if_pos (by omega)]
      have e2 : acc ++ eKey c.f0 ++ [0] = acc ++ eChange c := by
        unfold eChange
        rw [hgo, if_pos rfl, bytesOf_nil.1 hs, List.append_nil, List.append_assoc, puts_lo (by decide)]
        rfl
      rw [e2, ih', List.append_assoc]
    | false =>
      rw [if_neg (by decide), wrapN c.f2.size (by have := hg.most; omega), show ((c.f2.size : Int) + 1) = ((c.f2.size + 1 : Nat) : Int) by omega, wrapN (c.f2.size + 1) (by have := hg.most; omega), put_k K hKk _ _ (by have := hg.most; omega) (by omega)]
      simp only [Option.bind_some]
      have hp := puts_len (c.f2.size + 1) (by have := hg.most; omega)
      rw [if_pos (by rw [List.length_append]; have := hg.most; omega)]
      have e2 : acc ++ eKey c.f0 ++ puts (c.f2.size + 1) ++ bytesOf c.f2 = acc ++ eChange c := by
        unfold eChange
        rw [hgo, if_neg (by decide)]
        simp only [List.append_assoc]
      rw [e2, ih', List.append_assoc]
theorem and_low (x : Int) (h0 : 0 ≤ x) (h1 : x < 18446744073709551616) : Go.bits .and .u64 x 4294967295 = x % 4294967296 := by
  have := bits_mask .u64 64 (by decide) wraps_u64 32 (by decide) x h0 (by rw [two64]; exact h1)
  simpa using this
theorem enc_l0 (N : Int) (hN : 0 ≤ N ∧ N ≤ 4294967295) (l : List S47) (hl : ∀ t ∈ l, GTxn N t) (hlen : l.length ≤ 64) : ∀ (d i : Nat) (acc : List Int), i + d = l.length → acc.length + 10932 * d ≤ 80000000 →
    ∃ s, ∀ k, codec_Encode.l0 (k + 10 + s) acc l (l.length : Int) (i : Int) = some (acc ++ eTxns N (l.drop i), 0) := by
  intro d
  induction d with
  | zero =>
    intro i acc hi _
    have : i = l.length := by omega
    subst this
    refine ⟨1, fun k => ?_⟩
    simp only [codec_Encode.l0]
    rw [if_neg (by omega), List.drop_length]
    simp [eTxns]
  | succ d ih =>
    intro i acc hi ha
    have hlt : i < l.length := by omega
    have hd := rd47_drop l i hlt
    have hg := hl (rd_T47 l (i : Int)) (by have : rd_T47 l (i : Int) ∈ l.drop i := by rw [hd]; exact List.mem_cons_self
                                           exact List.mem_of_mem_drop this)
    have htl := eTxn_len N _ hg
    obtain ⟨s, hs⟩ := ih (i + 1) (acc ++ eTxn N (rd_T47 l (i : Int))) (by omega) (by rw [List.length_append]; omega)
    refine ⟨s + (rd_T47 l (i : Int)).f1.length + 2, fun k => ?_⟩
    obtain ⟨K, hK⟩ : ∃ K, K = k + 10 + s + (rd_T47 l (i : Int)).f1.length + 1 := ⟨_, rfl⟩
    rw [hd, show k + 10 + (s + (rd_T47 l (i : Int)).f1.length + 2) = K + 1 by omega]
    simp only [codec_Encode.l0, eTxns]
    rw [if_pos (show (i : Int) < (l.length : Int) by omega), if_pos (show (0 : Int) ≤ (i : Int) by omega), if_pos (show (i : Int) < (l.length : Int) by omega)]
    generalize rd_T47 l (i : Int) = t at hg htl hs hK ⊢
    have hk1 : 10 ≤ K := by omega
    have ht0 := hg.lo
    have ht1 := hg.hi
    rw [and_low t.f0 (by omega) (by omega), show t.f0 % 4294967296 = (((t.f0 - N * 4294967296).toNat : Nat) : Int) by omega, put_k K hk1 _ _ (by omega) (by omega)]
    simp only [Option.bind_some]
    have hp := puts_len (t.f0 - N * 4294967296).toNat (by omega)
    rw [wrapN t.f1.length (by have := hg.most; omega), put_k K hk1 _ _ (by have := hg.most; omega) (by rw [List.length_append]; omega)]
    simp only [Option.bind_some]
    have hp2 := puts_len t.f1.length (by have := hg.most; omega)
    have := enc_l1 l (l.length : Int) (i : Int) t.f1 (gchanges_all hg.all) (by have := hg.most; omega) (k + 10 + s) (by omega) t.f1.length 0 (acc ++ puts (t.f0 - N * 4294967296).toNat ++ puts t.f1.length) (by omega) (by
      simp only [List.length_append]
      have := hg.most
      omega)
    rw [← hK] at this
    rw [show ((0 : Nat) : Int) = 0 from rfl] at this
    rw [this, wrap_succ i (by omega)]
    have e : acc ++ puts (t.f0 - N * 4294967296).toNat ++ puts t.f1.length ++ eChanges (t.f1.drop 0) = acc ++ eTxn N t := by
      unfold eTxn
      simp only [List.drop_zero, List.append_assoc]
    rw [e, hs, List.append_assoc]
theorem encode_ok (N : Int) (l : List S47) (h : GEpoch N l) (hw : WEpoch N l) : ∃ K, ∀ k, K ≤ k → codec_Encode.f k N l = some (eEpoch N l, 0) := by
  have hm := h.most
  have hN := h.hi
  have hN0 := h.lo
  have h1 := puts_len N.toNat (by omega)
  have h2 := puts_len l.length (by omega)
  obtain ⟨s, hs⟩ := enc_l0 N ⟨by omega, hN⟩ l (gtxns_all h.all) hm l.length 0 (puts N.toNat ++ puts l.length) (by omega) (by rw [List.length_append]; omega)
  refine ⟨10 + s, fun k hk => ?_⟩
  unfold codec_Encode.f
  rw [right_f, (right_iff N l hw).2 h]
  simp only [if_true, Option.bind_some]
  have e0 : IntKind.u64.wrap N = ((N.toNat : Nat) : Int) := by rw [IntKind.wrap_u64]; omega
  rw [e0, put_k k (by omega) [] N.toNat (by omega) (by simp), List.nil_append]
  simp only [Option.bind_some]
  rw [wrapN l.length (by omega), put_k k (by omega) _ l.length (by omega) (by omega)]
  simp only [Option.bind_some]
  have := hs (k - 10 - s)
  rw [show k - 10 - s + 10 + s = k by omega, show ((0 : Nat) : Int) = 0 from rfl] at this
  rw [this]
  simp [eEpoch]
theorem encode_no (N : Int) (l : List S47) (h : ¬ GEpoch N l) (hw : WEpoch N l) (k : Nat) : codec_Encode.f k N l = some ([], 1) := by
  unfold codec_Encode.f
  have : rightB N l = false := by
    cases hr : rightB N l with
    | false => rfl
    | true => exact absurd ((right_iff N l hw).1 hr) h
  rw [right_f, this]
  rfl
theorem encr_l0 (l : List S57) (hl : ∀ t ∈ l, GRow t) (hlen : l.length ≤ 1000) (k : Nat) : ∀ (d i : Nat) (acc : List Int), i + d = l.length → acc.length + 341 * d ≤ 80000000 →
    codec_EncodeRows.l0 (k + 10 + d + 1) acc l (l.length : Int) (i : Int) = some (acc ++ eRowsL (l.drop i), 0) := by
  intro d
  induction d with
  | zero =>
    intro i acc hi _
    have : i = l.length := by omega
    subst this
    simp only [codec_EncodeRows.l0]
    rw [if_neg (by omega), List.drop_length]
    simp [eRowsL]
  | succ d ih =>
    intro i acc hi ha
    have hlt : i < l.length := by omega
    have hd := rd57_drop l i hlt
    have hg := hl (rd_T57 l (i : Int)) (by have : rd_T57 l (i : Int) ∈ l.drop i := by rw [hd]; exact List.mem_cons_self
                                           exact List.mem_of_mem_drop this)
    have htl := eRow_len _ hg
    obtain ⟨K, hK⟩ : ∃ K, K = k + 10 + d + 1 := ⟨_, rfl⟩
    rw [hd, show k + 10 + (d + 1) + 1 = K + 1 by omega]
    simp only [codec_EncodeRows.l0, eRowsL]
    rw [if_pos (show (i : Int) < (l.length : Int) by omega), if_pos (show (0 : Int) ≤ (i : Int) by omega), if_pos (show (i : Int) < (l.length : Int) by omega), if_pos (show acc.length < 140737488355328 by omega), wrap_succ i (by omega)]
    generalize rd_T57 l (i : Int) = r at hg htl ⊢
    have hkl := eKey_len r.f0 hg.key
    rw [text_k K (by omega) _ r.f0.f1 (by have := hg.key.most; omega) (by rw [List.length_append, List.length_singleton]; omega)]
    simp only [Option.bind_some]
    have e1 : acc ++ [r.f0.f0] ++ (puts r.f0.f1.size ++ bytesOf r.f0.f1) = acc ++ eKey r.f0 := by rw [List.append_assoc]; rfl
    rw [e1, text_k K (by omega) _ r.f1 (by have := hg.most; omega) (by rw [List.length_append]; omega)]
    simp only [Option.bind_some]
    have e2 : acc ++ eKey r.f0 ++ (puts r.f1.size ++ bytesOf r.f1) = acc ++ eRow r := by rw [List.append_assoc]; rfl
    have ih' := ih (i + 1) (acc ++ eRow r) (by omega) (by rw [List.length_append]; omega)
    rw [e2, hK, ih', List.append_assoc]
theorem rowsB_f (l : List S57) (hl : l.length < 9223372036854775807) : codec_RightRows.f l = some (if rowsB l then 0 else 1) := by unfold codec_RightRows.f; rw [if_pos hl]
theorem encodeR_ok (l : List S57) (h : GRowsL key0 l) (hw : WRows l) (hlen : l.length ≤ 1000) : ∃ K, ∀ k, K ≤ k → codec_EncodeRows.f k l = some (eRows l, 0) := by
  have h2 := puts_len l.length (by omega)
  refine ⟨10 + l.length + 1, fun k hk => ?_⟩
  unfold codec_EncodeRows.f
  rw [rowsB_f l (by omega), (rows_iff l hw).2 h]
  simp only [if_true, Option.bind_some]
  rw [wrapN l.length (by omega), put_k k (by omega) [] l.length (by omega) (by simp), List.nil_append]
  simp only [Option.bind_some]
  have := encr_l0 l (growsL_all h) hlen (k - 10 - l.length - 1) l.length 0 (puts l.length) (by omega) (by omega)
  rw [show k - 10 - l.length - 1 + 10 + l.length + 1 = k by omega, show ((0 : Nat) : Int) = 0 from rfl] at this
  rw [this]
  simp [eRows]
theorem encodeR_no (l : List S57) (h : ¬ GRowsL key0 l) (hw : WRows l) (hlen : l.length < 9223372036854775807) (k : Nat) : codec_EncodeRows.f k l = some ([], 1) := by
  unfold codec_EncodeRows.f
  have : rowsB l = false := by
    cases hr : rowsB l with
    | false => rfl
    | true => exact absurd ((rows_iff l hw).1 hr) h
  rw [rowsB_f l hlen, this]
  rfl
/-! ### Decode -/
theorem decode_t {l : List Int} (hB : Bytes l) (hL : l.length ≤ LIM) : codec_Decode.f l = some (epN (finish (tEpoch l)), epL (finish (tEpoch l)), epE (finish (tEpoch l))) := by
  unfold codec_Decode.f
  rw [takeEpoch_t hB hL]
  rfl
theorem decodeR_t {l : List Int} (hB : Bytes l) (hL : l.length ≤ LIM) : codec_DecodeRows.f l = some (rowsL (finish (tRows l)), epE (finish (tRows l))) := by
  unfold codec_DecodeRows.f
  rw [takeRows_t hB hL]
  rfl
theorem decode_back (N : Int) (l : List S47) (h : GEpoch N l) : codec_Decode.f (eEpoch N l) = some (N, l, 0) := by
  have hl := eEpoch_len N l h
  have := (reads_epoch N l h).ok []
  rw [List.append_nil] at this
  rw [decode_t (eEpoch_bytes N l h) (by unfold LIM; omega), this]
  rfl
theorem decode_more (N : Int) (l : List S47) (h : GEpoch N l) (rest : List Int) (hr : rest ≠ []) (hB : Bytes rest) (hL : rest.length ≤ 90000000) : codec_Decode.f (eEpoch N l ++ rest) = some (0, [], 3) := by
  have hl := eEpoch_len N l h
  have := (reads_epoch N l h).ok rest
  rw [decode_t ((eEpoch_bytes N l h).app hB) (by rw [List.length_append]; unfold LIM; omega), this]
  have e : rest.length ≠ 0 := fun e => hr (List.length_eq_zero_iff.1 e)
  simp only [finish, if_neg e]
  rfl
theorem decode_cut (N : Int) (l : List S47) (h : GEpoch N l) (c : Nat) (hc : c < (eEpoch N l).length) : codec_Decode.f ((eEpoch N l).take c) = some (0, [], 2) := by
  have hl := eEpoch_len N l h
  rw [decode_t ((eEpoch_bytes N l h).take c) (by rw [List.length_take]; unfold LIM; omega), (reads_epoch N l h).cut c hc]
  rfl
theorem eRows_len (l : List S57) (h : GRowsL key0 l) (hlen : l.length ≤ 1000) : (eRows l).length ≤ 400000 := by
  have h2 := puts_len l.length (by omega)
  have := eRowsL_len l (growsL_all h)
  unfold eRows
  rw [List.length_append]
  omega
theorem decodeR_back (l : List S57) (h : GRowsL key0 l) (hlen : l.length ≤ 1000) : codec_DecodeRows.f (eRows l) = some (l, 0) := by
  have hl := eRows_len l h hlen
  have := (reads_rows l h (by omega)).ok []
  rw [List.append_nil] at this
  rw [decodeR_t (eRows_bytes l h) (by unfold LIM; omega), this]
  rfl
theorem decodeR_more (l : List S57) (h : GRowsL key0 l) (hlen : l.length ≤ 1000) (rest : List Int) (hr : rest ≠ []) (hB : Bytes rest) (hL : rest.length ≤ 90000000) : codec_DecodeRows.f (eRows l ++ rest) = some ([], 3) := by
  have hl := eRows_len l h hlen
  have := (reads_rows l h (by omega)).ok rest
  rw [decodeR_t ((eRows_bytes l h).app hB) (by rw [List.length_append]; unfold LIM; omega), this]
  have e : rest.length ≠ 0 := fun e => hr (List.length_eq_zero_iff.1 e)
  simp only [finish, if_neg e]
  rfl
theorem decodeR_cut (l : List S57) (h : GRowsL key0 l) (hlen : l.length ≤ 1000) (c : Nat) (hc : c < (eRows l).length) : codec_DecodeRows.f ((eRows l).take c) = some ([], 2) := by
  have hl := eRows_len l h hlen
  rw [decodeR_t ((eRows_bytes l h).take c) (by rw [List.length_take]; unfold LIM; omega), (reads_rows l h (by omega)).cut c hc]
  rfl
theorem eEpoch_ne (N : Int) (l : List S47) : eEpoch N l ≠ [] := by
  unfold eEpoch
  intro h
  exact puts_ne _ (List.append_eq_nil_iff.1 h).1
theorem eRows_ne (l : List S57) : eRows l ≠ [] := by
  unfold eRows
  intro h
  exact puts_ne _ (List.append_eq_nil_iff.1 h).1
end Go.Proofs.Ytgmdoapedhppmaa.Code

/- What an argument's reading by its type says, kind by kind: whole numbers, bools, strings, structs of two and three, slices. -/
namespace Go.Proofs.Ytgmdoapedhppmaa.Op
set_option linter.unusedVariables false
set_option linter.unusedSimpArgs false
open Go.Proofs.YtgmdoapedhppmaaW.PrintWords
section
variable {H : Type} (enc : TypeId × Value → H) (P : Program) (W : World)
/-- Whatever reads by type t is of kind d, and F holds of it. -/
def Opens (t : TypeId) {α : Type} (d : Kd α) (F : α → Prop) : Prop :=
  ∀ (fuel : Nat) (cs : List Value) (x : DataW H × List MemPlace), DataW.trod enc P W 0 (fun _ => true) true fuel t cs = some x → (∀ n ∈ x.1.weights P t, n ≤ reachBytes) → ∃ v : α, d.K W v cs ∧ F v
variable {enc P W}
theorem opens_int {t : TypeId} {k : IntKind} (ht : P.underlying t = some (.int k)) : Opens enc P W t (Kd.int k) (fun n => (Lit.int k n).wf = true) := by
  intro fuel cs x h _
  obtain ⟨n, rfl, rfl, hn⟩ := DataW.trod_int ht h
  exact ⟨n, rfl, hn⟩
theorem opens_bool {t : TypeId} (ht : P.underlying t = some .bool) : Opens enc P W t Kd.bool (fun _ => True) := by
  intro fuel cs x h _
  obtain ⟨n, rfl, rfl⟩ := DataW.trod_bool ht h
  exact ⟨n, rfl, trivial⟩
theorem opens_string {t : TypeId} (ht : P.underlying t = some .string) : Opens enc P W t Kd.string (fun s => s.size ≤ 140737488351232) := by
  intro fuel cs x h hw
  obtain ⟨s, rfl, rfl, _⟩ := DataW.trod_string ht h
  refine ⟨s, rfl, ?_⟩
  have := hw s.data.toList.length (by simp [DataW.weights])
  simpa [reachBytes] using this
theorem opens_struct2 {t : TypeId} {f0 f1 : Field} {α0 α1 β : Type} {d0 : Kd α0} {d1 : Kd α1} {F0 : α0 → Prop} {F1 : α1 → Prop} (mk : α0 → α1 → β) (f : β → α0 × α1) (hf : ∀ a b, f (mk a b) = (a, b))
    (ht : P.underlying t = some (.struct #[f0, f1])) (o0 : f0.offset = 0) (o1 : f1.offset = d0.sz) (c0 : P.cellsOf f0.type = d0.sz) (c1 : P.cellsOf f1.type = d1.sz) (ct : P.cellsOf t = d0.sz + d1.sz)
    (h0 : Opens enc P W f0.type d0 F0) (h1 : Opens enc P W f1.type d1 F1) : Opens enc P W t (Kd.iso (Kd.pair d0 d1) f) (fun x => F0 (f x).1 ∧ F1 (f x).2) := by
  intro fuel cs x h hw
  obtain ⟨xs, n, _, rfl, hl, hlen, hg⟩ := DataW.trod_struct ht h
  match xs, hlen with
  | [y0, y1], _ =>
    have g0 := hg 0 f0 rfl
    have g1 := hg 1 f1 rfl
    simp only [o0, o1, c0, c1, List.drop_zero] at g0 g1
    have hws : ∀ n, (n ∈ y0.1.weights P f0.type ∨ n ∈ y1.1.weights P f1.type) → n ≤ reachBytes := fun n hn => hw n (by
      simp only [DataW.weights, ht, List.map_cons, List.map_nil, DataW.weightsEach, List.mem_append]
      rcases hn with hn | hn
      · exact .inl hn
      · exact .inr (.inl hn))
    obtain ⟨v0, k0, p0⟩ := h0 n _ y0 g0 (fun n hn => hws n (.inl hn))
    obtain ⟨v1, k1, p1⟩ := h1 n _ y1 g1 (fun n hn => hws n (.inr hn))
    refine ⟨mk v0 v1, ?_, by show F0 (f (mk v0 v1)).1 ∧ F1 (f (mk v0 v1)).2; rw [hf]; exact ⟨p0, p1⟩⟩
    show (Kd.pair d0 d1).K W (f (mk v0 v1)) cs
    rw [hf]
    refine ⟨_, _, ?_, k0, k1⟩
    have e1 : (cs.drop d0.sz).take d1.sz = cs.drop d0.sz := List.take_of_length_le (by rw [List.length_drop]; omega)
    rw [e1, List.take_append_drop]
theorem opens_struct3 {t : TypeId} {f0 f1 f2 : Field} {α0 α1 α2 β : Type} {d0 : Kd α0} {d1 : Kd α1} {d2 : Kd α2} {F0 : α0 → Prop} {F1 : α1 → Prop} {F2 : α2 → Prop} (mk : α0 → α1 → α2 → β) (f : β → α0 × α1 × α2) (hf : ∀ a b c, f (mk a b c) = (a, b, c))
    (ht : P.underlying t = some (.struct #[f0, f1, f2])) (o0 : f0.offset = 0) (o1 : f1.offset = d0.sz) (o2 : f2.offset = d0.sz + d1.sz) (c0 : P.cellsOf f0.type = d0.sz) (c1 : P.cellsOf f1.type = d1.sz) (c2 : P.cellsOf f2.type = d2.sz) (ct : P.cellsOf t = d0.sz + d1.sz + d2.sz)
    (h0 : Opens enc P W f0.type d0 F0) (h1 : Opens enc P W f1.type d1 F1) (h2 : Opens enc P W f2.type d2 F2) : Opens enc P W t (Kd.iso (Kd.pair d0 (Kd.pair d1 d2)) f) (fun x => F0 (f x).1 ∧ F1 (f x).2.1 ∧ F2 (f x).2.2) := by
  intro fuel cs x h hw
  obtain ⟨xs, n, _, rfl, hl, hlen, hg⟩ := DataW.trod_struct ht h
  match xs, hlen with
  | [y0, y1, y2], _ =>
    have g0 := hg 0 f0 rfl
    have g1 := hg 1 f1 rfl
    have g2 := hg 2 f2 rfl
    simp only [o0, o1, o2, c0, c1, c2, List.drop_zero] at g0 g1 g2
    have hws : ∀ n, (n ∈ y0.1.weights P f0.type ∨ n ∈ y1.1.weights P f1.type ∨ n ∈ y2.1.weights P f2.type) → n ≤ reachBytes := fun n hn => hw n (by
      simp only [DataW.weights, ht, List.map_cons, List.map_nil, DataW.weightsEach, List.mem_append]
      rcases hn with hn | hn | hn
      · exact .inl hn
      · exact .inr (.inl hn)
      · exact .inr (.inr (.inl hn)))
    obtain ⟨v0, k0, p0⟩ := h0 n _ y0 g0 (fun n hn => hws n (.inl hn))
    obtain ⟨v1, k1, p1⟩ := h1 n _ y1 g1 (fun n hn => hws n (.inr (.inl hn)))
    obtain ⟨v2, k2, p2⟩ := h2 n _ y2 g2 (fun n hn => hws n (.inr (.inr hn)))
    refine ⟨mk v0 v1 v2, ?_, by show F0 (f (mk v0 v1 v2)).1 ∧ F1 (f (mk v0 v1 v2)).2.1 ∧ F2 (f (mk v0 v1 v2)).2.2; rw [hf]; exact ⟨p0, p1, p2⟩⟩
    show (Kd.pair d0 (Kd.pair d1 d2)).K W (f (mk v0 v1 v2)) cs
    rw [hf]
    refine ⟨_, _, ?_, k0, _, _, rfl, k1, k2⟩
    have e1 : ((cs.drop (d0.sz + d1.sz)).take d2.sz) = cs.drop (d0.sz + d1.sz) := List.take_of_length_le (by rw [List.length_drop]; omega)
    have e2 : (cs.drop d0.sz).take d1.sz ++ cs.drop (d0.sz + d1.sz) = cs.drop d0.sz := by
      rw [← List.drop_drop, List.take_append_drop]
    rw [e1, e2, List.take_append_drop]
theorem opens_slice {t e : TypeId} {α : Type} [Inhabited α] {d : Kd α} {F : α → Prop} (ht : P.underlying t = some (.slice e)) (ce : P.cellsOf e = d.sz) (he : Opens enc P W e d F) :
    Opens enc P W t (Kd.slice e d) (fun xs => (∀ x ∈ xs, F x) ∧ xs.length * P.bytesOf e ≤ 140737488351232) := by
  intro fuel cs x h hw
  rcases Deep.open_slice ht h with ⟨rfl, rfl⟩ | ⟨a, len, cap, m, n, D, Pl, rfl, _, hlc, hcm, hm, rfl, hel⟩
  · exact ⟨[], ⟨none, 0, rfl, Nat.le_refl _, rfl, by simp, fun h => absurd h (Nat.lt_irrefl 0)⟩, fun x hx => (List.not_mem_nil hx).elim, by simp⟩
  · have hmc : m = cap := by simpa using hm
    subst hmc
    have hwe : ∀ i, i < len → ∀ n ∈ (D i).weights P e, n ≤ reachBytes := fun i hi n hn => hw n (by
      simp only [DataW.weights, ht, List.mem_cons, List.mem_append]
      refine .inr (.inl ?_)
      have : ∀ (l : List Nat), i ∈ l → n ∈ DataW.weightsAll P e (l.map D) := by
        intro l
        induction l with
        | nil => intro h; cases h
        | cons y l ih =>
          intro h
          simp only [List.map_cons, DataW.weightsAll, List.mem_append]
          rcases List.mem_cons.1 h with rfl | h
          · exact .inl hn
          · exact .inr (ih h)
      exact this _ (List.mem_range.2 hi))
    have hws : (len + (m - len)) * P.bytesOf e ≤ reachBytes := hw _ (by
      simp only [DataW.weights, ht, List.length_map, List.length_range]
      exact List.mem_cons_self)
    have hex : ∀ i, i < len → ∃ v : α, (∃ cs', W.cells? 0 (a.add (i * P.cellsOf e)) (P.cellsOf e) = some cs' ∧ d.K W v cs') ∧ F v := by
      intro i hi
      obtain ⟨cs', h1, h2⟩ := hel i (by omega)
      obtain ⟨v, h3, h4⟩ := he n cs' _ h2 (hwe i hi)
      exact ⟨v, ⟨cs', h1, h3⟩, h4⟩
    obtain ⟨f, hf⟩ := Deep.choose_lt hex
    refine ⟨(List.range len).map f, ⟨some a, m, by simp, by simp; omega, by simp, ?_, fun _ => ⟨a, rfl, ?_⟩⟩, ?_, ?_⟩
    · simp only [List.length_map, List.length_range]
      unfold maxLen at hcm
      omega
    · intro j p hj
      have hjl : j < len := by
        have := (List.getElem?_eq_some_iff.1 hj).1
        simpa using this
      have hp : p = f j := by
        rw [List.getElem?_map, List.getElem?_range hjl] at hj
        simpa using hj.symm
      subst hp
      obtain ⟨⟨cs', h1, h2⟩, _⟩ := hf j hjl
      obtain ⟨_, hlen, hcell⟩ := World.cells?_some h1
      refine ⟨cs', by rw [hlen, ce], h2, fun i u hu => ?_⟩
      have hi : i < P.cellsOf e := by
        have := (List.getElem?_eq_some_iff.1 hu).1
        omega
      have := hcell i hi
      rw [Deep.add_add] at this
      rw [← ce, this, hu]
    · intro x hx
      obtain ⟨i, hi, rfl⟩ := List.mem_map.1 hx
      exact (hf i (List.mem_range.1 hi)).2
    · simp only [List.length_map, List.length_range]
      have : len * P.bytesOf e ≤ (len + (m - len)) * P.bytesOf e := Nat.mul_le_mul_right _ (by omega)
      unfold reachBytes at hws
      omega
/-- An argument: its weights are among all. -/
theorem opened {t : TypeId} {α : Type} {d : Kd α} {F : α → Prop} (h : Opens enc P W t d F) {v : Value} {x : DataW H} {ps : List MemPlace} (ht : DataW.Trod enc P W 0 (fun _ => true) true t v x ps) {ts : List TypeId} {ds : List (DataW H)} {j : Nat}
    (hsz : (DataW.weightsEach P ts ds).all (· ≤ reachBytes) = true) (hj : ts[j]? = some t) (hd : ds[j]? = some x) : ∃ y : α, d.K W y v.cells.toList ∧ F y := by
  obtain ⟨fuel, hf⟩ := ht
  exact h fuel _ (x, ps) hf (fun n hn => of_decide_eq_true (List.all_eq_true.1 hsz n (DataW.weights_mem_each hj hd n hn)))
end
end Go.Proofs.Ytgmdoapedhppmaa.Op

/- The arguments' kinds of this seat's laws: keys, rows, epochs, bytes. -/
namespace Go.Proofs.Ytgmdoapedhppmaa.PC
set_option linter.unusedVariables false
set_option linter.unusedSimpArgs false
open Go.RowKit Go.WideShapes Go.Proofs.YtgmdoapedhppmaaW.PrintWords Go.Proofs.YtgmdoapedhppmaaW.PrintLast Go.Proofs.YtgmdoapedhppmaaW.PrintMore
instance : Inhabited S28 := ⟨z28⟩
instance : Inhabited S50 := ⟨z50⟩
instance : Inhabited S47 := ⟨z47⟩
instance : Inhabited S57 := ⟨z57⟩
def okStr (s : ByteArray) : Prop := s.size ≤ 140737488351232
def okKey (x : S28) : Prop := (Lit.int .u8 x.f0).wf = true ∧ okStr x.f1
def okChange (x : S50) : Prop := okKey x.f0 ∧ True ∧ okStr x.f2
def okTxn (x : S47) : Prop := (Lit.int .u64 x.f0).wf = true ∧ (∀ y ∈ x.f1, okChange y) ∧ x.f1.length * 48 ≤ 140737488351232
def okRow (x : S57) : Prop := okKey x.f0 ∧ okStr x.f1
def okEpoch (x : Int × List S47) : Prop := (Lit.int .u32 x.1).wf = true ∧ (∀ y ∈ x.2, okTxn y) ∧ x.2.length * 32 ≤ 140737488351232
def okRows (x : List S57) : Prop := (∀ y ∈ x, okRow y) ∧ x.length * 40 ≤ 140737488351232
def okBytes (x : List Int) : Prop := (∀ y ∈ x, (Lit.int .u8 y).wf = true) ∧ x.length * 1 ≤ 140737488351232
section
variable {H : Type} {enc : TypeId × Value → H} {W : World}
theorem opens28 : Op.Opens enc Try.prog W 28 k28 okKey :=
  Op.opens_struct2 (F0 := fun n => (Lit.int .u8 n).wf = true) (F1 := okStr) S28.mk _ (fun _ _ => rfl) Try.underlying28 rfl rfl (by kernel_rfl) (by kernel_rfl) (by kernel_rfl) (Op.opens_int Try.underlying5) (Op.opens_string Try.underlying9)
theorem opens50 : Op.Opens enc Try.prog W 50 k50 okChange :=
  Op.opens_struct3 (F0 := okKey) (F1 := fun _ => True) (F2 := okStr) S50.mk _ (fun _ _ _ => rfl) Try.underlying50 rfl rfl rfl (by kernel_rfl) (by kernel_rfl) (by kernel_rfl) (by kernel_rfl) opens28 (Op.opens_bool Try.underlying4) (Op.opens_string Try.underlying9)
theorem bytes50 : Try.prog.bytesOf 50 = 48 := by kernel_rfl
theorem bytes47 : Try.prog.bytesOf 47 = 32 := by kernel_rfl
theorem bytes57 : Try.prog.bytesOf 57 = 40 := by kernel_rfl
theorem bytes5 : Try.prog.bytesOf 5 = 1 := by kernel_rfl
theorem opens45 : Op.Opens enc Try.prog W 45 (Kd.slice 50 k50) (fun xs => (∀ y ∈ xs, okChange y) ∧ xs.length * 48 ≤ 140737488351232) := by
  have := Op.opens_slice (enc := enc) (W := W) Try.underlying45 (d := k50) (by kernel_rfl) opens50
  rwa [bytes50] at this
theorem opens47 : Op.Opens enc Try.prog W 47 k47 okTxn :=
  Op.opens_struct2 (F0 := fun n => (Lit.int .u64 n).wf = true) (F1 := fun xs => (∀ y ∈ xs, okChange y) ∧ xs.length * 48 ≤ 140737488351232) S47.mk _ (fun _ _ => rfl) Try.underlying47 rfl rfl (by kernel_rfl) (by kernel_rfl) (by kernel_rfl) (Op.opens_int Try.underlying44) opens45
theorem opens23 : Op.Opens enc Try.prog W 23 (Kd.slice 47 k47) (fun xs => (∀ y ∈ xs, okTxn y) ∧ xs.length * 32 ≤ 140737488351232) := by
  have := Op.opens_slice (enc := enc) (W := W) Try.underlying23 (d := k47) (by kernel_rfl) opens47
  rwa [bytes47] at this
def k25 : Kd (Int × List S47) := Kd.iso (Kd.pair (Kd.int .u32) (Kd.slice 47 k47)) (fun x => x)
theorem cells25 : Try.prog.cellsOf 25 = 2 := by kernel_rfl
theorem cells22 : Try.prog.cellsOf 22 = 1 := by kernel_rfl
theorem cells23 : Try.prog.cellsOf 23 = 1 := by kernel_rfl
theorem opens25 : Op.Opens enc Try.prog W 25 k25 okEpoch := by
  have h := Op.opens_struct2 (enc := enc) (W := W) (d0 := Kd.int .u32) (d1 := Kd.slice 47 k47) (F0 := fun n => (Lit.int .u32 n).wf = true) (F1 := fun xs => (∀ y ∈ xs, okTxn y) ∧ xs.length * 32 ≤ 140737488351232) Prod.mk (fun x => x) (fun _ _ => rfl) Try.underlying25 rfl rfl cells22 cells23 cells25 (Op.opens_int Try.underlying22) opens23
  exact h
theorem opens57 : Op.Opens enc Try.prog W 57 k57 okRow :=
  Op.opens_struct2 (F0 := okKey) (F1 := okStr) S57.mk _ (fun _ _ => rfl) Try.underlying57 rfl rfl (by kernel_rfl) (by kernel_rfl) (by kernel_rfl) opens28 (Op.opens_string Try.underlying9)
theorem opens26 : Op.Opens enc Try.prog W 26 (Kd.slice 57 k57) okRows := by
  have := Op.opens_slice (enc := enc) (W := W) Try.underlying26 (d := k57) (by kernel_rfl) opens57
  rwa [bytes57] at this
theorem opens32 : Op.Opens enc Try.prog W 32 (Kd.slice 5 (Kd.int .u8)) okBytes := by
  have := Op.opens_slice (enc := enc) (W := W) Try.underlying32 (d := Kd.int .u8) (by kernel_rfl) (Op.opens_int Try.underlying5)
  rwa [bytes5] at this
variable {v : Value} {x : DataW H} {ps : List MemPlace} {ts : List TypeId} {ds : List (DataW H)} {j base : Nat} {r : Reach}
set_option maxRecDepth 100000 in
/-- A key that comes in. -/
theorem arg28 (hv : Value.okWide Try.prog W r base 28 v) (h : DataW.Trod enc Try.prog W 0 (fun _ => true) true 28 v x ps) (hsz : (DataW.weightsEach Try.prog ts ds).all (· ≤ reachBytes) = true) (hj : ts[j]? = some 28) (hd : ds[j]? = some x) :
    ∃ y : S28, v = .agg #[.int .u8 y.f0, .string y.f1] ∧ okKey y := by
  obtain ⟨cs, rfl, _⟩ := okWide_struct Try.underlying28 hv
  obtain ⟨y, hk, hF⟩ := Op.opened opens28 h hsz hj hd
  have hc : cs.toList = _ := k28_open hk
  exact ⟨y, by rw [← Array.toArray_toList (xs := cs), hc], hF⟩
set_option maxRecDepth 100000 in
theorem arg25 (hv : Value.okWide Try.prog W r base 25 v) (h : DataW.Trod enc Try.prog W 0 (fun _ => true) true 25 v x ps) (hsz : (DataW.weightsEach Try.prog ts ds).all (· ≤ reachBytes) = true) (hj : ts[j]? = some 25) (hd : ds[j]? = some x) :
    ∃ (n : Int) (l : List S47) (A : Option Addr) (c : Nat), v = .agg #[.int .u32 n, .slice A l.length c] ∧ l.length ≤ c ∧ Kd.C k47 W A l.length l ∧ okEpoch (n, l) := by
  obtain ⟨cs, rfl, _⟩ := okWide_struct Try.underlying25 hv
  obtain ⟨⟨n, l⟩, ⟨c0, c1, hc, h0, A, c, rfl, hl, hC⟩, hF⟩ := Op.opened opens25 h hsz hj hd
  have h0 : c0 = [.int .u32 n] := h0
  subst h0
  have hc : cs.toList = _ := hc
  exact ⟨n, l, A, c, by rw [← Array.toArray_toList (xs := cs), hc]; rfl, hl, hC, hF⟩
set_option maxRecDepth 100000 in
theorem arg26 (hv : Value.okWide Try.prog W r base 26 v) (h : DataW.Trod enc Try.prog W 0 (fun _ => true) true 26 v x ps) (hsz : (DataW.weightsEach Try.prog ts ds).all (· ≤ reachBytes) = true) (hj : ts[j]? = some 26) (hd : ds[j]? = some x) :
    ∃ (l : List S57) (A : Option Addr) (c : Nat), v = .slice A l.length c ∧ l.length ≤ c ∧ Kd.C k57 W A l.length l ∧ okRows l := by
  obtain ⟨a, len, cap, rfl⟩ := okWide_slice Try.underlying26 hv
  obtain ⟨l, ⟨A, c, hc, hl, hC⟩, hF⟩ := Op.opened opens26 h hsz hj hd
  simp only [Value.cells, List.cons.injEq, and_true] at hc
  exact ⟨l, A, c, hc, hl, hC, hF⟩
set_option maxRecDepth 100000 in
theorem arg32 (hv : Value.okWide Try.prog W r base 32 v) (h : DataW.Trod enc Try.prog W 0 (fun _ => true) true 32 v x ps) (hsz : (DataW.weightsEach Try.prog ts ds).all (· ≤ reachBytes) = true) (hj : ts[j]? = some 32) (hd : ds[j]? = some x) :
    ∃ (l : List Int) (A : Option Addr) (c : Nat), v = .slice A l.length c ∧ l.length ≤ c ∧ Kd.C (Kd.int .u8) W A l.length l ∧ okBytes l := by
  obtain ⟨a, len, cap, rfl⟩ := okWide_slice Try.underlying32 hv
  obtain ⟨l, ⟨A, c, hc, hl, hC⟩, hF⟩ := Op.opened opens32 h hsz hj hd
  simp only [Value.cells, List.cons.injEq, and_true] at hc
  exact ⟨l, A, c, hc, hl, hC, hF⟩
end
end Go.Proofs.Ytgmdoapedhppmaa.PC

/- The codec, plain: the few that are looked at; what Encode answers. -/
namespace Go.Proofs.Ytgmdoapedhppmaa.Code
set_option linter.unusedVariables false
set_option linter.unusedSimpArgs false
open Go.RowKit Go.Proofs.Ytgmdoapedhppmaa.PC Go.Proofs.Ytgmdoapedhppmaa.B Go.Proofs.Ytgmdoapedhppmaa.Pure Go.Proofs.YtgmdoapedhppmaaW.PrintWords Go.Proofs.YtgmdoapedhppmaaW.PrintLast Go.Proofs.YtgmdoapedhppmaaW.PrintMore
theorem u8_lo {x : Int} (h : (Lit.int .u8 x).wf = true) : 0 ≤ x := (u8_at x h).1
theorem few_w {n : Int} {l : List S47} (h : okEpoch (n, l)) : WEpoch n ((l.take 70).map cutTxn) := by
  obtain ⟨h1, h2, _⟩ := h
  have hn := u32_at n h1
  refine ⟨hn.1, by omega, fun t ht => ?_⟩
  obtain ⟨u, hu, rfl⟩ := List.mem_map.1 ht
  obtain ⟨g1, g2, _⟩ := h2 u (List.mem_of_mem_take hu)
  have hg := u64_at u.f0 g1
  refine ⟨hg.1, hg.2, fun c hc => ?_⟩
  obtain ⟨d, hd, rfl⟩ := List.mem_map.1 hc
  exact u8_lo (g2 d (List.mem_of_mem_take hd)).1.1
theorem few_len (l : List S47) : ((l.take 70).map cutTxn).length ≤ 70 := by rw [List.length_map, List.length_take]; omega
theorem fewRows_w {l : List S57} (h : okRows l) : WRows ((l.take 60).map cutRow) := by
  intro r hr
  obtain ⟨u, hu, rfl⟩ := List.mem_map.1 hr
  exact u8_lo (h.1 u (List.mem_of_mem_take hu)).1.1
theorem fewRows_len (l : List S57) : ((l.take 60).map cutRow).length ≤ 60 := by rw [List.length_map, List.length_take]; omega
theorem enc_two (n : Int) (l : List S47) (hw : WEpoch n l) : ∃ (a : List Int) (f : Int) (K : Nat), (∀ k, K ≤ k → codec_Encode.f k n l = some (a, f)) ∧ ((f = 0 ∧ GEpoch n l ∧ a = eEpoch n l) ∨ (f = 1 ∧ ¬ GEpoch n l ∧ a = [])) := by
  by_cases h : GEpoch n l
  · obtain ⟨K, hK⟩ := encode_ok n l h hw
    exact ⟨_, _, K, hK, .inl ⟨rfl, h, rfl⟩⟩
  · exact ⟨_, _, 0, fun k _ => encode_no n l h hw k, .inr ⟨rfl, h, rfl⟩⟩
theorem encR_two (l : List S57) (hw : WRows l) (hlen : l.length ≤ 1000) : ∃ (a : List Int) (f : Int) (K : Nat), (∀ k, K ≤ k → codec_EncodeRows.f k l = some (a, f)) ∧ ((f = 0 ∧ GRowsL key0 l ∧ a = eRows l) ∨ (f = 1 ∧ ¬ GRowsL key0 l ∧ a = [])) := by
  by_cases h : GRowsL key0 l
  · obtain ⟨K, hK⟩ := encodeR_ok l h hw hlen
    exact ⟨_, _, K, hK, .inl ⟨rfl, h, rfl⟩⟩
  · exact ⟨_, _, 0, fun k _ => encodeR_no l h hw (by omega) k, .inr ⟨rfl, h, rfl⟩⟩
theorem shown_f : tidemarklaw04_shown.f = some true := rfl
end Go.Proofs.Ytgmdoapedhppmaa.Code

/- CodecTwo, plain: epochs one behind the other are no epoch, nor are rows rows; of any two epochs and rows. -/
namespace Go.Proofs.Ytgmdoapedhppmaa.PC
set_option linter.unusedVariables false
set_option linter.unusedSimpArgs false
open Go.RowKit Go.Proofs.Ytgmdoapedhppmaa.Code Go.Proofs.YtgmdoapedhppmaaW.PrintWords Go.Proofs.YtgmdoapedhppmaaW.PrintLast Go.Proofs.YtgmdoapedhppmaaW.PrintMore
theorem two_j2 (k : Nat) (c d : List Int) (f : Bool) (l m : List S57) (hl : f = true → GRowsL key0 l ∧ c = eRows l ∧ GRowsL key0 m ∧ d = eRows m) (h1 : l.length ≤ 60) (h2 : m.length ≤ 60) : tidemarklaw04_CodecTwo.j2 (k + 1) true c d f = some true := by
  simp only [tidemarklaw04_CodecTwo.j2, Option.bind_some, List.nil_append]
  cases f with
  | false => rfl
  | true =>
    obtain ⟨g1, rfl, g2, rfl⟩ := hl rfl
    have e1 := eRows_len l g1 (by omega)
    have e2 := eRows_len m g2 (by omega)
    rw [if_pos rfl, if_pos (by simp only [List.length_nil]; omega), if_pos (by omega), decodeR_more l g1 (by omega) (eRows m) (eRows_ne m) (eRows_bytes m g2) (by omega)]
    rfl
theorem two_j1 (k : Nat) (c d : List Int) (f g : Int) (l m : List S57) (hf : (f = 0 ∧ GRowsL key0 l ∧ c = eRows l) ∨ (f = 1 ∧ ¬ GRowsL key0 l ∧ c = [])) (hg : (g = 0 ∧ GRowsL key0 m ∧ d = eRows m) ∨ (g = 1 ∧ ¬ GRowsL key0 m ∧ d = [])) (h1 : l.length ≤ 60) (h2 : m.length ≤ 60) :
    tidemarklaw04_CodecTwo.j1 (k + 2) true c f d g = some true := by
  simp only [tidemarklaw04_CodecTwo.j1]
  rcases hf with ⟨rfl, hf⟩ | ⟨rfl, hf⟩
  · rw [if_pos rfl]
    refine two_j2 k c d _ l m (fun h => ?_) h1 h2
    rcases hg with ⟨rfl, hg⟩ | ⟨rfl, hg⟩
    · exact ⟨hf.1, hf.2, hg.1, hg.2⟩
    · cases h
  · rw [if_neg (by decide)]
    exact two_j2 k c d _ l m (fun h => by cases h) h1 h2
theorem two_row (n1 : Int) (l1 : List S47) (A1 : Option Addr) (c1 : Nat) (n2 : Int) (l2 : List S47) (A2 : Option Addr) (c2 : Nat) (l3 : List S57) (A3 : Option Addr) (c3 : Nat) (l4 : List S57) (A4 : Option Addr) (c4 : Nat) (W : World)
    (hl1 : l1.length ≤ c1) (hC1 : Kd.C k47 W A1 l1.length l1) (F1 : okEpoch (n1, l1)) (hl2 : l2.length ≤ c2) (hC2 : Kd.C k47 W A2 l2.length l2) (F2 : okEpoch (n2, l2)) (hl3 : l3.length ≤ c3) (hC3 : Kd.C k57 W A3 l3.length l3) (F3 : okRows l3) (hl4 : l4.length ≤ c4) (hC4 : Kd.C k57 W A4 l4.length l4) (F4 : okRows l4) :
    Calls Try.prog 12 #[.agg #[.int .u32 n1, .slice A1 l1.length c1], .agg #[.int .u32 n2, .slice A2 l2.length c2], .slice A3 l3.length c3, .slice A4 l4.length c4] W fun e W' => e = .returned (.bool true) ∧ Below W.heap.size W W' := by
  obtain ⟨a, f, K1, E1, D1⟩ := enc_two n1 _ (few_w F1)
  obtain ⟨b, g, K2, E2, D2⟩ := enc_two n2 _ (few_w F2)
  obtain ⟨c, p, K3, E3, D3⟩ := encR_two _ (fewRows_w F3) (by have := fewRows_len l3; omega)
  obtain ⟨d, q, K4, E4, D4⟩ := encR_two _ (fewRows_w F4) (by have := fewRows_len l4; omega)
  refine tidemarklaw04_CodecTwo.calls (K1 + K2 + K3 + K4 + 3) n1 A1 c1 l1 n2 A2 c2 l2 A3 c3 l3 A4 c4 l4 true W hC1 hl1 hC2 hl2 hC3 hl3 hC4 hl4 rfl ?_
  unfold tidemarklaw04_CodecTwo.f
  rw [shown_f]
  simp only [Option.bind_some, tidemarklaw04_few.f, tidemarklaw04_fewRows.f]
  rw [E1 _ (by omega), E2 _ (by omega), E3 _ (by omega), E4 _ (by omega)]
  simp only [Option.bind_some]
  have J1 := fun k => two_j1 k c d p q _ _ D3 D4 (fewRows_len l3) (fewRows_len l4)
  have J0 : ∀ k x, (x = true → f = 0 ∧ g = 0) → tidemarklaw04_CodecTwo.j0 (k + 3) true a b c p d q x = some true := by
    intro k x hx
    simp only [tidemarklaw04_CodecTwo.j0, Option.bind_some, List.nil_append]
    cases x with
    | false => exact J1 k
    | true =>
      obtain ⟨hf, hg⟩ := hx rfl
      obtain ⟨g1, rfl⟩ : GEpoch n1 _ ∧ a = _ := by rcases D1 with ⟨_, h⟩ | ⟨h, _⟩; exact h; omega
      obtain ⟨g2, rfl⟩ : GEpoch n2 _ ∧ b = _ := by rcases D2 with ⟨_, h⟩ | ⟨h, _⟩; exact h; omega
      have e1 := eEpoch_len _ _ g1
      have e2 := eEpoch_len _ _ g2
      rw [if_pos rfl, if_pos (by simp only [List.length_nil]; omega), if_pos (by omega), decode_more _ _ g1 _ (eEpoch_ne _ _) (eEpoch_bytes _ _ g2) (by omega)]
      exact J1 k
  by_cases hf : f = 0
  · rw [if_pos hf]
    exact J0 (K1 + K2 + K3 + K4) _ (fun h => ⟨hf, by simpa using h⟩)
  · rw [if_neg hf]
    exact J0 (K1 + K2 + K3 + K4) _ (fun h => by cases h)
end Go.Proofs.Ytgmdoapedhppmaa.PC
