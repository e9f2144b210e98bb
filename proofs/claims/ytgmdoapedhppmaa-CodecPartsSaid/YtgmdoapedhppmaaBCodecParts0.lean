/- Texts of this session in one: PCx0, PCx8, HStr, PCx9, PCx71, PCx68, PCx69, PCx70, PCx16, PCx17, PCx18, PCx19, PCx20, HLess, HCmp, PCx21, PCx67, PCx65, PCx61, PCx62, PCx63, PCx64, PCx66, PCx22, HOrd, HVal, HIdx, HRise, HRight, HTxn. Plain functions, and that the program's come to them. -/
import Derived.Test.YtgmdoapedhppmaaProg
import Derived.Below
import Derived.Deep.Draws
import Derived.Deep.AppendLies
import Derived.Maps.AppendAt
import Derived.OwnWalk
import Derived.Laws.BytesArg
import Derived.Laws.MakeOwn
import Derived.Laws.OwnMore
import Derived.Deep.OwnRows
import Derived.Tactics
import Derived.Lib.ConvBytes
import Derived.Laws.Slices
import Derived.WalkKit
import Derived.KernelRfl
import Derived.RowKit3
import Derived.Deep.LoopGhost
import Derived.Deep.QuietTactic
import Derived.BigQuiet
import Derived.WideLaws
import Derived.Deep.DeepCutAuto
import Derived.Deep.CutBlock
import Derived.Deep.RegionHeld3
import Derived.Laws.Rows
import Derived.Lib.AppendStr
import Derived.ArgAppend
import Derived.Laws.IdiomCopy
import Derived.OrdersHeld
import Derived.Laws.BitsLemmas
import Derived.RowKit
import Derived.Test.YtgmdoapedhppmaaWWords
import Derived.Test.YtgmdoapedhppmaaWLast
import Derived.Test.YtgmdoapedhppmaaWTab
import Derived.Test.YtgmdoapedhppmaaWQPut
import Derived.Test.YtgmdoapedhppmaaWApart
import Derived.Test.YtgmdoapedhppmaaWArr
import Derived.Test.YtgmdoapedhppmaaWZeros
import Derived.Test.YtgmdoapedhppmaaWFoot
import Derived.Test.YtgmdoapedhppmaaWKept
import Derived.Test.YtgmdoapedhppmaaWShare
import Derived.Test.YtgmdoapedhppmaaWN
import Derived.Test.YtgmdoapedhppmaaWEqStruct
import Derived.Test.YtgmdoapedhppmaaWRepsOne
import Derived.Test.YtgmdoapedhppmaaWGuard
import Derived.Test.YtgmdoapedhppmaaWNEv
import Derived.Test.YtgmdoapedhppmaaWMore
import Derived.WalkLawsBesides

/- Proofs that functions of the program come to what plain Lean functions say; made by wip/drive.py. -/
namespace Go.Proofs.Ytgmdoapedhppmaa.PC
set_option linter.unusedVariables false
set_option linter.unusedSimpArgs false
open Go.RowKit Go.Proofs.YtgmdoapedhppmaaW.PrintWords Go.Proofs.YtgmdoapedhppmaaW.PrintLast Go.Proofs.YtgmdoapedhppmaaW.PrintMore
attribute [local go_sem] max2_int min2_int max_two min_two max_three min_three max_four min_four   -- for this text's walks alone
set_option linter.unusedVariables false
set_option linter.unusedSimpArgs false



def errW : Option Int → Value
  | none => .nilIface
  | some c => .iface 0 (.int .i64 c)
theorem errW_none : errW none = .nilIface := rfl
theorem errW_some (c : Int) : errW (some c) = .iface 0 (.int .i64 c) := rfl

theorem len_to {α : Type} {R : α → List Value → Prop} {size : Nat} {w : World} {A : Option Addr} {n n' : Nat} {ps : List α} (h : n' = n) (hc : ReadsRow R size w A n' ps) : ReadsRow R size w A n ps := h ▸ hc
theorem info3 : (Try.prog.info? 3).map (fun i => (i.zero, i.size, i.bytes)) = some (some (.int .i64 0), 1, 8) := by kernel_rfl
theorem info5 : (Try.prog.info? 5).map (fun i => (i.zero, i.size, i.bytes)) = some (some (.int .u8 0), 1, 1) := by kernel_rfl
theorem info47 : (Try.prog.info? 47).map (fun i => (i.zero, i.size, i.bytes)) = some (some (.agg #[(.int .u64 0), (.slice none 0 0)]), 2, 32) := by kernel_rfl
theorem info50 : (Try.prog.info? 50).map (fun i => (i.zero, i.size, i.bytes)) = some (some (.agg #[(.int .u8 0), (.string ⟨#[]⟩), (.bool false), (.string ⟨#[]⟩)]), 4, 48) := by kernel_rfl
theorem info57 : (Try.prog.info? 57).map (fun i => (i.zero, i.size, i.bytes)) = some (some (.agg #[(.int .u8 0), (.string ⟨#[]⟩), (.string ⟨#[]⟩)]), 3, 40) := by kernel_rfl
-- the values' own types
/-! #### struct type 28 -/
structure S28 where
  f0 : Int
  f1 : ByteArray
def z28 : S28 := ⟨(0 : Int), (⟨#[]⟩ : ByteArray)⟩
def k28 : Kd S28 := Kd.iso (Kd.pair (Kd.int .u8) Kd.string) (fun x : S28 => (x.f0, x.f1))
theorem k28_open {w : World} {x : S28} {cs : List Value} (h : k28.K w x cs) : cs = [.int .u8 x.f0, .string x.f1] := by
  obtain ⟨_, _, rfl, rfl, rfl⟩ := h
  exact rfl
theorem k28_openM {w : World} {base : Nat} {ok : Nat → Prop} {x : S28} {cs : List Value} (h : k28.M w base ok x cs) : cs = [.int .u8 x.f0, .string x.f1] := by
  obtain ⟨_, _, rfl, rfl, rfl⟩ := h
  exact rfl
theorem k28_mk (w : World) (x : S28)  : k28.K w x [.int .u8 x.f0, .string x.f1] := ⟨[.int .u8 x.f0], [.string x.f1], rfl, rfl, rfl⟩
theorem k28_mkM (w : World) (base : Nat) (ok : Nat → Prop) (x : S28)  : k28.M w base ok x [.int .u8 x.f0, .string x.f1] := ⟨[.int .u8 x.f0], [.string x.f1], rfl, rfl, rfl⟩
theorem k28_mkF (W : World) (ok : Nat → Prop) (x : S28) : Kd.FK k28 W ok x [.int .u8 x.f0, .string x.f1] := fun W2 _ => k28_mk W2 x
def rd_T28 (xs : List S28) (i : Int) : S28 := xs.getD i.toNat z28
theorem at_T28 {w : World} {A : Option Addr} {n : Nat} {xs : List S28} (h : Kd.C k28 w A n xs) (i : Int) (h0 : 0 ≤ i) (h1 : i < n) : ∃ ad , A = some ad ∧ w.cell? (ad.add (i.toNat * 2)) = some (.int .u8 (rd_T28 xs i).f0) ∧ w.cell? ⟨(ad.add (i.toNat * 2)).block, (ad.add (i.toNat * 2)).off + 1, none⟩ = some (.string (rd_T28 xs i).f1) := by
  obtain ⟨ad, c, e, _, hK, hc0⟩ := Kd.C_get h z28 i h0 h1
  have hc : ∀ j u, c[j]? = some u → w.cell? (ad.add (i.toNat * 2 + j)) = some u := hc0
  obtain rfl := k28_open hK
  exact ⟨ad, e, hc 0 _ rfl, by rw [← add_field _ _ 1 (by omega)]; exact hc 1 _ rfl⟩

/-! #### struct type 50 -/
structure S50 where
  f0 : S28
  f1 : Bool
  f2 : ByteArray
def z50 : S50 := ⟨z28, false, (⟨#[]⟩ : ByteArray)⟩
def k50 : Kd S50 := Kd.iso (Kd.pair k28 (Kd.pair Kd.bool Kd.string)) (fun x : S50 => (x.f0, x.f1, x.f2))
theorem k50_open {w : World} {x : S50} {cs : List Value} (h : k50.K w x cs) : cs = [.int .u8 x.f0.f0, .string x.f0.f1, .bool x.f1, .string x.f2] := by
  obtain ⟨_, _, rfl, s0, ⟨_, _, rfl, rfl, rfl⟩⟩ := h
  obtain rfl := k28_open s0
  exact rfl
theorem k50_openM {w : World} {base : Nat} {ok : Nat → Prop} {x : S50} {cs : List Value} (h : k50.M w base ok x cs) : cs = [.int .u8 x.f0.f0, .string x.f0.f1, .bool x.f1, .string x.f2] := by
  obtain ⟨_, _, rfl, s0, ⟨_, _, rfl, rfl, rfl⟩⟩ := h
  obtain rfl := k28_openM s0
  exact rfl
theorem k50_mk (w : World) (x : S50)  : k50.K w x [.int .u8 x.f0.f0, .string x.f0.f1, .bool x.f1, .string x.f2] := ⟨[.int .u8 x.f0.f0, .string x.f0.f1], [.bool x.f1, .string x.f2], rfl, (k28_mk w x.f0 ), ⟨[.bool x.f1], [.string x.f2], rfl, rfl, rfl⟩⟩
theorem k50_mkM (w : World) (base : Nat) (ok : Nat → Prop) (x : S50)  : k50.M w base ok x [.int .u8 x.f0.f0, .string x.f0.f1, .bool x.f1, .string x.f2] := ⟨[.int .u8 x.f0.f0, .string x.f0.f1], [.bool x.f1, .string x.f2], rfl, (k28_mkM w base ok x.f0 ), ⟨[.bool x.f1], [.string x.f2], rfl, rfl, rfl⟩⟩
theorem k50_mkF (W : World) (ok : Nat → Prop) (x : S50) : Kd.FK k50 W ok x [.int .u8 x.f0.f0, .string x.f0.f1, .bool x.f1, .string x.f2] := fun W2 _ => k50_mk W2 x
def rd_T50 (xs : List S50) (i : Int) : S50 := xs.getD i.toNat z50
theorem at_T50 {w : World} {A : Option Addr} {n : Nat} {xs : List S50} (h : Kd.C k50 w A n xs) (i : Int) (h0 : 0 ≤ i) (h1 : i < n) : ∃ ad , A = some ad ∧ w.cell? (ad.add (i.toNat * 4)) = some (.int .u8 (rd_T50 xs i).f0.f0) ∧ w.cell? ⟨(ad.add (i.toNat * 4)).block, (ad.add (i.toNat * 4)).off + 1, none⟩ = some (.string (rd_T50 xs i).f0.f1) ∧ w.cell? ⟨(ad.add (i.toNat * 4)).block, (ad.add (i.toNat * 4)).off + 2, none⟩ = some (.bool (rd_T50 xs i).f1) ∧ w.cell? ⟨(ad.add (i.toNat * 4)).block, (ad.add (i.toNat * 4)).off + 3, none⟩ = some (.string (rd_T50 xs i).f2) := by
  obtain ⟨ad, c, e, _, hK, hc0⟩ := Kd.C_get h z50 i h0 h1
  have hc : ∀ j u, c[j]? = some u → w.cell? (ad.add (i.toNat * 4 + j)) = some u := hc0
  obtain rfl := k50_open hK
  exact ⟨ad, e, hc 0 _ rfl, by rw [← add_field _ _ 1 (by omega)]; exact hc 1 _ rfl, by rw [← add_field _ _ 2 (by omega)]; exact hc 2 _ rfl, by rw [← add_field _ _ 3 (by omega)]; exact hc 3 _ rfl⟩

def rd_L6 (xs : List (List S50)) (i : Int) : (List S50) := xs.getD i.toNat ([] : List S50)
theorem at_L6 {w : World} {A : Option Addr} {n : Nat} {xs : List (List S50)} (h : Kd.C (Kd.slice 50 k50) w A n xs) (i : Int) (h0 : 0 ≤ i) (h1 : i < n) : ∃ ad A0 c0, A = some ad ∧ w.cell? (ad.add i.toNat) = some (.slice A0 (rd_L6 xs i).length c0) ∧ (rd_L6 xs i).length ≤ c0 ∧ k50.C w A0 (rd_L6 xs i).length (rd_L6 xs i) := by
  obtain ⟨ad, c, e, _, hK, hc0⟩ := Kd.C_get h ([] : List S50) i h0 h1
  have hc : ∀ j u, c[j]? = some u → w.cell? (ad.add (i.toNat * 1 + j)) = some u := hc0
  obtain ⟨A0, c0, rfl, l0, g0⟩ := hK
  exact ⟨ad, A0, c0, e, by have hq := hc 0 _ rfl; rwa [Nat.mul_one, Nat.add_zero] at hq, l0, g0⟩

/-! #### struct type 47 -/
structure S47 where
  f0 : Int
  f1 : (List S50)
def z47 : S47 := ⟨(0 : Int), ([] : List S50)⟩
def k47 : Kd S47 := Kd.iso (Kd.pair (Kd.int .u64) (Kd.slice 50 k50)) (fun x : S47 => (x.f0, x.f1))
theorem k47_open {w : World} {x : S47} {cs : List Value} (h : k47.K w x cs) : ∃ A1 c1, cs = [.int .u64 x.f0, .slice A1 x.f1.length c1] ∧ x.f1.length ≤ c1 ∧ k50.C w A1 x.f1.length x.f1 := by
  obtain ⟨_, _, rfl, rfl, ⟨A1, c1, rfl, l1, g1⟩⟩ := h
  exact ⟨A1, c1, rfl, l1, g1⟩
theorem k47_openM {w : World} {base : Nat} {ok : Nat → Prop} {x : S47} {cs : List Value} (h : k47.M w base ok x cs) : ∃ v1, cs = [.int .u64 x.f0, v1] ∧ k50.R 50 w base ok v1 x.f1 := by
  obtain ⟨_, _, rfl, rfl, ⟨v1, rfl, g1⟩⟩ := h
  exact ⟨v1, rfl, g1⟩
theorem k47_mk (w : World) (x : S47) {A1 : Option Addr} {c1 : Nat} (l1 : x.f1.length ≤ c1) (g1 : k50.C w A1 x.f1.length x.f1) : k47.K w x [.int .u64 x.f0, .slice A1 x.f1.length c1] := ⟨[.int .u64 x.f0], [.slice A1 x.f1.length c1], rfl, rfl, ⟨A1, c1, rfl, l1, g1⟩⟩
theorem k47_mkM (w : World) (base : Nat) (ok : Nat → Prop) (x : S47) {v1 : Value} (g1 : k50.R 50 w base ok v1 x.f1) : k47.M w base ok x [.int .u64 x.f0, v1] := ⟨[.int .u64 x.f0], [v1], rfl, rfl, ⟨v1, rfl, g1⟩⟩
theorem k47_openF {W : World} {ok : Nat → Prop} {x : S47} {cs : List Value} (h : Kd.FK k47 W ok x cs) : ∃ A1 c1, cs = [.int .u64 x.f0, .slice A1 x.f1.length c1] ∧ x.f1.length ≤ c1 ∧ Kd.F k50 W ok A1 x.f1.length x.f1 := by
  obtain ⟨A1, c1, rfl, l1, _⟩ := k47_open (Kd.FK_now h)
  exact ⟨A1, c1, rfl, l1, (fun W' hW => by obtain ⟨A1_, c1_, he, l1_, g1_⟩ := k47_open (h W' hW); injection (Option.some.inj (show some (Value.slice A1 x.f1.length c1) = some (Value.slice A1_ x.f1.length c1_) from congrArg (fun l => l[1]?) he)) with ha_ _ _; rw [ha_]; exact g1_)⟩
theorem k47_mkF (W : World) (ok : Nat → Prop) (x : S47) {A1 : Option Addr} {c1 : Nat} (l1 : x.f1.length ≤ c1) (g1 : Kd.F k50 W ok A1 x.f1.length x.f1) : Kd.FK k47 W ok x [.int .u64 x.f0, .slice A1 x.f1.length c1] := fun W2 hW => k47_mk W2 x l1 (g1 W2 hW)
def rd_T47 (xs : List S47) (i : Int) : S47 := xs.getD i.toNat z47
theorem at_T47 {w : World} {A : Option Addr} {n : Nat} {xs : List S47} (h : Kd.C k47 w A n xs) (i : Int) (h0 : 0 ≤ i) (h1 : i < n) : ∃ ad A1 c1, A = some ad ∧ w.cell? (ad.add (i.toNat * 2)) = some (.int .u64 (rd_T47 xs i).f0) ∧ w.cell? ⟨(ad.add (i.toNat * 2)).block, (ad.add (i.toNat * 2)).off + 1, none⟩ = some (.slice A1 (rd_T47 xs i).f1.length c1) ∧ (rd_T47 xs i).f1.length ≤ c1 ∧ k50.C w A1 (rd_T47 xs i).f1.length (rd_T47 xs i).f1 := by
  obtain ⟨ad, c, e, _, hK, hc0⟩ := Kd.C_get h z47 i h0 h1
  have hc : ∀ j u, c[j]? = some u → w.cell? (ad.add (i.toNat * 2 + j)) = some u := hc0
  obtain ⟨A1, c1, rfl, l1, g1⟩ := k47_open hK
  exact ⟨ad, A1, c1, e, hc 0 _ rfl, by rw [← add_field _ _ 1 (by omega)]; exact hc 1 _ rfl, l1, g1⟩

/-! #### struct type 57 -/
structure S57 where
  f0 : S28
  f1 : ByteArray
def z57 : S57 := ⟨z28, (⟨#[]⟩ : ByteArray)⟩
def k57 : Kd S57 := Kd.iso (Kd.pair k28 Kd.string) (fun x : S57 => (x.f0, x.f1))
theorem k57_open {w : World} {x : S57} {cs : List Value} (h : k57.K w x cs) : cs = [.int .u8 x.f0.f0, .string x.f0.f1, .string x.f1] := by
  obtain ⟨_, _, rfl, s0, rfl⟩ := h
  obtain rfl := k28_open s0
  exact rfl
theorem k57_openM {w : World} {base : Nat} {ok : Nat → Prop} {x : S57} {cs : List Value} (h : k57.M w base ok x cs) : cs = [.int .u8 x.f0.f0, .string x.f0.f1, .string x.f1] := by
  obtain ⟨_, _, rfl, s0, rfl⟩ := h
  obtain rfl := k28_openM s0
  exact rfl
theorem k57_mk (w : World) (x : S57)  : k57.K w x [.int .u8 x.f0.f0, .string x.f0.f1, .string x.f1] := ⟨[.int .u8 x.f0.f0, .string x.f0.f1], [.string x.f1], rfl, (k28_mk w x.f0 ), rfl⟩
theorem k57_mkM (w : World) (base : Nat) (ok : Nat → Prop) (x : S57)  : k57.M w base ok x [.int .u8 x.f0.f0, .string x.f0.f1, .string x.f1] := ⟨[.int .u8 x.f0.f0, .string x.f0.f1], [.string x.f1], rfl, (k28_mkM w base ok x.f0 ), rfl⟩
theorem k57_mkF (W : World) (ok : Nat → Prop) (x : S57) : Kd.FK k57 W ok x [.int .u8 x.f0.f0, .string x.f0.f1, .string x.f1] := fun W2 _ => k57_mk W2 x
def rd_T57 (xs : List S57) (i : Int) : S57 := xs.getD i.toNat z57
theorem at_T57 {w : World} {A : Option Addr} {n : Nat} {xs : List S57} (h : Kd.C k57 w A n xs) (i : Int) (h0 : 0 ≤ i) (h1 : i < n) : ∃ ad , A = some ad ∧ w.cell? (ad.add (i.toNat * 3)) = some (.int .u8 (rd_T57 xs i).f0.f0) ∧ w.cell? ⟨(ad.add (i.toNat * 3)).block, (ad.add (i.toNat * 3)).off + 1, none⟩ = some (.string (rd_T57 xs i).f0.f1) ∧ w.cell? ⟨(ad.add (i.toNat * 3)).block, (ad.add (i.toNat * 3)).off + 2, none⟩ = some (.string (rd_T57 xs i).f1) := by
  obtain ⟨ad, c, e, _, hK, hc0⟩ := Kd.C_get h z57 i h0 h1
  have hc : ∀ j u, c[j]? = some u → w.cell? (ad.add (i.toNat * 3 + j)) = some u := hc0
  obtain rfl := k57_open hK
  exact ⟨ad, e, hc 0 _ rfl, by rw [← add_field _ _ 1 (by omega)]; exact hc 1 _ rfl, by rw [← add_field _ _ 2 (by omega)]; exact hc 2 _ rfl⟩

end Go.Proofs.Ytgmdoapedhppmaa.PC

/- Proofs that functions of the program come to what plain Lean functions say; made by wip/drive.py. -/
namespace Go.Proofs.Ytgmdoapedhppmaa.PC
set_option linter.unusedVariables false
set_option linter.unusedSimpArgs false
open Go.RowKit Go.Proofs.YtgmdoapedhppmaaW.PrintWords Go.Proofs.YtgmdoapedhppmaaW.PrintLast Go.Proofs.YtgmdoapedhppmaaW.PrintMore
attribute [local go_sem] max2_int min2_int max_two min_two max_three min_three max_four min_four   -- for this text's walks alone
set_option linter.unusedVariables false
set_option linter.unusedSimpArgs false

/-! ### shift_PutUint: function 32 -/
def shift_PutUint.l0 : Nat → List Int → Int → Option (List Int)
  | 0, _, _ => none
  | k + 1, x0, x1 => if (x1 / 128) = 0 then (if x0.length < 140737488355328 then (some (x0 ++ [(x1) % 256])) else (none)) else (if x0.length < 140737488355328 then (shift_PutUint.l0 k (x0 ++ [Go.bits .or .u8 ((x1) % 256) 128]) (x1 / 128)) else (none))
def shift_PutUint.f (k : Nat) (l0 : List Int) (a1 : Int) : Option (List Int) := shift_PutUint.l0 k l0 a1
theorem shift_PutUint.mono_l : ∀ k, (∀ y0 y1, LeO (shift_PutUint.l0 k y0 y1) (shift_PutUint.l0 (k + 1) y0 y1))
  | 0 => fun _ _ r h => by simp [shift_PutUint.l0] at h
  | k + 1 => by
    have ih0 := shift_PutUint.mono_l k
    · intro y0 y1
      unfold shift_PutUint.l0
      repeat' first
      | (with_reducible exact ih0 _ _)
      | (with_reducible exact LeO.refl _)
      | (with_reducible exact LeO.none _)
      | (with_reducible refine LeO.ite ?_ ?_)
      | (with_reducible refine LeO.bind ?_ (fun _ => ?_))
      | exact ih0 _ _
      | exact LeO.none _
      | refine LeO.ite ?_ ?_
      | refine LeO.bind ?_ (fun _ => ?_)
theorem shift_PutUint.mono : ∀ a0 a1 k, LeO (shift_PutUint.f k a0 a1) (shift_PutUint.f (k + 1) a0 a1) := by
  intro a0 a1 k
  have ih0 := shift_PutUint.mono_l k
  unfold shift_PutUint.f
  repeat' first
      | (with_reducible exact ih0 _ _)
      | (with_reducible exact LeO.refl _)
      | (with_reducible exact LeO.none _)
      | (with_reducible refine LeO.ite ?_ ?_)
      | (with_reducible refine LeO.bind ?_ (fun _ => ?_))
      | exact ih0 _ _
      | exact LeO.none _
      | refine LeO.ite ?_ ?_
      | refine LeO.bind ?_ (fun _ => ?_)
set_option maxHeartbeats 8000000 in
set_option maxRecDepth 100000 in
theorem shift_PutUint.calls (k : Nat) (P0_ : Nat → Prop) (u9000_ : Value) (l0 : List Int) (a1 : Int) (r : List Int) (w0 w : World) (hB : Below w0.heap.size w0 w) (ho0 : Kd.R (Kd.int .u8) 5 w w0.heap.size P0_ u9000_ l0) (h : shift_PutUint.f k l0 a1 = some r) :
    Calls Try.prog 32 #[u9000_, .int .u64 a1] w fun e w' => ∃ v0_ : Value, e = .returned (v0_) ∧ Kd.R (Kd.int .u8) 5 w' w0.heap.size (fun k_ => (P0_ k_ ∨ w.heap.size ≤ k_)) v0_ r ∧ Below w0.heap.size w0 w' ∧ Kept w w' (fun k_ => P0_ k_) := by
  have HO0 := Aside0.mk (show Kd.R (Kd.int .u8) 5 w w0.heap.size (fun k_ => (P0_ k_ ∨ w.heap.size ≤ k_)) u9000_ l0 from Kd.R_mono ho0 (fun k_ hk => (.inl hk)))
  have HK := Aside0.mk (Kept.refl w (fun k_ => P0_ k_))
  have HW0 := Aside0.mk hB.size
  have HB := Aside0.mk hB
  clear hB
  have H : (shift_PutUint.l0 k l0 a1) = some r := h
  clear h
  have H' := Aside0.mk H
  clear H
  go_enter Try.func32, Try.ntmps32
  go_wp2
  go_loopg [0, 1] k (fun kq v0 v1 w' => ∃ (x0_1 : List Int) (x1_1 : Int), v1 = .int .u64 x1_1 ∧ Aside0 (shift_PutUint.l0 kq x0_1 x1_1 = some r) ∧ Aside0 (kq ≤ k) ∧ Aside0 (Kd.R (Kd.int .u8) 5 w' w0.heap.size (fun k_ => (P0_ k_ ∨ w.heap.size ≤ k_)) v0 x0_1) ∧ Aside0 (Kept w w' (fun k_ => P0_ k_)) ∧ Aside0 (Below w0.heap.size w0 w'))
  case atStart => exact ⟨(l0), (a1), (by first | rfl | (simp; done) | (simp [*]; done)), H', ⟨Nat.le_refl _⟩, ⟨by (with_reducible repeat (first | apply Kd.R_alloc | apply Kd.R_drewN | apply Kd.R_drew)); exact HO0.out⟩, ⟨by repeat (first | (with_reducible first | exact HK.out | apply Kept.alloc | apply Kept.drewN | apply Kept.drew) | exact HK.out)⟩, ⟨by repeat (first | (with_reducible first | exact HB.out | apply below_alloc | apply pw_below_drewN | apply below_drew1) | exact HB.out)⟩⟩
  case round =>
    clear H'
    try clear p2
    obtain ⟨x0_1, x1_1, rfl, HA, HK1, HO_0, HK, HB⟩ := hrel
    cases gk with
    | zero => exact absurd HA.out (by simp [shift_PutUint.l0])
    | succ k1 =>
      have H := HA.out
      clear HA
      simp only [shift_PutUint.l0] at H
      by_cases c3 : (x1_1 / 128) = 0
      · rw [if_pos c3] at H
        have c3b0 : ((x1_1 / 128) == 0) = true := beq_iff_eq.mpr c3
        have c3b1 : ((x1_1 / 128) != 0) = false := bne_eq_false_iff_eq.mpr c3
        clear c3
        by_cases c4 : x0_1.length < 140737488355328
        · rw [if_pos c4] at H
          have LMc4 := Aside0.mk c4
          clear c4
          obtain ⟨y101, hy101⟩ : ∃ y_ : List Int, y_ = (x0_1 ++ [(x1_1) % 256]) := ⟨_, rfl⟩
          replace H : (some y101) = some r := by first | (rw [hy101]; with_reducible exact H) | (have H2_ := (Option.bind_some _ _).symm.trans H; rw [hy101]; with_reducible exact H2_) | (have H2_ := (Option.bind_some _ _).symm.trans H; with_reducible exact H2_) | with_reducible exact H | (rw [hy101]; exact H) | exact H
          have Ny101 := Aside0.mk hy101
          clear hy101
          obtain rfl := Option.some.inj H
          go_wp2_with (first | ((with_reducible refine gate_builtin (b := .append) (xs := #[.tmp 16, .tmp 19]) rfl ?_); at_builtin; refine Kd.R_append (Kd.int .u8) (w0 := w0) w0.heap.size rfl (.tmp 16) (.tmp 19) 32 5 (.int .u8 0) 1 rfl Try.underlying32 info5 rfl (by decide) (by omega) u0 x0_1 ((x1_1) % 256) [.int .u8 ((x1_1) % 256)] (fun k_ => (P0_ k_ ∨ w.heap.size ≤ k_)) (fun _ => False) rfl rfl ?aP (fun _ hk => hk.elim) ?aF ?aO ?aB ?aS ?aL ?_; (case aP => exact rfl); (case aB => exact (by repeat (first | (with_reducible first | exact HB.out | apply below_alloc | apply pw_below_drewN | apply below_drew1) | exact HB.out))); (case aF => exact (fun k_ hk => (.inr (Nat.le_trans (by first | exact HK.out.1 | exact (show Kept w _ (fun k_ => P0_ k_) from by repeat (first | (with_reducible first | exact HK.out | apply Kept.alloc | apply Kept.drewN | apply Kept.drew) | exact HK.out)).1) hk)))); (case aO => exact (by (with_reducible repeat (first | apply Kd.R_alloc | apply Kd.R_drewN | apply Kd.R_drew)); exact HO_0.out)); (case aS => exact (below_size (by repeat (first | (with_reducible first | exact HB.out | apply below_alloc | apply pw_below_drewN | apply below_drew1) | exact HB.out)))); (case aL => have := LMc4.out; omega); intro v102 w5 ho hb hg hat; rw [← Ny101.out] at ho; have n0_ := Aside0.mk (hb); have n1_ := Aside0.mk (Kept.of_grown (S := (fun k_ => P0_ k_)) hg (by repeat (first | (with_reducible first | exact HK.out | apply Kept.alloc | apply Kept.drewN | apply Kept.drew) | exact HK.out)) (fun k_ e_ => (HO_0.out.1 k_ e_))); have n2_ := Aside0.mk (ho); clear HB; clear HK; clear HO_0; have HB := n0_; have HK := n1_; have HO103 := n2_; clear n0_ n1_ n2_; clear ho hb hg hat))
          go_ret
          exact ⟨_, by first | rfl | (simp [errW_none, errW_some] <;> rfl) | (simp [*, errW_none, errW_some] <;> rfl), by (with_reducible repeat (first | apply Kd.R_alloc | apply Kd.R_drewN | apply Kd.R_drew)); exact HO103.out, by repeat (first | (with_reducible first | exact HB.out | apply below_alloc | apply pw_below_drewN | apply below_drew1) | exact HB.out), by repeat (first | (with_reducible first | exact HK.out | apply Kept.alloc | apply Kept.drewN | apply Kept.drew) | exact HK.out)⟩
        · rw [if_neg c4] at H
          exact absurd H (by simp)
      · rw [if_neg c3] at H
        have c3b0 : ((x1_1 / 128) == 0) = false := beq_eq_false_iff_ne.mpr c3
        have c3b1 : ((x1_1 / 128) != 0) = true := bne_iff_ne.mpr c3
        by_cases c6 : x0_1.length < 140737488355328
        · rw [if_pos c6] at H
          have LMc6 := Aside0.mk c6
          clear c6
          obtain ⟨y104, hy104⟩ : ∃ y_ : List Int, y_ = (x0_1 ++ [Go.bits .or .u8 ((x1_1) % 256) 128]) := ⟨_, rfl⟩
          replace H : (shift_PutUint.l0 k1 y104 (x1_1 / 128)) = some r := by first | (rw [hy104]; with_reducible exact H) | (have H2_ := (Option.bind_some _ _).symm.trans H; rw [hy104]; with_reducible exact H2_) | (have H2_ := (Option.bind_some _ _).symm.trans H; with_reducible exact H2_) | with_reducible exact H | (rw [hy104]; exact H) | exact H
          have Ny104 := Aside0.mk hy104
          clear hy104
          have H' := Aside0.mk H
          clear H
          go_wp2_with (first | ((with_reducible refine gate_builtin (b := .append) (xs := #[.tmp 10, .tmp 14]) rfl ?_); at_builtin; refine Kd.R_append (Kd.int .u8) (w0 := w0) w0.heap.size rfl (.tmp 10) (.tmp 14) 32 5 (.int .u8 0) 1 rfl Try.underlying32 info5 rfl (by decide) (by omega) u0 x0_1 (Go.bits .or .u8 ((x1_1) % 256) 128) [.int .u8 (Go.bits .or .u8 ((x1_1) % 256) 128)] (fun k_ => (P0_ k_ ∨ w.heap.size ≤ k_)) (fun _ => False) rfl rfl ?aP (fun _ hk => hk.elim) ?aF ?aO ?aB ?aS ?aL ?_; (case aP => exact rfl); (case aB => exact (by repeat (first | (with_reducible first | exact HB.out | apply below_alloc | apply pw_below_drewN | apply below_drew1) | exact HB.out))); (case aF => exact (fun k_ hk => (.inr (Nat.le_trans (by first | exact HK.out.1 | exact (show Kept w _ (fun k_ => P0_ k_) from by repeat (first | (with_reducible first | exact HK.out | apply Kept.alloc | apply Kept.drewN | apply Kept.drew) | exact HK.out)).1) hk)))); (case aO => exact (by (with_reducible repeat (first | apply Kd.R_alloc | apply Kd.R_drewN | apply Kd.R_drew)); exact HO_0.out)); (case aS => exact (below_size (by repeat (first | (with_reducible first | exact HB.out | apply below_alloc | apply pw_below_drewN | apply below_drew1) | exact HB.out)))); (case aL => have := LMc6.out; omega); intro v105 w7 ho hb hg hat; rw [← Ny104.out] at ho; have n0_ := Aside0.mk (hb); have n1_ := Aside0.mk (Kept.of_grown (S := (fun k_ => P0_ k_)) hg (by repeat (first | (with_reducible first | exact HK.out | apply Kept.alloc | apply Kept.drewN | apply Kept.drew) | exact HK.out)) (fun k_ e_ => (HO_0.out.1 k_ e_))); have n2_ := Aside0.mk (ho); clear HB; clear HK; clear HO_0; have HB := n0_; have HK := n1_; have HO106 := n2_; clear n0_ n1_ n2_; clear ho hb hg hat))
          go_roundg k1
          case measure => have := HK1.out; omega
          case rel => exact ⟨(y104), (x1_1 / 128), (by first | rfl | (simp; done) | (simp [*]; done)), H', ⟨by have := HK1.out; omega⟩, ⟨by (with_reducible repeat (first | apply Kd.R_alloc | apply Kd.R_drewN | apply Kd.R_drew)); exact HO106.out⟩, ⟨by repeat (first | (with_reducible first | exact HK.out | apply Kept.alloc | apply Kept.drewN | apply Kept.drew) | exact HK.out)⟩, ⟨by repeat (first | (with_reducible first | exact HB.out | apply below_alloc | apply pw_below_drewN | apply below_drew1) | exact HB.out)⟩⟩
        · rw [if_neg c6] at H
          exact absurd H (by simp)

end Go.Proofs.Ytgmdoapedhppmaa.PC

namespace Go.Lib
set_option linter.unusedVariables false
set_option linter.unusedSimpArgs false
variable {P : Program} (w : World)
/-- Where the row lies that an append of a string hands back: in the old one's place, or in a new one. -/
theorem append_string_at (base : Nat) (t u ty e : TypeId) (i : TypeInfo) (ht : P.underlying t = some (.slice e)) (hu : P.underlying u = some .string) (hi : P.info? e = some i) (hz : i.zero = some (.int .u8 0))
    (hsize : i.size = 1) (hby : i.bytes = 1) (v : Value) (n : Nat) (xs : List Value) (hown : w.ownsRow base e 1 v n xs) (s : ByteArray)
    (h63 : n + s.size ≤ maxLen) (hbytes : n + s.size ≤ 140737488355328) (v' : Value) (w' : World) (hrun : (Builtin.append_ #[t, u] ty #[v, .string s]).run P w = .ok v' w') :
    v'.ownBlock = v.ownBlock ∨ ∃ b, v'.ownBlock = some b ∧ w.heap.size ≤ b := by
  have hsmall : n + s.size ≤ 9223372036854775807 := by simp only [maxLen] at h63; omega
  have hxl : xs.length = n := by simpa using hown.1
  rcases hown.2 with ⟨rfl, rfl⟩ | ⟨g, cap, cur, rfl, hbg, hg, hnc, hcm, hcs, htake⟩
  · by_cases hm : s.size = 0
    · have hf := run_firstCells_string (P := P) w 1 s
      rw [hm] at hf
      have hr : (Builtin.append_ #[t, u] ty #[.slice none 0 0, .string s]).run P w = .ok (.slice none 0 0) w := by simp [Builtin.append_, run_underlying ht, run_underlying hu, sizeOf, typeInfo, hi, hsize, Builtin.lenOf, hm, hf]
      rw [hr] at hrun
      injection hrun with h1 h2
      subst h1
      exact .inl rfl
    · have hr := run_append_nil_string (P := P) w t u ty e i (.int .u8 0) ht hu hi hz s (by omega) (by omega) (by rw [hby]; omega)
      rw [hr] at hrun
      injection hrun with h1 h2
      subst h1
      exact .inr ⟨_, rfl, Nat.le_refl _⟩
  · by_cases hroom : n + s.size ≤ cap
    · have hr := run_append_room_string (P := P) w t u ty e i ht hu hi hsize g n cap cur hg s hroom (by omega)
      rw [hr] at hrun
      injection hrun with h1 h2
      subst h1
      exact .inl rfl
    · have holds : ∀ j u, xs[j]? = some u → w.cell? ((⟨g, 0, none⟩ : Addr).add j) = some u := hown.cells (g := g) rfl
      have hr := run_append_grow_string (P := P) w t u ty e i (.int .u8 0) ht hu hi hz ⟨g, 0, none⟩ n cap xs (by rw [hsize]; simpa using hxl) holds s (by omega) (by omega) (by rw [hby]; exact growslice_fits (by omega) (by omega))
      rw [hr] at hrun
      injection hrun with h1 h2
      subst h1
      exact .inr ⟨_, rfl, Nat.le_refl _⟩
end Go.Lib
namespace Go.Proofs.Ytgmdoapedhppmaa.PC
set_option linter.unusedVariables false
set_option linter.unusedSimpArgs false
open Go.RowKit Go.Proofs.YtgmdoapedhppmaaW.PrintWords Go.Proofs.YtgmdoapedhppmaaW.PrintLast Go.Proofs.YtgmdoapedhppmaaW.PrintMore
section
variable {P : Program}
theorem run_append_str {w0 W : World} (base : Nat) (t u ty e : TypeId) (ht : P.underlying t = some (.slice e)) (hu : P.underlying u = some .string) (hinfo : (P.info? e).map (fun i => (i.zero, i.size, i.bytes)) = some (some (.int .u8 0), 1, 1))
    (v : Value) (xs : List Int) (y : ByteArray) (ok : Nat → Prop) (HO : (Kd.int .u8).R e W base ok v xs) (HB : Below base w0 W) (hbase : base ≤ W.heap.size) (hl : xs.length + y.size ≤ 140737488355328) (hfresh : ∀ k, W.heap.size ≤ k → ok k) :
    ∃ v1 w1, (Builtin.append_ #[t, u] ty #[v, .string y]).run P W = .ok v1 w1 ∧ (Kd.int .u8).R e w1 base ok v1 (xs ++ bytesOf y) ∧ Below base w0 w1 ∧ W.grownBy w1 v.ownBlock ∧ (v1.ownBlock = v.ownBlock ∨ ∃ b, v1.ownBlock = some b ∧ W.heap.size ≤ b) := by
  obtain ⟨i0, hi, hzz⟩ := Option.map_eq_some_iff.1 hinfo
  simp only [Prod.mk.injEq] at hzz
  obtain ⟨hz0, hz1, hz2⟩ := hzz
  have HO1 := Kd.own_of_R HO
  obtain ⟨v1, w1, hr, hown, hg, _⟩ := Lib.run_append_own_string (P := P) W base t u ty e i0 ht hu hi hz0 hz1 hz2 v xs.length (nums .u8 xs) HO1 y (by simp only [maxLen]; omega) hl hbase
  have hat := Lib.append_string_at (P := P) W base t u ty e i0 ht hu hi hz0 hz1 hz2 v xs.length (nums .u8 xs) HO1 y (by simp only [maxLen]; omega) hl v1 w1 hr
  have hl2 : (xs ++ bytesOf y).length = xs.length + y.size := by rw [List.length_append, bytesOf_length]
  have hc : nums .u8 (xs ++ bytesOf y) = nums .u8 xs ++ Lib.strCells y := by
    rw [nums_append]
    congr 1
    simp [nums, bytesOf, Lib.strCells]
  refine ⟨v1, w1, hr, Kd.R_of_own (by rw [hl2]; show w1.ownsRow base e 1 v1 _ (nums .u8 (xs ++ bytesOf y)); rw [hc]; exact hown) (fun k hk => ?_), HB.grown hg hbase (own_base HO1), hg, hat⟩
  rcases hat with hat | ⟨b, hb, hle⟩
  · exact HO.1 k (hat ▸ hk)
  · rw [hb] at hk
    injection hk with hk
    subst hk
    exact hfresh _ hle
end
section
variable {P : Program} {ops : Array Oper} {rest : List Oper} {o : Oper} {a : Act} {Q : Exit → Act → World → Prop} {Kc : Act → World → Prop}
theorem R_append_str {w0 W : World} (base : Nat) (hgd : o.guard = none) (s x : Operand) (t u e : TypeId)
    (ho : o.op = .call { callee := .builtin .append, args := #[s, x], argTypes := #[t, u] })
    (ht : P.underlying t = some (.slice e)) (hu : P.underlying u = some .string) (hinfo : (P.info? e).map (fun i => (i.zero, i.size, i.bytes)) = some (some (.int .u8 0), 1, 1))
    (v : Value) (xs : List Int) (y : ByteArray) (ok : Nat → Prop) (hs : a.eval s = v) (hx : a.eval x = .string y) (HO : (Kd.int .u8).R e W base ok v xs) (HB : Below base w0 W) (hbase : base ≤ W.heap.size) (hl : xs.length + y.size ≤ 140737488355328) (hfresh : ∀ k, W.heap.size ≤ k → ok k)
    (h : ∀ v1 w1, (Kd.int .u8).R e w1 base ok v1 (xs ++ bytesOf y) → Below base w0 w1 → W.grownBy w1 v.ownBlock → (v1.ownBlock = v.ownBlock ∨ ∃ b, v1.ownBlock = some b ∧ W.heap.size ≤ b) → wpList P ops Q rest (a.put o.dst v1) w1) :
    wpList P ops Q (o :: rest) a W := by
  obtain ⟨v1, w1, hr, h1, h2, h3, h4⟩ := run_append_str (P := P) base t u o.type e ht hu hinfo v xs y ok HO HB hbase hl hfresh
  refine wpList_plain hgd fun K hK => ?_
  unfold Oper.wp execOp
  simp only [ho, resolve, invoke, builtin, Sem.run_bind, Sem.run_pure, Result.andThen_ok, List.map_toArray, List.map_cons, List.map_nil, hs, hx, hr]
  exact hK _ _ (h v1 w1 h1 h2 h3 h4)
theorem R_append_str_step {w0 W : World} (base : Nat) (hw : Region.wanted o (yielded ops a.tmps) = true) (s x : Operand) (t u e : TypeId)
    (ho : o.op = .call { callee := .builtin .append, args := #[s, x], argTypes := #[t, u] })
    (ht : P.underlying t = some (.slice e)) (hu : P.underlying u = some .string) (hinfo : (P.info? e).map (fun i => (i.zero, i.size, i.bytes)) = some (some (.int .u8 0), 1, 1))
    (v : Value) (xs : List Int) (y : ByteArray) (ok : Nat → Prop) (hs : a.eval s = v) (hx : a.eval x = .string y) (HO : (Kd.int .u8).R e W base ok v xs) (HB : Below base w0 W) (hbase : base ≤ W.heap.size) (hl : xs.length + y.size ≤ 140737488355328) (hfresh : ∀ k, W.heap.size ≤ k → ok k)
    (h : ∀ v1 w1, (Kd.int .u8).R e w1 base ok v1 (xs ++ bytesOf y) → Below base w0 w1 → W.grownBy w1 v.ownBlock → (v1.ownBlock = v.ownBlock ∨ ∃ b, v1.ownBlock = some b ∧ W.heap.size ≤ b) → Kc (a.put o.dst v1) w1) :
    if Region.wanted o (yielded ops a.tmps) = true then Oper.wp P o a W Kc Q else Kc (a.put o.dst undef) W := by
  obtain ⟨v1, w1, hr, h1, h2, h3, h4⟩ := run_append_str (P := P) base t u o.type e ht hu hinfo v xs y ok HO HB hbase hl hfresh
  rw [if_pos hw]
  unfold Oper.wp execOp
  simp only [ho, resolve, invoke, builtin, Sem.run_bind, Sem.run_pure, Result.andThen_ok, List.map_toArray, List.map_cons, List.map_nil, hs, hx, hr]
  exact h v1 w1 h1 h2 h3 h4
end
end Go.Proofs.Ytgmdoapedhppmaa.PC

/- Proofs that functions of the program come to what plain Lean functions say; made by wip/drive.py. -/
namespace Go.Proofs.Ytgmdoapedhppmaa.PC
set_option linter.unusedVariables false
set_option linter.unusedSimpArgs false
open Go.RowKit Go.Proofs.YtgmdoapedhppmaaW.PrintWords Go.Proofs.YtgmdoapedhppmaaW.PrintLast Go.Proofs.YtgmdoapedhppmaaW.PrintMore
attribute [local go_sem] max2_int min2_int max_two min_two max_three min_three max_four min_four   -- for this text's walks alone
set_option linter.unusedVariables false
set_option linter.unusedSimpArgs false

/-! ### codec_text: function 33 -/
def codec_text.f (k : Nat) (l0 : List Int) (a1 : ByteArray) : Option (List Int) := (shift_PutUint.f k l0 (IntKind.u64.wrap ((a1.size : Int)))).bind fun t107 => (if t107.length + a1.size < 140737488355328 then (some (t107 ++ bytesOf a1)) else (none))
theorem codec_text.mono : ∀ a0 a1 k, LeO (codec_text.f k a0 a1) (codec_text.f (k + 1) a0 a1) := by
  intro a0 a1 k
  unfold codec_text.f
  repeat' first
      | (with_reducible exact shift_PutUint.mono _ _ _)
      | (with_reducible exact LeO.refl _)
      | (with_reducible exact LeO.none _)
      | (with_reducible refine LeO.ite ?_ ?_)
      | (with_reducible refine LeO.bind ?_ (fun _ => ?_))
      | exact shift_PutUint.mono _ _ _
      | exact LeO.none _
      | refine LeO.ite ?_ ?_
      | refine LeO.bind ?_ (fun _ => ?_)
set_option maxHeartbeats 8000000 in
set_option maxRecDepth 100000 in
theorem codec_text.calls (k : Nat) (P0_ : Nat → Prop) (u9000_ : Value) (l0 : List Int) (a1 : ByteArray) (r : List Int) (w0 w : World) (hB : Below w0.heap.size w0 w) (ho0 : Kd.R (Kd.int .u8) 5 w w0.heap.size P0_ u9000_ l0) (h : codec_text.f k l0 a1 = some r) :
    Calls Try.prog 33 #[u9000_, .string a1] w fun e w' => ∃ v0_ : Value, e = .returned (v0_) ∧ Kd.R (Kd.int .u8) 5 w' w0.heap.size (fun k_ => (P0_ k_ ∨ w.heap.size ≤ k_)) v0_ r ∧ Below w0.heap.size w0 w' ∧ Kept w w' (fun k_ => P0_ k_) := by
  have HO0 := Aside0.mk (show Kd.R (Kd.int .u8) 5 w w0.heap.size (fun k_ => (P0_ k_ ∨ w.heap.size ≤ k_)) u9000_ l0 from Kd.R_mono ho0 (fun k_ hk => (.inl hk)))
  have HK := Aside0.mk (Kept.refl w (fun k_ => P0_ k_))
  have HW0 := Aside0.mk hB.size
  have HB := Aside0.mk hB
  clear hB
  have H : ((shift_PutUint.f k l0 (IntKind.u64.wrap ((a1.size : Int)))).bind fun t107 => (if t107.length + a1.size < 140737488355328 then (some (t107 ++ bytesOf a1)) else (none))) = some r := h
  clear h
  replace H := Option.bind_eq_some_iff.mp H
  obtain ⟨t107, A30, H⟩ := H
  replace H : (if t107.length + a1.size < 140737488355328 then (some (t107 ++ bytesOf a1)) else (none)) = some r := H
  have A3 := Aside0.mk A30
  clear A30
  by_cases c4 : t107.length + a1.size < 140737488355328
  · rw [if_pos c4] at H
    have LMc4 := Aside0.mk c4
    clear c4
    obtain ⟨y110, hy110⟩ : ∃ y_ : List Int, y_ = (t107 ++ bytesOf a1) := ⟨_, rfl⟩
    replace H : (some y110) = some r := by first | (rw [hy110]; with_reducible exact H) | (have H2_ := (Option.bind_some _ _).symm.trans H; rw [hy110]; with_reducible exact H2_) | (have H2_ := (Option.bind_some _ _).symm.trans H; with_reducible exact H2_) | with_reducible exact H | (rw [hy110]; exact H) | exact H
    have Ny110 := Aside0.mk hy110
    clear hy110
    obtain rfl := Option.some.inj H
    obtain ⟨Ao5, co5, eo5⟩ := Kd.R_slice HO0.out
    subst eo5
    go_enter Try.func33, Try.ntmps33
    go_wp2_with (first | ((with_reducible refine gate_callee (f := 32) rfl ?_); refine goesL_ (some 9) rfl rfl Try.func32 (by kernel_rfl) rfl #[.slice Ao5 l0.length co5, .int .u64 (IntKind.u64.wrap ((a1.size : Int)))] rfl (by (try simp only [List.map_toArray, List.map_cons, List.map_nil]); first | done | rfl | (simp only [List.length_drop, List.length_take]; rfl) | (rw [IntKind.wrap_u64, Int.emod_eq_of_lt (by omega) (by omega)]; rfl)) ?_; (with_reducible refine (shift_PutUint.calls k (fun k_ => some k_ = (.slice Ao5 l0.length co5 : Value).ownBlock) (.slice Ao5 l0.length co5) l0 (IntKind.u64.wrap ((a1.size : Int))) t107 w0 _ ?side1 ?side2 A3.out).mono ?_); (case side1 => repeat (first | (with_reducible first | exact HB.out | apply below_alloc | apply pw_below_drewN | apply below_drew1) | exact HB.out)); (case side2 => exact Kd.R_tight rfl HO0.out); rintro e w6 ⟨v108, rfl, ho0, hb, hkp⟩; refine ⟨_, rfl, ?_⟩; have n0_ := Aside0.mk (Kd.R_mono (ok' := fun k_ => (P0_ k_ ∨ w.heap.size ≤ k_)) ho0 (fun k_ hk_ => Or.elim hk_ (fun hs_ => (HO0.out.1 k_ (hs_).symm)) (fun hn_ => (.inr (Nat.le_trans (by first | exact HK.out.1 | exact (show Kept w _ (fun k_ => P0_ k_) from by repeat (first | (with_reducible first | exact HK.out | apply Kept.alloc | apply Kept.drewN | apply Kept.drew) | exact HK.out)).1) hn_))))); have n1_ := Aside0.mk (Kept.then_ (S := (fun k_ => P0_ k_)) (by repeat (first | (with_reducible first | exact HK.out | apply Kept.alloc | apply Kept.drewN | apply Kept.drew) | exact HK.out)) hkp (fun k_ hs_ => (fun e_ => (HO0.out.1 k_ e_.symm)) hs_)); have n2_ := Aside0.mk (hb); clear HK; clear HB; clear HO0; have HO109 := n0_; have HK := n1_; have HB := n2_; clear n0_ n1_ n2_; (try clear hb); (try clear hkp); (try clear ho0)) | (at_builtin; refine R_append_str (w0 := w0) w0.heap.size rfl (.tmp 9) _ 32 9 5 rfl Try.underlying32 Try.underlying9 info5 v108 t107 a1 (fun k_ => (P0_ k_ ∨ w.heap.size ≤ k_)) rfl rfl ?aO ?aB ?aS ?aL ?aF ?_; (case aB => exact (by repeat (first | (with_reducible first | exact HB.out | apply below_alloc | apply pw_below_drewN | apply below_drew1) | exact HB.out))); (case aF => exact (fun k_ hk => (.inr (Nat.le_trans (by first | exact HK.out.1 | exact (show Kept w _ (fun k_ => P0_ k_) from by repeat (first | (with_reducible first | exact HK.out | apply Kept.alloc | apply Kept.drewN | apply Kept.drew) | exact HK.out)).1) hk)))); (case aO => exact (by (with_reducible repeat (first | apply Kd.R_alloc | apply Kd.R_drewN | apply Kd.R_drew)); exact HO109.out)); (case aS => exact (below_size (by repeat (first | (with_reducible first | exact HB.out | apply below_alloc | apply pw_below_drewN | apply below_drew1) | exact HB.out)))); (case aL => have := LMc4.out; omega); intro v111 w7 ho hb hg hat; rw [← Ny110.out] at ho; change Kd.R (Kd.int .u8) 5 w7 w0.heap.size (fun k_ => (P0_ k_ ∨ w.heap.size ≤ k_)) v111 y110 at ho; have n0_ := Aside0.mk (hb); have n1_ := Aside0.mk (Kept.of_grown (S := (fun k_ => P0_ k_)) hg (by repeat (first | (with_reducible first | exact HK.out | apply Kept.alloc | apply Kept.drewN | apply Kept.drew) | exact HK.out)) (fun k_ e_ => (HO109.out.1 k_ e_))); have n2_ := Aside0.mk (ho); clear HB; clear HK; clear HO109; have HB := n0_; have HK := n1_; have HO112 := n2_; clear n0_ n1_ n2_; clear ho hb hg hat))
    go_ret
    exact ⟨_, by first | rfl | (simp [errW_none, errW_some] <;> rfl) | (simp [*, errW_none, errW_some] <;> rfl), by (with_reducible repeat (first | apply Kd.R_alloc | apply Kd.R_drewN | apply Kd.R_drew)); exact HO112.out, by repeat (first | (with_reducible first | exact HB.out | apply below_alloc | apply pw_below_drewN | apply below_drew1) | exact HB.out), by repeat (first | (with_reducible first | exact HK.out | apply Kept.alloc | apply Kept.drewN | apply Kept.drew) | exact HK.out)⟩
  · rw [if_neg c4] at H
    exact absurd H (by simp)

end Go.Proofs.Ytgmdoapedhppmaa.PC

/- Proofs that functions of the program come to what plain Lean functions say; made by wip/drive.py. -/
namespace Go.Proofs.Ytgmdoapedhppmaa.PC
set_option linter.unusedVariables false
set_option linter.unusedSimpArgs false
open Go.RowKit Go.Proofs.YtgmdoapedhppmaaW.PrintWords Go.Proofs.YtgmdoapedhppmaaW.PrintLast Go.Proofs.YtgmdoapedhppmaaW.PrintMore
attribute [local go_sem] max2_int min2_int max_two min_two max_three min_three max_four min_four   -- for this text's walks alone
set_option linter.unusedVariables false
set_option linter.unusedSimpArgs false

/-! ### shift_Unpack: function 61 -/
def shift_Unpack.f (a0 : Int) : Option (Int × Int × Int) := some ((a0 / 4294967296) % 4294967296, (a0) % 256, ((a0) % 4294967296) / 256)
set_option maxHeartbeats 8000000 in
set_option maxRecDepth 100000 in
theorem shift_Unpack.calls (a0 : Int) (r1 : Int) (r2 : Int) (r3 : Int) (w : World) (h : shift_Unpack.f a0 = some (r1, r2, r3)) :
    Calls Try.prog 61 #[.int .u64 a0] w fun e w' => e = .returned (.tuple #[.int .u32 r1, .int .u8 r2, .int .u32 r3]) ∧ Drawn0 w w' := by
  have H : (some ((a0 / 4294967296) % 4294967296, (a0) % 256, ((a0) % 4294967296) / 256)) = some (r1, r2, r3) := h
  clear h
  simp only [Option.some.injEq, Prod.mk.injEq] at H
  obtain ⟨rfl, rfl, rfl⟩ := H
  go_enter Try.func61, Try.ntmps61
  go_wp2
  go_ret3
  exact ⟨by first | rfl | (simp; done) | (simp [*]; done), by repeat (first | exact Drawn0.refl _ | apply Drawn0.step)⟩

end Go.Proofs.Ytgmdoapedhppmaa.PC

/- Proofs that functions of the program come to what plain Lean functions say; made by wip/drive.py. -/
namespace Go.Proofs.Ytgmdoapedhppmaa.PC
set_option linter.unusedVariables false
set_option linter.unusedSimpArgs false
open Go.RowKit Go.Proofs.YtgmdoapedhppmaaW.PrintWords Go.Proofs.YtgmdoapedhppmaaW.PrintLast Go.Proofs.YtgmdoapedhppmaaW.PrintMore
attribute [local go_sem] max2_int min2_int max_two min_two max_three min_three max_four min_four   -- for this text's walks alone
set_option linter.unusedVariables false
set_option linter.unusedSimpArgs false

/-! ### cmp_isNaN_uint64: function 68 -/
def cmp_isNaN_uint64.f (a0 : Int) : Option (Bool) := some (a0 != a0)
set_option maxHeartbeats 8000000 in
set_option maxRecDepth 100000 in
theorem cmp_isNaN_uint64.calls (a0 : Int) (r : Bool) (w : World) (h : cmp_isNaN_uint64.f a0 = some r) :
    Calls Try.prog 68 #[.int .u64 a0] w fun e w' => e = .returned (.bool r) ∧ Drawn0 w w' := by
  have H : (some (a0 != a0)) = some r := h
  clear h
  obtain rfl := Option.some.inj H
  go_enter Try.func68, Try.ntmps68
  go_wp2
  go_ret
  exact ⟨by first | rfl | (simp; done) | (simp [*]; done), by repeat (first | exact Drawn0.refl _ | apply Drawn0.step)⟩

end Go.Proofs.Ytgmdoapedhppmaa.PC

/- Proofs that functions of the program come to what plain Lean functions say; made by wip/drive.py. -/
namespace Go.Proofs.Ytgmdoapedhppmaa.PC
set_option linter.unusedVariables false
set_option linter.unusedSimpArgs false
open Go.RowKit Go.Proofs.YtgmdoapedhppmaaW.PrintWords Go.Proofs.YtgmdoapedhppmaaW.PrintLast Go.Proofs.YtgmdoapedhppmaaW.PrintMore
attribute [local go_sem] max2_int min2_int max_two min_two max_three min_three max_four min_four   -- for this text's walks alone
set_option linter.unusedVariables false
set_option linter.unusedSimpArgs false

/-! ### cmp_Compare_uint64: function 41 -/
def cmp_Compare_uint64.f (a0 : Int) (a1 : Int) : Option (Int) := (cmp_isNaN_uint64.f a0).bind fun t764 => ((cmp_isNaN_uint64.f a1).bind fun t765 => (if t764 = true then (if t765 = true then (some 0) else (some (-1))) else (if t765 = true then (some 1) else (if a0 < a1 then (some (-1)) else (if a0 > a1 then (some 1) else (some 0))))))
set_option maxHeartbeats 8000000 in
set_option maxRecDepth 100000 in
theorem cmp_Compare_uint64.calls (a0 : Int) (a1 : Int) (r : Int) (w : World) (h : cmp_Compare_uint64.f a0 a1 = some r) :
    Calls Try.prog 41 #[.int .u64 a0, .int .u64 a1] w fun e w' => e = .returned (.int .i64 r) ∧ Drawn0 w w' := by
  have H : ((cmp_isNaN_uint64.f a0).bind fun t764 => ((cmp_isNaN_uint64.f a1).bind fun t765 => (if t764 = true then (if t765 = true then (some 0) else (some (-1))) else (if t765 = true then (some 1) else (if a0 < a1 then (some (-1)) else (if a0 > a1 then (some 1) else (some 0))))))) = some r := h
  clear h
  replace H := Option.bind_eq_some_iff.mp H
  obtain ⟨t764, A30, H⟩ := H
  replace H : ((cmp_isNaN_uint64.f a1).bind fun t765 => (if t764 = true then (if t765 = true then (some 0) else (some (-1))) else (if t765 = true then (some 1) else (if a0 < a1 then (some (-1)) else (if a0 > a1 then (some 1) else (some 0)))))) = some r := H
  have A3 := Aside0.mk A30
  clear A30
  replace H := Option.bind_eq_some_iff.mp H
  obtain ⟨t765, A40, H⟩ := H
  replace H : (if t764 = true then (if t765 = true then (some 0) else (some (-1))) else (if t765 = true then (some 1) else (if a0 < a1 then (some (-1)) else (if a0 > a1 then (some 1) else (some 0))))) = some r := H
  have A4 := Aside0.mk A40
  clear A40
  by_cases c5 : t764 = true
  · subst c5
    have H1 : (if t765 = true then (some 0) else (some (-1))) = some r := by rw [if_pos rfl] at H; exact H
    clear H
    have H := H1
    clear H1
    by_cases c6 : t765 = true
    · subst c6
      have H1 : (some 0) = some r := by rw [if_pos rfl] at H; exact H
      clear H
      have H := H1
      clear H1
      obtain rfl := Option.some.inj H
      go_enter Try.func41, Try.ntmps41
      go_wp2_with (first | ((with_reducible refine gate_callee (f := 68) rfl ?_); refine goesL_ (some 8) rfl rfl Try.func68 (by kernel_rfl) rfl #[.int .u64 a0] rfl (by (try simp only [List.map_toArray, List.map_cons, List.map_nil]); first | done | rfl | (simp only [List.length_drop, List.length_take]; rfl) | (rw [IntKind.wrap_u64, Int.emod_eq_of_lt (by omega) (by omega)]; rfl)) ?_; (with_reducible refine (cmp_isNaN_uint64.calls a0 true _ A3.out).mono ?_); rintro e w' ⟨rfl, ⟨nd, rfl⟩⟩; refine ⟨_, rfl, ?_⟩) | ((with_reducible refine gate_callee (f := 68) rfl ?_); refine goesL_ (some 10) rfl rfl Try.func68 (by kernel_rfl) rfl #[.int .u64 a1] rfl (by (try simp only [List.map_toArray, List.map_cons, List.map_nil]); first | done | rfl | (simp only [List.length_drop, List.length_take]; rfl) | (rw [IntKind.wrap_u64, Int.emod_eq_of_lt (by omega) (by omega)]; rfl)) ?_; (with_reducible refine (cmp_isNaN_uint64.calls a1 true _ A4.out).mono ?_); rintro e w' ⟨rfl, ⟨nd, rfl⟩⟩; refine ⟨_, rfl, ?_⟩))
      go_ret
      exact ⟨by first | rfl | (simp; done) | (simp [*]; done), by repeat (first | exact Drawn0.refl _ | apply Drawn0.step)⟩
    · replace c6 := Bool.eq_false_iff.mpr c6
      subst c6
      have H1 : (some (-1)) = some r := by rw [if_neg (show ¬ (false = true) by decide)] at H; exact H
      clear H
      have H := H1
      clear H1
      obtain rfl := Option.some.inj H
      go_enter Try.func41, Try.ntmps41
      go_wp2_with (first | ((with_reducible refine gate_callee (f := 68) rfl ?_); refine goesL_ (some 8) rfl rfl Try.func68 (by kernel_rfl) rfl #[.int .u64 a0] rfl (by (try simp only [List.map_toArray, List.map_cons, List.map_nil]); first | done | rfl | (simp only [List.length_drop, List.length_take]; rfl) | (rw [IntKind.wrap_u64, Int.emod_eq_of_lt (by omega) (by omega)]; rfl)) ?_; (with_reducible refine (cmp_isNaN_uint64.calls a0 true _ A3.out).mono ?_); rintro e w' ⟨rfl, ⟨nd, rfl⟩⟩; refine ⟨_, rfl, ?_⟩) | ((with_reducible refine gate_callee (f := 68) rfl ?_); refine goesL_ (some 10) rfl rfl Try.func68 (by kernel_rfl) rfl #[.int .u64 a1] rfl (by (try simp only [List.map_toArray, List.map_cons, List.map_nil]); first | done | rfl | (simp only [List.length_drop, List.length_take]; rfl) | (rw [IntKind.wrap_u64, Int.emod_eq_of_lt (by omega) (by omega)]; rfl)) ?_; (with_reducible refine (cmp_isNaN_uint64.calls a1 false _ A4.out).mono ?_); rintro e w' ⟨rfl, ⟨nd, rfl⟩⟩; refine ⟨_, rfl, ?_⟩))
      go_ret
      exact ⟨by first | rfl | (simp; done) | (simp [*]; done), by repeat (first | exact Drawn0.refl _ | apply Drawn0.step)⟩
  · replace c5 := Bool.eq_false_iff.mpr c5
    subst c5
    have H1 : (if t765 = true then (some 1) else (if a0 < a1 then (some (-1)) else (if a0 > a1 then (some 1) else (some 0)))) = some r := by rw [if_neg (show ¬ (false = true) by decide)] at H; exact H
    clear H
    have H := H1
    clear H1
    by_cases c7 : t765 = true
    · subst c7
      have H1 : (some 1) = some r := by rw [if_pos rfl] at H; exact H
      clear H
      have H := H1
      clear H1
      obtain rfl := Option.some.inj H
      go_enter Try.func41, Try.ntmps41
      go_wp2_with (first | ((with_reducible refine gate_callee (f := 68) rfl ?_); refine goesL_ (some 8) rfl rfl Try.func68 (by kernel_rfl) rfl #[.int .u64 a0] rfl (by (try simp only [List.map_toArray, List.map_cons, List.map_nil]); first | done | rfl | (simp only [List.length_drop, List.length_take]; rfl) | (rw [IntKind.wrap_u64, Int.emod_eq_of_lt (by omega) (by omega)]; rfl)) ?_; (with_reducible refine (cmp_isNaN_uint64.calls a0 false _ A3.out).mono ?_); rintro e w' ⟨rfl, ⟨nd, rfl⟩⟩; refine ⟨_, rfl, ?_⟩) | ((with_reducible refine gate_callee (f := 68) rfl ?_); refine goesL_ (some 10) rfl rfl Try.func68 (by kernel_rfl) rfl #[.int .u64 a1] rfl (by (try simp only [List.map_toArray, List.map_cons, List.map_nil]); first | done | rfl | (simp only [List.length_drop, List.length_take]; rfl) | (rw [IntKind.wrap_u64, Int.emod_eq_of_lt (by omega) (by omega)]; rfl)) ?_; (with_reducible refine (cmp_isNaN_uint64.calls a1 true _ A4.out).mono ?_); rintro e w' ⟨rfl, ⟨nd, rfl⟩⟩; refine ⟨_, rfl, ?_⟩))
      go_ret
      exact ⟨by first | rfl | (simp; done) | (simp [*]; done), by repeat (first | exact Drawn0.refl _ | apply Drawn0.step)⟩
    · replace c7 := Bool.eq_false_iff.mpr c7
      subst c7
      have H1 : (if a0 < a1 then (some (-1)) else (if a0 > a1 then (some 1) else (some 0))) = some r := by rw [if_neg (show ¬ (false = true) by decide)] at H; exact H
      clear H
      have H := H1
      clear H1
      by_cases c8 : a0 < a1
      · rw [if_pos c8] at H
        have c8b0 : decide (a0 < a1) = true := decide_eq_true c8
        clear c8
        obtain rfl := Option.some.inj H
        go_enter Try.func41, Try.ntmps41
        go_wp2_with (first | ((with_reducible refine gate_callee (f := 68) rfl ?_); refine goesL_ (some 8) rfl rfl Try.func68 (by kernel_rfl) rfl #[.int .u64 a0] rfl (by (try simp only [List.map_toArray, List.map_cons, List.map_nil]); first | done | rfl | (simp only [List.length_drop, List.length_take]; rfl) | (rw [IntKind.wrap_u64, Int.emod_eq_of_lt (by omega) (by omega)]; rfl)) ?_; (with_reducible refine (cmp_isNaN_uint64.calls a0 false _ A3.out).mono ?_); rintro e w' ⟨rfl, ⟨nd, rfl⟩⟩; refine ⟨_, rfl, ?_⟩) | ((with_reducible refine gate_callee (f := 68) rfl ?_); refine goesL_ (some 10) rfl rfl Try.func68 (by kernel_rfl) rfl #[.int .u64 a1] rfl (by (try simp only [List.map_toArray, List.map_cons, List.map_nil]); first | done | rfl | (simp only [List.length_drop, List.length_take]; rfl) | (rw [IntKind.wrap_u64, Int.emod_eq_of_lt (by omega) (by omega)]; rfl)) ?_; (with_reducible refine (cmp_isNaN_uint64.calls a1 false _ A4.out).mono ?_); rintro e w' ⟨rfl, ⟨nd, rfl⟩⟩; refine ⟨_, rfl, ?_⟩))
        go_ret
        exact ⟨by first | rfl | (simp; done) | (simp [*]; done), by repeat (first | exact Drawn0.refl _ | apply Drawn0.step)⟩
      · rw [if_neg c8] at H
        have c8b0 : decide (a0 < a1) = false := decide_eq_false c8
        clear c8
        by_cases c9 : a0 > a1
        · rw [if_pos c9] at H
          have c9b0 : decide (a1 < a0) = true := decide_eq_true c9
          clear c9
          obtain rfl := Option.some.inj H
          go_enter Try.func41, Try.ntmps41
          go_wp2_with (first | ((with_reducible refine gate_callee (f := 68) rfl ?_); refine goesL_ (some 8) rfl rfl Try.func68 (by kernel_rfl) rfl #[.int .u64 a0] rfl (by (try simp only [List.map_toArray, List.map_cons, List.map_nil]); first | done | rfl | (simp only [List.length_drop, List.length_take]; rfl) | (rw [IntKind.wrap_u64, Int.emod_eq_of_lt (by omega) (by omega)]; rfl)) ?_; (with_reducible refine (cmp_isNaN_uint64.calls a0 false _ A3.out).mono ?_); rintro e w' ⟨rfl, ⟨nd, rfl⟩⟩; refine ⟨_, rfl, ?_⟩) | ((with_reducible refine gate_callee (f := 68) rfl ?_); refine goesL_ (some 10) rfl rfl Try.func68 (by kernel_rfl) rfl #[.int .u64 a1] rfl (by (try simp only [List.map_toArray, List.map_cons, List.map_nil]); first | done | rfl | (simp only [List.length_drop, List.length_take]; rfl) | (rw [IntKind.wrap_u64, Int.emod_eq_of_lt (by omega) (by omega)]; rfl)) ?_; (with_reducible refine (cmp_isNaN_uint64.calls a1 false _ A4.out).mono ?_); rintro e w' ⟨rfl, ⟨nd, rfl⟩⟩; refine ⟨_, rfl, ?_⟩))
          go_ret
          exact ⟨by first | rfl | (simp; done) | (simp [*]; done), by repeat (first | exact Drawn0.refl _ | apply Drawn0.step)⟩
        · rw [if_neg c9] at H
          have c9b0 : decide (a1 < a0) = false := decide_eq_false c9
          clear c9
          obtain rfl := Option.some.inj H
          go_enter Try.func41, Try.ntmps41
          go_wp2_with (first | ((with_reducible refine gate_callee (f := 68) rfl ?_); refine goesL_ (some 8) rfl rfl Try.func68 (by kernel_rfl) rfl #[.int .u64 a0] rfl (by (try simp only [List.map_toArray, List.map_cons, List.map_nil]); first | done | rfl | (simp only [List.length_drop, List.length_take]; rfl) | (rw [IntKind.wrap_u64, Int.emod_eq_of_lt (by omega) (by omega)]; rfl)) ?_; (with_reducible refine (cmp_isNaN_uint64.calls a0 false _ A3.out).mono ?_); rintro e w' ⟨rfl, ⟨nd, rfl⟩⟩; refine ⟨_, rfl, ?_⟩) | ((with_reducible refine gate_callee (f := 68) rfl ?_); refine goesL_ (some 10) rfl rfl Try.func68 (by kernel_rfl) rfl #[.int .u64 a1] rfl (by (try simp only [List.map_toArray, List.map_cons, List.map_nil]); first | done | rfl | (simp only [List.length_drop, List.length_take]; rfl) | (rw [IntKind.wrap_u64, Int.emod_eq_of_lt (by omega) (by omega)]; rfl)) ?_; (with_reducible refine (cmp_isNaN_uint64.calls a1 false _ A4.out).mono ?_); rintro e w' ⟨rfl, ⟨nd, rfl⟩⟩; refine ⟨_, rfl, ?_⟩))
          go_ret
          exact ⟨by first | rfl | (simp; done) | (simp [*]; done), by repeat (first | exact Drawn0.refl _ | apply Drawn0.step)⟩

end Go.Proofs.Ytgmdoapedhppmaa.PC

/- Proofs that functions of the program come to what plain Lean functions say; made by wip/drive.py. -/
namespace Go.Proofs.Ytgmdoapedhppmaa.PC
set_option linter.unusedVariables false
set_option linter.unusedSimpArgs false
open Go.RowKit Go.Proofs.YtgmdoapedhppmaaW.PrintWords Go.Proofs.YtgmdoapedhppmaaW.PrintLast Go.Proofs.YtgmdoapedhppmaaW.PrintMore
attribute [local go_sem] max2_int min2_int max_two min_two max_three min_three max_four min_four   -- for this text's walks alone
set_option linter.unusedVariables false
set_option linter.unusedSimpArgs false

/-! ### codec_Right_2: function 40 -/
def codec_Right_2.f (a0_0 : Int) (l0_1 : List (S50)) (a1_0 : Int) (l1_1 : List (S50)) : Option (Int) := (cmp_Compare_uint64.f a0_0 a1_0).bind fun t768 => (some t768)
set_option maxHeartbeats 8000000 in
set_option maxRecDepth 100000 in
theorem codec_Right_2.calls (a0_0 : Int) (A0_1 : Option Addr) (c0_1 : Nat) (l0_1 : List (S50)) (a1_0 : Int) (A1_1 : Option Addr) (c1_1 : Nat) (l1_1 : List (S50)) (r : Int) (w : World) (hr0_1 : Kd.C k50 w A0_1 l0_1.length l0_1) (hc0_1 : l0_1.length ≤ c0_1) (hr1_1 : Kd.C k50 w A1_1 l1_1.length l1_1) (hc1_1 : l1_1.length ≤ c1_1) (h : codec_Right_2.f a0_0 l0_1 a1_0 l1_1 = some r) :
    Calls Try.prog 40 #[.agg #[.int .u64 a0_0, .slice A0_1 l0_1.length c0_1], .agg #[.int .u64 a1_0, .slice A1_1 l1_1.length c1_1]] w fun e w' => e = .returned (.int .i64 r) ∧ Below w.heap.size w w' := by
  have hu47 := Try.underlying47
  have HR0_1 := Aside0.mk hr0_1
  have HC0_1 := Aside0.mk hc0_1
  clear hr0_1 hc0_1
  have HR1_1 := Aside0.mk hr1_1
  have HC1_1 := Aside0.mk hc1_1
  clear hr1_1 hc1_1
  have HB := Aside0.mk (Below.refl w.heap.size w)
  have H : ((cmp_Compare_uint64.f a0_0 a1_0).bind fun t768 => (some t768)) = some r := h
  clear h
  replace H := Option.bind_eq_some_iff.mp H
  obtain ⟨t768, A30, H⟩ := H
  replace H : (some t768) = some r := H
  have A3 := Aside0.mk A30
  clear A30
  obtain rfl := Option.some.inj H
  go_enter Try.func40, Try.ntmps40
  go_wp2_with (first | ((with_reducible refine gate_dst (N := 2) rfl ?_); refine box_event ?hg (N := 2) ?hd (cs := #[.int .u64 a0_0, .slice A0_1 l0_1.length c0_1]) (t := 47) ?hr ?_; (case hd => rfl); (case hg => rfl); (case hr => first | (go_simp; done) | (go_simp; rfl)); intro gb766 hg w4 hbox hb; have n0_ := Aside0.mk (below_step (by repeat (first | (with_reducible first | exact HB.out | apply below_alloc | apply pw_below_drewN | apply below_drew1) | exact HB.out)) hb); have n1_ := Aside0.mk (hbox); have n2_ := Aside0.mk ((by rw [hg]; exact (below_size (by repeat (first | (with_reducible first | exact HB.out | apply below_alloc | apply pw_below_drewN | apply below_drew1) | exact HB.out))) : w.heap.size ≤ gb766)); have n3_ := Aside0.mk ((by rw [hg]; exact (below_size (by repeat (first | (with_reducible first | exact HB.out | apply below_alloc | apply pw_below_drewN | apply below_drew1) | exact HB.out))) : w.heap.size ≤ gb766)); clear HB; have HB := n0_; have BK766 := n1_; have GW766 := n2_; have GE766 := n3_; clear n0_ n1_ n2_ n3_; clear hb hbox hg) | ((with_reducible refine gate_dst (N := 3) rfl ?_); refine box_event ?hg (N := 3) ?hd (cs := #[.int .u64 a1_0, .slice A1_1 l1_1.length c1_1]) (t := 47) ?hr ?_; (case hd => rfl); (case hg => rfl); (case hr => first | (go_simp; done) | (go_simp; rfl)); intro gb767 hg w5 hbox hb; have n0_ := Aside0.mk (blk_below (g := gb766) (o := .cells #[.int .u64 a0_0, .slice A0_1 l0_1.length c0_1] 47 (0, 0)) (by (with_reducible repeat (first | refine blk_drewN ?_ _ | refine blk_drew ?_ | refine blk_alloc ?_ _)); exact BK766.out) hb); have n1_ := Aside0.mk (below_step (by repeat (first | (with_reducible first | exact HB.out | apply below_alloc | apply pw_below_drewN | apply below_drew1 | refine below_set ?_ GE766.out) | exact HB.out)) hb); have n2_ := Aside0.mk (hbox); have n3_ := Aside0.mk ((by rw [hg]; exact (below_size (by repeat (first | (with_reducible first | exact HB.out | apply below_alloc | apply pw_below_drewN | apply below_drew1 | refine below_set ?_ GE766.out) | exact HB.out))) : w.heap.size ≤ gb767)); have n4_ := Aside0.mk ((by rw [hg]; exact (below_size (by repeat (first | (with_reducible first | exact HB.out | apply below_alloc | apply pw_below_drewN | apply below_drew1 | refine below_set ?_ GE766.out) | exact HB.out))) : w.heap.size ≤ gb767)); have n5_ := Aside0.mk ((by rw [hg]; exact Nat.ne_of_lt (blk_lt (g := gb766) (o := .cells #[.int .u64 a0_0, .slice A0_1 l0_1.length c0_1] 47 (0, 0)) (by (with_reducible repeat (first | refine blk_drewN ?_ _ | refine blk_drew ?_ | refine blk_alloc ?_ _)); exact BK766.out)) : gb766 ≠ gb767)); have n6_ := Aside0.mk ((by rw [hg]; exact Nat.ne_of_gt (blk_lt (g := gb766) (o := .cells #[.int .u64 a0_0, .slice A0_1 l0_1.length c0_1] 47 (0, 0)) (by (with_reducible repeat (first | refine blk_drewN ?_ _ | refine blk_drew ?_ | refine blk_alloc ?_ _)); exact BK766.out)) : gb767 ≠ gb766)); clear BK766; clear HB; have BK766 := n0_; have HB := n1_; have BK767 := n2_; have GW767 := n3_; have GE767 := n4_; have NB766_767 := n5_; have NB767_766 := n6_; clear n0_ n1_ n2_ n3_ n4_ n5_ n6_; clear hb hbox hg; have hnb6 := NB766_767.out; have hnc6 := NB767_766.out; have hcz7_0 : w5.cell? ⟨gb766, 0, none⟩ = some (.int .u64 a0_0) := (blk_cell BK766.out 0).trans rfl; have hcz7_1 : w5.cell? ⟨gb766, 1, none⟩ = some (.slice A0_1 l0_1.length c0_1) := (blk_cell BK766.out 1).trans rfl; have hfz7_0 := blk_frozen BK766.out 0; have hfz7_1 := blk_frozen BK766.out 1; have hcz8_0 : w5.cell? ⟨gb767, 0, none⟩ = some (.int .u64 a1_0) := (blk_cell BK767.out 0).trans rfl; have hcz8_1 : w5.cell? ⟨gb767, 1, none⟩ = some (.slice A1_1 l1_1.length c1_1) := (blk_cell BK767.out 1).trans rfl; have hfz8_0 := blk_frozen BK767.out 0; have hfz8_1 := blk_frozen BK767.out 1) | ((with_reducible refine gate_callee (f := 41) rfl ?_); refine goesL_ (some 9) rfl rfl Try.func41 (by kernel_rfl) rfl #[.int .u64 a0_0, .int .u64 a1_0] rfl (by (try simp only [List.map_toArray, List.map_cons, List.map_nil]); first | done | rfl | (simp only [List.length_drop, List.length_take]; rfl) | (rw [IntKind.wrap_u64, Int.emod_eq_of_lt (by omega) (by omega)]; rfl)) ?_; (with_reducible refine (cmp_Compare_uint64.calls a0_0 a1_0 t768 _ A3.out).mono ?_); rintro e w' ⟨rfl, ⟨nd, rfl⟩⟩; refine ⟨_, rfl, ?_⟩))
  go_ret
  exact ⟨by first | rfl | (simp [errW_none, errW_some] <;> rfl) | (simp [*, errW_none, errW_some] <;> rfl), by repeat (first | (with_reducible first | exact HB.out | apply below_alloc | apply pw_below_drewN | apply below_drew1 | refine below_set ?_ GE766.out | refine below_set ?_ GE767.out) | exact HB.out)⟩

end Go.Proofs.Ytgmdoapedhppmaa.PC

/- Proofs that functions of the program come to what plain Lean functions say; made by wip/drive.py. -/
namespace Go.Proofs.Ytgmdoapedhppmaa.PC
set_option linter.unusedVariables false
set_option linter.unusedSimpArgs false
open Go.RowKit Go.Proofs.YtgmdoapedhppmaaW.PrintWords Go.Proofs.YtgmdoapedhppmaaW.PrintLast Go.Proofs.YtgmdoapedhppmaaW.PrintMore
attribute [local go_sem] max2_int min2_int max_two min_two max_three min_three max_four min_four   -- for this text's walks alone
set_option linter.unusedVariables false
set_option linter.unusedSimpArgs false

/-! ### cmp_Or_int: function 70 -/
def cmp_Or_int.l0 : Nat → Int → List Int → Int → Int → Option (Int)
  | 0, _, _, _, _ => none
  | k + 1, x3, x6, x7, x8 => if x8 < x7 then (if 0 ≤ x8 then (if x8 < (x6.length : Int) then (if (rd x6 x8) = x3 then (cmp_Or_int.l0 k x3 x6 x7 (wrap64 (x8 + 1))) else (some (rd x6 x8))) else (none)) else (none)) else (some x3)
def cmp_Or_int.f (k : Nat) (l0 : List Int) : Option (Int) := cmp_Or_int.l0 k 0 l0 (l0.length : Int) 0
theorem cmp_Or_int.mono_l : ∀ k, (∀ y0 y1 y2 y3, LeO (cmp_Or_int.l0 k y0 y1 y2 y3) (cmp_Or_int.l0 (k + 1) y0 y1 y2 y3))
  | 0 => fun _ _ _ _ r h => by simp [cmp_Or_int.l0] at h
  | k + 1 => by
    have ih0 := cmp_Or_int.mono_l k
    · intro y0 y1 y2 y3
      unfold cmp_Or_int.l0
      repeat' first
      | (with_reducible exact ih0 _ _ _ _)
      | (with_reducible exact LeO.refl _)
      | (with_reducible exact LeO.none _)
      | (with_reducible refine LeO.ite ?_ ?_)
      | (with_reducible refine LeO.bind ?_ (fun _ => ?_))
      | exact ih0 _ _ _ _
      | exact LeO.none _
      | refine LeO.ite ?_ ?_
      | refine LeO.bind ?_ (fun _ => ?_)
theorem cmp_Or_int.mono : ∀ a0 k, LeO (cmp_Or_int.f k a0) (cmp_Or_int.f (k + 1) a0) := by
  intro a0 k
  have ih0 := cmp_Or_int.mono_l k
  unfold cmp_Or_int.f
  repeat' first
      | (with_reducible exact ih0 _ _ _ _)
      | (with_reducible exact LeO.refl _)
      | (with_reducible exact LeO.none _)
      | (with_reducible refine LeO.ite ?_ ?_)
      | (with_reducible refine LeO.bind ?_ (fun _ => ?_))
      | exact ih0 _ _ _ _
      | exact LeO.none _
      | refine LeO.ite ?_ ?_
      | refine LeO.bind ?_ (fun _ => ?_)
set_option maxHeartbeats 8000000 in
set_option maxRecDepth 100000 in
theorem cmp_Or_int.calls (k : Nat) (A0 : Option Addr) (c0 : Nat) (l0 : List Int) (r : Int) (w : World) (hr0 : Kd.C (Kd.int .i64) w A0 l0.length l0) (hc0 : l0.length ≤ c0) (h : cmp_Or_int.f k l0 = some r) :
    Calls Try.prog 70 #[.slice A0 l0.length c0] w fun e w' => e = .returned (.int .i64 r) ∧ Drawn0 w w' := by
  have HR0 := Aside0.mk hr0
  have HC0 := Aside0.mk hc0
  clear hr0 hc0
  have H : (cmp_Or_int.l0 k 0 l0 (l0.length : Int) 0) = some r := h
  clear h
  have H' := Aside0.mk H
  clear H
  go_enter Try.func70, Try.ntmps70
  go_wp2
  go_loopg [8] k (fun kq v8 w' => ∃ (x8_1 : Int), v8 = .int .i64 x8_1 ∧ Aside0 (cmp_Or_int.l0 kq 0 l0 (l0.length : Int) x8_1 = some r) ∧ Aside0 (kq ≤ k) ∧ Drawn0 w w')
  case atStart => exact ⟨(0), (by first | rfl | (simp; done) | (simp [*]; done)), H', ⟨Nat.le_refl _⟩, by repeat (first | exact Drawn0.refl _ | apply Drawn0.step)⟩
  case round =>
    clear H'
    obtain ⟨x8_1, rfl, HA, HK1, ⟨m1, rfl⟩⟩ := hrel
    cases gk with
    | zero => exact absurd HA.out (by simp [cmp_Or_int.l0])
    | succ k1 =>
      have H := HA.out
      clear HA
      simp only [cmp_Or_int.l0] at H
      by_cases c2 : x8_1 < (l0.length : Int)
      · rw [if_pos c2] at H
        have c2b0 : decide (x8_1 < (l0.length : Int)) = true := decide_eq_true c2
        clear c2
        by_cases c3 : 0 ≤ x8_1
        · rw [if_pos c3] at H
          have c3b0 : decide (0 ≤ x8_1) = true := decide_eq_true c3
          clear c3
          by_cases c4 : x8_1 < (l0.length : Int)
          · rw [if_pos c4] at H
            have c4b0 : decide (x8_1 < (l0.length : Int)) = true := decide_eq_true c4
            clear c4
            by_cases c5 : (rd l0 x8_1) = 0
            · rw [if_pos c5] at H
              have c5b0 : ((rd l0 x8_1) == 0) = true := beq_iff_eq.mpr c5
              have c5b1 : ((rd l0 x8_1) != 0) = false := bne_eq_false_iff_eq.mpr c5
              clear c5
              have H' := Aside0.mk H
              clear H
              have p161 : 0 ≤ (x8_1 : Int) := of_decide_eq_true (by first | (with_reducible assumption) | assumption)
              have q161 : x8_1 < (l0.length : Int) := of_decide_eq_true (by first | (with_reducible assumption) | assumption)
              obtain ⟨ad161, e161, hx161_0⟩ := Kd.at_int HR0.out x8_1 p161 q161
              cases e161
              replace p161 := eq_true p161
              replace q161 := eq_true q161
              go_wp2
              go_roundg k1
              case measure => have := HK1.out; omega
              case rel => exact ⟨(wrap64 (x8_1 + 1)), (by first | rfl | (simp; done) | (simp [*]; done)), H', ⟨by have := HK1.out; omega⟩, by repeat (first | exact Drawn0.refl _ | apply Drawn0.step)⟩
            · rw [if_neg c5] at H
              have c5b0 : ((rd l0 x8_1) == 0) = false := beq_eq_false_iff_ne.mpr c5
              have c5b1 : ((rd l0 x8_1) != 0) = true := bne_iff_ne.mpr c5
              obtain rfl := Option.some.inj H
              have p161 : 0 ≤ (x8_1 : Int) := of_decide_eq_true (by first | (with_reducible assumption) | assumption)
              have q161 : x8_1 < (l0.length : Int) := of_decide_eq_true (by first | (with_reducible assumption) | assumption)
              obtain ⟨ad161, e161, hx161_0⟩ := Kd.at_int HR0.out x8_1 p161 q161
              cases e161
              replace p161 := eq_true p161
              replace q161 := eq_true q161
              go_wp2
              go_ret
              exact ⟨by first | rfl | (simp; done) | (simp [*]; done), by repeat (first | exact Drawn0.refl _ | apply Drawn0.step)⟩
          · rw [if_neg c4] at H
            exact absurd H (by simp)
        · rw [if_neg c3] at H
          exact absurd H (by simp)
      · rw [if_neg c2] at H
        have c2b0 : decide (x8_1 < (l0.length : Int)) = false := decide_eq_false c2
        clear c2
        obtain rfl := Option.some.inj H
        go_wp2
        go_ret
        exact ⟨by first | rfl | (simp; done) | (simp [*]; done), by repeat (first | exact Drawn0.refl _ | apply Drawn0.step)⟩

end Go.Proofs.Ytgmdoapedhppmaa.PC

/- Proofs that functions of the program come to what plain Lean functions say; made by wip/drive.py. -/
namespace Go.Proofs.Ytgmdoapedhppmaa.PC
set_option linter.unusedVariables false
set_option linter.unusedSimpArgs false
open Go.RowKit Go.Proofs.YtgmdoapedhppmaaW.PrintWords Go.Proofs.YtgmdoapedhppmaaW.PrintLast Go.Proofs.YtgmdoapedhppmaaW.PrintMore
attribute [local go_sem] max2_int min2_int max_two min_two max_three min_three max_four min_four   -- for this text's walks alone
set_option linter.unusedVariables false
set_option linter.unusedSimpArgs false

/-! ### cmp_isNaN_uint8: function 81 -/
def cmp_isNaN_uint8.f (a0 : Int) : Option (Bool) := some (a0 != a0)
set_option maxHeartbeats 8000000 in
set_option maxRecDepth 100000 in
theorem cmp_isNaN_uint8.calls (a0 : Int) (r : Bool) (w : World) (h : cmp_isNaN_uint8.f a0 = some r) :
    Calls Try.prog 81 #[.int .u8 a0] w fun e w' => e = .returned (.bool r) ∧ Drawn0 w w' := by
  have H : (some (a0 != a0)) = some r := h
  clear h
  obtain rfl := Option.some.inj H
  go_enter Try.func81, Try.ntmps81
  go_wp2
  go_ret
  exact ⟨by first | rfl | (simp; done) | (simp [*]; done), by repeat (first | exact Drawn0.refl _ | apply Drawn0.step)⟩

end Go.Proofs.Ytgmdoapedhppmaa.PC

/- Proofs that functions of the program come to what plain Lean functions say; made by wip/drive.py. -/
namespace Go.Proofs.Ytgmdoapedhppmaa.PC
set_option linter.unusedVariables false
set_option linter.unusedSimpArgs false
open Go.RowKit Go.Proofs.YtgmdoapedhppmaaW.PrintWords Go.Proofs.YtgmdoapedhppmaaW.PrintLast Go.Proofs.YtgmdoapedhppmaaW.PrintMore
attribute [local go_sem] max2_int min2_int max_two min_two max_three min_three max_four min_four   -- for this text's walks alone
set_option linter.unusedVariables false
set_option linter.unusedSimpArgs false

/-! ### cmp_Compare_uint8: function 71 -/
def cmp_Compare_uint8.f (a0 : Int) (a1 : Int) : Option (Int) := (cmp_isNaN_uint8.f a0).bind fun t162 => ((cmp_isNaN_uint8.f a1).bind fun t163 => (if t162 = true then (if t163 = true then (some 0) else (some (-1))) else (if t163 = true then (some 1) else (if a0 < a1 then (some (-1)) else (if a0 > a1 then (some 1) else (some 0))))))
set_option maxHeartbeats 8000000 in
set_option maxRecDepth 100000 in
theorem cmp_Compare_uint8.calls (a0 : Int) (a1 : Int) (r : Int) (w : World) (h : cmp_Compare_uint8.f a0 a1 = some r) :
    Calls Try.prog 71 #[.int .u8 a0, .int .u8 a1] w fun e w' => e = .returned (.int .i64 r) ∧ Drawn0 w w' := by
  have H : ((cmp_isNaN_uint8.f a0).bind fun t162 => ((cmp_isNaN_uint8.f a1).bind fun t163 => (if t162 = true then (if t163 = true then (some 0) else (some (-1))) else (if t163 = true then (some 1) else (if a0 < a1 then (some (-1)) else (if a0 > a1 then (some 1) else (some 0))))))) = some r := h
  clear h
  replace H := Option.bind_eq_some_iff.mp H
  obtain ⟨t162, A30, H⟩ := H
  replace H : ((cmp_isNaN_uint8.f a1).bind fun t163 => (if t162 = true then (if t163 = true then (some 0) else (some (-1))) else (if t163 = true then (some 1) else (if a0 < a1 then (some (-1)) else (if a0 > a1 then (some 1) else (some 0)))))) = some r := H
  have A3 := Aside0.mk A30
  clear A30
  replace H := Option.bind_eq_some_iff.mp H
  obtain ⟨t163, A40, H⟩ := H
  replace H : (if t162 = true then (if t163 = true then (some 0) else (some (-1))) else (if t163 = true then (some 1) else (if a0 < a1 then (some (-1)) else (if a0 > a1 then (some 1) else (some 0))))) = some r := H
  have A4 := Aside0.mk A40
  clear A40
  by_cases c5 : t162 = true
  · subst c5
    have H1 : (if t163 = true then (some 0) else (some (-1))) = some r := by rw [if_pos rfl] at H; exact H
    clear H
    have H := H1
    clear H1
    by_cases c6 : t163 = true
    · subst c6
      have H1 : (some 0) = some r := by rw [if_pos rfl] at H; exact H
      clear H
      have H := H1
      clear H1
      obtain rfl := Option.some.inj H
      go_enter Try.func71, Try.ntmps71
      go_wp2_with (first | ((with_reducible refine gate_callee (f := 81) rfl ?_); refine goesL_ (some 8) rfl rfl Try.func81 (by kernel_rfl) rfl #[.int .u8 a0] rfl (by (try simp only [List.map_toArray, List.map_cons, List.map_nil]); first | done | rfl | (simp only [List.length_drop, List.length_take]; rfl) | (rw [IntKind.wrap_u64, Int.emod_eq_of_lt (by omega) (by omega)]; rfl)) ?_; (with_reducible refine (cmp_isNaN_uint8.calls a0 true _ A3.out).mono ?_); rintro e w' ⟨rfl, ⟨nd, rfl⟩⟩; refine ⟨_, rfl, ?_⟩) | ((with_reducible refine gate_callee (f := 81) rfl ?_); refine goesL_ (some 10) rfl rfl Try.func81 (by kernel_rfl) rfl #[.int .u8 a1] rfl (by (try simp only [List.map_toArray, List.map_cons, List.map_nil]); first | done | rfl | (simp only [List.length_drop, List.length_take]; rfl) | (rw [IntKind.wrap_u64, Int.emod_eq_of_lt (by omega) (by omega)]; rfl)) ?_; (with_reducible refine (cmp_isNaN_uint8.calls a1 true _ A4.out).mono ?_); rintro e w' ⟨rfl, ⟨nd, rfl⟩⟩; refine ⟨_, rfl, ?_⟩))
      go_ret
      exact ⟨by first | rfl | (simp; done) | (simp [*]; done), by repeat (first | exact Drawn0.refl _ | apply Drawn0.step)⟩
    · replace c6 := Bool.eq_false_iff.mpr c6
      subst c6
      have H1 : (some (-1)) = some r := by rw [if_neg (show ¬ (false = true) by decide)] at H; exact H
      clear H
      have H := H1
      clear H1
      obtain rfl := Option.some.inj H
      go_enter Try.func71, Try.ntmps71
      go_wp2_with (first | ((with_reducible refine gate_callee (f := 81) rfl ?_); refine goesL_ (some 8) rfl rfl Try.func81 (by kernel_rfl) rfl #[.int .u8 a0] rfl (by (try simp only [List.map_toArray, List.map_cons, List.map_nil]); first | done | rfl | (simp only [List.length_drop, List.length_take]; rfl) | (rw [IntKind.wrap_u64, Int.emod_eq_of_lt (by omega) (by omega)]; rfl)) ?_; (with_reducible refine (cmp_isNaN_uint8.calls a0 true _ A3.out).mono ?_); rintro e w' ⟨rfl, ⟨nd, rfl⟩⟩; refine ⟨_, rfl, ?_⟩) | ((with_reducible refine gate_callee (f := 81) rfl ?_); refine goesL_ (some 10) rfl rfl Try.func81 (by kernel_rfl) rfl #[.int .u8 a1] rfl (by (try simp only [List.map_toArray, List.map_cons, List.map_nil]); first | done | rfl | (simp only [List.length_drop, List.length_take]; rfl) | (rw [IntKind.wrap_u64, Int.emod_eq_of_lt (by omega) (by omega)]; rfl)) ?_; (with_reducible refine (cmp_isNaN_uint8.calls a1 false _ A4.out).mono ?_); rintro e w' ⟨rfl, ⟨nd, rfl⟩⟩; refine ⟨_, rfl, ?_⟩))
      go_ret
      exact ⟨by first | rfl | (simp; done) | (simp [*]; done), by repeat (first | exact Drawn0.refl _ | apply Drawn0.step)⟩
  · replace c5 := Bool.eq_false_iff.mpr c5
    subst c5
    have H1 : (if t163 = true then (some 1) else (if a0 < a1 then (some (-1)) else (if a0 > a1 then (some 1) else (some 0)))) = some r := by rw [if_neg (show ¬ (false = true) by decide)] at H; exact H
    clear H
    have H := H1
    clear H1
    by_cases c7 : t163 = true
    · subst c7
      have H1 : (some 1) = some r := by rw [if_pos rfl] at H; exact H
      clear H
      have H := H1
      clear H1
      obtain rfl := Option.some.inj H
      go_enter Try.func71, Try.ntmps71
      go_wp2_with (first | ((with_reducible refine gate_callee (f := 81) rfl ?_); refine goesL_ (some 8) rfl rfl Try.func81 (by kernel_rfl) rfl #[.int .u8 a0] rfl (by (try simp only [List.map_toArray, List.map_cons, List.map_nil]); first | done | rfl | (simp only [List.length_drop, List.length_take]; rfl) | (rw [IntKind.wrap_u64, Int.emod_eq_of_lt (by omega) (by omega)]; rfl)) ?_; (with_reducible refine (cmp_isNaN_uint8.calls a0 false _ A3.out).mono ?_); rintro e w' ⟨rfl, ⟨nd, rfl⟩⟩; refine ⟨_, rfl, ?_⟩) | ((with_reducible refine gate_callee (f := 81) rfl ?_); refine goesL_ (some 10) rfl rfl Try.func81 (by kernel_rfl) rfl #[.int .u8 a1] rfl (by (try simp only [List.map_toArray, List.map_cons, List.map_nil]); first | done | rfl | (simp only [List.length_drop, List.length_take]; rfl) | (rw [IntKind.wrap_u64, Int.emod_eq_of_lt (by omega) (by omega)]; rfl)) ?_; (with_reducible refine (cmp_isNaN_uint8.calls a1 true _ A4.out).mono ?_); rintro e w' ⟨rfl, ⟨nd, rfl⟩⟩; refine ⟨_, rfl, ?_⟩))
      go_ret
      exact ⟨by first | rfl | (simp; done) | (simp [*]; done), by repeat (first | exact Drawn0.refl _ | apply Drawn0.step)⟩
    · replace c7 := Bool.eq_false_iff.mpr c7
      subst c7
      have H1 : (if a0 < a1 then (some (-1)) else (if a0 > a1 then (some 1) else (some 0))) = some r := by rw [if_neg (show ¬ (false = true) by decide)] at H; exact H
      clear H
      have H := H1
      clear H1
      by_cases c8 : a0 < a1
      · rw [if_pos c8] at H
        have c8b0 : decide (a0 < a1) = true := decide_eq_true c8
        clear c8
        obtain rfl := Option.some.inj H
        go_enter Try.func71, Try.ntmps71
        go_wp2_with (first | ((with_reducible refine gate_callee (f := 81) rfl ?_); refine goesL_ (some 8) rfl rfl Try.func81 (by kernel_rfl) rfl #[.int .u8 a0] rfl (by (try simp only [List.map_toArray, List.map_cons, List.map_nil]); first | done | rfl | (simp only [List.length_drop, List.length_take]; rfl) | (rw [IntKind.wrap_u64, Int.emod_eq_of_lt (by omega) (by omega)]; rfl)) ?_; (with_reducible refine (cmp_isNaN_uint8.calls a0 false _ A3.out).mono ?_); rintro e w' ⟨rfl, ⟨nd, rfl⟩⟩; refine ⟨_, rfl, ?_⟩) | ((with_reducible refine gate_callee (f := 81) rfl ?_); refine goesL_ (some 10) rfl rfl Try.func81 (by kernel_rfl) rfl #[.int .u8 a1] rfl (by (try simp only [List.map_toArray, List.map_cons, List.map_nil]); first | done | rfl | (simp only [List.length_drop, List.length_take]; rfl) | (rw [IntKind.wrap_u64, Int.emod_eq_of_lt (by omega) (by omega)]; rfl)) ?_; (with_reducible refine (cmp_isNaN_uint8.calls a1 false _ A4.out).mono ?_); rintro e w' ⟨rfl, ⟨nd, rfl⟩⟩; refine ⟨_, rfl, ?_⟩))
        go_ret
        exact ⟨by first | rfl | (simp; done) | (simp [*]; done), by repeat (first | exact Drawn0.refl _ | apply Drawn0.step)⟩
      · rw [if_neg c8] at H
        have c8b0 : decide (a0 < a1) = false := decide_eq_false c8
        clear c8
        by_cases c9 : a0 > a1
        · rw [if_pos c9] at H
          have c9b0 : decide (a1 < a0) = true := decide_eq_true c9
          clear c9
          obtain rfl := Option.some.inj H
          go_enter Try.func71, Try.ntmps71
          go_wp2_with (first | ((with_reducible refine gate_callee (f := 81) rfl ?_); refine goesL_ (some 8) rfl rfl Try.func81 (by kernel_rfl) rfl #[.int .u8 a0] rfl (by (try simp only [List.map_toArray, List.map_cons, List.map_nil]); first | done | rfl | (simp only [List.length_drop, List.length_take]; rfl) | (rw [IntKind.wrap_u64, Int.emod_eq_of_lt (by omega) (by omega)]; rfl)) ?_; (with_reducible refine (cmp_isNaN_uint8.calls a0 false _ A3.out).mono ?_); rintro e w' ⟨rfl, ⟨nd, rfl⟩⟩; refine ⟨_, rfl, ?_⟩) | ((with_reducible refine gate_callee (f := 81) rfl ?_); refine goesL_ (some 10) rfl rfl Try.func81 (by kernel_rfl) rfl #[.int .u8 a1] rfl (by (try simp only [List.map_toArray, List.map_cons, List.map_nil]); first | done | rfl | (simp only [List.length_drop, List.length_take]; rfl) | (rw [IntKind.wrap_u64, Int.emod_eq_of_lt (by omega) (by omega)]; rfl)) ?_; (with_reducible refine (cmp_isNaN_uint8.calls a1 false _ A4.out).mono ?_); rintro e w' ⟨rfl, ⟨nd, rfl⟩⟩; refine ⟨_, rfl, ?_⟩))
          go_ret
          exact ⟨by first | rfl | (simp; done) | (simp [*]; done), by repeat (first | exact Drawn0.refl _ | apply Drawn0.step)⟩
        · rw [if_neg c9] at H
          have c9b0 : decide (a1 < a0) = false := decide_eq_false c9
          clear c9
          obtain rfl := Option.some.inj H
          go_enter Try.func71, Try.ntmps71
          go_wp2_with (first | ((with_reducible refine gate_callee (f := 81) rfl ?_); refine goesL_ (some 8) rfl rfl Try.func81 (by kernel_rfl) rfl #[.int .u8 a0] rfl (by (try simp only [List.map_toArray, List.map_cons, List.map_nil]); first | done | rfl | (simp only [List.length_drop, List.length_take]; rfl) | (rw [IntKind.wrap_u64, Int.emod_eq_of_lt (by omega) (by omega)]; rfl)) ?_; (with_reducible refine (cmp_isNaN_uint8.calls a0 false _ A3.out).mono ?_); rintro e w' ⟨rfl, ⟨nd, rfl⟩⟩; refine ⟨_, rfl, ?_⟩) | ((with_reducible refine gate_callee (f := 81) rfl ?_); refine goesL_ (some 10) rfl rfl Try.func81 (by kernel_rfl) rfl #[.int .u8 a1] rfl (by (try simp only [List.map_toArray, List.map_cons, List.map_nil]); first | done | rfl | (simp only [List.length_drop, List.length_take]; rfl) | (rw [IntKind.wrap_u64, Int.emod_eq_of_lt (by omega) (by omega)]; rfl)) ?_; (with_reducible refine (cmp_isNaN_uint8.calls a1 false _ A4.out).mono ?_); rintro e w' ⟨rfl, ⟨nd, rfl⟩⟩; refine ⟨_, rfl, ?_⟩))
          go_ret
          exact ⟨by first | rfl | (simp; done) | (simp [*]; done), by repeat (first | exact Drawn0.refl _ | apply Drawn0.step)⟩

end Go.Proofs.Ytgmdoapedhppmaa.PC

/- Proofs that functions of the program come to what plain Lean functions say; made by wip/drive.py. -/
namespace Go.Proofs.Ytgmdoapedhppmaa.PC
set_option linter.unusedVariables false
set_option linter.unusedSimpArgs false
open Go.RowKit Go.Proofs.YtgmdoapedhppmaaW.PrintWords Go.Proofs.YtgmdoapedhppmaaW.PrintLast Go.Proofs.YtgmdoapedhppmaaW.PrintMore
attribute [local go_sem] max2_int min2_int max_two min_two max_three min_three max_four min_four   -- for this text's walks alone
set_option linter.unusedVariables false
set_option linter.unusedSimpArgs false

/-! ### cmp_isNaN_string: function 82 -/
def cmp_isNaN_string.f (a0 : ByteArray) : Option (Bool) := some (a0.toList != a0.toList)
set_option maxHeartbeats 8000000 in
set_option maxRecDepth 100000 in
theorem cmp_isNaN_string.calls (a0 : ByteArray) (r : Bool) (w : World) (h : cmp_isNaN_string.f a0 = some r) :
    Calls Try.prog 82 #[.string a0] w fun e w' => e = .returned (.bool r) ∧ Drawn0 w w' := by
  have H : (some (a0.toList != a0.toList)) = some r := h
  clear h
  obtain rfl := Option.some.inj H
  go_enter Try.func82, Try.ntmps82
  go_wp2
  go_ret
  exact ⟨by first | rfl | (simp; done) | (simp [*]; done), by repeat (first | exact Drawn0.refl _ | apply Drawn0.step)⟩

end Go.Proofs.Ytgmdoapedhppmaa.PC

/- Proofs that functions of the program come to what plain Lean functions say; made by wip/drive.py. -/
namespace Go.Proofs.Ytgmdoapedhppmaa.PC
set_option linter.unusedVariables false
set_option linter.unusedSimpArgs false
open Go.RowKit Go.Proofs.YtgmdoapedhppmaaW.PrintWords Go.Proofs.YtgmdoapedhppmaaW.PrintLast Go.Proofs.YtgmdoapedhppmaaW.PrintMore
attribute [local go_sem] max2_int min2_int max_two min_two max_three min_three max_four min_four   -- for this text's walks alone
set_option linter.unusedVariables false
set_option linter.unusedSimpArgs false

/-! ### cmp_Compare_string: function 72 -/
def cmp_Compare_string.f (a0 : ByteArray) (a1 : ByteArray) : Option (Int) := (cmp_isNaN_string.f a0).bind fun t164 => ((cmp_isNaN_string.f a1).bind fun t165 => (if t164 = true then (if t165 = true then (some 0) else (some (-1))) else (if t165 = true then (some 1) else (if (Op.bytesLess a0.toList a1.toList) = true then (some (-1)) else (if (Op.bytesLess a1.toList a0.toList) = true then (some 1) else (some 0))))))

end Go.Proofs.Ytgmdoapedhppmaa.PC

namespace Go.Proofs.Ytgmdoapedhppmaa.PC
set_option linter.unusedVariables false
set_option linter.unusedSimpArgs false
open Go

theorem bl_irrefl : ∀ x : List UInt8, Op.bytesLess x x = false
  | [] => rfl
  | a :: x => by simp [Op.bytesLess, bl_irrefl x]
theorem bl_trans : ∀ x y z : List UInt8, Op.bytesLess x y = true → Op.bytesLess y z = true → Op.bytesLess x z = true
  | _, [], _ => by intro h; cases ‹List UInt8› <;> simp [Op.bytesLess] at h
  | _, _ :: _, [] => by intro _ h; simp [Op.bytesLess] at h
  | [], _ :: _, _ :: _ => by intro _ _; rfl
  | a :: x, b :: y, c :: z => by
    intro h1 h2
    simp only [Op.bytesLess, Bool.or_eq_true, Bool.and_eq_true, decide_eq_true_eq, beq_iff_eq] at h1 h2 ⊢
    rcases h1 with h1 | ⟨rfl, h1⟩
    · rcases h2 with h2 | ⟨rfl, h2⟩
      · exact .inl (UInt8.lt_trans h1 h2)
      · exact .inl h1
    · rcases h2 with h2 | ⟨rfl, h2⟩
      · exact .inl h2
      · exact .inr ⟨rfl, bl_trans x y z h1 h2⟩
theorem bl_tri : ∀ x y : List UInt8, (Op.bytesLess x y = true ∧ Op.bytesLess y x = false ∧ x ≠ y) ∨ (Op.bytesLess x y = false ∧ Op.bytesLess y x = true ∧ x ≠ y) ∨ (Op.bytesLess x y = false ∧ Op.bytesLess y x = false ∧ x = y)
  | [], [] => by simp [Op.bytesLess]
  | [], _ :: _ => by simp [Op.bytesLess]
  | _ :: _, [] => by simp [Op.bytesLess]
  | a :: x, b :: y => by
    simp only [Op.bytesLess]
    by_cases hab : a < b
    · have : ¬ b < a := fun h => UInt8.lt_irrefl a (UInt8.lt_trans hab h)
      have h2 : b ≠ a := fun h => by subst h; exact this hab
      simp [hab, this, h2, Ne.symm h2]
    · by_cases hba : b < a
      · have h2 : b ≠ a := fun h => by subst h; exact hab hba
        simp [hab, hba, h2, Ne.symm h2]
      · have : a = b := UInt8.le_antisymm (UInt8.not_lt.1 hba) (UInt8.not_lt.1 hab)
        subst this
        simpa using bl_tri x y
theorem bl_more (x y : List UInt8) (h : y ≠ []) : Op.bytesLess x (x ++ y) = true := by
  induction x with
  | nil => cases y with
    | nil => exact absurd rfl h
    | cons b y => rfl
  | cons a x ih => simp [Op.bytesLess, ih]
end Go.Proofs.Ytgmdoapedhppmaa.PC

namespace Go.Proofs.Ytgmdoapedhppmaa.PC
set_option linter.unusedVariables false
set_option linter.unusedSimpArgs false
open Go.RowKit Go.Proofs.YtgmdoapedhppmaaW.PrintWords Go.Proofs.YtgmdoapedhppmaaW.PrintLast Go.Proofs.YtgmdoapedhppmaaW.PrintMore
set_option maxHeartbeats 2000000 in
theorem cmp_Compare_string.calls (a0 : ByteArray) (a1 : ByteArray) (r : Int) (w : World) (h : cmp_Compare_string.f a0 a1 = some r) :
    Calls Try.prog 72 #[.string a0, .string a1] w fun e w' => e = .returned (.int .i64 r) ∧ Drawn0 w w' := by
  have A3 : Aside0 (cmp_isNaN_string.f a0 = some false) := ⟨by unfold cmp_isNaN_string.f; simp⟩
  have A4 : Aside0 (cmp_isNaN_string.f a1 = some false) := ⟨by unfold cmp_isNaN_string.f; simp⟩
  have hr : (if (Op.bytesLess a0.toList a1.toList) = true then -1 else (if (Op.bytesLess a1.toList a0.toList) = true then 1 else 0) : Int) = r := by
    unfold cmp_Compare_string.f at h
    rw [A3.out, A4.out] at h
    simp only [Option.bind_some, Bool.false_eq_true, if_false] at h
    by_cases c1 : Op.bytesLess a0.toList a1.toList = true
    · simpa [c1] using h
    · by_cases c2 : Op.bytesLess a1.toList a0.toList = true
      · simpa [c1, c2] using h
      · simpa [c1, c2] using h
  clear h
  rcases bl_tri a0.toList a1.toList with ⟨L, M, E⟩ | ⟨L, M, E⟩ | ⟨L, M, E⟩
  · rw [if_pos L] at hr
    subst hr
    clear M E
    go_enter Try.func72, Try.ntmps72
    go_wp2_with fail
    refine (cmp_isNaN_string.calls a0 false _ A3.out).mono ?_
    rintro e w' ⟨rfl, ⟨nd, rfl⟩⟩
    go_wp2_with fail
    refine (cmp_isNaN_string.calls a1 false _ A4.out).mono ?_
    rintro e w' ⟨rfl, ⟨nd2, rfl⟩⟩
    go_wp2
    go_ret
    exact ⟨by first | rfl | simp, by repeat (first | exact Drawn0.refl _ | apply Drawn0.step)⟩
  · rw [if_neg (by rw [L]; decide), if_pos M] at hr
    subst hr
    have E1 : (a0.toList == a1.toList) = false := beq_eq_false_iff_ne.2 E
    clear E
    go_enter Try.func72, Try.ntmps72
    go_wp2_with fail
    refine (cmp_isNaN_string.calls a0 false _ A3.out).mono ?_
    rintro e w' ⟨rfl, ⟨nd, rfl⟩⟩
    go_wp2_with fail
    refine (cmp_isNaN_string.calls a1 false _ A4.out).mono ?_
    rintro e w' ⟨rfl, ⟨nd2, rfl⟩⟩
    go_wp2
    go_ret
    exact ⟨by first | rfl | simp, by repeat (first | exact Drawn0.refl _ | apply Drawn0.step)⟩
  · rw [if_neg (by rw [L]; decide), if_neg (by rw [M]; decide)] at hr
    subst hr
    have E1 : (a0.toList == a1.toList) = true := beq_iff_eq.2 E
    clear E
    go_enter Try.func72, Try.ntmps72
    go_wp2_with fail
    refine (cmp_isNaN_string.calls a0 false _ A3.out).mono ?_
    rintro e w' ⟨rfl, ⟨nd, rfl⟩⟩
    go_wp2_with fail
    refine (cmp_isNaN_string.calls a1 false _ A4.out).mono ?_
    rintro e w' ⟨rfl, ⟨nd2, rfl⟩⟩
    go_wp2
    go_ret
    exact ⟨by first | rfl | simp, by repeat (first | exact Drawn0.refl _ | apply Drawn0.step)⟩
end Go.Proofs.Ytgmdoapedhppmaa.PC

/- Proofs that functions of the program come to what plain Lean functions say; made by wip/drive.py. -/
namespace Go.Proofs.Ytgmdoapedhppmaa.PC
set_option linter.unusedVariables false
set_option linter.unusedSimpArgs false
open Go.RowKit Go.Proofs.YtgmdoapedhppmaaW.PrintWords Go.Proofs.YtgmdoapedhppmaaW.PrintLast Go.Proofs.YtgmdoapedhppmaaW.PrintMore
attribute [local go_sem] max2_int min2_int max_two min_two max_three min_three max_four min_four   -- for this text's walks alone
set_option linter.unusedVariables false
set_option linter.unusedSimpArgs false

/-! ### codec_order: function 48 -/
def codec_order.f (k : Nat) (a0_0 : Int) (a0_1 : ByteArray) (a1_0 : Int) (a1_1 : ByteArray) : Option (Int) := (cmp_Compare_uint8.f a0_0 a1_0).bind fun t168 => ((cmp_Compare_string.f a0_1 a1_1).bind fun t169 => ((cmp_Or_int.f k (([t168, t169] : List Int))).bind fun t173 => (some t173)))
theorem codec_order.mono : ∀ a0 a1 a2 a3 k, LeO (codec_order.f k a0 a1 a2 a3) (codec_order.f (k + 1) a0 a1 a2 a3) := by
  intro a0 a1 a2 a3 k
  unfold codec_order.f
  repeat' first
      | (with_reducible exact cmp_Or_int.mono _ _)
      | (with_reducible exact LeO.refl _)
      | (with_reducible exact LeO.none _)
      | (with_reducible refine LeO.ite ?_ ?_)
      | (with_reducible refine LeO.bind ?_ (fun _ => ?_))
      | exact cmp_Or_int.mono _ _
      | exact LeO.none _
      | refine LeO.ite ?_ ?_
      | refine LeO.bind ?_ (fun _ => ?_)
def codec_order.T1 : Bool × List (List Nat × List Nat) := (true, [([], []), ([0], [0]), ([], []), ([2], [2]), ([1, 3], [1, 3]), ([], []), ([5], [5]), ([], []), ([7], [7]), ([6, 8, 4], [6, 8]), ([4, 9], [4, 9]), ([10, 9], [10]), ([11, 11, 0, 1, 2, 3, 4, 5, 6, 7, 8, 9, 10, 11], [11])])
def codec_order.B1 : List Nat := [0, 1, 0, 4, 15, 0, 32, 0, 128, 511, 1023, 2047, 4095]
theorem codec_order.tab1 : rtab .any (opsOf Try.f48 1) = codec_order.T1 := by kernel_rfl
theorem codec_order.bits1 : waitsOk codec_order.T1.2 codec_order.B1 = true := by kernel_rfl
set_option maxHeartbeats 8000000 in
set_option maxRecDepth 100000 in
theorem codec_order.calls (k : Nat) (a0_0 : Int) (a0_1 : ByteArray) (a1_0 : Int) (a1_1 : ByteArray) (r : Int) (w : World) (h : codec_order.f k a0_0 a0_1 a1_0 a1_1 = some r) :
    Calls Try.prog 48 #[.agg #[.int .u8 a0_0, .string a0_1], .agg #[.int .u8 a1_0, .string a1_1]] w fun e w' => e = .returned (.int .i64 r) ∧ Below w.heap.size w w' := by
  have hu28 := Try.underlying28
  have HB := Aside0.mk (Below.refl w.heap.size w)
  have H : ((cmp_Compare_uint8.f a0_0 a1_0).bind fun t168 => ((cmp_Compare_string.f a0_1 a1_1).bind fun t169 => ((cmp_Or_int.f k (([t168, t169] : List Int))).bind fun t173 => (some t173)))) = some r := h
  clear h
  replace H := Option.bind_eq_some_iff.mp H
  obtain ⟨t168, A30, H⟩ := H
  replace H : ((cmp_Compare_string.f a0_1 a1_1).bind fun t169 => ((cmp_Or_int.f k (([t168, t169] : List Int))).bind fun t173 => (some t173))) = some r := H
  have A3 := Aside0.mk A30
  clear A30
  replace H := Option.bind_eq_some_iff.mp H
  obtain ⟨t169, A40, H⟩ := H
  replace H : ((cmp_Or_int.f k (([t168, t169] : List Int))).bind fun t173 => (some t173)) = some r := H
  have A4 := Aside0.mk A40
  clear A40
  obtain ⟨y170, hy170⟩ : ∃ y_ : List Int, y_ = (([t168, t169] : List Int)) := ⟨_, rfl⟩
  replace H : ((cmp_Or_int.f k y170).bind fun t173 => (some t173)) = some r := by first | (rw [hy170]; with_reducible exact H) | (have H2_ := (Option.bind_some _ _).symm.trans H; rw [hy170]; with_reducible exact H2_) | (have H2_ := (Option.bind_some _ _).symm.trans H; with_reducible exact H2_) | with_reducible exact H | (rw [hy170]; exact H) | exact H
  have Ny170 := Aside0.mk hy170
  clear hy170
  replace H := Option.bind_eq_some_iff.mp H
  obtain ⟨t173, A50, H⟩ := H
  replace H : (some t173) = some r := H
  have A5 := Aside0.mk A50
  clear A50
  obtain rfl := Option.some.inj H
  go_enter Try.func48, Try.ntmps48
  try go_wp2_with (first | ((with_reducible refine gate_dst (N := 2) rfl ?_); refine box_event ?hg (N := 2) ?hd (cs := #[.int .u8 a0_0, .string a0_1]) (t := 28) ?hr ?_; (case hd => rfl); (case hg => rfl); (case hr => first | (go_simp; done) | (go_simp; rfl)); intro gb166 hg w6 hbox hb; have n0_ := Aside0.mk (below_step (by repeat (first | (with_reducible first | exact HB.out | apply below_alloc | apply pw_below_drewN | apply below_drew1) | exact HB.out)) hb); have n1_ := Aside0.mk (hbox); have n2_ := Aside0.mk ((by rw [hg]; exact (below_size (by repeat (first | (with_reducible first | exact HB.out | apply below_alloc | apply pw_below_drewN | apply below_drew1) | exact HB.out))) : w.heap.size ≤ gb166)); have n3_ := Aside0.mk ((by rw [hg]; exact (below_size (by repeat (first | (with_reducible first | exact HB.out | apply below_alloc | apply pw_below_drewN | apply below_drew1) | exact HB.out))) : w.heap.size ≤ gb166)); clear HB; have HB := n0_; have BK166 := n1_; have GW166 := n2_; have GE166 := n3_; clear n0_ n1_ n2_ n3_; clear hb hbox hg) | ((with_reducible refine gate_dst (N := 3) rfl ?_); refine box_event ?hg (N := 3) ?hd (cs := #[.int .u8 a1_0, .string a1_1]) (t := 28) ?hr ?_; (case hd => rfl); (case hg => rfl); (case hr => first | (go_simp; done) | (go_simp; rfl)); intro gb167 hg w7 hbox hb; have n0_ := Aside0.mk (blk_below (g := gb166) (o := .cells #[.int .u8 a0_0, .string a0_1] 28 (0, 0)) (by (with_reducible repeat (first | refine blk_drewN ?_ _ | refine blk_drew ?_ | refine blk_alloc ?_ _)); exact BK166.out) hb); have n1_ := Aside0.mk (below_step (by repeat (first | (with_reducible first | exact HB.out | apply below_alloc | apply pw_below_drewN | apply below_drew1 | refine below_set ?_ GE166.out) | exact HB.out)) hb); have n2_ := Aside0.mk (hbox); have n3_ := Aside0.mk ((by rw [hg]; exact (below_size (by repeat (first | (with_reducible first | exact HB.out | apply below_alloc | apply pw_below_drewN | apply below_drew1 | refine below_set ?_ GE166.out) | exact HB.out))) : w.heap.size ≤ gb167)); have n4_ := Aside0.mk ((by rw [hg]; exact (below_size (by repeat (first | (with_reducible first | exact HB.out | apply below_alloc | apply pw_below_drewN | apply below_drew1 | refine below_set ?_ GE166.out) | exact HB.out))) : w.heap.size ≤ gb167)); have n5_ := Aside0.mk ((by rw [hg]; exact Nat.ne_of_lt (blk_lt (g := gb166) (o := .cells #[.int .u8 a0_0, .string a0_1] 28 (0, 0)) (by (with_reducible repeat (first | refine blk_drewN ?_ _ | refine blk_drew ?_ | refine blk_alloc ?_ _)); exact BK166.out)) : gb166 ≠ gb167)); have n6_ := Aside0.mk ((by rw [hg]; exact Nat.ne_of_gt (blk_lt (g := gb166) (o := .cells #[.int .u8 a0_0, .string a0_1] 28 (0, 0)) (by (with_reducible repeat (first | refine blk_drewN ?_ _ | refine blk_drew ?_ | refine blk_alloc ?_ _)); exact BK166.out)) : gb167 ≠ gb166)); clear BK166; clear HB; have BK166 := n0_; have HB := n1_; have BK167 := n2_; have GW167 := n3_; have GE167 := n4_; have NB166_167 := n5_; have NB167_166 := n6_; clear n0_ n1_ n2_ n3_ n4_ n5_ n6_; clear hb hbox hg))
  have n0_ := Aside0.mk (blk_drew BK166.out)
  have n1_ := Aside0.mk (blk_drew BK167.out)
  have n2_ := Aside0.mk (below_drew1 HB.out)
  clear BK166
  clear BK167
  clear HB
  have BK166 := n0_
  have BK167 := n1_
  have HB := n2_
  clear n0_ n1_ n2_
  refine start_ (n := 13) (S := fun w' => w'.cell? ⟨gb166, 0, none⟩ = some (.int .u8 a0_0) ∧ w'.cell? ⟨gb166, 1, none⟩ = some (.string a0_1) ∧ w'.cell? ⟨gb167, 0, none⟩ = some (.int .u8 a1_0) ∧ w'.cell? ⟨gb167, 1, none⟩ = some (.string a1_1)) (ds := []) #[false, false, false, false, false, false, false, false, false, false, false, false, false] (by kernel_rfl) rfl rfl ⟨(blk_cell BK166.out 0).trans rfl, (blk_cell BK166.out 1).trans rfl, (blk_cell BK167.out 0).trans rfl, (blk_cell BK167.out 1).trans rfl⟩ (fun hHeld => ?_); refine with_tabW codec_order.tab1 codec_order.bits1 (fun HT_ HW_ => ?_)
  generalize w7.drew = w8 at BK166 BK167 HB hHeld ⊢
  refine pure_ (i := 0) (N := some 5) (v := ?_) (a' := ?_) #[true, false, false, false, false, false, false, false, false, false, false, false, false] rfl rfl (any_of HT_.out (by kernel_rfl)) (fun _ _ _ h => h) (Or.inl ⟨by rfl, ?_⟩) ?_ ?_
  rotate_left
  · intro w'
    go_simp
    with_reducible rfl
  rotate_left
  · simp only [Act.put, List.setIfInBounds_toArray, List.set_cons_zero, List.set_cons_succ, i64_w, i32_w]
    rfl
  refine pure_ (i := 2) (N := some 7) (v := ?_) (a' := ?_) #[true, false, true, false, false, false, false, false, false, false, false, false, false] rfl rfl (any_of HT_.out (by kernel_rfl)) (fun _ _ _ h => h) (Or.inl ⟨by rfl, ?_⟩) ?_ ?_
  rotate_left
  · intro w'
    go_simp
    with_reducible rfl
  rotate_left
  · simp only [Act.put, List.setIfInBounds_toArray, List.set_cons_zero, List.set_cons_succ, i64_w, i32_w]
    rfl
  refine pure_ (i := 5) (N := some 10) (v := ?_) (a' := ?_) #[true, false, true, false, false, true, false, false, false, false, false, false, false] rfl rfl (any_of HT_.out (by kernel_rfl)) (fun _ _ _ h => h) (Or.inl ⟨by rfl, ?_⟩) ?_ ?_
  rotate_left
  · intro w'
    go_simp
    with_reducible rfl
  rotate_left
  · simp only [Act.put, List.setIfInBounds_toArray, List.set_cons_zero, List.set_cons_succ, i64_w, i32_w]
    rfl
  refine pure_ (i := 7) (N := some 12) (v := ?_) (a' := ?_) #[true, false, true, false, false, true, false, true, false, false, false, false, false] rfl rfl (any_of HT_.out (by kernel_rfl)) (fun _ _ _ h => h) (Or.inl ⟨by rfl, ?_⟩) ?_ ?_
  rotate_left
  · intro w'
    go_simp
    with_reducible rfl
  rotate_left
  · simp only [Act.put, List.setIfInBounds_toArray, List.set_cons_zero, List.set_cons_succ, i64_w, i32_w]
    rfl
  refine take_ (i := 1) (N := some 6) (v := ?_) (a' := ?_) #[true, true, true, false, false, true, false, true, false, false, false, false, false] rfl rfl (take_ofW HT_.out HW_.out (by kernel_rfl)) (fun _ _ _ h => h) (Or.inl ⟨by rfl, ?_⟩) hHeld ?_ ?_
  rotate_left
  · rintro w' ⟨s0, s1, s2, s3⟩
    go_simp
    with_reducible rfl
  rotate_left
  · simp only [Act.put, List.setIfInBounds_toArray, List.set_cons_zero, List.set_cons_succ, i64_w, i32_w]
    rfl
  refine take_ (i := 3) (N := some 8) (v := ?_) (a' := ?_) #[true, true, true, true, false, true, false, true, false, false, false, false, false] rfl rfl (take_ofW HT_.out HW_.out (by kernel_rfl)) (fun _ _ _ h => h) (Or.inl ⟨by rfl, ?_⟩) hHeld ?_ ?_
  rotate_left
  · rintro w' ⟨s0, s1, s2, s3⟩
    go_simp
    with_reducible rfl
  rotate_left
  · simp only [Act.put, List.setIfInBounds_toArray, List.set_cons_zero, List.set_cons_succ, i64_w, i32_w]
    rfl
  refine take_ (i := 6) (N := some 11) (v := ?_) (a' := ?_) #[true, true, true, true, false, true, true, true, false, false, false, false, false] rfl rfl (take_ofW HT_.out HW_.out (by kernel_rfl)) (fun _ _ _ h => h) (Or.inl ⟨by rfl, ?_⟩) hHeld ?_ ?_
  rotate_left
  · rintro w' ⟨s0, s1, s2, s3⟩
    go_simp
    with_reducible rfl
  rotate_left
  · simp only [Act.put, List.setIfInBounds_toArray, List.set_cons_zero, List.set_cons_succ, i64_w, i32_w]
    rfl
  refine take_ (i := 8) (N := some 13) (v := ?_) (a' := ?_) #[true, true, true, true, false, true, true, true, true, false, false, false, false] rfl rfl (take_ofW HT_.out HW_.out (by kernel_rfl)) (fun _ _ _ h => h) (Or.inl ⟨by rfl, ?_⟩) hHeld ?_ ?_
  rotate_left
  · rintro w' ⟨s0, s1, s2, s3⟩
    go_simp
    with_reducible rfl
  rotate_left
  · simp only [Act.put, List.setIfInBounds_toArray, List.set_cons_zero, List.set_cons_succ, i64_w, i32_w]
    rfl
  refine one_ (i := 4) (N := some 9) #[true, true, true, true, true, true, true, true, true, false, false, false, false] rfl rfl (one_of HT_.out (by kernel_rfl)) (by decide) (fun K hK => ?_)
  refine goes_ Try.func71 (by kernel_rfl) rfl #[.int .u8 a0_0, .int .u8 a1_0] (by rfl) rfl rfl (by (try simp only [List.map_toArray, List.map_cons, List.map_nil]); first | done | rfl | (simp only [List.length_drop, List.length_take]; rfl) | (rw [IntKind.wrap_u64, Int.emod_eq_of_lt (by omega) (by omega)]; rfl)) ?_
  with_reducible refine (cmp_Compare_uint8.calls a0_0 a1_0 t168 _ A3.out).mono ?_
  rintro e w' ⟨rfl, ⟨nd, rfl⟩⟩
  refine ⟨_, rfl, ?_⟩
  refine hK.out _ _ ⟨(blk_cell BK166.out 0).trans rfl, (blk_cell BK166.out 1).trans rfl, (blk_cell BK167.out 0).trans rfl, (blk_cell BK167.out 1).trans rfl⟩ (fun hHeld => ?_)
  clear hK K
  refine norm_ (a' := ?_) ?_ ?_
  rotate_left
  · show Act.put _ (some 9) _ = _
    simp only [Act.put, List.setIfInBounds_toArray, List.set_cons_zero, List.set_cons_succ, i64_w, i32_w]
    rfl
  refine one_ (i := 9) (N := some 14) #[true, true, true, true, true, true, true, true, true, true, false, false, false] rfl rfl (one_of HT_.out (by kernel_rfl)) (by decide) (fun K hK => ?_)
  refine goes_ Try.func72 (by kernel_rfl) rfl #[.string a0_1, .string a1_1] (by rfl) rfl rfl (by (try simp only [List.map_toArray, List.map_cons, List.map_nil]); first | done | rfl | (simp only [List.length_drop, List.length_take]; rfl) | (rw [IntKind.wrap_u64, Int.emod_eq_of_lt (by omega) (by omega)]; rfl)) ?_
  with_reducible refine (cmp_Compare_string.calls a0_1 a1_1 t169 _ A4.out).mono ?_
  rintro e w' ⟨rfl, ⟨nd, rfl⟩⟩
  refine ⟨_, rfl, ?_⟩
  refine hK.out _ _ ⟨(blk_cell BK166.out 0).trans rfl, (blk_cell BK166.out 1).trans rfl, (blk_cell BK167.out 0).trans rfl, (blk_cell BK167.out 1).trans rfl⟩ (fun hHeld => ?_)
  clear hK K
  refine norm_ (a' := ?_) ?_ ?_
  rotate_left
  · show Act.put _ (some 14) _ = _
    simp only [Act.put, List.setIfInBounds_toArray, List.set_cons_zero, List.set_cons_succ, i64_w, i32_w]
    rfl
  refine one_ (i := 10) (N := some 15) #[true, true, true, true, true, true, true, true, true, true, true, false, false] rfl rfl (one_of HT_.out (by kernel_rfl)) (by decide) (fun K hK => ?_)
  refine Kd.R_lit_step (Kd.int .i64) _ 3 ?hg (N := 15) ?hd (xs := ([t168, t169] : List Int)) (inner := [.int .i64 t168, .int .i64 t169]) (ok := fun _ => True) (okp := fun _ => True) ?hr ?hp (fun _ hk => hk) trivial (Below.refl _ _) (Nat.le_refl _) (by simp) ?_; (case hd => rfl); (case hg => rfl); (case hr => first | (go_simp; done) | (go_simp; rfl)); (case hp => exact (Reps.one (show Kd.M (Kd.int .i64) _ _ _ t168 [.int .i64 t168] from rfl) (Reps.one (show Kd.M (Kd.int .i64) _ _ _ t169 [.int .i64 t169] from rfl) (Reps.none _ _))))
  intro v171 w9 ho10 hb hg_ hnew_
  clear hg_ hnew_
  (first | rw [← Ny170.out] at ho10 | (simp only [Int.reduceToNat] at ho10; rw [← Ny170.out] at ho10))
  have n0_ := Aside0.mk (Kd.R_lower ho10 (below_size (by repeat (first | (with_reducible first | exact HB.out | apply below_alloc | apply pw_below_drewN | apply below_drew1 | refine below_set ?_ GE166.out | refine below_set ?_ GE167.out) | exact HB.out))))
  have n1_ := Aside0.mk (blk_below (g := gb166) (o := .cells #[.int .u8 a0_0, .string a0_1] 28 (0, 0)) (by (with_reducible repeat (first | refine blk_drewN ?_ _ | refine blk_drew ?_ | refine blk_alloc ?_ _)); exact BK166.out) hb)
  have n2_ := Aside0.mk (blk_below (g := gb167) (o := .cells #[.int .u8 a1_0, .string a1_1] 28 (0, 0)) (by (with_reducible repeat (first | refine blk_drewN ?_ _ | refine blk_drew ?_ | refine blk_alloc ?_ _)); exact BK167.out) hb)
  have n3_ := Aside0.mk (below_step (by repeat (first | (with_reducible first | exact HB.out | apply below_alloc | apply pw_below_drewN | apply below_drew1 | refine below_set ?_ GE166.out | refine below_set ?_ GE167.out) | exact HB.out)) hb)
  clear BK166
  clear BK167
  clear HB
  have HO172 := n0_
  have BK166 := n1_
  have BK167 := n2_
  have HB := n3_
  clear n0_ n1_ n2_ n3_
  clear hb ho10
  obtain ⟨Ao11, co11, eo11⟩ := Kd.R_slice HO172.out
  (first | subst eo11 | (injection eo11 with f1_ f2_ f3_; have f4_ := f1_.symm; have f5_ := f3_.symm; clear f1_ f2_ f3_; subst f4_; subst f5_))
  refine hK.out _ _ ⟨(blk_cell BK166.out 0).trans rfl, (blk_cell BK166.out 1).trans rfl, (blk_cell BK167.out 0).trans rfl, (blk_cell BK167.out 1).trans rfl⟩ (fun hHeld => ?_)
  clear hK K
  refine norm_ (a' := ?_) ?_ ?_
  rotate_left
  · show Act.put _ (some 15) _ = _
    simp only [Act.put, List.setIfInBounds_toArray, List.set_cons_zero, List.set_cons_succ, i64_w, i32_w]
    rfl
  refine one_ (i := 11) (N := some 16) #[true, true, true, true, true, true, true, true, true, true, true, true, false] rfl rfl (one_of HT_.out (by kernel_rfl)) (by decide) (fun K hK => ?_)
  refine goes_ Try.func70 (by kernel_rfl) rfl #[.slice Ao11 y170.length co11] (by rfl) rfl rfl (by (try simp only [List.map_toArray, List.map_cons, List.map_nil]); first | done | rfl | (simp only [List.length_drop, List.length_take]; rfl) | (rw [IntKind.wrap_u64, Int.emod_eq_of_lt (by omega) (by omega)]; rfl)) ?_
  with_reducible refine (cmp_Or_int.calls k _ _ y170 t173 _ ?side1 ?side2 A5.out).mono ?_
  (case side1 => repeat (first | exact (Kd.R_reads' HO172.out).2.2 | (with_reducible refine Kd.C_alloc ?_ _) | (with_reducible refine Kd.C_drewN ?_ _) | (with_reducible refine Kd.C_drew ?_)))
  (case side2 => exact (Kd.R_reads' HO172.out).2.1)
  rintro e w' ⟨rfl, ⟨nd, rfl⟩⟩
  refine ⟨_, rfl, ?_⟩
  refine hK.out _ _ ⟨(blk_cell BK166.out 0).trans rfl, (blk_cell BK166.out 1).trans rfl, (blk_cell BK167.out 0).trans rfl, (blk_cell BK167.out 1).trans rfl⟩ (fun hHeld => ?_)
  clear hK K
  refine norm_ (a' := ?_) ?_ ?_
  rotate_left
  · show Act.put _ (some 16) _ = _
    simp only [Act.put, List.setIfInBounds_toArray, List.set_cons_zero, List.set_cons_succ, i64_w, i32_w]
    rfl
  refine pure_ (i := 12) (N := some 4) (v := ?_) (a' := ?_) #[true, true, true, true, true, true, true, true, true, true, true, true, true] rfl rfl (any_of HT_.out (by kernel_rfl)) (fun _ _ _ h => h) (Or.inl ⟨by rfl, ?_⟩) ?_ ?_
  rotate_left
  · intro w'
    go_simp
    with_reducible rfl
  rotate_left
  · simp only [Act.put, List.setIfInBounds_toArray, List.set_cons_zero, List.set_cons_succ, i64_w, i32_w]
    rfl
  refine done_ (done_of HT_.out (by kernel_rfl)) ?_
  try go_wp2
  go_ret
  exact ⟨by first | rfl | (simp [errW_none, errW_some] <;> rfl) | (simp [*, errW_none, errW_some] <;> rfl), by repeat (first | (with_reducible first | exact HB.out | apply below_alloc | apply pw_below_drewN | apply below_drew1 | refine below_set ?_ GE166.out | refine below_set ?_ GE167.out) | exact HB.out)⟩

end Go.Proofs.Ytgmdoapedhppmaa.PC

/- Proofs that functions of the program come to what plain Lean functions say; made by wip/drive.py. -/
namespace Go.Proofs.Ytgmdoapedhppmaa.PC
set_option linter.unusedVariables false
set_option linter.unusedSimpArgs false
open Go.RowKit Go.Proofs.YtgmdoapedhppmaaW.PrintWords Go.Proofs.YtgmdoapedhppmaaW.PrintLast Go.Proofs.YtgmdoapedhppmaaW.PrintMore
attribute [local go_sem] max2_int min2_int max_two min_two max_three min_three max_four min_four   -- for this text's walks alone
set_option linter.unusedVariables false
set_option linter.unusedSimpArgs false

/-! ### codec_RightRows_2: function 47 -/
def codec_RightRows_2.f (k : Nat) (a0_0 : Int) (a0_1 : ByteArray) (a0_2 : ByteArray) (a1_0 : Int) (a1_1 : ByteArray) (a1_2 : ByteArray) : Option (Int) := (codec_order.f k a0_0 a0_1 a1_0 a1_1).bind fun t763 => (some t763)
theorem codec_RightRows_2.mono : ∀ a0 a1 a2 a3 a4 a5 k, LeO (codec_RightRows_2.f k a0 a1 a2 a3 a4 a5) (codec_RightRows_2.f (k + 1) a0 a1 a2 a3 a4 a5) := by
  intro a0 a1 a2 a3 a4 a5 k
  unfold codec_RightRows_2.f
  repeat' first
      | (with_reducible exact codec_order.mono _ _ _ _ _)
      | (with_reducible exact LeO.refl _)
      | (with_reducible exact LeO.none _)
      | (with_reducible refine LeO.ite ?_ ?_)
      | (with_reducible refine LeO.bind ?_ (fun _ => ?_))
      | exact codec_order.mono _ _ _ _ _
      | exact LeO.none _
      | refine LeO.ite ?_ ?_
      | refine LeO.bind ?_ (fun _ => ?_)
set_option maxHeartbeats 8000000 in
set_option maxRecDepth 100000 in
theorem codec_RightRows_2.calls (k : Nat) (a0_0 : Int) (a0_1 : ByteArray) (a0_2 : ByteArray) (a1_0 : Int) (a1_1 : ByteArray) (a1_2 : ByteArray) (r : Int) (w : World) (h : codec_RightRows_2.f k a0_0 a0_1 a0_2 a1_0 a1_1 a1_2 = some r) :
    Calls Try.prog 47 #[.agg #[.int .u8 a0_0, .string a0_1, .string a0_2], .agg #[.int .u8 a1_0, .string a1_1, .string a1_2]] w fun e w' => e = .returned (.int .i64 r) ∧ Below w.heap.size w w' := by
  have hu57 := Try.underlying57
  have hu28 := Try.underlying28
  have HB := Aside0.mk (Below.refl w.heap.size w)
  have H : ((codec_order.f k a0_0 a0_1 a1_0 a1_1).bind fun t763 => (some t763)) = some r := h
  clear h
  replace H := Option.bind_eq_some_iff.mp H
  obtain ⟨t763, A30, H⟩ := H
  replace H : (some t763) = some r := H
  have A3 := Aside0.mk A30
  clear A30
  obtain rfl := Option.some.inj H
  go_enter Try.func47, Try.ntmps47
  go_wp2_with (first | ((with_reducible refine gate_dst (N := 2) rfl ?_); refine box_event ?hg (N := 2) ?hd (cs := #[.int .u8 a0_0, .string a0_1, .string a0_2]) (t := 57) ?hr ?_; (case hd => rfl); (case hg => rfl); (case hr => first | (go_simp; done) | (go_simp; rfl)); intro gb761 hg w4 hbox hb; have n0_ := Aside0.mk (below_step (by repeat (first | (with_reducible first | exact HB.out | apply below_alloc | apply pw_below_drewN | apply below_drew1) | exact HB.out)) hb); have n1_ := Aside0.mk (hbox); have n2_ := Aside0.mk ((by rw [hg]; exact (below_size (by repeat (first | (with_reducible first | exact HB.out | apply below_alloc | apply pw_below_drewN | apply below_drew1) | exact HB.out))) : w.heap.size ≤ gb761)); have n3_ := Aside0.mk ((by rw [hg]; exact (below_size (by repeat (first | (with_reducible first | exact HB.out | apply below_alloc | apply pw_below_drewN | apply below_drew1) | exact HB.out))) : w.heap.size ≤ gb761)); clear HB; have HB := n0_; have BK761 := n1_; have GW761 := n2_; have GE761 := n3_; clear n0_ n1_ n2_ n3_; clear hb hbox hg) | ((with_reducible refine gate_dst (N := 3) rfl ?_); refine box_event ?hg (N := 3) ?hd (cs := #[.int .u8 a1_0, .string a1_1, .string a1_2]) (t := 57) ?hr ?_; (case hd => rfl); (case hg => rfl); (case hr => first | (go_simp; done) | (go_simp; rfl)); intro gb762 hg w5 hbox hb; have n0_ := Aside0.mk (blk_below (g := gb761) (o := .cells #[.int .u8 a0_0, .string a0_1, .string a0_2] 57 (0, 0)) (by (with_reducible repeat (first | refine blk_drewN ?_ _ | refine blk_drew ?_ | refine blk_alloc ?_ _)); exact BK761.out) hb); have n1_ := Aside0.mk (below_step (by repeat (first | (with_reducible first | exact HB.out | apply below_alloc | apply pw_below_drewN | apply below_drew1 | refine below_set ?_ GE761.out) | exact HB.out)) hb); have n2_ := Aside0.mk (hbox); have n3_ := Aside0.mk ((by rw [hg]; exact (below_size (by repeat (first | (with_reducible first | exact HB.out | apply below_alloc | apply pw_below_drewN | apply below_drew1 | refine below_set ?_ GE761.out) | exact HB.out))) : w.heap.size ≤ gb762)); have n4_ := Aside0.mk ((by rw [hg]; exact (below_size (by repeat (first | (with_reducible first | exact HB.out | apply below_alloc | apply pw_below_drewN | apply below_drew1 | refine below_set ?_ GE761.out) | exact HB.out))) : w.heap.size ≤ gb762)); have n5_ := Aside0.mk ((by rw [hg]; exact Nat.ne_of_lt (blk_lt (g := gb761) (o := .cells #[.int .u8 a0_0, .string a0_1, .string a0_2] 57 (0, 0)) (by (with_reducible repeat (first | refine blk_drewN ?_ _ | refine blk_drew ?_ | refine blk_alloc ?_ _)); exact BK761.out)) : gb761 ≠ gb762)); have n6_ := Aside0.mk ((by rw [hg]; exact Nat.ne_of_gt (blk_lt (g := gb761) (o := .cells #[.int .u8 a0_0, .string a0_1, .string a0_2] 57 (0, 0)) (by (with_reducible repeat (first | refine blk_drewN ?_ _ | refine blk_drew ?_ | refine blk_alloc ?_ _)); exact BK761.out)) : gb762 ≠ gb761)); clear BK761; clear HB; have BK761 := n0_; have HB := n1_; have BK762 := n2_; have GW762 := n3_; have GE762 := n4_; have NB761_762 := n5_; have NB762_761 := n6_; clear n0_ n1_ n2_ n3_ n4_ n5_ n6_; clear hb hbox hg; have hnb6 := NB761_762.out; have hnc6 := NB762_761.out; have hcz7_0 : w5.cell? ⟨gb761, 0, none⟩ = some (.int .u8 a0_0) := (blk_cell BK761.out 0).trans rfl; have hcz7_1 : w5.cell? ⟨gb761, 1, none⟩ = some (.string a0_1) := (blk_cell BK761.out 1).trans rfl; have hcz7_2 : w5.cell? ⟨gb761, 2, none⟩ = some (.string a0_2) := (blk_cell BK761.out 2).trans rfl; have hfz7_0 := blk_frozen BK761.out 0; have hfz7_1 := blk_frozen BK761.out 1; have hfz7_2 := blk_frozen BK761.out 2; have hcz8_0 : w5.cell? ⟨gb762, 0, none⟩ = some (.int .u8 a1_0) := (blk_cell BK762.out 0).trans rfl; have hcz8_1 : w5.cell? ⟨gb762, 1, none⟩ = some (.string a1_1) := (blk_cell BK762.out 1).trans rfl; have hcz8_2 : w5.cell? ⟨gb762, 2, none⟩ = some (.string a1_2) := (blk_cell BK762.out 2).trans rfl; have hfz8_0 := blk_frozen BK762.out 0; have hfz8_1 := blk_frozen BK762.out 1; have hfz8_2 := blk_frozen BK762.out 2) | ((with_reducible refine gate_callee (f := 48) rfl ?_); refine goesL_ (some 9) rfl rfl Try.func48 (by kernel_rfl) rfl #[.agg #[.int .u8 a0_0, .string a0_1], .agg #[.int .u8 a1_0, .string a1_1]] rfl (by (try simp only [List.map_toArray, List.map_cons, List.map_nil]); first | done | rfl | (simp only [List.length_drop, List.length_take]; rfl) | (rw [IntKind.wrap_u64, Int.emod_eq_of_lt (by omega) (by omega)]; rfl)) ?_; (with_reducible refine (codec_order.calls k a0_0 a0_1 a1_0 a1_1 t763 _ A3.out).mono ?_); rintro e w9 ⟨rfl, hb⟩; refine ⟨_, rfl, ?_⟩; have n0_ := Aside0.mk (blk_below (g := gb761) (o := .cells #[.int .u8 a0_0, .string a0_1, .string a0_2] 57 (0, 0)) (by (with_reducible repeat (first | refine blk_drewN ?_ _ | refine blk_drew ?_ | refine blk_alloc ?_ _)); exact BK761.out) hb); have n1_ := Aside0.mk (blk_below (g := gb762) (o := .cells #[.int .u8 a1_0, .string a1_1, .string a1_2] 57 (0, 0)) (by (with_reducible repeat (first | refine blk_drewN ?_ _ | refine blk_drew ?_ | refine blk_alloc ?_ _)); exact BK762.out) hb); have n2_ := Aside0.mk (below_step (by repeat (first | (with_reducible first | exact HB.out | apply below_alloc | apply pw_below_drewN | apply below_drew1 | refine below_set ?_ GE761.out | refine below_set ?_ GE762.out) | exact HB.out)) hb); clear BK761; clear BK762; clear HB; have BK761 := n0_; have BK762 := n1_; have HB := n2_; clear n0_ n1_ n2_; (try clear hb); (try clear hb2); (try clear hk); (try clear hi)))
  go_ret
  exact ⟨by first | rfl | (simp [errW_none, errW_some] <;> rfl) | (simp [*, errW_none, errW_some] <;> rfl), by repeat (first | (with_reducible first | exact HB.out | apply below_alloc | apply pw_below_drewN | apply below_drew1 | refine below_set ?_ GE761.out | refine below_set ?_ GE762.out) | exact HB.out)⟩

end Go.Proofs.Ytgmdoapedhppmaa.PC

/- Proofs that functions of the program come to what plain Lean functions say; made by wip/drive.py. -/
namespace Go.Proofs.Ytgmdoapedhppmaa.PC
set_option linter.unusedVariables false
set_option linter.unusedSimpArgs false
open Go.RowKit Go.Proofs.YtgmdoapedhppmaaW.PrintWords Go.Proofs.YtgmdoapedhppmaaW.PrintLast Go.Proofs.YtgmdoapedhppmaaW.PrintMore
attribute [local go_sem] max2_int min2_int max_two min_two max_three min_three max_four min_four   -- for this text's walks alone
set_option linter.unusedVariables false
set_option linter.unusedSimpArgs false

/-! ### codec_txn_2: function 66 -/
def codec_txn_2.f (k : Nat) (a0_0 : Int) (a0_1 : ByteArray) (a0_2 : Bool) (a0_3 : ByteArray) (a1_0 : Int) (a1_1 : ByteArray) (a1_2 : Bool) (a1_3 : ByteArray) : Option (Int) := (codec_order.f k a0_0 a0_1 a1_0 a1_1).bind fun t757 => (some t757)
theorem codec_txn_2.mono : ∀ a0 a1 a2 a3 a4 a5 a6 a7 k, LeO (codec_txn_2.f k a0 a1 a2 a3 a4 a5 a6 a7) (codec_txn_2.f (k + 1) a0 a1 a2 a3 a4 a5 a6 a7) := by
  intro a0 a1 a2 a3 a4 a5 a6 a7 k
  unfold codec_txn_2.f
  repeat' first
      | (with_reducible exact codec_order.mono _ _ _ _ _)
      | (with_reducible exact LeO.refl _)
      | (with_reducible exact LeO.none _)
      | (with_reducible refine LeO.ite ?_ ?_)
      | (with_reducible refine LeO.bind ?_ (fun _ => ?_))
      | exact codec_order.mono _ _ _ _ _
      | exact LeO.none _
      | refine LeO.ite ?_ ?_
      | refine LeO.bind ?_ (fun _ => ?_)
set_option maxHeartbeats 8000000 in
set_option maxRecDepth 100000 in
theorem codec_txn_2.calls (k : Nat) (a0_0 : Int) (a0_1 : ByteArray) (a0_2 : Bool) (a0_3 : ByteArray) (a1_0 : Int) (a1_1 : ByteArray) (a1_2 : Bool) (a1_3 : ByteArray) (r : Int) (w : World) (h : codec_txn_2.f k a0_0 a0_1 a0_2 a0_3 a1_0 a1_1 a1_2 a1_3 = some r) :
    Calls Try.prog 66 #[.agg #[.int .u8 a0_0, .string a0_1, .bool a0_2, .string a0_3], .agg #[.int .u8 a1_0, .string a1_1, .bool a1_2, .string a1_3]] w fun e w' => e = .returned (.int .i64 r) ∧ Below w.heap.size w w' := by
  have hu50 := Try.underlying50
  have hu28 := Try.underlying28
  have HB := Aside0.mk (Below.refl w.heap.size w)
  have H : ((codec_order.f k a0_0 a0_1 a1_0 a1_1).bind fun t757 => (some t757)) = some r := h
  clear h
  replace H := Option.bind_eq_some_iff.mp H
  obtain ⟨t757, A30, H⟩ := H
  replace H : (some t757) = some r := H
  have A3 := Aside0.mk A30
  clear A30
  obtain rfl := Option.some.inj H
  go_enter Try.func66, Try.ntmps66
  go_wp2_with (first | ((with_reducible refine gate_dst (N := 2) rfl ?_); refine box_event ?hg (N := 2) ?hd (cs := #[.int .u8 a0_0, .string a0_1, .bool a0_2, .string a0_3]) (t := 50) ?hr ?_; (case hd => rfl); (case hg => rfl); (case hr => first | (go_simp; done) | (go_simp; rfl)); intro gb755 hg w4 hbox hb; have n0_ := Aside0.mk (below_step (by repeat (first | (with_reducible first | exact HB.out | apply below_alloc | apply pw_below_drewN | apply below_drew1) | exact HB.out)) hb); have n1_ := Aside0.mk (hbox); have n2_ := Aside0.mk ((by rw [hg]; exact (below_size (by repeat (first | (with_reducible first | exact HB.out | apply below_alloc | apply pw_below_drewN | apply below_drew1) | exact HB.out))) : w.heap.size ≤ gb755)); have n3_ := Aside0.mk ((by rw [hg]; exact (below_size (by repeat (first | (with_reducible first | exact HB.out | apply below_alloc | apply pw_below_drewN | apply below_drew1) | exact HB.out))) : w.heap.size ≤ gb755)); clear HB; have HB := n0_; have BK755 := n1_; have GW755 := n2_; have GE755 := n3_; clear n0_ n1_ n2_ n3_; clear hb hbox hg) | ((with_reducible refine gate_dst (N := 3) rfl ?_); refine box_event ?hg (N := 3) ?hd (cs := #[.int .u8 a1_0, .string a1_1, .bool a1_2, .string a1_3]) (t := 50) ?hr ?_; (case hd => rfl); (case hg => rfl); (case hr => first | (go_simp; done) | (go_simp; rfl)); intro gb756 hg w5 hbox hb; have n0_ := Aside0.mk (blk_below (g := gb755) (o := .cells #[.int .u8 a0_0, .string a0_1, .bool a0_2, .string a0_3] 50 (0, 0)) (by (with_reducible repeat (first | refine blk_drewN ?_ _ | refine blk_drew ?_ | refine blk_alloc ?_ _)); exact BK755.out) hb); have n1_ := Aside0.mk (below_step (by repeat (first | (with_reducible first | exact HB.out | apply below_alloc | apply pw_below_drewN | apply below_drew1 | refine below_set ?_ GE755.out) | exact HB.out)) hb); have n2_ := Aside0.mk (hbox); have n3_ := Aside0.mk ((by rw [hg]; exact (below_size (by repeat (first | (with_reducible first | exact HB.out | apply below_alloc | apply pw_below_drewN | apply below_drew1 | refine below_set ?_ GE755.out) | exact HB.out))) : w.heap.size ≤ gb756)); have n4_ := Aside0.mk ((by rw [hg]; exact (below_size (by repeat (first | (with_reducible first | exact HB.out | apply below_alloc | apply pw_below_drewN | apply below_drew1 | refine below_set ?_ GE755.out) | exact HB.out))) : w.heap.size ≤ gb756)); have n5_ := Aside0.mk ((by rw [hg]; exact Nat.ne_of_lt (blk_lt (g := gb755) (o := .cells #[.int .u8 a0_0, .string a0_1, .bool a0_2, .string a0_3] 50 (0, 0)) (by (with_reducible repeat (first | refine blk_drewN ?_ _ | refine blk_drew ?_ | refine blk_alloc ?_ _)); exact BK755.out)) : gb755 ≠ gb756)); have n6_ := Aside0.mk ((by rw [hg]; exact Nat.ne_of_gt (blk_lt (g := gb755) (o := .cells #[.int .u8 a0_0, .string a0_1, .bool a0_2, .string a0_3] 50 (0, 0)) (by (with_reducible repeat (first | refine blk_drewN ?_ _ | refine blk_drew ?_ | refine blk_alloc ?_ _)); exact BK755.out)) : gb756 ≠ gb755)); clear BK755; clear HB; have BK755 := n0_; have HB := n1_; have BK756 := n2_; have GW756 := n3_; have GE756 := n4_; have NB755_756 := n5_; have NB756_755 := n6_; clear n0_ n1_ n2_ n3_ n4_ n5_ n6_; clear hb hbox hg; have hnb6 := NB755_756.out; have hnc6 := NB756_755.out; have hcz7_0 : w5.cell? ⟨gb755, 0, none⟩ = some (.int .u8 a0_0) := (blk_cell BK755.out 0).trans rfl; have hcz7_1 : w5.cell? ⟨gb755, 1, none⟩ = some (.string a0_1) := (blk_cell BK755.out 1).trans rfl; have hcz7_2 : w5.cell? ⟨gb755, 2, none⟩ = some (.bool a0_2) := (blk_cell BK755.out 2).trans rfl; have hcz7_3 : w5.cell? ⟨gb755, 3, none⟩ = some (.string a0_3) := (blk_cell BK755.out 3).trans rfl; have hfz7_0 := blk_frozen BK755.out 0; have hfz7_1 := blk_frozen BK755.out 1; have hfz7_2 := blk_frozen BK755.out 2; have hfz7_3 := blk_frozen BK755.out 3; have hcz8_0 : w5.cell? ⟨gb756, 0, none⟩ = some (.int .u8 a1_0) := (blk_cell BK756.out 0).trans rfl; have hcz8_1 : w5.cell? ⟨gb756, 1, none⟩ = some (.string a1_1) := (blk_cell BK756.out 1).trans rfl; have hcz8_2 : w5.cell? ⟨gb756, 2, none⟩ = some (.bool a1_2) := (blk_cell BK756.out 2).trans rfl; have hcz8_3 : w5.cell? ⟨gb756, 3, none⟩ = some (.string a1_3) := (blk_cell BK756.out 3).trans rfl; have hfz8_0 := blk_frozen BK756.out 0; have hfz8_1 := blk_frozen BK756.out 1; have hfz8_2 := blk_frozen BK756.out 2; have hfz8_3 := blk_frozen BK756.out 3) | ((with_reducible refine gate_callee (f := 48) rfl ?_); refine goesL_ (some 9) rfl rfl Try.func48 (by kernel_rfl) rfl #[.agg #[.int .u8 a0_0, .string a0_1], .agg #[.int .u8 a1_0, .string a1_1]] rfl (by (try simp only [List.map_toArray, List.map_cons, List.map_nil]); first | done | rfl | (simp only [List.length_drop, List.length_take]; rfl) | (rw [IntKind.wrap_u64, Int.emod_eq_of_lt (by omega) (by omega)]; rfl)) ?_; (with_reducible refine (codec_order.calls k a0_0 a0_1 a1_0 a1_1 t757 _ A3.out).mono ?_); rintro e w9 ⟨rfl, hb⟩; refine ⟨_, rfl, ?_⟩; have n0_ := Aside0.mk (blk_below (g := gb755) (o := .cells #[.int .u8 a0_0, .string a0_1, .bool a0_2, .string a0_3] 50 (0, 0)) (by (with_reducible repeat (first | refine blk_drewN ?_ _ | refine blk_drew ?_ | refine blk_alloc ?_ _)); exact BK755.out) hb); have n1_ := Aside0.mk (blk_below (g := gb756) (o := .cells #[.int .u8 a1_0, .string a1_1, .bool a1_2, .string a1_3] 50 (0, 0)) (by (with_reducible repeat (first | refine blk_drewN ?_ _ | refine blk_drew ?_ | refine blk_alloc ?_ _)); exact BK756.out) hb); have n2_ := Aside0.mk (below_step (by repeat (first | (with_reducible first | exact HB.out | apply below_alloc | apply pw_below_drewN | apply below_drew1 | refine below_set ?_ GE755.out | refine below_set ?_ GE756.out) | exact HB.out)) hb); clear BK755; clear BK756; clear HB; have BK755 := n0_; have BK756 := n1_; have HB := n2_; clear n0_ n1_ n2_; (try clear hb); (try clear hb2); (try clear hk); (try clear hi)))
  go_ret
  exact ⟨by first | rfl | (simp [errW_none, errW_some] <;> rfl) | (simp [*, errW_none, errW_some] <;> rfl), by repeat (first | (with_reducible first | exact HB.out | apply below_alloc | apply pw_below_drewN | apply below_drew1 | refine below_set ?_ GE755.out | refine below_set ?_ GE756.out) | exact HB.out)⟩

end Go.Proofs.Ytgmdoapedhppmaa.PC

/- Proofs that functions of the program come to what plain Lean functions say; made by wip/drive.py. -/
namespace Go.Proofs.Ytgmdoapedhppmaa.PC
set_option linter.unusedVariables false
set_option linter.unusedSimpArgs false
open Go.RowKit Go.Proofs.YtgmdoapedhppmaaW.PrintWords Go.Proofs.YtgmdoapedhppmaaW.PrintLast Go.Proofs.YtgmdoapedhppmaaW.PrintMore
attribute [local go_sem] max2_int min2_int max_two min_two max_three min_three max_four min_four   -- for this text's walks alone
set_option linter.unusedVariables false
set_option linter.unusedSimpArgs false

/-! ### codec_key: function 43 -/
def codec_key.f (a0_0 : Int) (a0_1 : ByteArray) : Option (Bool) := if a0_0 < 8 then (if a0_1.toList = ([] : List UInt8) then (some false) else (some (decide ((a0_1.size : Int) ≤ 64)))) else (some false)
set_option maxHeartbeats 8000000 in
set_option maxRecDepth 100000 in
theorem codec_key.calls (a0_0 : Int) (a0_1 : ByteArray) (r : Bool) (w : World) (h : codec_key.f a0_0 a0_1 = some r) :
    Calls Try.prog 43 #[.agg #[.int .u8 a0_0, .string a0_1]] w fun e w' => e = .returned (.bool r) ∧ Below w.heap.size w w' := by
  have hu28 := Try.underlying28
  have HB := Aside0.mk (Below.refl w.heap.size w)
  have H : (if a0_0 < 8 then (if a0_1.toList = ([] : List UInt8) then (some false) else (some (decide ((a0_1.size : Int) ≤ 64)))) else (some false)) = some r := h
  clear h
  by_cases c2 : a0_0 < 8
  · rw [if_pos c2] at H
    have c2b0 : decide (a0_0 < 8) = true := decide_eq_true c2
    clear c2
    by_cases c3 : a0_1.toList = ([] : List UInt8)
    · rw [if_pos c3] at H
      have c3b0 : (a0_1.toList == ([] : List UInt8)) = true := beq_iff_eq.mpr c3
      have c3b1 : (a0_1.toList != ([] : List UInt8)) = false := bne_eq_false_iff_eq.mpr c3
      clear c3
      obtain rfl := Option.some.inj H
      go_enter Try.func43, Try.ntmps43
      go_wp2_with (first | ((with_reducible refine gate_dst (N := 1) rfl ?_); (try (refine gate_guard (by rfl) ?_; dsimp only)); refine box_event ?hg (N := 1) ?hd (cs := #[.int .u8 a0_0, .string a0_1]) (t := 28) ?hr ?_; (case hd => rfl); (case hg => rfl); (case hr => first | (go_simp; done) | (go_simp; rfl)); intro gb749 hg w4 hbox hb; have n0_ := Aside0.mk (below_step (by repeat (first | (with_reducible first | exact HB.out | apply below_alloc | apply pw_below_drewN | apply below_drew1) | exact HB.out)) hb); have n1_ := Aside0.mk (hbox); have n2_ := Aside0.mk ((by rw [hg]; exact (below_size (by repeat (first | (with_reducible first | exact HB.out | apply below_alloc | apply pw_below_drewN | apply below_drew1) | exact HB.out))) : w.heap.size ≤ gb749)); have n3_ := Aside0.mk ((by rw [hg]; exact (below_size (by repeat (first | (with_reducible first | exact HB.out | apply below_alloc | apply pw_below_drewN | apply below_drew1) | exact HB.out))) : w.heap.size ≤ gb749)); clear HB; have HB := n0_; have BK749 := n1_; have GW749 := n2_; have GE749 := n3_; clear n0_ n1_ n2_ n3_; clear hb hbox hg; have hcz5_0 : w4.cell? ⟨gb749, 0, none⟩ = some (.int .u8 a0_0) := (blk_cell BK749.out 0).trans rfl; have hcz5_1 : w4.cell? ⟨gb749, 1, none⟩ = some (.string a0_1) := (blk_cell BK749.out 1).trans rfl; have hfz5_0 := blk_frozen BK749.out 0; have hfz5_1 := blk_frozen BK749.out 1))
      go_ret
      exact ⟨by first | rfl | (simp [errW_none, errW_some] <;> rfl) | (simp [*, errW_none, errW_some] <;> rfl), by repeat (first | (with_reducible first | exact HB.out | apply below_alloc | apply pw_below_drewN | apply below_drew1 | refine below_set ?_ GE749.out) | exact HB.out)⟩
    · rw [if_neg c3] at H
      have c3b0 : (a0_1.toList == ([] : List UInt8)) = false := beq_eq_false_iff_ne.mpr c3
      have c3b1 : (a0_1.toList != ([] : List UInt8)) = true := bne_iff_ne.mpr c3
      obtain rfl := Option.some.inj H
      go_enter Try.func43, Try.ntmps43
      go_wp2_with (first | ((with_reducible refine gate_dst (N := 1) rfl ?_); (try (refine gate_guard (by rfl) ?_; dsimp only)); refine box_event ?hg (N := 1) ?hd (cs := #[.int .u8 a0_0, .string a0_1]) (t := 28) ?hr ?_; (case hd => rfl); (case hg => rfl); (case hr => first | (go_simp; done) | (go_simp; rfl)); intro gb749 hg w6 hbox hb; have n0_ := Aside0.mk (below_step (by repeat (first | (with_reducible first | exact HB.out | apply below_alloc | apply pw_below_drewN | apply below_drew1) | exact HB.out)) hb); have n1_ := Aside0.mk (hbox); have n2_ := Aside0.mk ((by rw [hg]; exact (below_size (by repeat (first | (with_reducible first | exact HB.out | apply below_alloc | apply pw_below_drewN | apply below_drew1) | exact HB.out))) : w.heap.size ≤ gb749)); have n3_ := Aside0.mk ((by rw [hg]; exact (below_size (by repeat (first | (with_reducible first | exact HB.out | apply below_alloc | apply pw_below_drewN | apply below_drew1) | exact HB.out))) : w.heap.size ≤ gb749)); clear HB; have HB := n0_; have BK749 := n1_; have GW749 := n2_; have GE749 := n3_; clear n0_ n1_ n2_ n3_; clear hb hbox hg; have hcz7_0 : w6.cell? ⟨gb749, 0, none⟩ = some (.int .u8 a0_0) := (blk_cell BK749.out 0).trans rfl; have hcz7_1 : w6.cell? ⟨gb749, 1, none⟩ = some (.string a0_1) := (blk_cell BK749.out 1).trans rfl; have hfz7_0 := blk_frozen BK749.out 0; have hfz7_1 := blk_frozen BK749.out 1))
      go_ret
      exact ⟨by first | rfl | (simp [errW_none, errW_some] <;> rfl) | (simp [*, errW_none, errW_some] <;> rfl), by repeat (first | (with_reducible first | exact HB.out | apply below_alloc | apply pw_below_drewN | apply below_drew1 | refine below_set ?_ GE749.out) | exact HB.out)⟩
  · rw [if_neg c2] at H
    have c2b0 : decide (a0_0 < 8) = false := decide_eq_false c2
    clear c2
    obtain rfl := Option.some.inj H
    go_enter Try.func43, Try.ntmps43
    go_wp2_with (first | ((with_reducible refine gate_dst (N := 1) rfl ?_); (try (refine gate_guard (by rfl) ?_; dsimp only)); refine box_event ?hg (N := 1) ?hd (cs := #[.int .u8 a0_0, .string a0_1]) (t := 28) ?hr ?_; (case hd => rfl); (case hg => rfl); (case hr => first | (go_simp; done) | (go_simp; rfl)); intro gb749 hg w8 hbox hb; have n0_ := Aside0.mk (below_step (by repeat (first | (with_reducible first | exact HB.out | apply below_alloc | apply pw_below_drewN | apply below_drew1) | exact HB.out)) hb); have n1_ := Aside0.mk (hbox); have n2_ := Aside0.mk ((by rw [hg]; exact (below_size (by repeat (first | (with_reducible first | exact HB.out | apply below_alloc | apply pw_below_drewN | apply below_drew1) | exact HB.out))) : w.heap.size ≤ gb749)); have n3_ := Aside0.mk ((by rw [hg]; exact (below_size (by repeat (first | (with_reducible first | exact HB.out | apply below_alloc | apply pw_below_drewN | apply below_drew1) | exact HB.out))) : w.heap.size ≤ gb749)); clear HB; have HB := n0_; have BK749 := n1_; have GW749 := n2_; have GE749 := n3_; clear n0_ n1_ n2_ n3_; clear hb hbox hg; have hcz9_0 : w8.cell? ⟨gb749, 0, none⟩ = some (.int .u8 a0_0) := (blk_cell BK749.out 0).trans rfl; have hcz9_1 : w8.cell? ⟨gb749, 1, none⟩ = some (.string a0_1) := (blk_cell BK749.out 1).trans rfl; have hfz9_0 := blk_frozen BK749.out 0; have hfz9_1 := blk_frozen BK749.out 1))
    go_ret
    exact ⟨by first | rfl | (simp [errW_none, errW_some] <;> rfl) | (simp [*, errW_none, errW_some] <;> rfl), by repeat (first | (with_reducible first | exact HB.out | apply below_alloc | apply pw_below_drewN | apply below_drew1 | refine below_set ?_ GE749.out) | exact HB.out)⟩

end Go.Proofs.Ytgmdoapedhppmaa.PC

/- Proofs that functions of the program come to what plain Lean functions say; made by wip/drive.py. -/
namespace Go.Proofs.Ytgmdoapedhppmaa.PC
set_option linter.unusedVariables false
set_option linter.unusedSimpArgs false
open Go.RowKit Go.Proofs.YtgmdoapedhppmaaW.PrintWords Go.Proofs.YtgmdoapedhppmaaW.PrintLast Go.Proofs.YtgmdoapedhppmaaW.PrintMore
attribute [local go_sem] max2_int min2_int max_two min_two max_three min_three max_four min_four   -- for this text's walks alone
set_option linter.unusedVariables false
set_option linter.unusedSimpArgs false

/-! ### codec_value: function 44 -/
def codec_value.f (a0 : ByteArray) : Option (Bool) := some (decide ((a0.size : Int) ≤ 256))
set_option maxHeartbeats 8000000 in
set_option maxRecDepth 100000 in
theorem codec_value.calls (a0 : ByteArray) (r : Bool) (w : World) (h : codec_value.f a0 = some r) :
    Calls Try.prog 44 #[.string a0] w fun e w' => e = .returned (.bool r) ∧ Drawn0 w w' := by
  have H : (some (decide ((a0.size : Int) ≤ 256))) = some r := h
  clear h
  obtain rfl := Option.some.inj H
  go_enter Try.func44, Try.ntmps44
  go_wp2
  go_ret
  exact ⟨by first | rfl | (simp; done) | (simp [*]; done), by repeat (first | exact Drawn0.refl _ | apply Drawn0.step)⟩

end Go.Proofs.Ytgmdoapedhppmaa.PC

/- Proofs that functions of the program come to what plain Lean functions say; made by wip/drive.py. -/
namespace Go.Proofs.Ytgmdoapedhppmaa.PC
set_option linter.unusedVariables false
set_option linter.unusedSimpArgs false
open Go.RowKit Go.Proofs.YtgmdoapedhppmaaW.PrintWords Go.Proofs.YtgmdoapedhppmaaW.PrintLast Go.Proofs.YtgmdoapedhppmaaW.PrintMore
attribute [local go_sem] max2_int min2_int max_two min_two max_three min_three max_four min_four   -- for this text's walks alone
set_option linter.unusedVariables false
set_option linter.unusedSimpArgs false

/-! ### codec_change: function 63 -/
def codec_change.f (a0_0 : Int) (a0_1 : ByteArray) (a0_2 : Bool) (a0_3 : ByteArray) : Option (Bool) := (codec_key.f a0_0 a0_1).bind fun t751 => (if t751 = true then ((codec_value.f a0_3).bind fun t752 => (if t752 = true then (if a0_2 = true then (some (a0_3.toList == ([] : List UInt8))) else (some true)) else (some false))) else (some false))
set_option maxHeartbeats 8000000 in
set_option maxRecDepth 100000 in
theorem codec_change.calls (a0_0 : Int) (a0_1 : ByteArray) (a0_2 : Bool) (a0_3 : ByteArray) (r : Bool) (w : World) (h : codec_change.f a0_0 a0_1 a0_2 a0_3 = some r) :
    Calls Try.prog 63 #[.agg #[.int .u8 a0_0, .string a0_1, .bool a0_2, .string a0_3]] w fun e w' => e = .returned (.bool r) ∧ Below w.heap.size w w' := by
  have hu50 := Try.underlying50
  have hu28 := Try.underlying28
  have HB := Aside0.mk (Below.refl w.heap.size w)
  have H : ((codec_key.f a0_0 a0_1).bind fun t751 => (if t751 = true then ((codec_value.f a0_3).bind fun t752 => (if t752 = true then (if a0_2 = true then (some (a0_3.toList == ([] : List UInt8))) else (some true)) else (some false))) else (some false))) = some r := h
  clear h
  replace H := Option.bind_eq_some_iff.mp H
  obtain ⟨t751, A20, H⟩ := H
  replace H : (if t751 = true then ((codec_value.f a0_3).bind fun t752 => (if t752 = true then (if a0_2 = true then (some (a0_3.toList == ([] : List UInt8))) else (some true)) else (some false))) else (some false)) = some r := H
  have A2 := Aside0.mk A20
  clear A20
  by_cases c3 : t751 = true
  · subst c3
    have H1 : ((codec_value.f a0_3).bind fun t752 => (if t752 = true then (if a0_2 = true then (some (a0_3.toList == ([] : List UInt8))) else (some true)) else (some false))) = some r := by rw [if_pos rfl] at H; exact H
    clear H
    have H := H1
    clear H1
    replace H := Option.bind_eq_some_iff.mp H
    obtain ⟨t752, A40, H⟩ := H
    replace H : (if t752 = true then (if a0_2 = true then (some (a0_3.toList == ([] : List UInt8))) else (some true)) else (some false)) = some r := H
    have A4 := Aside0.mk A40
    clear A40
    by_cases c5 : t752 = true
    · subst c5
      have H1 : (if a0_2 = true then (some (a0_3.toList == ([] : List UInt8))) else (some true)) = some r := by rw [if_pos rfl] at H; exact H
      clear H
      have H := H1
      clear H1
      by_cases c6 : a0_2 = true
      · subst c6
        have H1 : (some (a0_3.toList == ([] : List UInt8))) = some r := by rw [if_pos rfl] at H; exact H
        clear H
        have H := H1
        clear H1
        obtain rfl := Option.some.inj H
        go_enter Try.func63, Try.ntmps63
        go_wp2_with (first | ((with_reducible refine gate_dst (N := 1) rfl ?_); refine box_event ?hg (N := 1) ?hd (cs := #[.int .u8 a0_0, .string a0_1, .bool true, .string a0_3]) (t := 50) ?hr ?_; (case hd => rfl); (case hg => rfl); (case hr => first | (go_simp; done) | (go_simp; rfl)); intro gb750 hg w7 hbox hb; have n0_ := Aside0.mk (below_step (by repeat (first | (with_reducible first | exact HB.out | apply below_alloc | apply pw_below_drewN | apply below_drew1) | exact HB.out)) hb); have n1_ := Aside0.mk (hbox); have n2_ := Aside0.mk ((by rw [hg]; exact (below_size (by repeat (first | (with_reducible first | exact HB.out | apply below_alloc | apply pw_below_drewN | apply below_drew1) | exact HB.out))) : w.heap.size ≤ gb750)); have n3_ := Aside0.mk ((by rw [hg]; exact (below_size (by repeat (first | (with_reducible first | exact HB.out | apply below_alloc | apply pw_below_drewN | apply below_drew1) | exact HB.out))) : w.heap.size ≤ gb750)); clear HB; have HB := n0_; have BK750 := n1_; have GW750 := n2_; have GE750 := n3_; clear n0_ n1_ n2_ n3_; clear hb hbox hg; have hcz8_0 : w7.cell? ⟨gb750, 0, none⟩ = some (.int .u8 a0_0) := (blk_cell BK750.out 0).trans rfl; have hcz8_1 : w7.cell? ⟨gb750, 1, none⟩ = some (.string a0_1) := (blk_cell BK750.out 1).trans rfl; have hcz8_2 : w7.cell? ⟨gb750, 2, none⟩ = some (.bool true) := (blk_cell BK750.out 2).trans rfl; have hcz8_3 : w7.cell? ⟨gb750, 3, none⟩ = some (.string a0_3) := (blk_cell BK750.out 3).trans rfl; have hfz8_0 := blk_frozen BK750.out 0; have hfz8_1 := blk_frozen BK750.out 1; have hfz8_2 := blk_frozen BK750.out 2; have hfz8_3 := blk_frozen BK750.out 3) | ((with_reducible refine gate_callee (f := 43) rfl ?_); refine goesL_ (some 5) rfl rfl Try.func43 (by kernel_rfl) rfl #[.agg #[.int .u8 a0_0, .string a0_1]] rfl (by (try simp only [List.map_toArray, List.map_cons, List.map_nil]); first | done | rfl | (simp only [List.length_drop, List.length_take]; rfl) | (rw [IntKind.wrap_u64, Int.emod_eq_of_lt (by omega) (by omega)]; rfl)) ?_; (with_reducible refine (codec_key.calls a0_0 a0_1 true _ A2.out).mono ?_); rintro e w9 ⟨rfl, hb⟩; refine ⟨_, rfl, ?_⟩; have n0_ := Aside0.mk (blk_below (g := gb750) (o := .cells #[.int .u8 a0_0, .string a0_1, .bool true, .string a0_3] 50 (0, 0)) (by (with_reducible repeat (first | refine blk_drewN ?_ _ | refine blk_drew ?_ | refine blk_alloc ?_ _)); exact BK750.out) hb); have n1_ := Aside0.mk (below_step (by repeat (first | (with_reducible first | exact HB.out | apply below_alloc | apply pw_below_drewN | apply below_drew1 | refine below_set ?_ GE750.out) | exact HB.out)) hb); clear BK750; clear HB; have BK750 := n0_; have HB := n1_; clear n0_ n1_; (try clear hb); (try clear hb2); (try clear hk); (try clear hi); have hcz10_0 : w9.cell? ⟨gb750, 0, none⟩ = some (.int .u8 a0_0) := (blk_cell BK750.out 0).trans rfl; have hcz10_1 : w9.cell? ⟨gb750, 1, none⟩ = some (.string a0_1) := (blk_cell BK750.out 1).trans rfl; have hcz10_2 : w9.cell? ⟨gb750, 2, none⟩ = some (.bool true) := (blk_cell BK750.out 2).trans rfl; have hcz10_3 : w9.cell? ⟨gb750, 3, none⟩ = some (.string a0_3) := (blk_cell BK750.out 3).trans rfl; have hfz10_0 := blk_frozen BK750.out 0; have hfz10_1 := blk_frozen BK750.out 1; have hfz10_2 := blk_frozen BK750.out 2; have hfz10_3 := blk_frozen BK750.out 3) | (go_at_call 44; (with_reducible refine (codec_value.calls a0_3 true _ A4.out).mono ?_); rintro e w' ⟨rfl, ⟨nd, rfl⟩⟩))
        go_ret
        exact ⟨by first | rfl | (simp [errW_none, errW_some] <;> rfl) | (simp [*, errW_none, errW_some] <;> rfl), by repeat (first | (with_reducible first | exact HB.out | apply below_alloc | apply pw_below_drewN | apply below_drew1 | refine below_set ?_ GE750.out) | exact HB.out)⟩
      · replace c6 := Bool.eq_false_iff.mpr c6
        subst c6
        have H1 : (some true) = some r := by rw [if_neg (show ¬ (false = true) by decide)] at H; exact H
        clear H
        have H := H1
        clear H1
        obtain rfl := Option.some.inj H
        go_enter Try.func63, Try.ntmps63
        go_wp2_with (first | ((with_reducible refine gate_dst (N := 1) rfl ?_); refine box_event ?hg (N := 1) ?hd (cs := #[.int .u8 a0_0, .string a0_1, .bool false, .string a0_3]) (t := 50) ?hr ?_; (case hd => rfl); (case hg => rfl); (case hr => first | (go_simp; done) | (go_simp; rfl)); intro gb750 hg w11 hbox hb; have n0_ := Aside0.mk (below_step (by repeat (first | (with_reducible first | exact HB.out | apply below_alloc | apply pw_below_drewN | apply below_drew1) | exact HB.out)) hb); have n1_ := Aside0.mk (hbox); have n2_ := Aside0.mk ((by rw [hg]; exact (below_size (by repeat (first | (with_reducible first | exact HB.out | apply below_alloc | apply pw_below_drewN | apply below_drew1) | exact HB.out))) : w.heap.size ≤ gb750)); have n3_ := Aside0.mk ((by rw [hg]; exact (below_size (by repeat (first | (with_reducible first | exact HB.out | apply below_alloc | apply pw_below_drewN | apply below_drew1) | exact HB.out))) : w.heap.size ≤ gb750)); clear HB; have HB := n0_; have BK750 := n1_; have GW750 := n2_; have GE750 := n3_; clear n0_ n1_ n2_ n3_; clear hb hbox hg; have hcz12_0 : w11.cell? ⟨gb750, 0, none⟩ = some (.int .u8 a0_0) := (blk_cell BK750.out 0).trans rfl; have hcz12_1 : w11.cell? ⟨gb750, 1, none⟩ = some (.string a0_1) := (blk_cell BK750.out 1).trans rfl; have hcz12_2 : w11.cell? ⟨gb750, 2, none⟩ = some (.bool false) := (blk_cell BK750.out 2).trans rfl; have hcz12_3 : w11.cell? ⟨gb750, 3, none⟩ = some (.string a0_3) := (blk_cell BK750.out 3).trans rfl; have hfz12_0 := blk_frozen BK750.out 0; have hfz12_1 := blk_frozen BK750.out 1; have hfz12_2 := blk_frozen BK750.out 2; have hfz12_3 := blk_frozen BK750.out 3) | ((with_reducible refine gate_callee (f := 43) rfl ?_); refine goesL_ (some 5) rfl rfl Try.func43 (by kernel_rfl) rfl #[.agg #[.int .u8 a0_0, .string a0_1]] rfl (by (try simp only [List.map_toArray, List.map_cons, List.map_nil]); first | done | rfl | (simp only [List.length_drop, List.length_take]; rfl) | (rw [IntKind.wrap_u64, Int.emod_eq_of_lt (by omega) (by omega)]; rfl)) ?_; (with_reducible refine (codec_key.calls a0_0 a0_1 true _ A2.out).mono ?_); rintro e w13 ⟨rfl, hb⟩; refine ⟨_, rfl, ?_⟩; have n0_ := Aside0.mk (blk_below (g := gb750) (o := .cells #[.int .u8 a0_0, .string a0_1, .bool false, .string a0_3] 50 (0, 0)) (by (with_reducible repeat (first | refine blk_drewN ?_ _ | refine blk_drew ?_ | refine blk_alloc ?_ _)); exact BK750.out) hb); have n1_ := Aside0.mk (below_step (by repeat (first | (with_reducible first | exact HB.out | apply below_alloc | apply pw_below_drewN | apply below_drew1 | refine below_set ?_ GE750.out) | exact HB.out)) hb); clear BK750; clear HB; have BK750 := n0_; have HB := n1_; clear n0_ n1_; (try clear hb); (try clear hb2); (try clear hk); (try clear hi); have hcz14_0 : w13.cell? ⟨gb750, 0, none⟩ = some (.int .u8 a0_0) := (blk_cell BK750.out 0).trans rfl; have hcz14_1 : w13.cell? ⟨gb750, 1, none⟩ = some (.string a0_1) := (blk_cell BK750.out 1).trans rfl; have hcz14_2 : w13.cell? ⟨gb750, 2, none⟩ = some (.bool false) := (blk_cell BK750.out 2).trans rfl; have hcz14_3 : w13.cell? ⟨gb750, 3, none⟩ = some (.string a0_3) := (blk_cell BK750.out 3).trans rfl; have hfz14_0 := blk_frozen BK750.out 0; have hfz14_1 := blk_frozen BK750.out 1; have hfz14_2 := blk_frozen BK750.out 2; have hfz14_3 := blk_frozen BK750.out 3) | (go_at_call 44; (with_reducible refine (codec_value.calls a0_3 true _ A4.out).mono ?_); rintro e w' ⟨rfl, ⟨nd, rfl⟩⟩))
        go_ret
        exact ⟨by first | rfl | (simp [errW_none, errW_some] <;> rfl) | (simp [*, errW_none, errW_some] <;> rfl), by repeat (first | (with_reducible first | exact HB.out | apply below_alloc | apply pw_below_drewN | apply below_drew1 | refine below_set ?_ GE750.out) | exact HB.out)⟩
    · replace c5 := Bool.eq_false_iff.mpr c5
      subst c5
      have H1 : (some false) = some r := by rw [if_neg (show ¬ (false = true) by decide)] at H; exact H
      clear H
      have H := H1
      clear H1
      obtain rfl := Option.some.inj H
      go_enter Try.func63, Try.ntmps63
      go_wp2_with (first | ((with_reducible refine gate_dst (N := 1) rfl ?_); refine box_event ?hg (N := 1) ?hd (cs := #[.int .u8 a0_0, .string a0_1, .bool a0_2, .string a0_3]) (t := 50) ?hr ?_; (case hd => rfl); (case hg => rfl); (case hr => first | (go_simp; done) | (go_simp; rfl)); intro gb750 hg w15 hbox hb; have n0_ := Aside0.mk (below_step (by repeat (first | (with_reducible first | exact HB.out | apply below_alloc | apply pw_below_drewN | apply below_drew1) | exact HB.out)) hb); have n1_ := Aside0.mk (hbox); have n2_ := Aside0.mk ((by rw [hg]; exact (below_size (by repeat (first | (with_reducible first | exact HB.out | apply below_alloc | apply pw_below_drewN | apply below_drew1) | exact HB.out))) : w.heap.size ≤ gb750)); have n3_ := Aside0.mk ((by rw [hg]; exact (below_size (by repeat (first | (with_reducible first | exact HB.out | apply below_alloc | apply pw_below_drewN | apply below_drew1) | exact HB.out))) : w.heap.size ≤ gb750)); clear HB; have HB := n0_; have BK750 := n1_; have GW750 := n2_; have GE750 := n3_; clear n0_ n1_ n2_ n3_; clear hb hbox hg; have hcz16_0 : w15.cell? ⟨gb750, 0, none⟩ = some (.int .u8 a0_0) := (blk_cell BK750.out 0).trans rfl; have hcz16_1 : w15.cell? ⟨gb750, 1, none⟩ = some (.string a0_1) := (blk_cell BK750.out 1).trans rfl; have hcz16_2 : w15.cell? ⟨gb750, 2, none⟩ = some (.bool a0_2) := (blk_cell BK750.out 2).trans rfl; have hcz16_3 : w15.cell? ⟨gb750, 3, none⟩ = some (.string a0_3) := (blk_cell BK750.out 3).trans rfl; have hfz16_0 := blk_frozen BK750.out 0; have hfz16_1 := blk_frozen BK750.out 1; have hfz16_2 := blk_frozen BK750.out 2; have hfz16_3 := blk_frozen BK750.out 3) | ((with_reducible refine gate_callee (f := 43) rfl ?_); refine goesL_ (some 5) rfl rfl Try.func43 (by kernel_rfl) rfl #[.agg #[.int .u8 a0_0, .string a0_1]] rfl (by (try simp only [List.map_toArray, List.map_cons, List.map_nil]); first | done | rfl | (simp only [List.length_drop, List.length_take]; rfl) | (rw [IntKind.wrap_u64, Int.emod_eq_of_lt (by omega) (by omega)]; rfl)) ?_; (with_reducible refine (codec_key.calls a0_0 a0_1 true _ A2.out).mono ?_); rintro e w17 ⟨rfl, hb⟩; refine ⟨_, rfl, ?_⟩; have n0_ := Aside0.mk (blk_below (g := gb750) (o := .cells #[.int .u8 a0_0, .string a0_1, .bool a0_2, .string a0_3] 50 (0, 0)) (by (with_reducible repeat (first | refine blk_drewN ?_ _ | refine blk_drew ?_ | refine blk_alloc ?_ _)); exact BK750.out) hb); have n1_ := Aside0.mk (below_step (by repeat (first | (with_reducible first | exact HB.out | apply below_alloc | apply pw_below_drewN | apply below_drew1 | refine below_set ?_ GE750.out) | exact HB.out)) hb); clear BK750; clear HB; have BK750 := n0_; have HB := n1_; clear n0_ n1_; (try clear hb); (try clear hb2); (try clear hk); (try clear hi); have hcz18_0 : w17.cell? ⟨gb750, 0, none⟩ = some (.int .u8 a0_0) := (blk_cell BK750.out 0).trans rfl; have hcz18_1 : w17.cell? ⟨gb750, 1, none⟩ = some (.string a0_1) := (blk_cell BK750.out 1).trans rfl; have hcz18_2 : w17.cell? ⟨gb750, 2, none⟩ = some (.bool a0_2) := (blk_cell BK750.out 2).trans rfl; have hcz18_3 : w17.cell? ⟨gb750, 3, none⟩ = some (.string a0_3) := (blk_cell BK750.out 3).trans rfl; have hfz18_0 := blk_frozen BK750.out 0; have hfz18_1 := blk_frozen BK750.out 1; have hfz18_2 := blk_frozen BK750.out 2; have hfz18_3 := blk_frozen BK750.out 3) | (go_at_call 44; (with_reducible refine (codec_value.calls a0_3 false _ A4.out).mono ?_); rintro e w' ⟨rfl, ⟨nd, rfl⟩⟩))
      go_ret
      exact ⟨by first | rfl | (simp [errW_none, errW_some] <;> rfl) | (simp [*, errW_none, errW_some] <;> rfl), by repeat (first | (with_reducible first | exact HB.out | apply below_alloc | apply pw_below_drewN | apply below_drew1 | refine below_set ?_ GE750.out) | exact HB.out)⟩
  · replace c3 := Bool.eq_false_iff.mpr c3
    subst c3
    have H1 : (some false) = some r := by rw [if_neg (show ¬ (false = true) by decide)] at H; exact H
    clear H
    have H := H1
    clear H1
    obtain rfl := Option.some.inj H
    go_enter Try.func63, Try.ntmps63
    go_wp2_with (first | ((with_reducible refine gate_dst (N := 1) rfl ?_); refine box_event ?hg (N := 1) ?hd (cs := #[.int .u8 a0_0, .string a0_1, .bool a0_2, .string a0_3]) (t := 50) ?hr ?_; (case hd => rfl); (case hg => rfl); (case hr => first | (go_simp; done) | (go_simp; rfl)); intro gb750 hg w19 hbox hb; have n0_ := Aside0.mk (below_step (by repeat (first | (with_reducible first | exact HB.out | apply below_alloc | apply pw_below_drewN | apply below_drew1) | exact HB.out)) hb); have n1_ := Aside0.mk (hbox); have n2_ := Aside0.mk ((by rw [hg]; exact (below_size (by repeat (first | (with_reducible first | exact HB.out | apply below_alloc | apply pw_below_drewN | apply below_drew1) | exact HB.out))) : w.heap.size ≤ gb750)); have n3_ := Aside0.mk ((by rw [hg]; exact (below_size (by repeat (first | (with_reducible first | exact HB.out | apply below_alloc | apply pw_below_drewN | apply below_drew1) | exact HB.out))) : w.heap.size ≤ gb750)); clear HB; have HB := n0_; have BK750 := n1_; have GW750 := n2_; have GE750 := n3_; clear n0_ n1_ n2_ n3_; clear hb hbox hg; have hcz20_0 : w19.cell? ⟨gb750, 0, none⟩ = some (.int .u8 a0_0) := (blk_cell BK750.out 0).trans rfl; have hcz20_1 : w19.cell? ⟨gb750, 1, none⟩ = some (.string a0_1) := (blk_cell BK750.out 1).trans rfl; have hcz20_2 : w19.cell? ⟨gb750, 2, none⟩ = some (.bool a0_2) := (blk_cell BK750.out 2).trans rfl; have hcz20_3 : w19.cell? ⟨gb750, 3, none⟩ = some (.string a0_3) := (blk_cell BK750.out 3).trans rfl; have hfz20_0 := blk_frozen BK750.out 0; have hfz20_1 := blk_frozen BK750.out 1; have hfz20_2 := blk_frozen BK750.out 2; have hfz20_3 := blk_frozen BK750.out 3) | ((with_reducible refine gate_callee (f := 43) rfl ?_); refine goesL_ (some 5) rfl rfl Try.func43 (by kernel_rfl) rfl #[.agg #[.int .u8 a0_0, .string a0_1]] rfl (by (try simp only [List.map_toArray, List.map_cons, List.map_nil]); first | done | rfl | (simp only [List.length_drop, List.length_take]; rfl) | (rw [IntKind.wrap_u64, Int.emod_eq_of_lt (by omega) (by omega)]; rfl)) ?_; (with_reducible refine (codec_key.calls a0_0 a0_1 false _ A2.out).mono ?_); rintro e w21 ⟨rfl, hb⟩; refine ⟨_, rfl, ?_⟩; have n0_ := Aside0.mk (blk_below (g := gb750) (o := .cells #[.int .u8 a0_0, .string a0_1, .bool a0_2, .string a0_3] 50 (0, 0)) (by (with_reducible repeat (first | refine blk_drewN ?_ _ | refine blk_drew ?_ | refine blk_alloc ?_ _)); exact BK750.out) hb); have n1_ := Aside0.mk (below_step (by repeat (first | (with_reducible first | exact HB.out | apply below_alloc | apply pw_below_drewN | apply below_drew1 | refine below_set ?_ GE750.out) | exact HB.out)) hb); clear BK750; clear HB; have BK750 := n0_; have HB := n1_; clear n0_ n1_; (try clear hb); (try clear hb2); (try clear hk); (try clear hi)))
    go_ret
    exact ⟨by first | rfl | (simp [errW_none, errW_some] <;> rfl) | (simp [*, errW_none, errW_some] <;> rfl), by repeat (first | (with_reducible first | exact HB.out | apply below_alloc | apply pw_below_drewN | apply below_drew1 | refine below_set ?_ GE750.out) | exact HB.out)⟩

end Go.Proofs.Ytgmdoapedhppmaa.PC

/- Proofs that functions of the program come to what plain Lean functions say; made by wip/drive.py. -/
namespace Go.Proofs.Ytgmdoapedhppmaa.PC
set_option linter.unusedVariables false
set_option linter.unusedSimpArgs false
open Go.RowKit Go.Proofs.YtgmdoapedhppmaaW.PrintWords Go.Proofs.YtgmdoapedhppmaaW.PrintLast Go.Proofs.YtgmdoapedhppmaaW.PrintMore
attribute [local go_sem] max2_int min2_int max_two min_two max_three min_three max_four min_four   -- for this text's walks alone
set_option linter.unusedVariables false
set_option linter.unusedSimpArgs false

/-! ### codec_txn_1: function 62 -/
def codec_txn_1.f (a0_0 : Int) (a0_1 : ByteArray) (a0_2 : Bool) (a0_3 : ByteArray) : Option (Bool) := (codec_change.f a0_0 a0_1 a0_2 a0_3).bind fun t754 => (some (!t754))
set_option maxHeartbeats 8000000 in
set_option maxRecDepth 100000 in
theorem codec_txn_1.calls (a0_0 : Int) (a0_1 : ByteArray) (a0_2 : Bool) (a0_3 : ByteArray) (r : Bool) (w : World) (h : codec_txn_1.f a0_0 a0_1 a0_2 a0_3 = some r) :
    Calls Try.prog 62 #[.agg #[.int .u8 a0_0, .string a0_1, .bool a0_2, .string a0_3]] w fun e w' => e = .returned (.bool r) ∧ Below w.heap.size w w' := by
  have hu50 := Try.underlying50
  have HB := Aside0.mk (Below.refl w.heap.size w)
  have H : ((codec_change.f a0_0 a0_1 a0_2 a0_3).bind fun t754 => (some (!t754))) = some r := h
  clear h
  replace H := Option.bind_eq_some_iff.mp H
  obtain ⟨t754, A20, H⟩ := H
  replace H : (some (!t754)) = some r := H
  have A2 := Aside0.mk A20
  clear A20
  obtain rfl := Option.some.inj H
  go_enter Try.func62, Try.ntmps62
  go_wp2_with (first | ((with_reducible refine gate_dst (N := 1) rfl ?_); refine box_event ?hg (N := 1) ?hd (cs := #[.int .u8 a0_0, .string a0_1, .bool a0_2, .string a0_3]) (t := 50) ?hr ?_; (case hd => rfl); (case hg => rfl); (case hr => first | (go_simp; done) | (go_simp; rfl)); intro gb753 hg w3 hbox hb; have n0_ := Aside0.mk (below_step (by repeat (first | (with_reducible first | exact HB.out | apply below_alloc | apply pw_below_drewN | apply below_drew1) | exact HB.out)) hb); have n1_ := Aside0.mk (hbox); have n2_ := Aside0.mk ((by rw [hg]; exact (below_size (by repeat (first | (with_reducible first | exact HB.out | apply below_alloc | apply pw_below_drewN | apply below_drew1) | exact HB.out))) : w.heap.size ≤ gb753)); have n3_ := Aside0.mk ((by rw [hg]; exact (below_size (by repeat (first | (with_reducible first | exact HB.out | apply below_alloc | apply pw_below_drewN | apply below_drew1) | exact HB.out))) : w.heap.size ≤ gb753)); clear HB; have HB := n0_; have BK753 := n1_; have GW753 := n2_; have GE753 := n3_; clear n0_ n1_ n2_ n3_; clear hb hbox hg; have hcz4_0 : w3.cell? ⟨gb753, 0, none⟩ = some (.int .u8 a0_0) := (blk_cell BK753.out 0).trans rfl; have hcz4_1 : w3.cell? ⟨gb753, 1, none⟩ = some (.string a0_1) := (blk_cell BK753.out 1).trans rfl; have hcz4_2 : w3.cell? ⟨gb753, 2, none⟩ = some (.bool a0_2) := (blk_cell BK753.out 2).trans rfl; have hcz4_3 : w3.cell? ⟨gb753, 3, none⟩ = some (.string a0_3) := (blk_cell BK753.out 3).trans rfl; have hfz4_0 := blk_frozen BK753.out 0; have hfz4_1 := blk_frozen BK753.out 1; have hfz4_2 := blk_frozen BK753.out 2; have hfz4_3 := blk_frozen BK753.out 3) | ((with_reducible refine gate_callee (f := 63) rfl ?_); refine goesL_ (some 4) rfl rfl Try.func63 (by kernel_rfl) rfl #[.agg #[.int .u8 a0_0, .string a0_1, .bool a0_2, .string a0_3]] rfl (by (try simp only [List.map_toArray, List.map_cons, List.map_nil]); first | done | rfl | (simp only [List.length_drop, List.length_take]; rfl) | (rw [IntKind.wrap_u64, Int.emod_eq_of_lt (by omega) (by omega)]; rfl)) ?_; (with_reducible refine (codec_change.calls a0_0 a0_1 a0_2 a0_3 t754 _ A2.out).mono ?_); rintro e w5 ⟨rfl, hb⟩; refine ⟨_, rfl, ?_⟩; have n0_ := Aside0.mk (blk_below (g := gb753) (o := .cells #[.int .u8 a0_0, .string a0_1, .bool a0_2, .string a0_3] 50 (0, 0)) (by (with_reducible repeat (first | refine blk_drewN ?_ _ | refine blk_drew ?_ | refine blk_alloc ?_ _)); exact BK753.out) hb); have n1_ := Aside0.mk (below_step (by repeat (first | (with_reducible first | exact HB.out | apply below_alloc | apply pw_below_drewN | apply below_drew1 | refine below_set ?_ GE753.out) | exact HB.out)) hb); clear BK753; clear HB; have BK753 := n0_; have HB := n1_; clear n0_ n1_; (try clear hb); (try clear hb2); (try clear hk); (try clear hi)))
  go_ret
  exact ⟨by first | rfl | (simp [errW_none, errW_some] <;> rfl) | (simp [*, errW_none, errW_some] <;> rfl), by repeat (first | (with_reducible first | exact HB.out | apply below_alloc | apply pw_below_drewN | apply below_drew1 | refine below_set ?_ GE753.out) | exact HB.out)⟩

end Go.Proofs.Ytgmdoapedhppmaa.PC

/- Proofs that functions of the program come to what plain Lean functions say; made by wip/drive.py. -/
namespace Go.Proofs.Ytgmdoapedhppmaa.PC
set_option linter.unusedVariables false
set_option linter.unusedSimpArgs false
open Go.RowKit Go.Proofs.YtgmdoapedhppmaaW.PrintWords Go.Proofs.YtgmdoapedhppmaaW.PrintLast Go.Proofs.YtgmdoapedhppmaaW.PrintMore
attribute [local go_sem] max2_int min2_int max_two min_two max_three min_three max_four min_four   -- for this text's walks alone
set_option linter.unusedVariables false
set_option linter.unusedSimpArgs false

/-! ### codec_RightRows_1: function 42 -/
def codec_RightRows_1.f (a0_0 : Int) (a0_1 : ByteArray) (a0_2 : ByteArray) : Option (Bool) := (codec_key.f a0_0 a0_1).bind fun t759 => (if t759 = true then ((codec_value.f a0_2).bind fun t760 => (some (!t760))) else (some true))
set_option maxHeartbeats 8000000 in
set_option maxRecDepth 100000 in
theorem codec_RightRows_1.calls (a0_0 : Int) (a0_1 : ByteArray) (a0_2 : ByteArray) (r : Bool) (w : World) (h : codec_RightRows_1.f a0_0 a0_1 a0_2 = some r) :
    Calls Try.prog 42 #[.agg #[.int .u8 a0_0, .string a0_1, .string a0_2]] w fun e w' => e = .returned (.bool r) ∧ Below w.heap.size w w' := by
  have hu57 := Try.underlying57
  have hu28 := Try.underlying28
  have HB := Aside0.mk (Below.refl w.heap.size w)
  have H : ((codec_key.f a0_0 a0_1).bind fun t759 => (if t759 = true then ((codec_value.f a0_2).bind fun t760 => (some (!t760))) else (some true))) = some r := h
  clear h
  replace H := Option.bind_eq_some_iff.mp H
  obtain ⟨t759, A20, H⟩ := H
  replace H : (if t759 = true then ((codec_value.f a0_2).bind fun t760 => (some (!t760))) else (some true)) = some r := H
  have A2 := Aside0.mk A20
  clear A20
  by_cases c3 : t759 = true
  · subst c3
    have H1 : ((codec_value.f a0_2).bind fun t760 => (some (!t760))) = some r := by rw [if_pos rfl] at H; exact H
    clear H
    have H := H1
    clear H1
    replace H := Option.bind_eq_some_iff.mp H
    obtain ⟨t760, A40, H⟩ := H
    replace H : (some (!t760)) = some r := H
    have A4 := Aside0.mk A40
    clear A40
    obtain rfl := Option.some.inj H
    go_enter Try.func42, Try.ntmps42
    go_wp2_with (first | ((with_reducible refine gate_dst (N := 1) rfl ?_); refine box_event ?hg (N := 1) ?hd (cs := #[.int .u8 a0_0, .string a0_1, .string a0_2]) (t := 57) ?hr ?_; (case hd => rfl); (case hg => rfl); (case hr => first | (go_simp; done) | (go_simp; rfl)); intro gb758 hg w5 hbox hb; have n0_ := Aside0.mk (below_step (by repeat (first | (with_reducible first | exact HB.out | apply below_alloc | apply pw_below_drewN | apply below_drew1) | exact HB.out)) hb); have n1_ := Aside0.mk (hbox); have n2_ := Aside0.mk ((by rw [hg]; exact (below_size (by repeat (first | (with_reducible first | exact HB.out | apply below_alloc | apply pw_below_drewN | apply below_drew1) | exact HB.out))) : w.heap.size ≤ gb758)); have n3_ := Aside0.mk ((by rw [hg]; exact (below_size (by repeat (first | (with_reducible first | exact HB.out | apply below_alloc | apply pw_below_drewN | apply below_drew1) | exact HB.out))) : w.heap.size ≤ gb758)); clear HB; have HB := n0_; have BK758 := n1_; have GW758 := n2_; have GE758 := n3_; clear n0_ n1_ n2_ n3_; clear hb hbox hg; have hcz6_0 : w5.cell? ⟨gb758, 0, none⟩ = some (.int .u8 a0_0) := (blk_cell BK758.out 0).trans rfl; have hcz6_1 : w5.cell? ⟨gb758, 1, none⟩ = some (.string a0_1) := (blk_cell BK758.out 1).trans rfl; have hcz6_2 : w5.cell? ⟨gb758, 2, none⟩ = some (.string a0_2) := (blk_cell BK758.out 2).trans rfl; have hfz6_0 := blk_frozen BK758.out 0; have hfz6_1 := blk_frozen BK758.out 1; have hfz6_2 := blk_frozen BK758.out 2) | ((with_reducible refine gate_callee (f := 43) rfl ?_); refine goesL_ (some 5) rfl rfl Try.func43 (by kernel_rfl) rfl #[.agg #[.int .u8 a0_0, .string a0_1]] rfl (by (try simp only [List.map_toArray, List.map_cons, List.map_nil]); first | done | rfl | (simp only [List.length_drop, List.length_take]; rfl) | (rw [IntKind.wrap_u64, Int.emod_eq_of_lt (by omega) (by omega)]; rfl)) ?_; (with_reducible refine (codec_key.calls a0_0 a0_1 true _ A2.out).mono ?_); rintro e w7 ⟨rfl, hb⟩; refine ⟨_, rfl, ?_⟩; have n0_ := Aside0.mk (blk_below (g := gb758) (o := .cells #[.int .u8 a0_0, .string a0_1, .string a0_2] 57 (0, 0)) (by (with_reducible repeat (first | refine blk_drewN ?_ _ | refine blk_drew ?_ | refine blk_alloc ?_ _)); exact BK758.out) hb); have n1_ := Aside0.mk (below_step (by repeat (first | (with_reducible first | exact HB.out | apply below_alloc | apply pw_below_drewN | apply below_drew1 | refine below_set ?_ GE758.out) | exact HB.out)) hb); clear BK758; clear HB; have BK758 := n0_; have HB := n1_; clear n0_ n1_; (try clear hb); (try clear hb2); (try clear hk); (try clear hi); have hcz8_0 : w7.cell? ⟨gb758, 0, none⟩ = some (.int .u8 a0_0) := (blk_cell BK758.out 0).trans rfl; have hcz8_1 : w7.cell? ⟨gb758, 1, none⟩ = some (.string a0_1) := (blk_cell BK758.out 1).trans rfl; have hcz8_2 : w7.cell? ⟨gb758, 2, none⟩ = some (.string a0_2) := (blk_cell BK758.out 2).trans rfl; have hfz8_0 := blk_frozen BK758.out 0; have hfz8_1 := blk_frozen BK758.out 1; have hfz8_2 := blk_frozen BK758.out 2) | (go_at_call 44; (with_reducible refine (codec_value.calls a0_2 t760 _ A4.out).mono ?_); rintro e w' ⟨rfl, ⟨nd, rfl⟩⟩))
    go_ret
    exact ⟨by first | rfl | (simp [errW_none, errW_some] <;> rfl) | (simp [*, errW_none, errW_some] <;> rfl), by repeat (first | (with_reducible first | exact HB.out | apply below_alloc | apply pw_below_drewN | apply below_drew1 | refine below_set ?_ GE758.out) | exact HB.out)⟩
  · replace c3 := Bool.eq_false_iff.mpr c3
    subst c3
    have H1 : (some true) = some r := by rw [if_neg (show ¬ (false = true) by decide)] at H; exact H
    clear H
    have H := H1
    clear H1
    obtain rfl := Option.some.inj H
    go_enter Try.func42, Try.ntmps42
    go_wp2_with (first | ((with_reducible refine gate_dst (N := 1) rfl ?_); refine box_event ?hg (N := 1) ?hd (cs := #[.int .u8 a0_0, .string a0_1, .string a0_2]) (t := 57) ?hr ?_; (case hd => rfl); (case hg => rfl); (case hr => first | (go_simp; done) | (go_simp; rfl)); intro gb758 hg w9 hbox hb; have n0_ := Aside0.mk (below_step (by repeat (first | (with_reducible first | exact HB.out | apply below_alloc | apply pw_below_drewN | apply below_drew1) | exact HB.out)) hb); have n1_ := Aside0.mk (hbox); have n2_ := Aside0.mk ((by rw [hg]; exact (below_size (by repeat (first | (with_reducible first | exact HB.out | apply below_alloc | apply pw_below_drewN | apply below_drew1) | exact HB.out))) : w.heap.size ≤ gb758)); have n3_ := Aside0.mk ((by rw [hg]; exact (below_size (by repeat (first | (with_reducible first | exact HB.out | apply below_alloc | apply pw_below_drewN | apply below_drew1) | exact HB.out))) : w.heap.size ≤ gb758)); clear HB; have HB := n0_; have BK758 := n1_; have GW758 := n2_; have GE758 := n3_; clear n0_ n1_ n2_ n3_; clear hb hbox hg; have hcz10_0 : w9.cell? ⟨gb758, 0, none⟩ = some (.int .u8 a0_0) := (blk_cell BK758.out 0).trans rfl; have hcz10_1 : w9.cell? ⟨gb758, 1, none⟩ = some (.string a0_1) := (blk_cell BK758.out 1).trans rfl; have hcz10_2 : w9.cell? ⟨gb758, 2, none⟩ = some (.string a0_2) := (blk_cell BK758.out 2).trans rfl; have hfz10_0 := blk_frozen BK758.out 0; have hfz10_1 := blk_frozen BK758.out 1; have hfz10_2 := blk_frozen BK758.out 2) | ((with_reducible refine gate_callee (f := 43) rfl ?_); refine goesL_ (some 5) rfl rfl Try.func43 (by kernel_rfl) rfl #[.agg #[.int .u8 a0_0, .string a0_1]] rfl (by (try simp only [List.map_toArray, List.map_cons, List.map_nil]); first | done | rfl | (simp only [List.length_drop, List.length_take]; rfl) | (rw [IntKind.wrap_u64, Int.emod_eq_of_lt (by omega) (by omega)]; rfl)) ?_; (with_reducible refine (codec_key.calls a0_0 a0_1 false _ A2.out).mono ?_); rintro e w11 ⟨rfl, hb⟩; refine ⟨_, rfl, ?_⟩; have n0_ := Aside0.mk (blk_below (g := gb758) (o := .cells #[.int .u8 a0_0, .string a0_1, .string a0_2] 57 (0, 0)) (by (with_reducible repeat (first | refine blk_drewN ?_ _ | refine blk_drew ?_ | refine blk_alloc ?_ _)); exact BK758.out) hb); have n1_ := Aside0.mk (below_step (by repeat (first | (with_reducible first | exact HB.out | apply below_alloc | apply pw_below_drewN | apply below_drew1 | refine below_set ?_ GE758.out) | exact HB.out)) hb); clear BK758; clear HB; have BK758 := n0_; have HB := n1_; clear n0_ n1_; (try clear hb); (try clear hb2); (try clear hk); (try clear hi)))
    go_ret
    exact ⟨by first | rfl | (simp [errW_none, errW_some] <;> rfl) | (simp [*, errW_none, errW_some] <;> rfl), by repeat (first | (with_reducible first | exact HB.out | apply below_alloc | apply pw_below_drewN | apply below_drew1 | refine below_set ?_ GE758.out) | exact HB.out)⟩

end Go.Proofs.Ytgmdoapedhppmaa.PC

/- Proofs that functions of the program come to what plain Lean functions say; made by wip/drive.py. -/
namespace Go.Proofs.Ytgmdoapedhppmaa.PC
set_option linter.unusedVariables false
set_option linter.unusedSimpArgs false
open Go.RowKit Go.Proofs.YtgmdoapedhppmaaW.PrintWords Go.Proofs.YtgmdoapedhppmaaW.PrintLast Go.Proofs.YtgmdoapedhppmaaW.PrintMore
attribute [local go_sem] max2_int min2_int max_two min_two max_three min_three max_four min_four   -- for this text's walks alone
set_option linter.unusedVariables false
set_option linter.unusedSimpArgs false

/-! ### codec_Less: function 22 -/
def codec_Less.f (k : Nat) (a0_0 : Int) (a0_1 : ByteArray) (a1_0 : Int) (a1_1 : ByteArray) : Option (Bool) := (codec_order.f k a0_0 a0_1 a1_0 a1_1).bind fun t176 => (some (decide (t176 < 0)))
theorem codec_Less.mono : ∀ a0 a1 a2 a3 k, LeO (codec_Less.f k a0 a1 a2 a3) (codec_Less.f (k + 1) a0 a1 a2 a3) := by
  intro a0 a1 a2 a3 k
  unfold codec_Less.f
  repeat' first
      | (with_reducible exact codec_order.mono _ _ _ _ _)
      | (with_reducible exact LeO.refl _)
      | (with_reducible exact LeO.none _)
      | (with_reducible refine LeO.ite ?_ ?_)
      | (with_reducible refine LeO.bind ?_ (fun _ => ?_))
      | exact codec_order.mono _ _ _ _ _
      | exact LeO.none _
      | refine LeO.ite ?_ ?_
      | refine LeO.bind ?_ (fun _ => ?_)
set_option maxHeartbeats 8000000 in
set_option maxRecDepth 100000 in
theorem codec_Less.calls (k : Nat) (a0_0 : Int) (a0_1 : ByteArray) (a1_0 : Int) (a1_1 : ByteArray) (r : Bool) (w : World) (h : codec_Less.f k a0_0 a0_1 a1_0 a1_1 = some r) :
    Calls Try.prog 22 #[.agg #[.int .u8 a0_0, .string a0_1], .agg #[.int .u8 a1_0, .string a1_1]] w fun e w' => e = .returned (.bool r) ∧ Below w.heap.size w w' := by
  have hu28 := Try.underlying28
  have HB := Aside0.mk (Below.refl w.heap.size w)
  have H : ((codec_order.f k a0_0 a0_1 a1_0 a1_1).bind fun t176 => (some (decide (t176 < 0)))) = some r := h
  clear h
  replace H := Option.bind_eq_some_iff.mp H
  obtain ⟨t176, A30, H⟩ := H
  replace H : (some (decide (t176 < 0))) = some r := H
  have A3 := Aside0.mk A30
  clear A30
  obtain rfl := Option.some.inj H
  go_enter Try.func22, Try.ntmps22
  go_wp2_with (first | ((with_reducible refine gate_dst (N := 2) rfl ?_); refine box_event ?hg (N := 2) ?hd (cs := #[.int .u8 a0_0, .string a0_1]) (t := 28) ?hr ?_; (case hd => rfl); (case hg => rfl); (case hr => first | (go_simp; done) | (go_simp; rfl)); intro gb174 hg w4 hbox hb; have n0_ := Aside0.mk (below_step (by repeat (first | (with_reducible first | exact HB.out | apply below_alloc | apply pw_below_drewN | apply below_drew1) | exact HB.out)) hb); have n1_ := Aside0.mk (hbox); have n2_ := Aside0.mk ((by rw [hg]; exact (below_size (by repeat (first | (with_reducible first | exact HB.out | apply below_alloc | apply pw_below_drewN | apply below_drew1) | exact HB.out))) : w.heap.size ≤ gb174)); have n3_ := Aside0.mk ((by rw [hg]; exact (below_size (by repeat (first | (with_reducible first | exact HB.out | apply below_alloc | apply pw_below_drewN | apply below_drew1) | exact HB.out))) : w.heap.size ≤ gb174)); clear HB; have HB := n0_; have BK174 := n1_; have GW174 := n2_; have GE174 := n3_; clear n0_ n1_ n2_ n3_; clear hb hbox hg) | ((with_reducible refine gate_dst (N := 3) rfl ?_); refine box_event ?hg (N := 3) ?hd (cs := #[.int .u8 a1_0, .string a1_1]) (t := 28) ?hr ?_; (case hd => rfl); (case hg => rfl); (case hr => first | (go_simp; done) | (go_simp; rfl)); intro gb175 hg w5 hbox hb; have n0_ := Aside0.mk (blk_below (g := gb174) (o := .cells #[.int .u8 a0_0, .string a0_1] 28 (0, 0)) (by (with_reducible repeat (first | refine blk_drewN ?_ _ | refine blk_drew ?_ | refine blk_alloc ?_ _)); exact BK174.out) hb); have n1_ := Aside0.mk (below_step (by repeat (first | (with_reducible first | exact HB.out | apply below_alloc | apply pw_below_drewN | apply below_drew1 | refine below_set ?_ GE174.out) | exact HB.out)) hb); have n2_ := Aside0.mk (hbox); have n3_ := Aside0.mk ((by rw [hg]; exact (below_size (by repeat (first | (with_reducible first | exact HB.out | apply below_alloc | apply pw_below_drewN | apply below_drew1 | refine below_set ?_ GE174.out) | exact HB.out))) : w.heap.size ≤ gb175)); have n4_ := Aside0.mk ((by rw [hg]; exact (below_size (by repeat (first | (with_reducible first | exact HB.out | apply below_alloc | apply pw_below_drewN | apply below_drew1 | refine below_set ?_ GE174.out) | exact HB.out))) : w.heap.size ≤ gb175)); have n5_ := Aside0.mk ((by rw [hg]; exact Nat.ne_of_lt (blk_lt (g := gb174) (o := .cells #[.int .u8 a0_0, .string a0_1] 28 (0, 0)) (by (with_reducible repeat (first | refine blk_drewN ?_ _ | refine blk_drew ?_ | refine blk_alloc ?_ _)); exact BK174.out)) : gb174 ≠ gb175)); have n6_ := Aside0.mk ((by rw [hg]; exact Nat.ne_of_gt (blk_lt (g := gb174) (o := .cells #[.int .u8 a0_0, .string a0_1] 28 (0, 0)) (by (with_reducible repeat (first | refine blk_drewN ?_ _ | refine blk_drew ?_ | refine blk_alloc ?_ _)); exact BK174.out)) : gb175 ≠ gb174)); clear BK174; clear HB; have BK174 := n0_; have HB := n1_; have BK175 := n2_; have GW175 := n3_; have GE175 := n4_; have NB174_175 := n5_; have NB175_174 := n6_; clear n0_ n1_ n2_ n3_ n4_ n5_ n6_; clear hb hbox hg; have hnb6 := NB174_175.out; have hnc6 := NB175_174.out; have hcz7_0 : w5.cell? ⟨gb174, 0, none⟩ = some (.int .u8 a0_0) := (blk_cell BK174.out 0).trans rfl; have hcz7_1 : w5.cell? ⟨gb174, 1, none⟩ = some (.string a0_1) := (blk_cell BK174.out 1).trans rfl; have hfz7_0 := blk_frozen BK174.out 0; have hfz7_1 := blk_frozen BK174.out 1; have hcz8_0 : w5.cell? ⟨gb175, 0, none⟩ = some (.int .u8 a1_0) := (blk_cell BK175.out 0).trans rfl; have hcz8_1 : w5.cell? ⟨gb175, 1, none⟩ = some (.string a1_1) := (blk_cell BK175.out 1).trans rfl; have hfz8_0 := blk_frozen BK175.out 0; have hfz8_1 := blk_frozen BK175.out 1) | ((with_reducible refine gate_callee (f := 48) rfl ?_); refine goesL_ (some 7) rfl rfl Try.func48 (by kernel_rfl) rfl #[.agg #[.int .u8 a0_0, .string a0_1], .agg #[.int .u8 a1_0, .string a1_1]] rfl (by (try simp only [List.map_toArray, List.map_cons, List.map_nil]); first | done | rfl | (simp only [List.length_drop, List.length_take]; rfl) | (rw [IntKind.wrap_u64, Int.emod_eq_of_lt (by omega) (by omega)]; rfl)) ?_; (with_reducible refine (codec_order.calls k a0_0 a0_1 a1_0 a1_1 t176 _ A3.out).mono ?_); rintro e w9 ⟨rfl, hb⟩; refine ⟨_, rfl, ?_⟩; have n0_ := Aside0.mk (blk_below (g := gb174) (o := .cells #[.int .u8 a0_0, .string a0_1] 28 (0, 0)) (by (with_reducible repeat (first | refine blk_drewN ?_ _ | refine blk_drew ?_ | refine blk_alloc ?_ _)); exact BK174.out) hb); have n1_ := Aside0.mk (blk_below (g := gb175) (o := .cells #[.int .u8 a1_0, .string a1_1] 28 (0, 0)) (by (with_reducible repeat (first | refine blk_drewN ?_ _ | refine blk_drew ?_ | refine blk_alloc ?_ _)); exact BK175.out) hb); have n2_ := Aside0.mk (below_step (by repeat (first | (with_reducible first | exact HB.out | apply below_alloc | apply pw_below_drewN | apply below_drew1 | refine below_set ?_ GE174.out | refine below_set ?_ GE175.out) | exact HB.out)) hb); clear BK174; clear BK175; clear HB; have BK174 := n0_; have BK175 := n1_; have HB := n2_; clear n0_ n1_ n2_; (try clear hb); (try clear hb2); (try clear hk); (try clear hi)))
  go_ret
  exact ⟨by first | rfl | (simp [errW_none, errW_some] <;> rfl) | (simp [*, errW_none, errW_some] <;> rfl), by repeat (first | (with_reducible first | exact HB.out | apply below_alloc | apply pw_below_drewN | apply below_drew1 | refine below_set ?_ GE174.out | refine below_set ?_ GE175.out) | exact HB.out)⟩

end Go.Proofs.Ytgmdoapedhppmaa.PC

namespace Go.Proofs.Ytgmdoapedhppmaa.PC
set_option linter.unusedVariables false
set_option linter.unusedSimpArgs false
open Go.RowKit Go.Proofs.YtgmdoapedhppmaaW.PrintWords Go.Proofs.YtgmdoapedhppmaaW.PrintLast Go.Proofs.YtgmdoapedhppmaaW.PrintMore
def cmpI (a b : Int) : Int := if a < b then -1 else if a > b then 1 else 0
def cmpS (a b : ByteArray) : Int := if (Op.bytesLess a.toList b.toList) = true then -1 else (if (Op.bytesLess b.toList a.toList) = true then 1 else 0)
def ordI (a b : S28) : Int := if cmpI a.f0 b.f0 = 0 then cmpS a.f1 b.f1 else cmpI a.f0 b.f0
def lessB (a b : S28) : Bool := decide (a.f0 < b.f0) || (decide (a.f0 = b.f0) && Op.bytesLess a.f1.toList b.f1.toList)
theorem compare_u8 (a b : Int) : cmp_Compare_uint8.f a b = some (cmpI a b) := by
  unfold cmp_Compare_uint8.f cmp_isNaN_uint8.f cmpI
  simp
  split
  · rfl
  · split <;> rfl
theorem compare_u64 (a b : Int) : cmp_Compare_uint64.f a b = some (cmpI a b) := by
  unfold cmp_Compare_uint64.f cmp_isNaN_uint64.f cmpI
  simp
  split
  · rfl
  · split <;> rfl
theorem compare_str (a b : ByteArray) : cmp_Compare_string.f a b = some (cmpS a b) := by
  unfold cmp_Compare_string.f cmp_isNaN_string.f cmpS
  simp
  split
  · rfl
  · split <;> rfl
theorem or_two (x y : Int) : cmp_Or_int.f 3 [x, y] = some (if x = 0 then y else x) := by
  unfold cmp_Or_int.f
  have w1 : wrap64 (0 + 1) = 1 := by unfold wrap64; omega
  have w2 : wrap64 (1 + 1) = 2 := by unfold wrap64; omega
  have r0 : rd [x, y] 0 = x := rfl
  have r1 : rd [x, y] 1 = y := rfl
  simp only [cmp_Or_int.l0, List.length_cons, List.length_nil, r0, w1, r1, w2]
  by_cases hx : x = 0
  · by_cases hy : y = 0
    · simp [hx, hy]
    · simp [hx, hy]
  · simp [hx]
theorem order_f (a b : S28) : codec_order.f 3 a.f0 a.f1 b.f0 b.f1 = some (ordI a b) := by
  unfold codec_order.f ordI
  rw [compare_u8, compare_str]
  simp only [Option.bind_some]
  rw [or_two]
  rfl
theorem ord_less (a b : S28) : ordI a b < 0 ↔ lessB a b = true := by
  unfold ordI lessB cmpI cmpS
  by_cases h1 : a.f0 < b.f0
  · simp [h1]
  · by_cases h2 : a.f0 > b.f0
    · have : ¬ a.f0 = b.f0 := by omega
      simp [h1, h2, this]
    · have e : a.f0 = b.f0 := by omega
      simp only [e, Int.lt_irrefl, gt_iff_lt, if_false, if_true, decide_false, Bool.false_or, decide_true, Bool.true_and]
      by_cases h3 : Op.bytesLess a.f1.toList b.f1.toList = true
      · simp [h3]
      · by_cases h4 : Op.bytesLess b.f1.toList a.f1.toList = true
        · simp [h3, h4]
        · simp [h3, h4]
theorem less_f (a b : S28) : codec_Less.f 3 a.f0 a.f1 b.f0 b.f1 = some (lessB a b) := by
  unfold codec_Less.f
  rw [order_f]
  simp only [Option.bind_some, Option.some.injEq]
  cases h : lessB a b with
  | true => exact decide_eq_true ((ord_less a b).2 h)
  | false => exact decide_eq_false (fun hh => by rw [(ord_less a b).1 hh] at h; cases h)
/-- A key, a value, a change that may be. -/
def keyB (k : S28) : Bool := decide (k.f0 < 8) && (k.f1.toList != ([] : List UInt8)) && decide ((k.f1.size : Int) ≤ 64)
def valueB (s : ByteArray) : Bool := decide ((s.size : Int) ≤ 256)
def changeB (c : S50) : Bool := keyB c.f0 && valueB c.f2 && (!c.f1 || (c.f2.toList == ([] : List UInt8)))
theorem key_f (k : S28) : codec_key.f k.f0 k.f1 = some (keyB k) := by
  unfold codec_key.f keyB
  by_cases h1 : k.f0 < 8
  · by_cases h2 : k.f1.toList = ([] : List UInt8)
    · simp [h1, h2]
    · simp [h1, h2]
  · simp [h1]
theorem value_f (s : ByteArray) : codec_value.f s = some (valueB s) := rfl
theorem change_f (c : S50) : codec_change.f c.f0.f0 c.f0.f1 c.f1 c.f2 = some (changeB c) := by
  unfold codec_change.f changeB
  rw [key_f, value_f]
  simp only [Option.bind_some]
  cases keyB c.f0 <;> cases valueB c.f2 <;> cases c.f1 <;> simp
theorem txn1_f (c : S50) : codec_txn_1.f c.f0.f0 c.f0.f1 c.f1 c.f2 = some (!changeB c) := by
  unfold codec_txn_1.f
  rw [change_f]
  rfl
theorem txn2_f (a b : S50) : codec_txn_2.f 3 a.f0.f0 a.f0.f1 a.f1 a.f2 b.f0.f0 b.f0.f1 b.f1 b.f2 = some (ordI a.f0 b.f0) := by
  unfold codec_txn_2.f
  rw [order_f]
  rfl
theorem rows1_f (r : S57) : codec_RightRows_1.f r.f0.f0 r.f0.f1 r.f1 = some (!(keyB r.f0 && valueB r.f1)) := by
  unfold codec_RightRows_1.f
  rw [key_f, value_f]
  simp only [Option.bind_some]
  cases keyB r.f0 <;> cases valueB r.f1 <;> rfl
theorem rows2_f (a b : S57) : codec_RightRows_2.f 3 a.f0.f0 a.f0.f1 a.f1 b.f0.f0 b.f0.f1 b.f1 = some (ordI a.f0 b.f0) := by
  unfold codec_RightRows_2.f
  rw [order_f]
  rfl
theorem right2_f (a b : S47) : codec_Right_2.f a.f0 a.f1 b.f0 b.f1 = some (cmpI a.f0 b.f0) := by
  unfold codec_Right_2.f
  rw [compare_u64]
  rfl
end Go.Proofs.Ytgmdoapedhppmaa.PC

namespace Go.Proofs.Ytgmdoapedhppmaa.PC
set_option linter.unusedVariables false
set_option linter.unusedSimpArgs false
open Go.RowKit Go.Proofs.YtgmdoapedhppmaaW.PrintWords Go.Proofs.YtgmdoapedhppmaaW.PrintLast Go.Proofs.YtgmdoapedhppmaaW.PrintMore
variable {P : Program} {ops : Array Oper} {Q : Exit → Act → World → Prop}
/-- A call of a function value in a region that draws its order. -/
theorem goesV_ {oi : Oper} {N : Option Tmp} {a : Act} {w : World} {K : Act → World → Prop} {f : FuncId} {fn : Func} {o : Operand} {xs_ : Array Operand} {ts : Array TypeId} {lb : Array Value} (hf : P.funcs[f]? = some fn) (hname : (fn.name == "runtime.NumGoroutine") = false) (hb : fn.body.isSome = true) (args : Array Value)
    (hw : Region.wanted oi (yielded ops a.tmps) = true) (hN : oi.dst = N) (hop : oi.op = .call { callee := .value o, args := xs_, argTypes := ts }) (hv : a.eval o = .func (.func f) #[] lb) (hargs : xs_.map a.eval ++ lb = args)
    (h : Calls P f args w fun e w' => ∃ v, e = .returned v ∧ K (a.put N v) w') : if Region.wanted oi (yielded ops a.tmps) = true then Oper.wp P oi a w K Q else K (a.put N undef) w := by
  refine call_ f args hw hN ?_ h
  have he := enters_ hf hname hb args w
  unfold execOp
  simp [hop, resolve, Deferred.ofValue, invoke, hv, hargs, he]
/-- A call in a region that draws its order, that panics. -/
theorem goesP_ {oi : Oper} {N : Option Tmp} {a : Act} {w : World} {K : Act → World → Prop} {f : FuncId} {fn : Func} {xs_ : Array Operand} {ts : Array TypeId} (hf : P.funcs[f]? = some fn) (hname : (fn.name == "runtime.NumGoroutine") = false) (hb : fn.body.isSome = true) (args : Array Value)
    (hw : Region.wanted oi (yielded ops a.tmps) = true) (hN : oi.dst = N) (hop : oi.op = .call { callee := .value (.func f), args := xs_, argTypes := ts }) (hargs : xs_.map a.eval = args)
    (h : Calls P f args w fun e w' => ∃ ch, e = .panicked ch ∧ Q (.panic ch) a w') : if Region.wanted oi (yielded ops a.tmps) = true then Oper.wp P oi a w K Q else K (a.put N undef) w := by
  have he := enters_ hf hname hb args w
  have hrun : (execOp a.eval oi).run P w = .ok (.enter f args) w := by
    unfold execOp
    simp [hop, resolve, Deferred.ofValue, invoke, Act.eval, hargs, he]
  rw [if_pos hw]
  unfold Oper.wp
  rw [hrun, Oper.upon_enter]
  refine h.mono fun e w'' hh => ?_
  obtain ⟨ch, rfl, hk⟩ := hh
  exact hk
section
variable {S : World → Prop} {ds : List Nat} {md : Region.Mode} {i : Nat} {N : Option Tmp} {oi : Oper} {v : Value} {fuel : Nat} {l : Array Bool} {a : Act} {w : World}
/-- The steps of a region that draws its order, what has come up told by number. -/
theorem pu_ (hi : ops[i]? = some oi) (hN : oi.dst = N) (hc : anyB md ops l (l.setIfInBounds i true) i = true) (hw : Region.wanted oi (yielded ops a.tmps) = true) (hr : ∀ w', (execOp a.eval oi).run P w' = .ok (.value v) w') {a' : Act} (ha : a.put N v = a')
    (h : wpAnyLast P md ops Q S ds fuel (l.setIfInBounds i true) a' w) (hQ : ∀ c a w, Q (.panic c) (a.put oi.dst v) w → Q (.panic c) a w := by exact fun _ _ _ h => h) : wpAnyLast P md ops Q S ds (fuel + 1) l a w := pure_ _ hi hN hc hQ (Or.inl ⟨hw, hr⟩) ha h
theorem of_ (hi : ops[i]? = some oi) (hN : oi.dst = N) (hc : anyB md ops l (l.setIfInBounds i true) i = true) (hw : Region.wanted oi (yielded ops a.tmps) = false) {a' : Act} (ha : a.put N undef = a')
    (h : wpAnyLast P md ops Q S ds fuel (l.setIfInBounds i true) a' w) (hQ : ∀ c a w, Q (.panic c) (a.put oi.dst undef) w → Q (.panic c) a w := by exact fun _ _ _ h => h) : wpAnyLast P md ops Q S ds (fuel + 1) l a w := pure_ _ hi hN hc hQ (Or.inr ⟨hw, rfl⟩) ha h
theorem tk_ (hi : ops[i]? = some oi) (hN : oi.dst = N) (hc : takeB md ops ds l (l.setIfInBounds i true) i = true) (hS : S w) (hw : Region.wanted oi (yielded ops a.tmps) = true) (hr : ∀ w', S w' → (execOp a.eval oi).run P w' = .ok (.value v) w') {a' : Act} (ha : a.put N v = a')
    (h : wpAnyLast P md ops Q S ds fuel (l.setIfInBounds i true) a' w) (hQ : ∀ c a w, Q (.panic c) (a.put oi.dst v) w → Q (.panic c) a w := by exact fun _ _ _ h => h) : wpAnyLast P md ops Q S ds (fuel + 1) l a w := take_ _ hi hN hc hQ (Or.inl ⟨hw, hr⟩) hS ha h
theorem on_ (hi : ops[i]? = some oi) (hN : oi.dst = N) (hc : readyB md ops l (l.setIfInBounds i true) i = true) (hd : i ∉ ds)
    (h : ∀ K : Act → World → Prop, Shut (∀ a' w', S w' → (S w' → wpAnyLast P md ops Q S ds fuel (l.setIfInBounds i true) a' w') → K a' w') → if Region.wanted oi (yielded ops a.tmps) = true then Oper.wp P oi a w K Q else K (a.put N undef) w) :
    wpAnyLast P md ops Q S ds (fuel + 1) l a w := one_ _ hi hN hc hd h
end
end Go.Proofs.Ytgmdoapedhppmaa.PC

namespace Go.Proofs.Ytgmdoapedhppmaa.PC
set_option linter.unusedVariables false
set_option linter.unusedSimpArgs false
open Go.RowKit Go.Proofs.YtgmdoapedhppmaaW.PrintWords Go.Proofs.YtgmdoapedhppmaaW.PrintLast Go.Proofs.YtgmdoapedhppmaaW.PrintMore
set_option linter.unusedVariables false

theorem any_upto {α : Type} (p : α → Bool) (z : α) (l : List α) (k : Nat) (hk : k = l.length) (h : ∀ j, j < k → p (l.getD j z) = false) : l.any p = false := by
  rw [List.any_eq_false]
  intro x hx
  obtain ⟨j, hj, rfl⟩ := List.mem_iff_getElem.1 hx
  have := h j (by omega)
  simp [List.getElem?_eq_getElem hj] at this
  simp [this]
theorem any_at {α : Type} (p : α → Bool) (z : α) (l : List α) (k : Nat) (hk : k < l.length) (h : p (l.getD k z) = true) : l.any p = true := by
  rw [List.any_eq_true]
  refine ⟨l[k], List.getElem_mem hk, ?_⟩
  simpa [List.getElem?_eq_getElem hk] using h

/-- What the closure says of each of a row's elements. -/
def Says57 (p : S57 → Bool) (w : World) : Prop :=
  ∀ (W : World) (x : S57), Below w.heap.size w W → Calls Try.prog 42 #[.agg #[.int .u8 x.f0.f0, .string x.f0.f1, .string x.f1]] W fun e w' => e = .returned (.bool (p x)) ∧ Below w.heap.size w w'

set_option maxHeartbeats 2000000 in
theorem index57 (p : S57 → Bool) (A0 : Option Addr) (c0 : Nat) (l0 : List S57) (w : World) (hr0 : Kd.C k57 w A0 l0.length l0) (hc0 : l0.length ≤ c0) (hbig : l0.length < 9223372036854775807) (hp : Says57 p w) :
    Calls Try.prog 69 #[.slice A0 l0.length c0, .func (.func 42) #[] #[]] w fun e w' => (∃ r : Int, e = .returned (.int .i64 r) ∧ decide (0 ≤ r) = l0.any p) ∧ Below w.heap.size w w' := by
  have HR0 := Aside0.mk hr0
  clear hr0
  go_enter Try.func69, Try.ntmps69
  go_wp2
  go_loopg [5, 8] l0.length (fun gg _ s8 wr => ∃ kk : Nat, kk ≤ l0.length ∧ l0.length - kk ≤ gg ∧ s8 = .int .i64 kk ∧ Aside0 (Below w.heap.size w wr) ∧ Aside0 (∀ j, j < kk → p (l0.getD j z57) = false))
  case atStart => exact ⟨0, Nat.zero_le _, by omega, rfl, ⟨Below.refl _ w⟩, ⟨fun j hj => absurd hj (Nat.not_lt_zero _)⟩⟩
  case round =>
    obtain ⟨kk, hkk, hg, rfl, BW, A⟩ := hrel
    by_cases hlt : kk < l0.length
    · have hltz : (kk : Int) < (l0.length : Int) := by omega
      obtain ⟨ad, ea, hx0, hx1, hx2⟩ := at_T57 HR0.out (kk : Int) (by omega) hltz
      cases ea
      simp only [Int.toNat_natCast] at hx0 hx1 hx2
      rw [← BW.out.cell (World.block_lt_of_cell? w _ hx0)] at hx0
      rw [← BW.out.cell (World.block_lt_of_cell? w _ hx1)] at hx1
      rw [← BW.out.cell (World.block_lt_of_cell? w _ hx2)] at hx2
      have hcall := hp wr (rd_T57 l0 (kk : Int)) BW.out
      have hB : Aside0 (rd_T57 l0 (kk : Int) = l0.getD kk z57) := ⟨rfl⟩
      generalize rd_T57 l0 (kk : Int) = y at hx0 hx1 hx2 hcall hB
      cases hq : p y with
      | true =>
        rw [hq] at hcall
        go_wp2_with fail
        with_reducible refine hcall.mono ?_
        rintro e w' ⟨rfl, hb'⟩
        go_wp2
        go_ret
        exact ⟨⟨kk, rfl, by rw [any_at p z57 l0 kk hlt (by rw [← hB.out]; exact hq)]; simp⟩, hb'⟩
      | false =>
        rw [hq] at hcall
        go_wp2_with fail
        with_reducible refine hcall.mono ?_
        rintro e w' ⟨rfl, hb'⟩
        go_wp2
        go_roundg (l0.length - (kk + 1))
        case measure => omega
        case rel =>
          refine ⟨kk + 1, by omega, by omega, by go_num, ⟨hb'⟩, (show Aside0 _ from Aside0.mk <| fun j hj => ?_)⟩
          by_cases e : j = kk
          · subst e
            rw [← hB.out]; exact hq
          · exact A.out j (by omega)
    · have hltz : ¬ (kk : Int) < (l0.length : Int) := by omega
      go_wp2
      go_ret
      exact ⟨⟨-1, rfl, by rw [any_upto p z57 l0 kk (by omega) A.out]; rfl⟩, BW.out⟩

theorem contains57 (p : S57 → Bool) (A0 : Option Addr) (c0 : Nat) (l0 : List S57) (w : World) (hr0 : Kd.C k57 w A0 l0.length l0) (hc0 : l0.length ≤ c0) (hbig : l0.length < 9223372036854775807) (hp : Says57 p w) :
    Calls Try.prog 45 #[.slice A0 l0.length c0, .func (.func 42) #[] #[]] w fun e w' => e = .returned (.bool (l0.any p)) ∧ Below w.heap.size w w' := by
  have hcall := index57 p A0 c0 l0 w hr0 hc0 hbig hp
  clear hr0 hp
  generalize hq : l0.any p = q at hcall ⊢
  clear hq
  go_enter Try.func45, Try.ntmps45
  go_wp2_with fail
  with_reducible refine hcall.mono ?_
  rintro e w' ⟨⟨r, rfl, hr⟩, hb'⟩
  go_wp2
  go_ret
  exact ⟨by rw [← hr]; rfl, hb'⟩

/-- What the closure says of each of a row's elements. -/
def Says50 (p : S50 → Bool) (w : World) : Prop :=
  ∀ (W : World) (x : S50), Below w.heap.size w W → Calls Try.prog 62 #[.agg #[.int .u8 x.f0.f0, .string x.f0.f1, .bool x.f1, .string x.f2]] W fun e w' => e = .returned (.bool (p x)) ∧ Below w.heap.size w w'

set_option maxHeartbeats 2000000 in
theorem index50 (p : S50 → Bool) (A0 : Option Addr) (c0 : Nat) (l0 : List S50) (w : World) (hr0 : Kd.C k50 w A0 l0.length l0) (hc0 : l0.length ≤ c0) (hbig : l0.length < 9223372036854775807) (hp : Says50 p w) :
    Calls Try.prog 80 #[.slice A0 l0.length c0, .func (.func 62) #[] #[]] w fun e w' => (∃ r : Int, e = .returned (.int .i64 r) ∧ decide (0 ≤ r) = l0.any p) ∧ Below w.heap.size w w' := by
  have HR0 := Aside0.mk hr0
  clear hr0
  go_enter Try.func80, Try.ntmps80
  go_wp2
  go_loopg [5, 8] l0.length (fun gg _ s8 wr => ∃ kk : Nat, kk ≤ l0.length ∧ l0.length - kk ≤ gg ∧ s8 = .int .i64 kk ∧ Aside0 (Below w.heap.size w wr) ∧ Aside0 (∀ j, j < kk → p (l0.getD j z50) = false))
  case atStart => exact ⟨0, Nat.zero_le _, by omega, rfl, ⟨Below.refl _ w⟩, ⟨fun j hj => absurd hj (Nat.not_lt_zero _)⟩⟩
  case round =>
    obtain ⟨kk, hkk, hg, rfl, BW, A⟩ := hrel
    by_cases hlt : kk < l0.length
    · have hltz : (kk : Int) < (l0.length : Int) := by omega
      obtain ⟨ad, ea, hx0, hx1, hx2, hx3⟩ := at_T50 HR0.out (kk : Int) (by omega) hltz
      cases ea
      simp only [Int.toNat_natCast] at hx0 hx1 hx2 hx3
      rw [← BW.out.cell (World.block_lt_of_cell? w _ hx0)] at hx0
      rw [← BW.out.cell (World.block_lt_of_cell? w _ hx1)] at hx1
      rw [← BW.out.cell (World.block_lt_of_cell? w _ hx2)] at hx2
      rw [← BW.out.cell (World.block_lt_of_cell? w _ hx3)] at hx3
      have hcall := hp wr (rd_T50 l0 (kk : Int)) BW.out
      have hB : Aside0 (rd_T50 l0 (kk : Int) = l0.getD kk z50) := ⟨rfl⟩
      generalize rd_T50 l0 (kk : Int) = y at hx0 hx1 hx2 hx3 hcall hB
      cases hq : p y with
      | true =>
        rw [hq] at hcall
        go_wp2_with fail
        with_reducible refine hcall.mono ?_
        rintro e w' ⟨rfl, hb'⟩
        go_wp2
        go_ret
        exact ⟨⟨kk, rfl, by rw [any_at p z50 l0 kk hlt (by rw [← hB.out]; exact hq)]; simp⟩, hb'⟩
      | false =>
        rw [hq] at hcall
        go_wp2_with fail
        with_reducible refine hcall.mono ?_
        rintro e w' ⟨rfl, hb'⟩
        go_wp2
        go_roundg (l0.length - (kk + 1))
        case measure => omega
        case rel =>
          refine ⟨kk + 1, by omega, by omega, by go_num, ⟨hb'⟩, (show Aside0 _ from Aside0.mk <| fun j hj => ?_)⟩
          by_cases e : j = kk
          · subst e
            rw [← hB.out]; exact hq
          · exact A.out j (by omega)
    · have hltz : ¬ (kk : Int) < (l0.length : Int) := by omega
      go_wp2
      go_ret
      exact ⟨⟨-1, rfl, by rw [any_upto p z50 l0 kk (by omega) A.out]; rfl⟩, BW.out⟩

theorem contains50 (p : S50 → Bool) (A0 : Option Addr) (c0 : Nat) (l0 : List S50) (w : World) (hr0 : Kd.C k50 w A0 l0.length l0) (hc0 : l0.length ≤ c0) (hbig : l0.length < 9223372036854775807) (hp : Says50 p w) :
    Calls Try.prog 64 #[.slice A0 l0.length c0, .func (.func 62) #[] #[]] w fun e w' => e = .returned (.bool (l0.any p)) ∧ Below w.heap.size w w' := by
  have hcall := index50 p A0 c0 l0 w hr0 hc0 hbig hp
  clear hr0 hp
  generalize hq : l0.any p = q at hcall ⊢
  clear hq
  go_enter Try.func64, Try.ntmps64
  go_wp2_with fail
  with_reducible refine hcall.mono ?_
  rintro e w' ⟨⟨r, rfl, hr⟩, hb'⟩
  go_wp2
  go_ret
  exact ⟨by rw [← hr]; rfl, hb'⟩

/-- What the closure says of each of a row's elements. -/
def Says47 (b : Nat) (p : S47 → Bool) (w : World) : Prop :=
  ∀ (W : World) (x : S47) (A : Option Addr) (c : Nat), Below w.heap.size w W → x.f1.length ≤ c → Kd.C k50 w A x.f1.length x.f1 → Calls Try.prog 36 #[.agg #[.int .u64 x.f0, .slice A x.f1.length c], .pointer (some ⟨b, 0, none⟩)] W fun e w' => e = .returned (.bool (p x)) ∧ Below w.heap.size w w'

set_option maxHeartbeats 2000000 in
theorem index47 (b : Nat) (p : S47 → Bool) (A0 : Option Addr) (c0 : Nat) (l0 : List S47) (w : World) (hr0 : Kd.C k47 w A0 l0.length l0) (hc0 : l0.length ≤ c0) (hbig : l0.length < 9223372036854775807) (hp : Says47 b p w) :
    Calls Try.prog 67 #[.slice A0 l0.length c0, .func (.func 36) #[] #[.pointer (some ⟨b, 0, none⟩)]] w fun e w' => (∃ r : Int, e = .returned (.int .i64 r) ∧ decide (0 ≤ r) = l0.any p) ∧ Below w.heap.size w w' := by
  have HR0 := Aside0.mk hr0
  clear hr0
  go_enter Try.func67, Try.ntmps67
  go_wp2
  go_loopg [5, 8] l0.length (fun gg _ s8 wr => ∃ kk : Nat, kk ≤ l0.length ∧ l0.length - kk ≤ gg ∧ s8 = .int .i64 kk ∧ Aside0 (Below w.heap.size w wr) ∧ Aside0 (∀ j, j < kk → p (l0.getD j z47) = false))
  case atStart => exact ⟨0, Nat.zero_le _, by omega, rfl, ⟨Below.refl _ w⟩, ⟨fun j hj => absurd hj (Nat.not_lt_zero _)⟩⟩
  case round =>
    obtain ⟨kk, hkk, hg, rfl, BW, A⟩ := hrel
    by_cases hlt : kk < l0.length
    · have hltz : (kk : Int) < (l0.length : Int) := by omega
      obtain ⟨ad, A1, c1, ea, hx0, hx1, hl1, hC1⟩ := at_T47 HR0.out (kk : Int) (by omega) hltz
      cases ea
      simp only [Int.toNat_natCast] at hx0 hx1
      rw [← BW.out.cell (World.block_lt_of_cell? w _ hx0)] at hx0
      rw [← BW.out.cell (World.block_lt_of_cell? w _ hx1)] at hx1
      have hcall := hp wr (rd_T47 l0 (kk : Int)) _ _ BW.out hl1 hC1
      have hB : Aside0 (rd_T47 l0 (kk : Int) = l0.getD kk z47) := ⟨rfl⟩
      clear hl1 hC1
      generalize rd_T47 l0 (kk : Int) = y at hx0 hx1 hcall hB
      cases hq : p y with
      | true =>
        rw [hq] at hcall
        go_wp2_with fail
        with_reducible refine hcall.mono ?_
        rintro e w' ⟨rfl, hb'⟩
        go_wp2
        go_ret
        exact ⟨⟨kk, rfl, by rw [any_at p z47 l0 kk hlt (by rw [← hB.out]; exact hq)]; simp⟩, hb'⟩
      | false =>
        rw [hq] at hcall
        go_wp2_with fail
        with_reducible refine hcall.mono ?_
        rintro e w' ⟨rfl, hb'⟩
        go_wp2
        go_roundg (l0.length - (kk + 1))
        case measure => omega
        case rel =>
          refine ⟨kk + 1, by omega, by omega, by go_num, ⟨hb'⟩, (show Aside0 _ from Aside0.mk <| fun j hj => ?_)⟩
          by_cases e : j = kk
          · subst e
            rw [← hB.out]; exact hq
          · exact A.out j (by omega)
    · have hltz : ¬ (kk : Int) < (l0.length : Int) := by omega
      go_wp2
      go_ret
      exact ⟨⟨-1, rfl, by rw [any_upto p z47 l0 kk (by omega) A.out]; rfl⟩, BW.out⟩

theorem contains47 (b : Nat) (p : S47 → Bool) (A0 : Option Addr) (c0 : Nat) (l0 : List S47) (w : World) (hr0 : Kd.C k47 w A0 l0.length l0) (hc0 : l0.length ≤ c0) (hbig : l0.length < 9223372036854775807) (hp : Says47 b p w) :
    Calls Try.prog 38 #[.slice A0 l0.length c0, .func (.func 36) #[] #[.pointer (some ⟨b, 0, none⟩)]] w fun e w' => e = .returned (.bool (l0.any p)) ∧ Below w.heap.size w w' := by
  have hcall := index47 b p A0 c0 l0 w hr0 hc0 hbig hp
  clear hr0 hp
  generalize hq : l0.any p = q at hcall ⊢
  clear hq
  go_enter Try.func38, Try.ntmps38
  go_wp2_with fail
  with_reducible refine hcall.mono ?_
  rintro e w' ⟨⟨r, rfl, hr⟩, hb'⟩
  go_wp2
  go_ret
  exact ⟨by rw [← hr]; rfl, hb'⟩

end Go.Proofs.Ytgmdoapedhppmaa.PC

namespace Go.Proofs.Ytgmdoapedhppmaa.PC
set_option linter.unusedVariables false
set_option linter.unusedSimpArgs false
open Go.RowKit Go.Proofs.YtgmdoapedhppmaaW.PrintWords Go.Proofs.YtgmdoapedhppmaaW.PrintLast Go.Proofs.YtgmdoapedhppmaaW.PrintMore
set_option linter.unusedVariables false

/-- Each is less than the next one. -/
def rises {α : Type} (c_ : α → α → Int) (z : α) (l : List α) : Bool := (List.range l.length).all fun j => decide (j = 0) || decide (c_ (l.getD (j - 1) z) (l.getD j z) < 0)
theorem rises_yes {α : Type} (c_ : α → α → Int) (z : α) (l : List α) (h : ∀ j, 0 < j → j < l.length → c_ (l.getD (j - 1) z) (l.getD j z) < 0) : rises c_ z l = true := by
  unfold rises
  rw [List.all_eq_true]
  intro j hj
  rw [List.mem_range] at hj
  by_cases e : j = 0
  · simp [e]
  · rw [decide_eq_true (h j (by omega) hj)]; simp
theorem rises_no {α : Type} (c_ : α → α → Int) (z : α) (l : List α) (j : Nat) (h0 : 0 < j) (hj : j < l.length) (h : 0 ≤ c_ (l.getD (j - 1) z) (l.getD j z)) : rises c_ z l = false := by
  unfold rises
  rw [List.all_eq_false]
  refine ⟨j, List.mem_range.2 hj, ?_⟩
  have : ¬ c_ (l.getD (j - 1) z) (l.getD j z) < 0 := by omega
  rw [decide_eq_false this, decide_eq_false (show ¬ j = 0 by omega)]
  decide
theorem rises_iff {α : Type} (c_ : α → α → Int) (z : α) (l : List α) : rises c_ z l = true ↔ ∀ j, 0 < j → j < l.length → c_ (l.getD (j - 1) z) (l.getD j z) < 0 := by
  refine ⟨fun h j h0 hj => ?_, rises_yes c_ z l⟩
  by_cases e : c_ (l.getD (j - 1) z) (l.getD j z) < 0
  · exact e
  · rw [rises_no c_ z l j h0 hj (by omega)] at h
    cases h

theorem w64_in (n : Int) (h : -9223372036854775808 ≤ n ∧ n ≤ 9223372036854775807) : wrap64 n = n := by unfold wrap64; omega

def ris57_T : Bool × List (List Nat × List Nat) := (true, [([], []), ([0], [0]), ([1], [1]), ([2], [2]), ([2], [2]), ([2], [2]), ([5, 2], [2, 5]), ([4, 6, 2], [2, 4, 6]), ([7, 2], [2, 7]), ([2], [2]), ([2], [2]), ([9, 10, 2], [2, 9, 10]), ([11, 2], [2, 11]), ([3, 8, 12, 2, 2], [2, 3, 8, 12]), ([13, 2], [2, 13]), ([2, 14], [2, 14])])
def ris57_B : List Nat := [0, 1, 3, 7, 7, 7, 39, 119, 247, 7, 7, 1543, 3591, 8191, 16383, 32767]
theorem ris57_tab : rtab .any (opsOf Try.f46 4) = ris57_T := by kernel_rfl
theorem ris57_bits : waitsOk ris57_T.2 ris57_B = true := by kernel_rfl

/-- What the order says of two of a row's elements. -/
def SaysR57 (c_ : S57 → S57 → Int) (w : World) : Prop :=
  ∀ (W : World) (x y : S57), Below w.heap.size w W → Calls Try.prog 47 #[.agg #[.int .u8 x.f0.f0, .string x.f0.f1, .string x.f1], .agg #[.int .u8 y.f0.f0, .string y.f0.f1, .string y.f1]] W fun e w' => e = .returned (.int .i64 (c_ x y)) ∧ Below w.heap.size w w'

set_option maxHeartbeats 4000000 in
theorem rising57 (c_ : S57 → S57 → Int) (A0 : Option Addr) (c0 : Nat) (l0 : List S57) (w : World) (hr0 : Kd.C k57 w A0 l0.length l0) (hc0 : l0.length ≤ c0) (hbig : l0.length < 9223372036854775807) (hp : SaysR57 c_ w) :
    Calls Try.prog 46 #[.slice A0 l0.length c0, .func (.func 47) #[] #[]] w fun e w' => e = .returned (.bool (rises c_ z57 l0)) ∧ Below w.heap.size w w' := by
  have HR0 := Aside0.mk hr0
  clear hr0
  go_enter Try.func46, Try.ntmps46
  go_wp2
  go_loopg [5, 8] l0.length (fun gg _ s8 wr => ∃ x : Int, 0 ≤ x ∧ x ≤ (l0.length : Int) ∧ (l0.length : Int) - x ≤ gg ∧ s8 = .int .i64 x ∧ Aside0 (Below w.heap.size w wr) ∧ Aside0 (∀ j : Nat, 0 < j → (j : Int) < x → c_ (l0.getD (j - 1) z57) (l0.getD j z57) < 0))
  case atStart => exact ⟨0, by omega, by omega, by omega, rfl, ⟨Below.refl _ w⟩, ⟨fun j h0 hj => absurd hj (by omega)⟩⟩
  case round =>
    obtain ⟨x, hx, hkk, hg, rfl, BW, A⟩ := hrel
    have HG := Aside0.mk hg
    have HK := Aside0.mk hkk
    clear hg hkk
    by_cases hlt : x < (l0.length : Int)
    · by_cases h0 : 0 < x
      · have hgt : (decide (x > 0)) = true := decide_eq_true h0
        obtain ⟨j, hj⟩ : ∃ j : Int, wrap64 (x - 1) = j := ⟨_, rfl⟩
        have hjx : Aside0 (j = x - 1) := ⟨by rw [← hj, w64_in _ (by omega)]⟩
        have j0 : 0 ≤ j := by have := hjx.out; omega
        have j1 : j < (l0.length : Int) := by have := hjx.out; omega
        obtain ⟨ad, ea, hx0, hx1, hx2⟩ := at_T57 HR0.out j j0 j1
        obtain ⟨ad', ea', hy0, hy1, hy2⟩ := at_T57 HR0.out x hx hlt
        cases ea
        cases ea'
        have hB : Aside0 (rd_T57 l0 j = l0.getD j.toNat z57) := ⟨rfl⟩
        have hB' : Aside0 (rd_T57 l0 x = l0.getD x.toNat z57) := ⟨rfl⟩
        generalize rd_T57 l0 j = y at hx0 hx1 hx2 hB
        generalize rd_T57 l0 x = y' at hy0 hy1 hy2 hB'
        obtain ⟨q, hq⟩ : ∃ q, q = c_ y y' := ⟨_, rfl⟩
        go_wp2_with fail
        refine start_ (n := 16) (S := fun W' => Below w.heap.size w W') (ds := []) #[false, false, false, false, false, false, false, false, false, false, false, false, false, false, false, false] (by kernel_rfl) rfl rfl (below_drew BW.out) (fun hHeld => ?_)
        refine with_tabW ris57_tab ris57_bits (fun HT_ HW_ => ?_)
        refine pure_ (i := 0) (N := some 11) (v := ?_) (a' := ?_) #[true, false, false, false, false, false, false, false, false, false, false, false, false, false, false, false] rfl rfl (any_of HT_.out (by kernel_rfl)) (fun _ _ _ h => h) (Or.inl ⟨by rfl, ?_⟩) ?_ ?_
        rotate_left
        · intro w'
          go_simp
          all_goals with_reducible rfl
        rotate_left
        · simp only [Act.put, List.setIfInBounds_toArray, List.set_cons_zero, List.set_cons_succ, i64_w, i32_w]
          rfl
        refine pure_ (i := 1) (N := some 12) (v := ?_) (a' := ?_) #[true, true, false, false, false, false, false, false, false, false, false, false, false, false, false, false] rfl rfl (any_of HT_.out (by kernel_rfl)) (fun _ _ _ h => h) (Or.inl ⟨by rfl, ?_⟩) ?_ ?_
        rotate_left
        · intro w'
          go_simp
          all_goals with_reducible rfl
        rotate_left
        · simp only [Act.put, List.setIfInBounds_toArray, List.set_cons_zero, List.set_cons_succ, i64_w, i32_w]
          rfl
        refine pure_ (i := 2) (N := some 13) (v := ?_) (a' := ?_) #[true, true, true, false, false, false, false, false, false, false, false, false, false, false, false, false] rfl rfl (any_of HT_.out (by kernel_rfl)) (fun _ _ _ h => h) (Or.inl ⟨by rfl, ?_⟩) ?_ ?_
        rotate_left
        · intro w'
          go_simp
          all_goals with_reducible rfl
        rotate_left
        · simp only [Act.put, List.setIfInBounds_toArray, List.set_cons_zero, List.set_cons_succ, i64_w, i32_w]
          rfl
        refine pure_ (i := 3) (N := some 14) (v := ?_) (a' := ?_) #[true, true, true, true, false, false, false, false, false, false, false, false, false, false, false, false] rfl rfl (any_of HT_.out (by kernel_rfl)) (fun _ _ _ h => h) (Or.inl ⟨by rfl, ?_⟩) ?_ ?_
        rotate_left
        · intro w'
          go_simp
          all_goals with_reducible rfl
        rotate_left
        · simp only [Act.put, List.setIfInBounds_toArray, List.set_cons_zero, List.set_cons_succ, i64_w, i32_w]
          rfl
        refine pure_ (i := 4) (N := some 15) (v := ?_) (a' := ?_) #[true, true, true, true, true, false, false, false, false, false, false, false, false, false, false, false] rfl rfl (any_of HT_.out (by kernel_rfl)) (fun _ _ _ h => h) (Or.inl ⟨by rfl, ?_⟩) ?_ ?_
        rotate_left
        · intro w'
          go_simp
          all_goals with_reducible rfl
        rotate_left
        · simp only [Act.put, List.setIfInBounds_toArray, List.set_cons_zero, List.set_cons_succ, i64_w, i32_w]
          rfl
        refine pure_ (i := 5) (N := some 16) (v := ?_) (a' := ?_) #[true, true, true, true, true, true, false, false, false, false, false, false, false, false, false, false] rfl rfl (any_of HT_.out (by kernel_rfl)) (fun _ _ _ h => h) (Or.inl ⟨by rfl, ?_⟩) ?_ ?_
        rotate_left
        · intro w'
          go_simp
          all_goals with_reducible rfl
        rotate_left
        · simp only [Act.put, List.setIfInBounds_toArray, List.set_cons_zero, List.set_cons_succ, i64_w, i32_w]
          rfl
        refine pure_ (i := 6) (N := some 17) (v := ?_) (a' := ?_) #[true, true, true, true, true, true, true, false, false, false, false, false, false, false, false, false] rfl rfl (any_of HT_.out (by kernel_rfl)) (fun _ _ _ h => h) (Or.inl ⟨by rfl, ?_⟩) ?_ ?_
        rotate_left
        · intro w'
          go_simp
          all_goals with_reducible rfl
        rotate_left
        · simp only [Act.put, List.setIfInBounds_toArray, List.set_cons_zero, List.set_cons_succ, i64_w, i32_w]
          rfl
        refine pure_ (i := 7) (N := some 18) (v := ?_) (a' := ?_) #[true, true, true, true, true, true, true, true, false, false, false, false, false, false, false, false] rfl rfl (any_of HT_.out (by kernel_rfl)) (fun _ _ _ h => h) (Or.inl ⟨by rfl, ?_⟩) ?_ ?_
        rotate_left
        · intro w'
          go_simp
          all_goals with_reducible rfl
        rotate_left
        · simp only [Act.put, List.setIfInBounds_toArray, List.set_cons_zero, List.set_cons_succ, i64_w, i32_w]
          rfl
        refine take_ (i := 8) (N := some 19) (v := ?_) (a' := ?_) #[true, true, true, true, true, true, true, true, true, false, false, false, false, false, false, false] rfl rfl (take_ofW HT_.out HW_.out (by kernel_rfl)) (fun _ _ _ h => h) (Or.inl ⟨by rfl, ?_⟩) hHeld ?_ ?_
        rotate_left
        · rintro w' s0
          have z0 := (s0.cell (World.block_lt_of_cell? w _ hx0)).trans hx0; have z1 := (s0.cell (World.block_lt_of_cell? w _ hx1)).trans hx1; have z2 := (s0.cell (World.block_lt_of_cell? w _ hx2)).trans hx2; go_simp
          with_reducible rfl
        rotate_left
        · simp only [Act.put, List.setIfInBounds_toArray, List.set_cons_zero, List.set_cons_succ, i64_w, i32_w]
          rfl
        refine pure_ (i := 9) (N := some 20) (v := ?_) (a' := ?_) #[true, true, true, true, true, true, true, true, true, true, false, false, false, false, false, false] rfl rfl (any_of HT_.out (by kernel_rfl)) (fun _ _ _ h => h) (Or.inl ⟨by rfl, ?_⟩) ?_ ?_
        rotate_left
        · intro w'
          go_simp
          all_goals with_reducible rfl
        rotate_left
        · simp only [Act.put, List.setIfInBounds_toArray, List.set_cons_zero, List.set_cons_succ, i64_w, i32_w]
          rfl
        refine pure_ (i := 10) (N := some 21) (v := ?_) (a' := ?_) #[true, true, true, true, true, true, true, true, true, true, true, false, false, false, false, false] rfl rfl (any_of HT_.out (by kernel_rfl)) (fun _ _ _ h => h) (Or.inl ⟨by rfl, ?_⟩) ?_ ?_
        rotate_left
        · intro w'
          go_simp
          all_goals with_reducible rfl
        rotate_left
        · simp only [Act.put, List.setIfInBounds_toArray, List.set_cons_zero, List.set_cons_succ, i64_w, i32_w]
          rfl
        refine pure_ (i := 11) (N := some 22) (v := ?_) (a' := ?_) #[true, true, true, true, true, true, true, true, true, true, true, true, false, false, false, false] rfl rfl (any_of HT_.out (by kernel_rfl)) (fun _ _ _ h => h) (Or.inl ⟨by rfl, ?_⟩) ?_ ?_
        rotate_left
        · intro w'
          go_simp
          all_goals with_reducible rfl
        rotate_left
        · simp only [Act.put, List.setIfInBounds_toArray, List.set_cons_zero, List.set_cons_succ, i64_w, i32_w]
          rfl
        refine take_ (i := 12) (N := some 23) (v := ?_) (a' := ?_) #[true, true, true, true, true, true, true, true, true, true, true, true, true, false, false, false] rfl rfl (take_ofW HT_.out HW_.out (by kernel_rfl)) (fun _ _ _ h => h) (Or.inl ⟨by rfl, ?_⟩) hHeld ?_ ?_
        rotate_left
        · rintro w' s0
          have z0 := (s0.cell (World.block_lt_of_cell? w _ hy0)).trans hy0; have z1 := (s0.cell (World.block_lt_of_cell? w _ hy1)).trans hy1; have z2 := (s0.cell (World.block_lt_of_cell? w _ hy2)).trans hy2; go_simp
          with_reducible rfl
        rotate_left
        · simp only [Act.put, List.setIfInBounds_toArray, List.set_cons_zero, List.set_cons_succ, i64_w, i32_w]
          rfl
        refine one_ (i := 13) (N := some 24) #[true, true, true, true, true, true, true, true, true, true, true, true, true, true, false, false] rfl rfl (one_of HT_.out (by kernel_rfl)) (by decide) (fun K hK => ?_)
        refine goesV_ Try.func47 (by kernel_rfl) rfl #[.agg #[.int .u8 y.f0.f0, .string y.f0.f1, .string y.f1], .agg #[.int .u8 y'.f0.f0, .string y'.f0.f1, .string y'.f1]] (by rfl) rfl rfl rfl (by (try simp only [List.map_toArray, List.map_cons, List.map_nil]); first | done | rfl) ?_
        refine (hp _ y y' hHeld).mono ?_
        rintro e w40 ⟨rfl, hb⟩
        refine ⟨_, rfl, ?_⟩
        rw [← hq]
        refine hK.out _ _ (hb) (fun hHeld => ?_)
        clear hK K
        refine norm_ (a' := ?_) ?_ ?_
        rotate_left
        · show Act.put _ (some 24) _ = _
          simp only [Act.put, List.setIfInBounds_toArray, List.set_cons_zero, List.set_cons_succ, i64_w, i32_w]
          rfl
        refine pure_ (i := 14) (N := some 25) (v := ?_) (a' := ?_) #[true, true, true, true, true, true, true, true, true, true, true, true, true, true, true, false] rfl rfl (any_of HT_.out (by kernel_rfl)) (fun _ _ _ h => h) (Or.inl ⟨by rfl, ?_⟩) ?_ ?_
        rotate_left
        · intro w'
          go_simp
          all_goals with_reducible rfl
        rotate_left
        · simp only [Act.put, List.setIfInBounds_toArray, List.set_cons_zero, List.set_cons_succ, i64_w, i32_w]
          rfl
        refine pure_ (i := 15) (N := some 26) (v := ?_) (a' := ?_) #[true, true, true, true, true, true, true, true, true, true, true, true, true, true, true, true] rfl rfl (any_of HT_.out (by kernel_rfl)) (fun _ _ _ h => h) (Or.inl ⟨by rfl, ?_⟩) ?_ ?_
        rotate_left
        · intro w'
          go_simp
          all_goals with_reducible rfl
        rotate_left
        · simp only [Act.put, List.setIfInBounds_toArray, List.set_cons_zero, List.set_cons_succ, i64_w, i32_w]
          rfl
        refine done_ (done_of HT_.out (by kernel_rfl)) ?_
        by_cases hn : 0 ≤ q
        · have hn1 : decide (q ≥ 0) = true := decide_eq_true hn
          go_wp2
          go_ret
          exact ⟨by rw [rises_no c_ z57 l0 x.toNat (by omega) (by omega) (by rw [show x.toNat - 1 = j.toNat by have := hjx.out; omega, ← hB.out, ← hB'.out, ← hq]; exact hn)]; rfl, hHeld⟩
        · have hn1 : decide (q ≥ 0) = false := decide_eq_false hn
          go_wp2
          go_roundg (gk - 1)
          case measure => have := HG.out; omega
          case rel =>
            refine ⟨x + 1, by omega, by omega, by have := HG.out; omega, by first | rfl | rw [w64_in _ (by omega)], ⟨hHeld⟩, ⟨fun i i0 i1 => ?_⟩⟩
            by_cases e : (i : Int) = x
            · have : i = x.toNat := by omega
              subst this
              rw [show x.toNat - 1 = j.toNat by have := hjx.out; omega, ← hB.out, ← hB'.out, ← hq]
              omega
            · exact A.out i i0 (by omega)
      · have hgt : (decide (x > 0)) = false := decide_eq_false h0
        go_wp2_with fail
        refine start_ (n := 16) (S := fun W' => Below w.heap.size w W') (ds := []) #[false, false, false, false, false, false, false, false, false, false, false, false, false, false, false, false] (by kernel_rfl) rfl rfl (below_drew BW.out) (fun hHeld => ?_)
        refine with_tabW ris57_tab ris57_bits (fun HT_ HW_ => ?_)
        refine pure_ (i := 0) (N := some 11) (v := ?_) (a' := ?_) #[true, false, false, false, false, false, false, false, false, false, false, false, false, false, false, false] rfl rfl (any_of HT_.out (by kernel_rfl)) (fun _ _ _ h => h) (Or.inl ⟨by rfl, ?_⟩) ?_ ?_
        rotate_left
        · intro w'
          go_simp
          all_goals with_reducible rfl
        rotate_left
        · simp only [Act.put, List.setIfInBounds_toArray, List.set_cons_zero, List.set_cons_succ, i64_w, i32_w]
          rfl
        refine pure_ (i := 1) (N := some 12) (v := ?_) (a' := ?_) #[true, true, false, false, false, false, false, false, false, false, false, false, false, false, false, false] rfl rfl (any_of HT_.out (by kernel_rfl)) (fun _ _ _ h => h) (Or.inl ⟨by rfl, ?_⟩) ?_ ?_
        rotate_left
        · intro w'
          go_simp
          all_goals with_reducible rfl
        rotate_left
        · simp only [Act.put, List.setIfInBounds_toArray, List.set_cons_zero, List.set_cons_succ, i64_w, i32_w]
          rfl
        refine pure_ (i := 2) (N := some 13) (v := ?_) (a' := ?_) #[true, true, true, false, false, false, false, false, false, false, false, false, false, false, false, false] rfl rfl (any_of HT_.out (by kernel_rfl)) (fun _ _ _ h => h) (Or.inl ⟨by rfl, ?_⟩) ?_ ?_
        rotate_left
        · intro w'
          go_simp
          all_goals with_reducible rfl
        rotate_left
        · simp only [Act.put, List.setIfInBounds_toArray, List.set_cons_zero, List.set_cons_succ, i64_w, i32_w]
          rfl
        refine pure_ (i := 3) (N := some 14) (v := undef) (a' := ?_) #[true, true, true, true, false, false, false, false, false, false, false, false, false, false, false, false] rfl rfl (any_of HT_.out (by kernel_rfl)) (fun _ _ _ h => h) (Or.inr ⟨by rfl, rfl⟩) ?_ ?_
        rotate_left
        · simp only [Act.put, List.setIfInBounds_toArray, List.set_cons_zero, List.set_cons_succ, i64_w, i32_w]
          rfl
        refine pure_ (i := 4) (N := some 15) (v := undef) (a' := ?_) #[true, true, true, true, true, false, false, false, false, false, false, false, false, false, false, false] rfl rfl (any_of HT_.out (by kernel_rfl)) (fun _ _ _ h => h) (Or.inr ⟨by rfl, rfl⟩) ?_ ?_
        rotate_left
        · simp only [Act.put, List.setIfInBounds_toArray, List.set_cons_zero, List.set_cons_succ, i64_w, i32_w]
          rfl
        refine pure_ (i := 5) (N := some 16) (v := undef) (a' := ?_) #[true, true, true, true, true, true, false, false, false, false, false, false, false, false, false, false] rfl rfl (any_of HT_.out (by kernel_rfl)) (fun _ _ _ h => h) (Or.inr ⟨by rfl, rfl⟩) ?_ ?_
        rotate_left
        · simp only [Act.put, List.setIfInBounds_toArray, List.set_cons_zero, List.set_cons_succ, i64_w, i32_w]
          rfl
        refine pure_ (i := 6) (N := some 17) (v := undef) (a' := ?_) #[true, true, true, true, true, true, true, false, false, false, false, false, false, false, false, false] rfl rfl (any_of HT_.out (by kernel_rfl)) (fun _ _ _ h => h) (Or.inr ⟨by rfl, rfl⟩) ?_ ?_
        rotate_left
        · simp only [Act.put, List.setIfInBounds_toArray, List.set_cons_zero, List.set_cons_succ, i64_w, i32_w]
          rfl
        refine pure_ (i := 7) (N := some 18) (v := undef) (a' := ?_) #[true, true, true, true, true, true, true, true, false, false, false, false, false, false, false, false] rfl rfl (any_of HT_.out (by kernel_rfl)) (fun _ _ _ h => h) (Or.inr ⟨by rfl, rfl⟩) ?_ ?_
        rotate_left
        · simp only [Act.put, List.setIfInBounds_toArray, List.set_cons_zero, List.set_cons_succ, i64_w, i32_w]
          rfl
        refine pure_ (i := 8) (N := some 19) (v := undef) (a' := ?_) #[true, true, true, true, true, true, true, true, true, false, false, false, false, false, false, false] rfl rfl (any_of HT_.out (by kernel_rfl)) (fun _ _ _ h => h) (Or.inr ⟨by rfl, rfl⟩) ?_ ?_
        rotate_left
        · simp only [Act.put, List.setIfInBounds_toArray, List.set_cons_zero, List.set_cons_succ, i64_w, i32_w]
          rfl
        refine pure_ (i := 9) (N := some 20) (v := undef) (a' := ?_) #[true, true, true, true, true, true, true, true, true, true, false, false, false, false, false, false] rfl rfl (any_of HT_.out (by kernel_rfl)) (fun _ _ _ h => h) (Or.inr ⟨by rfl, rfl⟩) ?_ ?_
        rotate_left
        · simp only [Act.put, List.setIfInBounds_toArray, List.set_cons_zero, List.set_cons_succ, i64_w, i32_w]
          rfl
        refine pure_ (i := 10) (N := some 21) (v := undef) (a' := ?_) #[true, true, true, true, true, true, true, true, true, true, true, false, false, false, false, false] rfl rfl (any_of HT_.out (by kernel_rfl)) (fun _ _ _ h => h) (Or.inr ⟨by rfl, rfl⟩) ?_ ?_
        rotate_left
        · simp only [Act.put, List.setIfInBounds_toArray, List.set_cons_zero, List.set_cons_succ, i64_w, i32_w]
          rfl
        refine pure_ (i := 11) (N := some 22) (v := undef) (a' := ?_) #[true, true, true, true, true, true, true, true, true, true, true, true, false, false, false, false] rfl rfl (any_of HT_.out (by kernel_rfl)) (fun _ _ _ h => h) (Or.inr ⟨by rfl, rfl⟩) ?_ ?_
        rotate_left
        · simp only [Act.put, List.setIfInBounds_toArray, List.set_cons_zero, List.set_cons_succ, i64_w, i32_w]
          rfl
        refine pure_ (i := 12) (N := some 23) (v := undef) (a' := ?_) #[true, true, true, true, true, true, true, true, true, true, true, true, true, false, false, false] rfl rfl (any_of HT_.out (by kernel_rfl)) (fun _ _ _ h => h) (Or.inr ⟨by rfl, rfl⟩) ?_ ?_
        rotate_left
        · simp only [Act.put, List.setIfInBounds_toArray, List.set_cons_zero, List.set_cons_succ, i64_w, i32_w]
          rfl
        refine pure_ (i := 13) (N := some 24) (v := undef) (a' := ?_) #[true, true, true, true, true, true, true, true, true, true, true, true, true, true, false, false] rfl rfl (any_of HT_.out (by kernel_rfl)) (fun _ _ _ h => h) (Or.inr ⟨by rfl, rfl⟩) ?_ ?_
        rotate_left
        · simp only [Act.put, List.setIfInBounds_toArray, List.set_cons_zero, List.set_cons_succ, i64_w, i32_w]
          rfl
        refine pure_ (i := 14) (N := some 25) (v := undef) (a' := ?_) #[true, true, true, true, true, true, true, true, true, true, true, true, true, true, true, false] rfl rfl (any_of HT_.out (by kernel_rfl)) (fun _ _ _ h => h) (Or.inr ⟨by rfl, rfl⟩) ?_ ?_
        rotate_left
        · simp only [Act.put, List.setIfInBounds_toArray, List.set_cons_zero, List.set_cons_succ, i64_w, i32_w]
          rfl
        refine pure_ (i := 15) (N := some 26) (v := ?_) (a' := ?_) #[true, true, true, true, true, true, true, true, true, true, true, true, true, true, true, true] rfl rfl (any_of HT_.out (by kernel_rfl)) (fun _ _ _ h => h) (Or.inl ⟨by rfl, ?_⟩) ?_ ?_
        rotate_left
        · intro w'
          go_simp
          all_goals with_reducible rfl
        rotate_left
        · simp only [Act.put, List.setIfInBounds_toArray, List.set_cons_zero, List.set_cons_succ, i64_w, i32_w]
          rfl
        refine done_ (done_of HT_.out (by kernel_rfl)) ?_
        go_wp2
        go_roundg (gk - 1)
        case measure => have := HG.out; omega
        case rel =>
          refine ⟨x + 1, by omega, by omega, by have := HG.out; omega, by first | rfl | rw [w64_in _ (by omega)], ⟨hHeld⟩, ⟨fun i i0 i1 => ?_⟩⟩
          exact A.out i i0 (by omega)
    · have hltz : decide (x < (l0.length : Int)) = false := decide_eq_false hlt
      go_wp2
      go_ret
      exact ⟨by rw [rises_yes c_ z57 l0 (fun i i0 i1 => A.out i i0 (by have := HK.out; omega))]; rfl, BW.out⟩

def ris50_T : Bool × List (List Nat × List Nat) := (true, [([], []), ([0], [0]), ([1], [1]), ([2], [2]), ([2], [2]), ([2], [2]), ([5, 2], [2, 5]), ([4, 6, 2], [2, 4, 6]), ([7, 2], [2, 7]), ([2], [2]), ([2], [2]), ([9, 10, 2], [2, 9, 10]), ([11, 2], [2, 11]), ([3, 8, 12, 2, 2], [2, 3, 8, 12]), ([13, 2], [2, 13]), ([2, 14], [2, 14])])
def ris50_B : List Nat := [0, 1, 3, 7, 7, 7, 39, 119, 247, 7, 7, 1543, 3591, 8191, 16383, 32767]
theorem ris50_tab : rtab .any (opsOf Try.f65 4) = ris50_T := by kernel_rfl
theorem ris50_bits : waitsOk ris50_T.2 ris50_B = true := by kernel_rfl

/-- What the order says of two of a row's elements. -/
def SaysR50 (c_ : S50 → S50 → Int) (w : World) : Prop :=
  ∀ (W : World) (x y : S50), Below w.heap.size w W → Calls Try.prog 66 #[.agg #[.int .u8 x.f0.f0, .string x.f0.f1, .bool x.f1, .string x.f2], .agg #[.int .u8 y.f0.f0, .string y.f0.f1, .bool y.f1, .string y.f2]] W fun e w' => e = .returned (.int .i64 (c_ x y)) ∧ Below w.heap.size w w'

set_option maxHeartbeats 4000000 in
theorem rising50 (c_ : S50 → S50 → Int) (A0 : Option Addr) (c0 : Nat) (l0 : List S50) (w : World) (hr0 : Kd.C k50 w A0 l0.length l0) (hc0 : l0.length ≤ c0) (hbig : l0.length < 9223372036854775807) (hp : SaysR50 c_ w) :
    Calls Try.prog 65 #[.slice A0 l0.length c0, .func (.func 66) #[] #[]] w fun e w' => e = .returned (.bool (rises c_ z50 l0)) ∧ Below w.heap.size w w' := by
  have HR0 := Aside0.mk hr0
  clear hr0
  go_enter Try.func65, Try.ntmps65
  go_wp2
  go_loopg [5, 8] l0.length (fun gg _ s8 wr => ∃ x : Int, 0 ≤ x ∧ x ≤ (l0.length : Int) ∧ (l0.length : Int) - x ≤ gg ∧ s8 = .int .i64 x ∧ Aside0 (Below w.heap.size w wr) ∧ Aside0 (∀ j : Nat, 0 < j → (j : Int) < x → c_ (l0.getD (j - 1) z50) (l0.getD j z50) < 0))
  case atStart => exact ⟨0, by omega, by omega, by omega, rfl, ⟨Below.refl _ w⟩, ⟨fun j h0 hj => absurd hj (by omega)⟩⟩
  case round =>
    obtain ⟨x, hx, hkk, hg, rfl, BW, A⟩ := hrel
    have HG := Aside0.mk hg
    have HK := Aside0.mk hkk
    clear hg hkk
    by_cases hlt : x < (l0.length : Int)
    · by_cases h0 : 0 < x
      · have hgt : (decide (x > 0)) = true := decide_eq_true h0
        obtain ⟨j, hj⟩ : ∃ j : Int, wrap64 (x - 1) = j := ⟨_, rfl⟩
        have hjx : Aside0 (j = x - 1) := ⟨by rw [← hj, w64_in _ (by omega)]⟩
        have j0 : 0 ≤ j := by have := hjx.out; omega
        have j1 : j < (l0.length : Int) := by have := hjx.out; omega
        obtain ⟨ad, ea, hx0, hx1, hx2, hx3⟩ := at_T50 HR0.out j j0 j1
        obtain ⟨ad', ea', hy0, hy1, hy2, hy3⟩ := at_T50 HR0.out x hx hlt
        cases ea
        cases ea'
        have hB : Aside0 (rd_T50 l0 j = l0.getD j.toNat z50) := ⟨rfl⟩
        have hB' : Aside0 (rd_T50 l0 x = l0.getD x.toNat z50) := ⟨rfl⟩
        generalize rd_T50 l0 j = y at hx0 hx1 hx2 hx3 hB
        generalize rd_T50 l0 x = y' at hy0 hy1 hy2 hy3 hB'
        obtain ⟨q, hq⟩ : ∃ q, q = c_ y y' := ⟨_, rfl⟩
        go_wp2_with fail
        refine start_ (n := 16) (S := fun W' => Below w.heap.size w W') (ds := []) #[false, false, false, false, false, false, false, false, false, false, false, false, false, false, false, false] (by kernel_rfl) rfl rfl (below_drew BW.out) (fun hHeld => ?_)
        refine with_tabW ris50_tab ris50_bits (fun HT_ HW_ => ?_)
        refine pure_ (i := 0) (N := some 11) (v := ?_) (a' := ?_) #[true, false, false, false, false, false, false, false, false, false, false, false, false, false, false, false] rfl rfl (any_of HT_.out (by kernel_rfl)) (fun _ _ _ h => h) (Or.inl ⟨by rfl, ?_⟩) ?_ ?_
        rotate_left
        · intro w'
          go_simp
          all_goals with_reducible rfl
        rotate_left
        · simp only [Act.put, List.setIfInBounds_toArray, List.set_cons_zero, List.set_cons_succ, i64_w, i32_w]
          rfl
        refine pure_ (i := 1) (N := some 12) (v := ?_) (a' := ?_) #[true, true, false, false, false, false, false, false, false, false, false, false, false, false, false, false] rfl rfl (any_of HT_.out (by kernel_rfl)) (fun _ _ _ h => h) (Or.inl ⟨by rfl, ?_⟩) ?_ ?_
        rotate_left
        · intro w'
          go_simp
          all_goals with_reducible rfl
        rotate_left
        · simp only [Act.put, List.setIfInBounds_toArray, List.set_cons_zero, List.set_cons_succ, i64_w, i32_w]
          rfl
        refine pure_ (i := 2) (N := some 13) (v := ?_) (a' := ?_) #[true, true, true, false, false, false, false, false, false, false, false, false, false, false, false, false] rfl rfl (any_of HT_.out (by kernel_rfl)) (fun _ _ _ h => h) (Or.inl ⟨by rfl, ?_⟩) ?_ ?_
        rotate_left
        · intro w'
          go_simp
          all_goals with_reducible rfl
        rotate_left
        · simp only [Act.put, List.setIfInBounds_toArray, List.set_cons_zero, List.set_cons_succ, i64_w, i32_w]
          rfl
        refine pure_ (i := 3) (N := some 14) (v := ?_) (a' := ?_) #[true, true, true, true, false, false, false, false, false, false, false, false, false, false, false, false] rfl rfl (any_of HT_.out (by kernel_rfl)) (fun _ _ _ h => h) (Or.inl ⟨by rfl, ?_⟩) ?_ ?_
        rotate_left
        · intro w'
          go_simp
          all_goals with_reducible rfl
        rotate_left
        · simp only [Act.put, List.setIfInBounds_toArray, List.set_cons_zero, List.set_cons_succ, i64_w, i32_w]
          rfl
        refine pure_ (i := 4) (N := some 15) (v := ?_) (a' := ?_) #[true, true, true, true, true, false, false, false, false, false, false, false, false, false, false, false] rfl rfl (any_of HT_.out (by kernel_rfl)) (fun _ _ _ h => h) (Or.inl ⟨by rfl, ?_⟩) ?_ ?_
        rotate_left
        · intro w'
          go_simp
          all_goals with_reducible rfl
        rotate_left
        · simp only [Act.put, List.setIfInBounds_toArray, List.set_cons_zero, List.set_cons_succ, i64_w, i32_w]
          rfl
        refine pure_ (i := 5) (N := some 16) (v := ?_) (a' := ?_) #[true, true, true, true, true, true, false, false, false, false, false, false, false, false, false, false] rfl rfl (any_of HT_.out (by kernel_rfl)) (fun _ _ _ h => h) (Or.inl ⟨by rfl, ?_⟩) ?_ ?_
        rotate_left
        · intro w'
          go_simp
          all_goals with_reducible rfl
        rotate_left
        · simp only [Act.put, List.setIfInBounds_toArray, List.set_cons_zero, List.set_cons_succ, i64_w, i32_w]
          rfl
        refine pure_ (i := 6) (N := some 17) (v := ?_) (a' := ?_) #[true, true, true, true, true, true, true, false, false, false, false, false, false, false, false, false] rfl rfl (any_of HT_.out (by kernel_rfl)) (fun _ _ _ h => h) (Or.inl ⟨by rfl, ?_⟩) ?_ ?_
        rotate_left
        · intro w'
          go_simp
          all_goals with_reducible rfl
        rotate_left
        · simp only [Act.put, List.setIfInBounds_toArray, List.set_cons_zero, List.set_cons_succ, i64_w, i32_w]
          rfl
        refine pure_ (i := 7) (N := some 18) (v := ?_) (a' := ?_) #[true, true, true, true, true, true, true, true, false, false, false, false, false, false, false, false] rfl rfl (any_of HT_.out (by kernel_rfl)) (fun _ _ _ h => h) (Or.inl ⟨by rfl, ?_⟩) ?_ ?_
        rotate_left
        · intro w'
          go_simp
          all_goals with_reducible rfl
        rotate_left
        · simp only [Act.put, List.setIfInBounds_toArray, List.set_cons_zero, List.set_cons_succ, i64_w, i32_w]
          rfl
        refine take_ (i := 8) (N := some 19) (v := ?_) (a' := ?_) #[true, true, true, true, true, true, true, true, true, false, false, false, false, false, false, false] rfl rfl (take_ofW HT_.out HW_.out (by kernel_rfl)) (fun _ _ _ h => h) (Or.inl ⟨by rfl, ?_⟩) hHeld ?_ ?_
        rotate_left
        · rintro w' s0
          have z0 := (s0.cell (World.block_lt_of_cell? w _ hx0)).trans hx0; have z1 := (s0.cell (World.block_lt_of_cell? w _ hx1)).trans hx1; have z2 := (s0.cell (World.block_lt_of_cell? w _ hx2)).trans hx2; have z3 := (s0.cell (World.block_lt_of_cell? w _ hx3)).trans hx3; go_simp
          with_reducible rfl
        rotate_left
        · simp only [Act.put, List.setIfInBounds_toArray, List.set_cons_zero, List.set_cons_succ, i64_w, i32_w]
          rfl
        refine pure_ (i := 9) (N := some 20) (v := ?_) (a' := ?_) #[true, true, true, true, true, true, true, true, true, true, false, false, false, false, false, false] rfl rfl (any_of HT_.out (by kernel_rfl)) (fun _ _ _ h => h) (Or.inl ⟨by rfl, ?_⟩) ?_ ?_
        rotate_left
        · intro w'
          go_simp
          all_goals with_reducible rfl
        rotate_left
        · simp only [Act.put, List.setIfInBounds_toArray, List.set_cons_zero, List.set_cons_succ, i64_w, i32_w]
          rfl
        refine pure_ (i := 10) (N := some 21) (v := ?_) (a' := ?_) #[true, true, true, true, true, true, true, true, true, true, true, false, false, false, false, false] rfl rfl (any_of HT_.out (by kernel_rfl)) (fun _ _ _ h => h) (Or.inl ⟨by rfl, ?_⟩) ?_ ?_
        rotate_left
        · intro w'
          go_simp
          all_goals with_reducible rfl
        rotate_left
        · simp only [Act.put, List.setIfInBounds_toArray, List.set_cons_zero, List.set_cons_succ, i64_w, i32_w]
          rfl
        refine pure_ (i := 11) (N := some 22) (v := ?_) (a' := ?_) #[true, true, true, true, true, true, true, true, true, true, true, true, false, false, false, false] rfl rfl (any_of HT_.out (by kernel_rfl)) (fun _ _ _ h => h) (Or.inl ⟨by rfl, ?_⟩) ?_ ?_
        rotate_left
        · intro w'
          go_simp
          all_goals with_reducible rfl
        rotate_left
        · simp only [Act.put, List.setIfInBounds_toArray, List.set_cons_zero, List.set_cons_succ, i64_w, i32_w]
          rfl
        refine take_ (i := 12) (N := some 23) (v := ?_) (a' := ?_) #[true, true, true, true, true, true, true, true, true, true, true, true, true, false, false, false] rfl rfl (take_ofW HT_.out HW_.out (by kernel_rfl)) (fun _ _ _ h => h) (Or.inl ⟨by rfl, ?_⟩) hHeld ?_ ?_
        rotate_left
        · rintro w' s0
          have z0 := (s0.cell (World.block_lt_of_cell? w _ hy0)).trans hy0; have z1 := (s0.cell (World.block_lt_of_cell? w _ hy1)).trans hy1; have z2 := (s0.cell (World.block_lt_of_cell? w _ hy2)).trans hy2; have z3 := (s0.cell (World.block_lt_of_cell? w _ hy3)).trans hy3; go_simp
          with_reducible rfl
        rotate_left
        · simp only [Act.put, List.setIfInBounds_toArray, List.set_cons_zero, List.set_cons_succ, i64_w, i32_w]
          rfl
        refine one_ (i := 13) (N := some 24) #[true, true, true, true, true, true, true, true, true, true, true, true, true, true, false, false] rfl rfl (one_of HT_.out (by kernel_rfl)) (by decide) (fun K hK => ?_)
        refine goesV_ Try.func66 (by kernel_rfl) rfl #[.agg #[.int .u8 y.f0.f0, .string y.f0.f1, .bool y.f1, .string y.f2], .agg #[.int .u8 y'.f0.f0, .string y'.f0.f1, .bool y'.f1, .string y'.f2]] (by rfl) rfl rfl rfl (by (try simp only [List.map_toArray, List.map_cons, List.map_nil]); first | done | rfl) ?_
        refine (hp _ y y' hHeld).mono ?_
        rintro e w40 ⟨rfl, hb⟩
        refine ⟨_, rfl, ?_⟩
        rw [← hq]
        refine hK.out _ _ (hb) (fun hHeld => ?_)
        clear hK K
        refine norm_ (a' := ?_) ?_ ?_
        rotate_left
        · show Act.put _ (some 24) _ = _
          simp only [Act.put, List.setIfInBounds_toArray, List.set_cons_zero, List.set_cons_succ, i64_w, i32_w]
          rfl
        refine pure_ (i := 14) (N := some 25) (v := ?_) (a' := ?_) #[true, true, true, true, true, true, true, true, true, true, true, true, true, true, true, false] rfl rfl (any_of HT_.out (by kernel_rfl)) (fun _ _ _ h => h) (Or.inl ⟨by rfl, ?_⟩) ?_ ?_
        rotate_left
        · intro w'
          go_simp
          all_goals with_reducible rfl
        rotate_left
        · simp only [Act.put, List.setIfInBounds_toArray, List.set_cons_zero, List.set_cons_succ, i64_w, i32_w]
          rfl
        refine pure_ (i := 15) (N := some 26) (v := ?_) (a' := ?_) #[true, true, true, true, true, true, true, true, true, true, true, true, true, true, true, true] rfl rfl (any_of HT_.out (by kernel_rfl)) (fun _ _ _ h => h) (Or.inl ⟨by rfl, ?_⟩) ?_ ?_
        rotate_left
        · intro w'
          go_simp
          all_goals with_reducible rfl
        rotate_left
        · simp only [Act.put, List.setIfInBounds_toArray, List.set_cons_zero, List.set_cons_succ, i64_w, i32_w]
          rfl
        refine done_ (done_of HT_.out (by kernel_rfl)) ?_
        by_cases hn : 0 ≤ q
        · have hn1 : decide (q ≥ 0) = true := decide_eq_true hn
          go_wp2
          go_ret
          exact ⟨by rw [rises_no c_ z50 l0 x.toNat (by omega) (by omega) (by rw [show x.toNat - 1 = j.toNat by have := hjx.out; omega, ← hB.out, ← hB'.out, ← hq]; exact hn)]; rfl, hHeld⟩
        · have hn1 : decide (q ≥ 0) = false := decide_eq_false hn
          go_wp2
          go_roundg (gk - 1)
          case measure => have := HG.out; omega
          case rel =>
            refine ⟨x + 1, by omega, by omega, by have := HG.out; omega, by first | rfl | rw [w64_in _ (by omega)], ⟨hHeld⟩, ⟨fun i i0 i1 => ?_⟩⟩
            by_cases e : (i : Int) = x
            · have : i = x.toNat := by omega
              subst this
              rw [show x.toNat - 1 = j.toNat by have := hjx.out; omega, ← hB.out, ← hB'.out, ← hq]
              omega
            · exact A.out i i0 (by omega)
      · have hgt : (decide (x > 0)) = false := decide_eq_false h0
        go_wp2_with fail
        refine start_ (n := 16) (S := fun W' => Below w.heap.size w W') (ds := []) #[false, false, false, false, false, false, false, false, false, false, false, false, false, false, false, false] (by kernel_rfl) rfl rfl (below_drew BW.out) (fun hHeld => ?_)
        refine with_tabW ris50_tab ris50_bits (fun HT_ HW_ => ?_)
        refine pure_ (i := 0) (N := some 11) (v := ?_) (a' := ?_) #[true, false, false, false, false, false, false, false, false, false, false, false, false, false, false, false] rfl rfl (any_of HT_.out (by kernel_rfl)) (fun _ _ _ h => h) (Or.inl ⟨by rfl, ?_⟩) ?_ ?_
        rotate_left
        · intro w'
          go_simp
          all_goals with_reducible rfl
        rotate_left
        · simp only [Act.put, List.setIfInBounds_toArray, List.set_cons_zero, List.set_cons_succ, i64_w, i32_w]
          rfl
        refine pure_ (i := 1) (N := some 12) (v := ?_) (a' := ?_) #[true, true, false, false, false, false, false, false, false, false, false, false, false, false, false, false] rfl rfl (any_of HT_.out (by kernel_rfl)) (fun _ _ _ h => h) (Or.inl ⟨by rfl, ?_⟩) ?_ ?_
        rotate_left
        · intro w'
          go_simp
          all_goals with_reducible rfl
        rotate_left
        · simp only [Act.put, List.setIfInBounds_toArray, List.set_cons_zero, List.set_cons_succ, i64_w, i32_w]
          rfl
        refine pure_ (i := 2) (N := some 13) (v := ?_) (a' := ?_) #[true, true, true, false, false, false, false, false, false, false, false, false, false, false, false, false] rfl rfl (any_of HT_.out (by kernel_rfl)) (fun _ _ _ h => h) (Or.inl ⟨by rfl, ?_⟩) ?_ ?_
        rotate_left
        · intro w'
          go_simp
          all_goals with_reducible rfl
        rotate_left
        · simp only [Act.put, List.setIfInBounds_toArray, List.set_cons_zero, List.set_cons_succ, i64_w, i32_w]
          rfl
        refine pure_ (i := 3) (N := some 14) (v := undef) (a' := ?_) #[true, true, true, true, false, false, false, false, false, false, false, false, false, false, false, false] rfl rfl (any_of HT_.out (by kernel_rfl)) (fun _ _ _ h => h) (Or.inr ⟨by rfl, rfl⟩) ?_ ?_
        rotate_left
        · simp only [Act.put, List.setIfInBounds_toArray, List.set_cons_zero, List.set_cons_succ, i64_w, i32_w]
          rfl
        refine pure_ (i := 4) (N := some 15) (v := undef) (a' := ?_) #[true, true, true, true, true, false, false, false, false, false, false, false, false, false, false, false] rfl rfl (any_of HT_.out (by kernel_rfl)) (fun _ _ _ h => h) (Or.inr ⟨by rfl, rfl⟩) ?_ ?_
        rotate_left
        · simp only [Act.put, List.setIfInBounds_toArray, List.set_cons_zero, List.set_cons_succ, i64_w, i32_w]
          rfl
        refine pure_ (i := 5) (N := some 16) (v := undef) (a' := ?_) #[true, true, true, true, true, true, false, false, false, false, false, false, false, false, false, false] rfl rfl (any_of HT_.out (by kernel_rfl)) (fun _ _ _ h => h) (Or.inr ⟨by rfl, rfl⟩) ?_ ?_
        rotate_left
        · simp only [Act.put, List.setIfInBounds_toArray, List.set_cons_zero, List.set_cons_succ, i64_w, i32_w]
          rfl
        refine pure_ (i := 6) (N := some 17) (v := undef) (a' := ?_) #[true, true, true, true, true, true, true, false, false, false, false, false, false, false, false, false] rfl rfl (any_of HT_.out (by kernel_rfl)) (fun _ _ _ h => h) (Or.inr ⟨by rfl, rfl⟩) ?_ ?_
        rotate_left
        · simp only [Act.put, List.setIfInBounds_toArray, List.set_cons_zero, List.set_cons_succ, i64_w, i32_w]
          rfl
        refine pure_ (i := 7) (N := some 18) (v := undef) (a' := ?_) #[true, true, true, true, true, true, true, true, false, false, false, false, false, false, false, false] rfl rfl (any_of HT_.out (by kernel_rfl)) (fun _ _ _ h => h) (Or.inr ⟨by rfl, rfl⟩) ?_ ?_
        rotate_left
        · simp only [Act.put, List.setIfInBounds_toArray, List.set_cons_zero, List.set_cons_succ, i64_w, i32_w]
          rfl
        refine pure_ (i := 8) (N := some 19) (v := undef) (a' := ?_) #[true, true, true, true, true, true, true, true, true, false, false, false, false, false, false, false] rfl rfl (any_of HT_.out (by kernel_rfl)) (fun _ _ _ h => h) (Or.inr ⟨by rfl, rfl⟩) ?_ ?_
        rotate_left
        · simp only [Act.put, List.setIfInBounds_toArray, List.set_cons_zero, List.set_cons_succ, i64_w, i32_w]
          rfl
        refine pure_ (i := 9) (N := some 20) (v := undef) (a' := ?_) #[true, true, true, true, true, true, true, true, true, true, false, false, false, false, false, false] rfl rfl (any_of HT_.out (by kernel_rfl)) (fun _ _ _ h => h) (Or.inr ⟨by rfl, rfl⟩) ?_ ?_
        rotate_left
        · simp only [Act.put, List.setIfInBounds_toArray, List.set_cons_zero, List.set_cons_succ, i64_w, i32_w]
          rfl
        refine pure_ (i := 10) (N := some 21) (v := undef) (a' := ?_) #[true, true, true, true, true, true, true, true, true, true, true, false, false, false, false, false] rfl rfl (any_of HT_.out (by kernel_rfl)) (fun _ _ _ h => h) (Or.inr ⟨by rfl, rfl⟩) ?_ ?_
        rotate_left
        · simp only [Act.put, List.setIfInBounds_toArray, List.set_cons_zero, List.set_cons_succ, i64_w, i32_w]
          rfl
        refine pure_ (i := 11) (N := some 22) (v := undef) (a' := ?_) #[true, true, true, true, true, true, true, true, true, true, true, true, false, false, false, false] rfl rfl (any_of HT_.out (by kernel_rfl)) (fun _ _ _ h => h) (Or.inr ⟨by rfl, rfl⟩) ?_ ?_
        rotate_left
        · simp only [Act.put, List.setIfInBounds_toArray, List.set_cons_zero, List.set_cons_succ, i64_w, i32_w]
          rfl
        refine pure_ (i := 12) (N := some 23) (v := undef) (a' := ?_) #[true, true, true, true, true, true, true, true, true, true, true, true, true, false, false, false] rfl rfl (any_of HT_.out (by kernel_rfl)) (fun _ _ _ h => h) (Or.inr ⟨by rfl, rfl⟩) ?_ ?_
        rotate_left
        · simp only [Act.put, List.setIfInBounds_toArray, List.set_cons_zero, List.set_cons_succ, i64_w, i32_w]
          rfl
        refine pure_ (i := 13) (N := some 24) (v := undef) (a' := ?_) #[true, true, true, true, true, true, true, true, true, true, true, true, true, true, false, false] rfl rfl (any_of HT_.out (by kernel_rfl)) (fun _ _ _ h => h) (Or.inr ⟨by rfl, rfl⟩) ?_ ?_
        rotate_left
        · simp only [Act.put, List.setIfInBounds_toArray, List.set_cons_zero, List.set_cons_succ, i64_w, i32_w]
          rfl
        refine pure_ (i := 14) (N := some 25) (v := undef) (a' := ?_) #[true, true, true, true, true, true, true, true, true, true, true, true, true, true, true, false] rfl rfl (any_of HT_.out (by kernel_rfl)) (fun _ _ _ h => h) (Or.inr ⟨by rfl, rfl⟩) ?_ ?_
        rotate_left
        · simp only [Act.put, List.setIfInBounds_toArray, List.set_cons_zero, List.set_cons_succ, i64_w, i32_w]
          rfl
        refine pure_ (i := 15) (N := some 26) (v := ?_) (a' := ?_) #[true, true, true, true, true, true, true, true, true, true, true, true, true, true, true, true] rfl rfl (any_of HT_.out (by kernel_rfl)) (fun _ _ _ h => h) (Or.inl ⟨by rfl, ?_⟩) ?_ ?_
        rotate_left
        · intro w'
          go_simp
          all_goals with_reducible rfl
        rotate_left
        · simp only [Act.put, List.setIfInBounds_toArray, List.set_cons_zero, List.set_cons_succ, i64_w, i32_w]
          rfl
        refine done_ (done_of HT_.out (by kernel_rfl)) ?_
        go_wp2
        go_roundg (gk - 1)
        case measure => have := HG.out; omega
        case rel =>
          refine ⟨x + 1, by omega, by omega, by have := HG.out; omega, by first | rfl | rw [w64_in _ (by omega)], ⟨hHeld⟩, ⟨fun i i0 i1 => ?_⟩⟩
          exact A.out i i0 (by omega)
    · have hltz : decide (x < (l0.length : Int)) = false := decide_eq_false hlt
      go_wp2
      go_ret
      exact ⟨by rw [rises_yes c_ z50 l0 (fun i i0 i1 => A.out i i0 (by have := HK.out; omega))]; rfl, BW.out⟩

def ris47_T : Bool × List (List Nat × List Nat) := (true, [([], []), ([0], [0]), ([1], [1]), ([2], [2]), ([2], [2]), ([2], [2]), ([5, 2], [2, 5]), ([4, 6, 2], [2, 4, 6]), ([7, 2], [2, 7]), ([2], [2]), ([2], [2]), ([9, 10, 2], [2, 9, 10]), ([11, 2], [2, 11]), ([3, 8, 12, 2, 2], [2, 3, 8, 12]), ([13, 2], [2, 13]), ([2, 14], [2, 14])])
def ris47_B : List Nat := [0, 1, 3, 7, 7, 7, 39, 119, 247, 7, 7, 1543, 3591, 8191, 16383, 32767]
theorem ris47_tab : rtab .any (opsOf Try.f39 4) = ris47_T := by kernel_rfl
theorem ris47_bits : waitsOk ris47_T.2 ris47_B = true := by kernel_rfl

/-- What the order says of two of a row's elements. -/
def SaysR47 (c_ : S47 → S47 → Int) (w : World) : Prop :=
  ∀ (W : World) (x y : S47) (A A' : Option Addr) (c c' : Nat), Below w.heap.size w W → Calls Try.prog 40 #[.agg #[.int .u64 x.f0, .slice A x.f1.length c], .agg #[.int .u64 y.f0, .slice A' y.f1.length c']] W fun e w' => e = .returned (.int .i64 (c_ x y)) ∧ Below w.heap.size w w'

set_option maxHeartbeats 4000000 in
theorem rising47 (c_ : S47 → S47 → Int) (A0 : Option Addr) (c0 : Nat) (l0 : List S47) (w : World) (hr0 : Kd.C k47 w A0 l0.length l0) (hc0 : l0.length ≤ c0) (hbig : l0.length < 9223372036854775807) (hp : SaysR47 c_ w) :
    Calls Try.prog 39 #[.slice A0 l0.length c0, .func (.func 40) #[] #[]] w fun e w' => e = .returned (.bool (rises c_ z47 l0)) ∧ Below w.heap.size w w' := by
  have HR0 := Aside0.mk hr0
  clear hr0
  go_enter Try.func39, Try.ntmps39
  go_wp2
  go_loopg [5, 8] l0.length (fun gg _ s8 wr => ∃ x : Int, 0 ≤ x ∧ x ≤ (l0.length : Int) ∧ (l0.length : Int) - x ≤ gg ∧ s8 = .int .i64 x ∧ Aside0 (Below w.heap.size w wr) ∧ Aside0 (∀ j : Nat, 0 < j → (j : Int) < x → c_ (l0.getD (j - 1) z47) (l0.getD j z47) < 0))
  case atStart => exact ⟨0, by omega, by omega, by omega, rfl, ⟨Below.refl _ w⟩, ⟨fun j h0 hj => absurd hj (by omega)⟩⟩
  case round =>
    obtain ⟨x, hx, hkk, hg, rfl, BW, A⟩ := hrel
    have HG := Aside0.mk hg
    have HK := Aside0.mk hkk
    clear hg hkk
    by_cases hlt : x < (l0.length : Int)
    · by_cases h0 : 0 < x
      · have hgt : (decide (x > 0)) = true := decide_eq_true h0
        obtain ⟨j, hj⟩ : ∃ j : Int, wrap64 (x - 1) = j := ⟨_, rfl⟩
        have hjx : Aside0 (j = x - 1) := ⟨by rw [← hj, w64_in _ (by omega)]⟩
        have j0 : 0 ≤ j := by have := hjx.out; omega
        have j1 : j < (l0.length : Int) := by have := hjx.out; omega
        obtain ⟨ad, A1, c1, ea, hx0, hx1, hl1, hC1⟩ := at_T47 HR0.out j j0 j1
        obtain ⟨ad', A2, c2, ea', hy0, hy1, hl2, hC2⟩ := at_T47 HR0.out x hx hlt
        cases ea
        cases ea'
        clear hl1 hC1 hl2 hC2
        have hB : Aside0 (rd_T47 l0 j = l0.getD j.toNat z47) := ⟨rfl⟩
        have hB' : Aside0 (rd_T47 l0 x = l0.getD x.toNat z47) := ⟨rfl⟩
        generalize rd_T47 l0 j = y at hx0 hx1 hB
        generalize rd_T47 l0 x = y' at hy0 hy1 hB'
        obtain ⟨q, hq⟩ : ∃ q, q = c_ y y' := ⟨_, rfl⟩
        go_wp2_with fail
        refine start_ (n := 16) (S := fun W' => Below w.heap.size w W') (ds := []) #[false, false, false, false, false, false, false, false, false, false, false, false, false, false, false, false] (by kernel_rfl) rfl rfl (below_drew BW.out) (fun hHeld => ?_)
        refine with_tabW ris47_tab ris47_bits (fun HT_ HW_ => ?_)
        refine pure_ (i := 0) (N := some 11) (v := ?_) (a' := ?_) #[true, false, false, false, false, false, false, false, false, false, false, false, false, false, false, false] rfl rfl (any_of HT_.out (by kernel_rfl)) (fun _ _ _ h => h) (Or.inl ⟨by rfl, ?_⟩) ?_ ?_
        rotate_left
        · intro w'
          go_simp
          all_goals with_reducible rfl
        rotate_left
        · simp only [Act.put, List.setIfInBounds_toArray, List.set_cons_zero, List.set_cons_succ, i64_w, i32_w]
          rfl
        refine pure_ (i := 1) (N := some 12) (v := ?_) (a' := ?_) #[true, true, false, false, false, false, false, false, false, false, false, false, false, false, false, false] rfl rfl (any_of HT_.out (by kernel_rfl)) (fun _ _ _ h => h) (Or.inl ⟨by rfl, ?_⟩) ?_ ?_
        rotate_left
        · intro w'
          go_simp
          all_goals with_reducible rfl
        rotate_left
        · simp only [Act.put, List.setIfInBounds_toArray, List.set_cons_zero, List.set_cons_succ, i64_w, i32_w]
          rfl
        refine pure_ (i := 2) (N := some 13) (v := ?_) (a' := ?_) #[true, true, true, false, false, false, false, false, false, false, false, false, false, false, false, false] rfl rfl (any_of HT_.out (by kernel_rfl)) (fun _ _ _ h => h) (Or.inl ⟨by rfl, ?_⟩) ?_ ?_
        rotate_left
        · intro w'
          go_simp
          all_goals with_reducible rfl
        rotate_left
        · simp only [Act.put, List.setIfInBounds_toArray, List.set_cons_zero, List.set_cons_succ, i64_w, i32_w]
          rfl
        refine pure_ (i := 3) (N := some 14) (v := ?_) (a' := ?_) #[true, true, true, true, false, false, false, false, false, false, false, false, false, false, false, false] rfl rfl (any_of HT_.out (by kernel_rfl)) (fun _ _ _ h => h) (Or.inl ⟨by rfl, ?_⟩) ?_ ?_
        rotate_left
        · intro w'
          go_simp
          all_goals with_reducible rfl
        rotate_left
        · simp only [Act.put, List.setIfInBounds_toArray, List.set_cons_zero, List.set_cons_succ, i64_w, i32_w]
          rfl
        refine pure_ (i := 4) (N := some 15) (v := ?_) (a' := ?_) #[true, true, true, true, true, false, false, false, false, false, false, false, false, false, false, false] rfl rfl (any_of HT_.out (by kernel_rfl)) (fun _ _ _ h => h) (Or.inl ⟨by rfl, ?_⟩) ?_ ?_
        rotate_left
        · intro w'
          go_simp
          all_goals with_reducible rfl
        rotate_left
        · simp only [Act.put, List.setIfInBounds_toArray, List.set_cons_zero, List.set_cons_succ, i64_w, i32_w]
          rfl
        refine pure_ (i := 5) (N := some 16) (v := ?_) (a' := ?_) #[true, true, true, true, true, true, false, false, false, false, false, false, false, false, false, false] rfl rfl (any_of HT_.out (by kernel_rfl)) (fun _ _ _ h => h) (Or.inl ⟨by rfl, ?_⟩) ?_ ?_
        rotate_left
        · intro w'
          go_simp
          all_goals with_reducible rfl
        rotate_left
        · simp only [Act.put, List.setIfInBounds_toArray, List.set_cons_zero, List.set_cons_succ, i64_w, i32_w]
          rfl
        refine pure_ (i := 6) (N := some 17) (v := ?_) (a' := ?_) #[true, true, true, true, true, true, true, false, false, false, false, false, false, false, false, false] rfl rfl (any_of HT_.out (by kernel_rfl)) (fun _ _ _ h => h) (Or.inl ⟨by rfl, ?_⟩) ?_ ?_
        rotate_left
        · intro w'
          go_simp
          all_goals with_reducible rfl
        rotate_left
        · simp only [Act.put, List.setIfInBounds_toArray, List.set_cons_zero, List.set_cons_succ, i64_w, i32_w]
          rfl
        refine pure_ (i := 7) (N := some 18) (v := ?_) (a' := ?_) #[true, true, true, true, true, true, true, true, false, false, false, false, false, false, false, false] rfl rfl (any_of HT_.out (by kernel_rfl)) (fun _ _ _ h => h) (Or.inl ⟨by rfl, ?_⟩) ?_ ?_
        rotate_left
        · intro w'
          go_simp
          all_goals with_reducible rfl
        rotate_left
        · simp only [Act.put, List.setIfInBounds_toArray, List.set_cons_zero, List.set_cons_succ, i64_w, i32_w]
          rfl
        refine take_ (i := 8) (N := some 19) (v := ?_) (a' := ?_) #[true, true, true, true, true, true, true, true, true, false, false, false, false, false, false, false] rfl rfl (take_ofW HT_.out HW_.out (by kernel_rfl)) (fun _ _ _ h => h) (Or.inl ⟨by rfl, ?_⟩) hHeld ?_ ?_
        rotate_left
        · rintro w' s0
          have z0 := (s0.cell (World.block_lt_of_cell? w _ hx0)).trans hx0; have z1 := (s0.cell (World.block_lt_of_cell? w _ hx1)).trans hx1; go_simp
          with_reducible rfl
        rotate_left
        · simp only [Act.put, List.setIfInBounds_toArray, List.set_cons_zero, List.set_cons_succ, i64_w, i32_w]
          rfl
        refine pure_ (i := 9) (N := some 20) (v := ?_) (a' := ?_) #[true, true, true, true, true, true, true, true, true, true, false, false, false, false, false, false] rfl rfl (any_of HT_.out (by kernel_rfl)) (fun _ _ _ h => h) (Or.inl ⟨by rfl, ?_⟩) ?_ ?_
        rotate_left
        · intro w'
          go_simp
          all_goals with_reducible rfl
        rotate_left
        · simp only [Act.put, List.setIfInBounds_toArray, List.set_cons_zero, List.set_cons_succ, i64_w, i32_w]
          rfl
        refine pure_ (i := 10) (N := some 21) (v := ?_) (a' := ?_) #[true, true, true, true, true, true, true, true, true, true, true, false, false, false, false, false] rfl rfl (any_of HT_.out (by kernel_rfl)) (fun _ _ _ h => h) (Or.inl ⟨by rfl, ?_⟩) ?_ ?_
        rotate_left
        · intro w'
          go_simp
          all_goals with_reducible rfl
        rotate_left
        · simp only [Act.put, List.setIfInBounds_toArray, List.set_cons_zero, List.set_cons_succ, i64_w, i32_w]
          rfl
        refine pure_ (i := 11) (N := some 22) (v := ?_) (a' := ?_) #[true, true, true, true, true, true, true, true, true, true, true, true, false, false, false, false] rfl rfl (any_of HT_.out (by kernel_rfl)) (fun _ _ _ h => h) (Or.inl ⟨by rfl, ?_⟩) ?_ ?_
        rotate_left
        · intro w'
          go_simp
          all_goals with_reducible rfl
        rotate_left
        · simp only [Act.put, List.setIfInBounds_toArray, List.set_cons_zero, List.set_cons_succ, i64_w, i32_w]
          rfl
        refine take_ (i := 12) (N := some 23) (v := ?_) (a' := ?_) #[true, true, true, true, true, true, true, true, true, true, true, true, true, false, false, false] rfl rfl (take_ofW HT_.out HW_.out (by kernel_rfl)) (fun _ _ _ h => h) (Or.inl ⟨by rfl, ?_⟩) hHeld ?_ ?_
        rotate_left
        · rintro w' s0
          have z0 := (s0.cell (World.block_lt_of_cell? w _ hy0)).trans hy0; have z1 := (s0.cell (World.block_lt_of_cell? w _ hy1)).trans hy1; go_simp
          with_reducible rfl
        rotate_left
        · simp only [Act.put, List.setIfInBounds_toArray, List.set_cons_zero, List.set_cons_succ, i64_w, i32_w]
          rfl
        refine one_ (i := 13) (N := some 24) #[true, true, true, true, true, true, true, true, true, true, true, true, true, true, false, false] rfl rfl (one_of HT_.out (by kernel_rfl)) (by decide) (fun K hK => ?_)
        refine goesV_ Try.func40 (by kernel_rfl) rfl #[.agg #[.int .u64 y.f0, .slice A1 y.f1.length c1], .agg #[.int .u64 y'.f0, .slice A2 y'.f1.length c2]] (by rfl) rfl rfl rfl (by (try simp only [List.map_toArray, List.map_cons, List.map_nil]); first | done | rfl) ?_
        refine (hp _ y y' _ _ _ _ hHeld).mono ?_
        rintro e w40 ⟨rfl, hb⟩
        refine ⟨_, rfl, ?_⟩
        rw [← hq]
        refine hK.out _ _ (hb) (fun hHeld => ?_)
        clear hK K
        refine norm_ (a' := ?_) ?_ ?_
        rotate_left
        · show Act.put _ (some 24) _ = _
          simp only [Act.put, List.setIfInBounds_toArray, List.set_cons_zero, List.set_cons_succ, i64_w, i32_w]
          rfl
        refine pure_ (i := 14) (N := some 25) (v := ?_) (a' := ?_) #[true, true, true, true, true, true, true, true, true, true, true, true, true, true, true, false] rfl rfl (any_of HT_.out (by kernel_rfl)) (fun _ _ _ h => h) (Or.inl ⟨by rfl, ?_⟩) ?_ ?_
        rotate_left
        · intro w'
          go_simp
          all_goals with_reducible rfl
        rotate_left
        · simp only [Act.put, List.setIfInBounds_toArray, List.set_cons_zero, List.set_cons_succ, i64_w, i32_w]
          rfl
        refine pure_ (i := 15) (N := some 26) (v := ?_) (a' := ?_) #[true, true, true, true, true, true, true, true, true, true, true, true, true, true, true, true] rfl rfl (any_of HT_.out (by kernel_rfl)) (fun _ _ _ h => h) (Or.inl ⟨by rfl, ?_⟩) ?_ ?_
        rotate_left
        · intro w'
          go_simp
          all_goals with_reducible rfl
        rotate_left
        · simp only [Act.put, List.setIfInBounds_toArray, List.set_cons_zero, List.set_cons_succ, i64_w, i32_w]
          rfl
        refine done_ (done_of HT_.out (by kernel_rfl)) ?_
        by_cases hn : 0 ≤ q
        · have hn1 : decide (q ≥ 0) = true := decide_eq_true hn
          go_wp2
          go_ret
          exact ⟨by rw [rises_no c_ z47 l0 x.toNat (by omega) (by omega) (by rw [show x.toNat - 1 = j.toNat by have := hjx.out; omega, ← hB.out, ← hB'.out, ← hq]; exact hn)]; rfl, hHeld⟩
        · have hn1 : decide (q ≥ 0) = false := decide_eq_false hn
          go_wp2
          go_roundg (gk - 1)
          case measure => have := HG.out; omega
          case rel =>
            refine ⟨x + 1, by omega, by omega, by have := HG.out; omega, by first | rfl | rw [w64_in _ (by omega)], ⟨hHeld⟩, ⟨fun i i0 i1 => ?_⟩⟩
            by_cases e : (i : Int) = x
            · have : i = x.toNat := by omega
              subst this
              rw [show x.toNat - 1 = j.toNat by have := hjx.out; omega, ← hB.out, ← hB'.out, ← hq]
              omega
            · exact A.out i i0 (by omega)
      · have hgt : (decide (x > 0)) = false := decide_eq_false h0
        go_wp2_with fail
        refine start_ (n := 16) (S := fun W' => Below w.heap.size w W') (ds := []) #[false, false, false, false, false, false, false, false, false, false, false, false, false, false, false, false] (by kernel_rfl) rfl rfl (below_drew BW.out) (fun hHeld => ?_)
        refine with_tabW ris47_tab ris47_bits (fun HT_ HW_ => ?_)
        refine pure_ (i := 0) (N := some 11) (v := ?_) (a' := ?_) #[true, false, false, false, false, false, false, false, false, false, false, false, false, false, false, false] rfl rfl (any_of HT_.out (by kernel_rfl)) (fun _ _ _ h => h) (Or.inl ⟨by rfl, ?_⟩) ?_ ?_
        rotate_left
        · intro w'
          go_simp
          all_goals with_reducible rfl
        rotate_left
        · simp only [Act.put, List.setIfInBounds_toArray, List.set_cons_zero, List.set_cons_succ, i64_w, i32_w]
          rfl
        refine pure_ (i := 1) (N := some 12) (v := ?_) (a' := ?_) #[true, true, false, false, false, false, false, false, false, false, false, false, false, false, false, false] rfl rfl (any_of HT_.out (by kernel_rfl)) (fun _ _ _ h => h) (Or.inl ⟨by rfl, ?_⟩) ?_ ?_
        rotate_left
        · intro w'
          go_simp
          all_goals with_reducible rfl
        rotate_left
        · simp only [Act.put, List.setIfInBounds_toArray, List.set_cons_zero, List.set_cons_succ, i64_w, i32_w]
          rfl
        refine pure_ (i := 2) (N := some 13) (v := ?_) (a' := ?_) #[true, true, true, false, false, false, false, false, false, false, false, false, false, false, false, false] rfl rfl (any_of HT_.out (by kernel_rfl)) (fun _ _ _ h => h) (Or.inl ⟨by rfl, ?_⟩) ?_ ?_
        rotate_left
        · intro w'
          go_simp
          all_goals with_reducible rfl
        rotate_left
        · simp only [Act.put, List.setIfInBounds_toArray, List.set_cons_zero, List.set_cons_succ, i64_w, i32_w]
          rfl
        refine pure_ (i := 3) (N := some 14) (v := undef) (a' := ?_) #[true, true, true, true, false, false, false, false, false, false, false, false, false, false, false, false] rfl rfl (any_of HT_.out (by kernel_rfl)) (fun _ _ _ h => h) (Or.inr ⟨by rfl, rfl⟩) ?_ ?_
        rotate_left
        · simp only [Act.put, List.setIfInBounds_toArray, List.set_cons_zero, List.set_cons_succ, i64_w, i32_w]
          rfl
        refine pure_ (i := 4) (N := some 15) (v := undef) (a' := ?_) #[true, true, true, true, true, false, false, false, false, false, false, false, false, false, false, false] rfl rfl (any_of HT_.out (by kernel_rfl)) (fun _ _ _ h => h) (Or.inr ⟨by rfl, rfl⟩) ?_ ?_
        rotate_left
        · simp only [Act.put, List.setIfInBounds_toArray, List.set_cons_zero, List.set_cons_succ, i64_w, i32_w]
          rfl
        refine pure_ (i := 5) (N := some 16) (v := undef) (a' := ?_) #[true, true, true, true, true, true, false, false, false, false, false, false, false, false, false, false] rfl rfl (any_of HT_.out (by kernel_rfl)) (fun _ _ _ h => h) (Or.inr ⟨by rfl, rfl⟩) ?_ ?_
        rotate_left
        · simp only [Act.put, List.setIfInBounds_toArray, List.set_cons_zero, List.set_cons_succ, i64_w, i32_w]
          rfl
        refine pure_ (i := 6) (N := some 17) (v := undef) (a' := ?_) #[true, true, true, true, true, true, true, false, false, false, false, false, false, false, false, false] rfl rfl (any_of HT_.out (by kernel_rfl)) (fun _ _ _ h => h) (Or.inr ⟨by rfl, rfl⟩) ?_ ?_
        rotate_left
        · simp only [Act.put, List.setIfInBounds_toArray, List.set_cons_zero, List.set_cons_succ, i64_w, i32_w]
          rfl
        refine pure_ (i := 7) (N := some 18) (v := undef) (a' := ?_) #[true, true, true, true, true, true, true, true, false, false, false, false, false, false, false, false] rfl rfl (any_of HT_.out (by kernel_rfl)) (fun _ _ _ h => h) (Or.inr ⟨by rfl, rfl⟩) ?_ ?_
        rotate_left
        · simp only [Act.put, List.setIfInBounds_toArray, List.set_cons_zero, List.set_cons_succ, i64_w, i32_w]
          rfl
        refine pure_ (i := 8) (N := some 19) (v := undef) (a' := ?_) #[true, true, true, true, true, true, true, true, true, false, false, false, false, false, false, false] rfl rfl (any_of HT_.out (by kernel_rfl)) (fun _ _ _ h => h) (Or.inr ⟨by rfl, rfl⟩) ?_ ?_
        rotate_left
        · simp only [Act.put, List.setIfInBounds_toArray, List.set_cons_zero, List.set_cons_succ, i64_w, i32_w]
          rfl
        refine pure_ (i := 9) (N := some 20) (v := undef) (a' := ?_) #[true, true, true, true, true, true, true, true, true, true, false, false, false, false, false, false] rfl rfl (any_of HT_.out (by kernel_rfl)) (fun _ _ _ h => h) (Or.inr ⟨by rfl, rfl⟩) ?_ ?_
        rotate_left
        · simp only [Act.put, List.setIfInBounds_toArray, List.set_cons_zero, List.set_cons_succ, i64_w, i32_w]
          rfl
        refine pure_ (i := 10) (N := some 21) (v := undef) (a' := ?_) #[true, true, true, true, true, true, true, true, true, true, true, false, false, false, false, false] rfl rfl (any_of HT_.out (by kernel_rfl)) (fun _ _ _ h => h) (Or.inr ⟨by rfl, rfl⟩) ?_ ?_
        rotate_left
        · simp only [Act.put, List.setIfInBounds_toArray, List.set_cons_zero, List.set_cons_succ, i64_w, i32_w]
          rfl
        refine pure_ (i := 11) (N := some 22) (v := undef) (a' := ?_) #[true, true, true, true, true, true, true, true, true, true, true, true, false, false, false, false] rfl rfl (any_of HT_.out (by kernel_rfl)) (fun _ _ _ h => h) (Or.inr ⟨by rfl, rfl⟩) ?_ ?_
        rotate_left
        · simp only [Act.put, List.setIfInBounds_toArray, List.set_cons_zero, List.set_cons_succ, i64_w, i32_w]
          rfl
        refine pure_ (i := 12) (N := some 23) (v := undef) (a' := ?_) #[true, true, true, true, true, true, true, true, true, true, true, true, true, false, false, false] rfl rfl (any_of HT_.out (by kernel_rfl)) (fun _ _ _ h => h) (Or.inr ⟨by rfl, rfl⟩) ?_ ?_
        rotate_left
        · simp only [Act.put, List.setIfInBounds_toArray, List.set_cons_zero, List.set_cons_succ, i64_w, i32_w]
          rfl
        refine pure_ (i := 13) (N := some 24) (v := undef) (a' := ?_) #[true, true, true, true, true, true, true, true, true, true, true, true, true, true, false, false] rfl rfl (any_of HT_.out (by kernel_rfl)) (fun _ _ _ h => h) (Or.inr ⟨by rfl, rfl⟩) ?_ ?_
        rotate_left
        · simp only [Act.put, List.setIfInBounds_toArray, List.set_cons_zero, List.set_cons_succ, i64_w, i32_w]
          rfl
        refine pure_ (i := 14) (N := some 25) (v := undef) (a' := ?_) #[true, true, true, true, true, true, true, true, true, true, true, true, true, true, true, false] rfl rfl (any_of HT_.out (by kernel_rfl)) (fun _ _ _ h => h) (Or.inr ⟨by rfl, rfl⟩) ?_ ?_
        rotate_left
        · simp only [Act.put, List.setIfInBounds_toArray, List.set_cons_zero, List.set_cons_succ, i64_w, i32_w]
          rfl
        refine pure_ (i := 15) (N := some 26) (v := ?_) (a' := ?_) #[true, true, true, true, true, true, true, true, true, true, true, true, true, true, true, true] rfl rfl (any_of HT_.out (by kernel_rfl)) (fun _ _ _ h => h) (Or.inl ⟨by rfl, ?_⟩) ?_ ?_
        rotate_left
        · intro w'
          go_simp
          all_goals with_reducible rfl
        rotate_left
        · simp only [Act.put, List.setIfInBounds_toArray, List.set_cons_zero, List.set_cons_succ, i64_w, i32_w]
          rfl
        refine done_ (done_of HT_.out (by kernel_rfl)) ?_
        go_wp2
        go_roundg (gk - 1)
        case measure => have := HG.out; omega
        case rel =>
          refine ⟨x + 1, by omega, by omega, by have := HG.out; omega, by first | rfl | rw [w64_in _ (by omega)], ⟨hHeld⟩, ⟨fun i i0 i1 => ?_⟩⟩
          exact A.out i i0 (by omega)
    · have hltz : decide (x < (l0.length : Int)) = false := decide_eq_false hlt
      go_wp2
      go_ret
      exact ⟨by rw [rises_yes c_ z47 l0 (fun i i0 i1 => A.out i i0 (by have := HK.out; omega))]; rfl, BW.out⟩

end Go.Proofs.Ytgmdoapedhppmaa.PC

namespace Go.Proofs.Ytgmdoapedhppmaa.PC
set_option linter.unusedVariables false
set_option linter.unusedSimpArgs false
open Go.RowKit Go.Proofs.YtgmdoapedhppmaaW.PrintWords Go.Proofs.YtgmdoapedhppmaaW.PrintLast Go.Proofs.YtgmdoapedhppmaaW.PrintMore
/-- What is right, in plain words. -/
def badRow (r : S57) : Bool := !(keyB r.f0 && valueB r.f1)
def badChange (c : S50) : Bool := !changeB c
def txnB (n : Int) (t : S47) : Bool := decide (t.f0 / 4294967296 % 4294967296 = n) && decide ((t.f1.length : Int) > 0) && decide ((t.f1.length : Int) ≤ 32) && !t.f1.any badChange && rises (fun a b => ordI a.f0 b.f0) z50 t.f1
def badTxn (n : Int) (t : S47) : Bool := !txnB n t
def rowsB (l : List S57) : Bool := !l.any badRow && rises (fun a b => ordI a.f0 b.f0) z57 l
def rightB (n : Int) (l : List S47) : Bool := !decide (n = 0) && !decide ((l.length : Int) > 64) && !l.any (badTxn n) && rises (fun a b => cmpI a.f0 b.f0) z47 l
def codec_RightRows.f (l0 : List S57) : Option Int := if l0.length < 9223372036854775807 then some (if rowsB l0 then 0 else 1) else none
def codec_Right.f (a0_0 : Int) (l0_1 : List S47) : Option Int := some (if rightB a0_0 l0_1 then 0 else 1)

theorem says_rows (w : World) : Says57 badRow w := fun W x hW => (codec_RightRows_1.calls _ _ _ _ W (rows1_f x)).mono fun e w' h => ⟨h.1, below_step hW h.2⟩
theorem saysR_rows (w : World) : SaysR57 (fun a b => ordI a.f0 b.f0) w := fun W x y hW => (codec_RightRows_2.calls 3 _ _ _ _ _ _ _ W (rows2_f x y)).mono fun e w' h => ⟨h.1, below_step hW h.2⟩
theorem says_changes (w : World) : Says50 badChange w := fun W x hW => (codec_txn_1.calls _ _ _ _ _ W (txn1_f x)).mono fun e w' h => ⟨h.1, below_step hW h.2⟩
theorem saysR_changes (w : World) : SaysR50 (fun a b => ordI a.f0 b.f0) w := fun W x y hW => (codec_txn_2.calls 3 _ _ _ _ _ _ _ _ _ W (txn2_f x y)).mono fun e w' h => ⟨h.1, below_step hW h.2⟩

set_option maxHeartbeats 2000000 in
theorem codec_RightRows.calls (A0 : Option Addr) (c0 : Nat) (l0 : List S57) (r : Int) (w : World) (hr0 : Kd.C k57 w A0 l0.length l0) (hc0 : l0.length ≤ c0) (h : codec_RightRows.f l0 = some r) :
    Calls Try.prog 21 #[.slice A0 l0.length c0] w fun e w' => e = .returned (.int .i64 r) ∧ Below w.heap.size w w' := by
  have hbig : l0.length < 9223372036854775807 := by
    by_cases hb : l0.length < 9223372036854775807
    · exact hb
    · rw [codec_RightRows.f, if_neg hb] at h; cases h
  have hr : (if rowsB l0 then 0 else 1 : Int) = r := by
    rw [codec_RightRows.f, if_pos hbig] at h; exact Option.some.inj h
  clear h
  have HC := Aside0.mk hr0
  have HB_ := Aside0.mk hbig
  clear hr0 hbig
  cases h1 : l0.any badRow with
  | true =>
    obtain rfl : 1 = r := by rw [← hr]; unfold rowsB; rw [h1]; rfl
    clear hr
    have H1 := Aside0.mk h1
    clear h1
    go_enter Try.func21, Try.ntmps21
    go_wp2_with fail
    with_reducible refine (contains57 badRow A0 c0 l0 _ HC.out hc0 HB_.out (says_rows _)).mono ?_
    rintro e w1 ⟨rfl, hb⟩
    rw [H1.out]
    have HB := Aside0.mk hb
    clear hb
    go_wp2
    go_ret
    exact ⟨by first | rfl | simp, HB.out⟩
  | false =>
    cases h2 : rises (fun (a b : S57) => ordI a.f0 b.f0) z57 l0 with
    | true =>
      obtain rfl : 0 = r := by rw [← hr]; unfold rowsB; rw [h1, h2]; rfl
      clear hr
      have H1 := Aside0.mk h1
      have H2 := Aside0.mk h2
      clear h1 h2
      go_enter Try.func21, Try.ntmps21
      go_wp2_with fail
      with_reducible refine (contains57 badRow A0 c0 l0 _ HC.out hc0 HB_.out (says_rows _)).mono ?_
      rintro e w1 ⟨rfl, hb⟩
      rw [H1.out]
      have HB := Aside0.mk hb
      clear hb
      go_wp2_with fail
      with_reducible refine (rising57 (fun a b => ordI a.f0 b.f0) A0 c0 l0 _ (Kd.C_below HC.out HB.out) hc0 HB_.out (saysR_rows _)).mono ?_
      rintro e w2 ⟨rfl, hb⟩
      rw [H2.out]
      have HB2 := Aside0.mk (below_step HB.out hb)
      clear hb
      go_wp2
      go_ret
      exact ⟨by first | rfl | simp, HB2.out⟩
    | false =>
      obtain rfl : 1 = r := by rw [← hr]; unfold rowsB; rw [h1, h2]; rfl
      clear hr
      have H1 := Aside0.mk h1
      have H2 := Aside0.mk h2
      clear h1 h2
      go_enter Try.func21, Try.ntmps21
      go_wp2_with fail
      with_reducible refine (contains57 badRow A0 c0 l0 _ HC.out hc0 HB_.out (says_rows _)).mono ?_
      rintro e w1 ⟨rfl, hb⟩
      rw [H1.out]
      have HB := Aside0.mk hb
      clear hb
      go_wp2_with fail
      with_reducible refine (rising57 (fun a b => ordI a.f0 b.f0) A0 c0 l0 _ (Kd.C_below HC.out HB.out) hc0 HB_.out (saysR_rows _)).mono ?_
      rintro e w2 ⟨rfl, hb⟩
      rw [H2.out]
      have HB2 := Aside0.mk (below_step HB.out hb)
      clear hb
      go_wp2
      go_ret
      exact ⟨by first | rfl | simp, HB2.out⟩
end Go.Proofs.Ytgmdoapedhppmaa.PC

namespace Go.Proofs.Ytgmdoapedhppmaa.PC
set_option linter.unusedVariables false
set_option linter.unusedSimpArgs false
open Go.RowKit Go.Proofs.YtgmdoapedhppmaaW.PrintWords Go.Proofs.YtgmdoapedhppmaaW.PrintLast Go.Proofs.YtgmdoapedhppmaaW.PrintMore

set_option maxHeartbeats 4000000 in
theorem codec_txn.calls (x n : Int) (A : Option Addr) (c : Nat) (l : List S50) (w : World) (hr : Kd.C k50 w A l.length l) (hc : l.length ≤ c) :
    Calls Try.prog 37 #[.agg #[.int .u64 x, .slice A l.length c], .int .u32 n] w fun e w' => e = .returned (.bool (txnB n ⟨x, l⟩)) ∧ Below w.heap.size w w' := by
  have HC := Aside0.mk hr
  clear hr
  have U : Aside0 (shift_Unpack.f x = some (x / 4294967296 % 4294967296, x % 256, x % 4294967296 / 256)) := ⟨rfl⟩
  obtain ⟨ep, hep⟩ : ∃ ep, ep = x / 4294967296 % 4294967296 := ⟨_, rfl⟩
  rw [← hep] at U
  generalize x % 256 = wk at U
  generalize x % 4294967296 / 256 = sq at U
  have E : Aside0 (txnB n ⟨x, l⟩ = (decide (ep = n) && decide ((l.length : Int) > 0) && decide ((l.length : Int) ≤ 32) && !l.any badChange && rises (fun a b => ordI a.f0 b.f0) z50 l)) := ⟨by rw [hep]; rfl⟩
  clear hep
  generalize txnB n ⟨x, l⟩ = r at E ⊢
  by_cases c1 : ep = n
  rotate_left
  · have d1 : (ep == n) = false := beq_eq_false_iff_ne.2 c1
    go_enter Try.func37, Try.ntmps37
    go_wp2_with (((with_reducible refine gate_dst (N := 2) rfl ?_); refine box_event ?hg (N := 2) ?hd (cs := #[.int .u64 x, .slice A l.length c]) (t := 47) ?hr ?_; (case hd => rfl); (case hg => rfl); (case hr => first | (go_simp; done) | (go_simp; rfl)); intro gb hg w5 hbox hb; have BK := Aside0.mk hbox; have HB := Aside0.mk hb; clear hb hbox hg; have hz0 : w5.cell? ⟨gb, 0, none⟩ = some (.int .u64 x) := (blk_cell BK.out 0).trans rfl; have hz1 : w5.cell? ⟨gb, 1, none⟩ = some (.slice A l.length c) := (blk_cell BK.out 1).trans rfl))
    refine (shift_Unpack.calls x ep wk sq _ U.out).mono ?_
    rintro e w' ⟨rfl, ⟨nd, rfl⟩⟩
    have hb : Below w5.heap.size w5 (w5.drewN nd) := pw_below_drewN (Below.refl _ _) _
    generalize w5.drewN nd = w6 at hb ⊢
    have BK_ := Aside0.mk (blk_below BK.out hb)
    have HB_ := Aside0.mk (below_step HB.out hb)
    clear BK HB hz0 hz1 hb
    have BK := BK_
    have HB := HB_
    clear BK_ HB_
    have hz0 : w6.cell? ⟨gb, 0, none⟩ = some (.int .u64 x) := (blk_cell BK.out 0).trans rfl
    have hz1 : w6.cell? ⟨gb, 1, none⟩ = some (.slice A l.length c) := (blk_cell BK.out 1).trans rfl
    go_wp2
    go_ret
    exact ⟨by rw [E.out]; rw [decide_eq_false c1]; rfl, HB.out⟩
  have d1 : (ep == n) = true := beq_iff_eq.2 c1
  by_cases c2 : (l.length : Int) > 0
  rotate_left
  · have d2 : decide ((l.length : Int) > 0) = false := decide_eq_false c2
    have d2' : l.length = 0 := by omega
    go_enter Try.func37, Try.ntmps37
    go_wp2_with (((with_reducible refine gate_dst (N := 2) rfl ?_); refine box_event ?hg (N := 2) ?hd (cs := #[.int .u64 x, .slice A l.length c]) (t := 47) ?hr ?_; (case hd => rfl); (case hg => rfl); (case hr => first | (go_simp; done) | (go_simp; rfl)); intro gb hg w5 hbox hb; have BK := Aside0.mk hbox; have HB := Aside0.mk hb; clear hb hbox hg; have hz0 : w5.cell? ⟨gb, 0, none⟩ = some (.int .u64 x) := (blk_cell BK.out 0).trans rfl; have hz1 : w5.cell? ⟨gb, 1, none⟩ = some (.slice A l.length c) := (blk_cell BK.out 1).trans rfl))
    refine (shift_Unpack.calls x ep wk sq _ U.out).mono ?_
    rintro e w' ⟨rfl, ⟨nd, rfl⟩⟩
    have hb : Below w5.heap.size w5 (w5.drewN nd) := pw_below_drewN (Below.refl _ _) _
    generalize w5.drewN nd = w6 at hb ⊢
    have BK_ := Aside0.mk (blk_below BK.out hb)
    have HB_ := Aside0.mk (below_step HB.out hb)
    clear BK HB hz0 hz1 hb
    have BK := BK_
    have HB := HB_
    clear BK_ HB_
    have hz0 : w6.cell? ⟨gb, 0, none⟩ = some (.int .u64 x) := (blk_cell BK.out 0).trans rfl
    have hz1 : w6.cell? ⟨gb, 1, none⟩ = some (.slice A l.length c) := (blk_cell BK.out 1).trans rfl
    go_wp2
    go_ret
    exact ⟨by rw [E.out]; rw [decide_eq_true c1, (decide_eq_false (by omega) : decide ((l.length : Int) > 0) = false)]; rfl, HB.out⟩
  have d2 : decide ((l.length : Int) > 0) = true := decide_eq_true c2
  have d2' : 0 < l.length := by omega
  by_cases c3 : (l.length : Int) ≤ 32
  rotate_left
  · have d3 : decide ((l.length : Int) ≤ 32) = false := decide_eq_false c3
    go_enter Try.func37, Try.ntmps37
    go_wp2_with (((with_reducible refine gate_dst (N := 2) rfl ?_); refine box_event ?hg (N := 2) ?hd (cs := #[.int .u64 x, .slice A l.length c]) (t := 47) ?hr ?_; (case hd => rfl); (case hg => rfl); (case hr => first | (go_simp; done) | (go_simp; rfl)); intro gb hg w5 hbox hb; have BK := Aside0.mk hbox; have HB := Aside0.mk hb; clear hb hbox hg; have hz0 : w5.cell? ⟨gb, 0, none⟩ = some (.int .u64 x) := (blk_cell BK.out 0).trans rfl; have hz1 : w5.cell? ⟨gb, 1, none⟩ = some (.slice A l.length c) := (blk_cell BK.out 1).trans rfl))
    refine (shift_Unpack.calls x ep wk sq _ U.out).mono ?_
    rintro e w' ⟨rfl, ⟨nd, rfl⟩⟩
    have hb : Below w5.heap.size w5 (w5.drewN nd) := pw_below_drewN (Below.refl _ _) _
    generalize w5.drewN nd = w6 at hb ⊢
    have BK_ := Aside0.mk (blk_below BK.out hb)
    have HB_ := Aside0.mk (below_step HB.out hb)
    clear BK HB hz0 hz1 hb
    have BK := BK_
    have HB := HB_
    clear BK_ HB_
    have hz0 : w6.cell? ⟨gb, 0, none⟩ = some (.int .u64 x) := (blk_cell BK.out 0).trans rfl
    have hz1 : w6.cell? ⟨gb, 1, none⟩ = some (.slice A l.length c) := (blk_cell BK.out 1).trans rfl
    go_wp2
    go_ret
    exact ⟨by rw [E.out]; rw [decide_eq_true c1, (decide_eq_true (by omega) : decide ((l.length : Int) > 0) = true), (decide_eq_false (by omega) : decide ((l.length : Int) ≤ 32) = false)]; rfl, HB.out⟩
  have d3 : decide ((l.length : Int) ≤ 32) = true := decide_eq_true c3
  have hbig : Aside0 (l.length < 9223372036854775807) := ⟨by omega⟩
  obtain ⟨q4, hq4⟩ : ∃ q, q = l.any badChange := ⟨_, rfl⟩
  obtain ⟨q5, hq5⟩ : ∃ q, q = rises (fun (a b : S50) => ordI a.f0 b.f0) z50 l := ⟨_, rfl⟩
  have E2 : Aside0 (r = (!q4 && q5)) := ⟨by rw [E.out, decide_eq_true c1, (decide_eq_true (by omega) : decide ((l.length : Int) > 0) = true), (decide_eq_true (by omega) : decide ((l.length : Int) ≤ 32) = true), hq4, hq5]; simp⟩
  clear E
  have E := E2
  clear E2
  have Q4 := Aside0.mk hq4
  have Q5 := Aside0.mk hq5
  clear hq4 hq5
  cases q4 with
  | true =>
    go_enter Try.func37, Try.ntmps37
    go_wp2_with (((with_reducible refine gate_dst (N := 2) rfl ?_); refine box_event ?hg (N := 2) ?hd (cs := #[.int .u64 x, .slice A l.length c]) (t := 47) ?hr ?_; (case hd => rfl); (case hg => rfl); (case hr => first | (go_simp; done) | (go_simp; rfl)); intro gb hg w5 hbox hb; have BK := Aside0.mk hbox; have HB := Aside0.mk hb; clear hb hbox hg; have hz0 : w5.cell? ⟨gb, 0, none⟩ = some (.int .u64 x) := (blk_cell BK.out 0).trans rfl; have hz1 : w5.cell? ⟨gb, 1, none⟩ = some (.slice A l.length c) := (blk_cell BK.out 1).trans rfl))
    refine (shift_Unpack.calls x ep wk sq _ U.out).mono ?_
    rintro e w' ⟨rfl, ⟨nd, rfl⟩⟩
    have hb : Below w5.heap.size w5 (w5.drewN nd) := pw_below_drewN (Below.refl _ _) _
    generalize w5.drewN nd = w6 at hb ⊢
    have BK_ := Aside0.mk (blk_below BK.out hb)
    have HB_ := Aside0.mk (below_step HB.out hb)
    clear BK HB hz0 hz1 hb
    have BK := BK_
    have HB := HB_
    clear BK_ HB_
    have hz0 : w6.cell? ⟨gb, 0, none⟩ = some (.int .u64 x) := (blk_cell BK.out 0).trans rfl
    have hz1 : w6.cell? ⟨gb, 1, none⟩ = some (.slice A l.length c) := (blk_cell BK.out 1).trans rfl
    go_wp2_with fail
    with_reducible refine (contains50 badChange A c l _ (Kd.C_below HC.out HB.out) hc hbig.out (says_changes _)).mono ?_
    rintro e w7 ⟨rfl, hb⟩
    rw [← Q4.out]
    have BK_ := Aside0.mk (blk_below BK.out hb)
    have HB_ := Aside0.mk (below_step HB.out hb)
    clear BK HB hz0 hz1 hb
    have BK := BK_
    have HB := HB_
    clear BK_ HB_
    have hz0 : w7.cell? ⟨gb, 0, none⟩ = some (.int .u64 x) := (blk_cell BK.out 0).trans rfl
    have hz1 : w7.cell? ⟨gb, 1, none⟩ = some (.slice A l.length c) := (blk_cell BK.out 1).trans rfl
    go_wp2
    go_ret
    exact ⟨by rw [E.out]; rfl, HB.out⟩
  | false =>
    go_enter Try.func37, Try.ntmps37
    go_wp2_with (((with_reducible refine gate_dst (N := 2) rfl ?_); refine box_event ?hg (N := 2) ?hd (cs := #[.int .u64 x, .slice A l.length c]) (t := 47) ?hr ?_; (case hd => rfl); (case hg => rfl); (case hr => first | (go_simp; done) | (go_simp; rfl)); intro gb hg w5 hbox hb; have BK := Aside0.mk hbox; have HB := Aside0.mk hb; clear hb hbox hg; have hz0 : w5.cell? ⟨gb, 0, none⟩ = some (.int .u64 x) := (blk_cell BK.out 0).trans rfl; have hz1 : w5.cell? ⟨gb, 1, none⟩ = some (.slice A l.length c) := (blk_cell BK.out 1).trans rfl))
    refine (shift_Unpack.calls x ep wk sq _ U.out).mono ?_
    rintro e w' ⟨rfl, ⟨nd, rfl⟩⟩
    have hb : Below w5.heap.size w5 (w5.drewN nd) := pw_below_drewN (Below.refl _ _) _
    generalize w5.drewN nd = w6 at hb ⊢
    have BK_ := Aside0.mk (blk_below BK.out hb)
    have HB_ := Aside0.mk (below_step HB.out hb)
    clear BK HB hz0 hz1 hb
    have BK := BK_
    have HB := HB_
    clear BK_ HB_
    have hz0 : w6.cell? ⟨gb, 0, none⟩ = some (.int .u64 x) := (blk_cell BK.out 0).trans rfl
    have hz1 : w6.cell? ⟨gb, 1, none⟩ = some (.slice A l.length c) := (blk_cell BK.out 1).trans rfl
    go_wp2_with fail
    with_reducible refine (contains50 badChange A c l _ (Kd.C_below HC.out HB.out) hc hbig.out (says_changes _)).mono ?_
    rintro e w7 ⟨rfl, hb⟩
    rw [← Q4.out]
    have BK_ := Aside0.mk (blk_below BK.out hb)
    have HB_ := Aside0.mk (below_step HB.out hb)
    clear BK HB hz0 hz1 hb
    have BK := BK_
    have HB := HB_
    clear BK_ HB_
    have hz0 : w7.cell? ⟨gb, 0, none⟩ = some (.int .u64 x) := (blk_cell BK.out 0).trans rfl
    have hz1 : w7.cell? ⟨gb, 1, none⟩ = some (.slice A l.length c) := (blk_cell BK.out 1).trans rfl
    go_wp2_with fail
    with_reducible refine (rising50 (fun a b => ordI a.f0 b.f0) A c l _ (Kd.C_below HC.out HB.out) hc hbig.out (saysR_changes _)).mono ?_
    rintro e w8 ⟨rfl, hb⟩
    rw [← Q5.out]
    have BK_ := Aside0.mk (blk_below BK.out hb)
    have HB_ := Aside0.mk (below_step HB.out hb)
    clear BK HB hz0 hz1 hb
    have BK := BK_
    have HB := HB_
    clear BK_ HB_
    have hz0 : w8.cell? ⟨gb, 0, none⟩ = some (.int .u64 x) := (blk_cell BK.out 0).trans rfl
    have hz1 : w8.cell? ⟨gb, 1, none⟩ = some (.slice A l.length c) := (blk_cell BK.out 1).trans rfl
    go_wp2
    go_ret
    exact ⟨by rw [E.out]; cases q5 <;> rfl, HB.out⟩

set_option maxHeartbeats 4000000 in
theorem says_txns (b : Nat) (n : Int) (v : Value) (w : World) (hw : w.heap[b]? = some (.cells #[.int .u32 n, v] 25 (0, 0))) : Says47 b (badTxn n) w := by
  intro W x A c hW hc hC
  have HC := Aside0.mk hC
  clear hC
  have BE := Aside0.mk (blk_below hw hW)
  have HW := Aside0.mk hW
  clear hW hw
  obtain ⟨x0, x1⟩ := x
  change Calls Try.prog 36 #[.agg #[.int .u64 x0, .slice A x1.length c], .pointer (some ⟨b, 0, none⟩)] W fun e w' => e = .returned (.bool (badTxn n ⟨x0, x1⟩)) ∧ Below w.heap.size w w'
  unfold badTxn
  obtain ⟨q, hq⟩ : ∃ q, q = txnB n ⟨x0, x1⟩ := ⟨_, rfl⟩
  rw [← hq]
  have Q0 := Aside0.mk hq
  clear hq
  go_enter Try.func36, Try.ntmps36
  go_wp2_with (((with_reducible refine gate_dst (N := 2) rfl ?_); refine box_event ?hg (N := 2) ?hd (cs := #[.int .u64 x0, .slice A x1.length c]) (t := 47) ?hr ?_; (case hd => rfl); (case hg => rfl); (case hr => first | (go_simp; done) | (go_simp; rfl)); intro gb hg w5 hbox hb; have BK := Aside0.mk hbox; have HB := Aside0.mk hb; clear hb hbox hg; have hz0 : w5.cell? ⟨gb, 0, none⟩ = some (.int .u64 x0) := (blk_cell BK.out 0).trans rfl; have hz1 : w5.cell? ⟨gb, 1, none⟩ = some (.slice A x1.length c) := (blk_cell BK.out 1).trans rfl; have he : w5.cell? ⟨b, 0, none⟩ = some (.int .u32 n) := (blk_cell (blk_below BE.out HB.out) 0).trans rfl))
  with_reducible refine (codec_txn.calls x0 n A c x1 _ (Kd.C_below HC.out (below_step HW.out HB.out)) hc).mono ?_
  rintro e w6 ⟨rfl, hb⟩
  have HB2 := Aside0.mk (below_step HW.out (below_step HB.out hb))
  clear hb
  rw [← Q0.out]
  go_wp2
  go_ret
  exact ⟨by first | rfl | simp, HB2.out⟩

set_option maxHeartbeats 4000000 in
theorem saysR_txns (w : World) : SaysR47 (fun a b => cmpI a.f0 b.f0) w := by
  intro W x y A A' c c' hW
  have HW := Aside0.mk hW
  clear hW
  obtain ⟨x0, x1⟩ := x
  obtain ⟨y0, y1⟩ := y
  change Calls Try.prog 40 #[.agg #[.int .u64 x0, .slice A x1.length c], .agg #[.int .u64 y0, .slice A' y1.length c']] W fun e w' => e = .returned (.int .i64 (cmpI x0 y0)) ∧ Below w.heap.size w w'
  have U := Aside0.mk (compare_u64 x0 y0)
  generalize cmpI x0 y0 = q at U ⊢
  go_enter Try.func40, Try.ntmps40
  go_wp2_with (first | ((with_reducible refine gate_dst (N := 2) rfl ?_); refine box_event ?hg (N := 2) ?hd (cs := #[.int .u64 x0, .slice A x1.length c]) (t := 47) ?hr ?_; (case hd => rfl); (case hg => rfl); (case hr => first | (go_simp; done) | (go_simp; rfl)); intro ga hg w5 hbox hb; have BA := Aside0.mk hbox; have HB := Aside0.mk hb; clear hb hbox hg) | ((with_reducible refine gate_dst (N := 3) rfl ?_); refine box_event ?hg (N := 3) ?hd (cs := #[.int .u64 y0, .slice A' y1.length c']) (t := 47) ?hr ?_; (case hd => rfl); (case hg => rfl); (case hr => first | (go_simp; done) | (go_simp; rfl)); intro gb hg w6 hbox hb; have BB := Aside0.mk hbox; have HB2 := Aside0.mk (below_step HB.out hb); have BA2 := Aside0.mk (blk_below BA.out hb); clear hb hbox hg BA HB; have hz0 : w6.cell? ⟨ga, 0, none⟩ = some (.int .u64 x0) := (blk_cell BA2.out 0).trans rfl; have hy0 : w6.cell? ⟨gb, 0, none⟩ = some (.int .u64 y0) := (blk_cell BB.out 0).trans rfl))
  with_reducible refine (cmp_Compare_uint64.calls x0 y0 q _ U.out).mono ?_
  rintro e w' ⟨rfl, ⟨nd, rfl⟩⟩
  go_wp2
  go_ret
  exact ⟨by first | rfl | simp, pw_below_drewN (below_step HW.out HB2.out) _⟩


set_option maxHeartbeats 8000000 in
theorem codec_Right.calls (a0_0 : Int) (A0_1 : Option Addr) (c0_1 : Nat) (l0_1 : List S47) (r : Int) (w : World) (hr0_1 : Kd.C k47 w A0_1 l0_1.length l0_1) (hc0_1 : l0_1.length ≤ c0_1) (h : codec_Right.f a0_0 l0_1 = some r) :
    Calls Try.prog 20 #[.agg #[.int .u32 a0_0, .slice A0_1 l0_1.length c0_1]] w fun e w' => e = .returned (.int .i64 r) ∧ Below w.heap.size w w' := by
  have E : Aside0 (r = if rightB a0_0 l0_1 then 0 else 1) := ⟨(Option.some.inj h).symm⟩
  clear h
  have HC := Aside0.mk hr0_1
  clear hr0_1
  by_cases c1 : a0_0 = 0
  · have d1 : (a0_0 == 0) = true := beq_iff_eq.2 c1
    have R : Aside0 (rightB a0_0 l0_1 = false) := ⟨by unfold rightB; simp [c1]⟩
    clear c1
    go_enter Try.func20, Try.ntmps20
    go_wp2_with (((with_reducible refine gate_dst (N := 1) rfl ?_); refine box_event ?hg (N := 1) ?hd (cs := #[.int .u32 a0_0, .slice A0_1 l0_1.length c0_1]) (t := 25) ?hr ?_; (case hd => rfl); (case hg => rfl); (case hr => first | (go_simp; done) | (go_simp; rfl)); intro gb hg w5 hbox hb; have BK := Aside0.mk hbox; have HB := Aside0.mk hb; clear hb hbox hg; have hz0 : w5.cell? ⟨gb, 0, none⟩ = some (.int .u32 a0_0) := (blk_cell BK.out 0).trans rfl; have hz1 : w5.cell? ⟨gb, 1, none⟩ = some (.slice A0_1 l0_1.length c0_1) := (blk_cell BK.out 1).trans rfl))
    go_wp2
    go_ret
    exact ⟨by rw [E.out, R.out]; rfl, HB.out⟩
  have d1 : (a0_0 == 0) = false := beq_eq_false_iff_ne.2 c1
  by_cases c2 : (l0_1.length : Int) > 64
  · have d2 : decide ((l0_1.length : Int) > 64) = true := decide_eq_true c2
    have R : Aside0 (rightB a0_0 l0_1 = false) := ⟨by unfold rightB; simp [c2]⟩
    clear c1
    go_enter Try.func20, Try.ntmps20
    go_wp2_with (((with_reducible refine gate_dst (N := 1) rfl ?_); refine box_event ?hg (N := 1) ?hd (cs := #[.int .u32 a0_0, .slice A0_1 l0_1.length c0_1]) (t := 25) ?hr ?_; (case hd => rfl); (case hg => rfl); (case hr => first | (go_simp; done) | (go_simp; rfl)); intro gb hg w5 hbox hb; have BK := Aside0.mk hbox; have HB := Aside0.mk hb; clear hb hbox hg; have hz0 : w5.cell? ⟨gb, 0, none⟩ = some (.int .u32 a0_0) := (blk_cell BK.out 0).trans rfl; have hz1 : w5.cell? ⟨gb, 1, none⟩ = some (.slice A0_1 l0_1.length c0_1) := (blk_cell BK.out 1).trans rfl))
    go_wp2
    go_ret
    exact ⟨by rw [E.out, R.out]; rfl, HB.out⟩
  have d2 : decide ((l0_1.length : Int) > 64) = false := decide_eq_false c2
  have hbig : Aside0 (l0_1.length < 9223372036854775807) := ⟨by omega⟩
  obtain ⟨q4, hq4⟩ : ∃ q, q = l0_1.any (badTxn a0_0) := ⟨_, rfl⟩
  obtain ⟨q5, hq5⟩ : ∃ q, q = rises (fun (a b : S47) => cmpI a.f0 b.f0) z47 l0_1 := ⟨_, rfl⟩
  have R : Aside0 (rightB a0_0 l0_1 = (!q4 && q5)) := ⟨by unfold rightB; rw [decide_eq_false c1, d2, hq4, hq5]; simp⟩
  have Q4 := Aside0.mk hq4
  have Q5 := Aside0.mk hq5
  clear hq4 hq5 c1
  cases q4 with
  | true =>
    go_enter Try.func20, Try.ntmps20
    go_wp2_with (((with_reducible refine gate_dst (N := 1) rfl ?_); refine box_event ?hg (N := 1) ?hd (cs := #[.int .u32 a0_0, .slice A0_1 l0_1.length c0_1]) (t := 25) ?hr ?_; (case hd => rfl); (case hg => rfl); (case hr => first | (go_simp; done) | (go_simp; rfl)); intro gb hg w5 hbox hb; have BK := Aside0.mk hbox; have HB := Aside0.mk hb; clear hb hbox hg; have hz0 : w5.cell? ⟨gb, 0, none⟩ = some (.int .u32 a0_0) := (blk_cell BK.out 0).trans rfl; have hz1 : w5.cell? ⟨gb, 1, none⟩ = some (.slice A0_1 l0_1.length c0_1) := (blk_cell BK.out 1).trans rfl))
    with_reducible refine (contains47 gb (badTxn a0_0) A0_1 c0_1 l0_1 _ (Kd.C_below HC.out HB.out) hc0_1 hbig.out (says_txns gb a0_0 _ _ BK.out)).mono ?_
    rintro e w7 ⟨rfl, hb⟩
    rw [← Q4.out]
    have BK_ := Aside0.mk (blk_below BK.out hb)
    have HB_ := Aside0.mk (below_step HB.out hb)
    clear BK HB hz0 hz1 hb
    have BK := BK_
    have HB := HB_
    clear BK_ HB_
    have hz0 : w7.cell? ⟨gb, 0, none⟩ = some (.int .u32 a0_0) := (blk_cell BK.out 0).trans rfl
    have hz1 : w7.cell? ⟨gb, 1, none⟩ = some (.slice A0_1 l0_1.length c0_1) := (blk_cell BK.out 1).trans rfl
    go_wp2
    go_ret
    exact ⟨by rw [E.out, R.out]; rfl, HB.out⟩
  | false =>
    cases q5 with
    | true =>
      go_enter Try.func20, Try.ntmps20
      go_wp2_with (((with_reducible refine gate_dst (N := 1) rfl ?_); refine box_event ?hg (N := 1) ?hd (cs := #[.int .u32 a0_0, .slice A0_1 l0_1.length c0_1]) (t := 25) ?hr ?_; (case hd => rfl); (case hg => rfl); (case hr => first | (go_simp; done) | (go_simp; rfl)); intro gb hg w5 hbox hb; have BK := Aside0.mk hbox; have HB := Aside0.mk hb; clear hb hbox hg; have hz0 : w5.cell? ⟨gb, 0, none⟩ = some (.int .u32 a0_0) := (blk_cell BK.out 0).trans rfl; have hz1 : w5.cell? ⟨gb, 1, none⟩ = some (.slice A0_1 l0_1.length c0_1) := (blk_cell BK.out 1).trans rfl))
      with_reducible refine (contains47 gb (badTxn a0_0) A0_1 c0_1 l0_1 _ (Kd.C_below HC.out HB.out) hc0_1 hbig.out (says_txns gb a0_0 _ _ BK.out)).mono ?_
      rintro e w7 ⟨rfl, hb⟩
      rw [← Q4.out]
      have BK_ := Aside0.mk (blk_below BK.out hb)
      have HB_ := Aside0.mk (below_step HB.out hb)
      clear BK HB hz0 hz1 hb
      have BK := BK_
      have HB := HB_
      clear BK_ HB_
      have hz0 : w7.cell? ⟨gb, 0, none⟩ = some (.int .u32 a0_0) := (blk_cell BK.out 0).trans rfl
      have hz1 : w7.cell? ⟨gb, 1, none⟩ = some (.slice A0_1 l0_1.length c0_1) := (blk_cell BK.out 1).trans rfl
      go_wp2_with fail
      with_reducible refine (rising47 (fun a b => cmpI a.f0 b.f0) A0_1 c0_1 l0_1 _ (Kd.C_below HC.out HB.out) hc0_1 hbig.out (saysR_txns _)).mono ?_
      rintro e w8 ⟨rfl, hb⟩
      rw [← Q5.out]
      have BK_ := Aside0.mk (blk_below BK.out hb)
      have HB_ := Aside0.mk (below_step HB.out hb)
      clear BK HB hz0 hz1 hb
      have BK := BK_
      have HB := HB_
      clear BK_ HB_
      have hz0 : w8.cell? ⟨gb, 0, none⟩ = some (.int .u32 a0_0) := (blk_cell BK.out 0).trans rfl
      have hz1 : w8.cell? ⟨gb, 1, none⟩ = some (.slice A0_1 l0_1.length c0_1) := (blk_cell BK.out 1).trans rfl
      go_wp2
      go_ret
      exact ⟨by rw [E.out, R.out]; rfl, HB.out⟩
    | false =>
      go_enter Try.func20, Try.ntmps20
      go_wp2_with (((with_reducible refine gate_dst (N := 1) rfl ?_); refine box_event ?hg (N := 1) ?hd (cs := #[.int .u32 a0_0, .slice A0_1 l0_1.length c0_1]) (t := 25) ?hr ?_; (case hd => rfl); (case hg => rfl); (case hr => first | (go_simp; done) | (go_simp; rfl)); intro gb hg w5 hbox hb; have BK := Aside0.mk hbox; have HB := Aside0.mk hb; clear hb hbox hg; have hz0 : w5.cell? ⟨gb, 0, none⟩ = some (.int .u32 a0_0) := (blk_cell BK.out 0).trans rfl; have hz1 : w5.cell? ⟨gb, 1, none⟩ = some (.slice A0_1 l0_1.length c0_1) := (blk_cell BK.out 1).trans rfl))
      with_reducible refine (contains47 gb (badTxn a0_0) A0_1 c0_1 l0_1 _ (Kd.C_below HC.out HB.out) hc0_1 hbig.out (says_txns gb a0_0 _ _ BK.out)).mono ?_
      rintro e w7 ⟨rfl, hb⟩
      rw [← Q4.out]
      have BK_ := Aside0.mk (blk_below BK.out hb)
      have HB_ := Aside0.mk (below_step HB.out hb)
      clear BK HB hz0 hz1 hb
      have BK := BK_
      have HB := HB_
      clear BK_ HB_
      have hz0 : w7.cell? ⟨gb, 0, none⟩ = some (.int .u32 a0_0) := (blk_cell BK.out 0).trans rfl
      have hz1 : w7.cell? ⟨gb, 1, none⟩ = some (.slice A0_1 l0_1.length c0_1) := (blk_cell BK.out 1).trans rfl
      go_wp2_with fail
      with_reducible refine (rising47 (fun a b => cmpI a.f0 b.f0) A0_1 c0_1 l0_1 _ (Kd.C_below HC.out HB.out) hc0_1 hbig.out (saysR_txns _)).mono ?_
      rintro e w8 ⟨rfl, hb⟩
      rw [← Q5.out]
      have BK_ := Aside0.mk (blk_below BK.out hb)
      have HB_ := Aside0.mk (below_step HB.out hb)
      clear BK HB hz0 hz1 hb
      have BK := BK_
      have HB := HB_
      clear BK_ HB_
      have hz0 : w8.cell? ⟨gb, 0, none⟩ = some (.int .u32 a0_0) := (blk_cell BK.out 0).trans rfl
      have hz1 : w8.cell? ⟨gb, 1, none⟩ = some (.slice A0_1 l0_1.length c0_1) := (blk_cell BK.out 1).trans rfl
      go_wp2
      go_ret
      exact ⟨by rw [E.out, R.out]; rfl, HB.out⟩
end Go.Proofs.Ytgmdoapedhppmaa.PC
