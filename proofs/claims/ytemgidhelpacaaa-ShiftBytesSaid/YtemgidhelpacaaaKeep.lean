/- append to a row of one's own leaves what the row was: in its place, or behind it, in a new block. For rows of bytes. -/
import Derived.Test.YtemgidhelpacaaaPSx2
import Derived.Test.YtemgidhelpacaaaShow
namespace Go.Proofs.Ytemgidhelpacaaa.Pure
set_option linter.unusedVariables false
open Go.RowKit Go.Proofs.Ytemgidhelpacaaa.PS Go.Proofs.YtemgidhelpacaaaW.PrintWords Go.Proofs.YtemgidhelpacaaaW.PrintLast Go.Proofs.YtemgidhelpacaaaW.PrintMore Go.Proofs.Ytemgidhelpacaaa.B
section
variable {P : Program} (w : World)
theorem append_keep (base : Nat) (t ty e : TypeId) (i : TypeInfo) (z : Value) (bytes : Nat) (ht : P.underlying t = some (.slice e)) (hi : P.info? e = some i) (hz : i.zero = some z)
    (hsize : i.size = 1) (hby : i.bytes = bytes) (hzs : z.cells.size = 1)
    (v : Value) (n : Nat) (xs : List Value) (hown : w.ownsRow base e 1 v n xs)
    (a : Addr) (m c : Nat) (news : List Value) (hl : news.length = m * 1) (hnews : ∀ j u, news[j]? = some u → w.cell? (a.add j) = some u) (h1 : ∀ u ∈ news, u.oneCell' = true)
    (h63 : n + m ≤ maxLen) (hbytes : (n + m) * bytes ≤ 140737488355328) (hbase : base ≤ w.heap.size) :
    ∃ v' w', (Builtin.append_ #[t, t] ty #[v, .slice (some a) m c]).run P w = .ok v' w' ∧ w'.ownsRow base e 1 v' (n + m) (xs ++ news) ∧ w.grownBy w' v.ownBlock ∧
      (v'.ownBlock = v.ownBlock ∨ v'.ownBlock = some w.heap.size) ∧ (v'.ownBlock = v.ownBlock ∨ w.grownBy w' none) := by
  obtain ⟨v', w', hr, ho, hg, _, hat⟩ := run_append_own_at (P := P) w base t ty e i z 1 bytes ht hi hz hsize hby hzs (by decide) v n xs hown a m c news hl hnews h1 h63 hbytes hbase
  refine ⟨v', w', hr, ho, hg, hat, ?_⟩
  rcases hown.2 with ⟨rfl, rfl⟩ | ⟨g, cap, cur, rfl, hbg, hgg, hnc, hcm, hcs, htake⟩
  · exact .inr hg
  · by_cases hroom : n + m ≤ cap
    · have hfit : n * i.size + news.length ≤ cur.size := by rw [hl, hsize, hcs, ← Nat.add_mul]; exact Nat.mul_le_mul_right _ hroom
      have hr2 := run_append_room (P := P) w t ty e i ht hi g n cap cur hgg a m c news (by rw [hsize]; exact hl) hnews h1 hroom hfit
      rw [hr] at hr2
      injection hr2 with h1 h2
      exact .inl (by rw [h1]; rfl)
    · have holds : ∀ j u, xs[j]? = some u → w.cell? ((⟨g, 0, none⟩ : Addr).add j) = some u := hown.cells (g := g) rfl
      have hr2 := run_append_grow (P := P) w t ty e i z ht hi hz ⟨g, 0, none⟩ n cap xs (by rw [hsize]; exact hown.1) holds a m c news (by rw [hsize]; exact hl) hnews (by omega) (by simp only [maxLen] at h63; omega) (growslice_fits (by omega) (by rw [hby]; exact hbytes))
      rw [hr] at hr2
      injection hr2 with h1 h2
      exact .inr (by rw [h2]; exact ⟨rfl, rfl, rfl, by simp, fun k hk _ => Go.heap_alloc_old w.drew _ hk⟩)
end
section
variable {P : Program} {ops : Array Oper} {rest : List Oper} {o : Oper} {a : Act} {Q : Exit → Act → World → Prop}
theorem u8_append_keep {w0 W : World} (base : Nat) (hgd : o.guard = none) (s x : Operand) (t e : TypeId)
    (ho : o.op = .call { callee := .builtin .append, args := #[s, x], argTypes := #[t, t] })
    (ht : P.underlying t = some (.slice e)) (hinfo : (P.info? e).map (fun i => (i.zero, i.size, i.bytes)) = some (some (.int .u8 0), 1, 1))
    (v : Value) (xs : List Int) (y : Int) (ok : Nat → Prop) (hs : a.eval s = v) (hx : a.eval x = .slice (some ⟨W.heap.size, 0, none⟩) 1 1)
    (hfresh : ∀ k, W.heap.size ≤ k → ok k) (HO : Kd.R (Kd.int .u8) e W base ok v xs) (HB : Below base w0 W) (hbase : base ≤ W.heap.size) (hl : xs.length + 1 ≤ 140737488355328)
    (h : ∀ v1 w1, Kd.R (Kd.int .u8) e w1 base ok v1 (xs ++ [y]) → Below base w0 w1 → W.grownBy w1 v.ownBlock → (v1.ownBlock = v.ownBlock ∨ ∃ b, v1.ownBlock = some b ∧ W.heap.size ≤ b) → (v1.ownBlock = v.ownBlock ∨ W.grownBy w1 none) → wpList P ops Q rest (a.put o.dst v1) w1) :
    wpList P ops Q (o :: rest) a (W.alloc (.cells #[.int .u8 y] e)) := by
  obtain ⟨i0, hi, hzz⟩ := Option.map_eq_some_iff.1 hinfo
  simp only [Prod.mk.injEq] at hzz
  obtain ⟨hz0, hz1, hz2⟩ := hzz
  have hown : W.ownsRow base e 1 v xs.length (nums .u8 xs) := Kd.own_of_R HO
  obtain ⟨v1, w1, hr, hown1, hg, hat, hk⟩ := append_keep (P := P) (W.alloc (.cells #[.int .u8 y] e)) base t o.type e i0 (.int .u8 0) 1 ht hi hz0 hz1 hz2 rfl v xs.length (nums .u8 xs) (hown.alloc _) ⟨W.heap.size, 0, none⟩ 1 1 [.int .u8 y] rfl
    (World.news_of_block (cs := #[.int .u8 y]) (t := e) (fr := (0, 0)) (heap_alloc_new W _)) (by intro u hu; simp at hu; subst hu; rfl) (by simp only [maxLen]; omega) (by omega) (by simp; omega)
  have hg' : W.grownBy w1 v.ownBlock := World.grownBy.trans (World.grownBy_alloc W _ _) hg
  have hat' : v1.ownBlock = v.ownBlock ∨ ∃ b, v1.ownBlock = some b ∧ W.heap.size ≤ b := hat.imp id (fun h => ⟨_, h, by simp⟩)
  have hk' : v1.ownBlock = v.ownBlock ∨ W.grownBy w1 none := hk.imp id (fun h => World.grownBy.trans (World.grownBy_alloc W _ _) h)
  have hnum : nums .u8 xs ++ [.int .u8 y] = nums .u8 (xs ++ [y]) := by simp [nums]
  rw [hnum] at hown1
  have hR : Kd.R (Kd.int .u8) e w1 base ok v1 (xs ++ [y]) := Kd.R_of_own (enc := Value.int .u8) (h1 := fun _ => rfl) (by rw [List.length_append]; exact hown1) (by
    intro k hkk
    rcases hat' with h | ⟨b, hb, hle⟩
    · exact HO.1 k (h ▸ hkk)
    · rw [hb] at hkk; injection hkk with hkk; subst hkk; exact hfresh _ hle)
  refine wpList_plain hgd fun _ hK => ?_
  unfold Oper.wp execOp
  simp only [ho, resolve, invoke, builtin, Sem.run_bind, Sem.run_pure, Result.andThen_ok, List.map_toArray, List.map_cons, List.map_nil, hs, hx, hr]
  exact hK _ _ (h v1 w1 hR ((HB.alloc hbase _).grown hg (by simp; omega) (own_base hown)) hg' hat' hk')
end
/-- A row of bytes that lies at the head of block g. -/
def Lies (w : World) (g : Nat) (l : List Int) : Prop := ∀ j x, l[j]? = some x → w.cell? ⟨g, j, none⟩ = some (.int .u8 x)
theorem lies_block {w w1 : World} {g : Nat} {l : List Int} (h : Lies w g l) (hb : w1.heap[g]? = w.heap[g]?) : Lies w1 g l := fun j x hx => (World.cell?_of_block (a := ⟨g, j, none⟩) hb).trans (h j x hx)
theorem lies_lt {w : World} {g : Nat} {l : List Int} (h : Lies w g l) (hl : l ≠ []) : g < w.heap.size := by
  obtain ⟨x, r, rfl⟩ := List.exists_cons_of_ne_nil hl
  exact World.block_lt_of_cell? _ _ (h 0 x rfl)
theorem lies_own {w : World} {base e : Nat} {ok : Nat → Prop} {v : Value} {xs : List Int} (h : Kd.R (Kd.int .u8) e w base ok v xs) {g : Nat} (hg : v.ownBlock = some g) : Lies w g xs := by
  intro j x hx
  have := (Kd.own_of_R h).cells hg j (.int .u8 x) (by simp [encs, hx])
  have hadd : (⟨g, 0, none⟩ : Addr).add j = ⟨g, j, none⟩ := by unfold Addr.add; split <;> simp_all
  rwa [hadd] at this
/-- One append further: what lies at g goes on lying there. -/
theorem lies_step {W w1 : World} {base e : Nat} {ok : Nat → Prop} {v v1 : Value} {l ys : List Int} {g : Nat} (h : Lies W g l) (hR : Kd.R (Kd.int .u8) e w1 base ok v1 ys) (hpre : ∃ r, ys = l ++ r)
    (hg : W.grownBy w1 v.ownBlock) (hk : v1.ownBlock = v.ownBlock ∨ W.grownBy w1 none) : Lies w1 g l := by
  by_cases hl : l = []
  · subst hl; intro j x hx; simp at hx
  · have hlt := lies_lt h hl
    by_cases hv : v.ownBlock = some g
    · rcases hk with hk | hk
      · obtain ⟨r, rfl⟩ := hpre
        intro j x hx
        refine lies_own hR (hk.trans hv) j x ?_
        rw [List.getElem?_append_left (List.getElem?_eq_some_iff.1 hx).1]; exact hx
      · exact lies_block h (hk.block g hlt (by simp))
    · exact lies_block h (hg.block g hlt (fun e => hv e.symm))
theorem lies_C {w : World} {l : List Int} {A : Option Addr} (hA : l = [] ∨ ∃ g, A = some ⟨g, 0, none⟩ ∧ Lies w g l) (hl : l.length ≤ 9223372036854775807) : Kd.C (Kd.int .u8) w A l.length l := by
  refine Kd.C_of_reads (d := (0 : Int)) (h1 := fun _ => rfl) ⟨rfl, hl, fun h0 => ?_⟩
  rcases hA with rfl | ⟨g, rfl, hL⟩
  · simp at h0
  · refine ⟨_, rfl, fun j hj => ?_⟩
    have hadd : (⟨g, 0, none⟩ : Addr).add j = ⟨g, j, none⟩ := by unfold Addr.add; split <;> simp_all
    rw [hadd]
    exact hL j _ (by rw [List.getElem?_eq_getElem hj]; simp [List.getD, hj])
end Go.Proofs.Ytemgidhelpacaaa.Pure
