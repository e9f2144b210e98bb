/- Proofs that functions of the program come to what plain Lean functions say; made by wip/drive.py. -/
import Derived.Test.YtemgidhelpacaaaPSx0
import Derived.Test.YtemgidhelpacaaaPSx1
import Derived.Test.YtemgidhelpacaaaPSx2
import Derived.Test.YtemgidhelpacaaaPSx6
namespace Go.Proofs.Ytemgidhelpacaaa.PS
open Go.RowKit Go.Proofs.YtemgidhelpacaaaW.PrintWords Go.Proofs.YtemgidhelpacaaaW.PrintLast Go.Proofs.YtemgidhelpacaaaW.PrintMore
attribute [local go_sem] max2_int min2_int max_two min_two max_three min_three max_four min_four   -- for this text's walks alone
set_option linter.unusedVariables false
set_option linter.unusedSimpArgs false

/-! ### tidemarklaw01_ShiftPacks: function 6 -/
def tidemarklaw01_ShiftPacks.j0 : Nat → Int → Int → Int → Int → Int → Bool → Int → Int → Int → Int → Int → Int → Int → Int → Bool → Option (Bool)
  | 0, _, _, _, _, _, _, _, _, _, _, _, _, _, _, _ => none
  | k + 1, x0, x1, x2, x3, x4, x11, x12, x13, x16, x17, x18, x19, x20, x21, x80 => if x80 = true then (some false) else (if x13 = 0 then ((shift_Unpack.f x12).bind fun bt193 => (if bt193.1 = x0 then (if bt193.2.1 = x1 then (if bt193.2.2 = x2 then ((shift_Pack.f x16 x17 x18).bind fun bt196 => (if x16 < x19 then (if x11 = true then (if bt196.1 = x3 then (if bt196.2 = 0 then (some (true == (decide (x3 < x4)))) else (some false)) else (some false)) else (some false)) else (if x16 = x19 then (if x18 < x21 then (if x11 = true then (if bt196.1 = x3 then (if bt196.2 = 0 then (some (true == (decide (x3 < x4)))) else (some false)) else (some false)) else (some false)) else (if x18 = x21 then (if x11 = true then (if bt196.1 = x3 then (if bt196.2 = 0 then (some ((decide (x17 < x20)) == (decide (x3 < x4)))) else (some false)) else (some false)) else (some false)) else (if x11 = true then (if bt196.1 = x3 then (if bt196.2 = 0 then (some (false == (decide (x3 < x4)))) else (some false)) else (some false)) else (some false)))) else (if x11 = true then (if bt196.1 = x3 then (if bt196.2 = 0 then (some (false == (decide (x3 < x4)))) else (some false)) else (some false)) else (some false))))) else (some false)) else (some false)) else (some false))) else ((shift_Pack.f x16 x17 x18).bind fun bt198 => (if x16 < x19 then (if x11 = true then (if bt198.1 = x3 then (if bt198.2 = 0 then (some (true == (decide (x3 < x4)))) else (some false)) else (some false)) else (some false)) else (if x16 = x19 then (if x18 < x21 then (if x11 = true then (if bt198.1 = x3 then (if bt198.2 = 0 then (some (true == (decide (x3 < x4)))) else (some false)) else (some false)) else (some false)) else (if x18 = x21 then (if x11 = true then (if bt198.1 = x3 then (if bt198.2 = 0 then (some ((decide (x17 < x20)) == (decide (x3 < x4)))) else (some false)) else (some false)) else (some false)) else (if x11 = true then (if bt198.1 = x3 then (if bt198.2 = 0 then (some (false == (decide (x3 < x4)))) else (some false)) else (some false)) else (some false)))) else (if x11 = true then (if bt198.1 = x3 then (if bt198.2 = 0 then (some (false == (decide (x3 < x4)))) else (some false)) else (some false)) else (some false))))))
def tidemarklaw01_ShiftPacks.f (k : Nat) (a0 : Int) (a1 : Int) (a2 : Int) (a3 : Int) (a4 : Int) : Option (Bool) := (tidemarklaw01_shown.f k).bind fun t179 => ((shift_Pack.f a0 a1 a2).bind fun bt180 => ((tidemarkref01_Pack.f a0 a1 a2).bind fun bt182 => ((shift_Unpack.f a3).bind fun bt184 => ((shift_Unpack.f a4).bind fun bt187 => (if bt180.1 = bt182.1 then (if bt180.2 = bt182.2 then ((tidemarkref01_Epoch.f a3).bind fun t190 => (if bt184.1 = t190 then ((tidemarkref01_Worker.f a3).bind fun t191 => (if bt184.2.1 = t191 then ((tidemarkref01_Seq.f a3).bind fun t192 => (tidemarklaw01_ShiftPacks.j0 k a0 a1 a2 a3 a4 t179 bt180.1 bt180.2 bt184.1 bt184.2.1 bt184.2.2 bt187.1 bt187.2.1 bt187.2.2 (bt184.2.2 != t192))) else (tidemarklaw01_ShiftPacks.j0 k a0 a1 a2 a3 a4 t179 bt180.1 bt180.2 bt184.1 bt184.2.1 bt184.2.2 bt187.1 bt187.2.1 bt187.2.2 true))) else (tidemarklaw01_ShiftPacks.j0 k a0 a1 a2 a3 a4 t179 bt180.1 bt180.2 bt184.1 bt184.2.1 bt184.2.2 bt187.1 bt187.2.1 bt187.2.2 true))) else (tidemarklaw01_ShiftPacks.j0 k a0 a1 a2 a3 a4 t179 bt180.1 bt180.2 bt184.1 bt184.2.1 bt184.2.2 bt187.1 bt187.2.1 bt187.2.2 true)) else (tidemarklaw01_ShiftPacks.j0 k a0 a1 a2 a3 a4 t179 bt180.1 bt180.2 bt184.1 bt184.2.1 bt184.2.2 bt187.1 bt187.2.1 bt187.2.2 true))))))
theorem tidemarklaw01_ShiftPacks.mono_l : ∀ k, (∀ y0 y1 y2 y3 y4 y5 y6 y7 y8 y9 y10 y11 y12 y13 y14, LeO (tidemarklaw01_ShiftPacks.j0 k y0 y1 y2 y3 y4 y5 y6 y7 y8 y9 y10 y11 y12 y13 y14) (tidemarklaw01_ShiftPacks.j0 (k + 1) y0 y1 y2 y3 y4 y5 y6 y7 y8 y9 y10 y11 y12 y13 y14))
  | 0 => fun _ _ _ _ _ _ _ _ _ _ _ _ _ _ _ r h => by simp [tidemarklaw01_ShiftPacks.j0] at h
  | k + 1 => by
    have ih0 := tidemarklaw01_ShiftPacks.mono_l k
    · intro y0 y1 y2 y3 y4 y5 y6 y7 y8 y9 y10 y11 y12 y13 y14
      unfold tidemarklaw01_ShiftPacks.j0
      repeat' first
      | (with_reducible exact ih0 _ _ _ _ _ _ _ _ _ _ _ _ _ _ _)
      | (with_reducible exact tidemarklaw01_shown.mono _)
      | (with_reducible exact LeO.refl _)
      | (with_reducible exact LeO.none _)
      | (with_reducible refine LeO.ite ?_ ?_)
      | (with_reducible refine LeO.bind ?_ (fun _ => ?_))
      | exact ih0 _ _ _ _ _ _ _ _ _ _ _ _ _ _ _
      | exact tidemarklaw01_shown.mono _
      | exact LeO.none _
      | refine LeO.ite ?_ ?_
      | refine LeO.bind ?_ (fun _ => ?_)
theorem tidemarklaw01_ShiftPacks.mono : ∀ a0 a1 a2 a3 a4 k, LeO (tidemarklaw01_ShiftPacks.f k a0 a1 a2 a3 a4) (tidemarklaw01_ShiftPacks.f (k + 1) a0 a1 a2 a3 a4) := by
  intro a0 a1 a2 a3 a4 k
  have ih0 := tidemarklaw01_ShiftPacks.mono_l k
  unfold tidemarklaw01_ShiftPacks.f
  repeat' first
      | (with_reducible exact ih0 _ _ _ _ _ _ _ _ _ _ _ _ _ _ _)
      | (with_reducible exact tidemarklaw01_shown.mono _)
      | (with_reducible exact LeO.refl _)
      | (with_reducible exact LeO.none _)
      | (with_reducible refine LeO.ite ?_ ?_)
      | (with_reducible refine LeO.bind ?_ (fun _ => ?_))
      | exact ih0 _ _ _ _ _ _ _ _ _ _ _ _ _ _ _
      | exact tidemarklaw01_shown.mono _
      | exact LeO.none _
      | refine LeO.ite ?_ ?_
      | refine LeO.bind ?_ (fun _ => ?_)
set_option maxHeartbeats 8000000 in
set_option maxRecDepth 100000 in
theorem tidemarklaw01_ShiftPacks.calls (k : Nat) (a0 : Int) (a1 : Int) (a2 : Int) (a3 : Int) (a4 : Int) (r : Bool) (w : World) (hrt : r = true) (h : tidemarklaw01_ShiftPacks.f k a0 a1 a2 a3 a4 = some r) :
    Calls Try.prog 6 #[.int .u32 a0, .int .u8 a1, .int .u32 a2, .int .u64 a3, .int .u64 a4] w fun e w' => e = .returned (.bool r) ∧ Below w.heap.size w w' := by
  have HRT := Aside0.mk hrt
  clear hrt
  have HB := Aside0.mk (Below.refl w.heap.size w)
  have H : ((tidemarklaw01_shown.f k).bind fun t179 => ((shift_Pack.f a0 a1 a2).bind fun bt180 => ((tidemarkref01_Pack.f a0 a1 a2).bind fun bt182 => ((shift_Unpack.f a3).bind fun bt184 => ((shift_Unpack.f a4).bind fun bt187 => (if bt180.1 = bt182.1 then (if bt180.2 = bt182.2 then ((tidemarkref01_Epoch.f a3).bind fun t190 => (if bt184.1 = t190 then ((tidemarkref01_Worker.f a3).bind fun t191 => (if bt184.2.1 = t191 then ((tidemarkref01_Seq.f a3).bind fun t192 => (tidemarklaw01_ShiftPacks.j0 k a0 a1 a2 a3 a4 t179 bt180.1 bt180.2 bt184.1 bt184.2.1 bt184.2.2 bt187.1 bt187.2.1 bt187.2.2 (bt184.2.2 != t192))) else (tidemarklaw01_ShiftPacks.j0 k a0 a1 a2 a3 a4 t179 bt180.1 bt180.2 bt184.1 bt184.2.1 bt184.2.2 bt187.1 bt187.2.1 bt187.2.2 true))) else (tidemarklaw01_ShiftPacks.j0 k a0 a1 a2 a3 a4 t179 bt180.1 bt180.2 bt184.1 bt184.2.1 bt184.2.2 bt187.1 bt187.2.1 bt187.2.2 true))) else (tidemarklaw01_ShiftPacks.j0 k a0 a1 a2 a3 a4 t179 bt180.1 bt180.2 bt184.1 bt184.2.1 bt184.2.2 bt187.1 bt187.2.1 bt187.2.2 true)) else (tidemarklaw01_ShiftPacks.j0 k a0 a1 a2 a3 a4 t179 bt180.1 bt180.2 bt184.1 bt184.2.1 bt184.2.2 bt187.1 bt187.2.1 bt187.2.2 true))))))) = some r := h
  clear h
  replace H := Option.bind_eq_some_iff.mp H
  obtain ⟨t179, A60, H⟩ := H
  replace H : ((shift_Pack.f a0 a1 a2).bind fun bt180 => ((tidemarkref01_Pack.f a0 a1 a2).bind fun bt182 => ((shift_Unpack.f a3).bind fun bt184 => ((shift_Unpack.f a4).bind fun bt187 => (if bt180.1 = bt182.1 then (if bt180.2 = bt182.2 then ((tidemarkref01_Epoch.f a3).bind fun t190 => (if bt184.1 = t190 then ((tidemarkref01_Worker.f a3).bind fun t191 => (if bt184.2.1 = t191 then ((tidemarkref01_Seq.f a3).bind fun t192 => (tidemarklaw01_ShiftPacks.j0 k a0 a1 a2 a3 a4 t179 bt180.1 bt180.2 bt184.1 bt184.2.1 bt184.2.2 bt187.1 bt187.2.1 bt187.2.2 (bt184.2.2 != t192))) else (tidemarklaw01_ShiftPacks.j0 k a0 a1 a2 a3 a4 t179 bt180.1 bt180.2 bt184.1 bt184.2.1 bt184.2.2 bt187.1 bt187.2.1 bt187.2.2 true))) else (tidemarklaw01_ShiftPacks.j0 k a0 a1 a2 a3 a4 t179 bt180.1 bt180.2 bt184.1 bt184.2.1 bt184.2.2 bt187.1 bt187.2.1 bt187.2.2 true))) else (tidemarklaw01_ShiftPacks.j0 k a0 a1 a2 a3 a4 t179 bt180.1 bt180.2 bt184.1 bt184.2.1 bt184.2.2 bt187.1 bt187.2.1 bt187.2.2 true)) else (tidemarklaw01_ShiftPacks.j0 k a0 a1 a2 a3 a4 t179 bt180.1 bt180.2 bt184.1 bt184.2.1 bt184.2.2 bt187.1 bt187.2.1 bt187.2.2 true)))))) = some r := H
  have A6 := Aside0.mk A60
  clear A60
  replace H := Option.bind_eq_some_iff.mp H
  obtain ⟨⟨t180, t181⟩, A70, H⟩ := H
  replace H : ((tidemarkref01_Pack.f a0 a1 a2).bind fun bt182 => ((shift_Unpack.f a3).bind fun bt184 => ((shift_Unpack.f a4).bind fun bt187 => (if t180 = bt182.1 then (if t181 = bt182.2 then ((tidemarkref01_Epoch.f a3).bind fun t190 => (if bt184.1 = t190 then ((tidemarkref01_Worker.f a3).bind fun t191 => (if bt184.2.1 = t191 then ((tidemarkref01_Seq.f a3).bind fun t192 => (tidemarklaw01_ShiftPacks.j0 k a0 a1 a2 a3 a4 t179 t180 t181 bt184.1 bt184.2.1 bt184.2.2 bt187.1 bt187.2.1 bt187.2.2 (bt184.2.2 != t192))) else (tidemarklaw01_ShiftPacks.j0 k a0 a1 a2 a3 a4 t179 t180 t181 bt184.1 bt184.2.1 bt184.2.2 bt187.1 bt187.2.1 bt187.2.2 true))) else (tidemarklaw01_ShiftPacks.j0 k a0 a1 a2 a3 a4 t179 t180 t181 bt184.1 bt184.2.1 bt184.2.2 bt187.1 bt187.2.1 bt187.2.2 true))) else (tidemarklaw01_ShiftPacks.j0 k a0 a1 a2 a3 a4 t179 t180 t181 bt184.1 bt184.2.1 bt184.2.2 bt187.1 bt187.2.1 bt187.2.2 true)) else (tidemarklaw01_ShiftPacks.j0 k a0 a1 a2 a3 a4 t179 t180 t181 bt184.1 bt184.2.1 bt184.2.2 bt187.1 bt187.2.1 bt187.2.2 true))))) = some r := H
  have A7 := Aside0.mk A70
  clear A70
  replace H := Option.bind_eq_some_iff.mp H
  obtain ⟨⟨t182, t183⟩, A80, H⟩ := H
  replace H : ((shift_Unpack.f a3).bind fun bt184 => ((shift_Unpack.f a4).bind fun bt187 => (if t180 = t182 then (if t181 = t183 then ((tidemarkref01_Epoch.f a3).bind fun t190 => (if bt184.1 = t190 then ((tidemarkref01_Worker.f a3).bind fun t191 => (if bt184.2.1 = t191 then ((tidemarkref01_Seq.f a3).bind fun t192 => (tidemarklaw01_ShiftPacks.j0 k a0 a1 a2 a3 a4 t179 t180 t181 bt184.1 bt184.2.1 bt184.2.2 bt187.1 bt187.2.1 bt187.2.2 (bt184.2.2 != t192))) else (tidemarklaw01_ShiftPacks.j0 k a0 a1 a2 a3 a4 t179 t180 t181 bt184.1 bt184.2.1 bt184.2.2 bt187.1 bt187.2.1 bt187.2.2 true))) else (tidemarklaw01_ShiftPacks.j0 k a0 a1 a2 a3 a4 t179 t180 t181 bt184.1 bt184.2.1 bt184.2.2 bt187.1 bt187.2.1 bt187.2.2 true))) else (tidemarklaw01_ShiftPacks.j0 k a0 a1 a2 a3 a4 t179 t180 t181 bt184.1 bt184.2.1 bt184.2.2 bt187.1 bt187.2.1 bt187.2.2 true)) else (tidemarklaw01_ShiftPacks.j0 k a0 a1 a2 a3 a4 t179 t180 t181 bt184.1 bt184.2.1 bt184.2.2 bt187.1 bt187.2.1 bt187.2.2 true)))) = some r := H
  have A8 := Aside0.mk A80
  clear A80
  replace H := Option.bind_eq_some_iff.mp H
  obtain ⟨⟨t184, t185, t186⟩, A90, H⟩ := H
  replace H : ((shift_Unpack.f a4).bind fun bt187 => (if t180 = t182 then (if t181 = t183 then ((tidemarkref01_Epoch.f a3).bind fun t190 => (if t184 = t190 then ((tidemarkref01_Worker.f a3).bind fun t191 => (if t185 = t191 then ((tidemarkref01_Seq.f a3).bind fun t192 => (tidemarklaw01_ShiftPacks.j0 k a0 a1 a2 a3 a4 t179 t180 t181 t184 t185 t186 bt187.1 bt187.2.1 bt187.2.2 (t186 != t192))) else (tidemarklaw01_ShiftPacks.j0 k a0 a1 a2 a3 a4 t179 t180 t181 t184 t185 t186 bt187.1 bt187.2.1 bt187.2.2 true))) else (tidemarklaw01_ShiftPacks.j0 k a0 a1 a2 a3 a4 t179 t180 t181 t184 t185 t186 bt187.1 bt187.2.1 bt187.2.2 true))) else (tidemarklaw01_ShiftPacks.j0 k a0 a1 a2 a3 a4 t179 t180 t181 t184 t185 t186 bt187.1 bt187.2.1 bt187.2.2 true)) else (tidemarklaw01_ShiftPacks.j0 k a0 a1 a2 a3 a4 t179 t180 t181 t184 t185 t186 bt187.1 bt187.2.1 bt187.2.2 true))) = some r := H
  have A9 := Aside0.mk A90
  clear A90
  replace H := Option.bind_eq_some_iff.mp H
  obtain ⟨⟨t187, t188, t189⟩, A100, H⟩ := H
  replace H : (if t180 = t182 then (if t181 = t183 then ((tidemarkref01_Epoch.f a3).bind fun t190 => (if t184 = t190 then ((tidemarkref01_Worker.f a3).bind fun t191 => (if t185 = t191 then ((tidemarkref01_Seq.f a3).bind fun t192 => (tidemarklaw01_ShiftPacks.j0 k a0 a1 a2 a3 a4 t179 t180 t181 t184 t185 t186 t187 t188 t189 (t186 != t192))) else (tidemarklaw01_ShiftPacks.j0 k a0 a1 a2 a3 a4 t179 t180 t181 t184 t185 t186 t187 t188 t189 true))) else (tidemarklaw01_ShiftPacks.j0 k a0 a1 a2 a3 a4 t179 t180 t181 t184 t185 t186 t187 t188 t189 true))) else (tidemarklaw01_ShiftPacks.j0 k a0 a1 a2 a3 a4 t179 t180 t181 t184 t185 t186 t187 t188 t189 true)) else (tidemarklaw01_ShiftPacks.j0 k a0 a1 a2 a3 a4 t179 t180 t181 t184 t185 t186 t187 t188 t189 true)) = some r := H
  have A10 := Aside0.mk A100
  clear A100
  have HC11 := Aside0.mk H
  clear H
  go_enter Try.func6, Try.ntmps6
  go_upto_region 6 with (first | ((with_reducible refine gate_callee (f := 11) rfl ?_); refine goesL_ (some 28) rfl rfl Try.func11 (by kernel_rfl) rfl #[] rfl (by (try simp only [List.map_toArray, List.map_cons, List.map_nil]); first | done | rfl | (simp only [List.length_drop, List.length_take]; rfl)) ?_; (with_reducible refine (tidemarklaw01_shown.calls k  t179 _ A6.out).mono ?_); rintro e w12 ⟨rfl, hb⟩; refine ⟨_, rfl, ?_⟩; have n0_ := Aside0.mk (below_step (by repeat (first | (with_reducible first | exact HB.out | apply below_alloc | apply pw_below_drewN | apply below_drew1) | exact HB.out)) hb); clear HB; have HB := n0_; clear n0_; (try clear hb); (try clear hb2); (try clear hk); (try clear hi)) | ((with_reducible refine gate_callee (f := 14) rfl ?_); refine goesL_ (some 33) rfl rfl Try.func14 (by kernel_rfl) rfl #[.int .u32 a0, .int .u8 a1, .int .u32 a2] rfl (by (try simp only [List.map_toArray, List.map_cons, List.map_nil]); first | done | rfl | (simp only [List.length_drop, List.length_take]; rfl)) ?_; (with_reducible refine (shift_Pack.calls a0 a1 a2 t180 t181 _ A7.out).mono ?_); rintro e w' ⟨rfl, ⟨nd, rfl⟩⟩; refine ⟨_, rfl, ?_⟩) | ((with_reducible refine gate_callee (f := 16) rfl ?_); refine goesL_ (some 40) rfl rfl Try.func16 (by kernel_rfl) rfl #[.int .u32 a0, .int .u8 a1, .int .u32 a2] rfl (by (try simp only [List.map_toArray, List.map_cons, List.map_nil]); first | done | rfl | (simp only [List.length_drop, List.length_take]; rfl)) ?_; (with_reducible refine (tidemarkref01_Pack.calls a0 a1 a2 t182 t183 _ A8.out).mono ?_); rintro e w' ⟨rfl, ⟨nd, rfl⟩⟩; refine ⟨_, rfl, ?_⟩) | ((with_reducible refine gate_callee (f := 17) rfl ?_); refine goesL_ (some 45) rfl rfl Try.func17 (by kernel_rfl) rfl #[.int .u64 a3] rfl (by (try simp only [List.map_toArray, List.map_cons, List.map_nil]); first | done | rfl | (simp only [List.length_drop, List.length_take]; rfl)) ?_; (with_reducible refine (shift_Unpack.calls a3 t184 t185 t186 _ A9.out).mono ?_); rintro e w' ⟨rfl, ⟨nd, rfl⟩⟩; refine ⟨_, rfl, ?_⟩) | ((with_reducible refine gate_callee (f := 17) rfl ?_); refine goesL_ (some 51) rfl rfl Try.func17 (by kernel_rfl) rfl #[.int .u64 a4] rfl (by (try simp only [List.map_toArray, List.map_cons, List.map_nil]); first | done | rfl | (simp only [List.length_drop, List.length_take]; rfl)) ?_; (with_reducible refine (shift_Unpack.calls a4 t187 t188 t189 _ A10.out).mono ?_); rintro e w' ⟨rfl, ⟨nd, rfl⟩⟩; refine ⟨_, rfl, ?_⟩))
  (try simp only [Act.put, List.setIfInBounds_toArray, List.set_cons_zero, List.set_cons_succ])
  go_cut [80] (fun v80 wc => ∃ (kq : Nat) (x80_10 : Bool), v80 = .bool x80_10 ∧ Aside0 (tidemarklaw01_ShiftPacks.j0 kq a0 a1 a2 a3 a4 t179 t180 t181 t184 t185 t186 t187 t188 t189 x80_10 = some r) ∧ Aside0 (kq ≤ k) ∧ Aside0 (Below w.heap.size w wc))
  case first =>
    have H := HC11.out
    clear HC11
    by_cases c13 : t180 = t182
    · rw [if_pos c13] at H
      have c13b0 : (t180 == t182) = true := beq_iff_eq.mpr c13
      have c13b1 : (t180 != t182) = false := bne_eq_false_iff_eq.mpr c13
      clear c13
      (first | rw [c13b0] | (simp only [i64_w, i32_w]; rw [c13b0]) | skip)
      by_cases c14 : t181 = t183
      · rw [if_pos c14] at H
        have c14b0 : (t181 == t183) = true := beq_iff_eq.mpr c14
        have c14b1 : (t181 != t183) = false := bne_eq_false_iff_eq.mpr c14
        clear c14
        replace H := Option.bind_eq_some_iff.mp H
        obtain ⟨t190, A150, H⟩ := H
        replace H : (if t184 = t190 then ((tidemarkref01_Worker.f a3).bind fun t191 => (if t185 = t191 then ((tidemarkref01_Seq.f a3).bind fun t192 => (tidemarklaw01_ShiftPacks.j0 k a0 a1 a2 a3 a4 t179 t180 t181 t184 t185 t186 t187 t188 t189 (t186 != t192))) else (tidemarklaw01_ShiftPacks.j0 k a0 a1 a2 a3 a4 t179 t180 t181 t184 t185 t186 t187 t188 t189 true))) else (tidemarklaw01_ShiftPacks.j0 k a0 a1 a2 a3 a4 t179 t180 t181 t184 t185 t186 t187 t188 t189 true)) = some r := H
        have A15 := Aside0.mk A150
        clear A150
        by_cases c16 : t184 = t190
        · rw [if_pos c16] at H
          have c16b0 : (t184 == t190) = true := beq_iff_eq.mpr c16
          have c16b1 : (t184 != t190) = false := bne_eq_false_iff_eq.mpr c16
          clear c16
          replace H := Option.bind_eq_some_iff.mp H
          obtain ⟨t191, A170, H⟩ := H
          replace H : (if t185 = t191 then ((tidemarkref01_Seq.f a3).bind fun t192 => (tidemarklaw01_ShiftPacks.j0 k a0 a1 a2 a3 a4 t179 t180 t181 t184 t185 t186 t187 t188 t189 (t186 != t192))) else (tidemarklaw01_ShiftPacks.j0 k a0 a1 a2 a3 a4 t179 t180 t181 t184 t185 t186 t187 t188 t189 true)) = some r := H
          have A17 := Aside0.mk A170
          clear A170
          by_cases c18 : t185 = t191
          · rw [if_pos c18] at H
            have c18b0 : (t185 == t191) = true := beq_iff_eq.mpr c18
            have c18b1 : (t185 != t191) = false := bne_eq_false_iff_eq.mpr c18
            clear c18
            replace H := Option.bind_eq_some_iff.mp H
            obtain ⟨t192, A190, H⟩ := H
            replace H : (tidemarklaw01_ShiftPacks.j0 k a0 a1 a2 a3 a4 t179 t180 t181 t184 t185 t186 t187 t188 t189 (t186 != t192)) = some r := H
            have A19 := Aside0.mk A190
            clear A190
            have H' := Aside0.mk H
            clear H
            go_wp2_with (first | (go_at_call 18; (with_reducible refine (tidemarkref01_Epoch.calls a3 t190 _ A15.out).mono ?_); rintro e w' ⟨rfl, ⟨nd, rfl⟩⟩) | (go_at_call 19; (with_reducible refine (tidemarkref01_Worker.calls a3 t191 _ A17.out).mono ?_); rintro e w' ⟨rfl, ⟨nd, rfl⟩⟩) | (go_at_call 20; (with_reducible refine (tidemarkref01_Seq.calls a3 t192 _ A19.out).mono ?_); rintro e w' ⟨rfl, ⟨nd, rfl⟩⟩))
            go_meet
            case rel => exact ⟨_, ((t186 != t192)), (by first | rfl | (simp; done) | (simp [*]; done)), H', ⟨by first | omega | exact Nat.le_refl _⟩, ⟨by repeat (first | (with_reducible first | exact HB.out | apply below_alloc | apply pw_below_drewN | apply below_drew1) | exact HB.out)⟩⟩
          · rw [if_neg c18] at H
            have c18b0 : (t185 == t191) = false := beq_eq_false_iff_ne.mpr c18
            have c18b1 : (t185 != t191) = true := bne_iff_ne.mpr c18
            have H' := Aside0.mk H
            clear H
            go_wp2_with (first | (go_at_call 18; (with_reducible refine (tidemarkref01_Epoch.calls a3 t190 _ A15.out).mono ?_); rintro e w' ⟨rfl, ⟨nd, rfl⟩⟩) | (go_at_call 19; (with_reducible refine (tidemarkref01_Worker.calls a3 t191 _ A17.out).mono ?_); rintro e w' ⟨rfl, ⟨nd, rfl⟩⟩))
            go_meet
            case rel => exact ⟨_, (true), (by first | rfl | (simp; done) | (simp [*]; done)), H', ⟨by first | omega | exact Nat.le_refl _⟩, ⟨by repeat (first | (with_reducible first | exact HB.out | apply below_alloc | apply pw_below_drewN | apply below_drew1) | exact HB.out)⟩⟩
        · rw [if_neg c16] at H
          have c16b0 : (t184 == t190) = false := beq_eq_false_iff_ne.mpr c16
          have c16b1 : (t184 != t190) = true := bne_iff_ne.mpr c16
          have H' := Aside0.mk H
          clear H
          go_wp2_with (first | (go_at_call 18; (with_reducible refine (tidemarkref01_Epoch.calls a3 t190 _ A15.out).mono ?_); rintro e w' ⟨rfl, ⟨nd, rfl⟩⟩))
          go_meet
          case rel => exact ⟨_, (true), (by first | rfl | (simp; done) | (simp [*]; done)), H', ⟨by first | omega | exact Nat.le_refl _⟩, ⟨by repeat (first | (with_reducible first | exact HB.out | apply below_alloc | apply pw_below_drewN | apply below_drew1) | exact HB.out)⟩⟩
      · rw [if_neg c14] at H
        have c14b0 : (t181 == t183) = false := beq_eq_false_iff_ne.mpr c14
        have c14b1 : (t181 != t183) = true := bne_iff_ne.mpr c14
        have H' := Aside0.mk H
        clear H
        go_wp2
        go_meet
        case rel => exact ⟨_, (true), (by first | rfl | (simp; done) | (simp [*]; done)), H', ⟨by first | omega | exact Nat.le_refl _⟩, ⟨by repeat (first | (with_reducible first | exact HB.out | apply below_alloc | apply pw_below_drewN | apply below_drew1) | exact HB.out)⟩⟩
    · rw [if_neg c13] at H
      have c13b0 : (t180 == t182) = false := beq_eq_false_iff_ne.mpr c13
      have c13b1 : (t180 != t182) = true := bne_iff_ne.mpr c13
      (first | rw [c13b0] | (simp only [i64_w, i32_w]; rw [c13b0]) | skip)
      have H' := Aside0.mk H
      clear H
      go_wp2
      go_meet
      case rel => exact ⟨_, (true), (by first | rfl | (simp; done) | (simp [*]; done)), H', ⟨by first | omega | exact Nat.le_refl _⟩, ⟨by repeat (first | (with_reducible first | exact HB.out | apply below_alloc | apply pw_below_drewN | apply below_drew1) | exact HB.out)⟩⟩
  case rest =>
    clear HC11
    try clear c1
    try clear p2
    try clear c6
    try clear c11
    try clear c13
    try clear c13b0
    try clear c13b1
    try clear c14
    try clear c14b0
    try clear c14b1
    try clear c16
    try clear c16b0
    try clear c16b1
    try clear c17
    try clear c18
    try clear c18b0
    try clear c18b1
    obtain ⟨kq, x80_10, rfl, HA, HJ10, HB⟩ := hcut
    cases kq with
    | zero => exact absurd HA.out (by simp [tidemarklaw01_ShiftPacks.j0])
    | succ kj10 =>
      have H := HA.out
      clear HA
      simp only [tidemarklaw01_ShiftPacks.j0] at H
      by_cases c20 : x80_10 = true
      · subst c20
        have H1 : (some false) = some r := by rw [if_pos rfl] at H; exact H
        clear H
        have H := H1
        clear H1
        exact absurd ((Option.some.inj H).trans HRT.out) (by decide)
      · replace c20 := Bool.eq_false_iff.mpr c20
        subst c20
        have H1 : (if t181 = 0 then ((shift_Unpack.f t180).bind fun bt193 => (if bt193.1 = a0 then (if bt193.2.1 = a1 then (if bt193.2.2 = a2 then ((shift_Pack.f t184 t185 t186).bind fun bt196 => (if t184 < t187 then (if t179 = true then (if bt196.1 = a3 then (if bt196.2 = 0 then (some (true == (decide (a3 < a4)))) else (some false)) else (some false)) else (some false)) else (if t184 = t187 then (if t186 < t189 then (if t179 = true then (if bt196.1 = a3 then (if bt196.2 = 0 then (some (true == (decide (a3 < a4)))) else (some false)) else (some false)) else (some false)) else (if t186 = t189 then (if t179 = true then (if bt196.1 = a3 then (if bt196.2 = 0 then (some ((decide (t185 < t188)) == (decide (a3 < a4)))) else (some false)) else (some false)) else (some false)) else (if t179 = true then (if bt196.1 = a3 then (if bt196.2 = 0 then (some (false == (decide (a3 < a4)))) else (some false)) else (some false)) else (some false)))) else (if t179 = true then (if bt196.1 = a3 then (if bt196.2 = 0 then (some (false == (decide (a3 < a4)))) else (some false)) else (some false)) else (some false))))) else (some false)) else (some false)) else (some false))) else ((shift_Pack.f t184 t185 t186).bind fun bt198 => (if t184 < t187 then (if t179 = true then (if bt198.1 = a3 then (if bt198.2 = 0 then (some (true == (decide (a3 < a4)))) else (some false)) else (some false)) else (some false)) else (if t184 = t187 then (if t186 < t189 then (if t179 = true then (if bt198.1 = a3 then (if bt198.2 = 0 then (some (true == (decide (a3 < a4)))) else (some false)) else (some false)) else (some false)) else (if t186 = t189 then (if t179 = true then (if bt198.1 = a3 then (if bt198.2 = 0 then (some ((decide (t185 < t188)) == (decide (a3 < a4)))) else (some false)) else (some false)) else (some false)) else (if t179 = true then (if bt198.1 = a3 then (if bt198.2 = 0 then (some (false == (decide (a3 < a4)))) else (some false)) else (some false)) else (some false)))) else (if t179 = true then (if bt198.1 = a3 then (if bt198.2 = 0 then (some (false == (decide (a3 < a4)))) else (some false)) else (some false)) else (some false)))))) = some r := by rw [if_neg (show ¬ (false = true) by decide)] at H; exact H
        clear H
        have H := H1
        clear H1
        by_cases c21 : t181 = 0
        · rw [if_pos c21] at H
          have c21b0 : (t181 == 0) = true := beq_iff_eq.mpr c21
          have c21b1 : (t181 != 0) = false := bne_eq_false_iff_eq.mpr c21
          clear c21
          replace H := Option.bind_eq_some_iff.mp H
          obtain ⟨⟨t193, t194, t195⟩, A220, H⟩ := H
          replace H : (if t193 = a0 then (if t194 = a1 then (if t195 = a2 then ((shift_Pack.f t184 t185 t186).bind fun bt196 => (if t184 < t187 then (if t179 = true then (if bt196.1 = a3 then (if bt196.2 = 0 then (some (true == (decide (a3 < a4)))) else (some false)) else (some false)) else (some false)) else (if t184 = t187 then (if t186 < t189 then (if t179 = true then (if bt196.1 = a3 then (if bt196.2 = 0 then (some (true == (decide (a3 < a4)))) else (some false)) else (some false)) else (some false)) else (if t186 = t189 then (if t179 = true then (if bt196.1 = a3 then (if bt196.2 = 0 then (some ((decide (t185 < t188)) == (decide (a3 < a4)))) else (some false)) else (some false)) else (some false)) else (if t179 = true then (if bt196.1 = a3 then (if bt196.2 = 0 then (some (false == (decide (a3 < a4)))) else (some false)) else (some false)) else (some false)))) else (if t179 = true then (if bt196.1 = a3 then (if bt196.2 = 0 then (some (false == (decide (a3 < a4)))) else (some false)) else (some false)) else (some false))))) else (some false)) else (some false)) else (some false)) = some r := H
          have A22 := Aside0.mk A220
          clear A220
          by_cases c23 : t193 = a0
          · rw [if_pos c23] at H
            have c23b0 : (t193 == a0) = true := beq_iff_eq.mpr c23
            have c23b1 : (t193 != a0) = false := bne_eq_false_iff_eq.mpr c23
            clear c23
            by_cases c24 : t194 = a1
            · rw [if_pos c24] at H
              have c24b0 : (t194 == a1) = true := beq_iff_eq.mpr c24
              have c24b1 : (t194 != a1) = false := bne_eq_false_iff_eq.mpr c24
              clear c24
              by_cases c25 : t195 = a2
              · rw [if_pos c25] at H
                have c25b0 : (t195 == a2) = true := beq_iff_eq.mpr c25
                have c25b1 : (t195 != a2) = false := bne_eq_false_iff_eq.mpr c25
                clear c25
                replace H := Option.bind_eq_some_iff.mp H
                obtain ⟨⟨t196, t197⟩, A260, H⟩ := H
                replace H : (if t184 < t187 then (if t179 = true then (if t196 = a3 then (if t197 = 0 then (some (true == (decide (a3 < a4)))) else (some false)) else (some false)) else (some false)) else (if t184 = t187 then (if t186 < t189 then (if t179 = true then (if t196 = a3 then (if t197 = 0 then (some (true == (decide (a3 < a4)))) else (some false)) else (some false)) else (some false)) else (if t186 = t189 then (if t179 = true then (if t196 = a3 then (if t197 = 0 then (some ((decide (t185 < t188)) == (decide (a3 < a4)))) else (some false)) else (some false)) else (some false)) else (if t179 = true then (if t196 = a3 then (if t197 = 0 then (some (false == (decide (a3 < a4)))) else (some false)) else (some false)) else (some false)))) else (if t179 = true then (if t196 = a3 then (if t197 = 0 then (some (false == (decide (a3 < a4)))) else (some false)) else (some false)) else (some false)))) = some r := H
                have A26 := Aside0.mk A260
                clear A260
                by_cases c27 : t184 < t187
                · rw [if_pos c27] at H
                  have c27b0 : decide (t184 < t187) = true := decide_eq_true c27
                  clear c27
                  by_cases c28 : t179 = true
                  · subst c28
                    have H1 : (if t196 = a3 then (if t197 = 0 then (some (true == (decide (a3 < a4)))) else (some false)) else (some false)) = some r := by rw [if_pos rfl] at H; exact H
                    clear H
                    have H := H1
                    clear H1
                    by_cases c29 : t196 = a3
                    · rw [if_pos c29] at H
                      have c29b0 : (t196 == a3) = true := beq_iff_eq.mpr c29
                      have c29b1 : (t196 != a3) = false := bne_eq_false_iff_eq.mpr c29
                      clear c29
                      by_cases c30 : t197 = 0
                      · rw [if_pos c30] at H
                        have c30b0 : (t197 == 0) = true := beq_iff_eq.mpr c30
                        have c30b1 : (t197 != 0) = false := bne_eq_false_iff_eq.mpr c30
                        clear c30
                        obtain rfl := Option.some.inj H
                        go_wp2_with (first | ((with_reducible refine gate_callee (f := 17) rfl ?_); refine goesL_ (some 85) rfl rfl Try.func17 (by kernel_rfl) rfl #[.int .u64 t180] rfl (by (try simp only [List.map_toArray, List.map_cons, List.map_nil]); first | done | rfl | (simp only [List.length_drop, List.length_take]; rfl)) ?_; (with_reducible refine (shift_Unpack.calls t180 t193 t194 t195 _ A22.out).mono ?_); rintro e w' ⟨rfl, ⟨nd, rfl⟩⟩; refine ⟨_, rfl, ?_⟩) | ((with_reducible refine gate_callee (f := 14) rfl ?_); refine goesL_ (some 106) rfl rfl Try.func14 (by kernel_rfl) rfl #[.int .u32 t184, .int .u8 t185, .int .u32 t186] rfl (by (try simp only [List.map_toArray, List.map_cons, List.map_nil]); first | done | rfl | (simp only [List.length_drop, List.length_take]; rfl)) ?_; (with_reducible refine (shift_Pack.calls t184 t185 t186 t196 t197 _ A26.out).mono ?_); rintro e w' ⟨rfl, ⟨nd, rfl⟩⟩; refine ⟨_, rfl, ?_⟩))
                        go_ret
                        exact ⟨by first | rfl | (simp [errW_none, errW_some] <;> rfl) | (simp [*, errW_none, errW_some] <;> rfl), by repeat (first | (with_reducible first | exact HB.out | apply below_alloc | apply pw_below_drewN | apply below_drew1) | exact HB.out)⟩
                      · rw [if_neg c30] at H
                        have c30b0 : (t197 == 0) = false := beq_eq_false_iff_ne.mpr c30
                        have c30b1 : (t197 != 0) = true := bne_iff_ne.mpr c30
                        exact absurd ((Option.some.inj H).trans HRT.out) (by decide)
                    · rw [if_neg c29] at H
                      have c29b0 : (t196 == a3) = false := beq_eq_false_iff_ne.mpr c29
                      have c29b1 : (t196 != a3) = true := bne_iff_ne.mpr c29
                      exact absurd ((Option.some.inj H).trans HRT.out) (by decide)
                  · replace c28 := Bool.eq_false_iff.mpr c28
                    subst c28
                    have H1 : (some false) = some r := by rw [if_neg (show ¬ (false = true) by decide)] at H; exact H
                    clear H
                    have H := H1
                    clear H1
                    exact absurd ((Option.some.inj H).trans HRT.out) (by decide)
                · rw [if_neg c27] at H
                  have c27b0 : decide (t184 < t187) = false := decide_eq_false c27
                  clear c27
                  by_cases c31 : t184 = t187
                  · rw [if_pos c31] at H
                    have c31b0 : (t184 == t187) = true := beq_iff_eq.mpr c31
                    have c31b1 : (t184 != t187) = false := bne_eq_false_iff_eq.mpr c31
                    clear c31
                    by_cases c32 : t186 < t189
                    · rw [if_pos c32] at H
                      have c32b0 : decide (t186 < t189) = true := decide_eq_true c32
                      clear c32
                      by_cases c33 : t179 = true
                      · subst c33
                        have H1 : (if t196 = a3 then (if t197 = 0 then (some (true == (decide (a3 < a4)))) else (some false)) else (some false)) = some r := by rw [if_pos rfl] at H; exact H
                        clear H
                        have H := H1
                        clear H1
                        by_cases c34 : t196 = a3
                        · rw [if_pos c34] at H
                          have c34b0 : (t196 == a3) = true := beq_iff_eq.mpr c34
                          have c34b1 : (t196 != a3) = false := bne_eq_false_iff_eq.mpr c34
                          clear c34
                          by_cases c35 : t197 = 0
                          · rw [if_pos c35] at H
                            have c35b0 : (t197 == 0) = true := beq_iff_eq.mpr c35
                            have c35b1 : (t197 != 0) = false := bne_eq_false_iff_eq.mpr c35
                            clear c35
                            obtain rfl := Option.some.inj H
                            go_wp2_with (first | ((with_reducible refine gate_callee (f := 17) rfl ?_); refine goesL_ (some 85) rfl rfl Try.func17 (by kernel_rfl) rfl #[.int .u64 t180] rfl (by (try simp only [List.map_toArray, List.map_cons, List.map_nil]); first | done | rfl | (simp only [List.length_drop, List.length_take]; rfl)) ?_; (with_reducible refine (shift_Unpack.calls t180 t193 t194 t195 _ A22.out).mono ?_); rintro e w' ⟨rfl, ⟨nd, rfl⟩⟩; refine ⟨_, rfl, ?_⟩) | ((with_reducible refine gate_callee (f := 14) rfl ?_); refine goesL_ (some 106) rfl rfl Try.func14 (by kernel_rfl) rfl #[.int .u32 t184, .int .u8 t185, .int .u32 t186] rfl (by (try simp only [List.map_toArray, List.map_cons, List.map_nil]); first | done | rfl | (simp only [List.length_drop, List.length_take]; rfl)) ?_; (with_reducible refine (shift_Pack.calls t184 t185 t186 t196 t197 _ A26.out).mono ?_); rintro e w' ⟨rfl, ⟨nd, rfl⟩⟩; refine ⟨_, rfl, ?_⟩))
                            go_ret
                            exact ⟨by first | rfl | (simp [errW_none, errW_some] <;> rfl) | (simp [*, errW_none, errW_some] <;> rfl), by repeat (first | (with_reducible first | exact HB.out | apply below_alloc | apply pw_below_drewN | apply below_drew1) | exact HB.out)⟩
                          · rw [if_neg c35] at H
                            have c35b0 : (t197 == 0) = false := beq_eq_false_iff_ne.mpr c35
                            have c35b1 : (t197 != 0) = true := bne_iff_ne.mpr c35
                            exact absurd ((Option.some.inj H).trans HRT.out) (by decide)
                        · rw [if_neg c34] at H
                          have c34b0 : (t196 == a3) = false := beq_eq_false_iff_ne.mpr c34
                          have c34b1 : (t196 != a3) = true := bne_iff_ne.mpr c34
                          exact absurd ((Option.some.inj H).trans HRT.out) (by decide)
                      · replace c33 := Bool.eq_false_iff.mpr c33
                        subst c33
                        have H1 : (some false) = some r := by rw [if_neg (show ¬ (false = true) by decide)] at H; exact H
                        clear H
                        have H := H1
                        clear H1
                        exact absurd ((Option.some.inj H).trans HRT.out) (by decide)
                    · rw [if_neg c32] at H
                      have c32b0 : decide (t186 < t189) = false := decide_eq_false c32
                      clear c32
                      by_cases c36 : t186 = t189
                      · rw [if_pos c36] at H
                        have c36b0 : (t186 == t189) = true := beq_iff_eq.mpr c36
                        have c36b1 : (t186 != t189) = false := bne_eq_false_iff_eq.mpr c36
                        clear c36
                        by_cases c37 : t179 = true
                        · subst c37
                          have H1 : (if t196 = a3 then (if t197 = 0 then (some ((decide (t185 < t188)) == (decide (a3 < a4)))) else (some false)) else (some false)) = some r := by rw [if_pos rfl] at H; exact H
                          clear H
                          have H := H1
                          clear H1
                          by_cases c38 : t196 = a3
                          · rw [if_pos c38] at H
                            have c38b0 : (t196 == a3) = true := beq_iff_eq.mpr c38
                            have c38b1 : (t196 != a3) = false := bne_eq_false_iff_eq.mpr c38
                            clear c38
                            by_cases c39 : t197 = 0
                            · rw [if_pos c39] at H
                              have c39b0 : (t197 == 0) = true := beq_iff_eq.mpr c39
                              have c39b1 : (t197 != 0) = false := bne_eq_false_iff_eq.mpr c39
                              clear c39
                              obtain rfl := Option.some.inj H
                              go_wp2_with (first | ((with_reducible refine gate_callee (f := 17) rfl ?_); refine goesL_ (some 85) rfl rfl Try.func17 (by kernel_rfl) rfl #[.int .u64 t180] rfl (by (try simp only [List.map_toArray, List.map_cons, List.map_nil]); first | done | rfl | (simp only [List.length_drop, List.length_take]; rfl)) ?_; (with_reducible refine (shift_Unpack.calls t180 t193 t194 t195 _ A22.out).mono ?_); rintro e w' ⟨rfl, ⟨nd, rfl⟩⟩; refine ⟨_, rfl, ?_⟩) | ((with_reducible refine gate_callee (f := 14) rfl ?_); refine goesL_ (some 106) rfl rfl Try.func14 (by kernel_rfl) rfl #[.int .u32 t184, .int .u8 t185, .int .u32 t186] rfl (by (try simp only [List.map_toArray, List.map_cons, List.map_nil]); first | done | rfl | (simp only [List.length_drop, List.length_take]; rfl)) ?_; (with_reducible refine (shift_Pack.calls t184 t185 t186 t196 t197 _ A26.out).mono ?_); rintro e w' ⟨rfl, ⟨nd, rfl⟩⟩; refine ⟨_, rfl, ?_⟩))
                              go_ret
                              exact ⟨by first | rfl | (simp [errW_none, errW_some] <;> rfl) | (simp [*, errW_none, errW_some] <;> rfl), by repeat (first | (with_reducible first | exact HB.out | apply below_alloc | apply pw_below_drewN | apply below_drew1) | exact HB.out)⟩
                            · rw [if_neg c39] at H
                              have c39b0 : (t197 == 0) = false := beq_eq_false_iff_ne.mpr c39
                              have c39b1 : (t197 != 0) = true := bne_iff_ne.mpr c39
                              exact absurd ((Option.some.inj H).trans HRT.out) (by decide)
                          · rw [if_neg c38] at H
                            have c38b0 : (t196 == a3) = false := beq_eq_false_iff_ne.mpr c38
                            have c38b1 : (t196 != a3) = true := bne_iff_ne.mpr c38
                            exact absurd ((Option.some.inj H).trans HRT.out) (by decide)
                        · replace c37 := Bool.eq_false_iff.mpr c37
                          subst c37
                          have H1 : (some false) = some r := by rw [if_neg (show ¬ (false = true) by decide)] at H; exact H
                          clear H
                          have H := H1
                          clear H1
                          exact absurd ((Option.some.inj H).trans HRT.out) (by decide)
                      · rw [if_neg c36] at H
                        have c36b0 : (t186 == t189) = false := beq_eq_false_iff_ne.mpr c36
                        have c36b1 : (t186 != t189) = true := bne_iff_ne.mpr c36
                        by_cases c40 : t179 = true
                        · subst c40
                          have H1 : (if t196 = a3 then (if t197 = 0 then (some (false == (decide (a3 < a4)))) else (some false)) else (some false)) = some r := by rw [if_pos rfl] at H; exact H
                          clear H
                          have H := H1
                          clear H1
                          by_cases c41 : t196 = a3
                          · rw [if_pos c41] at H
                            have c41b0 : (t196 == a3) = true := beq_iff_eq.mpr c41
                            have c41b1 : (t196 != a3) = false := bne_eq_false_iff_eq.mpr c41
                            clear c41
                            by_cases c42 : t197 = 0
                            · rw [if_pos c42] at H
                              have c42b0 : (t197 == 0) = true := beq_iff_eq.mpr c42
                              have c42b1 : (t197 != 0) = false := bne_eq_false_iff_eq.mpr c42
                              clear c42
                              obtain rfl := Option.some.inj H
                              go_wp2_with (first | ((with_reducible refine gate_callee (f := 17) rfl ?_); refine goesL_ (some 85) rfl rfl Try.func17 (by kernel_rfl) rfl #[.int .u64 t180] rfl (by (try simp only [List.map_toArray, List.map_cons, List.map_nil]); first | done | rfl | (simp only [List.length_drop, List.length_take]; rfl)) ?_; (with_reducible refine (shift_Unpack.calls t180 t193 t194 t195 _ A22.out).mono ?_); rintro e w' ⟨rfl, ⟨nd, rfl⟩⟩; refine ⟨_, rfl, ?_⟩) | ((with_reducible refine gate_callee (f := 14) rfl ?_); refine goesL_ (some 106) rfl rfl Try.func14 (by kernel_rfl) rfl #[.int .u32 t184, .int .u8 t185, .int .u32 t186] rfl (by (try simp only [List.map_toArray, List.map_cons, List.map_nil]); first | done | rfl | (simp only [List.length_drop, List.length_take]; rfl)) ?_; (with_reducible refine (shift_Pack.calls t184 t185 t186 t196 t197 _ A26.out).mono ?_); rintro e w' ⟨rfl, ⟨nd, rfl⟩⟩; refine ⟨_, rfl, ?_⟩))
                              go_ret
                              exact ⟨by first | rfl | (simp [errW_none, errW_some] <;> rfl) | (simp [*, errW_none, errW_some] <;> rfl), by repeat (first | (with_reducible first | exact HB.out | apply below_alloc | apply pw_below_drewN | apply below_drew1) | exact HB.out)⟩
                            · rw [if_neg c42] at H
                              have c42b0 : (t197 == 0) = false := beq_eq_false_iff_ne.mpr c42
                              have c42b1 : (t197 != 0) = true := bne_iff_ne.mpr c42
                              exact absurd ((Option.some.inj H).trans HRT.out) (by decide)
                          · rw [if_neg c41] at H
                            have c41b0 : (t196 == a3) = false := beq_eq_false_iff_ne.mpr c41
                            have c41b1 : (t196 != a3) = true := bne_iff_ne.mpr c41
                            exact absurd ((Option.some.inj H).trans HRT.out) (by decide)
                        · replace c40 := Bool.eq_false_iff.mpr c40
                          subst c40
                          have H1 : (some false) = some r := by rw [if_neg (show ¬ (false = true) by decide)] at H; exact H
                          clear H
                          have H := H1
                          clear H1
                          exact absurd ((Option.some.inj H).trans HRT.out) (by decide)
                  · rw [if_neg c31] at H
                    have c31b0 : (t184 == t187) = false := beq_eq_false_iff_ne.mpr c31
                    have c31b1 : (t184 != t187) = true := bne_iff_ne.mpr c31
                    by_cases c43 : t179 = true
                    · subst c43
                      have H1 : (if t196 = a3 then (if t197 = 0 then (some (false == (decide (a3 < a4)))) else (some false)) else (some false)) = some r := by rw [if_pos rfl] at H; exact H
                      clear H
                      have H := H1
                      clear H1
                      by_cases c44 : t196 = a3
                      · rw [if_pos c44] at H
                        have c44b0 : (t196 == a3) = true := beq_iff_eq.mpr c44
                        have c44b1 : (t196 != a3) = false := bne_eq_false_iff_eq.mpr c44
                        clear c44
                        by_cases c45 : t197 = 0
                        · rw [if_pos c45] at H
                          have c45b0 : (t197 == 0) = true := beq_iff_eq.mpr c45
                          have c45b1 : (t197 != 0) = false := bne_eq_false_iff_eq.mpr c45
                          clear c45
                          obtain rfl := Option.some.inj H
                          go_wp2_with (first | ((with_reducible refine gate_callee (f := 17) rfl ?_); refine goesL_ (some 85) rfl rfl Try.func17 (by kernel_rfl) rfl #[.int .u64 t180] rfl (by (try simp only [List.map_toArray, List.map_cons, List.map_nil]); first | done | rfl | (simp only [List.length_drop, List.length_take]; rfl)) ?_; (with_reducible refine (shift_Unpack.calls t180 t193 t194 t195 _ A22.out).mono ?_); rintro e w' ⟨rfl, ⟨nd, rfl⟩⟩; refine ⟨_, rfl, ?_⟩) | ((with_reducible refine gate_callee (f := 14) rfl ?_); refine goesL_ (some 106) rfl rfl Try.func14 (by kernel_rfl) rfl #[.int .u32 t184, .int .u8 t185, .int .u32 t186] rfl (by (try simp only [List.map_toArray, List.map_cons, List.map_nil]); first | done | rfl | (simp only [List.length_drop, List.length_take]; rfl)) ?_; (with_reducible refine (shift_Pack.calls t184 t185 t186 t196 t197 _ A26.out).mono ?_); rintro e w' ⟨rfl, ⟨nd, rfl⟩⟩; refine ⟨_, rfl, ?_⟩))
                          go_ret
                          exact ⟨by first | rfl | (simp [errW_none, errW_some] <;> rfl) | (simp [*, errW_none, errW_some] <;> rfl), by repeat (first | (with_reducible first | exact HB.out | apply below_alloc | apply pw_below_drewN | apply below_drew1) | exact HB.out)⟩
                        · rw [if_neg c45] at H
                          have c45b0 : (t197 == 0) = false := beq_eq_false_iff_ne.mpr c45
                          have c45b1 : (t197 != 0) = true := bne_iff_ne.mpr c45
                          exact absurd ((Option.some.inj H).trans HRT.out) (by decide)
                      · rw [if_neg c44] at H
                        have c44b0 : (t196 == a3) = false := beq_eq_false_iff_ne.mpr c44
                        have c44b1 : (t196 != a3) = true := bne_iff_ne.mpr c44
                        exact absurd ((Option.some.inj H).trans HRT.out) (by decide)
                    · replace c43 := Bool.eq_false_iff.mpr c43
                      subst c43
                      have H1 : (some false) = some r := by rw [if_neg (show ¬ (false = true) by decide)] at H; exact H
                      clear H
                      have H := H1
                      clear H1
                      exact absurd ((Option.some.inj H).trans HRT.out) (by decide)
              · rw [if_neg c25] at H
                have c25b0 : (t195 == a2) = false := beq_eq_false_iff_ne.mpr c25
                have c25b1 : (t195 != a2) = true := bne_iff_ne.mpr c25
                exact absurd ((Option.some.inj H).trans HRT.out) (by decide)
            · rw [if_neg c24] at H
              have c24b0 : (t194 == a1) = false := beq_eq_false_iff_ne.mpr c24
              have c24b1 : (t194 != a1) = true := bne_iff_ne.mpr c24
              exact absurd ((Option.some.inj H).trans HRT.out) (by decide)
          · rw [if_neg c23] at H
            have c23b0 : (t193 == a0) = false := beq_eq_false_iff_ne.mpr c23
            have c23b1 : (t193 != a0) = true := bne_iff_ne.mpr c23
            exact absurd ((Option.some.inj H).trans HRT.out) (by decide)
        · rw [if_neg c21] at H
          have c21b0 : (t181 == 0) = false := beq_eq_false_iff_ne.mpr c21
          have c21b1 : (t181 != 0) = true := bne_iff_ne.mpr c21
          replace H := Option.bind_eq_some_iff.mp H
          obtain ⟨⟨t198, t199⟩, A460, H⟩ := H
          replace H : (if t184 < t187 then (if t179 = true then (if t198 = a3 then (if t199 = 0 then (some (true == (decide (a3 < a4)))) else (some false)) else (some false)) else (some false)) else (if t184 = t187 then (if t186 < t189 then (if t179 = true then (if t198 = a3 then (if t199 = 0 then (some (true == (decide (a3 < a4)))) else (some false)) else (some false)) else (some false)) else (if t186 = t189 then (if t179 = true then (if t198 = a3 then (if t199 = 0 then (some ((decide (t185 < t188)) == (decide (a3 < a4)))) else (some false)) else (some false)) else (some false)) else (if t179 = true then (if t198 = a3 then (if t199 = 0 then (some (false == (decide (a3 < a4)))) else (some false)) else (some false)) else (some false)))) else (if t179 = true then (if t198 = a3 then (if t199 = 0 then (some (false == (decide (a3 < a4)))) else (some false)) else (some false)) else (some false)))) = some r := H
          have A46 := Aside0.mk A460
          clear A460
          by_cases c47 : t184 < t187
          · rw [if_pos c47] at H
            have c47b0 : decide (t184 < t187) = true := decide_eq_true c47
            clear c47
            by_cases c48 : t179 = true
            · subst c48
              have H1 : (if t198 = a3 then (if t199 = 0 then (some (true == (decide (a3 < a4)))) else (some false)) else (some false)) = some r := by rw [if_pos rfl] at H; exact H
              clear H
              have H := H1
              clear H1
              by_cases c49 : t198 = a3
              · rw [if_pos c49] at H
                have c49b0 : (t198 == a3) = true := beq_iff_eq.mpr c49
                have c49b1 : (t198 != a3) = false := bne_eq_false_iff_eq.mpr c49
                clear c49
                by_cases c50 : t199 = 0
                · rw [if_pos c50] at H
                  have c50b0 : (t199 == 0) = true := beq_iff_eq.mpr c50
                  have c50b1 : (t199 != 0) = false := bne_eq_false_iff_eq.mpr c50
                  clear c50
                  obtain rfl := Option.some.inj H
                  go_wp2_with (first | ((with_reducible refine gate_callee (f := 14) rfl ?_); refine goesL_ (some 106) rfl rfl Try.func14 (by kernel_rfl) rfl #[.int .u32 t184, .int .u8 t185, .int .u32 t186] rfl (by (try simp only [List.map_toArray, List.map_cons, List.map_nil]); first | done | rfl | (simp only [List.length_drop, List.length_take]; rfl)) ?_; (with_reducible refine (shift_Pack.calls t184 t185 t186 t198 t199 _ A46.out).mono ?_); rintro e w' ⟨rfl, ⟨nd, rfl⟩⟩; refine ⟨_, rfl, ?_⟩))
                  go_ret
                  exact ⟨by first | rfl | (simp [errW_none, errW_some] <;> rfl) | (simp [*, errW_none, errW_some] <;> rfl), by repeat (first | (with_reducible first | exact HB.out | apply below_alloc | apply pw_below_drewN | apply below_drew1) | exact HB.out)⟩
                · rw [if_neg c50] at H
                  have c50b0 : (t199 == 0) = false := beq_eq_false_iff_ne.mpr c50
                  have c50b1 : (t199 != 0) = true := bne_iff_ne.mpr c50
                  exact absurd ((Option.some.inj H).trans HRT.out) (by decide)
              · rw [if_neg c49] at H
                have c49b0 : (t198 == a3) = false := beq_eq_false_iff_ne.mpr c49
                have c49b1 : (t198 != a3) = true := bne_iff_ne.mpr c49
                exact absurd ((Option.some.inj H).trans HRT.out) (by decide)
            · replace c48 := Bool.eq_false_iff.mpr c48
              subst c48
              have H1 : (some false) = some r := by rw [if_neg (show ¬ (false = true) by decide)] at H; exact H
              clear H
              have H := H1
              clear H1
              exact absurd ((Option.some.inj H).trans HRT.out) (by decide)
          · rw [if_neg c47] at H
            have c47b0 : decide (t184 < t187) = false := decide_eq_false c47
            clear c47
            by_cases c51 : t184 = t187
            · rw [if_pos c51] at H
              have c51b0 : (t184 == t187) = true := beq_iff_eq.mpr c51
              have c51b1 : (t184 != t187) = false := bne_eq_false_iff_eq.mpr c51
              clear c51
              by_cases c52 : t186 < t189
              · rw [if_pos c52] at H
                have c52b0 : decide (t186 < t189) = true := decide_eq_true c52
                clear c52
                by_cases c53 : t179 = true
                · subst c53
                  have H1 : (if t198 = a3 then (if t199 = 0 then (some (true == (decide (a3 < a4)))) else (some false)) else (some false)) = some r := by rw [if_pos rfl] at H; exact H
                  clear H
                  have H := H1
                  clear H1
                  by_cases c54 : t198 = a3
                  · rw [if_pos c54] at H
                    have c54b0 : (t198 == a3) = true := beq_iff_eq.mpr c54
                    have c54b1 : (t198 != a3) = false := bne_eq_false_iff_eq.mpr c54
                    clear c54
                    by_cases c55 : t199 = 0
                    · rw [if_pos c55] at H
                      have c55b0 : (t199 == 0) = true := beq_iff_eq.mpr c55
                      have c55b1 : (t199 != 0) = false := bne_eq_false_iff_eq.mpr c55
                      clear c55
                      obtain rfl := Option.some.inj H
                      go_wp2_with (first | ((with_reducible refine gate_callee (f := 14) rfl ?_); refine goesL_ (some 106) rfl rfl Try.func14 (by kernel_rfl) rfl #[.int .u32 t184, .int .u8 t185, .int .u32 t186] rfl (by (try simp only [List.map_toArray, List.map_cons, List.map_nil]); first | done | rfl | (simp only [List.length_drop, List.length_take]; rfl)) ?_; (with_reducible refine (shift_Pack.calls t184 t185 t186 t198 t199 _ A46.out).mono ?_); rintro e w' ⟨rfl, ⟨nd, rfl⟩⟩; refine ⟨_, rfl, ?_⟩))
                      go_ret
                      exact ⟨by first | rfl | (simp [errW_none, errW_some] <;> rfl) | (simp [*, errW_none, errW_some] <;> rfl), by repeat (first | (with_reducible first | exact HB.out | apply below_alloc | apply pw_below_drewN | apply below_drew1) | exact HB.out)⟩
                    · rw [if_neg c55] at H
                      have c55b0 : (t199 == 0) = false := beq_eq_false_iff_ne.mpr c55
                      have c55b1 : (t199 != 0) = true := bne_iff_ne.mpr c55
                      exact absurd ((Option.some.inj H).trans HRT.out) (by decide)
                  · rw [if_neg c54] at H
                    have c54b0 : (t198 == a3) = false := beq_eq_false_iff_ne.mpr c54
                    have c54b1 : (t198 != a3) = true := bne_iff_ne.mpr c54
                    exact absurd ((Option.some.inj H).trans HRT.out) (by decide)
                · replace c53 := Bool.eq_false_iff.mpr c53
                  subst c53
                  have H1 : (some false) = some r := by rw [if_neg (show ¬ (false = true) by decide)] at H; exact H
                  clear H
                  have H := H1
                  clear H1
                  exact absurd ((Option.some.inj H).trans HRT.out) (by decide)
              · rw [if_neg c52] at H
                have c52b0 : decide (t186 < t189) = false := decide_eq_false c52
                clear c52
                by_cases c56 : t186 = t189
                · rw [if_pos c56] at H
                  have c56b0 : (t186 == t189) = true := beq_iff_eq.mpr c56
                  have c56b1 : (t186 != t189) = false := bne_eq_false_iff_eq.mpr c56
                  clear c56
                  by_cases c57 : t179 = true
                  · subst c57
                    have H1 : (if t198 = a3 then (if t199 = 0 then (some ((decide (t185 < t188)) == (decide (a3 < a4)))) else (some false)) else (some false)) = some r := by rw [if_pos rfl] at H; exact H
                    clear H
                    have H := H1
                    clear H1
                    by_cases c58 : t198 = a3
                    · rw [if_pos c58] at H
                      have c58b0 : (t198 == a3) = true := beq_iff_eq.mpr c58
                      have c58b1 : (t198 != a3) = false := bne_eq_false_iff_eq.mpr c58
                      clear c58
                      by_cases c59 : t199 = 0
                      · rw [if_pos c59] at H
                        have c59b0 : (t199 == 0) = true := beq_iff_eq.mpr c59
                        have c59b1 : (t199 != 0) = false := bne_eq_false_iff_eq.mpr c59
                        clear c59
                        obtain rfl := Option.some.inj H
                        go_wp2_with (first | ((with_reducible refine gate_callee (f := 14) rfl ?_); refine goesL_ (some 106) rfl rfl Try.func14 (by kernel_rfl) rfl #[.int .u32 t184, .int .u8 t185, .int .u32 t186] rfl (by (try simp only [List.map_toArray, List.map_cons, List.map_nil]); first | done | rfl | (simp only [List.length_drop, List.length_take]; rfl)) ?_; (with_reducible refine (shift_Pack.calls t184 t185 t186 t198 t199 _ A46.out).mono ?_); rintro e w' ⟨rfl, ⟨nd, rfl⟩⟩; refine ⟨_, rfl, ?_⟩))
                        go_ret
                        exact ⟨by first | rfl | (simp [errW_none, errW_some] <;> rfl) | (simp [*, errW_none, errW_some] <;> rfl), by repeat (first | (with_reducible first | exact HB.out | apply below_alloc | apply pw_below_drewN | apply below_drew1) | exact HB.out)⟩
                      · rw [if_neg c59] at H
                        have c59b0 : (t199 == 0) = false := beq_eq_false_iff_ne.mpr c59
                        have c59b1 : (t199 != 0) = true := bne_iff_ne.mpr c59
                        exact absurd ((Option.some.inj H).trans HRT.out) (by decide)
                    · rw [if_neg c58] at H
                      have c58b0 : (t198 == a3) = false := beq_eq_false_iff_ne.mpr c58
                      have c58b1 : (t198 != a3) = true := bne_iff_ne.mpr c58
                      exact absurd ((Option.some.inj H).trans HRT.out) (by decide)
                  · replace c57 := Bool.eq_false_iff.mpr c57
                    subst c57
                    have H1 : (some false) = some r := by rw [if_neg (show ¬ (false = true) by decide)] at H; exact H
                    clear H
                    have H := H1
                    clear H1
                    exact absurd ((Option.some.inj H).trans HRT.out) (by decide)
                · rw [if_neg c56] at H
                  have c56b0 : (t186 == t189) = false := beq_eq_false_iff_ne.mpr c56
                  have c56b1 : (t186 != t189) = true := bne_iff_ne.mpr c56
                  by_cases c60 : t179 = true
                  · subst c60
                    have H1 : (if t198 = a3 then (if t199 = 0 then (some (false == (decide (a3 < a4)))) else (some false)) else (some false)) = some r := by rw [if_pos rfl] at H; exact H
                    clear H
                    have H := H1
                    clear H1
                    by_cases c61 : t198 = a3
                    · rw [if_pos c61] at H
                      have c61b0 : (t198 == a3) = true := beq_iff_eq.mpr c61
                      have c61b1 : (t198 != a3) = false := bne_eq_false_iff_eq.mpr c61
                      clear c61
                      by_cases c62 : t199 = 0
                      · rw [if_pos c62] at H
                        have c62b0 : (t199 == 0) = true := beq_iff_eq.mpr c62
                        have c62b1 : (t199 != 0) = false := bne_eq_false_iff_eq.mpr c62
                        clear c62
                        obtain rfl := Option.some.inj H
                        go_wp2_with (first | ((with_reducible refine gate_callee (f := 14) rfl ?_); refine goesL_ (some 106) rfl rfl Try.func14 (by kernel_rfl) rfl #[.int .u32 t184, .int .u8 t185, .int .u32 t186] rfl (by (try simp only [List.map_toArray, List.map_cons, List.map_nil]); first | done | rfl | (simp only [List.length_drop, List.length_take]; rfl)) ?_; (with_reducible refine (shift_Pack.calls t184 t185 t186 t198 t199 _ A46.out).mono ?_); rintro e w' ⟨rfl, ⟨nd, rfl⟩⟩; refine ⟨_, rfl, ?_⟩))
                        go_ret
                        exact ⟨by first | rfl | (simp [errW_none, errW_some] <;> rfl) | (simp [*, errW_none, errW_some] <;> rfl), by repeat (first | (with_reducible first | exact HB.out | apply below_alloc | apply pw_below_drewN | apply below_drew1) | exact HB.out)⟩
                      · rw [if_neg c62] at H
                        have c62b0 : (t199 == 0) = false := beq_eq_false_iff_ne.mpr c62
                        have c62b1 : (t199 != 0) = true := bne_iff_ne.mpr c62
                        exact absurd ((Option.some.inj H).trans HRT.out) (by decide)
                    · rw [if_neg c61] at H
                      have c61b0 : (t198 == a3) = false := beq_eq_false_iff_ne.mpr c61
                      have c61b1 : (t198 != a3) = true := bne_iff_ne.mpr c61
                      exact absurd ((Option.some.inj H).trans HRT.out) (by decide)
                  · replace c60 := Bool.eq_false_iff.mpr c60
                    subst c60
                    have H1 : (some false) = some r := by rw [if_neg (show ¬ (false = true) by decide)] at H; exact H
                    clear H
                    have H := H1
                    clear H1
                    exact absurd ((Option.some.inj H).trans HRT.out) (by decide)
            · rw [if_neg c51] at H
              have c51b0 : (t184 == t187) = false := beq_eq_false_iff_ne.mpr c51
              have c51b1 : (t184 != t187) = true := bne_iff_ne.mpr c51
              by_cases c63 : t179 = true
              · subst c63
                have H1 : (if t198 = a3 then (if t199 = 0 then (some (false == (decide (a3 < a4)))) else (some false)) else (some false)) = some r := by rw [if_pos rfl] at H; exact H
                clear H
                have H := H1
                clear H1
                by_cases c64 : t198 = a3
                · rw [if_pos c64] at H
                  have c64b0 : (t198 == a3) = true := beq_iff_eq.mpr c64
                  have c64b1 : (t198 != a3) = false := bne_eq_false_iff_eq.mpr c64
                  clear c64
                  by_cases c65 : t199 = 0
                  · rw [if_pos c65] at H
                    have c65b0 : (t199 == 0) = true := beq_iff_eq.mpr c65
                    have c65b1 : (t199 != 0) = false := bne_eq_false_iff_eq.mpr c65
                    clear c65
                    obtain rfl := Option.some.inj H
                    go_wp2_with (first | ((with_reducible refine gate_callee (f := 14) rfl ?_); refine goesL_ (some 106) rfl rfl Try.func14 (by kernel_rfl) rfl #[.int .u32 t184, .int .u8 t185, .int .u32 t186] rfl (by (try simp only [List.map_toArray, List.map_cons, List.map_nil]); first | done | rfl | (simp only [List.length_drop, List.length_take]; rfl)) ?_; (with_reducible refine (shift_Pack.calls t184 t185 t186 t198 t199 _ A46.out).mono ?_); rintro e w' ⟨rfl, ⟨nd, rfl⟩⟩; refine ⟨_, rfl, ?_⟩))
                    go_ret
                    exact ⟨by first | rfl | (simp [errW_none, errW_some] <;> rfl) | (simp [*, errW_none, errW_some] <;> rfl), by repeat (first | (with_reducible first | exact HB.out | apply below_alloc | apply pw_below_drewN | apply below_drew1) | exact HB.out)⟩
                  · rw [if_neg c65] at H
                    have c65b0 : (t199 == 0) = false := beq_eq_false_iff_ne.mpr c65
                    have c65b1 : (t199 != 0) = true := bne_iff_ne.mpr c65
                    exact absurd ((Option.some.inj H).trans HRT.out) (by decide)
                · rw [if_neg c64] at H
                  have c64b0 : (t198 == a3) = false := beq_eq_false_iff_ne.mpr c64
                  have c64b1 : (t198 != a3) = true := bne_iff_ne.mpr c64
                  exact absurd ((Option.some.inj H).trans HRT.out) (by decide)
              · replace c63 := Bool.eq_false_iff.mpr c63
                subst c63
                have H1 : (some false) = some r := by rw [if_neg (show ¬ (false = true) by decide)] at H; exact H
                clear H
                have H := H1
                clear H1
                exact absurd ((Option.some.inj H).trans HRT.out) (by decide)

/-- THE ONE PURE STATEMENT of tidemarklaw01_ShiftPacks: yours. -/
def tidemarklaw01_ShiftPacks.Pure : Prop := ∀ (a0 : Int) (a1 : Int) (a2 : Int) (a3 : Int) (a4 : Int), (Lit.int .u32 a0).wf = true → (Lit.int .u8 a1).wf = true → (Lit.int .u32 a2).wf = true → (Lit.int .u64 a3).wf = true → (Lit.int .u64 a4).wf = true → ∃ k, tidemarklaw01_ShiftPacks.f k a0 a1 a2 a3 a4 = some true
theorem tidemarklaw01_ShiftPacks.walk (P : tidemarklaw01_ShiftPacks.Pure) (a0 : Int) (a1 : Int) (a2 : Int) (a3 : Int) (a4 : Int) (w : World) (w0 : (Lit.int .u32 a0).wf = true) (w1 : (Lit.int .u8 a1).wf = true) (w2 : (Lit.int .u32 a2).wf = true) (w3 : (Lit.int .u64 a3).wf = true) (w4 : (Lit.int .u64 a4).wf = true) :
    Calls Try.prog 6 #[.int .u32 a0, .int .u8 a1, .int .u32 a2, .int .u64 a3, .int .u64 a4] w fun e w' => e = .returned (.bool true) ∧ Below w.heap.size w w' := by
  obtain ⟨k, h⟩ := P a0 a1 a2 a3 a4 w0 w1 w2 w3 w4
  refine (tidemarklaw01_ShiftPacks.calls k a0 a1 a2 a3 a4 true w rfl h).mono ?_
  rintro e w' ⟨rfl, hd⟩
  exact ⟨rfl, hd⟩

end Go.Proofs.Ytemgidhelpacaaa.PS
