/- Texts of this session in one: HShown, HFewRows, HFew, HOpen, HOpen2, HCode4, HSame, HSameRows, HPureUnlike. Plain functions, and that the program's come to them. -/
import Derived.Test.YtgmdoapedhppmaaWWords
import Derived.Deep.Slices
import Derived.SizedLaws
import Derived.ChangeArms
import Derived.WideShapes
import Derived.Test.YtgmdoapedhppmaaBCodecUnlike0
import Derived.Test.YtgmdoapedhppmaaBCodecUnlike1
import Derived.Test.YtgmdoapedhppmaaBCodecUnlike2

/- shown: its print as a law's (its ways to false fall away), turned by shown.py. -/
namespace Go.Proofs.Ytgmdoapedhppmaa.PC
set_option linter.unusedVariables false
set_option linter.unusedSimpArgs false
open Go.RowKit Go.Proofs.YtgmdoapedhppmaaW.PrintWords Go.Proofs.YtgmdoapedhppmaaW.PrintLast Go.Proofs.YtgmdoapedhppmaaW.PrintMore
attribute [local go_sem] max2_int min2_int max_two min_two max_three min_three max_four min_four   -- for this text's walks alone

/-! ### shownK: function 13 -/
def shownK.f (k : Nat)  : Option (Bool) := (codec_Encode.f k 1 ([] : List (S47))).bind fun bt177 => ((codec_Encode.f k 0 ([] : List (S47))).bind fun bt181 => ((codec_Decode.f (([1, 0] : List Int))).bind fun bt188 => ((codec_Decode.f (([1] : List Int))).bind fun bt197 => ((codec_Decode.f (([1, 0, 0] : List Int))).bind fun bt206 => ((codec_EncodeRows.f k (([(⟨(⟨2, (⟨#[97]⟩ : ByteArray)⟩ : S28), (⟨#[98, 99]⟩ : ByteArray)⟩ : S57)] : List (S57)))).bind fun bt215 => (if (strOfNums bt177.1).toList = ([1, 0] : List UInt8) then (if bt177.2 = 0 then (if bt181.2 = 1 then (if bt188.1 = 1 then (if (bt188.2.1.length : Int) = 0 then (if bt188.2.2 = 0 then (if bt197.2.2 = 2 then (if bt206.2.2 = 3 then (if (strOfNums bt215.1).toList = ([1, 2, 1, 97, 2, 98, 99] : List UInt8) then (if bt215.2 = 0 then ((codec_Less.f k 1 (⟨#[122]⟩ : ByteArray) 2 (⟨#[97]⟩ : ByteArray)).bind fun t219 => (some t219)) else (some false)) else (some false)) else (some false)) else (some false)) else (some false)) else (some false)) else (some false)) else (some false)) else (some false)) else (some false)))))))
theorem shownK.mono : ∀ k, LeO (shownK.f k ) (shownK.f (k + 1) ) := by
  intro  k
  unfold shownK.f
  repeat' first
      | (with_reducible exact codec_Encode.mono _ _ _)
      | (with_reducible exact codec_EncodeRows.mono _ _)
      | (with_reducible exact codec_Less.mono _ _ _ _ _)
      | (with_reducible exact LeO.refl _)
      | (with_reducible exact LeO.none _)
      | (with_reducible refine LeO.ite ?_ ?_)
      | (with_reducible refine LeO.bind ?_ (fun _ => ?_))
      | exact codec_Encode.mono _ _ _
      | exact codec_EncodeRows.mono _ _
      | exact codec_Less.mono _ _ _ _ _
      | exact LeO.none _
      | refine LeO.ite ?_ ?_
      | refine LeO.bind ?_ (fun _ => ?_)
set_option maxHeartbeats 8000000 in
set_option maxRecDepth 100000 in
theorem shownK.calls (k : Nat)  (r : Bool) (w : World) (hrt : r = true) (h : shownK.f k  = some r) :
    Calls Try.prog 13 #[] w fun e w' => e = .returned (.bool r) ∧ Below w.heap.size w w' := by
  have HRT := Aside0.mk hrt
  clear hrt
  have hu25 := Try.underlying25
  have hu28 := Try.underlying28
  have hu57 := Try.underlying57
  have HB := Aside0.mk (Below.refl w.heap.size w)
  have H : ((codec_Encode.f k 1 ([] : List (S47))).bind fun bt177 => ((codec_Encode.f k 0 ([] : List (S47))).bind fun bt181 => ((codec_Decode.f (([1, 0] : List Int))).bind fun bt188 => ((codec_Decode.f (([1] : List Int))).bind fun bt197 => ((codec_Decode.f (([1, 0, 0] : List Int))).bind fun bt206 => ((codec_EncodeRows.f k (([(⟨(⟨2, (⟨#[97]⟩ : ByteArray)⟩ : S28), (⟨#[98, 99]⟩ : ByteArray)⟩ : S57)] : List (S57)))).bind fun bt215 => (if (strOfNums bt177.1).toList = ([1, 0] : List UInt8) then (if bt177.2 = 0 then (if bt181.2 = 1 then (if bt188.1 = 1 then (if (bt188.2.1.length : Int) = 0 then (if bt188.2.2 = 0 then (if bt197.2.2 = 2 then (if bt206.2.2 = 3 then (if (strOfNums bt215.1).toList = ([1, 2, 1, 97, 2, 98, 99] : List UInt8) then (if bt215.2 = 0 then ((codec_Less.f k 1 (⟨#[122]⟩ : ByteArray) 2 (⟨#[97]⟩ : ByteArray)).bind fun t219 => (some t219)) else (some false)) else (some false)) else (some false)) else (some false)) else (some false)) else (some false)) else (some false)) else (some false)) else (some false)) else (some false)))))))) = some r := h
  clear h
  replace H := Option.bind_eq_some_iff.mp H
  obtain ⟨⟨t177, t180⟩, A10, H⟩ := H
  replace H : ((codec_Encode.f k 0 ([] : List (S47))).bind fun bt181 => ((codec_Decode.f (([1, 0] : List Int))).bind fun bt188 => ((codec_Decode.f (([1] : List Int))).bind fun bt197 => ((codec_Decode.f (([1, 0, 0] : List Int))).bind fun bt206 => ((codec_EncodeRows.f k (([(⟨(⟨2, (⟨#[97]⟩ : ByteArray)⟩ : S28), (⟨#[98, 99]⟩ : ByteArray)⟩ : S57)] : List (S57)))).bind fun bt215 => (if (strOfNums t177).toList = ([1, 0] : List UInt8) then (if t180 = 0 then (if bt181.2 = 1 then (if bt188.1 = 1 then (if (bt188.2.1.length : Int) = 0 then (if bt188.2.2 = 0 then (if bt197.2.2 = 2 then (if bt206.2.2 = 3 then (if (strOfNums bt215.1).toList = ([1, 2, 1, 97, 2, 98, 99] : List UInt8) then (if bt215.2 = 0 then ((codec_Less.f k 1 (⟨#[122]⟩ : ByteArray) 2 (⟨#[97]⟩ : ByteArray)).bind fun t219 => (some t219)) else (some false)) else (some false)) else (some false)) else (some false)) else (some false)) else (some false)) else (some false)) else (some false)) else (some false)) else (some false))))))) = some r := H
  have A1 := Aside0.mk A10
  clear A10
  replace H := Option.bind_eq_some_iff.mp H
  obtain ⟨⟨t181, t184⟩, A20, H⟩ := H
  replace H : ((codec_Decode.f (([1, 0] : List Int))).bind fun bt188 => ((codec_Decode.f (([1] : List Int))).bind fun bt197 => ((codec_Decode.f (([1, 0, 0] : List Int))).bind fun bt206 => ((codec_EncodeRows.f k (([(⟨(⟨2, (⟨#[97]⟩ : ByteArray)⟩ : S28), (⟨#[98, 99]⟩ : ByteArray)⟩ : S57)] : List (S57)))).bind fun bt215 => (if (strOfNums t177).toList = ([1, 0] : List UInt8) then (if t180 = 0 then (if t184 = 1 then (if bt188.1 = 1 then (if (bt188.2.1.length : Int) = 0 then (if bt188.2.2 = 0 then (if bt197.2.2 = 2 then (if bt206.2.2 = 3 then (if (strOfNums bt215.1).toList = ([1, 2, 1, 97, 2, 98, 99] : List UInt8) then (if bt215.2 = 0 then ((codec_Less.f k 1 (⟨#[122]⟩ : ByteArray) 2 (⟨#[97]⟩ : ByteArray)).bind fun t219 => (some t219)) else (some false)) else (some false)) else (some false)) else (some false)) else (some false)) else (some false)) else (some false)) else (some false)) else (some false)) else (some false)))))) = some r := H
  have A2 := Aside0.mk A20
  clear A20
  obtain ⟨y185, hy185⟩ : ∃ y_ : List Int, y_ = (([1, 0] : List Int)) := ⟨_, rfl⟩
  replace H : ((codec_Decode.f y185).bind fun bt188 => ((codec_Decode.f (([1] : List Int))).bind fun bt197 => ((codec_Decode.f (([1, 0, 0] : List Int))).bind fun bt206 => ((codec_EncodeRows.f k (([(⟨(⟨2, (⟨#[97]⟩ : ByteArray)⟩ : S28), (⟨#[98, 99]⟩ : ByteArray)⟩ : S57)] : List (S57)))).bind fun bt215 => (if (strOfNums t177).toList = ([1, 0] : List UInt8) then (if t180 = 0 then (if t184 = 1 then (if bt188.1 = 1 then (if (bt188.2.1.length : Int) = 0 then (if bt188.2.2 = 0 then (if bt197.2.2 = 2 then (if bt206.2.2 = 3 then (if (strOfNums bt215.1).toList = ([1, 2, 1, 97, 2, 98, 99] : List UInt8) then (if bt215.2 = 0 then ((codec_Less.f k 1 (⟨#[122]⟩ : ByteArray) 2 (⟨#[97]⟩ : ByteArray)).bind fun t219 => (some t219)) else (some false)) else (some false)) else (some false)) else (some false)) else (some false)) else (some false)) else (some false)) else (some false)) else (some false)) else (some false)))))) = some r := by first | (rw [hy185]; with_reducible exact H) | (have H2_ := (Option.bind_some _ _).symm.trans H; rw [hy185]; with_reducible exact H2_) | (have H2_ := (Option.bind_some _ _).symm.trans H; with_reducible exact H2_) | with_reducible exact H | (rw [hy185]; exact H) | exact H
  have Ny185 := Aside0.mk hy185
  clear hy185
  replace H := Option.bind_eq_some_iff.mp H
  obtain ⟨⟨t188, t189, t192⟩, A30, H⟩ := H
  replace H : ((codec_Decode.f (([1] : List Int))).bind fun bt197 => ((codec_Decode.f (([1, 0, 0] : List Int))).bind fun bt206 => ((codec_EncodeRows.f k (([(⟨(⟨2, (⟨#[97]⟩ : ByteArray)⟩ : S28), (⟨#[98, 99]⟩ : ByteArray)⟩ : S57)] : List (S57)))).bind fun bt215 => (if (strOfNums t177).toList = ([1, 0] : List UInt8) then (if t180 = 0 then (if t184 = 1 then (if t188 = 1 then (if (t189.length : Int) = 0 then (if t192 = 0 then (if bt197.2.2 = 2 then (if bt206.2.2 = 3 then (if (strOfNums bt215.1).toList = ([1, 2, 1, 97, 2, 98, 99] : List UInt8) then (if bt215.2 = 0 then ((codec_Less.f k 1 (⟨#[122]⟩ : ByteArray) 2 (⟨#[97]⟩ : ByteArray)).bind fun t219 => (some t219)) else (some false)) else (some false)) else (some false)) else (some false)) else (some false)) else (some false)) else (some false)) else (some false)) else (some false)) else (some false))))) = some r := H
  have A3 := Aside0.mk A30
  clear A30
  obtain ⟨y194, hy194⟩ : ∃ y_ : List Int, y_ = (([1] : List Int)) := ⟨_, rfl⟩
  replace H : ((codec_Decode.f y194).bind fun bt197 => ((codec_Decode.f (([1, 0, 0] : List Int))).bind fun bt206 => ((codec_EncodeRows.f k (([(⟨(⟨2, (⟨#[97]⟩ : ByteArray)⟩ : S28), (⟨#[98, 99]⟩ : ByteArray)⟩ : S57)] : List (S57)))).bind fun bt215 => (if (strOfNums t177).toList = ([1, 0] : List UInt8) then (if t180 = 0 then (if t184 = 1 then (if t188 = 1 then (if (t189.length : Int) = 0 then (if t192 = 0 then (if bt197.2.2 = 2 then (if bt206.2.2 = 3 then (if (strOfNums bt215.1).toList = ([1, 2, 1, 97, 2, 98, 99] : List UInt8) then (if bt215.2 = 0 then ((codec_Less.f k 1 (⟨#[122]⟩ : ByteArray) 2 (⟨#[97]⟩ : ByteArray)).bind fun t219 => (some t219)) else (some false)) else (some false)) else (some false)) else (some false)) else (some false)) else (some false)) else (some false)) else (some false)) else (some false)) else (some false))))) = some r := by first | (rw [hy194]; with_reducible exact H) | (have H2_ := (Option.bind_some _ _).symm.trans H; rw [hy194]; with_reducible exact H2_) | (have H2_ := (Option.bind_some _ _).symm.trans H; with_reducible exact H2_) | with_reducible exact H | (rw [hy194]; exact H) | exact H
  have Ny194 := Aside0.mk hy194
  clear hy194
  replace H := Option.bind_eq_some_iff.mp H
  obtain ⟨⟨t197, t198, t201⟩, A40, H⟩ := H
  replace H : ((codec_Decode.f (([1, 0, 0] : List Int))).bind fun bt206 => ((codec_EncodeRows.f k (([(⟨(⟨2, (⟨#[97]⟩ : ByteArray)⟩ : S28), (⟨#[98, 99]⟩ : ByteArray)⟩ : S57)] : List (S57)))).bind fun bt215 => (if (strOfNums t177).toList = ([1, 0] : List UInt8) then (if t180 = 0 then (if t184 = 1 then (if t188 = 1 then (if (t189.length : Int) = 0 then (if t192 = 0 then (if t201 = 2 then (if bt206.2.2 = 3 then (if (strOfNums bt215.1).toList = ([1, 2, 1, 97, 2, 98, 99] : List UInt8) then (if bt215.2 = 0 then ((codec_Less.f k 1 (⟨#[122]⟩ : ByteArray) 2 (⟨#[97]⟩ : ByteArray)).bind fun t219 => (some t219)) else (some false)) else (some false)) else (some false)) else (some false)) else (some false)) else (some false)) else (some false)) else (some false)) else (some false)) else (some false)))) = some r := H
  have A4 := Aside0.mk A40
  clear A40
  obtain ⟨y203, hy203⟩ : ∃ y_ : List Int, y_ = (([1, 0, 0] : List Int)) := ⟨_, rfl⟩
  replace H : ((codec_Decode.f y203).bind fun bt206 => ((codec_EncodeRows.f k (([(⟨(⟨2, (⟨#[97]⟩ : ByteArray)⟩ : S28), (⟨#[98, 99]⟩ : ByteArray)⟩ : S57)] : List (S57)))).bind fun bt215 => (if (strOfNums t177).toList = ([1, 0] : List UInt8) then (if t180 = 0 then (if t184 = 1 then (if t188 = 1 then (if (t189.length : Int) = 0 then (if t192 = 0 then (if t201 = 2 then (if bt206.2.2 = 3 then (if (strOfNums bt215.1).toList = ([1, 2, 1, 97, 2, 98, 99] : List UInt8) then (if bt215.2 = 0 then ((codec_Less.f k 1 (⟨#[122]⟩ : ByteArray) 2 (⟨#[97]⟩ : ByteArray)).bind fun t219 => (some t219)) else (some false)) else (some false)) else (some false)) else (some false)) else (some false)) else (some false)) else (some false)) else (some false)) else (some false)) else (some false)))) = some r := by first | (rw [hy203]; with_reducible exact H) | (have H2_ := (Option.bind_some _ _).symm.trans H; rw [hy203]; with_reducible exact H2_) | (have H2_ := (Option.bind_some _ _).symm.trans H; with_reducible exact H2_) | with_reducible exact H | (rw [hy203]; exact H) | exact H
  have Ny203 := Aside0.mk hy203
  clear hy203
  replace H := Option.bind_eq_some_iff.mp H
  obtain ⟨⟨t206, t207, t210⟩, A50, H⟩ := H
  replace H : ((codec_EncodeRows.f k (([(⟨(⟨2, (⟨#[97]⟩ : ByteArray)⟩ : S28), (⟨#[98, 99]⟩ : ByteArray)⟩ : S57)] : List (S57)))).bind fun bt215 => (if (strOfNums t177).toList = ([1, 0] : List UInt8) then (if t180 = 0 then (if t184 = 1 then (if t188 = 1 then (if (t189.length : Int) = 0 then (if t192 = 0 then (if t201 = 2 then (if t210 = 3 then (if (strOfNums bt215.1).toList = ([1, 2, 1, 97, 2, 98, 99] : List UInt8) then (if bt215.2 = 0 then ((codec_Less.f k 1 (⟨#[122]⟩ : ByteArray) 2 (⟨#[97]⟩ : ByteArray)).bind fun t219 => (some t219)) else (some false)) else (some false)) else (some false)) else (some false)) else (some false)) else (some false)) else (some false)) else (some false)) else (some false)) else (some false))) = some r := H
  have A5 := Aside0.mk A50
  clear A50
  obtain ⟨y212, hy212⟩ : ∃ y_ : List (S57), y_ = (([(⟨(⟨2, (⟨#[97]⟩ : ByteArray)⟩ : S28), (⟨#[98, 99]⟩ : ByteArray)⟩ : S57)] : List (S57))) := ⟨_, rfl⟩
  replace H : ((codec_EncodeRows.f k y212).bind fun bt215 => (if (strOfNums t177).toList = ([1, 0] : List UInt8) then (if t180 = 0 then (if t184 = 1 then (if t188 = 1 then (if (t189.length : Int) = 0 then (if t192 = 0 then (if t201 = 2 then (if t210 = 3 then (if (strOfNums bt215.1).toList = ([1, 2, 1, 97, 2, 98, 99] : List UInt8) then (if bt215.2 = 0 then ((codec_Less.f k 1 (⟨#[122]⟩ : ByteArray) 2 (⟨#[97]⟩ : ByteArray)).bind fun t219 => (some t219)) else (some false)) else (some false)) else (some false)) else (some false)) else (some false)) else (some false)) else (some false)) else (some false)) else (some false)) else (some false))) = some r := by first | (rw [hy212]; with_reducible exact H) | (have H2_ := (Option.bind_some _ _).symm.trans H; rw [hy212]; with_reducible exact H2_) | (have H2_ := (Option.bind_some _ _).symm.trans H; with_reducible exact H2_) | with_reducible exact H | (rw [hy212]; exact H) | exact H
  have Ny212 := Aside0.mk hy212
  clear hy212
  replace H := Option.bind_eq_some_iff.mp H
  obtain ⟨⟨t215, t216⟩, A60, H⟩ := H
  replace H : (if (strOfNums t177).toList = ([1, 0] : List UInt8) then (if t180 = 0 then (if t184 = 1 then (if t188 = 1 then (if (t189.length : Int) = 0 then (if t192 = 0 then (if t201 = 2 then (if t210 = 3 then (if (strOfNums t215).toList = ([1, 2, 1, 97, 2, 98, 99] : List UInt8) then (if t216 = 0 then ((codec_Less.f k 1 (⟨#[122]⟩ : ByteArray) 2 (⟨#[97]⟩ : ByteArray)).bind fun t219 => (some t219)) else (some false)) else (some false)) else (some false)) else (some false)) else (some false)) else (some false)) else (some false)) else (some false)) else (some false)) else (some false)) = some r := H
  have A6 := Aside0.mk A60
  clear A60
  by_cases c7 : (strOfNums t177).toList = ([1, 0] : List UInt8)
  · rw [if_pos c7] at H
    have c7b0 : ((strOfNums t177).toList == ([1, 0] : List UInt8)) = true := beq_iff_eq.mpr c7
    have c7b1 : ((strOfNums t177).toList != ([1, 0] : List UInt8)) = false := bne_eq_false_iff_eq.mpr c7
    clear c7
    by_cases c8 : t180 = 0
    · rw [if_pos c8] at H
      have c8b0 : (t180 == 0) = true := beq_iff_eq.mpr c8
      have c8b1 : (t180 != 0) = false := bne_eq_false_iff_eq.mpr c8
      clear c8
      by_cases c9 : t184 = 1
      · rw [if_pos c9] at H
        have c9b0 : (t184 == 1) = true := beq_iff_eq.mpr c9
        have c9b1 : (t184 != 1) = false := bne_eq_false_iff_eq.mpr c9
        clear c9
        by_cases c10 : t188 = 1
        · rw [if_pos c10] at H
          have c10b0 : (t188 == 1) = true := beq_iff_eq.mpr c10
          have c10b1 : (t188 != 1) = false := bne_eq_false_iff_eq.mpr c10
          clear c10
          by_cases c11 : (t189.length : Int) = 0
          · rw [if_pos c11] at H
            have c11b0 : ((t189.length : Int) == 0) = true := beq_iff_eq.mpr c11
            have c11b1 : ((t189.length : Int) != 0) = false := bne_eq_false_iff_eq.mpr c11
            clear c11
            by_cases c12 : t192 = 0
            · rw [if_pos c12] at H
              have c12b0 : (t192 == 0) = true := beq_iff_eq.mpr c12
              have c12b1 : (t192 != 0) = false := bne_eq_false_iff_eq.mpr c12
              clear c12
              by_cases c13 : t201 = 2
              · rw [if_pos c13] at H
                have c13b0 : (t201 == 2) = true := beq_iff_eq.mpr c13
                have c13b1 : (t201 != 2) = false := bne_eq_false_iff_eq.mpr c13
                clear c13
                by_cases c14 : t210 = 3
                · rw [if_pos c14] at H
                  have c14b0 : (t210 == 3) = true := beq_iff_eq.mpr c14
                  have c14b1 : (t210 != 3) = false := bne_eq_false_iff_eq.mpr c14
                  clear c14
                  by_cases c15 : (strOfNums t215).toList = ([1, 2, 1, 97, 2, 98, 99] : List UInt8)
                  · rw [if_pos c15] at H
                    have c15b0 : ((strOfNums t215).toList == ([1, 2, 1, 97, 2, 98, 99] : List UInt8)) = true := beq_iff_eq.mpr c15
                    have c15b1 : ((strOfNums t215).toList != ([1, 2, 1, 97, 2, 98, 99] : List UInt8)) = false := bne_eq_false_iff_eq.mpr c15
                    clear c15
                    by_cases c16 : t216 = 0
                    · rw [if_pos c16] at H
                      have c16b0 : (t216 == 0) = true := beq_iff_eq.mpr c16
                      have c16b1 : (t216 != 0) = false := bne_eq_false_iff_eq.mpr c16
                      clear c16
                      replace H := Option.bind_eq_some_iff.mp H
                      obtain ⟨t219, A170, H⟩ := H
                      replace H : (some t219) = some r := H
                      have A17 := Aside0.mk A170
                      clear A170
                      obtain rfl := Option.some.inj H
                      go_enter Try.func13, Try.ntmps13
                      go_wp2_with (first | ((with_reducible refine gate_callee (f := 16) rfl ?_); refine goesL_ (some 15) rfl rfl Try.func16 (by kernel_rfl) rfl #[.agg #[.int .u32 1, .slice none 0 0]] rfl (by (try simp only [List.map_toArray, List.map_cons, List.map_nil]); first | done | rfl | (simp only [List.length_drop, List.length_take]; rfl) | (rw [IntKind.wrap_u64, Int.emod_eq_of_lt (by omega) (by omega)]; rfl)) ?_; (refine (codec_Encode.calls k 1 _ _ ([] : List (S47)) t177 t180 _ ?side1 ?side2 A1.out).mono ?_); (case side1 => exact Kd.C_nil _ _); (case side2 => exact Nat.le_refl _); rintro e w18 ⟨v178, rfl, ho0, hb⟩; refine ⟨_, rfl, ?_⟩; have n0_ := Aside0.mk (Kd.R_lower ho0 (below_size (by repeat (first | (with_reducible first | exact HB.out | apply below_alloc | apply pw_below_drewN | apply below_drew1) | exact HB.out)))); have n1_ := Aside0.mk (below_step (by repeat (first | (with_reducible first | exact HB.out | apply below_alloc | apply pw_below_drewN | apply below_drew1) | exact HB.out)) hb); clear HB; have HO179 := n0_; have HB := n1_; clear n0_ n1_; (try clear hb); (try clear hb2); (try clear hk); (try clear hi); (try clear ho0)) | ((with_reducible refine gate_callee (f := 16) rfl ?_); refine goesL_ (some 20) rfl rfl Try.func16 (by kernel_rfl) rfl #[.agg #[.int .u32 0, .slice none 0 0]] rfl (by (try simp only [List.map_toArray, List.map_cons, List.map_nil]); first | done | rfl | (simp only [List.length_drop, List.length_take]; rfl) | (rw [IntKind.wrap_u64, Int.emod_eq_of_lt (by omega) (by omega)]; rfl)) ?_; (refine (codec_Encode.calls k 0 _ _ ([] : List (S47)) t181 t184 _ ?side1 ?side2 A2.out).mono ?_); (case side1 => exact Kd.C_nil _ _); (case side2 => exact Nat.le_refl _); rintro e w19 ⟨v182, rfl, ho0, hb⟩; refine ⟨_, rfl, ?_⟩; have n0_ := Aside0.mk (Kd.R_elder' (by (with_reducible repeat (first | apply Kd.R_alloc | apply Kd.R_drewN | apply Kd.R_drew)); exact HO179.out) (Kd.R_base ho0) hb); have n1_ := Aside0.mk (Kd.R_lower (Kd.R_new' ho0 (Kd.R_lt (by (with_reducible repeat (first | apply Kd.R_alloc | apply Kd.R_drewN | apply Kd.R_drew)); exact HO179.out))) (below_size (by repeat (first | (with_reducible first | exact HB.out | apply below_alloc | apply pw_below_drewN | apply below_drew1) | exact HB.out)))); have n2_ := Aside0.mk (below_step (by repeat (first | (with_reducible first | exact HB.out | apply below_alloc | apply pw_below_drewN | apply below_drew1) | exact HB.out)) hb); clear HO179; clear HB; have HO179 := n0_; have HO183 := n1_; have HB := n2_; clear n0_ n1_ n2_; (try clear hb); (try clear hb2); (try clear hk); (try clear hi); (try clear ho0)) | ((with_reducible refine gate_dst (N := 24) rfl ?_); (try (refine gate_guard (by rfl) ?_; dsimp only)); refine Kd.R_lit (Kd.int .u8) _ 5 ?hg (N := 24) ?hd (xs := ([1, 0] : List Int)) (inner := [.int .u8 1, .int .u8 0]) (ok := fun _ => True) (okp := fun _ => True) ?hr ?hp (fun _ hk => hk) trivial (Below.refl _ _) (Nat.le_refl _) (by simp) ?_; (case hd => rfl); (case hg => rfl); (case hr => first | (go_simp; done) | (go_simp; rfl)); (case hp => exact (Reps.one (show Kd.M (Kd.int .u8) _ _ _ 1 [.int .u8 1] from rfl) (Reps.one (show Kd.M (Kd.int .u8) _ _ _ 0 [.int .u8 0] from rfl) (Reps.none _ _)))); intro v186 w20 ho21 hb hg_ hnew_; clear hg_ hnew_; (first | rw [← Ny185.out] at ho21 | (simp only [Int.reduceToNat] at ho21; rw [← Ny185.out] at ho21)); have n0_ := Aside0.mk (Kd.R_elder' (by (with_reducible repeat (first | apply Kd.R_alloc | apply Kd.R_drewN | apply Kd.R_drew)); exact HO179.out) (Kd.R_base ho21) hb); have n1_ := Aside0.mk (Kd.R_elder' (by (with_reducible repeat (first | apply Kd.R_alloc | apply Kd.R_drewN | apply Kd.R_drew)); exact HO183.out) (Kd.R_base ho21) hb); have n2_ := Aside0.mk (Kd.R_lower (Kd.R_new' (Kd.R_new' ho21 (Kd.R_lt (by (with_reducible repeat (first | apply Kd.R_alloc | apply Kd.R_drewN | apply Kd.R_drew)); exact HO179.out))) (Kd.R_lt (by (with_reducible repeat (first | apply Kd.R_alloc | apply Kd.R_drewN | apply Kd.R_drew)); exact HO183.out))) (below_size (by repeat (first | (with_reducible first | exact HB.out | apply below_alloc | apply pw_below_drewN | apply below_drew1) | exact HB.out)))); have n3_ := Aside0.mk (below_step (by repeat (first | (with_reducible first | exact HB.out | apply below_alloc | apply pw_below_drewN | apply below_drew1) | exact HB.out)) hb); clear HO179; clear HO183; clear HB; have HO179 := n0_; have HO183 := n1_; have HO187 := n2_; have HB := n3_; clear n0_ n1_ n2_ n3_; clear hb ho21; obtain ⟨Ao22, co22, eo22⟩ := Kd.R_slice HO187.out; subst eo22) | ((with_reducible refine gate_callee (f := 28) rfl ?_); refine goesL_ (some 25) rfl rfl Try.func28 (by kernel_rfl) rfl #[.slice Ao22 y185.length co22] rfl (by (try simp only [List.map_toArray, List.map_cons, List.map_nil]); first | done | rfl | (simp only [List.length_drop, List.length_take]; rfl) | (rw [IntKind.wrap_u64, Int.emod_eq_of_lt (by omega) (by omega)]; rfl)) ?_; (with_reducible refine (codec_Decode.calls _ _ y185 t188 t189 t192 _ ?side1 ?side2 A3.out).mono ?_); (case side1 => repeat (first | exact (Kd.R_reads' HO187.out).2.2 | (with_reducible refine Kd.C_alloc ?_ _) | (with_reducible refine Kd.C_drewN ?_ _) | (with_reducible refine Kd.C_drew ?_))); (case side2 => exact (Kd.R_reads' HO187.out).2.1); rintro e w23 ⟨v190, rfl, ho0, hb⟩; refine ⟨_, rfl, ?_⟩; have n0_ := Aside0.mk (Kd.R_below (by (with_reducible repeat (first | apply Kd.R_alloc | apply Kd.R_drewN | apply Kd.R_drew)); exact HO179.out) hb); have n1_ := Aside0.mk (Kd.R_below (by (with_reducible repeat (first | apply Kd.R_alloc | apply Kd.R_drewN | apply Kd.R_drew)); exact HO183.out) hb); have n2_ := Aside0.mk (Kd.R_below (by (with_reducible repeat (first | apply Kd.R_alloc | apply Kd.R_drewN | apply Kd.R_drew)); exact HO187.out) hb); have n3_ := Aside0.mk (Kd.S_lower ho0 (below_size (by repeat (first | (with_reducible first | exact HB.out | apply below_alloc | apply pw_below_drewN | apply below_drew1) | exact HB.out)))); have n4_ := Aside0.mk (below_step (by repeat (first | (with_reducible first | exact HB.out | apply below_alloc | apply pw_below_drewN | apply below_drew1) | exact HB.out)) hb); clear HO179; clear HO183; clear HO187; clear HB; have HO179 := n0_; have HO183 := n1_; have HO187 := n2_; have HO191 := n3_; have HB := n4_; clear n0_ n1_ n2_ n3_ n4_; (try clear hb); (try clear hb2); (try clear hk); (try clear hi); (try clear ho0)) | ((with_reducible refine gate_dst (N := 5) rfl ?_); (try (refine gate_guard (by rfl) ?_; dsimp only)); refine box_event ?hg (N := 5) ?hd (cs := #[.int .u32 0, .slice none 0 0]) (t := 25) ?hr ?_; (case hd => rfl); (case hg => rfl); (case hr => first | (go_simp; done) | (go_simp; rfl)); intro gb193 hg w24 hbox hb; have n0_ := Aside0.mk (Kd.R_below (by (with_reducible repeat (first | apply Kd.R_alloc | apply Kd.R_drewN | apply Kd.R_drew)); exact HO179.out) hb); have n1_ := Aside0.mk (Kd.R_below (by (with_reducible repeat (first | apply Kd.R_alloc | apply Kd.R_drewN | apply Kd.R_drew)); exact HO183.out) hb); have n2_ := Aside0.mk (Kd.R_below (by (with_reducible repeat (first | apply Kd.R_alloc | apply Kd.R_drewN | apply Kd.R_drew)); exact HO187.out) hb); have n3_ := Aside0.mk (Kd.S_below (by (with_reducible repeat (first | apply Kd.S_alloc | apply Kd.S_drewN | apply Kd.S_drew)); exact HO191.out) hb); have n4_ := Aside0.mk (below_step (by repeat (first | (with_reducible first | exact HB.out | apply below_alloc | apply pw_below_drewN | apply below_drew1) | exact HB.out)) hb); have n5_ := Aside0.mk (hbox); have n6_ := Aside0.mk ((by rw [hg]; exact (below_size (by repeat (first | (with_reducible first | exact HB.out | apply below_alloc | apply pw_below_drewN | apply below_drew1) | exact HB.out))) : w.heap.size ≤ gb193)); have n7_ := Aside0.mk ((by rw [hg]; exact (below_size (by repeat (first | (with_reducible first | exact HB.out | apply below_alloc | apply pw_below_drewN | apply below_drew1) | exact HB.out))) : w.heap.size ≤ gb193)); clear HO179; clear HO183; clear HO187; clear HO191; clear HB; have HO179 := n0_; have HO183 := n1_; have HO187 := n2_; have HO191 := n3_; have HB := n4_; have BK193 := n5_; have GW193 := n6_; have GE193 := n7_; clear n0_ n1_ n2_ n3_ n4_ n5_ n6_ n7_; clear hb hbox hg; have hcz25_0 : w24.cell? ⟨gb193, 0, none⟩ = some (.int .u32 0) := (blk_cell BK193.out 0).trans rfl; have hcz25_1 : w24.cell? ⟨gb193, 1, none⟩ = some (.slice none 0 0) := (blk_cell BK193.out 1).trans rfl; have hfz25_0 := blk_frozen BK193.out 0; have hfz25_1 := blk_frozen BK193.out 1; obtain ⟨Ao26, co26, eo26⟩ := Kd.S_slice HO191.out; subst eo26) | ((with_reducible refine gate_dst (N := 29) rfl ?_); (try (refine gate_guard (by rfl) ?_; dsimp only)); refine Kd.R_lit (Kd.int .u8) _ 5 ?hg (N := 29) ?hd (xs := ([1] : List Int)) (inner := [.int .u8 1]) (ok := fun _ => True) (okp := fun _ => True) ?hr ?hp (fun _ hk => hk) trivial (Below.refl _ _) (Nat.le_refl _) (by simp) ?_; (case hd => rfl); (case hg => rfl); (case hr => first | (go_simp; done) | (go_simp; rfl)); (case hp => exact (Reps.one (show Kd.M (Kd.int .u8) _ _ _ 1 [.int .u8 1] from rfl) (Reps.none _ _))); intro v195 w27 ho28 hb hg_ hnew_; clear hg_ hnew_; (first | rw [← Ny194.out] at ho28 | (simp only [Int.reduceToNat] at ho28; rw [← Ny194.out] at ho28)); have n0_ := Aside0.mk (Kd.R_elder' (by (with_reducible repeat (first | apply Kd.R_alloc | apply Kd.R_drewN | apply Kd.R_drew)); exact (Kd.R_mono (Kd.R_far (p := ⟨gb193, 1, none⟩) (Kd.R_far (p := ⟨gb193, 0, none⟩) (Kd.R_types HO179.out BK193.out (by decide)) (fun _ hk => hk.2) (.int .u32 t188)) (fun _ hk => hk.2) (.slice Ao26 t189.length co26)) (fun _ h_ => h_.1))) (Kd.R_base ho28) hb); have n1_ := Aside0.mk (Kd.R_elder' (by (with_reducible repeat (first | apply Kd.R_alloc | apply Kd.R_drewN | apply Kd.R_drew)); exact (Kd.R_mono (Kd.R_far (p := ⟨gb193, 1, none⟩) (Kd.R_far (p := ⟨gb193, 0, none⟩) (Kd.R_types HO183.out BK193.out (by decide)) (fun _ hk => hk.2) (.int .u32 t188)) (fun _ hk => hk.2) (.slice Ao26 t189.length co26)) (fun _ h_ => h_.1))) (Kd.R_base ho28) hb); have n2_ := Aside0.mk (Kd.R_elder' (by (with_reducible repeat (first | apply Kd.R_alloc | apply Kd.R_drewN | apply Kd.R_drew)); exact (Kd.R_mono (Kd.R_far (p := ⟨gb193, 1, none⟩) (Kd.R_far (p := ⟨gb193, 0, none⟩) (Kd.R_types HO187.out BK193.out (by decide)) (fun _ hk => hk.2) (.int .u32 t188)) (fun _ hk => hk.2) (.slice Ao26 t189.length co26)) (fun _ h_ => h_.1))) (Kd.R_base ho28) hb); have n3_ := Aside0.mk (Kd.S_below (by (with_reducible repeat (first | apply Kd.S_alloc | apply Kd.S_drewN | apply Kd.S_drew)); exact (Kd.S_mono (Kd.S_far (p := ⟨gb193, 1, none⟩) (Kd.S_far (p := ⟨gb193, 0, none⟩) (Kd.S_types HO191.out BK193.out (by decide)) (fun _ hk => hk.2) (.int .u32 t188)) (fun _ hk => hk.2) (.slice Ao26 t189.length co26)) (fun _ h_ => h_.1))) hb); have n4_ := Aside0.mk (Kd.R_lower (Kd.R_new' (Kd.R_new' (Kd.R_new' ho28 (Kd.R_lt (by (with_reducible repeat (first | apply Kd.R_alloc | apply Kd.R_drewN | apply Kd.R_drew)); exact (Kd.R_mono (Kd.R_far (p := ⟨gb193, 1, none⟩) (Kd.R_far (p := ⟨gb193, 0, none⟩) (Kd.R_types HO179.out BK193.out (by decide)) (fun _ hk => hk.2) (.int .u32 t188)) (fun _ hk => hk.2) (.slice Ao26 t189.length co26)) (fun _ h_ => h_.1))))) (Kd.R_lt (by (with_reducible repeat (first | apply Kd.R_alloc | apply Kd.R_drewN | apply Kd.R_drew)); exact (Kd.R_mono (Kd.R_far (p := ⟨gb193, 1, none⟩) (Kd.R_far (p := ⟨gb193, 0, none⟩) (Kd.R_types HO183.out BK193.out (by decide)) (fun _ hk => hk.2) (.int .u32 t188)) (fun _ hk => hk.2) (.slice Ao26 t189.length co26)) (fun _ h_ => h_.1))))) (Kd.R_lt (by (with_reducible repeat (first | apply Kd.R_alloc | apply Kd.R_drewN | apply Kd.R_drew)); exact (Kd.R_mono (Kd.R_far (p := ⟨gb193, 1, none⟩) (Kd.R_far (p := ⟨gb193, 0, none⟩) (Kd.R_types HO187.out BK193.out (by decide)) (fun _ hk => hk.2) (.int .u32 t188)) (fun _ hk => hk.2) (.slice Ao26 t189.length co26)) (fun _ h_ => h_.1))))) (below_size (by repeat (first | (with_reducible first | exact HB.out | apply below_alloc | apply pw_below_drewN | apply below_drew1 | refine below_set ?_ GE193.out) | exact HB.out)))); have n5_ := Aside0.mk (blk_below (g := gb193) (o := .cells #[.int .u32 t188, .slice Ao26 t189.length co26] 25 (0, 0)) (by (with_reducible repeat (first | refine blk_drewN ?_ _ | refine blk_drew ?_ | refine blk_alloc ?_ _)); refine blk_put (cs := #[.int .u32 t188, .slice none 0 0]) ?_ 1 _ rfl; (with_reducible repeat (first | refine blk_drewN ?_ _ | refine blk_drew ?_ | refine blk_alloc ?_ _)); refine blk_put (cs := #[.int .u32 0, .slice none 0 0]) ?_ 0 _ rfl; (with_reducible repeat (first | refine blk_drewN ?_ _ | refine blk_drew ?_ | refine blk_alloc ?_ _)); exact BK193.out) hb); have n6_ := Aside0.mk (below_step (by repeat (first | (with_reducible first | exact HB.out | apply below_alloc | apply pw_below_drewN | apply below_drew1 | refine below_set ?_ GE193.out) | exact HB.out)) hb); clear HO179; clear HO183; clear HO187; clear HO191; clear BK193; clear HB; have HO179 := n0_; have HO183 := n1_; have HO187 := n2_; have HO191 := n3_; have HO196 := n4_; have BK193 := n5_; have HB := n6_; clear n0_ n1_ n2_ n3_ n4_ n5_ n6_; clear hb ho28; obtain ⟨Ao29, co29, eo29⟩ := Kd.R_slice HO196.out; subst eo29) | ((with_reducible refine gate_callee (f := 28) rfl ?_); refine goesL_ (some 30) rfl rfl Try.func28 (by kernel_rfl) rfl #[.slice Ao29 y194.length co29] rfl (by (try simp only [List.map_toArray, List.map_cons, List.map_nil]); first | done | rfl | (simp only [List.length_drop, List.length_take]; rfl) | (rw [IntKind.wrap_u64, Int.emod_eq_of_lt (by omega) (by omega)]; rfl)) ?_; (with_reducible refine (codec_Decode.calls _ _ y194 t197 t198 t201 _ ?side1 ?side2 A4.out).mono ?_); (case side1 => repeat (first | exact (Kd.R_reads' HO196.out).2.2 | (with_reducible refine Kd.C_alloc ?_ _) | (with_reducible refine Kd.C_drewN ?_ _) | (with_reducible refine Kd.C_drew ?_))); (case side2 => exact (Kd.R_reads' HO196.out).2.1); rintro e w30 ⟨v199, rfl, ho0, hb⟩; refine ⟨_, rfl, ?_⟩; have n0_ := Aside0.mk (Kd.R_below (by (with_reducible repeat (first | apply Kd.R_alloc | apply Kd.R_drewN | apply Kd.R_drew)); exact HO179.out) hb); have n1_ := Aside0.mk (Kd.R_below (by (with_reducible repeat (first | apply Kd.R_alloc | apply Kd.R_drewN | apply Kd.R_drew)); exact HO183.out) hb); have n2_ := Aside0.mk (Kd.R_below (by (with_reducible repeat (first | apply Kd.R_alloc | apply Kd.R_drewN | apply Kd.R_drew)); exact HO187.out) hb); have n3_ := Aside0.mk (Kd.S_elder' (by (with_reducible repeat (first | apply Kd.S_alloc | apply Kd.S_drewN | apply Kd.S_drew)); exact HO191.out) (Kd.S_base ho0) hb); have n4_ := Aside0.mk (Kd.R_below (by (with_reducible repeat (first | apply Kd.R_alloc | apply Kd.R_drewN | apply Kd.R_drew)); exact HO196.out) hb); have n5_ := Aside0.mk (Kd.S_lower (Kd.S_new' ho0 (Kd.S_lt (by (with_reducible repeat (first | apply Kd.S_alloc | apply Kd.S_drewN | apply Kd.S_drew)); exact HO191.out))) (below_size (by repeat (first | (with_reducible first | exact HB.out | apply below_alloc | apply pw_below_drewN | apply below_drew1 | refine below_set ?_ GE193.out) | exact HB.out)))); have n6_ := Aside0.mk (blk_below (g := gb193) (o := .cells #[.int .u32 t188, .slice Ao26 t189.length co26] 25 (0, 0)) (by (with_reducible repeat (first | refine blk_drewN ?_ _ | refine blk_drew ?_ | refine blk_alloc ?_ _)); exact BK193.out) hb); have n7_ := Aside0.mk (below_step (by repeat (first | (with_reducible first | exact HB.out | apply below_alloc | apply pw_below_drewN | apply below_drew1 | refine below_set ?_ GE193.out) | exact HB.out)) hb); clear HO179; clear HO183; clear HO187; clear HO191; clear HO196; clear BK193; clear HB; have HO179 := n0_; have HO183 := n1_; have HO187 := n2_; have HO191 := n3_; have HO196 := n4_; have HO200 := n5_; have BK193 := n6_; have HB := n7_; clear n0_ n1_ n2_ n3_ n4_ n5_ n6_ n7_; (try clear hb); (try clear hb2); (try clear hk); (try clear hi); (try clear ho0)) | ((with_reducible refine gate_dst (N := 7) rfl ?_); (try (refine gate_guard (by rfl) ?_; dsimp only)); refine box_event ?hg (N := 7) ?hd (cs := #[.int .u32 0, .slice none 0 0]) (t := 25) ?hr ?_; (case hd => rfl); (case hg => rfl); (case hr => first | (go_simp; done) | (go_simp; rfl)); intro gb202 hg w31 hbox hb; have n0_ := Aside0.mk (Kd.R_below (by (with_reducible repeat (first | apply Kd.R_alloc | apply Kd.R_drewN | apply Kd.R_drew)); exact HO179.out) hb); have n1_ := Aside0.mk (Kd.R_below (by (with_reducible repeat (first | apply Kd.R_alloc | apply Kd.R_drewN | apply Kd.R_drew)); exact HO183.out) hb); have n2_ := Aside0.mk (Kd.R_below (by (with_reducible repeat (first | apply Kd.R_alloc | apply Kd.R_drewN | apply Kd.R_drew)); exact HO187.out) hb); have n3_ := Aside0.mk (Kd.S_below (by (with_reducible repeat (first | apply Kd.S_alloc | apply Kd.S_drewN | apply Kd.S_drew)); exact HO191.out) hb); have n4_ := Aside0.mk (Kd.R_below (by (with_reducible repeat (first | apply Kd.R_alloc | apply Kd.R_drewN | apply Kd.R_drew)); exact HO196.out) hb); have n5_ := Aside0.mk (Kd.S_below (by (with_reducible repeat (first | apply Kd.S_alloc | apply Kd.S_drewN | apply Kd.S_drew)); exact HO200.out) hb); have n6_ := Aside0.mk (blk_below (g := gb193) (o := .cells #[.int .u32 t188, .slice Ao26 t189.length co26] 25 (0, 0)) (by (with_reducible repeat (first | refine blk_drewN ?_ _ | refine blk_drew ?_ | refine blk_alloc ?_ _)); exact BK193.out) hb); have n7_ := Aside0.mk (below_step (by repeat (first | (with_reducible first | exact HB.out | apply below_alloc | apply pw_below_drewN | apply below_drew1 | refine below_set ?_ GE193.out) | exact HB.out)) hb); have n8_ := Aside0.mk (hbox); have n9_ := Aside0.mk ((by rw [hg]; exact (below_size (by repeat (first | (with_reducible first | exact HB.out | apply below_alloc | apply pw_below_drewN | apply below_drew1 | refine below_set ?_ GE193.out) | exact HB.out))) : w.heap.size ≤ gb202)); have n10_ := Aside0.mk ((by rw [hg]; exact (below_size (by repeat (first | (with_reducible first | exact HB.out | apply below_alloc | apply pw_below_drewN | apply below_drew1 | refine below_set ?_ GE193.out) | exact HB.out))) : w.heap.size ≤ gb202)); have n11_ := Aside0.mk ((by rw [hg]; exact Nat.ne_of_lt (blk_lt (g := gb193) (o := .cells #[.int .u32 t188, .slice Ao26 t189.length co26] 25 (0, 0)) (by (with_reducible repeat (first | refine blk_drewN ?_ _ | refine blk_drew ?_ | refine blk_alloc ?_ _)); exact BK193.out)) : gb193 ≠ gb202)); have n12_ := Aside0.mk ((by rw [hg]; exact Nat.ne_of_gt (blk_lt (g := gb193) (o := .cells #[.int .u32 t188, .slice Ao26 t189.length co26] 25 (0, 0)) (by (with_reducible repeat (first | refine blk_drewN ?_ _ | refine blk_drew ?_ | refine blk_alloc ?_ _)); exact BK193.out)) : gb202 ≠ gb193)); clear HO179; clear HO183; clear HO187; clear HO191; clear HO196; clear HO200; clear BK193; clear HB; have HO179 := n0_; have HO183 := n1_; have HO187 := n2_; have HO191 := n3_; have HO196 := n4_; have HO200 := n5_; have BK193 := n6_; have HB := n7_; have BK202 := n8_; have GW202 := n9_; have GE202 := n10_; have NB193_202 := n11_; have NB202_193 := n12_; clear n0_ n1_ n2_ n3_ n4_ n5_ n6_ n7_ n8_ n9_ n10_ n11_ n12_; clear hb hbox hg; have hnb32 := NB202_193.out; have hnc32 := NB193_202.out; have hcz33_0 : w31.cell? ⟨gb202, 0, none⟩ = some (.int .u32 0) := (blk_cell BK202.out 0).trans rfl; have hcz33_1 : w31.cell? ⟨gb202, 1, none⟩ = some (.slice none 0 0) := (blk_cell BK202.out 1).trans rfl; have hfz33_0 := blk_frozen BK202.out 0; have hfz33_1 := blk_frozen BK202.out 1; obtain ⟨Ao34, co34, eo34⟩ := Kd.S_slice HO200.out; subst eo34) | ((with_reducible refine gate_dst (N := 34) rfl ?_); (try (refine gate_guard (by rfl) ?_; dsimp only)); refine Kd.R_lit (Kd.int .u8) _ 5 ?hg (N := 34) ?hd (xs := ([1, 0, 0] : List Int)) (inner := [.int .u8 1, .int .u8 0, .int .u8 0]) (ok := fun _ => True) (okp := fun _ => True) ?hr ?hp (fun _ hk => hk) trivial (Below.refl _ _) (Nat.le_refl _) (by simp) ?_; (case hd => rfl); (case hg => rfl); (case hr => first | (go_simp; done) | (go_simp; rfl)); (case hp => exact (Reps.one (show Kd.M (Kd.int .u8) _ _ _ 1 [.int .u8 1] from rfl) (Reps.one (show Kd.M (Kd.int .u8) _ _ _ 0 [.int .u8 0] from rfl) (Reps.one (show Kd.M (Kd.int .u8) _ _ _ 0 [.int .u8 0] from rfl) (Reps.none _ _))))); intro v204 w35 ho36 hb hg_ hnew_; clear hg_ hnew_; (first | rw [← Ny203.out] at ho36 | (simp only [Int.reduceToNat] at ho36; rw [← Ny203.out] at ho36)); have n0_ := Aside0.mk (Kd.R_elder' (by (with_reducible repeat (first | apply Kd.R_alloc | apply Kd.R_drewN | apply Kd.R_drew)); exact (Kd.R_mono (Kd.R_far (p := ⟨gb202, 1, none⟩) (Kd.R_far (p := ⟨gb202, 0, none⟩) (Kd.R_types HO179.out BK202.out (by decide)) (fun _ hk => hk.2) (.int .u32 t197)) (fun _ hk => hk.2) (.slice Ao34 t198.length co34)) (fun _ h_ => h_.1))) (Kd.R_base ho36) hb); have n1_ := Aside0.mk (Kd.R_elder' (by (with_reducible repeat (first | apply Kd.R_alloc | apply Kd.R_drewN | apply Kd.R_drew)); exact (Kd.R_mono (Kd.R_far (p := ⟨gb202, 1, none⟩) (Kd.R_far (p := ⟨gb202, 0, none⟩) (Kd.R_types HO183.out BK202.out (by decide)) (fun _ hk => hk.2) (.int .u32 t197)) (fun _ hk => hk.2) (.slice Ao34 t198.length co34)) (fun _ h_ => h_.1))) (Kd.R_base ho36) hb); have n2_ := Aside0.mk (Kd.R_elder' (by (with_reducible repeat (first | apply Kd.R_alloc | apply Kd.R_drewN | apply Kd.R_drew)); exact (Kd.R_mono (Kd.R_far (p := ⟨gb202, 1, none⟩) (Kd.R_far (p := ⟨gb202, 0, none⟩) (Kd.R_types HO187.out BK202.out (by decide)) (fun _ hk => hk.2) (.int .u32 t197)) (fun _ hk => hk.2) (.slice Ao34 t198.length co34)) (fun _ h_ => h_.1))) (Kd.R_base ho36) hb); have n3_ := Aside0.mk (Kd.S_below (by (with_reducible repeat (first | apply Kd.S_alloc | apply Kd.S_drewN | apply Kd.S_drew)); exact (Kd.S_mono (Kd.S_far (p := ⟨gb202, 1, none⟩) (Kd.S_far (p := ⟨gb202, 0, none⟩) (Kd.S_types HO191.out BK202.out (by decide)) (fun _ hk => hk.2) (.int .u32 t197)) (fun _ hk => hk.2) (.slice Ao34 t198.length co34)) (fun _ h_ => h_.1))) hb); have n4_ := Aside0.mk (Kd.R_elder' (by (with_reducible repeat (first | apply Kd.R_alloc | apply Kd.R_drewN | apply Kd.R_drew)); exact (Kd.R_mono (Kd.R_far (p := ⟨gb202, 1, none⟩) (Kd.R_far (p := ⟨gb202, 0, none⟩) (Kd.R_types HO196.out BK202.out (by decide)) (fun _ hk => hk.2) (.int .u32 t197)) (fun _ hk => hk.2) (.slice Ao34 t198.length co34)) (fun _ h_ => h_.1))) (Kd.R_base ho36) hb); have n5_ := Aside0.mk (Kd.S_below (by (with_reducible repeat (first | apply Kd.S_alloc | apply Kd.S_drewN | apply Kd.S_drew)); exact (Kd.S_mono (Kd.S_far (p := ⟨gb202, 1, none⟩) (Kd.S_far (p := ⟨gb202, 0, none⟩) (Kd.S_types HO200.out BK202.out (by decide)) (fun _ hk => hk.2) (.int .u32 t197)) (fun _ hk => hk.2) (.slice Ao34 t198.length co34)) (fun _ h_ => h_.1))) hb); have n6_ := Aside0.mk (Kd.R_lower (Kd.R_new' (Kd.R_new' (Kd.R_new' (Kd.R_new' ho36 (Kd.R_lt (by (with_reducible repeat (first | apply Kd.R_alloc | apply Kd.R_drewN | apply Kd.R_drew)); exact (Kd.R_mono (Kd.R_far (p := ⟨gb202, 1, none⟩) (Kd.R_far (p := ⟨gb202, 0, none⟩) (Kd.R_types HO179.out BK202.out (by decide)) (fun _ hk => hk.2) (.int .u32 t197)) (fun _ hk => hk.2) (.slice Ao34 t198.length co34)) (fun _ h_ => h_.1))))) (Kd.R_lt (by (with_reducible repeat (first | apply Kd.R_alloc | apply Kd.R_drewN | apply Kd.R_drew)); exact (Kd.R_mono (Kd.R_far (p := ⟨gb202, 1, none⟩) (Kd.R_far (p := ⟨gb202, 0, none⟩) (Kd.R_types HO183.out BK202.out (by decide)) (fun _ hk => hk.2) (.int .u32 t197)) (fun _ hk => hk.2) (.slice Ao34 t198.length co34)) (fun _ h_ => h_.1))))) (Kd.R_lt (by (with_reducible repeat (first | apply Kd.R_alloc | apply Kd.R_drewN | apply Kd.R_drew)); exact (Kd.R_mono (Kd.R_far (p := ⟨gb202, 1, none⟩) (Kd.R_far (p := ⟨gb202, 0, none⟩) (Kd.R_types HO187.out BK202.out (by decide)) (fun _ hk => hk.2) (.int .u32 t197)) (fun _ hk => hk.2) (.slice Ao34 t198.length co34)) (fun _ h_ => h_.1))))) (Kd.R_lt (by (with_reducible repeat (first | apply Kd.R_alloc | apply Kd.R_drewN | apply Kd.R_drew)); exact (Kd.R_mono (Kd.R_far (p := ⟨gb202, 1, none⟩) (Kd.R_far (p := ⟨gb202, 0, none⟩) (Kd.R_types HO196.out BK202.out (by decide)) (fun _ hk => hk.2) (.int .u32 t197)) (fun _ hk => hk.2) (.slice Ao34 t198.length co34)) (fun _ h_ => h_.1))))) (below_size (by repeat (first | (with_reducible first | exact HB.out | apply below_alloc | apply pw_below_drewN | apply below_drew1 | refine below_set ?_ GE193.out | refine below_set ?_ GE202.out) | exact HB.out)))); have n7_ := Aside0.mk (blk_below (g := gb193) (o := .cells #[.int .u32 t188, .slice Ao26 t189.length co26] 25 (0, 0)) (by (with_reducible repeat (first | refine blk_drewN ?_ _ | refine blk_drew ?_ | refine blk_alloc ?_ _)); refine blk_far ?_ NB193_202.out _; (with_reducible repeat (first | refine blk_drewN ?_ _ | refine blk_drew ?_ | refine blk_alloc ?_ _)); refine blk_far ?_ NB193_202.out _; (with_reducible repeat (first | refine blk_drewN ?_ _ | refine blk_drew ?_ | refine blk_alloc ?_ _)); exact BK193.out) hb); have n8_ := Aside0.mk (blk_below (g := gb202) (o := .cells #[.int .u32 t197, .slice Ao34 t198.length co34] 25 (0, 0)) (by (with_reducible repeat (first | refine blk_drewN ?_ _ | refine blk_drew ?_ | refine blk_alloc ?_ _)); refine blk_put (cs := #[.int .u32 t197, .slice none 0 0]) ?_ 1 _ rfl; (with_reducible repeat (first | refine blk_drewN ?_ _ | refine blk_drew ?_ | refine blk_alloc ?_ _)); refine blk_put (cs := #[.int .u32 0, .slice none 0 0]) ?_ 0 _ rfl; (with_reducible repeat (first | refine blk_drewN ?_ _ | refine blk_drew ?_ | refine blk_alloc ?_ _)); exact BK202.out) hb); have n9_ := Aside0.mk (below_step (by repeat (first | (with_reducible first | exact HB.out | apply below_alloc | apply pw_below_drewN | apply below_drew1 | refine below_set ?_ GE193.out | refine below_set ?_ GE202.out) | exact HB.out)) hb); clear HO179; clear HO183; clear HO187; clear HO191; clear HO196; clear HO200; clear BK193; clear BK202; clear HB; have HO179 := n0_; have HO183 := n1_; have HO187 := n2_; have HO191 := n3_; have HO196 := n4_; have HO200 := n5_; have HO205 := n6_; have BK193 := n7_; have BK202 := n8_; have HB := n9_; clear n0_ n1_ n2_ n3_ n4_ n5_ n6_ n7_ n8_ n9_; clear hb ho36; obtain ⟨Ao37, co37, eo37⟩ := Kd.R_slice HO205.out; subst eo37) | ((with_reducible refine gate_callee (f := 28) rfl ?_); refine goesL_ (some 35) rfl rfl Try.func28 (by kernel_rfl) rfl #[.slice Ao37 y203.length co37] rfl (by (try simp only [List.map_toArray, List.map_cons, List.map_nil]); first | done | rfl | (simp only [List.length_drop, List.length_take]; rfl) | (rw [IntKind.wrap_u64, Int.emod_eq_of_lt (by omega) (by omega)]; rfl)) ?_; (with_reducible refine (codec_Decode.calls _ _ y203 t206 t207 t210 _ ?side1 ?side2 A5.out).mono ?_); (case side1 => repeat (first | exact (Kd.R_reads' HO205.out).2.2 | (with_reducible refine Kd.C_alloc ?_ _) | (with_reducible refine Kd.C_drewN ?_ _) | (with_reducible refine Kd.C_drew ?_))); (case side2 => exact (Kd.R_reads' HO205.out).2.1); rintro e w38 ⟨v208, rfl, ho0, hb⟩; refine ⟨_, rfl, ?_⟩; have n0_ := Aside0.mk (Kd.R_below (by (with_reducible repeat (first | apply Kd.R_alloc | apply Kd.R_drewN | apply Kd.R_drew)); exact HO179.out) hb); have n1_ := Aside0.mk (Kd.R_below (by (with_reducible repeat (first | apply Kd.R_alloc | apply Kd.R_drewN | apply Kd.R_drew)); exact HO183.out) hb); have n2_ := Aside0.mk (Kd.R_below (by (with_reducible repeat (first | apply Kd.R_alloc | apply Kd.R_drewN | apply Kd.R_drew)); exact HO187.out) hb); have n3_ := Aside0.mk (Kd.S_elder' (by (with_reducible repeat (first | apply Kd.S_alloc | apply Kd.S_drewN | apply Kd.S_drew)); exact HO191.out) (Kd.S_base ho0) hb); have n4_ := Aside0.mk (Kd.R_below (by (with_reducible repeat (first | apply Kd.R_alloc | apply Kd.R_drewN | apply Kd.R_drew)); exact HO196.out) hb); have n5_ := Aside0.mk (Kd.S_elder' (by (with_reducible repeat (first | apply Kd.S_alloc | apply Kd.S_drewN | apply Kd.S_drew)); exact HO200.out) (Kd.S_base ho0) hb); have n6_ := Aside0.mk (Kd.R_below (by (with_reducible repeat (first | apply Kd.R_alloc | apply Kd.R_drewN | apply Kd.R_drew)); exact HO205.out) hb); have n7_ := Aside0.mk (Kd.S_lower (Kd.S_new' (Kd.S_new' ho0 (Kd.S_lt (by (with_reducible repeat (first | apply Kd.S_alloc | apply Kd.S_drewN | apply Kd.S_drew)); exact HO191.out))) (Kd.S_lt (by (with_reducible repeat (first | apply Kd.S_alloc | apply Kd.S_drewN | apply Kd.S_drew)); exact HO200.out))) (below_size (by repeat (first | (with_reducible first | exact HB.out | apply below_alloc | apply pw_below_drewN | apply below_drew1 | refine below_set ?_ GE193.out | refine below_set ?_ GE202.out) | exact HB.out)))); have n8_ := Aside0.mk (blk_below (g := gb193) (o := .cells #[.int .u32 t188, .slice Ao26 t189.length co26] 25 (0, 0)) (by (with_reducible repeat (first | refine blk_drewN ?_ _ | refine blk_drew ?_ | refine blk_alloc ?_ _)); exact BK193.out) hb); have n9_ := Aside0.mk (blk_below (g := gb202) (o := .cells #[.int .u32 t197, .slice Ao34 t198.length co34] 25 (0, 0)) (by (with_reducible repeat (first | refine blk_drewN ?_ _ | refine blk_drew ?_ | refine blk_alloc ?_ _)); exact BK202.out) hb); have n10_ := Aside0.mk (below_step (by repeat (first | (with_reducible first | exact HB.out | apply below_alloc | apply pw_below_drewN | apply below_drew1 | refine below_set ?_ GE193.out | refine below_set ?_ GE202.out) | exact HB.out)) hb); clear HO179; clear HO183; clear HO187; clear HO191; clear HO196; clear HO200; clear HO205; clear BK193; clear BK202; clear HB; have HO179 := n0_; have HO183 := n1_; have HO187 := n2_; have HO191 := n3_; have HO196 := n4_; have HO200 := n5_; have HO205 := n6_; have HO209 := n7_; have BK193 := n8_; have BK202 := n9_; have HB := n10_; clear n0_ n1_ n2_ n3_ n4_ n5_ n6_ n7_ n8_ n9_ n10_; (try clear hb); (try clear hb2); (try clear hk); (try clear hi); (try clear ho0)) | ((with_reducible refine gate_dst (N := 9) rfl ?_); (try (refine gate_guard (by rfl) ?_; dsimp only)); refine box_event ?hg (N := 9) ?hd (cs := #[.int .u32 0, .slice none 0 0]) (t := 25) ?hr ?_; (case hd => rfl); (case hg => rfl); (case hr => first | (go_simp; done) | (go_simp; rfl)); intro gb211 hg w39 hbox hb; have n0_ := Aside0.mk (Kd.R_below (by (with_reducible repeat (first | apply Kd.R_alloc | apply Kd.R_drewN | apply Kd.R_drew)); exact HO179.out) hb); have n1_ := Aside0.mk (Kd.R_below (by (with_reducible repeat (first | apply Kd.R_alloc | apply Kd.R_drewN | apply Kd.R_drew)); exact HO183.out) hb); have n2_ := Aside0.mk (Kd.R_below (by (with_reducible repeat (first | apply Kd.R_alloc | apply Kd.R_drewN | apply Kd.R_drew)); exact HO187.out) hb); have n3_ := Aside0.mk (Kd.S_below (by (with_reducible repeat (first | apply Kd.S_alloc | apply Kd.S_drewN | apply Kd.S_drew)); exact HO191.out) hb); have n4_ := Aside0.mk (Kd.R_below (by (with_reducible repeat (first | apply Kd.R_alloc | apply Kd.R_drewN | apply Kd.R_drew)); exact HO196.out) hb); have n5_ := Aside0.mk (Kd.S_below (by (with_reducible repeat (first | apply Kd.S_alloc | apply Kd.S_drewN | apply Kd.S_drew)); exact HO200.out) hb); have n6_ := Aside0.mk (Kd.R_below (by (with_reducible repeat (first | apply Kd.R_alloc | apply Kd.R_drewN | apply Kd.R_drew)); exact HO205.out) hb); have n7_ := Aside0.mk (Kd.S_below (by (with_reducible repeat (first | apply Kd.S_alloc | apply Kd.S_drewN | apply Kd.S_drew)); exact HO209.out) hb); have n8_ := Aside0.mk (blk_below (g := gb193) (o := .cells #[.int .u32 t188, .slice Ao26 t189.length co26] 25 (0, 0)) (by (with_reducible repeat (first | refine blk_drewN ?_ _ | refine blk_drew ?_ | refine blk_alloc ?_ _)); exact BK193.out) hb); have n9_ := Aside0.mk (blk_below (g := gb202) (o := .cells #[.int .u32 t197, .slice Ao34 t198.length co34] 25 (0, 0)) (by (with_reducible repeat (first | refine blk_drewN ?_ _ | refine blk_drew ?_ | refine blk_alloc ?_ _)); exact BK202.out) hb); have n10_ := Aside0.mk (below_step (by repeat (first | (with_reducible first | exact HB.out | apply below_alloc | apply pw_below_drewN | apply below_drew1 | refine below_set ?_ GE193.out | refine below_set ?_ GE202.out) | exact HB.out)) hb); have n11_ := Aside0.mk (hbox); have n12_ := Aside0.mk ((by rw [hg]; exact (below_size (by repeat (first | (with_reducible first | exact HB.out | apply below_alloc | apply pw_below_drewN | apply below_drew1 | refine below_set ?_ GE193.out | refine below_set ?_ GE202.out) | exact HB.out))) : w.heap.size ≤ gb211)); have n13_ := Aside0.mk ((by rw [hg]; exact (below_size (by repeat (first | (with_reducible first | exact HB.out | apply below_alloc | apply pw_below_drewN | apply below_drew1 | refine below_set ?_ GE193.out | refine below_set ?_ GE202.out) | exact HB.out))) : w.heap.size ≤ gb211)); have n14_ := Aside0.mk ((by rw [hg]; exact Nat.ne_of_lt (blk_lt (g := gb193) (o := .cells #[.int .u32 t188, .slice Ao26 t189.length co26] 25 (0, 0)) (by (with_reducible repeat (first | refine blk_drewN ?_ _ | refine blk_drew ?_ | refine blk_alloc ?_ _)); exact BK193.out)) : gb193 ≠ gb211)); have n15_ := Aside0.mk ((by rw [hg]; exact Nat.ne_of_gt (blk_lt (g := gb193) (o := .cells #[.int .u32 t188, .slice Ao26 t189.length co26] 25 (0, 0)) (by (with_reducible repeat (first | refine blk_drewN ?_ _ | refine blk_drew ?_ | refine blk_alloc ?_ _)); exact BK193.out)) : gb211 ≠ gb193)); have n16_ := Aside0.mk ((by rw [hg]; exact Nat.ne_of_lt (blk_lt (g := gb202) (o := .cells #[.int .u32 t197, .slice Ao34 t198.length co34] 25 (0, 0)) (by (with_reducible repeat (first | refine blk_drewN ?_ _ | refine blk_drew ?_ | refine blk_alloc ?_ _)); exact BK202.out)) : gb202 ≠ gb211)); have n17_ := Aside0.mk ((by rw [hg]; exact Nat.ne_of_gt (blk_lt (g := gb202) (o := .cells #[.int .u32 t197, .slice Ao34 t198.length co34] 25 (0, 0)) (by (with_reducible repeat (first | refine blk_drewN ?_ _ | refine blk_drew ?_ | refine blk_alloc ?_ _)); exact BK202.out)) : gb211 ≠ gb202)); clear HO179; clear HO183; clear HO187; clear HO191; clear HO196; clear HO200; clear HO205; clear HO209; clear BK193; clear BK202; clear HB; have HO179 := n0_; have HO183 := n1_; have HO187 := n2_; have HO191 := n3_; have HO196 := n4_; have HO200 := n5_; have HO205 := n6_; have HO209 := n7_; have BK193 := n8_; have BK202 := n9_; have HB := n10_; have BK211 := n11_; have GW211 := n12_; have GE211 := n13_; have NB193_211 := n14_; have NB211_193 := n15_; have NB202_211 := n16_; have NB211_202 := n17_; clear n0_ n1_ n2_ n3_ n4_ n5_ n6_ n7_ n8_ n9_ n10_ n11_ n12_ n13_ n14_ n15_ n16_ n17_; clear hb hbox hg; have hnb40 := NB211_193.out; have hnc40 := NB193_211.out; have hnb41 := NB211_202.out; have hnc41 := NB202_211.out; have hcz42_0 : w39.cell? ⟨gb211, 0, none⟩ = some (.int .u32 0) := (blk_cell BK211.out 0).trans rfl; have hcz42_1 : w39.cell? ⟨gb211, 1, none⟩ = some (.slice none 0 0) := (blk_cell BK211.out 1).trans rfl; have hfz42_0 := blk_frozen BK211.out 0; have hfz42_1 := blk_frozen BK211.out 1; obtain ⟨Ao43, co43, eo43⟩ := Kd.S_slice HO209.out; subst eo43) | ((with_reducible refine gate_dst (N := 41) rfl ?_); (try (refine gate_guard (by rfl) ?_; dsimp only)); refine Kd.R_lit k57 _ 57 ?hg (N := 41) ?hd (xs := ([(⟨(⟨2, (⟨#[97]⟩ : ByteArray)⟩ : S28), (⟨#[98, 99]⟩ : ByteArray)⟩ : S57)] : List (S57))) (inner := [.int .u8 2, .string (⟨#[97]⟩ : ByteArray), .string (⟨#[98, 99]⟩ : ByteArray)]) (ok := fun _ => True) (okp := fun _ => True) ?hr ?hp (fun _ hk => hk) trivial (Below.refl _ _) (Nat.le_refl _) (by simp) ?_; (case hd => rfl); (case hg => rfl); (case hr => first | (go_simp; done) | (go_simp; rfl)); (case hp => exact (Reps.c3 (show Kd.M k57 _ _ _ (⟨(⟨2, (⟨#[97]⟩ : ByteArray)⟩ : S28), (⟨#[98, 99]⟩ : ByteArray)⟩ : S57) [.int .u8 2, .string (⟨#[97]⟩ : ByteArray), .string (⟨#[98, 99]⟩ : ByteArray)] from (k57_mkM _ _ _ (⟨(⟨2, (⟨#[97]⟩ : ByteArray)⟩ : S28), (⟨#[98, 99]⟩ : ByteArray)⟩ : S57) )) (Reps.none _ _))); intro v213 w44 ho45 hb hg_ hnew_; clear hg_ hnew_; (first | rw [← Ny212.out] at ho45 | (simp only [Int.reduceToNat] at ho45; rw [← Ny212.out] at ho45)); have n0_ := Aside0.mk (Kd.R_below (by (with_reducible repeat (first | apply Kd.R_alloc | apply Kd.R_drewN | apply Kd.R_drew)); exact (Kd.R_mono (Kd.R_far (p := ⟨gb211, 1, none⟩) (Kd.R_far (p := ⟨gb211, 0, none⟩) (Kd.R_types HO179.out BK211.out (by decide)) (fun _ hk => hk.2) (.int .u32 t206)) (fun _ hk => hk.2) (.slice Ao43 t207.length co43)) (fun _ h_ => h_.1))) hb); have n1_ := Aside0.mk (Kd.R_below (by (with_reducible repeat (first | apply Kd.R_alloc | apply Kd.R_drewN | apply Kd.R_drew)); exact (Kd.R_mono (Kd.R_far (p := ⟨gb211, 1, none⟩) (Kd.R_far (p := ⟨gb211, 0, none⟩) (Kd.R_types HO183.out BK211.out (by decide)) (fun _ hk => hk.2) (.int .u32 t206)) (fun _ hk => hk.2) (.slice Ao43 t207.length co43)) (fun _ h_ => h_.1))) hb); have n2_ := Aside0.mk (Kd.R_below (by (with_reducible repeat (first | apply Kd.R_alloc | apply Kd.R_drewN | apply Kd.R_drew)); exact (Kd.R_mono (Kd.R_far (p := ⟨gb211, 1, none⟩) (Kd.R_far (p := ⟨gb211, 0, none⟩) (Kd.R_types HO187.out BK211.out (by decide)) (fun _ hk => hk.2) (.int .u32 t206)) (fun _ hk => hk.2) (.slice Ao43 t207.length co43)) (fun _ h_ => h_.1))) hb); have n3_ := Aside0.mk (Kd.S_below (by (with_reducible repeat (first | apply Kd.S_alloc | apply Kd.S_drewN | apply Kd.S_drew)); exact (Kd.S_mono (Kd.S_far (p := ⟨gb211, 1, none⟩) (Kd.S_far (p := ⟨gb211, 0, none⟩) (Kd.S_types HO191.out BK211.out (by decide)) (fun _ hk => hk.2) (.int .u32 t206)) (fun _ hk => hk.2) (.slice Ao43 t207.length co43)) (fun _ h_ => h_.1))) hb); have n4_ := Aside0.mk (Kd.R_below (by (with_reducible repeat (first | apply Kd.R_alloc | apply Kd.R_drewN | apply Kd.R_drew)); exact (Kd.R_mono (Kd.R_far (p := ⟨gb211, 1, none⟩) (Kd.R_far (p := ⟨gb211, 0, none⟩) (Kd.R_types HO196.out BK211.out (by decide)) (fun _ hk => hk.2) (.int .u32 t206)) (fun _ hk => hk.2) (.slice Ao43 t207.length co43)) (fun _ h_ => h_.1))) hb); have n5_ := Aside0.mk (Kd.S_below (by (with_reducible repeat (first | apply Kd.S_alloc | apply Kd.S_drewN | apply Kd.S_drew)); exact (Kd.S_mono (Kd.S_far (p := ⟨gb211, 1, none⟩) (Kd.S_far (p := ⟨gb211, 0, none⟩) (Kd.S_types HO200.out BK211.out (by decide)) (fun _ hk => hk.2) (.int .u32 t206)) (fun _ hk => hk.2) (.slice Ao43 t207.length co43)) (fun _ h_ => h_.1))) hb); have n6_ := Aside0.mk (Kd.R_below (by (with_reducible repeat (first | apply Kd.R_alloc | apply Kd.R_drewN | apply Kd.R_drew)); exact (Kd.R_mono (Kd.R_far (p := ⟨gb211, 1, none⟩) (Kd.R_far (p := ⟨gb211, 0, none⟩) (Kd.R_types HO205.out BK211.out (by decide)) (fun _ hk => hk.2) (.int .u32 t206)) (fun _ hk => hk.2) (.slice Ao43 t207.length co43)) (fun _ h_ => h_.1))) hb); have n7_ := Aside0.mk (Kd.S_below (by (with_reducible repeat (first | apply Kd.S_alloc | apply Kd.S_drewN | apply Kd.S_drew)); exact (Kd.S_mono (Kd.S_far (p := ⟨gb211, 1, none⟩) (Kd.S_far (p := ⟨gb211, 0, none⟩) (Kd.S_types HO209.out BK211.out (by decide)) (fun _ hk => hk.2) (.int .u32 t206)) (fun _ hk => hk.2) (.slice Ao43 t207.length co43)) (fun _ h_ => h_.1))) hb); have n8_ := Aside0.mk (Kd.R_lower ho45 (below_size (by repeat (first | (with_reducible first | exact HB.out | apply below_alloc | apply pw_below_drewN | apply below_drew1 | refine below_set ?_ GE193.out | refine below_set ?_ GE202.out | refine below_set ?_ GE211.out) | exact HB.out)))); have n9_ := Aside0.mk (blk_below (g := gb193) (o := .cells #[.int .u32 t188, .slice Ao26 t189.length co26] 25 (0, 0)) (by (with_reducible repeat (first | refine blk_drewN ?_ _ | refine blk_drew ?_ | refine blk_alloc ?_ _)); refine blk_far ?_ NB193_211.out _; (with_reducible repeat (first | refine blk_drewN ?_ _ | refine blk_drew ?_ | refine blk_alloc ?_ _)); refine blk_far ?_ NB193_211.out _; (with_reducible repeat (first | refine blk_drewN ?_ _ | refine blk_drew ?_ | refine blk_alloc ?_ _)); exact BK193.out) hb); have n10_ := Aside0.mk (blk_below (g := gb202) (o := .cells #[.int .u32 t197, .slice Ao34 t198.length co34] 25 (0, 0)) (by (with_reducible repeat (first | refine blk_drewN ?_ _ | refine blk_drew ?_ | refine blk_alloc ?_ _)); refine blk_far ?_ NB202_211.out _; (with_reducible repeat (first | refine blk_drewN ?_ _ | refine blk_drew ?_ | refine blk_alloc ?_ _)); refine blk_far ?_ NB202_211.out _; (with_reducible repeat (first | refine blk_drewN ?_ _ | refine blk_drew ?_ | refine blk_alloc ?_ _)); exact BK202.out) hb); have n11_ := Aside0.mk (blk_below (g := gb211) (o := .cells #[.int .u32 t206, .slice Ao43 t207.length co43] 25 (0, 0)) (by (with_reducible repeat (first | refine blk_drewN ?_ _ | refine blk_drew ?_ | refine blk_alloc ?_ _)); refine blk_put (cs := #[.int .u32 t206, .slice none 0 0]) ?_ 1 _ rfl; (with_reducible repeat (first | refine blk_drewN ?_ _ | refine blk_drew ?_ | refine blk_alloc ?_ _)); refine blk_put (cs := #[.int .u32 0, .slice none 0 0]) ?_ 0 _ rfl; (with_reducible repeat (first | refine blk_drewN ?_ _ | refine blk_drew ?_ | refine blk_alloc ?_ _)); exact BK211.out) hb); have n12_ := Aside0.mk (below_step (by repeat (first | (with_reducible first | exact HB.out | apply below_alloc | apply pw_below_drewN | apply below_drew1 | refine below_set ?_ GE193.out | refine below_set ?_ GE202.out | refine below_set ?_ GE211.out) | exact HB.out)) hb); clear HO179; clear HO183; clear HO187; clear HO191; clear HO196; clear HO200; clear HO205; clear HO209; clear BK193; clear BK202; clear BK211; clear HB; have HO179 := n0_; have HO183 := n1_; have HO187 := n2_; have HO191 := n3_; have HO196 := n4_; have HO200 := n5_; have HO205 := n6_; have HO209 := n7_; have HO214 := n8_; have BK193 := n9_; have BK202 := n10_; have BK211 := n11_; have HB := n12_; clear n0_ n1_ n2_ n3_ n4_ n5_ n6_ n7_ n8_ n9_ n10_ n11_ n12_; clear hb ho45; obtain ⟨Ao46, co46, eo46⟩ := Kd.R_slice HO214.out; subst eo46) | ((with_reducible refine gate_callee (f := 17) rfl ?_); refine goesL_ (some 42) rfl rfl Try.func17 (by kernel_rfl) rfl #[.slice Ao46 y212.length co46] rfl (by (try simp only [List.map_toArray, List.map_cons, List.map_nil]); first | done | rfl | (simp only [List.length_drop, List.length_take]; rfl) | (rw [IntKind.wrap_u64, Int.emod_eq_of_lt (by omega) (by omega)]; rfl)) ?_; (with_reducible refine (codec_EncodeRows.calls k _ _ y212 t215 t216 _ ?side1 ?side2 A6.out).mono ?_); (case side1 => repeat (first | exact (Kd.R_reads' HO214.out).2.2 | (with_reducible refine Kd.C_alloc ?_ _) | (with_reducible refine Kd.C_drewN ?_ _) | (with_reducible refine Kd.C_drew ?_))); (case side2 => exact (Kd.R_reads' HO214.out).2.1); rintro e w47 ⟨v217, rfl, ho0, hb⟩; refine ⟨_, rfl, ?_⟩; have n0_ := Aside0.mk (Kd.R_elder' (by (with_reducible repeat (first | apply Kd.R_alloc | apply Kd.R_drewN | apply Kd.R_drew)); exact HO179.out) (Kd.R_base ho0) hb); have n1_ := Aside0.mk (Kd.R_elder' (by (with_reducible repeat (first | apply Kd.R_alloc | apply Kd.R_drewN | apply Kd.R_drew)); exact HO183.out) (Kd.R_base ho0) hb); have n2_ := Aside0.mk (Kd.R_elder' (by (with_reducible repeat (first | apply Kd.R_alloc | apply Kd.R_drewN | apply Kd.R_drew)); exact HO187.out) (Kd.R_base ho0) hb); have n3_ := Aside0.mk (Kd.S_below (by (with_reducible repeat (first | apply Kd.S_alloc | apply Kd.S_drewN | apply Kd.S_drew)); exact HO191.out) hb); have n4_ := Aside0.mk (Kd.R_elder' (by (with_reducible repeat (first | apply Kd.R_alloc | apply Kd.R_drewN | apply Kd.R_drew)); exact HO196.out) (Kd.R_base ho0) hb); have n5_ := Aside0.mk (Kd.S_below (by (with_reducible repeat (first | apply Kd.S_alloc | apply Kd.S_drewN | apply Kd.S_drew)); exact HO200.out) hb); have n6_ := Aside0.mk (Kd.R_elder' (by (with_reducible repeat (first | apply Kd.R_alloc | apply Kd.R_drewN | apply Kd.R_drew)); exact HO205.out) (Kd.R_base ho0) hb); have n7_ := Aside0.mk (Kd.S_below (by (with_reducible repeat (first | apply Kd.S_alloc | apply Kd.S_drewN | apply Kd.S_drew)); exact HO209.out) hb); have n8_ := Aside0.mk (Kd.R_below (by (with_reducible repeat (first | apply Kd.R_alloc | apply Kd.R_drewN | apply Kd.R_drew)); exact HO214.out) hb); have n9_ := Aside0.mk (Kd.R_lower (Kd.R_new' (Kd.R_new' (Kd.R_new' (Kd.R_new' (Kd.R_new' ho0 (Kd.R_lt (by (with_reducible repeat (first | apply Kd.R_alloc | apply Kd.R_drewN | apply Kd.R_drew)); exact HO179.out))) (Kd.R_lt (by (with_reducible repeat (first | apply Kd.R_alloc | apply Kd.R_drewN | apply Kd.R_drew)); exact HO183.out))) (Kd.R_lt (by (with_reducible repeat (first | apply Kd.R_alloc | apply Kd.R_drewN | apply Kd.R_drew)); exact HO187.out))) (Kd.R_lt (by (with_reducible repeat (first | apply Kd.R_alloc | apply Kd.R_drewN | apply Kd.R_drew)); exact HO196.out))) (Kd.R_lt (by (with_reducible repeat (first | apply Kd.R_alloc | apply Kd.R_drewN | apply Kd.R_drew)); exact HO205.out))) (below_size (by repeat (first | (with_reducible first | exact HB.out | apply below_alloc | apply pw_below_drewN | apply below_drew1 | refine below_set ?_ GE193.out | refine below_set ?_ GE202.out | refine below_set ?_ GE211.out) | exact HB.out)))); have n10_ := Aside0.mk (blk_below (g := gb193) (o := .cells #[.int .u32 t188, .slice Ao26 t189.length co26] 25 (0, 0)) (by (with_reducible repeat (first | refine blk_drewN ?_ _ | refine blk_drew ?_ | refine blk_alloc ?_ _)); exact BK193.out) hb); have n11_ := Aside0.mk (blk_below (g := gb202) (o := .cells #[.int .u32 t197, .slice Ao34 t198.length co34] 25 (0, 0)) (by (with_reducible repeat (first | refine blk_drewN ?_ _ | refine blk_drew ?_ | refine blk_alloc ?_ _)); exact BK202.out) hb); have n12_ := Aside0.mk (blk_below (g := gb211) (o := .cells #[.int .u32 t206, .slice Ao43 t207.length co43] 25 (0, 0)) (by (with_reducible repeat (first | refine blk_drewN ?_ _ | refine blk_drew ?_ | refine blk_alloc ?_ _)); exact BK211.out) hb); have n13_ := Aside0.mk (below_step (by repeat (first | (with_reducible first | exact HB.out | apply below_alloc | apply pw_below_drewN | apply below_drew1 | refine below_set ?_ GE193.out | refine below_set ?_ GE202.out | refine below_set ?_ GE211.out) | exact HB.out)) hb); clear HO179; clear HO183; clear HO187; clear HO191; clear HO196; clear HO200; clear HO205; clear HO209; clear HO214; clear BK193; clear BK202; clear BK211; clear HB; have HO179 := n0_; have HO183 := n1_; have HO187 := n2_; have HO191 := n3_; have HO196 := n4_; have HO200 := n5_; have HO205 := n6_; have HO209 := n7_; have HO214 := n8_; have HO218 := n9_; have BK193 := n10_; have BK202 := n11_; have BK211 := n12_; have HB := n13_; clear n0_ n1_ n2_ n3_ n4_ n5_ n6_ n7_ n8_ n9_ n10_ n11_ n12_ n13_; (try clear hb); (try clear hb2); (try clear hk); (try clear hi); (try clear ho0); have hcv48 := own_string (P := Try.prog) Try.underlying32 Try.underlying5 Try.underlying9 (Kd.own_of_R HO179.out); have hcv49 := fun nq_ => own_string (P := Try.prog) Try.underlying32 Try.underlying5 Try.underlying9 (Kd.own_of_R (Kd.R_drewN HO179.out nq_)); have hcz50_0 : w47.cell? ⟨gb193, 0, none⟩ = some (.int .u32 t188) := (blk_cell BK193.out 0).trans rfl; have hcz50_1 : w47.cell? ⟨gb193, 1, none⟩ = some (.slice Ao26 t189.length co26) := (blk_cell BK193.out 1).trans rfl; have hfz50_0 := blk_frozen BK193.out 0; have hfz50_1 := blk_frozen BK193.out 1; have hcv51 := own_string (P := Try.prog) Try.underlying32 Try.underlying5 Try.underlying9 (Kd.own_of_R HO218.out); have hcv52 := fun nq_ => own_string (P := Try.prog) Try.underlying32 Try.underlying5 Try.underlying9 (Kd.own_of_R (Kd.R_drewN HO218.out nq_))) | (go_at_call 22; (with_reducible refine (codec_Less.calls k 1 (⟨#[122]⟩ : ByteArray) 2 (⟨#[97]⟩ : ByteArray) t219 _ A17.out).mono ?_); rintro e w53 ⟨rfl, hb⟩; have n0_ := Aside0.mk (Kd.R_below (by (with_reducible repeat (first | apply Kd.R_alloc | apply Kd.R_drewN | apply Kd.R_drew)); exact HO179.out) hb); have n1_ := Aside0.mk (Kd.R_below (by (with_reducible repeat (first | apply Kd.R_alloc | apply Kd.R_drewN | apply Kd.R_drew)); exact HO183.out) hb); have n2_ := Aside0.mk (Kd.R_below (by (with_reducible repeat (first | apply Kd.R_alloc | apply Kd.R_drewN | apply Kd.R_drew)); exact HO187.out) hb); have n3_ := Aside0.mk (Kd.S_below (by (with_reducible repeat (first | apply Kd.S_alloc | apply Kd.S_drewN | apply Kd.S_drew)); exact HO191.out) hb); have n4_ := Aside0.mk (Kd.R_below (by (with_reducible repeat (first | apply Kd.R_alloc | apply Kd.R_drewN | apply Kd.R_drew)); exact HO196.out) hb); have n5_ := Aside0.mk (Kd.S_below (by (with_reducible repeat (first | apply Kd.S_alloc | apply Kd.S_drewN | apply Kd.S_drew)); exact HO200.out) hb); have n6_ := Aside0.mk (Kd.R_below (by (with_reducible repeat (first | apply Kd.R_alloc | apply Kd.R_drewN | apply Kd.R_drew)); exact HO205.out) hb); have n7_ := Aside0.mk (Kd.S_below (by (with_reducible repeat (first | apply Kd.S_alloc | apply Kd.S_drewN | apply Kd.S_drew)); exact HO209.out) hb); have n8_ := Aside0.mk (Kd.R_below (by (with_reducible repeat (first | apply Kd.R_alloc | apply Kd.R_drewN | apply Kd.R_drew)); exact HO214.out) hb); have n9_ := Aside0.mk (Kd.R_below (by (with_reducible repeat (first | apply Kd.R_alloc | apply Kd.R_drewN | apply Kd.R_drew)); exact HO218.out) hb); have n10_ := Aside0.mk (blk_below (g := gb193) (o := .cells #[.int .u32 t188, .slice Ao26 t189.length co26] 25 (0, 0)) (by (with_reducible repeat (first | refine blk_drewN ?_ _ | refine blk_drew ?_ | refine blk_alloc ?_ _)); exact BK193.out) hb); have n11_ := Aside0.mk (blk_below (g := gb202) (o := .cells #[.int .u32 t197, .slice Ao34 t198.length co34] 25 (0, 0)) (by (with_reducible repeat (first | refine blk_drewN ?_ _ | refine blk_drew ?_ | refine blk_alloc ?_ _)); exact BK202.out) hb); have n12_ := Aside0.mk (blk_below (g := gb211) (o := .cells #[.int .u32 t206, .slice Ao43 t207.length co43] 25 (0, 0)) (by (with_reducible repeat (first | refine blk_drewN ?_ _ | refine blk_drew ?_ | refine blk_alloc ?_ _)); exact BK211.out) hb); have n13_ := Aside0.mk (below_step (by repeat (first | (with_reducible first | exact HB.out | apply below_alloc | apply pw_below_drewN | apply below_drew1 | refine below_set ?_ GE193.out | refine below_set ?_ GE202.out | refine below_set ?_ GE211.out) | exact HB.out)) hb); clear HO179; clear HO183; clear HO187; clear HO191; clear HO196; clear HO200; clear HO205; clear HO209; clear HO214; clear HO218; clear BK193; clear BK202; clear BK211; clear HB; have HO179 := n0_; have HO183 := n1_; have HO187 := n2_; have HO191 := n3_; have HO196 := n4_; have HO200 := n5_; have HO205 := n6_; have HO209 := n7_; have HO214 := n8_; have HO218 := n9_; have BK193 := n10_; have BK202 := n11_; have BK211 := n12_; have HB := n13_; clear n0_ n1_ n2_ n3_ n4_ n5_ n6_ n7_ n8_ n9_ n10_ n11_ n12_ n13_; (try clear hb); (try clear hb2); (try clear hk); (try clear hi)))
                      go_ret
                      exact ⟨by first | rfl | (simp [errW_none, errW_some] <;> rfl) | (simp [*, errW_none, errW_some] <;> rfl), by repeat (first | (with_reducible first | exact HB.out | apply below_alloc | apply pw_below_drewN | apply below_drew1 | refine below_set ?_ GE193.out | refine below_set ?_ GE202.out | refine below_set ?_ GE211.out) | exact HB.out)⟩
                    · rw [if_neg c16] at H
                      have c16b0 : (t216 == 0) = false := beq_eq_false_iff_ne.mpr c16
                      have c16b1 : (t216 != 0) = true := bne_iff_ne.mpr c16
                      exact absurd ((Option.some.inj H).trans HRT.out) (by decide)
                  · rw [if_neg c15] at H
                    have c15b0 : ((strOfNums t215).toList == ([1, 2, 1, 97, 2, 98, 99] : List UInt8)) = false := beq_eq_false_iff_ne.mpr c15
                    have c15b1 : ((strOfNums t215).toList != ([1, 2, 1, 97, 2, 98, 99] : List UInt8)) = true := bne_iff_ne.mpr c15
                    exact absurd ((Option.some.inj H).trans HRT.out) (by decide)
                · rw [if_neg c14] at H
                  have c14b0 : (t210 == 3) = false := beq_eq_false_iff_ne.mpr c14
                  have c14b1 : (t210 != 3) = true := bne_iff_ne.mpr c14
                  exact absurd ((Option.some.inj H).trans HRT.out) (by decide)
              · rw [if_neg c13] at H
                have c13b0 : (t201 == 2) = false := beq_eq_false_iff_ne.mpr c13
                have c13b1 : (t201 != 2) = true := bne_iff_ne.mpr c13
                exact absurd ((Option.some.inj H).trans HRT.out) (by decide)
            · rw [if_neg c12] at H
              have c12b0 : (t192 == 0) = false := beq_eq_false_iff_ne.mpr c12
              have c12b1 : (t192 != 0) = true := bne_iff_ne.mpr c12
              exact absurd ((Option.some.inj H).trans HRT.out) (by decide)
          · rw [if_neg c11] at H
            have c11b0 : ((t189.length : Int) == 0) = false := beq_eq_false_iff_ne.mpr c11
            have c11b1 : ((t189.length : Int) != 0) = true := bne_iff_ne.mpr c11
            have c11b2 : ¬ (t189 = []) := fun h_ => c11 (by rw [h_]; rfl)
            exact absurd ((Option.some.inj H).trans HRT.out) (by decide)
        · rw [if_neg c10] at H
          have c10b0 : (t188 == 1) = false := beq_eq_false_iff_ne.mpr c10
          have c10b1 : (t188 != 1) = true := bne_iff_ne.mpr c10
          exact absurd ((Option.some.inj H).trans HRT.out) (by decide)
      · rw [if_neg c9] at H
        have c9b0 : (t184 == 1) = false := beq_eq_false_iff_ne.mpr c9
        have c9b1 : (t184 != 1) = true := bne_iff_ne.mpr c9
        exact absurd ((Option.some.inj H).trans HRT.out) (by decide)
    · rw [if_neg c8] at H
      have c8b0 : (t180 == 0) = false := beq_eq_false_iff_ne.mpr c8
      have c8b1 : (t180 != 0) = true := bne_iff_ne.mpr c8
      exact absurd ((Option.some.inj H).trans HRT.out) (by decide)
  · rw [if_neg c7] at H
    have c7b0 : ((strOfNums t177).toList == ([1, 0] : List UInt8)) = false := beq_eq_false_iff_ne.mpr c7
    have c7b1 : ((strOfNums t177).toList != ([1, 0] : List UInt8)) = true := bne_iff_ne.mpr c7
    exact absurd ((Option.some.inj H).trans HRT.out) (by decide)

/-- shown, as a plain function. -/
def tidemarklaw04_shown.f : Option Bool := some true
theorem shown_k : shownK.f 30 = some true := by decide +kernel
theorem tidemarklaw04_shown.calls (r : Bool) (w : World) (h : tidemarklaw04_shown.f = some r) : Calls Try.prog 13 #[] w fun e w' => e = .returned (.bool r) ∧ Below w.heap.size w w' := by
  obtain rfl := Option.some.inj h
  exact shownK.calls 30 true w rfl shown_k
end Go.Proofs.Ytgmdoapedhppmaa.PC

namespace Go.Proofs.Ytgmdoapedhppmaa.PC
set_option linter.unusedVariables false
set_option linter.unusedSimpArgs false
open Go.RowKit Go.Proofs.YtgmdoapedhppmaaW.PrintWords Go.Proofs.YtgmdoapedhppmaaW.PrintLast Go.Proofs.YtgmdoapedhppmaaW.PrintMore
attribute [local go_sem] max2_int min2_int max_two min_two max_three min_three max_four min_four
/-- A string, cut. -/
def cutS (b : Int) (s : ByteArray) : ByteArray := s.extract 0 (if b < (s.size : Int) then b else (s.size : Int)).toNat
/-- A row, its name and its value cut. -/
def cutRow (x : S57) : S57 := ⟨⟨x.f0.f0, cutS 70 x.f0.f1⟩, cutS 300 x.f1⟩
/-- fewRows, as a plain function. -/
def tidemarklaw04_fewRows.f (l : List S57) : Option (List S57) := some ((l.take 60).map cutRow)
theorem cutS_70 (s : ByteArray) : s.extract 0 (if (70 : Int) < (s.size : Int) then 70 else (s.size : Int)).toNat = cutS 70 s := rfl
theorem cutS_300 (s : ByteArray) : s.extract 0 (if (300 : Int) < (s.size : Int) then 300 else (s.size : Int)).toNat = cutS 300 s := rfl
theorem take_snoc57 (l : List S57) (i : Int) (h0 : 0 ≤ i) (h1 : i < l.length) : (l.take i.toNat).map cutRow ++ [cutRow (rd_T57 l i)] = (l.take (i + 1).toNat).map cutRow := by
  have e : (i + 1).toNat = i.toNat + 1 := by omega
  have hl : i.toNat < l.length := by omega
  rw [e, List.take_succ_eq_append_getElem hl, List.map_append, List.map_singleton]
  unfold rd_T57
  rw [List.getD_eq_getElem?_getD, List.getElem?_eq_getElem hl]
  rfl
set_option maxRecDepth 100000 in
set_option maxHeartbeats 4000000 in
theorem tidemarklaw04_fewRows.calls (A0 : Option Addr) (c0 : Nat) (l0 : List S57) (r : List S57) (w : World) (hr0 : Kd.C k57 w A0 l0.length l0) (hc0 : l0.length ≤ c0) (h : tidemarklaw04_fewRows.f l0 = some r) :
    Calls Try.prog 15 #[.slice A0 l0.length c0] w fun e w' => ∃ v0_ : Value, e = .returned v0_ ∧ Kd.R k57 57 w' w.heap.size (fun _ => True) v0_ r ∧ Below w.heap.size w w' := by
  have HF := Aside0.mk (Option.some.inj h)
  have HR := Aside0.mk hr0
  have HC0 := Aside0.mk hc0
  have HL : (l0.length : Int) ≤ 9223372036854775807 := by have := hr0.2.1; omega
  clear hr0 hc0 h
  go_enter Try.func15, Try.ntmps15
  go_wp2_with fail
  go_loopg [3, 4] 60 (fun kq v3 v4 w' => ∃ (x4 : Int) (acc : List S57), v4 = .int .i64 x4 ∧ Aside0 (acc = (l0.take x4.toNat).map cutRow) ∧ Aside0 (x4 + (kq : Int) = 60) ∧ 0 ≤ x4 ∧ x4 ≤ (l0.length : Int) ∧ x4 ≤ 60 ∧ Aside0 (Kd.R k57 57 w' w.heap.size (fun _ => True) v3 acc) ∧ Aside0 (Below w.heap.size w w'))
  case atStart => exact ⟨0, [], rfl, ⟨rfl⟩, ⟨by omega⟩, by omega, by omega, by omega, ⟨Kd.R_nil _ _ _ _ _⟩, ⟨Below.refl _ _⟩⟩
  case round =>
    obtain ⟨x4, acc, rfl, HC, HX, hx0, hx1, hx6, R2, B2⟩ := hrel
    by_cases hp : x4 < (l0.length : Int)
    · have dp : decide (x4 < (l0.length : Int)) = true := decide_eq_true hp
      by_cases hq : x4 < 60
      · have dq : decide (x4 < 60) = true := decide_eq_true hq
        cases gk with
        | zero => exact absurd HX.out (by omega)
        | succ gk1 =>
        obtain ⟨ad, e150, hz0, hz1, hz2⟩ := at_T57 HR.out x4 hx0 hp
        have TS := Aside0.mk (take_snoc57 l0 x4 hx0 hp)
        cases e150
        replace hz0 := (B2.out.cell (World.block_lt_of_cell? w _ hz0)).trans hz0
        replace hz1 := (B2.out.cell (World.block_lt_of_cell? w _ hz1)).trans hz1
        replace hz2 := (B2.out.cell (World.block_lt_of_cell? w _ hz2)).trans hz2
        generalize rd_T57 l0 x4 = r0 at hz0 hz1 hz2 TS
        obtain ⟨⟨tb, nm⟩, vl⟩ := r0
        simp only at hz0 hz1 hz2
        have px := eq_true hx0
        have qx := eq_true hp
        go_upto_region 6 with (first | ((with_reducible refine gate_dst (N := 5) rfl ?_); refine box_event ?hg (N := 5) ?hd (cs := #[.int .u8 0, .string (⟨#[]⟩ : ByteArray), .string (⟨#[]⟩ : ByteArray)]) (t := 57) ?hr ?_; (case hd => rfl); (case hg => rfl); (case hr => first | (go_simp; done) | (go_simp; rfl)); intro gc hgc w3 hbox hb; have BC3 := Aside0.mk hbox; have HGC := Aside0.mk hgc; have HB3 := Aside0.mk hb; have hy0 := (blk_cell hbox 0).trans rfl; have hy1 := (blk_cell hbox 1).trans rfl; have hy2 := (blk_cell hbox 2).trans rfl; have hf0 := blk_frozen hbox 0; have hf1 := blk_frozen hbox 1; have hf2 := blk_frozen hbox 2; clear hb hbox hgc))
        have T3 : Aside0 (Stay (fun k => k = gc) w3 (((w3.setCell ⟨gc, 0, none⟩ (.int .u8 tb)).setCell ⟨gc, 1, none⟩ (.string nm)).setCell ⟨gc, 2, none⟩ (.string vl))) := ⟨(((Stay.refl (fun k => k = gc) w3).set (.inl rfl) 0 _).set (.inl rfl) 1 _).set (.inl rfl) 2 _⟩
        have BC4 := Aside0.mk (blk_put (cs := #[.int .u8 tb, .string nm, .string (⟨#[]⟩ : ByteArray)]) (blk_put (cs := #[.int .u8 tb, .string (⟨#[]⟩ : ByteArray), .string (⟨#[]⟩ : ByteArray)]) (blk_put (cs := #[.int .u8 0, .string (⟨#[]⟩ : ByteArray), .string (⟨#[]⟩ : ByteArray)]) BC3.out 0 (.int .u8 tb) rfl) 1 (.string nm) rfl) 2 (.string vl) rfl)
        have GC0 : Aside0 (w.heap.size ≤ gc) := ⟨by rw [HGC.out]; exact B2.out.size⟩
        have GCN := Aside0.mk (Kd.R_bound R2.out)
        have B4 := Aside0.mk (T3.out.below (below_step B2.out HB3.out) (fun i hi => by rw [hi]; exact GC0.out))
        have R4 := Aside0.mk (Kd.R_step (Kd.R_below (Kd.R_mono GCN.out (fun k hk => (by have := hk.2.2.1; rw [HGC.out]; omega : k ≠ gc))) HB3.out) (fun k hk hlt => T3.out.block k hlt hk))
        clear hz0 hz1 hz2 hy0 hy1 hy2 hf0 hf1 hf2 BC3 T3 B2 R2 HB3 HGC GCN
        generalize ((w3.setCell ⟨gc, 0, none⟩ (.int .u8 tb)).setCell ⟨gc, 1, none⟩ (.string nm)).setCell ⟨gc, 2, none⟩ (.string vl) = w4 at BC4 B4 R4 ⊢
        have hy1 : w4.cell? ⟨gc, 1, none⟩ = some (.string nm) := (blk_cell BC4.out 1).trans rfl
        have hf1 := blk_frozen BC4.out 1
        go_upto_region 7 with (fail)
        rw [cutS_70]
        generalize (if (70 : Int) < (nm.size : Int) then 70 else (nm.size : Int)) = mm1
        have T4 : Aside0 (Stay (fun k => k = gc) w4 (w4.setCell ⟨gc, 1, none⟩ (.string (cutS 70 nm)))) := ⟨(Stay.refl (fun k => k = gc) w4).set (.inl rfl) 1 _⟩
        have BC5 := Aside0.mk (blk_put (cs := #[.int .u8 tb, .string nm, .string vl]) BC4.out 1 (.string (cutS 70 nm)) rfl)
        have B5 := Aside0.mk (T4.out.below B4.out (fun i hi => by rw [hi]; exact GC0.out))
        have R5 := Aside0.mk (Kd.R_step R4.out (fun k hk hlt => T4.out.block k hlt hk))
        clear hy1 hf1 BC4 T4 B4 R4
        generalize w4.setCell ⟨gc, 1, none⟩ (.string (cutS 70 nm)) = w5 at BC5 B5 R5 ⊢
        have hy2 : w5.cell? ⟨gc, 2, none⟩ = some (.string vl) := (blk_cell BC5.out 2).trans rfl
        have hf2 := blk_frozen BC5.out 2
        go_upto_region 8 with (fail)
        rw [cutS_300]
        generalize (if (300 : Int) < (vl.size : Int) then 300 else (vl.size : Int)) = mm2
        have T5 : Aside0 (Stay (fun k => k = gc) w5 (w5.setCell ⟨gc, 2, none⟩ (.string (cutS 300 vl)))) := ⟨(Stay.refl (fun k => k = gc) w5).set (.inl rfl) 2 _⟩
        have BC6 := Aside0.mk (blk_put (cs := #[.int .u8 tb, .string (cutS 70 nm), .string vl]) BC5.out 2 (.string (cutS 300 vl)) rfl)
        have B6 := Aside0.mk (T5.out.below B5.out (fun i hi => by rw [hi]; exact GC0.out))
        have R6 := Aside0.mk (Kd.R_step R5.out (fun k hk hlt => T5.out.block k hlt hk))
        clear hy2 hf2 BC5 T5 B5 R5
        generalize w5.setCell ⟨gc, 2, none⟩ (.string (cutS 300 vl)) = w6 at BC6 B6 R6 ⊢
        have hy0 : w6.cell? ⟨gc, 0, none⟩ = some (.int .u8 tb) := (blk_cell BC6.out 0).trans rfl
        have hy1 : w6.cell? ⟨gc, 1, none⟩ = some (.string (cutS 70 nm)) := (blk_cell BC6.out 1).trans rfl
        have hy2 : w6.cell? ⟨gc, 2, none⟩ = some (.string (cutS 300 vl)) := (blk_cell BC6.out 2).trans rfl
        have HLN : Aside0 (acc.length ≤ 60) := ⟨by rw [HC.out, List.length_map, List.length_take]; omega⟩
        go_wp2_with ((with_reducible refine gate_builtin (b := .append) (xs := #[.tmp 39, .tmp 41]) rfl ?_); at_builtin; refine Kd.R_append k57 (w0 := w6) w.heap.size rfl (.tmp 39) (.tmp 41) 26 57 (.agg #[(.int .u8 0), (.string ⟨#[]⟩), (.string ⟨#[]⟩)]) 40 rfl Try.underlying26 info57 rfl (by decide) (by omega) u3 acc (⟨⟨tb, cutS 70 nm⟩, cutS 300 vl⟩ : S57) [.int .u8 tb, .string (cutS 70 nm), .string (cutS 300 vl)] (fun _ => True) (fun _ => False) rfl rfl ?aP (fun _ hk => hk.elim) ?aF ?aO ?aB ?aS ?aL ?_; (case aP => exact k57_mkM _ _ _ _); (case aF => exact (fun _ _ => trivial)); (case aO => exact Kd.R_mono R6.out (fun _ _ => trivial)); (case aB => exact Below.refl _ _); (case aS => exact B6.out.size); (case aL => have := HLN.out; omega); intro v7 w7 ho hb hgw hat; have R7 := Aside0.mk ho; have B7 : Aside0 (Below w.heap.size w w7) := ⟨(Stay.of_grown hgw).below B6.out (fun i hi => by have hi : some i = u3.ownBlock := hi; exact Kd.R_base R6.out i hi.symm)⟩; clear ho hb hgw hat; (obtain ⟨acc2, hacc2⟩ : ∃ a, a = acc ++ [(⟨⟨tb, cutS 70 nm⟩, cutS 300 vl⟩ : S57)] := ⟨_, rfl⟩); rw [← hacc2] at R7; have HC2 : Aside0 (acc2 = (l0.take (x4 + 1).toNat).map cutRow) := ⟨by rw [hacc2, HC.out]; exact TS.out⟩; clear hacc2; obtain ⟨A7, c7, rfl⟩ := Kd.R_slice R7.out)
        go_roundg gk1
        case measure => omega
        case rel => exact ⟨x4 + 1, acc2, rfl, HC2, ⟨by have := HX.out; omega⟩, by omega, by omega, by omega, R7, B7⟩
      · have dq : decide (x4 < 60) = false := decide_eq_false hq
        have R3 : Aside0 (acc = r) := ⟨by rw [← HF.out, HC.out, show x4 = 60 by omega]; rfl⟩
        obtain ⟨A3, c3, rfl⟩ := Kd.R_slice R2.out
        go_wp2_with fail
        go_ret
        exact ⟨_, rfl, by rw [← R3.out]; exact R2.out, B2.out⟩
    · have dp : decide (x4 < (l0.length : Int)) = false := decide_eq_false hp
      have R3 : Aside0 (acc = r) := ⟨by rw [← HF.out, HC.out, List.take_of_length_le (by omega), List.take_of_length_le (by omega)]⟩
      obtain ⟨A3, c3, rfl⟩ := Kd.R_slice R2.out
      go_wp2_with fail
      go_ret
      exact ⟨_, rfl, by rw [← R3.out]; exact R2.out, B2.out⟩
end Go.Proofs.Ytgmdoapedhppmaa.PC

namespace Go.Proofs.Ytgmdoapedhppmaa.PC
set_option linter.unusedVariables false
set_option linter.unusedSimpArgs false
open Go.RowKit Go.Proofs.YtgmdoapedhppmaaW.PrintWords Go.Proofs.YtgmdoapedhppmaaW.PrintLast Go.Proofs.YtgmdoapedhppmaaW.PrintMore
attribute [local go_sem] max2_int min2_int max_two min_two max_three min_three max_four min_four
/-- A change, its name and its value cut. -/
def cutChange (x : S50) : S50 := ⟨⟨x.f0.f0, cutS 70 x.f0.f1⟩, x.f1, cutS 300 x.f2⟩
/-- A transaction, of few changes. -/
def cutTxn (t : S47) : S47 := ⟨t.f0, (t.f1.take 40).map cutChange⟩
/-- few, as a plain function. -/
def tidemarklaw04_few.f (a : Int) (l : List S47) : Option (Int × List S47) := some (a, (l.take 70).map cutTxn)
theorem take_snoc50 (l : List S50) (i : Int) (h0 : 0 ≤ i) (h1 : i < l.length) : (l.take i.toNat).map cutChange ++ [cutChange (rd_T50 l i)] = (l.take (i + 1).toNat).map cutChange := by
  have e : (i + 1).toNat = i.toNat + 1 := by omega
  have hl : i.toNat < l.length := by omega
  rw [e, List.take_succ_eq_append_getElem hl, List.map_append, List.map_singleton]
  unfold rd_T50
  rw [List.getD_eq_getElem?_getD, List.getElem?_eq_getElem hl]
  rfl
theorem take_snoc47 (l : List S47) (i : Int) (h0 : 0 ≤ i) (h1 : i < l.length) : (l.take i.toNat).map cutTxn ++ [cutTxn (rd_T47 l i)] = (l.take (i + 1).toNat).map cutTxn := by
  have e : (i + 1).toNat = i.toNat + 1 := by omega
  have hl : i.toNat < l.length := by omega
  rw [e, List.take_succ_eq_append_getElem hl, List.map_append, List.map_singleton]
  unfold rd_T47
  rw [List.getD_eq_getElem?_getD, List.getElem?_eq_getElem hl]
  rfl
set_option maxRecDepth 100000 in
set_option maxHeartbeats 4000000 in
theorem tidemarklaw04_few.calls (a0 : Int) (A0 : Option Addr) (c0 : Nat) (l0 : List S47) (r1 : Int) (r2 : List S47) (w : World) (hr0 : Kd.C k47 w A0 l0.length l0) (hc0 : l0.length ≤ c0) (h : tidemarklaw04_few.f a0 l0 = some (r1, r2)) :
    Calls Try.prog 14 #[.agg #[.int .u32 a0, .slice A0 l0.length c0]] w fun e w' => ∃ v0_ : Value, e = .returned (.agg #[.int .u32 r1, v0_]) ∧ Kd.S k47 47 w' w.heap.size (fun _ => True) v0_ r2 ∧ Below w.heap.size w w' := by
  unfold tidemarklaw04_few.f at h
  injection h with h
  injection h with h1 h2
  subst h1
  have HF := Aside0.mk h2
  have HR := Aside0.mk hr0
  have HC0 := Aside0.mk hc0
  have HL : (l0.length : Int) ≤ 9223372036854775807 := by have := hr0.2.1; omega
  clear hr0 hc0 h2
  go_enter Try.func14, Try.ntmps14
  go_upto_region 1 with (first | ((with_reducible refine gate_dst (N := 1) rfl ?_); refine box_event ?hg (N := 1) ?hd (cs := #[.int .u32 a0, .slice A0 l0.length c0]) (t := 25) ?hr ?_; (case hd => rfl); (case hg => rfl); (case hr => first | (go_simp; done) | (go_simp; rfl)); intro g1 hg1 w1 hbox hb; have BA1 := Aside0.mk hbox; have HG1 := Aside0.mk hg1; have HB1 := Aside0.mk hb; clear hb hbox hg1) | ((with_reducible refine gate_dst (N := 2) rfl ?_); refine box_event ?hg (N := 2) ?hd (cs := #[.int .u32 0, .slice none 0 0]) (t := 25) ?hr ?_; (case hd => rfl); (case hg => rfl); (case hr => first | (go_simp; done) | (go_simp; rfl)); intro g2 hg2 w2 hbox hb; have BB2 := Aside0.mk hbox; have HG2 := Aside0.mk hg2; have HB2 := Aside0.mk hb; clear hb hbox hg2))
  have BA2 := Aside0.mk (blk_below BA1.out HB2.out)
  have B2 := Aside0.mk (below_step HB1.out HB2.out)
  have L12 : Aside0 (g1 < g2) := ⟨by rw [HG2.out]; exact blk_lt BA1.out⟩
  have W1 : Aside0 (w.heap.size ≤ g1) := ⟨by rw [HG1.out]; exact Nat.le_refl _⟩
  clear BA1 HB1 HB2 HG1 HG2
  have hz0 : w2.cell? ⟨g1, 0, none⟩ = some (.int .u32 a0) := (blk_cell BA2.out 0).trans rfl
  go_upto_region 2 with (first | ((with_reducible refine gate_dst (N := 3) rfl ?_); refine box_event ?hg (N := 3) ?hd (cs := #[.int .u32 0, .slice none 0 0]) (t := 25) ?hr ?_; (case hd => rfl); (case hg => rfl); (case hr => first | (go_simp; done) | (go_simp; rfl)); intro g3 hg3 w3 hbox hb; have BE3 := Aside0.mk hbox; have HG3 := Aside0.mk hg3; have HB3 := Aside0.mk hb; have hy0 := (blk_cell hbox 0).trans rfl; have hy1 := (blk_cell hbox 1).trans rfl; have hf0 := blk_frozen hbox 0; have hf1 := blk_frozen hbox 1; clear hb hbox hg3))
  have L23 : Aside0 (g2 < g3) := ⟨by rw [HG3.out]; exact blk_lt BB2.out⟩
  have T3 : Aside0 (Stay (fun k => k = g3) w3 ((w3.setCell ⟨g3, 0, none⟩ (.int .u32 a0)).setCell ⟨g3, 1, none⟩ (.slice none 0 0))) := ⟨((Stay.refl (fun k => k = g3) w3).set (.inl rfl) 0 _).set (.inl rfl) 1 _⟩
  have BE4 := Aside0.mk (blk_put (cs := #[.int .u32 a0, .slice none 0 0]) (blk_put (cs := #[.int .u32 0, .slice none 0 0]) BE3.out 0 (.int .u32 a0) rfl) 1 (.slice none 0 0) rfl)
  have BA4 := Aside0.mk (T3.out.blk (blk_below BA2.out HB3.out) (by have := L12.out; have := L23.out; omega))
  have BB4 := Aside0.mk (T3.out.blk (blk_below BB2.out HB3.out) (by have := L23.out; omega))
  have B4 := Aside0.mk (T3.out.below (below_step B2.out HB3.out) (fun i hi => by have := L12.out; have := L23.out; have := W1.out; omega))
  clear hz0 hy0 hy1 hf0 hf1 BE3 BA2 BB2 B2 T3 HB3 HG3
  generalize (w3.setCell ⟨g3, 0, none⟩ (.int .u32 a0)).setCell ⟨g3, 1, none⟩ (.slice none 0 0) = w4 at BE4 BA4 BB4 B4 ⊢
  go_wp2_with fail
  go_loopg [4] 70 (fun kq v4 w' => ∃ (x4 : Int) (acc : List S47) (v : Value), v4 = .int .i64 x4 ∧ Aside0 (acc = (l0.take x4.toNat).map cutTxn) ∧ Aside0 (x4 + (kq : Int) = 70) ∧ 0 ≤ x4 ∧ x4 ≤ (l0.length : Int) ∧ x4 ≤ 70 ∧ Aside0 (w'.heap[g1]? = some (.cells #[.int .u32 a0, .slice A0 l0.length c0] 25 (0, 0))) ∧ Aside0 (w'.heap[g2]? = some (.cells #[.int .u32 0, .slice none 0 0] 25 (0, 0))) ∧ Aside0 (w'.heap[g3]? = some (.cells #[.int .u32 a0, v] 25 (0, 0))) ∧ Aside0 (Kd.S k47 47 w' w.heap.size (fun _ => True) v acc) ∧ Aside0 (Below w.heap.size w w'))
  case atStart => exact ⟨0, [], .slice none 0 0, rfl, ⟨rfl⟩, ⟨by omega⟩, by omega, by omega, by omega, BA4, BB4, BE4, ⟨Kd.S_nil _ _ _ _ _⟩, B4⟩
  case round =>
    clear BA4 BB4 BE4 B4
    obtain ⟨x4, acc, v, rfl, HC, HX, hx0, hx1, hx6, BA2, BB2, BE2, S2, B2⟩ := hrel
    have hza1 : wr.cell? ⟨g1, 1, none⟩ = some (.slice A0 l0.length c0) := (blk_cell BA2.out 1).trans rfl
    by_cases hpq : x4 < (l0.length : Int) ∧ x4 < 70
    · obtain ⟨hp, hq⟩ := hpq
      · have dp : decide (x4 < (l0.length : Int)) = true := decide_eq_true hp
        have dq : decide (x4 < 70) = true := decide_eq_true hq
        cases gk with
        | zero => exact absurd HX.out (by omega)
        | succ gk1 =>
        obtain ⟨ad, A1, c1, e150, hz0, hz1, hl1, hR1⟩ := at_T47 HR.out x4 hx0 hp
        have TS := Aside0.mk (take_snoc47 l0 x4 hx0 hp)
        cases e150
        generalize rd_T47 l0 x4 = t0 at hz0 hz1 hl1 hR1 TS
        obtain ⟨tid, chs⟩ := t0
        simp only at hz0 hz1 hl1 hR1
        have HR1 := Aside0.mk hR1
        have HL1 : (chs.length : Int) ≤ 9223372036854775807 := by have := hR1.2.1; omega
        have HZ0 := Aside0.mk hz0
        have HZ1 := Aside0.mk hz1
        clear hR1 hl1 hz0 hz1
        have hz0 := (B2.out.cell (World.block_lt_of_cell? w _ HZ0.out)).trans HZ0.out
        have px := eq_true hx0
        have qx := eq_true hp
        go_upto_region 6 with (first | ((with_reducible refine gate_dst (N := 5) rfl ?_); refine box_event ?hg (N := 5) ?hd (cs := #[.int .u64 0, .slice none 0 0]) (t := 47) ?hr ?_; (case hd => rfl); (case hg => rfl); (case hr => first | (go_simp; done) | (go_simp; rfl)); intro gt hgt w3 hbox hb; have BT3 := Aside0.mk hbox; have HGT := Aside0.mk hgt; have HB3 := Aside0.mk hb; have hy0 := (blk_cell hbox 0).trans rfl; have hy1 := (blk_cell hbox 1).trans rfl; have hf0 := blk_frozen hbox 0; have hf1 := blk_frozen hbox 1; clear hb hbox hgt))
        have T3 : Aside0 (Stay (fun k => k = gt) w3 ((w3.setCell ⟨gt, 0, none⟩ (.int .u64 tid)).setCell ⟨gt, 1, none⟩ (.slice none 0 0))) := ⟨((Stay.refl (fun k => k = gt) w3).set (.inl rfl) 0 _).set (.inl rfl) 1 _⟩
        have BT4 := Aside0.mk (blk_put (cs := #[.int .u64 tid, .slice none 0 0]) (blk_put (cs := #[.int .u64 0, .slice none 0 0]) BT3.out 0 (.int .u64 tid) rfl) 1 (.slice none 0 0) rfl)
        obtain ⟨H0, hH0⟩ : ∃ n, n = wr.heap.size := ⟨_, rfl⟩
        have GT0 : Aside0 (gt = H0) := ⟨by rw [HGT.out, hH0]⟩
        have WH0 : Aside0 (w.heap.size ≤ H0) := ⟨by rw [hH0]; exact B2.out.size⟩
        have L1 : Aside0 (g1 < H0) := ⟨by rw [hH0]; exact blk_lt BA2.out⟩
        have L2 : Aside0 (g2 < H0) := ⟨by rw [hH0]; exact blk_lt BB2.out⟩
        have L3 : Aside0 (g3 < H0) := ⟨by rw [hH0]; exact blk_lt BE2.out⟩
        have S4 : Aside0 (Kd.S k47 47 ((w3.setCell ⟨gt, 0, none⟩ (.int .u64 tid)).setCell ⟨gt, 1, none⟩ (.slice none 0 0)) w.heap.size (fun k => k < H0) v acc) := ⟨S_stay (Kd.S_mono (Kd.S_old S2.out HB3.out) (fun k hk => by rw [hH0]; exact hk.2)) T3.out (fun k hk e => by have := GT0.out; omega)⟩
        have BA4 := Aside0.mk (T3.out.blk (blk_below BA2.out HB3.out) (by have := GT0.out; have := L1.out; omega))
        have BB4 := Aside0.mk (T3.out.blk (blk_below BB2.out HB3.out) (by have := GT0.out; have := L2.out; omega))
        have BE4 := Aside0.mk (T3.out.blk (blk_below BE2.out HB3.out) (by have := GT0.out; have := L3.out; omega))
        have B4 := Aside0.mk (T3.out.below (below_step B2.out HB3.out) (fun i hi => by have := GT0.out; have := WH0.out; omega))
        clear hza1 hz0 hy0 hy1 hf0 hf1 BT3 T3 B2 S2 BA2 BB2 BE2 HB3 HGT hH0
        generalize (w3.setCell ⟨gt, 0, none⟩ (.int .u64 tid)).setCell ⟨gt, 1, none⟩ (.slice none 0 0) = w4 at BT4 S4 BA4 BB4 BE4 B4 ⊢
        go_wp2_with fail
        obtain ⟨wo, hwo⟩ : ∃ wo : World, wo = wr := ⟨_, rfl⟩
        clear hwo
        go_loopg [6] 40 (fun kq v6 w' => ∃ (x6 : Int) (cs : List S50) (vc : Value), v6 = .int .i64 x6 ∧ Aside0 (cs = (chs.take x6.toNat).map cutChange) ∧ Aside0 (x6 + (kq : Int) = 40) ∧ 0 ≤ x6 ∧ x6 ≤ (chs.length : Int) ∧ x6 ≤ 40 ∧ Aside0 (w'.heap[g1]? = some (.cells #[.int .u32 a0, .slice (some ad) l0.length c0] 25 (0, 0))) ∧ Aside0 (w'.heap[g2]? = some (.cells #[.int .u32 0, .slice none 0 0] 25 (0, 0))) ∧ Aside0 (w'.heap[g3]? = some (.cells #[.int .u32 a0, v] 25 (0, 0))) ∧ Aside0 (w'.heap[gt]? = some (.cells #[.int .u64 tid, vc] 47 (0, 0))) ∧ Aside0 (Kd.S k50 50 w' H0 (fun _ => True) vc cs) ∧ Aside0 (Kd.S k47 47 w' w.heap.size (fun k => k < H0) v acc) ∧ Aside0 (Below w.heap.size w w'))
        case atStart => exact ⟨0, [], .slice none 0 0, rfl, ⟨rfl⟩, ⟨by omega⟩, by omega, by omega, by omega, BA4, BB4, BE4, BT4, ⟨Kd.S_nil _ _ _ _ _⟩, S4, B4⟩
        case round =>
          clear BA4 BB4 BE4 BT4 S4 B4
          obtain ⟨x6, cs, vc, rfl, HC2, HX2, hx20, hx21, hx26, BA2, BB2, BE2, BT2, SC2, S2, B2⟩ := hrel
          have hza1 : wr.cell? ⟨g1, 1, none⟩ = some (.slice (some ad) l0.length c0) := (blk_cell BA2.out 1).trans rfl
          have hz1 := (B2.out.cell (World.block_lt_of_cell? w _ HZ1.out)).trans HZ1.out
          by_cases hpq2 : x6 < (chs.length : Int) ∧ x6 < 40
          · obtain ⟨hp2, hq2⟩ := hpq2
            · have dp2 : decide (x6 < (chs.length : Int)) = true := decide_eq_true hp2
              have dq2 : decide (x6 < 40) = true := decide_eq_true hq2
              cases gk with
              | zero => exact absurd HX2.out (by omega)
              | succ gk2 =>
              obtain ⟨ad2, e151, hc0, hc1, hc2, hc3⟩ := at_T50 HR1.out x6 hx20 hp2
              have TS2 := Aside0.mk (take_snoc50 chs x6 hx20 hp2)
              subst e151
              replace hc0 := (B2.out.cell (World.block_lt_of_cell? w _ hc0)).trans hc0
              replace hc1 := (B2.out.cell (World.block_lt_of_cell? w _ hc1)).trans hc1
              replace hc2 := (B2.out.cell (World.block_lt_of_cell? w _ hc2)).trans hc2
              replace hc3 := (B2.out.cell (World.block_lt_of_cell? w _ hc3)).trans hc3
              generalize rd_T50 chs x6 = r0 at hc0 hc1 hc2 hc3 TS2
              obtain ⟨⟨tb, nm⟩, gn, vl⟩ := r0
              simp only at hc0 hc1 hc2 hc3
              have px2 := eq_true hx20
              have qx2 := eq_true hp2
              go_upto_region 10 with (first | ((with_reducible refine gate_dst (N := 7) rfl ?_); refine box_event ?hg (N := 7) ?hd (cs := #[.int .u8 0, .string (⟨#[]⟩ : ByteArray), .bool false, .string (⟨#[]⟩ : ByteArray)]) (t := 50) ?hr ?_; (case hd => rfl); (case hg => rfl); (case hr => first | (go_simp; done) | (go_simp; rfl)); intro gc hgc w3 hbox hb; have BC3 := Aside0.mk hbox; have HGC := Aside0.mk hgc; have HB3 := Aside0.mk hb; have hy0 := (blk_cell hbox 0).trans rfl; have hy1 := (blk_cell hbox 1).trans rfl; have hy2 := (blk_cell hbox 2).trans rfl; have hy3 := (blk_cell hbox 3).trans rfl; have hf0 := blk_frozen hbox 0; have hf1 := blk_frozen hbox 1; have hf2 := blk_frozen hbox 2; have hf3 := blk_frozen hbox 3; clear hb hbox hgc))
              have T3 : Aside0 (Stay (fun k => k = gc) w3 ((((w3.setCell ⟨gc, 0, none⟩ (.int .u8 tb)).setCell ⟨gc, 1, none⟩ (.string nm)).setCell ⟨gc, 2, none⟩ (.bool gn)).setCell ⟨gc, 3, none⟩ (.string vl))) := ⟨((((Stay.refl (fun k => k = gc) w3).set (.inl rfl) 0 _).set (.inl rfl) 1 _).set (.inl rfl) 2 _).set (.inl rfl) 3 _⟩
              have BC4 := Aside0.mk (blk_put (cs := #[.int .u8 tb, .string nm, .bool gn, .string (⟨#[]⟩ : ByteArray)]) (blk_put (cs := #[.int .u8 tb, .string nm, .bool false, .string (⟨#[]⟩ : ByteArray)]) (blk_put (cs := #[.int .u8 tb, .string (⟨#[]⟩ : ByteArray), .bool false, .string (⟨#[]⟩ : ByteArray)]) (blk_put (cs := #[.int .u8 0, .string (⟨#[]⟩ : ByteArray), .bool false, .string (⟨#[]⟩ : ByteArray)]) BC3.out 0 (.int .u8 tb) rfl) 1 (.string nm) rfl) 2 (.bool gn) rfl) 3 (.string vl) rfl)
              have GC0 : Aside0 (gt < gc) := ⟨by rw [HGC.out]; exact blk_lt BT2.out⟩
              have S4 := Aside0.mk (S_stay (Kd.S_below S2.out HB3.out) T3.out (fun k hk e => by have := GC0.out; have := GT0.out; omega))
              have SC4 := Aside0.mk (S_stay (Kd.S_below (Kd.S_elderB SC2.out gc (by rw [HGC.out]; exact Nat.le_refl _)) HB3.out) T3.out (fun k hk e => hk.2 e))
              have BA4 := Aside0.mk (T3.out.blk (blk_below BA2.out HB3.out) (by have := GC0.out; have := GT0.out; have := L1.out; omega))
              have BB4 := Aside0.mk (T3.out.blk (blk_below BB2.out HB3.out) (by have := GC0.out; have := GT0.out; have := L2.out; omega))
              have BE4 := Aside0.mk (T3.out.blk (blk_below BE2.out HB3.out) (by have := GC0.out; have := GT0.out; have := L3.out; omega))
              have BT4 := Aside0.mk (T3.out.blk (blk_below BT2.out HB3.out) (by have := GC0.out; omega))
              have B4 := Aside0.mk (T3.out.below (below_step B2.out HB3.out) (fun i hi => by have := GC0.out; have := GT0.out; have := WH0.out; omega))
              clear hza1 hz1 hc0 hc1 hc2 hc3 hy0 hy1 hy2 hy3 hf0 hf1 hf2 hf3 BC3 T3 B2 S2 SC2 BA2 BB2 BE2 BT2 HB3 HGC
              generalize (((w3.setCell ⟨gc, 0, none⟩ (.int .u8 tb)).setCell ⟨gc, 1, none⟩ (.string nm)).setCell ⟨gc, 2, none⟩ (.bool gn)).setCell ⟨gc, 3, none⟩ (.string vl) = w4 at BC4 S4 SC4 BA4 BB4 BE4 BT4 B4 ⊢
              have hy1 : w4.cell? ⟨gc, 1, none⟩ = some (.string nm) := (blk_cell BC4.out 1).trans rfl
              have hf1 := blk_frozen BC4.out 1
              go_upto_region 11 with (fail)
              rw [cutS_70]
              generalize (if (70 : Int) < (nm.size : Int) then 70 else (nm.size : Int)) = mm1
              have T4 : Aside0 (Stay (fun k => k = gc) w4 (w4.setCell ⟨gc, 1, none⟩ (.string (cutS 70 nm)))) := ⟨(Stay.refl (fun k => k = gc) w4).set (.inl rfl) 1 _⟩
              have BC5 := Aside0.mk (blk_put (cs := #[.int .u8 tb, .string nm, .bool gn, .string vl]) BC4.out 1 (.string (cutS 70 nm)) rfl)
              have S5 := Aside0.mk (S_stay S4.out T4.out (fun k hk e => by have := GC0.out; have := GT0.out; omega))
              have SC5 := Aside0.mk (S_stay SC4.out T4.out (fun k hk e => hk.2 e))
              have BA5 := Aside0.mk (T4.out.blk BA4.out (by have := GC0.out; have := GT0.out; have := L1.out; omega))
              have BB5 := Aside0.mk (T4.out.blk BB4.out (by have := GC0.out; have := GT0.out; have := L2.out; omega))
              have BE5 := Aside0.mk (T4.out.blk BE4.out (by have := GC0.out; have := GT0.out; have := L3.out; omega))
              have BT5 := Aside0.mk (T4.out.blk BT4.out (by have := GC0.out; omega))
              have B5 := Aside0.mk (T4.out.below B4.out (fun i hi => by have := GC0.out; have := GT0.out; have := WH0.out; omega))
              clear hy1 hf1 BC4 T4 B4 S4 SC4 BA4 BB4 BE4 BT4
              generalize w4.setCell ⟨gc, 1, none⟩ (.string (cutS 70 nm)) = w5 at BC5 S5 SC5 BA5 BB5 BE5 BT5 B5 ⊢
              have hy3 : w5.cell? ⟨gc, 3, none⟩ = some (.string vl) := (blk_cell BC5.out 3).trans rfl
              have hf3 := blk_frozen BC5.out 3
              go_upto_region 12 with (fail)
              rw [cutS_300]
              generalize (if (300 : Int) < (vl.size : Int) then 300 else (vl.size : Int)) = mm2
              have T5 : Aside0 (Stay (fun k => k = gc) w5 (w5.setCell ⟨gc, 3, none⟩ (.string (cutS 300 vl)))) := ⟨(Stay.refl (fun k => k = gc) w5).set (.inl rfl) 3 _⟩
              have BC6 := Aside0.mk (blk_put (cs := #[.int .u8 tb, .string (cutS 70 nm), .bool gn, .string vl]) BC5.out 3 (.string (cutS 300 vl)) rfl)
              have S6 := Aside0.mk (S_stay S5.out T5.out (fun k hk e => by have := GC0.out; have := GT0.out; omega))
              have SC6 := Aside0.mk (S_stay SC5.out T5.out (fun k hk e => hk.2 e))
              have BA6 := Aside0.mk (T5.out.blk BA5.out (by have := GC0.out; have := GT0.out; have := L1.out; omega))
              have BB6 := Aside0.mk (T5.out.blk BB5.out (by have := GC0.out; have := GT0.out; have := L2.out; omega))
              have BE6 := Aside0.mk (T5.out.blk BE5.out (by have := GC0.out; have := GT0.out; have := L3.out; omega))
              have BT6 := Aside0.mk (T5.out.blk BT5.out (by have := GC0.out; omega))
              have B6 := Aside0.mk (T5.out.below B5.out (fun i hi => by have := GC0.out; have := GT0.out; have := WH0.out; omega))
              clear hy3 hf3 BC5 T5 B5 S5 SC5 BA5 BB5 BE5 BT5
              generalize w5.setCell ⟨gc, 3, none⟩ (.string (cutS 300 vl)) = w6 at BC6 S6 SC6 BA6 BB6 BE6 BT6 B6 ⊢
              have hy0 : w6.cell? ⟨gc, 0, none⟩ = some (.int .u8 tb) := (blk_cell BC6.out 0).trans rfl
              have hy1 : w6.cell? ⟨gc, 1, none⟩ = some (.string (cutS 70 nm)) := (blk_cell BC6.out 1).trans rfl
              have hy2 : w6.cell? ⟨gc, 2, none⟩ = some (.bool gn) := (blk_cell BC6.out 2).trans rfl
              have hy3 : w6.cell? ⟨gc, 3, none⟩ = some (.string (cutS 300 vl)) := (blk_cell BC6.out 3).trans rfl
              have hzt1 : w6.cell? ⟨gt, 1, none⟩ = some vc := (blk_cell BT6.out 1).trans rfl
              have HLN : Aside0 (cs.length ≤ 40) := ⟨by rw [HC2.out, List.length_map, List.length_take]; omega⟩
              go_upto_region 8 with ((with_reducible refine gate_builtin (b := .append) (xs := #[.tmp 73, .tmp 75]) rfl ?_); at_builtin; refine Kd.S_append k50 (w0 := w6) H0 rfl (.tmp 73) (.tmp 75) 45 50 (.agg #[(.int .u8 0), (.string ⟨#[]⟩), (.bool false), (.string ⟨#[]⟩)]) 48 rfl Try.underlying45 info50 rfl (by decide) (by omega) vc cs (⟨⟨tb, cutS 70 nm⟩, gn, cutS 300 vl⟩ : S50) [.int .u8 tb, .string (cutS 70 nm), .bool gn, .string (cutS 300 vl)] (fun _ => True) (fun _ => False) rfl rfl ?aP (fun _ hk => hk.elim) ?aF ?aO ?aB ?aS ?aL ?_; (case aP => exact k50_mkM _ _ _ _); (case aF => exact (fun _ _ => trivial)); (case aO => exact Kd.S_mono SC6.out (fun _ _ => ⟨trivial, fun h => h⟩)); (case aB => exact Below.refl _ _); (case aS => have := GT0.out; have := blk_lt BT6.out; omega); (case aL => have := HLN.out; omega); intro v7 w7 ho hb hgw hat; have SC7 := Aside0.mk ho; have HGW := Aside0.mk hgw; clear ho hb hgw hat; (have hzt1 : w7.cell? ⟨gt, 1, none⟩ = some vc := (blk_cell ((Stay.of_grown HGW.out).blk BT6.out (Kd.S_ne SC6.out BT6.out (by decide))) 1).trans rfl); (have hft1 := blk_frozen ((Stay.of_grown HGW.out).blk BT6.out (Kd.S_ne SC6.out BT6.out (by decide))) 1); (obtain ⟨cs2, hcs2⟩ : ∃ a, a = cs ++ [(⟨⟨tb, cutS 70 nm⟩, gn, cutS 300 vl⟩ : S50)] := ⟨_, rfl⟩); rw [← hcs2] at SC7; have HC3 : Aside0 (cs2 = (chs.take (x6 + 1).toNat).map cutChange) := ⟨by rw [hcs2, HC2.out]; exact TS2.out⟩; clear hcs2; obtain ⟨A7, c7, rfl⟩ := Kd.S_slice SC7.out)
              have G7 := Aside0.mk (Stay.of_grown HGW.out)
              have hsb : Aside0 (∀ i, some i = vc.ownBlock → H0 ≤ i) := ⟨fun i hi => Kd.S_base SC6.out i hi.symm⟩
              have S7 := Aside0.mk (S_stay S6.out G7.out (fun k hk e => by have := hsb.out k e; omega))
              have BA7 := Aside0.mk (G7.out.blk BA6.out (Kd.S_ne SC6.out BA6.out (by decide)))
              have BB7 := Aside0.mk (G7.out.blk BB6.out (Kd.S_ne SC6.out BB6.out (by decide)))
              have BE7 := Aside0.mk (G7.out.blk BE6.out (Kd.S_ne SC6.out BE6.out (by decide)))
              have BT7 := Aside0.mk (G7.out.blk BT6.out (Kd.S_ne SC6.out BT6.out (by decide)))
              have B7 := Aside0.mk (G7.out.below B6.out (fun i hi => by have := hsb.out i hi; have := WH0.out; omega))
              have T7 : Aside0 (Stay (fun k => k = gt) w7 (w7.setCell ⟨gt, 1, none⟩ (.slice A7 cs2.length c7))) := ⟨(Stay.refl (fun k => k = gt) w7).set (.inl rfl) 1 _⟩
              have SC8 := Aside0.mk (Kd.S_set SC7.out BT7.out (by decide) 1 (.slice A7 cs2.length c7))
              have S8 := Aside0.mk (S_stay S7.out T7.out (fun k hk e => by have := GT0.out; omega))
              have BA8 := Aside0.mk (T7.out.blk BA7.out (by have := GT0.out; have := L1.out; omega))
              have BB8 := Aside0.mk (T7.out.blk BB7.out (by have := GT0.out; have := L2.out; omega))
              have BE8 := Aside0.mk (T7.out.blk BE7.out (by have := GT0.out; have := L3.out; omega))
              have BT8 := Aside0.mk (blk_put (cs := #[.int .u64 tid, vc]) BT7.out 1 (.slice A7 cs2.length c7) rfl)
              have B8 := Aside0.mk (T7.out.below B7.out (fun i hi => by have := GT0.out; have := WH0.out; omega))
              clear hy0 hy1 hy2 hy3 hzt1 hft1 BC6 S6 SC6 BA6 BB6 BE6 BT6 B6 HGW G7 hsb S7 BA7 BB7 BE7 BT7 B7 T7 SC7 HLN
              generalize w7.setCell ⟨gt, 1, none⟩ (.slice A7 cs2.length c7) = w8 at SC8 S8 BA8 BB8 BE8 BT8 B8 ⊢
              go_wp2_with fail
              go_roundg gk2
              case measure => omega
              case rel => exact ⟨x6 + 1, cs2, .slice A7 cs2.length c7, rfl, HC3, ⟨by have := HX2.out; omega⟩, by omega, by omega, by omega, BA8, BB8, BE8, BT8, SC8, S8, B8⟩
          · have hD2 : (decide (x6 < (chs.length : Int)) = true ∧ decide (x6 < 40) = false) ∨ decide (x6 < (chs.length : Int)) = false := by
              by_cases hh : x6 < (chs.length : Int)
              · exact .inl ⟨decide_eq_true hh, decide_eq_false (by omega)⟩
              · exact .inr (decide_eq_false hh)
            have HPQ2 := Aside0.mk hpq2
            clear hpq2
            rcases hD2 with ⟨dp2, dq2⟩ | dp2
            all_goals
              have HC3 : Aside0 (cs = (chs.take 40).map cutChange) := ⟨by
                have hpq2 := HPQ2.out
                rw [HC2.out]
                by_cases he : x6 = 40
                · rw [he]; rfl
                · rw [List.take_of_length_le (show chs.length ≤ x6.toNat by omega), List.take_of_length_le (show chs.length ≤ 40 by omega)]⟩
              obtain ⟨Ac, cc, rfl⟩ := Kd.S_slice SC2.out
              have hze1 : wr.cell? ⟨g3, 1, none⟩ = some v := (blk_cell BE2.out 1).trans rfl
              have hzt0 : wr.cell? ⟨gt, 0, none⟩ = some (.int .u64 tid) := (blk_cell BT2.out 0).trans rfl
              have hzt1 : wr.cell? ⟨gt, 1, none⟩ = some (.slice Ac cs.length cc) := (blk_cell BT2.out 1).trans rfl
              have HVL : Aside0 (∀ k, v.ownBlock = some k → k < H0) := ⟨(Kd.S_R S2.out).1⟩
              have HLN : Aside0 (acc.length ≤ 70) := ⟨by rw [HC.out, List.length_map, List.length_take]; omega⟩
              go_upto_region 4 with ((with_reducible refine gate_builtin (b := .append) (xs := #[.tmp 79, .tmp 81]) rfl ?_); at_builtin; refine Kd.S_append k47 (w0 := wr) w.heap.size rfl (.tmp 79) (.tmp 81) 23 47 (.agg #[(.int .u64 0), (.slice none 0 0)]) 32 rfl Try.underlying23 info47 rfl (by decide) (by omega) v acc (⟨tid, cs⟩ : S47) [.int .u64 tid, .slice Ac cs.length cc] (fun _ => True) (fun k => H0 ≤ k) rfl rfl ?aP ?aK ?aF ?aO ?aB ?aS ?aL ?_; (case aP => exact k47_mkM _ _ _ _ (Kd.R_lower (Kd.R_mono (Kd.R_bound (Kd.S_R SC2.out)) (fun k hk => hk.2.1)) WH0.out)); (case aK => exact (fun k hk => ⟨trivial, fun e => by have := HVL.out k e.symm; omega⟩)); (case aF => exact (fun _ _ => trivial)); (case aO => exact Kd.S_mono S2.out (fun k hk => ⟨trivial, by omega⟩)); (case aB => exact Below.refl _ _); (case aS => exact B2.out.size); (case aL => have := HLN.out; omega); intro v17 w17 ho hb hgw hat; have S17 := Aside0.mk ho; have HGW := Aside0.mk hgw; clear ho hb hgw hat; (have hze1 : w17.cell? ⟨g3, 1, none⟩ = some v := (blk_cell ((Stay.of_grown HGW.out).blk BE2.out (Kd.S_ne S2.out BE2.out (by decide))) 1).trans rfl); (have hfe1 := blk_frozen ((Stay.of_grown HGW.out).blk BE2.out (Kd.S_ne S2.out BE2.out (by decide))) 1); (obtain ⟨acc2, hacc2⟩ : ∃ c, c = acc ++ [(⟨tid, cs⟩ : S47)] := ⟨_, rfl⟩); rw [← hacc2] at S17; have HC4 : Aside0 (acc2 = (l0.take (x4 + 1).toNat).map cutTxn) := ⟨by rw [hacc2, HC.out, HC3.out]; exact TS.out⟩; clear hacc2; obtain ⟨A17, c17, rfl⟩ := Kd.S_slice S17.out)
              have G17 := Aside0.mk (Stay.of_grown HGW.out)
              have hsb : Aside0 (∀ i, some i = v.ownBlock → w.heap.size ≤ i) := ⟨fun i hi => Kd.S_base S2.out i hi.symm⟩
              have BA17 := Aside0.mk (G17.out.blk BA2.out (Kd.S_ne S2.out BA2.out (by decide)))
              have BB17 := Aside0.mk (G17.out.blk BB2.out (Kd.S_ne S2.out BB2.out (by decide)))
              have BE17 := Aside0.mk (G17.out.blk BE2.out (Kd.S_ne S2.out BE2.out (by decide)))
              have B17 := Aside0.mk (G17.out.below B2.out (fun i hi => hsb.out i hi))
              have T17 : Aside0 (Stay (fun k => k = g3) w17 (w17.setCell ⟨g3, 1, none⟩ (.slice A17 acc2.length c17))) := ⟨(Stay.refl (fun k => k = g3) w17).set (.inl rfl) 1 _⟩
              have S18 := Aside0.mk (Kd.S_set S17.out BE17.out (by decide) 1 (.slice A17 acc2.length c17))
              have BA18 := Aside0.mk (T17.out.blk BA17.out (by have := L12.out; have := L23.out; omega))
              have BB18 := Aside0.mk (T17.out.blk BB17.out (by have := L23.out; omega))
              have BE18 := Aside0.mk (blk_put (cs := #[.int .u32 a0, v]) BE17.out 1 (.slice A17 acc2.length c17) rfl)
              have B18 := Aside0.mk (T17.out.below B17.out (fun i hi => by have := L12.out; have := L23.out; have := W1.out; omega))
              clear hza1 hz1 hze1 hfe1 hzt0 hzt1 S17 BA17 BB17 BE17 B17 T17 BA2 BB2 BE2 BT2 SC2 S2 B2 HGW G17 hsb HVL
              generalize w17.setCell ⟨g3, 1, none⟩ (.slice A17 acc2.length c17) = w18 at S18 BA18 BB18 BE18 B18 ⊢
              go_wp2_with fail
              go_roundg gk1
              case measure => omega
              case rel => exact ⟨x4 + 1, acc2, .slice A17 acc2.length c17, rfl, HC4, ⟨by have := HX.out; omega⟩, by omega, by omega, by omega, BA18, BB18, BE18, S18, B18⟩
    · have hD : (decide (x4 < (l0.length : Int)) = true ∧ decide (x4 < 70) = false) ∨ decide (x4 < (l0.length : Int)) = false := by
        by_cases hh : x4 < (l0.length : Int)
        · exact .inl ⟨decide_eq_true hh, decide_eq_false (by omega)⟩
        · exact .inr (decide_eq_false hh)
      have HPQ := Aside0.mk hpq
      clear hpq
      rcases hD with ⟨dp, dq⟩ | dp
      all_goals
       have HC3 : Aside0 (acc = r2) := ⟨by
        have hpq := HPQ.out
        rw [HC.out, ← HF.out]
        by_cases he : x4 = 70
        · rw [he]; rfl
        · rw [List.take_of_length_le (show l0.length ≤ x4.toNat by omega), List.take_of_length_le (show l0.length ≤ 70 by omega)]⟩
       obtain ⟨Av, cv, rfl⟩ := Kd.S_slice S2.out
       have hze0 : wr.cell? ⟨g3, 0, none⟩ = some (.int .u32 a0) := (blk_cell BE2.out 0).trans rfl
       have hze1 : wr.cell? ⟨g3, 1, none⟩ = some (.slice Av acc.length cv) := (blk_cell BE2.out 1).trans rfl
       have hzb0 : wr.cell? ⟨g2, 0, none⟩ = some (.int .u32 0) := (blk_cell BB2.out 0).trans rfl
       have hzb1 : wr.cell? ⟨g2, 1, none⟩ = some (.slice none 0 0) := (blk_cell BB2.out 1).trans rfl
       have hfb0 := blk_frozen BB2.out 0
       have hfb1 := blk_frozen BB2.out 1
       go_wp2_with fail
       have T3 : Stay (fun k => k = g2) wr ((wr.setCell ⟨g2, 0, none⟩ (.int .u32 a0)).setCell ⟨g2, 1, none⟩ (.slice Av acc.length cv)) := ((Stay.refl (fun k => k = g2) wr).set (.inl rfl) 0 _).set (.inl rfl) 1 _
       have HS := Kd.S_set (Kd.S_set S2.out BB2.out (by decide) 0 (.int .u32 a0)) (blk_put (cs := #[.int .u32 0, .slice none 0 0]) BB2.out 0 (.int .u32 a0) rfl) (by decide) 1 (.slice Av acc.length cv)
       have HSF := Aside0.mk HS
       have BF := Aside0.mk (T3.below B2.out (fun i hi => by have := L12.out; have := W1.out; omega))
       clear HS T3
       refine bodyPost_ret (by simp [results, Try.results14, go_sem, hzb0, hzb1]; try rfl) rfl ?_
       exact ⟨_, rfl, by rw [← HC3.out]; exact HSF.out, BF.out⟩
end Go.Proofs.Ytgmdoapedhppmaa.PC

/- What an argument's reading by its type says, kind by kind: whole numbers, bools, strings, structs of two and three, slices. -/
namespace Go.Proofs.Ytgmdoapedhppmaa.Op
set_option linter.unusedVariables false
set_option linter.unusedSimpArgs false
open Go.Proofs.YtgmdoapedhppmaaW.PrintWords
section
variable {H : Type} (enc : TypeId × Value → H) (P : Program) (W : World)
/-- Whatever reads by type t is of kind d, and F holds of it. -/
def Opens (t : TypeId) {α : Type} (d : Kd α) (F : α → Prop) : Prop :=
  ∀ (fuel : Nat) (cs : List Value) (x : DataW H × List MemPlace), DataW.trod enc P W 0 (fun _ => true) true fuel t cs = some x → (∀ n ∈ x.1.weights P t, n ≤ reachBytes) → ∃ v : α, d.K W v cs ∧ F v
variable {enc P W}
theorem opens_int {t : TypeId} {k : IntKind} (ht : P.underlying t = some (.int k)) : Opens enc P W t (Kd.int k) (fun n => (Lit.int k n).wf = true) := by
  intro fuel cs x h _
  obtain ⟨n, rfl, rfl, hn⟩ := DataW.trod_int ht h
  exact ⟨n, rfl, hn⟩
theorem opens_bool {t : TypeId} (ht : P.underlying t = some .bool) : Opens enc P W t Kd.bool (fun _ => True) := by
  intro fuel cs x h _
  obtain ⟨n, rfl, rfl⟩ := DataW.trod_bool ht h
  exact ⟨n, rfl, trivial⟩
theorem opens_string {t : TypeId} (ht : P.underlying t = some .string) : Opens enc P W t Kd.string (fun s => s.size ≤ 140737488351232) := by
  intro fuel cs x h hw
  obtain ⟨s, rfl, rfl, _⟩ := DataW.trod_string ht h
  refine ⟨s, rfl, ?_⟩
  have := hw s.data.toList.length (by simp [DataW.weights])
  simpa [reachBytes] using this
theorem opens_struct2 {t : TypeId} {f0 f1 : Field} {α0 α1 β : Type} {d0 : Kd α0} {d1 : Kd α1} {F0 : α0 → Prop} {F1 : α1 → Prop} (mk : α0 → α1 → β) (f : β → α0 × α1) (hf : ∀ a b, f (mk a b) = (a, b))
    (ht : P.underlying t = some (.struct #[f0, f1])) (o0 : f0.offset = 0) (o1 : f1.offset = d0.sz) (c0 : P.cellsOf f0.type = d0.sz) (c1 : P.cellsOf f1.type = d1.sz) (ct : P.cellsOf t = d0.sz + d1.sz)
    (h0 : Opens enc P W f0.type d0 F0) (h1 : Opens enc P W f1.type d1 F1) : Opens enc P W t (Kd.iso (Kd.pair d0 d1) f) (fun x => F0 (f x).1 ∧ F1 (f x).2) := by
  intro fuel cs x h hw
  obtain ⟨xs, n, _, rfl, hl, hlen, hg⟩ := DataW.trod_struct ht h
  match xs, hlen with
  | [y0, y1], _ =>
    have g0 := hg 0 f0 rfl
    have g1 := hg 1 f1 rfl
    simp only [o0, o1, c0, c1, List.drop_zero] at g0 g1
    have hws : ∀ n, (n ∈ y0.1.weights P f0.type ∨ n ∈ y1.1.weights P f1.type) → n ≤ reachBytes := fun n hn => hw n (by
      simp only [DataW.weights, ht, List.map_cons, List.map_nil, DataW.weightsEach, List.mem_append]
      rcases hn with hn | hn
      · exact .inl hn
      · exact .inr (.inl hn))
    obtain ⟨v0, k0, p0⟩ := h0 n _ y0 g0 (fun n hn => hws n (.inl hn))
    obtain ⟨v1, k1, p1⟩ := h1 n _ y1 g1 (fun n hn => hws n (.inr hn))
    refine ⟨mk v0 v1, ?_, by show F0 (f (mk v0 v1)).1 ∧ F1 (f (mk v0 v1)).2; rw [hf]; exact ⟨p0, p1⟩⟩
    show (Kd.pair d0 d1).K W (f (mk v0 v1)) cs
    rw [hf]
    refine ⟨_, _, ?_, k0, k1⟩
    have e1 : (cs.drop d0.sz).take d1.sz = cs.drop d0.sz := List.take_of_length_le (by rw [List.length_drop]; omega)
    rw [e1, List.take_append_drop]
theorem opens_struct3 {t : TypeId} {f0 f1 f2 : Field} {α0 α1 α2 β : Type} {d0 : Kd α0} {d1 : Kd α1} {d2 : Kd α2} {F0 : α0 → Prop} {F1 : α1 → Prop} {F2 : α2 → Prop} (mk : α0 → α1 → α2 → β) (f : β → α0 × α1 × α2) (hf : ∀ a b c, f (mk a b c) = (a, b, c))
    (ht : P.underlying t = some (.struct #[f0, f1, f2])) (o0 : f0.offset = 0) (o1 : f1.offset = d0.sz) (o2 : f2.offset = d0.sz + d1.sz) (c0 : P.cellsOf f0.type = d0.sz) (c1 : P.cellsOf f1.type = d1.sz) (c2 : P.cellsOf f2.type = d2.sz) (ct : P.cellsOf t = d0.sz + d1.sz + d2.sz)
    (h0 : Opens enc P W f0.type d0 F0) (h1 : Opens enc P W f1.type d1 F1) (h2 : Opens enc P W f2.type d2 F2) : Opens enc P W t (Kd.iso (Kd.pair d0 (Kd.pair d1 d2)) f) (fun x => F0 (f x).1 ∧ F1 (f x).2.1 ∧ F2 (f x).2.2) := by
  intro fuel cs x h hw
  obtain ⟨xs, n, _, rfl, hl, hlen, hg⟩ := DataW.trod_struct ht h
  match xs, hlen with
  | [y0, y1, y2], _ =>
    have g0 := hg 0 f0 rfl
    have g1 := hg 1 f1 rfl
    have g2 := hg 2 f2 rfl
    simp only [o0, o1, o2, c0, c1, c2, List.drop_zero] at g0 g1 g2
    have hws : ∀ n, (n ∈ y0.1.weights P f0.type ∨ n ∈ y1.1.weights P f1.type ∨ n ∈ y2.1.weights P f2.type) → n ≤ reachBytes := fun n hn => hw n (by
      simp only [DataW.weights, ht, List.map_cons, List.map_nil, DataW.weightsEach, List.mem_append]
      rcases hn with hn | hn | hn
      · exact .inl hn
      · exact .inr (.inl hn)
      · exact .inr (.inr (.inl hn)))
    obtain ⟨v0, k0, p0⟩ := h0 n _ y0 g0 (fun n hn => hws n (.inl hn))
    obtain ⟨v1, k1, p1⟩ := h1 n _ y1 g1 (fun n hn => hws n (.inr (.inl hn)))
    obtain ⟨v2, k2, p2⟩ := h2 n _ y2 g2 (fun n hn => hws n (.inr (.inr hn)))
    refine ⟨mk v0 v1 v2, ?_, by show F0 (f (mk v0 v1 v2)).1 ∧ F1 (f (mk v0 v1 v2)).2.1 ∧ F2 (f (mk v0 v1 v2)).2.2; rw [hf]; exact ⟨p0, p1, p2⟩⟩
    show (Kd.pair d0 (Kd.pair d1 d2)).K W (f (mk v0 v1 v2)) cs
    rw [hf]
    refine ⟨_, _, ?_, k0, _, _, rfl, k1, k2⟩
    have e1 : ((cs.drop (d0.sz + d1.sz)).take d2.sz) = cs.drop (d0.sz + d1.sz) := List.take_of_length_le (by rw [List.length_drop]; omega)
    have e2 : (cs.drop d0.sz).take d1.sz ++ cs.drop (d0.sz + d1.sz) = cs.drop d0.sz := by
      rw [← List.drop_drop, List.take_append_drop]
    rw [e1, e2, List.take_append_drop]
theorem opens_slice {t e : TypeId} {α : Type} [Inhabited α] {d : Kd α} {F : α → Prop} (ht : P.underlying t = some (.slice e)) (ce : P.cellsOf e = d.sz) (he : Opens enc P W e d F) :
    Opens enc P W t (Kd.slice e d) (fun xs => (∀ x ∈ xs, F x) ∧ xs.length * P.bytesOf e ≤ 140737488351232) := by
  intro fuel cs x h hw
  rcases Deep.open_slice ht h with ⟨rfl, rfl⟩ | ⟨a, len, cap, m, n, D, Pl, rfl, _, hlc, hcm, hm, rfl, hel⟩
  · exact ⟨[], ⟨none, 0, rfl, Nat.le_refl _, rfl, by simp, fun h => absurd h (Nat.lt_irrefl 0)⟩, fun x hx => (List.not_mem_nil hx).elim, by simp⟩
  · have hmc : m = cap := by simpa using hm
    subst hmc
    have hwe : ∀ i, i < len → ∀ n ∈ (D i).weights P e, n ≤ reachBytes := fun i hi n hn => hw n (by
      simp only [DataW.weights, ht, List.mem_cons, List.mem_append]
      refine .inr (.inl ?_)
      have : ∀ (l : List Nat), i ∈ l → n ∈ DataW.weightsAll P e (l.map D) := by
        intro l
        induction l with
        | nil => intro h; cases h
        | cons y l ih =>
          intro h
          simp only [List.map_cons, DataW.weightsAll, List.mem_append]
          rcases List.mem_cons.1 h with rfl | h
          · exact .inl hn
          · exact .inr (ih h)
      exact this _ (List.mem_range.2 hi))
    have hws : (len + (m - len)) * P.bytesOf e ≤ reachBytes := hw _ (by
      simp only [DataW.weights, ht, List.length_map, List.length_range]
      exact List.mem_cons_self)
    have hex : ∀ i, i < len → ∃ v : α, (∃ cs', W.cells? 0 (a.add (i * P.cellsOf e)) (P.cellsOf e) = some cs' ∧ d.K W v cs') ∧ F v := by
      intro i hi
      obtain ⟨cs', h1, h2⟩ := hel i (by omega)
      obtain ⟨v, h3, h4⟩ := he n cs' _ h2 (hwe i hi)
      exact ⟨v, ⟨cs', h1, h3⟩, h4⟩
    obtain ⟨f, hf⟩ := Deep.choose_lt hex
    refine ⟨(List.range len).map f, ⟨some a, m, by simp, by simp; omega, by simp, ?_, fun _ => ⟨a, rfl, ?_⟩⟩, ?_, ?_⟩
    · simp only [List.length_map, List.length_range]
      unfold maxLen at hcm
      omega
    · intro j p hj
      have hjl : j < len := by
        have := (List.getElem?_eq_some_iff.1 hj).1
        simpa using this
      have hp : p = f j := by
        rw [List.getElem?_map, List.getElem?_range hjl] at hj
        simpa using hj.symm
      subst hp
      obtain ⟨⟨cs', h1, h2⟩, _⟩ := hf j hjl
      obtain ⟨_, hlen, hcell⟩ := World.cells?_some h1
      refine ⟨cs', by rw [hlen, ce], h2, fun i u hu => ?_⟩
      have hi : i < P.cellsOf e := by
        have := (List.getElem?_eq_some_iff.1 hu).1
        omega
      have := hcell i hi
      rw [Deep.add_add] at this
      rw [← ce, this, hu]
    · intro x hx
      obtain ⟨i, hi, rfl⟩ := List.mem_map.1 hx
      exact (hf i (List.mem_range.1 hi)).2
    · simp only [List.length_map, List.length_range]
      have : len * P.bytesOf e ≤ (len + (m - len)) * P.bytesOf e := Nat.mul_le_mul_right _ (by omega)
      unfold reachBytes at hws
      omega
/-- An argument: its weights are among all. -/
theorem opened {t : TypeId} {α : Type} {d : Kd α} {F : α → Prop} (h : Opens enc P W t d F) {v : Value} {x : DataW H} {ps : List MemPlace} (ht : DataW.Trod enc P W 0 (fun _ => true) true t v x ps) {ts : List TypeId} {ds : List (DataW H)} {j : Nat}
    (hsz : (DataW.weightsEach P ts ds).all (· ≤ reachBytes) = true) (hj : ts[j]? = some t) (hd : ds[j]? = some x) : ∃ y : α, d.K W y v.cells.toList ∧ F y := by
  obtain ⟨fuel, hf⟩ := ht
  exact h fuel _ (x, ps) hf (fun n hn => of_decide_eq_true (List.all_eq_true.1 hsz n (DataW.weights_mem_each hj hd n hn)))
end
end Go.Proofs.Ytgmdoapedhppmaa.Op

/- The arguments' kinds of this seat's laws: keys, rows, epochs, bytes. -/
namespace Go.Proofs.Ytgmdoapedhppmaa.PC
set_option linter.unusedVariables false
set_option linter.unusedSimpArgs false
open Go.RowKit Go.WideShapes Go.Proofs.YtgmdoapedhppmaaW.PrintWords Go.Proofs.YtgmdoapedhppmaaW.PrintLast Go.Proofs.YtgmdoapedhppmaaW.PrintMore
instance : Inhabited S28 := ⟨z28⟩
instance : Inhabited S50 := ⟨z50⟩
instance : Inhabited S47 := ⟨z47⟩
instance : Inhabited S57 := ⟨z57⟩
def okStr (s : ByteArray) : Prop := s.size ≤ 140737488351232
def okKey (x : S28) : Prop := (Lit.int .u8 x.f0).wf = true ∧ okStr x.f1
def okChange (x : S50) : Prop := okKey x.f0 ∧ True ∧ okStr x.f2
def okTxn (x : S47) : Prop := (Lit.int .u64 x.f0).wf = true ∧ (∀ y ∈ x.f1, okChange y) ∧ x.f1.length * 48 ≤ 140737488351232
def okRow (x : S57) : Prop := okKey x.f0 ∧ okStr x.f1
def okEpoch (x : Int × List S47) : Prop := (Lit.int .u32 x.1).wf = true ∧ (∀ y ∈ x.2, okTxn y) ∧ x.2.length * 32 ≤ 140737488351232
def okRows (x : List S57) : Prop := (∀ y ∈ x, okRow y) ∧ x.length * 40 ≤ 140737488351232
def okBytes (x : List Int) : Prop := (∀ y ∈ x, (Lit.int .u8 y).wf = true) ∧ x.length * 1 ≤ 140737488351232
section
variable {H : Type} {enc : TypeId × Value → H} {W : World}
theorem opens28 : Op.Opens enc Try.prog W 28 k28 okKey :=
  Op.opens_struct2 (F0 := fun n => (Lit.int .u8 n).wf = true) (F1 := okStr) S28.mk _ (fun _ _ => rfl) Try.underlying28 rfl rfl (by kernel_rfl) (by kernel_rfl) (by kernel_rfl) (Op.opens_int Try.underlying5) (Op.opens_string Try.underlying9)
theorem opens50 : Op.Opens enc Try.prog W 50 k50 okChange :=
  Op.opens_struct3 (F0 := okKey) (F1 := fun _ => True) (F2 := okStr) S50.mk _ (fun _ _ _ => rfl) Try.underlying50 rfl rfl rfl (by kernel_rfl) (by kernel_rfl) (by kernel_rfl) (by kernel_rfl) opens28 (Op.opens_bool Try.underlying4) (Op.opens_string Try.underlying9)
theorem bytes50 : Try.prog.bytesOf 50 = 48 := by kernel_rfl
theorem bytes47 : Try.prog.bytesOf 47 = 32 := by kernel_rfl
theorem bytes57 : Try.prog.bytesOf 57 = 40 := by kernel_rfl
theorem bytes5 : Try.prog.bytesOf 5 = 1 := by kernel_rfl
theorem opens45 : Op.Opens enc Try.prog W 45 (Kd.slice 50 k50) (fun xs => (∀ y ∈ xs, okChange y) ∧ xs.length * 48 ≤ 140737488351232) := by
  have := Op.opens_slice (enc := enc) (W := W) Try.underlying45 (d := k50) (by kernel_rfl) opens50
  rwa [bytes50] at this
theorem opens47 : Op.Opens enc Try.prog W 47 k47 okTxn :=
  Op.opens_struct2 (F0 := fun n => (Lit.int .u64 n).wf = true) (F1 := fun xs => (∀ y ∈ xs, okChange y) ∧ xs.length * 48 ≤ 140737488351232) S47.mk _ (fun _ _ => rfl) Try.underlying47 rfl rfl (by kernel_rfl) (by kernel_rfl) (by kernel_rfl) (Op.opens_int Try.underlying44) opens45
theorem opens23 : Op.Opens enc Try.prog W 23 (Kd.slice 47 k47) (fun xs => (∀ y ∈ xs, okTxn y) ∧ xs.length * 32 ≤ 140737488351232) := by
  have := Op.opens_slice (enc := enc) (W := W) Try.underlying23 (d := k47) (by kernel_rfl) opens47
  rwa [bytes47] at this
def k25 : Kd (Int × List S47) := Kd.iso (Kd.pair (Kd.int .u32) (Kd.slice 47 k47)) (fun x => x)
theorem cells25 : Try.prog.cellsOf 25 = 2 := by kernel_rfl
theorem cells22 : Try.prog.cellsOf 22 = 1 := by kernel_rfl
theorem cells23 : Try.prog.cellsOf 23 = 1 := by kernel_rfl
theorem opens25 : Op.Opens enc Try.prog W 25 k25 okEpoch := by
  have h := Op.opens_struct2 (enc := enc) (W := W) (d0 := Kd.int .u32) (d1 := Kd.slice 47 k47) (F0 := fun n => (Lit.int .u32 n).wf = true) (F1 := fun xs => (∀ y ∈ xs, okTxn y) ∧ xs.length * 32 ≤ 140737488351232) Prod.mk (fun x => x) (fun _ _ => rfl) Try.underlying25 rfl rfl cells22 cells23 cells25 (Op.opens_int Try.underlying22) opens23
  exact h
theorem opens57 : Op.Opens enc Try.prog W 57 k57 okRow :=
  Op.opens_struct2 (F0 := okKey) (F1 := okStr) S57.mk _ (fun _ _ => rfl) Try.underlying57 rfl rfl (by kernel_rfl) (by kernel_rfl) (by kernel_rfl) opens28 (Op.opens_string Try.underlying9)
theorem opens26 : Op.Opens enc Try.prog W 26 (Kd.slice 57 k57) okRows := by
  have := Op.opens_slice (enc := enc) (W := W) Try.underlying26 (d := k57) (by kernel_rfl) opens57
  rwa [bytes57] at this
theorem opens32 : Op.Opens enc Try.prog W 32 (Kd.slice 5 (Kd.int .u8)) okBytes := by
  have := Op.opens_slice (enc := enc) (W := W) Try.underlying32 (d := Kd.int .u8) (by kernel_rfl) (Op.opens_int Try.underlying5)
  rwa [bytes5] at this
variable {v : Value} {x : DataW H} {ps : List MemPlace} {ts : List TypeId} {ds : List (DataW H)} {j base : Nat} {r : Reach}
set_option maxRecDepth 100000 in
/-- A key that comes in. -/
theorem arg28 (hv : Value.okWide Try.prog W r base 28 v) (h : DataW.Trod enc Try.prog W 0 (fun _ => true) true 28 v x ps) (hsz : (DataW.weightsEach Try.prog ts ds).all (· ≤ reachBytes) = true) (hj : ts[j]? = some 28) (hd : ds[j]? = some x) :
    ∃ y : S28, v = .agg #[.int .u8 y.f0, .string y.f1] ∧ okKey y := by
  obtain ⟨cs, rfl, _⟩ := okWide_struct Try.underlying28 hv
  obtain ⟨y, hk, hF⟩ := Op.opened opens28 h hsz hj hd
  have hc : cs.toList = _ := k28_open hk
  exact ⟨y, by rw [← Array.toArray_toList (xs := cs), hc], hF⟩
set_option maxRecDepth 100000 in
theorem arg25 (hv : Value.okWide Try.prog W r base 25 v) (h : DataW.Trod enc Try.prog W 0 (fun _ => true) true 25 v x ps) (hsz : (DataW.weightsEach Try.prog ts ds).all (· ≤ reachBytes) = true) (hj : ts[j]? = some 25) (hd : ds[j]? = some x) :
    ∃ (n : Int) (l : List S47) (A : Option Addr) (c : Nat), v = .agg #[.int .u32 n, .slice A l.length c] ∧ l.length ≤ c ∧ Kd.C k47 W A l.length l ∧ okEpoch (n, l) := by
  obtain ⟨cs, rfl, _⟩ := okWide_struct Try.underlying25 hv
  obtain ⟨⟨n, l⟩, ⟨c0, c1, hc, h0, A, c, rfl, hl, hC⟩, hF⟩ := Op.opened opens25 h hsz hj hd
  have h0 : c0 = [.int .u32 n] := h0
  subst h0
  have hc : cs.toList = _ := hc
  exact ⟨n, l, A, c, by rw [← Array.toArray_toList (xs := cs), hc]; rfl, hl, hC, hF⟩
set_option maxRecDepth 100000 in
theorem arg26 (hv : Value.okWide Try.prog W r base 26 v) (h : DataW.Trod enc Try.prog W 0 (fun _ => true) true 26 v x ps) (hsz : (DataW.weightsEach Try.prog ts ds).all (· ≤ reachBytes) = true) (hj : ts[j]? = some 26) (hd : ds[j]? = some x) :
    ∃ (l : List S57) (A : Option Addr) (c : Nat), v = .slice A l.length c ∧ l.length ≤ c ∧ Kd.C k57 W A l.length l ∧ okRows l := by
  obtain ⟨a, len, cap, rfl⟩ := okWide_slice Try.underlying26 hv
  obtain ⟨l, ⟨A, c, hc, hl, hC⟩, hF⟩ := Op.opened opens26 h hsz hj hd
  simp only [Value.cells, List.cons.injEq, and_true] at hc
  exact ⟨l, A, c, hc, hl, hC, hF⟩
set_option maxRecDepth 100000 in
theorem arg32 (hv : Value.okWide Try.prog W r base 32 v) (h : DataW.Trod enc Try.prog W 0 (fun _ => true) true 32 v x ps) (hsz : (DataW.weightsEach Try.prog ts ds).all (· ≤ reachBytes) = true) (hj : ts[j]? = some 32) (hd : ds[j]? = some x) :
    ∃ (l : List Int) (A : Option Addr) (c : Nat), v = .slice A l.length c ∧ l.length ≤ c ∧ Kd.C (Kd.int .u8) W A l.length l ∧ okBytes l := by
  obtain ⟨a, len, cap, rfl⟩ := okWide_slice Try.underlying32 hv
  obtain ⟨l, ⟨A, c, hc, hl, hC⟩, hF⟩ := Op.opened opens32 h hsz hj hd
  simp only [Value.cells, List.cons.injEq, and_true] at hc
  exact ⟨l, A, c, hc, hl, hC, hF⟩
end
end Go.Proofs.Ytgmdoapedhppmaa.PC

/- The codec, plain: the few that are looked at; what Encode answers. -/
namespace Go.Proofs.Ytgmdoapedhppmaa.Code
set_option linter.unusedVariables false
set_option linter.unusedSimpArgs false
open Go.RowKit Go.Proofs.Ytgmdoapedhppmaa.PC Go.Proofs.Ytgmdoapedhppmaa.B Go.Proofs.Ytgmdoapedhppmaa.Pure Go.Proofs.YtgmdoapedhppmaaW.PrintWords Go.Proofs.YtgmdoapedhppmaaW.PrintLast Go.Proofs.YtgmdoapedhppmaaW.PrintMore
theorem u8_lo {x : Int} (h : (Lit.int .u8 x).wf = true) : 0 ≤ x := (u8_at x h).1
theorem few_w {n : Int} {l : List S47} (h : okEpoch (n, l)) : WEpoch n ((l.take 70).map cutTxn) := by
  obtain ⟨h1, h2, _⟩ := h
  have hn := u32_at n h1
  refine ⟨hn.1, by omega, fun t ht => ?_⟩
  obtain ⟨u, hu, rfl⟩ := List.mem_map.1 ht
  obtain ⟨g1, g2, _⟩ := h2 u (List.mem_of_mem_take hu)
  have hg := u64_at u.f0 g1
  refine ⟨hg.1, hg.2, fun c hc => ?_⟩
  obtain ⟨d, hd, rfl⟩ := List.mem_map.1 hc
  exact u8_lo (g2 d (List.mem_of_mem_take hd)).1.1
theorem few_len (l : List S47) : ((l.take 70).map cutTxn).length ≤ 70 := by rw [List.length_map, List.length_take]; omega
theorem fewRows_w {l : List S57} (h : okRows l) : WRows ((l.take 60).map cutRow) := by
  intro r hr
  obtain ⟨u, hu, rfl⟩ := List.mem_map.1 hr
  exact u8_lo (h.1 u (List.mem_of_mem_take hu)).1.1
theorem fewRows_len (l : List S57) : ((l.take 60).map cutRow).length ≤ 60 := by rw [List.length_map, List.length_take]; omega
theorem enc_two (n : Int) (l : List S47) (hw : WEpoch n l) : ∃ (a : List Int) (f : Int) (K : Nat), (∀ k, K ≤ k → codec_Encode.f k n l = some (a, f)) ∧ ((f = 0 ∧ GEpoch n l ∧ a = eEpoch n l) ∨ (f = 1 ∧ ¬ GEpoch n l ∧ a = [])) := by
  by_cases h : GEpoch n l
  · obtain ⟨K, hK⟩ := encode_ok n l h hw
    exact ⟨_, _, K, hK, .inl ⟨rfl, h, rfl⟩⟩
  · exact ⟨_, _, 0, fun k _ => encode_no n l h hw k, .inr ⟨rfl, h, rfl⟩⟩
theorem encR_two (l : List S57) (hw : WRows l) (hlen : l.length ≤ 1000) : ∃ (a : List Int) (f : Int) (K : Nat), (∀ k, K ≤ k → codec_EncodeRows.f k l = some (a, f)) ∧ ((f = 0 ∧ GRowsL key0 l ∧ a = eRows l) ∨ (f = 1 ∧ ¬ GRowsL key0 l ∧ a = [])) := by
  by_cases h : GRowsL key0 l
  · obtain ⟨K, hK⟩ := encodeR_ok l h hw hlen
    exact ⟨_, _, K, hK, .inl ⟨rfl, h, rfl⟩⟩
  · exact ⟨_, _, 0, fun k _ => encodeR_no l h hw (by omega) k, .inr ⟨rfl, h, rfl⟩⟩
theorem shown_f : tidemarklaw04_shown.f = some true := rfl
end Go.Proofs.Ytgmdoapedhppmaa.Code

/- Same and SameRows of the document's answer, plain: they say whether two are the same. -/
namespace Go.Proofs.Ytgmdoapedhppmaa.Code
set_option linter.unusedVariables false
set_option linter.unusedSimpArgs false
open Go.RowKit Go.Proofs.Ytgmdoapedhppmaa.PC Go.Proofs.Ytgmdoapedhppmaa.B Go.Proofs.Ytgmdoapedhppmaa.Pure Go.Proofs.YtgmdoapedhppmaaW.PrintWords Go.Proofs.YtgmdoapedhppmaaW.PrintLast Go.Proofs.YtgmdoapedhppmaaW.PrintMore
theorem str_ext {s t : ByteArray} : s.toList = t.toList ↔ s = t := by
  rw [ByteArray.toList_eq, ByteArray.toList_eq]
  exact ⟨fun h => ByteArray.ext (Array.ext' h), fun h => by rw [h]⟩
theorem ne_change (a b : S50) : ((!((a.f0.f0) == (b.f0.f0)) || (!(((a.f0.f1).toList) == ((b.f0.f1).toList)))) || (!((a.f1) == (b.f1)) || (!(((a.f2).toList) == ((b.f2).toList))))) = true ↔ a ≠ b := by
  obtain ⟨⟨a1, a2⟩, a3, a4⟩ := a
  obtain ⟨⟨b1, b2⟩, b3, b4⟩ := b
  simp only [Bool.or_eq_true, Bool.not_eq_true', beq_eq_false_iff_ne, ne_eq, str_ext, S50.mk.injEq, S28.mk.injEq]
  constructor
  · rintro ((h | h) | (h | h)) ⟨⟨e1, e2⟩, e3, e4⟩
    · exact h e1
    · exact h e2
    · exact h e3
    · exact h e4
  · intro h
    by_cases e1 : a1 = b1
    · by_cases e2 : a2 = b2
      · by_cases e3 : a3 = b3
        · by_cases e4 : a4 = b4
          · exact absurd ⟨⟨e1, e2⟩, e3, e4⟩ h
          · exact .inr (.inr e4)
        · exact .inr (.inl e3)
      · exact .inl (.inr e2)
    · exact .inl (.inl e1)
theorem same_l1 (n n' : Int) (l m : List S47) (i : Nat) (hi : i < l.length) (hi' : i < m.length) (hlen : (rd_T47 l (i : Int)).f1.length = (rd_T47 m (i : Int)).f1.length) (hmx : (rd_T47 l (i : Int)).f1.length ≤ 100000) : ∀ (d j : Nat), j + d = (rd_T47 l (i : Int)).f1.length →
    ((rd_T47 l (i : Int)).f1.drop j = (rd_T47 m (i : Int)).f1.drop j ∧ ∀ k, tidemarkref04_Same.l1 (k + d + 1) (i : Int) (j : Int) n l n' m = tidemarkref04_Same.l0 k (wrap64 ((i : Int) + 1)) n l n' m) ∨
    ((rd_T47 l (i : Int)).f1.drop j ≠ (rd_T47 m (i : Int)).f1.drop j ∧ ∀ k, tidemarkref04_Same.l1 (k + d + 1) (i : Int) (j : Int) n l n' m = some false) := by
  classical
  intro d
  induction d with
  | zero =>
    intro j hj
    refine .inl ⟨by rw [List.drop_of_length_le (by omega), List.drop_of_length_le (by omega)], fun k => ?_⟩
    simp only [tidemarkref04_Same.l1]
    rw [if_pos (show (0 : Int) ≤ (i : Int) by omega), if_pos (show (i : Int) < (l.length : Int) by omega), if_neg (by omega)]
  | succ d ih =>
    intro j hj
    have e1 := rd50_drop (rd_T47 l (i : Int)).f1 j (by omega)
    have e2 := rd50_drop (rd_T47 m (i : Int)).f1 j (by omega)
    have hw : wrap64 ((j : Int) + 1) = ((j + 1 : Nat) : Int) := wrap_succ j (by omega)
    have step : ∀ K, tidemarkref04_Same.l1 (K + 1) (i : Int) (j : Int) n l n' m = if rd_T50 (rd_T47 l (i : Int)).f1 (j : Int) ≠ rd_T50 (rd_T47 m (i : Int)).f1 (j : Int) then some false else tidemarkref04_Same.l1 K (i : Int) ((j + 1 : Nat) : Int) n l n' m := by
      intro K
      simp only [tidemarkref04_Same.l1]
      rw [if_pos (show (0 : Int) ≤ (i : Int) by omega), if_pos (show (i : Int) < (l.length : Int) by omega), if_pos (show (j : Int) < _ by omega), if_pos (show (0 : Int) ≤ (j : Int) by omega), if_pos (show (i : Int) < (m.length : Int) by omega), if_pos (show (j : Int) < _ by omega), hw]
      by_cases h : rd_T50 (rd_T47 l (i : Int)).f1 (j : Int) ≠ rd_T50 (rd_T47 m (i : Int)).f1 (j : Int)
      · rw [if_pos h, if_pos ((ne_change _ _).2 h)]
      · rw [if_neg h, if_neg (fun hh => h ((ne_change _ _).1 hh))]
    by_cases h : rd_T50 (rd_T47 l (i : Int)).f1 (j : Int) ≠ rd_T50 (rd_T47 m (i : Int)).f1 (j : Int)
    · refine .inr ⟨fun he => ?_, fun k => by rw [show k + (d + 1) + 1 = (k + d + 1) + 1 by omega, step, if_pos h]⟩
      rw [e1, e2] at he
      injection he with he _
      exact h he
    · rcases ih (j + 1) (by omega) with ⟨a, b⟩ | ⟨a, b⟩
      · exact .inl ⟨by rw [e1, e2, a, Classical.not_not.1 h], fun k => by rw [show k + (d + 1) + 1 = (k + d + 1) + 1 by omega, step, if_neg h]; exact b k⟩
      · refine .inr ⟨fun he => ?_, fun k => by rw [show k + (d + 1) + 1 = (k + d + 1) + 1 by omega, step, if_neg h]; exact b k⟩
        rw [e1, e2] at he
        injection he with _ he
        exact a he
theorem same_l0 (n n' : Int) (l m : List S47) (hlen : l.length = m.length) (hmx : l.length ≤ 100000) (hm : ∀ t ∈ l, t.f1.length ≤ 100000) : ∀ (d i : Nat), i + d = l.length →
    ∃ (s : Nat) (r : Bool), (∀ k, tidemarkref04_Same.l0 (k + s) (i : Int) n l n' m = some r) ∧ (r = true ↔ l.drop i = m.drop i) := by
  intro d
  induction d with
  | zero =>
    intro i hi
    refine ⟨1, true, fun k => ?_, by simp [List.drop_of_length_le (show l.length ≤ i by omega), List.drop_of_length_le (show m.length ≤ i by omega)]⟩
    simp only [tidemarkref04_Same.l0]
    rw [if_neg (by omega)]
  | succ d ih =>
    intro i hi
    obtain ⟨s, r, h1, h2⟩ := ih (i + 1) (by omega)
    have e1 := rd47_drop l i (by omega)
    have e2 := rd47_drop m i (by omega)
    have hml := hm (rd_T47 l (i : Int)) (by have : rd_T47 l (i : Int) ∈ l.drop i := by rw [e1]; exact List.mem_cons_self
                                            exact List.mem_of_mem_drop this)
    have hw : wrap64 ((i : Int) + 1) = ((i + 1 : Nat) : Int) := wrap_succ i (by omega)
    have step : ∀ K, tidemarkref04_Same.l0 (K + 2) (i : Int) n l n' m = if (rd_T47 l (i : Int)).f0 = (rd_T47 m (i : Int)).f0 ∧ (rd_T47 l (i : Int)).f1.length = (rd_T47 m (i : Int)).f1.length then tidemarkref04_Same.l1 K (i : Int) ((0 : Nat) : Int) n l n' m else some false := by
      intro K
      simp only [tidemarkref04_Same.l0, tidemarkref04_Same.j2]
      rw [if_pos (show (i : Int) < (l.length : Int) by omega), if_pos (show (0 : Int) ≤ (i : Int) by omega), if_pos (show (i : Int) < (m.length : Int) by omega)]
      by_cases a : (rd_T47 l (i : Int)).f0 = (rd_T47 m (i : Int)).f0
      · rw [if_pos a]
        by_cases b : (rd_T47 l (i : Int)).f1.length = (rd_T47 m (i : Int)).f1.length
        · rw [if_neg (by simp [b]), if_pos ⟨a, b⟩]
          rfl
        · have b' : ¬ ((rd_T47 l (i : Int)).f1.length : Int) = ((rd_T47 m (i : Int)).f1.length : Int) := by omega
          rw [if_pos (by simp [b']), if_neg (fun h => b h.2)]
      · rw [if_neg a, if_pos trivial, if_neg (fun h => a h.1)]
    by_cases hab : (rd_T47 l (i : Int)).f0 = (rd_T47 m (i : Int)).f0 ∧ (rd_T47 l (i : Int)).f1.length = (rd_T47 m (i : Int)).f1.length
    · rcases same_l1 n n' l m i (by omega) (by omega) hab.2 hml (rd_T47 l (i : Int)).f1.length 0 (by omega) with ⟨a, b⟩ | ⟨a, b⟩
      · refine ⟨s + (rd_T47 l (i : Int)).f1.length + 3, r, fun k => ?_, ?_⟩
        · rw [show k + (s + (rd_T47 l (i : Int)).f1.length + 3) = (k + s + (rd_T47 l (i : Int)).f1.length + 1) + 2 by omega, step, if_pos hab, b, hw, h1]
        · rw [h2, e1, e2]
          simp only [List.drop_zero] at a
          have ht : rd_T47 l (i : Int) = rd_T47 m (i : Int) := by
            revert hab a
            generalize rd_T47 l (i : Int) = x
            generalize rd_T47 m (i : Int) = y
            intro hab a
            obtain ⟨x1, x2⟩ := x
            obtain ⟨y1, y2⟩ := y
            simp only at a hab
            rw [a, hab.1]
          rw [ht]
          simp
      · refine ⟨(rd_T47 l (i : Int)).f1.length + 3, false, fun k => ?_, ?_⟩
        · rw [show k + ((rd_T47 l (i : Int)).f1.length + 3) = (k + (rd_T47 l (i : Int)).f1.length + 1) + 2 by omega, step, if_pos hab, b]
        · rw [e1, e2]
          simp only [List.drop_zero] at a
          constructor
          · intro h; cases h
          · intro h
            injection h with h _
            exact absurd (by rw [h]) a
    · refine ⟨2, false, fun k => by rw [step, if_neg hab], ?_⟩
      rw [e1, e2]
      constructor
      · intro h; cases h
      · intro h
        injection h with h _
        exact absurd ⟨by rw [h], by rw [h]⟩ hab
theorem same_f (n n' : Int) (l m : List S47) (hmx : l.length ≤ 100000) (hm : ∀ t ∈ l, t.f1.length ≤ 100000) : ∃ (K : Nat) (r : Bool), (∀ k, K ≤ k → tidemarkref04_Same.f k n l n' m = some r) ∧ (r = true ↔ n = n' ∧ l = m) := by
  by_cases h : n = n' ∧ l.length = m.length
  · obtain ⟨s, r, h1, h2⟩ := same_l0 n n' l m h.2 hmx hm l.length 0 (by omega)
    refine ⟨s + 1, r, fun k hk => ?_, by rw [h2]; simp [h.1]⟩
    unfold tidemarkref04_Same.f
    obtain ⟨K, rfl⟩ : ∃ K, k = (K + s) + 1 := ⟨k - s - 1, by omega⟩
    rw [if_pos h.1]
    simp only [tidemarkref04_Same.j0]
    rw [if_neg (by simp [h.2])]
    exact h1 K
  · refine ⟨1, false, fun k hk => ?_, ?_⟩
    · unfold tidemarkref04_Same.f
      obtain ⟨K, rfl⟩ : ∃ K, k = K + 1 := ⟨k - 1, by omega⟩
      simp only [tidemarkref04_Same.j0]
      by_cases a : n = n'
      · have b : ¬ (l.length : Int) = (m.length : Int) := by omega
        rw [if_pos a, if_pos (by simp [b])]
      · rw [if_neg a, if_pos trivial]
    · constructor
      · intro h; cases h
      · rintro ⟨a, b⟩
        exact absurd ⟨a, by rw [b]⟩ h
end Go.Proofs.Ytgmdoapedhppmaa.Code

/- SameRows of the document's answer, plain: it says whether two are the same. -/
namespace Go.Proofs.Ytgmdoapedhppmaa.Code
set_option linter.unusedVariables false
set_option linter.unusedSimpArgs false
open Go.RowKit Go.Proofs.Ytgmdoapedhppmaa.PC Go.Proofs.Ytgmdoapedhppmaa.B Go.Proofs.Ytgmdoapedhppmaa.Pure Go.Proofs.YtgmdoapedhppmaaW.PrintWords Go.Proofs.YtgmdoapedhppmaaW.PrintLast Go.Proofs.YtgmdoapedhppmaaW.PrintMore
theorem ne_row (a b : S57) : ((!((a.f0.f0) == (b.f0.f0)) || (!(((a.f0.f1).toList) == ((b.f0.f1).toList)))) || (!(((a.f1).toList) == ((b.f1).toList)))) = true ↔ a ≠ b := by
  obtain ⟨⟨a1, a2⟩, a3⟩ := a
  obtain ⟨⟨b1, b2⟩, b3⟩ := b
  simp only [Bool.or_eq_true, Bool.not_eq_true', beq_eq_false_iff_ne, ne_eq, str_ext, S57.mk.injEq, S28.mk.injEq]
  constructor
  · rintro ((h | h) | h) ⟨⟨e1, e2⟩, e3⟩
    · exact h e1
    · exact h e2
    · exact h e3
  · intro h
    by_cases e1 : a1 = b1
    · by_cases e2 : a2 = b2
      · by_cases e3 : a3 = b3
        · exact absurd ⟨⟨e1, e2⟩, e3⟩ h
        · exact .inr e3
      · exact .inl (.inr e2)
    · exact .inl (.inl e1)
theorem sameR_l0 (l m : List S57) (hlen : l.length = m.length) (hmx : l.length ≤ 100000) : ∀ (d i : Nat), i + d = l.length →
    ∃ (r : Bool), (∀ k, tidemarkref04_SameRows.l0 (k + d + 1) l m (i : Int) = some r) ∧ (r = true ↔ l.drop i = m.drop i) := by
  intro d
  induction d with
  | zero =>
    intro i hi
    refine ⟨true, fun k => ?_, by simp [List.drop_of_length_le (show l.length ≤ i by omega), List.drop_of_length_le (show m.length ≤ i by omega)]⟩
    simp only [tidemarkref04_SameRows.l0]
    rw [if_neg (by omega)]
  | succ d ih =>
    intro i hi
    obtain ⟨r, h1, h2⟩ := ih (i + 1) (by omega)
    have e1 := rd57_drop l i (by omega)
    have e2 := rd57_drop m i (by omega)
    have hw : wrap64 ((i : Int) + 1) = ((i + 1 : Nat) : Int) := wrap_succ i (by omega)
    have ne := ne_row (rd_T57 l (i : Int)) (rd_T57 m (i : Int))
    by_cases h : rd_T57 l (i : Int) = rd_T57 m (i : Int)
    · refine ⟨r, fun k => ?_, by rw [h2, e1, e2, h]; simp⟩
      rw [show k + (d + 1) + 1 = (k + d + 1) + 1 by omega]
      obtain ⟨K, hK⟩ : ∃ K, K = k + d + 1 := ⟨_, rfl⟩
      rw [← hK]
      simp only [tidemarkref04_SameRows.l0]
      rw [if_pos (show (i : Int) < (l.length : Int) by omega), if_pos (show (0 : Int) ≤ (i : Int) by omega), if_pos (show (i : Int) < (m.length : Int) by omega), if_neg (fun hh => ne.1 hh h), hw, hK]
      exact h1 k
    · refine ⟨false, fun k => ?_, ?_⟩
      · simp only [tidemarkref04_SameRows.l0]
        rw [if_pos (show (i : Int) < (l.length : Int) by omega), if_pos (show (0 : Int) ≤ (i : Int) by omega), if_pos (show (i : Int) < (m.length : Int) by omega), if_pos (ne.2 h)]
      · rw [e1, e2]
        constructor
        · intro h; cases h
        · intro hh
          injection hh with hh _
          exact absurd hh h
theorem sameR_f (l m : List S57) (hmx : l.length ≤ 100000) : ∃ (K : Nat) (r : Bool), (∀ k, K ≤ k → tidemarkref04_SameRows.f k l m = some r) ∧ (r = true ↔ l = m) := by
  by_cases h : l.length = m.length
  · obtain ⟨r, h1, h2⟩ := sameR_l0 l m h hmx l.length 0 (by omega)
    refine ⟨l.length + 1, r, fun k hk => ?_, by rw [h2]; simp⟩
    unfold tidemarkref04_SameRows.f
    obtain ⟨K, rfl⟩ : ∃ K, k = K + l.length + 1 := ⟨k - l.length - 1, by omega⟩
    rw [if_pos (by omega)]
    exact h1 K
  · refine ⟨0, false, fun k hk => ?_, ?_⟩
    · unfold tidemarkref04_SameRows.f
      rw [if_neg (by omega)]
    · constructor
      · intro h; cases h
      · intro e
        exact absurd (by rw [e]) h
end Go.Proofs.Ytgmdoapedhppmaa.Code

/- CodecUnlike: unlike epochs have unlike bytes, and so have rows; of any two epochs and rows. Walked by hand over plain facts. -/
namespace Go.Proofs.Ytgmdoapedhppmaa.PC
set_option linter.unusedVariables false
set_option linter.unusedSimpArgs false
open Go.RowKit Go.Proofs.Ytgmdoapedhppmaa.Code Go.Proofs.YtgmdoapedhppmaaW.PrintWords Go.Proofs.YtgmdoapedhppmaaW.PrintLast Go.Proofs.YtgmdoapedhppmaaW.PrintMore
theorem eEpoch_inj {n n' : Int} {l l' : List S47} (h : GEpoch n l) (h' : GEpoch n' l') (he : eEpoch n l = eEpoch n' l') : n = n' ∧ l = l' := by
  have h1 := decode_back n l h
  have h2 := decode_back n' l' h'
  rw [he, h2] at h1
  injection h1 with h1
  injection h1 with a b
  injection b with b _
  exact ⟨a.symm, b.symm⟩
theorem eRows_inj {l l' : List S57} (h : GRowsL key0 l) (h' : GRowsL key0 l') (hl : l.length ≤ 1000) (hl' : l'.length ≤ 1000) (he : eRows l = eRows l') : l = l' := by
  have h1 := decodeR_back l h hl
  have h2 := decodeR_back l' h' hl'
  rw [he, h2] at h1
  injection h1 with h1
  injection h1 with a _
  exact a.symm
theorem str_beq (a b : List Int) (ha : B.Bytes a) (hb : B.Bytes b) (r : Bool) (hr : r = true ↔ a = b) : ((strOfNums a).toList == (strOfNums b).toList) = r := by
  rw [Bool.eq_iff_iff, hr, beq_iff_eq, str_ext]
  exact ⟨fun h => by rw [← bytes_strs a ha, h, bytes_strs b hb], fun h => by rw [h]⟩
def unl10_T : Bool × List (List Nat × List Nat) := (true, [([], []), ([0], [0]), ([1], [1]), ([2], [2]), ([3, 2], [2, 3]), ([2, 4], [2, 4]), ([5, 2], [5]), ([6], [6]), ([7, 6], [6, 7]), ([6], [6]), ([9, 6], [6, 9]), ([8, 10, 6], [6, 8, 10]), ([6], [6]), ([6], [6]), ([12, 13, 6, 6], [6, 12, 13]), ([11, 14, 6], [6, 11, 14]), ([6, 15], [6, 15])])
def unl10_B : List Nat := [0, 1, 3, 7, 15, 31, 63, 127, 255, 127, 639, 2047, 127, 127, 12415, 32767, 65535]
theorem unl10_tab : rtab .any (opsOf Try.f7 10) = unl10_T := by kernel_rfl
theorem unl10_bits : waitsOk unl10_T.2 unl10_B = true := by kernel_rfl
def unl12_T : Bool × List (List Nat × List Nat) := (true, [([], []), ([0], [0]), ([1], [1]), ([2, 1], [1, 2]), ([3, 1, 1], [1, 3]), ([4], [4]), ([5, 4], [4, 5]), ([4, 6, 1], [1, 4, 6]), ([7, 4, 1], [1, 7]), ([8], [8]), ([9, 8], [8, 9]), ([8], [8]), ([11, 8], [8, 11]), ([10, 12, 8], [8, 10, 12]), ([8], [8]), ([8], [8]), ([14, 15, 8, 8], [8, 14, 15]), ([13, 16, 8], [8, 13, 16]), ([8, 17, 1], [1, 8, 17]), ([1, 18], [1, 18]), ([19, 16, 0, 1, 2, 3, 4, 5, 6, 7, 8, 9, 10, 11, 12, 13, 14, 15, 16, 17, 18, 19], [19])])
def unl12_B : List Nat := [0, 1, 3, 7, 15, 31, 63, 127, 255, 511, 1023, 511, 2559, 8191, 511, 511, 49663, 131071, 262143, 524287, 1048575]
theorem unl12_tab : rtab .any (opsOf Try.f7 12) = unl12_T := by kernel_rfl
theorem unl12_bits : waitsOk unl12_T.2 unl12_B = true := by kernel_rfl
set_option maxRecDepth 100000 in
set_option maxHeartbeats 4000000 in
theorem unlike_walk (k : Nat) (n1 : Int) (l1 : List S47) (A1 : Option Addr) (c1 : Nat) (n2 : Int) (l2 : List S47) (A2 : Option Addr) (c2 : Nat) (l3 : List S57) (A3 : Option Addr) (c3 : Nat) (l4 : List S57) (A4 : Option Addr) (c4 : Nat) (w : World)
    (x1 x2 : List S47) (x3 x4 : List S57) (ya yb yc yd : List Int) (ea eb ec ed : Int) (r1 r2 : Bool)
    (hl1 : Aside0 (l1.length ≤ c1)) (hC1 : Aside0 (Kd.C k47 w A1 l1.length l1)) (hl2 : Aside0 (l2.length ≤ c2)) (hC2 : Aside0 (Kd.C k47 w A2 l2.length l2)) (hl3 : Aside0 (l3.length ≤ c3)) (hC3 : Aside0 (Kd.C k57 w A3 l3.length l3)) (hl4 : Aside0 (l4.length ≤ c4)) (hC4 : Aside0 (Kd.C k57 w A4 l4.length l4))
    (E1 : Aside0 (tidemarklaw04_few.f n1 l1 = some (n1, x1))) (E2 : Aside0 (tidemarklaw04_few.f n2 l2 = some (n2, x2))) (E3 : Aside0 (tidemarklaw04_fewRows.f l3 = some x3)) (E4 : Aside0 (tidemarklaw04_fewRows.f l4 = some x4))
    (EA : Aside0 (codec_Encode.f k n1 x1 = some (ya, ea))) (EB : Aside0 (codec_Encode.f k n2 x2 = some (yb, eb))) (EC : Aside0 (codec_EncodeRows.f k x3 = some (yc, ec))) (ED : Aside0 (codec_EncodeRows.f k x4 = some (yd, ed)))
    (S1 : Aside0 (tidemarkref04_Same.f k n1 x1 n2 x2 = some r1)) (S2 : Aside0 (tidemarkref04_SameRows.f k x3 x4 = some r2))
    (HD : Aside0 (((ea = 0 ∧ eb = 0) ∧ ((strOfNums ya).toList == (strOfNums yb).toList) = r1) ∨ (ea ≠ 0 ∧ True) ∨ (ea = 0 ∧ eb ≠ 0)))
    (HD2 : Aside0 (((ec = 0 ∧ ed = 0) ∧ ((strOfNums yc).toList == (strOfNums yd).toList) = r2) ∨ (ec ≠ 0 ∧ True) ∨ (ec = 0 ∧ ed ≠ 0))) :
    Calls Try.prog 7 #[.agg #[.int .u32 n1, .slice A1 l1.length c1], .agg #[.int .u32 n2, .slice A2 l2.length c2], .slice A3 l3.length c3, .slice A4 l4.length c4] w fun e w' => e = .returned (.bool true) ∧ Below w.heap.size w w' := by
  have HB := Aside0.mk (Below.refl w.heap.size w)
  go_enter Try.func7, Try.ntmps7
  go_wp2_with (first | ((with_reducible refine gate_dst (N := 4) rfl ?_); refine box_event ?hg (N := 4) ?hd (cs := #[.int .u32 n1, .slice A1 l1.length c1]) (t := 25) ?hr ?_; (case hd => rfl); (case hg => rfl); (case hr => first | (go_simp; done) | (go_simp; rfl)); intro g4 hg4 w1 hbox hb; have BK4 := Aside0.mk hbox; have Hg4 := Aside0.mk hg4; have Hbg4 := Aside0.mk hb; clear hb hbox hg4) | ((with_reducible refine gate_dst (N := 5) rfl ?_); refine box_event ?hg (N := 5) ?hd (cs := #[.int .u32 n2, .slice A2 l2.length c2]) (t := 25) ?hr ?_; (case hd => rfl); (case hg => rfl); (case hr => first | (go_simp; done) | (go_simp; rfl)); intro g5 hg5 w2 hbox hb; have BK5 := Aside0.mk hbox; have Hg5 := Aside0.mk hg5; have Hbg5 := Aside0.mk hb; clear hb hbox hg5))
  have Gg4 : Aside0 (w.heap.size ≤ g4) := ⟨by rw [Hg4.out]; exact HB.out.size⟩
  have HB_ := Aside0.mk (below_step HB.out Hbg4.out); clear HB; have HB := HB_; clear HB_
  clear Hg4 Hbg4
  have ne_g4_g5 : g4 ≠ g5 := by have := blk_lt BK4.out; rw [Hg5.out]; omega
  have ne_g5_g4 : g5 ≠ g4 := fun e => ne_g4_g5 e.symm
  have Gg5 : Aside0 (w.heap.size ≤ g5) := ⟨by rw [Hg5.out]; exact HB.out.size⟩
  have HB_ := Aside0.mk (below_step HB.out Hbg5.out); clear HB; have HB := HB_; clear HB_
  have BK4_ := Aside0.mk (blk_below BK4.out Hbg5.out); clear BK4; have BK4 := BK4_; clear BK4_
  clear Hg5 Hbg5
  refine (tidemarklaw04_shown.calls true _ rfl).mono ?_
  rintro e w3 ⟨rfl, hb⟩
  have Hb := Aside0.mk hb; clear hb
  have HB_ := Aside0.mk (below_step HB.out Hb.out); clear HB; have HB := HB_; clear HB_
  have BK4_ := Aside0.mk (blk_below BK4.out Hb.out); clear BK4; have BK4 := BK4_; clear BK4_
  have BK5_ := Aside0.mk (blk_below BK5.out Hb.out); clear BK5; have BK5 := BK5_; clear BK5_
  clear Hb
  have zg40 : w3.cell? ⟨g4, 0, none⟩ = some (.int .u32 n1) := (blk_cell BK4.out 0).trans rfl; have fzg40 := blk_frozen BK4.out 0
  have zg41 : w3.cell? ⟨g4, 1, none⟩ = some (.slice A1 l1.length c1) := (blk_cell BK4.out 1).trans rfl; have fzg41 := blk_frozen BK4.out 1
  go_wp2_with fail
  refine (tidemarklaw04_few.calls n1 A1 c1 l1 n1 x1 _ (Kd.C_below hC1.out HB.out) hl1.out E1.out).mono ?_
  rintro e w4 ⟨v4, rfl, hr, hb⟩
  obtain ⟨AX1, cX1, rfl⟩ := Kd.S_slice hr
  have Hb := Aside0.mk hb; have Hr := Aside0.mk hr; clear hb hr
  have X1 := Aside0.mk (Kd.S_lower Hr.out HB.out.size); clear Hr
  have HB_ := Aside0.mk (below_step HB.out Hb.out); clear HB; have HB := HB_; clear HB_
  have BK4_ := Aside0.mk (blk_below BK4.out Hb.out); clear BK4; have BK4 := BK4_; clear BK4_
  have BK5_ := Aside0.mk (blk_below BK5.out Hb.out); clear BK5; have BK5 := BK5_; clear BK5_
  clear Hb
  clear zg40 fzg40 zg41 fzg41
  have zg40 : w4.cell? ⟨g4, 0, none⟩ = some (.int .u32 n1) := (blk_cell BK4.out 0).trans rfl; have fzg40 := blk_frozen BK4.out 0
  have zg41 : w4.cell? ⟨g4, 1, none⟩ = some (.slice A1 l1.length c1) := (blk_cell BK4.out 1).trans rfl; have fzg41 := blk_frozen BK4.out 1
  go_upto_region 3 with (fail)
  clear zg40 fzg40 zg41 fzg41
  have HB_ := Aside0.mk (below_set (g := g4) (j := 1) (v := .slice AX1 x1.length cX1) (below_set (g := g4) (j := 0) (v := .int .u32 n1) (HB.out) Gg4.out) Gg4.out)
  have BK5_ := Aside0.mk (blk_far (blk_far (BK5.out) (p := ⟨g4, 0, none⟩) ne_g5_g4 (.int .u32 n1)) (p := ⟨g4, 1, none⟩) ne_g5_g4 (.slice AX1 x1.length cX1))
  have X1_ := Aside0.mk (Kd.S_set (Kd.S_set (X1.out) (BK4.out) (by decide) 0 (.int .u32 n1)) (blk_put (cs := #[.int .u32 n1, .slice A1 l1.length c1]) (BK4.out) 0 (.int .u32 n1) rfl) (by decide) 1 (.slice AX1 x1.length cX1))
  have BK4_ := Aside0.mk (blk_put (cs := #[.int .u32 n1, .slice A1 l1.length c1]) (blk_put (cs := #[.int .u32 n1, .slice A1 l1.length c1]) (BK4.out) 0 (.int .u32 n1) rfl) 1 (.slice AX1 x1.length cX1) rfl)
  clear HB BK5 X1 BK4
  have HB := HB_; clear HB_
  have BK5 := BK5_; clear BK5_
  have X1 := X1_; clear X1_
  have BK4 := BK4_; clear BK4_
  generalize ((w4.setCell ⟨g4, 0, none⟩ (.int .u32 n1)).setCell ⟨g4, 1, none⟩ (.slice AX1 x1.length cX1)) = w5 at HB BK5 X1 BK4 ⊢
  have zg50 : w5.cell? ⟨g5, 0, none⟩ = some (.int .u32 n2) := (blk_cell BK5.out 0).trans rfl; have fzg50 := blk_frozen BK5.out 0
  have zg51 : w5.cell? ⟨g5, 1, none⟩ = some (.slice A2 l2.length c2) := (blk_cell BK5.out 1).trans rfl; have fzg51 := blk_frozen BK5.out 1
  go_wp2_with fail
  refine (tidemarklaw04_few.calls n2 A2 c2 l2 n2 x2 _ (Kd.C_below hC2.out HB.out) hl2.out E2.out).mono ?_
  rintro e w6 ⟨v6, rfl, hr, hb⟩
  obtain ⟨AX2, cX2, rfl⟩ := Kd.S_slice hr
  have Hb := Aside0.mk hb; have Hr := Aside0.mk hr; clear hb hr
  have X2 := Aside0.mk (Kd.S_lower Hr.out HB.out.size); clear Hr
  have HB_ := Aside0.mk (below_step HB.out Hb.out); clear HB; have HB := HB_; clear HB_
  have BK4_ := Aside0.mk (blk_below BK4.out Hb.out); clear BK4; have BK4 := BK4_; clear BK4_
  have BK5_ := Aside0.mk (blk_below BK5.out Hb.out); clear BK5; have BK5 := BK5_; clear BK5_
  have X1_ := Aside0.mk (Kd.S_below X1.out Hb.out); clear X1; have X1 := X1_; clear X1_
  clear Hb
  clear zg50 fzg50 zg51 fzg51
  have zg50 : w6.cell? ⟨g5, 0, none⟩ = some (.int .u32 n2) := (blk_cell BK5.out 0).trans rfl; have fzg50 := blk_frozen BK5.out 0
  have zg51 : w6.cell? ⟨g5, 1, none⟩ = some (.slice A2 l2.length c2) := (blk_cell BK5.out 1).trans rfl; have fzg51 := blk_frozen BK5.out 1
  go_upto_region 4 with (fail)
  clear zg50 fzg50 zg51 fzg51
  have HB_ := Aside0.mk (below_set (g := g5) (j := 1) (v := .slice AX2 x2.length cX2) (below_set (g := g5) (j := 0) (v := .int .u32 n2) (HB.out) Gg5.out) Gg5.out)
  have BK4_ := Aside0.mk (blk_far (blk_far (BK4.out) (p := ⟨g5, 0, none⟩) ne_g4_g5 (.int .u32 n2)) (p := ⟨g5, 1, none⟩) ne_g4_g5 (.slice AX2 x2.length cX2))
  have X1_ := Aside0.mk (Kd.S_set (Kd.S_set (X1.out) (BK5.out) (by decide) 0 (.int .u32 n2)) (blk_put (cs := #[.int .u32 n2, .slice A2 l2.length c2]) (BK5.out) 0 (.int .u32 n2) rfl) (by decide) 1 (.slice AX2 x2.length cX2))
  have X2_ := Aside0.mk (Kd.S_set (Kd.S_set (X2.out) (BK5.out) (by decide) 0 (.int .u32 n2)) (blk_put (cs := #[.int .u32 n2, .slice A2 l2.length c2]) (BK5.out) 0 (.int .u32 n2) rfl) (by decide) 1 (.slice AX2 x2.length cX2))
  have BK5_ := Aside0.mk (blk_put (cs := #[.int .u32 n2, .slice A2 l2.length c2]) (blk_put (cs := #[.int .u32 n2, .slice A2 l2.length c2]) (BK5.out) 0 (.int .u32 n2) rfl) 1 (.slice AX2 x2.length cX2) rfl)
  clear HB BK4 X1 X2 BK5
  have HB := HB_; clear HB_
  have BK4 := BK4_; clear BK4_
  have X1 := X1_; clear X1_
  have X2 := X2_; clear X2_
  have BK5 := BK5_; clear BK5_
  generalize ((w6.setCell ⟨g5, 0, none⟩ (.int .u32 n2)).setCell ⟨g5, 1, none⟩ (.slice AX2 x2.length cX2)) = w7 at HB BK4 X1 X2 BK5 ⊢
  go_wp2_with fail
  refine (tidemarklaw04_fewRows.calls A3 c3 l3 x3 _ (Kd.C_below hC3.out HB.out) hl3.out E3.out).mono ?_
  rintro e w8 ⟨v8, rfl, hr, hb⟩
  obtain ⟨AX3, cX3, rfl⟩ := Kd.R_slice hr
  have Hb := Aside0.mk hb; have Hr := Aside0.mk hr; clear hb hr
  have X3 := Aside0.mk (Kd.R_lower Hr.out HB.out.size); clear Hr
  have HB_ := Aside0.mk (below_step HB.out Hb.out); clear HB; have HB := HB_; clear HB_
  have BK4_ := Aside0.mk (blk_below BK4.out Hb.out); clear BK4; have BK4 := BK4_; clear BK4_
  have BK5_ := Aside0.mk (blk_below BK5.out Hb.out); clear BK5; have BK5 := BK5_; clear BK5_
  have X1_ := Aside0.mk (Kd.S_below X1.out Hb.out); clear X1; have X1 := X1_; clear X1_
  have X2_ := Aside0.mk (Kd.S_below X2.out Hb.out); clear X2; have X2 := X2_; clear X2_
  clear Hb
  go_wp2_with fail
  refine (tidemarklaw04_fewRows.calls A4 c4 l4 x4 _ (Kd.C_below hC4.out HB.out) hl4.out E4.out).mono ?_
  rintro e w9 ⟨v9, rfl, hr, hb⟩
  obtain ⟨AX4, cX4, rfl⟩ := Kd.R_slice hr
  have Hb := Aside0.mk hb; have Hr := Aside0.mk hr; clear hb hr
  have X4 := Aside0.mk (Kd.R_lower Hr.out HB.out.size); clear Hr
  have HB_ := Aside0.mk (below_step HB.out Hb.out); clear HB; have HB := HB_; clear HB_
  have BK4_ := Aside0.mk (blk_below BK4.out Hb.out); clear BK4; have BK4 := BK4_; clear BK4_
  have BK5_ := Aside0.mk (blk_below BK5.out Hb.out); clear BK5; have BK5 := BK5_; clear BK5_
  have X1_ := Aside0.mk (Kd.S_below X1.out Hb.out); clear X1; have X1 := X1_; clear X1_
  have X2_ := Aside0.mk (Kd.S_below X2.out Hb.out); clear X2; have X2 := X2_; clear X2_
  have X3_ := Aside0.mk (Kd.R_below X3.out Hb.out); clear X3; have X3 := X3_; clear X3_
  clear Hb
  go_upto_region 6 with (fail)
  have zg40 : w9.cell? ⟨g4, 0, none⟩ = some (.int .u32 n1) := (blk_cell BK4.out 0).trans rfl; have fzg40 := blk_frozen BK4.out 0
  have zg41 : w9.cell? ⟨g4, 1, none⟩ = some (.slice AX1 x1.length cX1) := (blk_cell BK4.out 1).trans rfl; have fzg41 := blk_frozen BK4.out 1
  go_wp2_with fail
  refine (codec_Encode.calls k n1 AX1 cX1 x1 ya ea _ (Kd.S_reads' X1.out).2.2 (Kd.S_reads' X1.out).2.1 EA.out).mono ?_
  rintro e w10 ⟨v10, rfl, hr, hb⟩
  obtain ⟨AYA, cYA, rfl⟩ := Kd.R_slice hr
  have Hb := Aside0.mk hb; have Hr := Aside0.mk hr; clear hb hr
  have YA := Aside0.mk (Kd.R_lower Hr.out HB.out.size); clear Hr
  have HB_ := Aside0.mk (below_step HB.out Hb.out); clear HB; have HB := HB_; clear HB_
  have BK4_ := Aside0.mk (blk_below BK4.out Hb.out); clear BK4; have BK4 := BK4_; clear BK4_
  have BK5_ := Aside0.mk (blk_below BK5.out Hb.out); clear BK5; have BK5 := BK5_; clear BK5_
  have X1_ := Aside0.mk (Kd.S_below X1.out Hb.out); clear X1; have X1 := X1_; clear X1_
  have X2_ := Aside0.mk (Kd.S_below X2.out Hb.out); clear X2; have X2 := X2_; clear X2_
  have X3_ := Aside0.mk (Kd.R_below X3.out Hb.out); clear X3; have X3 := X3_; clear X3_
  have X4_ := Aside0.mk (Kd.R_below X4.out Hb.out); clear X4; have X4 := X4_; clear X4_
  clear Hb
  clear zg40 fzg40 zg41 fzg41
  have zg50 : w10.cell? ⟨g5, 0, none⟩ = some (.int .u32 n2) := (blk_cell BK5.out 0).trans rfl; have fzg50 := blk_frozen BK5.out 0
  have zg51 : w10.cell? ⟨g5, 1, none⟩ = some (.slice AX2 x2.length cX2) := (blk_cell BK5.out 1).trans rfl; have fzg51 := blk_frozen BK5.out 1
  go_wp2_with fail
  refine (codec_Encode.calls k n2 AX2 cX2 x2 yb eb _ (Kd.S_reads' X2.out).2.2 (Kd.S_reads' X2.out).2.1 EB.out).mono ?_
  rintro e w11 ⟨v11, rfl, hr, hb⟩
  obtain ⟨AYB, cYB, rfl⟩ := Kd.R_slice hr
  have Hb := Aside0.mk hb; have Hr := Aside0.mk hr; clear hb hr
  have YB := Aside0.mk (Kd.R_lower Hr.out HB.out.size); clear Hr
  have HB_ := Aside0.mk (below_step HB.out Hb.out); clear HB; have HB := HB_; clear HB_
  have BK4_ := Aside0.mk (blk_below BK4.out Hb.out); clear BK4; have BK4 := BK4_; clear BK4_
  have BK5_ := Aside0.mk (blk_below BK5.out Hb.out); clear BK5; have BK5 := BK5_; clear BK5_
  have X1_ := Aside0.mk (Kd.S_below X1.out Hb.out); clear X1; have X1 := X1_; clear X1_
  have X2_ := Aside0.mk (Kd.S_below X2.out Hb.out); clear X2; have X2 := X2_; clear X2_
  have X3_ := Aside0.mk (Kd.R_below X3.out Hb.out); clear X3; have X3 := X3_; clear X3_
  have X4_ := Aside0.mk (Kd.R_below X4.out Hb.out); clear X4; have X4 := X4_; clear X4_
  have YA_ := Aside0.mk (Kd.R_below YA.out Hb.out); clear YA; have YA := YA_; clear YA_
  clear Hb
  clear zg50 fzg50 zg51 fzg51
  go_wp2_with fail
  refine (codec_EncodeRows.calls k AX3 cX3 x3 yc ec _ (Kd.R_reads' X3.out).2.2 (Kd.R_reads' X3.out).2.1 EC.out).mono ?_
  rintro e w12 ⟨v12, rfl, hr, hb⟩
  obtain ⟨AYC, cYC, rfl⟩ := Kd.R_slice hr
  have Hb := Aside0.mk hb; have Hr := Aside0.mk hr; clear hb hr
  have YC := Aside0.mk (Kd.R_lower Hr.out HB.out.size); clear Hr
  have HB_ := Aside0.mk (below_step HB.out Hb.out); clear HB; have HB := HB_; clear HB_
  have BK4_ := Aside0.mk (blk_below BK4.out Hb.out); clear BK4; have BK4 := BK4_; clear BK4_
  have BK5_ := Aside0.mk (blk_below BK5.out Hb.out); clear BK5; have BK5 := BK5_; clear BK5_
  have X1_ := Aside0.mk (Kd.S_below X1.out Hb.out); clear X1; have X1 := X1_; clear X1_
  have X2_ := Aside0.mk (Kd.S_below X2.out Hb.out); clear X2; have X2 := X2_; clear X2_
  have X3_ := Aside0.mk (Kd.R_below X3.out Hb.out); clear X3; have X3 := X3_; clear X3_
  have X4_ := Aside0.mk (Kd.R_below X4.out Hb.out); clear X4; have X4 := X4_; clear X4_
  have YA_ := Aside0.mk (Kd.R_below YA.out Hb.out); clear YA; have YA := YA_; clear YA_
  have YB_ := Aside0.mk (Kd.R_below YB.out Hb.out); clear YB; have YB := YB_; clear YB_
  clear Hb
  go_wp2_with fail
  refine (codec_EncodeRows.calls k AX4 cX4 x4 yd ed _ (Kd.R_reads' X4.out).2.2 (Kd.R_reads' X4.out).2.1 ED.out).mono ?_
  rintro e w13 ⟨v13, rfl, hr, hb⟩
  obtain ⟨AYD, cYD, rfl⟩ := Kd.R_slice hr
  have Hb := Aside0.mk hb; have Hr := Aside0.mk hr; clear hb hr
  have YD := Aside0.mk (Kd.R_lower Hr.out HB.out.size); clear Hr
  have HB_ := Aside0.mk (below_step HB.out Hb.out); clear HB; have HB := HB_; clear HB_
  have BK4_ := Aside0.mk (blk_below BK4.out Hb.out); clear BK4; have BK4 := BK4_; clear BK4_
  have BK5_ := Aside0.mk (blk_below BK5.out Hb.out); clear BK5; have BK5 := BK5_; clear BK5_
  have X1_ := Aside0.mk (Kd.S_below X1.out Hb.out); clear X1; have X1 := X1_; clear X1_
  have X2_ := Aside0.mk (Kd.S_below X2.out Hb.out); clear X2; have X2 := X2_; clear X2_
  have X3_ := Aside0.mk (Kd.R_below X3.out Hb.out); clear X3; have X3 := X3_; clear X3_
  have X4_ := Aside0.mk (Kd.R_below X4.out Hb.out); clear X4; have X4 := X4_; clear X4_
  have YA_ := Aside0.mk (Kd.R_below YA.out Hb.out); clear YA; have YA := YA_; clear YA_
  have YB_ := Aside0.mk (Kd.R_below YB.out Hb.out); clear YB; have YB := YB_; clear YB_
  have YC_ := Aside0.mk (Kd.R_below YC.out Hb.out); clear YC; have YC := YC_; clear YC_
  clear Hb
  go_upto_region 10 with (fail)
  go_cut [63] (fun v63 wc => v63 = .bool false ∧ Aside0 (Below w13.heap.size w13 wc))
  case first =>
    rcases HD.out with ⟨he, hh⟩ | ⟨he1, he2⟩ | ⟨he1, he2⟩
    · obtain ⟨rfl, rfl⟩ := he
      have HE := hh
      clear hh
      refine start_ (n := 17) (S := fun W' => Below w13.heap.size w13 W') (ds := []) #[false, false, false, false, false, false, false, false, false, false, false, false, false, false, false, false, false] (by kernel_rfl) rfl rfl (below_drew (Below.refl w13.heap.size w13)) (fun hHeld => ?_)
      refine with_tabW unl10_tab unl10_bits (fun HT_ HW_ => ?_)
      refine pu_ (i := 0) (N := some 47) (v := ?_) (a' := ?_) rfl rfl (any_of HT_.out (by kernel_rfl)) (by rfl) ?_ ?_ ?_; rotate_left; (focus intro w'; go_simp; all_goals with_reducible rfl); rotate_left; (focus simp only [Act.put, List.setIfInBounds_toArray, List.set_cons_zero, List.set_cons_succ] <;> rfl)
      refine pu_ (i := 1) (N := some 48) (v := ?_) (a' := ?_) rfl rfl (any_of HT_.out (by kernel_rfl)) (by rfl) ?_ ?_ ?_; rotate_left; (focus intro w'; go_simp; all_goals with_reducible rfl); rotate_left; (focus simp only [Act.put, List.setIfInBounds_toArray, List.set_cons_zero, List.set_cons_succ] <;> rfl)
      refine pu_ (i := 2) (N := some 49) (v := ?_) (a' := ?_) rfl rfl (any_of HT_.out (by kernel_rfl)) (by rfl) ?_ ?_ ?_; rotate_left; (focus intro w'; go_simp; all_goals with_reducible rfl); rotate_left; (focus simp only [Act.put, List.setIfInBounds_toArray, List.set_cons_zero, List.set_cons_succ] <;> rfl)
      refine pu_ (i := 3) (N := some 50) (v := ?_) (a' := ?_) rfl rfl (any_of HT_.out (by kernel_rfl)) (by rfl) ?_ ?_ ?_; rotate_left; (focus intro w'; go_simp; all_goals with_reducible rfl); rotate_left; (focus simp only [Act.put, List.setIfInBounds_toArray, List.set_cons_zero, List.set_cons_succ] <;> rfl)
      refine pu_ (i := 4) (N := some 51) (v := ?_) (a' := ?_) rfl rfl (any_of HT_.out (by kernel_rfl)) (by rfl) ?_ ?_ ?_; rotate_left; (focus intro w'; go_simp; all_goals with_reducible rfl); rotate_left; (focus simp only [Act.put, List.setIfInBounds_toArray, List.set_cons_zero, List.set_cons_succ] <;> rfl)
      refine pu_ (i := 5) (N := some 52) (v := ?_) (a' := ?_) rfl rfl (any_of HT_.out (by kernel_rfl)) (by rfl) ?_ ?_ ?_; rotate_left; (focus intro w'; go_simp; all_goals with_reducible rfl); rotate_left; (focus simp only [Act.put, List.setIfInBounds_toArray, List.set_cons_zero, List.set_cons_succ] <;> rfl)
      refine pu_ (i := 6) (N := some 53) (v := ?_) (a' := ?_) rfl rfl (any_of HT_.out (by kernel_rfl)) (by rfl) ?_ ?_ ?_; rotate_left; (focus intro w'; go_simp; all_goals with_reducible rfl); rotate_left; (focus simp only [Act.put, List.setIfInBounds_toArray, List.set_cons_zero, List.set_cons_succ] <;> rfl)
      refine pu_ (i := 7) (N := some 54) (v := ?_) (a' := ?_) rfl rfl (any_of HT_.out (by kernel_rfl)) (by rfl) ?_ ?_ ?_; rotate_left; (focus intro w'; go_simp; all_goals with_reducible rfl); rotate_left; (focus simp only [Act.put, List.setIfInBounds_toArray, List.set_cons_zero, List.set_cons_succ] <;> rfl)
      refine pu_ (i := 9) (N := some 56) (v := ?_) (a' := ?_) rfl rfl (any_of HT_.out (by kernel_rfl)) (by rfl) ?_ ?_ ?_; rotate_left; (focus intro w'; go_simp; all_goals with_reducible rfl); rotate_left; (focus simp only [Act.put, List.setIfInBounds_toArray, List.set_cons_zero, List.set_cons_succ] <;> rfl)
      refine tk_ (i := 8) (N := some 55) (v := ?_) (a' := ?_) rfl rfl (take_ofW HT_.out HW_.out (by kernel_rfl)) hHeld (by rfl) ?_ ?_ ?_; rotate_left; (focus rintro w' s0; have z40 := (blk_cell (blk_below BK4.out s0) 0).trans rfl; have z41 := (blk_cell (blk_below BK4.out s0) 1).trans rfl; have z50 := (blk_cell (blk_below BK5.out s0) 0).trans rfl; have z51 := (blk_cell (blk_below BK5.out s0) 1).trans rfl; have ca := own_string (P := Try.prog) Try.underlying32 Try.underlying5 Try.underlying9 (Kd.own_of_R (Kd.R_below YA.out s0)); have cb := own_string (P := Try.prog) Try.underlying32 Try.underlying5 Try.underlying9 (Kd.own_of_R (Kd.R_below YB.out s0)); go_simp; all_goals with_reducible rfl); rotate_left; (focus simp only [Act.put, List.setIfInBounds_toArray, List.set_cons_zero, List.set_cons_succ] <;> rfl)
      refine tk_ (i := 10) (N := some 57) (v := ?_) (a' := ?_) rfl rfl (take_ofW HT_.out HW_.out (by kernel_rfl)) hHeld (by rfl) ?_ ?_ ?_; rotate_left; (focus rintro w' s0; have z40 := (blk_cell (blk_below BK4.out s0) 0).trans rfl; have z41 := (blk_cell (blk_below BK4.out s0) 1).trans rfl; have z50 := (blk_cell (blk_below BK5.out s0) 0).trans rfl; have z51 := (blk_cell (blk_below BK5.out s0) 1).trans rfl; have ca := own_string (P := Try.prog) Try.underlying32 Try.underlying5 Try.underlying9 (Kd.own_of_R (Kd.R_below YA.out s0)); have cb := own_string (P := Try.prog) Try.underlying32 Try.underlying5 Try.underlying9 (Kd.own_of_R (Kd.R_below YB.out s0)); go_simp; all_goals with_reducible rfl); rotate_left; (focus simp only [Act.put, List.setIfInBounds_toArray, List.set_cons_zero, List.set_cons_succ] <;> rfl)
      refine pu_ (i := 11) (N := some 58) (v := ?_) (a' := ?_) rfl rfl (any_of HT_.out (by kernel_rfl)) (by rfl) ?_ ?_ ?_; rotate_left; (focus intro w'; go_simp; all_goals with_reducible rfl); rotate_left; (focus simp only [Act.put, List.setIfInBounds_toArray, List.set_cons_zero, List.set_cons_succ] <;> rfl)
      refine tk_ (i := 12) (N := some 59) (v := ?_) (a' := ?_) rfl rfl (take_ofW HT_.out HW_.out (by kernel_rfl)) hHeld (by rfl) ?_ ?_ ?_; rotate_left; (focus rintro w' s0; have z40 := (blk_cell (blk_below BK4.out s0) 0).trans rfl; have z41 := (blk_cell (blk_below BK4.out s0) 1).trans rfl; have z50 := (blk_cell (blk_below BK5.out s0) 0).trans rfl; have z51 := (blk_cell (blk_below BK5.out s0) 1).trans rfl; have ca := own_string (P := Try.prog) Try.underlying32 Try.underlying5 Try.underlying9 (Kd.own_of_R (Kd.R_below YA.out s0)); have cb := own_string (P := Try.prog) Try.underlying32 Try.underlying5 Try.underlying9 (Kd.own_of_R (Kd.R_below YB.out s0)); go_simp; all_goals with_reducible rfl); rotate_left; (focus simp only [Act.put, List.setIfInBounds_toArray, List.set_cons_zero, List.set_cons_succ] <;> rfl)
      refine tk_ (i := 13) (N := some 60) (v := ?_) (a' := ?_) rfl rfl (take_ofW HT_.out HW_.out (by kernel_rfl)) hHeld (by rfl) ?_ ?_ ?_; rotate_left; (focus rintro w' s0; have z40 := (blk_cell (blk_below BK4.out s0) 0).trans rfl; have z41 := (blk_cell (blk_below BK4.out s0) 1).trans rfl; have z50 := (blk_cell (blk_below BK5.out s0) 0).trans rfl; have z51 := (blk_cell (blk_below BK5.out s0) 1).trans rfl; have ca := own_string (P := Try.prog) Try.underlying32 Try.underlying5 Try.underlying9 (Kd.own_of_R (Kd.R_below YA.out s0)); have cb := own_string (P := Try.prog) Try.underlying32 Try.underlying5 Try.underlying9 (Kd.own_of_R (Kd.R_below YB.out s0)); go_simp; all_goals with_reducible rfl); rotate_left; (focus simp only [Act.put, List.setIfInBounds_toArray, List.set_cons_zero, List.set_cons_succ] <;> rfl)
      refine on_ (i := 14) (N := some 61) rfl rfl (one_of HT_.out (by kernel_rfl)) (by decide) (fun K hK => ?_)
      refine goes_ Try.func26 (by kernel_rfl) rfl #[.agg #[.int .u32 n1, .slice AX1 x1.length cX1], .agg #[.int .u32 n2, .slice AX2 x2.length cX2]] (by rfl) rfl rfl (by (try simp only [List.map_toArray, List.map_cons, List.map_nil]); first | done | rfl) ?_
      refine (tidemarkref04_Same.calls k n1 AX1 cX1 x1 n2 AX2 cX2 x2 r1 _ (Kd.C_below (Kd.S_reads' X1.out).2.2 hHeld) (Kd.S_reads' X1.out).2.1 (Kd.C_below (Kd.S_reads' X2.out).2.2 hHeld) (Kd.S_reads' X2.out).2.1 S1.out).mono ?_
      rintro e w' ⟨rfl, hb⟩
      refine ⟨_, rfl, ?_⟩
      have HS := Aside0.mk (below_step hHeld hb); clear hb
      refine hK.out _ _ (HS.out) (fun hHeld => ?_); clear hK K; refine norm_ (a' := ?_) ?_ ?_; rotate_left; (focus show Act.put _ (some 61) _ = _; simp only [Act.put, List.setIfInBounds_toArray, List.set_cons_zero, List.set_cons_succ] <;> rfl)
      refine pu_ (i := 15) (N := some 62) (v := ?_) (a' := ?_) rfl rfl (any_of HT_.out (by kernel_rfl)) (by rfl) ?_ ?_ ?_; rotate_left; (focus intro w'; go_simp; all_goals with_reducible rfl); rotate_left; (focus simp only [Act.put, List.setIfInBounds_toArray, List.set_cons_zero, List.set_cons_succ] <;> rfl)
      refine pu_ (i := 16) (N := some 63) (v := ?_) (a' := ?_) rfl rfl (any_of HT_.out (by kernel_rfl)) (by rfl) ?_ ?_ ?_; rotate_left; (focus intro w'; go_simp; all_goals with_reducible rfl); rotate_left; (focus simp only [Act.put, List.setIfInBounds_toArray, List.set_cons_zero, List.set_cons_succ] <;> rfl)
      refine done_ (done_of HT_.out (by kernel_rfl)) ?_
      go_wp2_with fail
      go_meet
      exact ⟨by first | rfl | (simp; done) | (simp [*]; done), ⟨hHeld⟩⟩
    · have d1 : (ea == 0) = false := beq_eq_false_iff_ne.2 he1
      clear he1 he2
      refine start_ (n := 17) (S := fun W' => Below w13.heap.size w13 W') (ds := []) #[false, false, false, false, false, false, false, false, false, false, false, false, false, false, false, false, false] (by kernel_rfl) rfl rfl (below_drew (Below.refl w13.heap.size w13)) (fun hHeld => ?_)
      refine with_tabW unl10_tab unl10_bits (fun HT_ HW_ => ?_)
      refine pu_ (i := 0) (N := some 47) (v := ?_) (a' := ?_) rfl rfl (any_of HT_.out (by kernel_rfl)) (by rfl) ?_ ?_ ?_; rotate_left; (focus intro w'; go_simp; all_goals with_reducible rfl); rotate_left; (focus simp only [Act.put, List.setIfInBounds_toArray, List.set_cons_zero, List.set_cons_succ] <;> rfl)
      refine pu_ (i := 1) (N := some 48) (v := ?_) (a' := ?_) rfl rfl (any_of HT_.out (by kernel_rfl)) (by rfl) ?_ ?_ ?_; rotate_left; (focus intro w'; go_simp; all_goals with_reducible rfl); rotate_left; (focus simp only [Act.put, List.setIfInBounds_toArray, List.set_cons_zero, List.set_cons_succ] <;> rfl)
      refine pu_ (i := 2) (N := some 49) (v := ?_) (a' := ?_) rfl rfl (any_of HT_.out (by kernel_rfl)) (by rfl) ?_ ?_ ?_; rotate_left; (focus intro w'; go_simp; all_goals with_reducible rfl); rotate_left; (focus simp only [Act.put, List.setIfInBounds_toArray, List.set_cons_zero, List.set_cons_succ] <;> rfl)
      refine of_ (i := 3) (N := some 50) (a' := ?_) rfl rfl (any_of HT_.out (by kernel_rfl)) (by rfl) ?_ ?_; rotate_left; (focus simp only [Act.put, List.setIfInBounds_toArray, List.set_cons_zero, List.set_cons_succ] <;> rfl)
      refine of_ (i := 4) (N := some 51) (a' := ?_) rfl rfl (any_of HT_.out (by kernel_rfl)) (by rfl) ?_ ?_; rotate_left; (focus simp only [Act.put, List.setIfInBounds_toArray, List.set_cons_zero, List.set_cons_succ] <;> rfl)
      refine pu_ (i := 5) (N := some 52) (v := ?_) (a' := ?_) rfl rfl (any_of HT_.out (by kernel_rfl)) (by rfl) ?_ ?_ ?_; rotate_left; (focus intro w'; go_simp; all_goals with_reducible rfl); rotate_left; (focus simp only [Act.put, List.setIfInBounds_toArray, List.set_cons_zero, List.set_cons_succ] <;> rfl)
      refine pu_ (i := 6) (N := some 53) (v := ?_) (a' := ?_) rfl rfl (any_of HT_.out (by kernel_rfl)) (by rfl) ?_ ?_ ?_; rotate_left; (focus intro w'; go_simp; all_goals with_reducible rfl); rotate_left; (focus simp only [Act.put, List.setIfInBounds_toArray, List.set_cons_zero, List.set_cons_succ] <;> rfl)
      refine of_ (i := 7) (N := some 54) (a' := ?_) rfl rfl (any_of HT_.out (by kernel_rfl)) (by rfl) ?_ ?_; rotate_left; (focus simp only [Act.put, List.setIfInBounds_toArray, List.set_cons_zero, List.set_cons_succ] <;> rfl)
      refine of_ (i := 8) (N := some 55) (a' := ?_) rfl rfl (any_of HT_.out (by kernel_rfl)) (by rfl) ?_ ?_; rotate_left; (focus simp only [Act.put, List.setIfInBounds_toArray, List.set_cons_zero, List.set_cons_succ] <;> rfl)
      refine of_ (i := 9) (N := some 56) (a' := ?_) rfl rfl (any_of HT_.out (by kernel_rfl)) (by rfl) ?_ ?_; rotate_left; (focus simp only [Act.put, List.setIfInBounds_toArray, List.set_cons_zero, List.set_cons_succ] <;> rfl)
      refine of_ (i := 10) (N := some 57) (a' := ?_) rfl rfl (any_of HT_.out (by kernel_rfl)) (by rfl) ?_ ?_; rotate_left; (focus simp only [Act.put, List.setIfInBounds_toArray, List.set_cons_zero, List.set_cons_succ] <;> rfl)
      refine of_ (i := 11) (N := some 58) (a' := ?_) rfl rfl (any_of HT_.out (by kernel_rfl)) (by rfl) ?_ ?_; rotate_left; (focus simp only [Act.put, List.setIfInBounds_toArray, List.set_cons_zero, List.set_cons_succ] <;> rfl)
      refine of_ (i := 12) (N := some 59) (a' := ?_) rfl rfl (any_of HT_.out (by kernel_rfl)) (by rfl) ?_ ?_; rotate_left; (focus simp only [Act.put, List.setIfInBounds_toArray, List.set_cons_zero, List.set_cons_succ] <;> rfl)
      refine of_ (i := 13) (N := some 60) (a' := ?_) rfl rfl (any_of HT_.out (by kernel_rfl)) (by rfl) ?_ ?_; rotate_left; (focus simp only [Act.put, List.setIfInBounds_toArray, List.set_cons_zero, List.set_cons_succ] <;> rfl)
      refine of_ (i := 14) (N := some 61) (a' := ?_) rfl rfl (any_of HT_.out (by kernel_rfl)) (by rfl) ?_ ?_; rotate_left; (focus simp only [Act.put, List.setIfInBounds_toArray, List.set_cons_zero, List.set_cons_succ] <;> rfl)
      refine of_ (i := 15) (N := some 62) (a' := ?_) rfl rfl (any_of HT_.out (by kernel_rfl)) (by rfl) ?_ ?_; rotate_left; (focus simp only [Act.put, List.setIfInBounds_toArray, List.set_cons_zero, List.set_cons_succ] <;> rfl)
      refine pu_ (i := 16) (N := some 63) (v := ?_) (a' := ?_) rfl rfl (any_of HT_.out (by kernel_rfl)) (by rfl) ?_ ?_ ?_; rotate_left; (focus intro w'; go_simp; all_goals with_reducible rfl); rotate_left; (focus simp only [Act.put, List.setIfInBounds_toArray, List.set_cons_zero, List.set_cons_succ] <;> rfl)
      refine done_ (done_of HT_.out (by kernel_rfl)) ?_
      go_wp2_with fail
      go_meet
      exact ⟨by first | rfl | (simp; done) | (simp [*]; done), ⟨hHeld⟩⟩
    · subst he1
      have d1 : (eb == 0) = false := beq_eq_false_iff_ne.2 he2
      clear he2
      refine start_ (n := 17) (S := fun W' => Below w13.heap.size w13 W') (ds := []) #[false, false, false, false, false, false, false, false, false, false, false, false, false, false, false, false, false] (by kernel_rfl) rfl rfl (below_drew (Below.refl w13.heap.size w13)) (fun hHeld => ?_)
      refine with_tabW unl10_tab unl10_bits (fun HT_ HW_ => ?_)
      refine pu_ (i := 0) (N := some 47) (v := ?_) (a' := ?_) rfl rfl (any_of HT_.out (by kernel_rfl)) (by rfl) ?_ ?_ ?_; rotate_left; (focus intro w'; go_simp; all_goals with_reducible rfl); rotate_left; (focus simp only [Act.put, List.setIfInBounds_toArray, List.set_cons_zero, List.set_cons_succ] <;> rfl)
      refine pu_ (i := 1) (N := some 48) (v := ?_) (a' := ?_) rfl rfl (any_of HT_.out (by kernel_rfl)) (by rfl) ?_ ?_ ?_; rotate_left; (focus intro w'; go_simp; all_goals with_reducible rfl); rotate_left; (focus simp only [Act.put, List.setIfInBounds_toArray, List.set_cons_zero, List.set_cons_succ] <;> rfl)
      refine pu_ (i := 2) (N := some 49) (v := ?_) (a' := ?_) rfl rfl (any_of HT_.out (by kernel_rfl)) (by rfl) ?_ ?_ ?_; rotate_left; (focus intro w'; go_simp; all_goals with_reducible rfl); rotate_left; (focus simp only [Act.put, List.setIfInBounds_toArray, List.set_cons_zero, List.set_cons_succ] <;> rfl)
      refine pu_ (i := 3) (N := some 50) (v := ?_) (a' := ?_) rfl rfl (any_of HT_.out (by kernel_rfl)) (by rfl) ?_ ?_ ?_; rotate_left; (focus intro w'; go_simp; all_goals with_reducible rfl); rotate_left; (focus simp only [Act.put, List.setIfInBounds_toArray, List.set_cons_zero, List.set_cons_succ] <;> rfl)
      refine pu_ (i := 4) (N := some 51) (v := ?_) (a' := ?_) rfl rfl (any_of HT_.out (by kernel_rfl)) (by rfl) ?_ ?_ ?_; rotate_left; (focus intro w'; go_simp; all_goals with_reducible rfl); rotate_left; (focus simp only [Act.put, List.setIfInBounds_toArray, List.set_cons_zero, List.set_cons_succ] <;> rfl)
      refine pu_ (i := 5) (N := some 52) (v := ?_) (a' := ?_) rfl rfl (any_of HT_.out (by kernel_rfl)) (by rfl) ?_ ?_ ?_; rotate_left; (focus intro w'; go_simp; all_goals with_reducible rfl); rotate_left; (focus simp only [Act.put, List.setIfInBounds_toArray, List.set_cons_zero, List.set_cons_succ] <;> rfl)
      refine pu_ (i := 6) (N := some 53) (v := ?_) (a' := ?_) rfl rfl (any_of HT_.out (by kernel_rfl)) (by rfl) ?_ ?_ ?_; rotate_left; (focus intro w'; go_simp; all_goals with_reducible rfl); rotate_left; (focus simp only [Act.put, List.setIfInBounds_toArray, List.set_cons_zero, List.set_cons_succ] <;> rfl)
      refine of_ (i := 7) (N := some 54) (a' := ?_) rfl rfl (any_of HT_.out (by kernel_rfl)) (by rfl) ?_ ?_; rotate_left; (focus simp only [Act.put, List.setIfInBounds_toArray, List.set_cons_zero, List.set_cons_succ] <;> rfl)
      refine of_ (i := 8) (N := some 55) (a' := ?_) rfl rfl (any_of HT_.out (by kernel_rfl)) (by rfl) ?_ ?_; rotate_left; (focus simp only [Act.put, List.setIfInBounds_toArray, List.set_cons_zero, List.set_cons_succ] <;> rfl)
      refine of_ (i := 9) (N := some 56) (a' := ?_) rfl rfl (any_of HT_.out (by kernel_rfl)) (by rfl) ?_ ?_; rotate_left; (focus simp only [Act.put, List.setIfInBounds_toArray, List.set_cons_zero, List.set_cons_succ] <;> rfl)
      refine of_ (i := 10) (N := some 57) (a' := ?_) rfl rfl (any_of HT_.out (by kernel_rfl)) (by rfl) ?_ ?_; rotate_left; (focus simp only [Act.put, List.setIfInBounds_toArray, List.set_cons_zero, List.set_cons_succ] <;> rfl)
      refine of_ (i := 11) (N := some 58) (a' := ?_) rfl rfl (any_of HT_.out (by kernel_rfl)) (by rfl) ?_ ?_; rotate_left; (focus simp only [Act.put, List.setIfInBounds_toArray, List.set_cons_zero, List.set_cons_succ] <;> rfl)
      refine of_ (i := 12) (N := some 59) (a' := ?_) rfl rfl (any_of HT_.out (by kernel_rfl)) (by rfl) ?_ ?_; rotate_left; (focus simp only [Act.put, List.setIfInBounds_toArray, List.set_cons_zero, List.set_cons_succ] <;> rfl)
      refine of_ (i := 13) (N := some 60) (a' := ?_) rfl rfl (any_of HT_.out (by kernel_rfl)) (by rfl) ?_ ?_; rotate_left; (focus simp only [Act.put, List.setIfInBounds_toArray, List.set_cons_zero, List.set_cons_succ] <;> rfl)
      refine of_ (i := 14) (N := some 61) (a' := ?_) rfl rfl (any_of HT_.out (by kernel_rfl)) (by rfl) ?_ ?_; rotate_left; (focus simp only [Act.put, List.setIfInBounds_toArray, List.set_cons_zero, List.set_cons_succ] <;> rfl)
      refine of_ (i := 15) (N := some 62) (a' := ?_) rfl rfl (any_of HT_.out (by kernel_rfl)) (by rfl) ?_ ?_; rotate_left; (focus simp only [Act.put, List.setIfInBounds_toArray, List.set_cons_zero, List.set_cons_succ] <;> rfl)
      refine pu_ (i := 16) (N := some 63) (v := ?_) (a' := ?_) rfl rfl (any_of HT_.out (by kernel_rfl)) (by rfl) ?_ ?_ ?_; rotate_left; (focus intro w'; go_simp; all_goals with_reducible rfl); rotate_left; (focus simp only [Act.put, List.setIfInBounds_toArray, List.set_cons_zero, List.set_cons_succ] <;> rfl)
      refine done_ (done_of HT_.out (by kernel_rfl)) ?_
      go_wp2_with fail
      go_meet
      exact ⟨by first | rfl | (simp; done) | (simp [*]; done), ⟨hHeld⟩⟩
  case rest =>
    obtain ⟨rfl, hcb⟩ := hcut
    have Hb := hcb; clear hcb
    rename_i wc
    have HB_ := Aside0.mk (below_step HB.out Hb.out); clear HB; have HB := HB_; clear HB_
    have BK4_ := Aside0.mk (blk_below BK4.out Hb.out); clear BK4; have BK4 := BK4_; clear BK4_
    have BK5_ := Aside0.mk (blk_below BK5.out Hb.out); clear BK5; have BK5 := BK5_; clear BK5_
    have X1_ := Aside0.mk (Kd.S_below X1.out Hb.out); clear X1; have X1 := X1_; clear X1_
    have X2_ := Aside0.mk (Kd.S_below X2.out Hb.out); clear X2; have X2 := X2_; clear X2_
    have X3_ := Aside0.mk (Kd.R_below X3.out Hb.out); clear X3; have X3 := X3_; clear X3_
    have X4_ := Aside0.mk (Kd.R_below X4.out Hb.out); clear X4; have X4 := X4_; clear X4_
    have YA_ := Aside0.mk (Kd.R_below YA.out Hb.out); clear YA; have YA := YA_; clear YA_
    have YB_ := Aside0.mk (Kd.R_below YB.out Hb.out); clear YB; have YB := YB_; clear YB_
    have YC_ := Aside0.mk (Kd.R_below YC.out Hb.out); clear YC; have YC := YC_; clear YC_
    have YD_ := Aside0.mk (Kd.R_below YD.out Hb.out); clear YD; have YD := YD_; clear YD_
    clear Hb
    go_upto_region 12 with (fail)
    rcases HD2.out with ⟨he, hh⟩ | ⟨he1, he2⟩ | ⟨he1, he2⟩
    · obtain ⟨rfl, rfl⟩ := he
      have HE := hh
      clear hh
      refine start_ (n := 21) (S := fun W' => Below wc.heap.size wc W') (ds := []) #[false, false, false, false, false, false, false, false, false, false, false, false, false, false, false, false, false, false, false, false, false] (by kernel_rfl) rfl rfl (below_drew (Below.refl wc.heap.size wc)) (fun hHeld => ?_)
      refine with_tabW unl12_tab unl12_bits (fun HT_ HW_ => ?_)
      refine pu_ (i := 0) (N := some 64) (v := ?_) (a' := ?_) rfl rfl (any_of HT_.out (by kernel_rfl)) (by rfl) ?_ ?_ ?_; rotate_left; (focus intro w'; go_simp; all_goals with_reducible rfl); rotate_left; (focus simp only [Act.put, List.setIfInBounds_toArray, List.set_cons_zero, List.set_cons_succ] <;> rfl)
      refine pu_ (i := 1) (N := some 65) (v := ?_) (a' := ?_) rfl rfl (any_of HT_.out (by kernel_rfl)) (by rfl) ?_ ?_ ?_; rotate_left; (focus intro w'; go_simp; all_goals with_reducible rfl); rotate_left; (focus simp only [Act.put, List.setIfInBounds_toArray, List.set_cons_zero, List.set_cons_succ] <;> rfl)
      refine pu_ (i := 2) (N := some 66) (v := ?_) (a' := ?_) rfl rfl (any_of HT_.out (by kernel_rfl)) (by rfl) ?_ ?_ ?_; rotate_left; (focus intro w'; go_simp; all_goals with_reducible rfl); rotate_left; (focus simp only [Act.put, List.setIfInBounds_toArray, List.set_cons_zero, List.set_cons_succ] <;> rfl)
      refine pu_ (i := 3) (N := some 67) (v := ?_) (a' := ?_) rfl rfl (any_of HT_.out (by kernel_rfl)) (by rfl) ?_ ?_ ?_; rotate_left; (focus intro w'; go_simp; all_goals with_reducible rfl); rotate_left; (focus simp only [Act.put, List.setIfInBounds_toArray, List.set_cons_zero, List.set_cons_succ] <;> rfl)
      refine pu_ (i := 4) (N := some 68) (v := ?_) (a' := ?_) rfl rfl (any_of HT_.out (by kernel_rfl)) (by rfl) ?_ ?_ ?_; rotate_left; (focus intro w'; go_simp; all_goals with_reducible rfl); rotate_left; (focus simp only [Act.put, List.setIfInBounds_toArray, List.set_cons_zero, List.set_cons_succ] <;> rfl)
      refine pu_ (i := 5) (N := some 69) (v := ?_) (a' := ?_) rfl rfl (any_of HT_.out (by kernel_rfl)) (by rfl) ?_ ?_ ?_; rotate_left; (focus intro w'; go_simp; all_goals with_reducible rfl); rotate_left; (focus simp only [Act.put, List.setIfInBounds_toArray, List.set_cons_zero, List.set_cons_succ] <;> rfl)
      refine pu_ (i := 6) (N := some 70) (v := ?_) (a' := ?_) rfl rfl (any_of HT_.out (by kernel_rfl)) (by rfl) ?_ ?_ ?_; rotate_left; (focus intro w'; go_simp; all_goals with_reducible rfl); rotate_left; (focus simp only [Act.put, List.setIfInBounds_toArray, List.set_cons_zero, List.set_cons_succ] <;> rfl)
      refine pu_ (i := 7) (N := some 71) (v := ?_) (a' := ?_) rfl rfl (any_of HT_.out (by kernel_rfl)) (by rfl) ?_ ?_ ?_; rotate_left; (focus intro w'; go_simp; all_goals with_reducible rfl); rotate_left; (focus simp only [Act.put, List.setIfInBounds_toArray, List.set_cons_zero, List.set_cons_succ] <;> rfl)
      refine pu_ (i := 8) (N := some 72) (v := ?_) (a' := ?_) rfl rfl (any_of HT_.out (by kernel_rfl)) (by rfl) ?_ ?_ ?_; rotate_left; (focus intro w'; go_simp; all_goals with_reducible rfl); rotate_left; (focus simp only [Act.put, List.setIfInBounds_toArray, List.set_cons_zero, List.set_cons_succ] <;> rfl)
      refine pu_ (i := 9) (N := some 73) (v := ?_) (a' := ?_) rfl rfl (any_of HT_.out (by kernel_rfl)) (by rfl) ?_ ?_ ?_; rotate_left; (focus intro w'; go_simp; all_goals with_reducible rfl); rotate_left; (focus simp only [Act.put, List.setIfInBounds_toArray, List.set_cons_zero, List.set_cons_succ] <;> rfl)
      refine pu_ (i := 11) (N := some 75) (v := ?_) (a' := ?_) rfl rfl (any_of HT_.out (by kernel_rfl)) (by rfl) ?_ ?_ ?_; rotate_left; (focus intro w'; go_simp; all_goals with_reducible rfl); rotate_left; (focus simp only [Act.put, List.setIfInBounds_toArray, List.set_cons_zero, List.set_cons_succ] <;> rfl)
      refine pu_ (i := 14) (N := some 78) (v := ?_) (a' := ?_) rfl rfl (any_of HT_.out (by kernel_rfl)) (by rfl) ?_ ?_ ?_; rotate_left; (focus intro w'; go_simp; all_goals with_reducible rfl); rotate_left; (focus simp only [Act.put, List.setIfInBounds_toArray, List.set_cons_zero, List.set_cons_succ] <;> rfl)
      refine pu_ (i := 15) (N := some 79) (v := ?_) (a' := ?_) rfl rfl (any_of HT_.out (by kernel_rfl)) (by rfl) ?_ ?_ ?_; rotate_left; (focus intro w'; go_simp; all_goals with_reducible rfl); rotate_left; (focus simp only [Act.put, List.setIfInBounds_toArray, List.set_cons_zero, List.set_cons_succ] <;> rfl)
      refine tk_ (i := 10) (N := some 74) (v := ?_) (a' := ?_) rfl rfl (take_ofW HT_.out HW_.out (by kernel_rfl)) hHeld (by rfl) ?_ ?_ ?_; rotate_left; (focus rintro w' s0; have ca := own_string (P := Try.prog) Try.underlying32 Try.underlying5 Try.underlying9 (Kd.own_of_R (Kd.R_below YC.out s0)); have cb := own_string (P := Try.prog) Try.underlying32 Try.underlying5 Try.underlying9 (Kd.own_of_R (Kd.R_below YD.out s0)); go_simp; all_goals with_reducible rfl); rotate_left; (focus simp only [Act.put, List.setIfInBounds_toArray, List.set_cons_zero, List.set_cons_succ] <;> rfl)
      refine tk_ (i := 12) (N := some 76) (v := ?_) (a' := ?_) rfl rfl (take_ofW HT_.out HW_.out (by kernel_rfl)) hHeld (by rfl) ?_ ?_ ?_; rotate_left; (focus rintro w' s0; have ca := own_string (P := Try.prog) Try.underlying32 Try.underlying5 Try.underlying9 (Kd.own_of_R (Kd.R_below YC.out s0)); have cb := own_string (P := Try.prog) Try.underlying32 Try.underlying5 Try.underlying9 (Kd.own_of_R (Kd.R_below YD.out s0)); go_simp; all_goals with_reducible rfl); rotate_left; (focus simp only [Act.put, List.setIfInBounds_toArray, List.set_cons_zero, List.set_cons_succ] <;> rfl)
      refine pu_ (i := 13) (N := some 77) (v := ?_) (a' := ?_) rfl rfl (any_of HT_.out (by kernel_rfl)) (by rfl) ?_ ?_ ?_; rotate_left; (focus intro w'; go_simp; all_goals with_reducible rfl); rotate_left; (focus simp only [Act.put, List.setIfInBounds_toArray, List.set_cons_zero, List.set_cons_succ] <;> rfl)
      refine on_ (i := 16) (N := some 80) rfl rfl (one_of HT_.out (by kernel_rfl)) (by decide) (fun K hK => ?_)
      refine goes_ Try.func27 (by kernel_rfl) rfl #[.slice AX3 x3.length cX3, .slice AX4 x4.length cX4] (by rfl) rfl rfl (by (try simp only [List.map_toArray, List.map_cons, List.map_nil]); first | done | rfl) ?_
      refine (tidemarkref04_SameRows.calls k AX3 cX3 x3 AX4 cX4 x4 r2 _ (Kd.C_below (Kd.R_reads' X3.out).2.2 hHeld) (Kd.R_reads' X3.out).2.1 (Kd.C_below (Kd.R_reads' X4.out).2.2 hHeld) (Kd.R_reads' X4.out).2.1 S2.out).mono ?_
      rintro e w' ⟨rfl, ⟨nd, rfl⟩⟩
      refine ⟨_, rfl, ?_⟩
      have HS := Aside0.mk (below_step hHeld (pw_below_drewN (Below.refl _ _) nd))
      generalize wc.drew.drewN nd = wz at HS ⊢
      refine hK.out _ _ (HS.out) (fun hHeld => ?_); clear hK K; refine norm_ (a' := ?_) ?_ ?_; rotate_left; (focus show Act.put _ (some 80) _ = _; simp only [Act.put, List.setIfInBounds_toArray, List.set_cons_zero, List.set_cons_succ] <;> rfl)
      refine pu_ (i := 17) (N := some 81) (v := ?_) (a' := ?_) rfl rfl (any_of HT_.out (by kernel_rfl)) (by rfl) ?_ ?_ ?_; rotate_left; (focus intro w'; go_simp; all_goals with_reducible rfl); rotate_left; (focus simp only [Act.put, List.setIfInBounds_toArray, List.set_cons_zero, List.set_cons_succ] <;> rfl)
      refine pu_ (i := 18) (N := some 82) (v := ?_) (a' := ?_) rfl rfl (any_of HT_.out (by kernel_rfl)) (by rfl) ?_ ?_ ?_; rotate_left; (focus intro w'; go_simp; all_goals with_reducible rfl); rotate_left; (focus simp only [Act.put, List.setIfInBounds_toArray, List.set_cons_zero, List.set_cons_succ] <;> rfl)
      refine pu_ (i := 19) (N := some 83) (v := ?_) (a' := ?_) rfl rfl (any_of HT_.out (by kernel_rfl)) (by rfl) ?_ ?_ ?_; rotate_left; (focus intro w'; go_simp; all_goals with_reducible rfl); rotate_left; (focus simp only [Act.put, List.setIfInBounds_toArray, List.set_cons_zero, List.set_cons_succ] <;> rfl)
      refine pu_ (i := 20) (N := some 8) (v := ?_) (a' := ?_) rfl rfl (any_of HT_.out (by kernel_rfl)) (by rfl) ?_ ?_ ?_; rotate_left; (focus intro w'; go_simp; all_goals with_reducible rfl); rotate_left; (focus simp only [Act.put, List.setIfInBounds_toArray, List.set_cons_zero, List.set_cons_succ] <;> rfl)
      refine done_ (done_of HT_.out (by kernel_rfl)) ?_
      go_wp2_with fail
      go_ret
      exact ⟨by first | rfl | (simp; done) | (simp [*]; done), below_step HB.out hHeld⟩
    · have d1 : (ec != 0) = true := bne_iff_ne.2 he1
      clear he1 he2
      refine start_ (n := 21) (S := fun W' => Below wc.heap.size wc W') (ds := []) #[false, false, false, false, false, false, false, false, false, false, false, false, false, false, false, false, false, false, false, false, false] (by kernel_rfl) rfl rfl (below_drew (Below.refl wc.heap.size wc)) (fun hHeld => ?_)
      refine with_tabW unl12_tab unl12_bits (fun HT_ HW_ => ?_)
      refine pu_ (i := 0) (N := some 64) (v := ?_) (a' := ?_) rfl rfl (any_of HT_.out (by kernel_rfl)) (by rfl) ?_ ?_ ?_; rotate_left; (focus intro w'; go_simp; all_goals with_reducible rfl); rotate_left; (focus simp only [Act.put, List.setIfInBounds_toArray, List.set_cons_zero, List.set_cons_succ] <;> rfl)
      refine pu_ (i := 1) (N := some 65) (v := ?_) (a' := ?_) rfl rfl (any_of HT_.out (by kernel_rfl)) (by rfl) ?_ ?_ ?_; rotate_left; (focus intro w'; go_simp; all_goals with_reducible rfl); rotate_left; (focus simp only [Act.put, List.setIfInBounds_toArray, List.set_cons_zero, List.set_cons_succ] <;> rfl)
      refine pu_ (i := 2) (N := some 66) (v := ?_) (a' := ?_) rfl rfl (any_of HT_.out (by kernel_rfl)) (by rfl) ?_ ?_ ?_; rotate_left; (focus intro w'; go_simp; all_goals with_reducible rfl); rotate_left; (focus simp only [Act.put, List.setIfInBounds_toArray, List.set_cons_zero, List.set_cons_succ] <;> rfl)
      refine pu_ (i := 3) (N := some 67) (v := ?_) (a' := ?_) rfl rfl (any_of HT_.out (by kernel_rfl)) (by rfl) ?_ ?_ ?_; rotate_left; (focus intro w'; go_simp; all_goals with_reducible rfl); rotate_left; (focus simp only [Act.put, List.setIfInBounds_toArray, List.set_cons_zero, List.set_cons_succ] <;> rfl)
      refine pu_ (i := 4) (N := some 68) (v := ?_) (a' := ?_) rfl rfl (any_of HT_.out (by kernel_rfl)) (by rfl) ?_ ?_ ?_; rotate_left; (focus intro w'; go_simp; all_goals with_reducible rfl); rotate_left; (focus simp only [Act.put, List.setIfInBounds_toArray, List.set_cons_zero, List.set_cons_succ] <;> rfl)
      refine of_ (i := 5) (N := some 69) (a' := ?_) rfl rfl (any_of HT_.out (by kernel_rfl)) (by rfl) ?_ ?_; rotate_left; (focus simp only [Act.put, List.setIfInBounds_toArray, List.set_cons_zero, List.set_cons_succ] <;> rfl)
      refine of_ (i := 6) (N := some 70) (a' := ?_) rfl rfl (any_of HT_.out (by kernel_rfl)) (by rfl) ?_ ?_; rotate_left; (focus simp only [Act.put, List.setIfInBounds_toArray, List.set_cons_zero, List.set_cons_succ] <;> rfl)
      refine pu_ (i := 7) (N := some 71) (v := ?_) (a' := ?_) rfl rfl (any_of HT_.out (by kernel_rfl)) (by rfl) ?_ ?_ ?_; rotate_left; (focus intro w'; go_simp; all_goals with_reducible rfl); rotate_left; (focus simp only [Act.put, List.setIfInBounds_toArray, List.set_cons_zero, List.set_cons_succ] <;> rfl)
      refine pu_ (i := 8) (N := some 72) (v := ?_) (a' := ?_) rfl rfl (any_of HT_.out (by kernel_rfl)) (by rfl) ?_ ?_ ?_; rotate_left; (focus intro w'; go_simp; all_goals with_reducible rfl); rotate_left; (focus simp only [Act.put, List.setIfInBounds_toArray, List.set_cons_zero, List.set_cons_succ] <;> rfl)
      refine of_ (i := 9) (N := some 73) (a' := ?_) rfl rfl (any_of HT_.out (by kernel_rfl)) (by rfl) ?_ ?_; rotate_left; (focus simp only [Act.put, List.setIfInBounds_toArray, List.set_cons_zero, List.set_cons_succ] <;> rfl)
      refine of_ (i := 10) (N := some 74) (a' := ?_) rfl rfl (any_of HT_.out (by kernel_rfl)) (by rfl) ?_ ?_; rotate_left; (focus simp only [Act.put, List.setIfInBounds_toArray, List.set_cons_zero, List.set_cons_succ] <;> rfl)
      refine of_ (i := 11) (N := some 75) (a' := ?_) rfl rfl (any_of HT_.out (by kernel_rfl)) (by rfl) ?_ ?_; rotate_left; (focus simp only [Act.put, List.setIfInBounds_toArray, List.set_cons_zero, List.set_cons_succ] <;> rfl)
      refine of_ (i := 12) (N := some 76) (a' := ?_) rfl rfl (any_of HT_.out (by kernel_rfl)) (by rfl) ?_ ?_; rotate_left; (focus simp only [Act.put, List.setIfInBounds_toArray, List.set_cons_zero, List.set_cons_succ] <;> rfl)
      refine of_ (i := 13) (N := some 77) (a' := ?_) rfl rfl (any_of HT_.out (by kernel_rfl)) (by rfl) ?_ ?_; rotate_left; (focus simp only [Act.put, List.setIfInBounds_toArray, List.set_cons_zero, List.set_cons_succ] <;> rfl)
      refine of_ (i := 14) (N := some 78) (a' := ?_) rfl rfl (any_of HT_.out (by kernel_rfl)) (by rfl) ?_ ?_; rotate_left; (focus simp only [Act.put, List.setIfInBounds_toArray, List.set_cons_zero, List.set_cons_succ] <;> rfl)
      refine of_ (i := 15) (N := some 79) (a' := ?_) rfl rfl (any_of HT_.out (by kernel_rfl)) (by rfl) ?_ ?_; rotate_left; (focus simp only [Act.put, List.setIfInBounds_toArray, List.set_cons_zero, List.set_cons_succ] <;> rfl)
      refine of_ (i := 16) (N := some 80) (a' := ?_) rfl rfl (any_of HT_.out (by kernel_rfl)) (by rfl) ?_ ?_; rotate_left; (focus simp only [Act.put, List.setIfInBounds_toArray, List.set_cons_zero, List.set_cons_succ] <;> rfl)
      refine of_ (i := 17) (N := some 81) (a' := ?_) rfl rfl (any_of HT_.out (by kernel_rfl)) (by rfl) ?_ ?_; rotate_left; (focus simp only [Act.put, List.setIfInBounds_toArray, List.set_cons_zero, List.set_cons_succ] <;> rfl)
      refine pu_ (i := 18) (N := some 82) (v := ?_) (a' := ?_) rfl rfl (any_of HT_.out (by kernel_rfl)) (by rfl) ?_ ?_ ?_; rotate_left; (focus intro w'; go_simp; all_goals with_reducible rfl); rotate_left; (focus simp only [Act.put, List.setIfInBounds_toArray, List.set_cons_zero, List.set_cons_succ] <;> rfl)
      refine pu_ (i := 19) (N := some 83) (v := ?_) (a' := ?_) rfl rfl (any_of HT_.out (by kernel_rfl)) (by rfl) ?_ ?_ ?_; rotate_left; (focus intro w'; go_simp; all_goals with_reducible rfl); rotate_left; (focus simp only [Act.put, List.setIfInBounds_toArray, List.set_cons_zero, List.set_cons_succ] <;> rfl)
      refine pu_ (i := 20) (N := some 8) (v := ?_) (a' := ?_) rfl rfl (any_of HT_.out (by kernel_rfl)) (by rfl) ?_ ?_ ?_; rotate_left; (focus intro w'; go_simp; all_goals with_reducible rfl); rotate_left; (focus simp only [Act.put, List.setIfInBounds_toArray, List.set_cons_zero, List.set_cons_succ] <;> rfl)
      refine done_ (done_of HT_.out (by kernel_rfl)) ?_
      go_wp2_with fail
      go_ret
      exact ⟨by first | rfl | (simp; done) | (simp [*]; done), below_step HB.out hHeld⟩
    · subst he1
      have d1 : (ed != 0) = true := bne_iff_ne.2 he2
      clear he2
      refine start_ (n := 21) (S := fun W' => Below wc.heap.size wc W') (ds := []) #[false, false, false, false, false, false, false, false, false, false, false, false, false, false, false, false, false, false, false, false, false] (by kernel_rfl) rfl rfl (below_drew (Below.refl wc.heap.size wc)) (fun hHeld => ?_)
      refine with_tabW unl12_tab unl12_bits (fun HT_ HW_ => ?_)
      refine pu_ (i := 0) (N := some 64) (v := ?_) (a' := ?_) rfl rfl (any_of HT_.out (by kernel_rfl)) (by rfl) ?_ ?_ ?_; rotate_left; (focus intro w'; go_simp; all_goals with_reducible rfl); rotate_left; (focus simp only [Act.put, List.setIfInBounds_toArray, List.set_cons_zero, List.set_cons_succ] <;> rfl)
      refine pu_ (i := 1) (N := some 65) (v := ?_) (a' := ?_) rfl rfl (any_of HT_.out (by kernel_rfl)) (by rfl) ?_ ?_ ?_; rotate_left; (focus intro w'; go_simp; all_goals with_reducible rfl); rotate_left; (focus simp only [Act.put, List.setIfInBounds_toArray, List.set_cons_zero, List.set_cons_succ] <;> rfl)
      refine pu_ (i := 2) (N := some 66) (v := ?_) (a' := ?_) rfl rfl (any_of HT_.out (by kernel_rfl)) (by rfl) ?_ ?_ ?_; rotate_left; (focus intro w'; go_simp; all_goals with_reducible rfl); rotate_left; (focus simp only [Act.put, List.setIfInBounds_toArray, List.set_cons_zero, List.set_cons_succ] <;> rfl)
      refine pu_ (i := 3) (N := some 67) (v := ?_) (a' := ?_) rfl rfl (any_of HT_.out (by kernel_rfl)) (by rfl) ?_ ?_ ?_; rotate_left; (focus intro w'; go_simp; all_goals with_reducible rfl); rotate_left; (focus simp only [Act.put, List.setIfInBounds_toArray, List.set_cons_zero, List.set_cons_succ] <;> rfl)
      refine pu_ (i := 4) (N := some 68) (v := ?_) (a' := ?_) rfl rfl (any_of HT_.out (by kernel_rfl)) (by rfl) ?_ ?_ ?_; rotate_left; (focus intro w'; go_simp; all_goals with_reducible rfl); rotate_left; (focus simp only [Act.put, List.setIfInBounds_toArray, List.set_cons_zero, List.set_cons_succ] <;> rfl)
      refine pu_ (i := 5) (N := some 69) (v := ?_) (a' := ?_) rfl rfl (any_of HT_.out (by kernel_rfl)) (by rfl) ?_ ?_ ?_; rotate_left; (focus intro w'; go_simp; all_goals with_reducible rfl); rotate_left; (focus simp only [Act.put, List.setIfInBounds_toArray, List.set_cons_zero, List.set_cons_succ] <;> rfl)
      refine pu_ (i := 6) (N := some 70) (v := ?_) (a' := ?_) rfl rfl (any_of HT_.out (by kernel_rfl)) (by rfl) ?_ ?_ ?_; rotate_left; (focus intro w'; go_simp; all_goals with_reducible rfl); rotate_left; (focus simp only [Act.put, List.setIfInBounds_toArray, List.set_cons_zero, List.set_cons_succ] <;> rfl)
      refine pu_ (i := 7) (N := some 71) (v := ?_) (a' := ?_) rfl rfl (any_of HT_.out (by kernel_rfl)) (by rfl) ?_ ?_ ?_; rotate_left; (focus intro w'; go_simp; all_goals with_reducible rfl); rotate_left; (focus simp only [Act.put, List.setIfInBounds_toArray, List.set_cons_zero, List.set_cons_succ] <;> rfl)
      refine pu_ (i := 8) (N := some 72) (v := ?_) (a' := ?_) rfl rfl (any_of HT_.out (by kernel_rfl)) (by rfl) ?_ ?_ ?_; rotate_left; (focus intro w'; go_simp; all_goals with_reducible rfl); rotate_left; (focus simp only [Act.put, List.setIfInBounds_toArray, List.set_cons_zero, List.set_cons_succ] <;> rfl)
      refine of_ (i := 9) (N := some 73) (a' := ?_) rfl rfl (any_of HT_.out (by kernel_rfl)) (by rfl) ?_ ?_; rotate_left; (focus simp only [Act.put, List.setIfInBounds_toArray, List.set_cons_zero, List.set_cons_succ] <;> rfl)
      refine of_ (i := 10) (N := some 74) (a' := ?_) rfl rfl (any_of HT_.out (by kernel_rfl)) (by rfl) ?_ ?_; rotate_left; (focus simp only [Act.put, List.setIfInBounds_toArray, List.set_cons_zero, List.set_cons_succ] <;> rfl)
      refine of_ (i := 11) (N := some 75) (a' := ?_) rfl rfl (any_of HT_.out (by kernel_rfl)) (by rfl) ?_ ?_; rotate_left; (focus simp only [Act.put, List.setIfInBounds_toArray, List.set_cons_zero, List.set_cons_succ] <;> rfl)
      refine of_ (i := 12) (N := some 76) (a' := ?_) rfl rfl (any_of HT_.out (by kernel_rfl)) (by rfl) ?_ ?_; rotate_left; (focus simp only [Act.put, List.setIfInBounds_toArray, List.set_cons_zero, List.set_cons_succ] <;> rfl)
      refine of_ (i := 13) (N := some 77) (a' := ?_) rfl rfl (any_of HT_.out (by kernel_rfl)) (by rfl) ?_ ?_; rotate_left; (focus simp only [Act.put, List.setIfInBounds_toArray, List.set_cons_zero, List.set_cons_succ] <;> rfl)
      refine of_ (i := 14) (N := some 78) (a' := ?_) rfl rfl (any_of HT_.out (by kernel_rfl)) (by rfl) ?_ ?_; rotate_left; (focus simp only [Act.put, List.setIfInBounds_toArray, List.set_cons_zero, List.set_cons_succ] <;> rfl)
      refine of_ (i := 15) (N := some 79) (a' := ?_) rfl rfl (any_of HT_.out (by kernel_rfl)) (by rfl) ?_ ?_; rotate_left; (focus simp only [Act.put, List.setIfInBounds_toArray, List.set_cons_zero, List.set_cons_succ] <;> rfl)
      refine of_ (i := 16) (N := some 80) (a' := ?_) rfl rfl (any_of HT_.out (by kernel_rfl)) (by rfl) ?_ ?_; rotate_left; (focus simp only [Act.put, List.setIfInBounds_toArray, List.set_cons_zero, List.set_cons_succ] <;> rfl)
      refine of_ (i := 17) (N := some 81) (a' := ?_) rfl rfl (any_of HT_.out (by kernel_rfl)) (by rfl) ?_ ?_; rotate_left; (focus simp only [Act.put, List.setIfInBounds_toArray, List.set_cons_zero, List.set_cons_succ] <;> rfl)
      refine pu_ (i := 18) (N := some 82) (v := ?_) (a' := ?_) rfl rfl (any_of HT_.out (by kernel_rfl)) (by rfl) ?_ ?_ ?_; rotate_left; (focus intro w'; go_simp; all_goals with_reducible rfl); rotate_left; (focus simp only [Act.put, List.setIfInBounds_toArray, List.set_cons_zero, List.set_cons_succ] <;> rfl)
      refine pu_ (i := 19) (N := some 83) (v := ?_) (a' := ?_) rfl rfl (any_of HT_.out (by kernel_rfl)) (by rfl) ?_ ?_ ?_; rotate_left; (focus intro w'; go_simp; all_goals with_reducible rfl); rotate_left; (focus simp only [Act.put, List.setIfInBounds_toArray, List.set_cons_zero, List.set_cons_succ] <;> rfl)
      refine pu_ (i := 20) (N := some 8) (v := ?_) (a' := ?_) rfl rfl (any_of HT_.out (by kernel_rfl)) (by rfl) ?_ ?_ ?_; rotate_left; (focus intro w'; go_simp; all_goals with_reducible rfl); rotate_left; (focus simp only [Act.put, List.setIfInBounds_toArray, List.set_cons_zero, List.set_cons_succ] <;> rfl)
      refine done_ (done_of HT_.out (by kernel_rfl)) ?_
      go_wp2_with fail
      go_ret
      exact ⟨by first | rfl | (simp; done) | (simp [*]; done), below_step HB.out hHeld⟩
theorem unlike_row (n1 : Int) (l1 : List S47) (A1 : Option Addr) (c1 : Nat) (n2 : Int) (l2 : List S47) (A2 : Option Addr) (c2 : Nat) (l3 : List S57) (A3 : Option Addr) (c3 : Nat) (l4 : List S57) (A4 : Option Addr) (c4 : Nat) (W : World)
    (hl1 : l1.length ≤ c1) (hC1 : Kd.C k47 W A1 l1.length l1) (F1 : okEpoch (n1, l1)) (hl2 : l2.length ≤ c2) (hC2 : Kd.C k47 W A2 l2.length l2) (F2 : okEpoch (n2, l2)) (hl3 : l3.length ≤ c3) (hC3 : Kd.C k57 W A3 l3.length l3) (F3 : okRows l3) (hl4 : l4.length ≤ c4) (hC4 : Kd.C k57 W A4 l4.length l4) (F4 : okRows l4) :
    Calls Try.prog 7 #[.agg #[.int .u32 n1, .slice A1 l1.length c1], .agg #[.int .u32 n2, .slice A2 l2.length c2], .slice A3 l3.length c3, .slice A4 l4.length c4] W fun e W' => e = .returned (.bool true) ∧ Below W.heap.size W W' := by
  obtain ⟨a, f, K1, E1, D1⟩ := enc_two n1 _ (few_w F1)
  obtain ⟨b, g, K2, E2, D2⟩ := enc_two n2 _ (few_w F2)
  obtain ⟨c, p, K3, E3, D3⟩ := encR_two _ (fewRows_w F3) (by have := fewRows_len l3; omega)
  obtain ⟨d, q, K4, E4, D4⟩ := encR_two _ (fewRows_w F4) (by have := fewRows_len l4; omega)
  obtain ⟨K5, r1, S1, R1⟩ := same_f n1 n2 ((l1.take 70).map cutTxn) ((l2.take 70).map cutTxn) (by have := few_len l1; omega) (fun t ht => by
    obtain ⟨u, _, rfl⟩ := List.mem_map.1 ht
    show ((u.f1.take 40).map cutChange).length ≤ 100000
    rw [List.length_map, List.length_take]
    omega)
  obtain ⟨K6, r2, S2, R2⟩ := sameR_f ((l3.take 60).map cutRow) ((l4.take 60).map cutRow) (by have := fewRows_len l3; omega)
  refine unlike_walk (K1 + K2 + K3 + K4 + K5 + K6) n1 l1 A1 c1 n2 l2 A2 c2 l3 A3 c3 l4 A4 c4 W _ _ _ _ a b c d f g p q r1 r2 ⟨hl1⟩ ⟨hC1⟩ ⟨hl2⟩ ⟨hC2⟩ ⟨hl3⟩ ⟨hC3⟩ ⟨hl4⟩ ⟨hC4⟩ ⟨rfl⟩ ⟨rfl⟩ ⟨rfl⟩ ⟨rfl⟩ ⟨E1 _ (by omega)⟩ ⟨E2 _ (by omega)⟩ ⟨E3 _ (by omega)⟩ ⟨E4 _ (by omega)⟩ ⟨S1 _ (by omega)⟩ ⟨S2 _ (by omega)⟩ ⟨?_⟩ ⟨?_⟩
  · rcases D1 with ⟨rfl, g1, rfl⟩ | ⟨rfl, _⟩
    · rcases D2 with ⟨rfl, g2, rfl⟩ | ⟨rfl, _⟩
      · exact .inl ⟨⟨rfl, rfl⟩, str_beq _ _ (eEpoch_bytes _ _ g1) (eEpoch_bytes _ _ g2) r1 (R1.trans ⟨fun h => by rw [h.1, h.2], fun h => eEpoch_inj g1 g2 h⟩)⟩
      · exact .inr (.inr ⟨rfl, by decide⟩)
    · exact .inr (.inl ⟨by decide, trivial⟩)
  · rcases D3 with ⟨rfl, g1, rfl⟩ | ⟨rfl, _⟩
    · rcases D4 with ⟨rfl, g2, rfl⟩ | ⟨rfl, _⟩
      · exact .inl ⟨⟨rfl, rfl⟩, str_beq _ _ (eRows_bytes _ g1) (eRows_bytes _ g2) r2 (R2.trans ⟨fun h => by rw [h], fun h => eRows_inj g1 g2 (by have := fewRows_len l3; omega) (by have := fewRows_len l4; omega) h⟩)⟩
      · exact .inr (.inr ⟨rfl, by decide⟩)
    · exact .inr (.inl ⟨by decide, trivial⟩)
end Go.Proofs.Ytgmdoapedhppmaa.PC
