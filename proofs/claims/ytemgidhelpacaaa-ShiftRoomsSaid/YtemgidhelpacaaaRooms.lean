/- ShiftRooms: a number that has room is itself, any other one is none; small numbers with a sign have few bytes. The law's call returns true, for any numbers. -/
import Derived.Test.YtemgidhelpacaaaRows
import Derived.Test.YtemgidhelpacaaaPSx8
import Derived.Test.YtemgidhelpacaaaPSx2
import Derived.Test.YtemgidhelpacaaaShow
namespace Go.Proofs.Ytemgidhelpacaaa.Pure
set_option linter.unusedVariables false
open Go.RowKit Go.Proofs.Ytemgidhelpacaaa.PS Go.Proofs.YtemgidhelpacaaaW.PrintWords Go.Proofs.YtemgidhelpacaaaW.PrintLast Go.Proofs.YtemgidhelpacaaaW.PrintMore Go.Proofs.Ytemgidhelpacaaa.B

theorem to8_yes (n : Int) (h0 : 0 ≤ n) (h1 : n < 256) : shift_To8.f n = some (n, true) := by
  unfold shift_To8.f shift_to_uint8.f; rw [if_neg (by omega), if_pos (by omega), show n % 256 = n by omega]; rfl
theorem to8_no (n : Int) (h1 : 256 ≤ n) : shift_To8.f n = some (0, false) := by
  unfold shift_To8.f shift_to_uint8.f; rw [if_neg (by omega), if_neg (by omega)]; rfl
theorem to32_yes (n : Int) (h0 : 0 ≤ n) (h1 : n < 4294967296) : shift_To32.f n = some (n, true) := by
  unfold shift_To32.f shift_to_uint32.f; rw [if_neg (by omega), if_pos (by omega), show n % 4294967296 = n by omega]; rfl
theorem to32_no (n : Int) (h1 : 4294967296 ≤ n) : shift_To32.f n = some (0, false) := by
  unfold shift_To32.f shift_to_uint32.f; rw [if_neg (by omega), if_neg (by omega)]; rfl
theorem toInt_yes (n : Int) (h0 : 0 ≤ n) (h1 : n < 9223372036854775808) : shift_ToInt.f n = some (n, true) := by
  unfold shift_ToInt.f shift_to_int.f; rw [wrap64_id n (by omega) (by omega), if_neg (by omega), if_pos (by rw [IntKind.wrap_u64]; omega)]; rfl
theorem toInt_no (n : Int) (h1 : 9223372036854775808 ≤ n) (h2 : n < 18446744073709551616) : shift_ToInt.f n = some (0, false) := by
  unfold shift_ToInt.f shift_to_int.f; rw [show wrap64 n = n - 18446744073709551616 by unfold wrap64; omega, if_pos (by omega)]; rfl
set_option maxHeartbeats 4000000 in
set_option maxRecDepth 100000 in
theorem rooms_a (n s m : Int) (w : World) (hn0 : 0 ≤ n) (hn1 : n < 18446744073709551616) (hn2 : n < 256) (hs0 : 0 ≤ s) (hs1 : s < 256) (hm0 : -2147483648 ≤ m) (hm1 : m ≤ 2147483647) :
    Calls Try.prog 7 #[.int .u64 n, .int .u8 s, .int .i32 m] w fun e w' => e = .returned (.bool true) ∧ Below w.heap.size w w' := by
  have un : ((IntKind.u64.wrap n != n) : Bool) = false := by rw [IntKind.wrap_u64]; exact bne_eq_false_iff_eq.2 (by omega)
  have d1 : decide (n < 4294967296) = true := decide_eq_true (by omega)
  have d2 : decide (n < 9223372036854775808) = true := decide_eq_true (by omega)
  have d3 : decide (n < 256) = true := decide_eq_true (by omega)
  have d4 : decide (n < 0) = false := decide_eq_false (by omega)
  have T8 := Aside0.mk (to8_yes n hn0 (by omega))
  have T32 := Aside0.mk (to32_yes n hn0 (by omega))
  have TI := Aside0.mk (toInt_yes n hn0 (by omega))
  clear hn1 hn2
  go_enter Try.func7, Try.ntmps7
  go_wp2_with fail
  refine (tidemarklaw01_shown.calls 12 true _ shown_near).mono ?_
  rintro e w1 ⟨rfl, hb⟩
  have HB := Aside0.mk hb
  clear hb
  go_wp2_with fail
  refine (shift_To8.calls _ _ _ _ T8.out).mono ?_
  rintro e w2 ⟨rfl, ⟨nd, rfl⟩⟩
  go_wp2_with fail
  refine (shift_To32.calls _ _ _ _ T32.out).mono ?_
  rintro e w2 ⟨rfl, ⟨nd2, rfl⟩⟩
  go_wp2_with fail
  refine (shift_ToInt.calls _ _ _ _ TI.out).mono ?_
  rintro e w2 ⟨rfl, ⟨nd3, rfl⟩⟩
  go_wp2_with fail
  refine (shift_To8.calls _ _ _ _ (to8_yes s hs0 hs1)).mono ?_
  rintro e w2 ⟨rfl, ⟨nd4, rfl⟩⟩
  go_wp2_with fail
  obtain ⟨z, hz⟩ : ∃ z, zig m = z := ⟨_, rfl⟩
  have hz0 : 0 ≤ z := by rw [← hz]; exact zig_lo m
  have hz1 : z < 4294967296 := by rw [← hz]; unfold zig; split <;> omega
  have hz2 : (z % 2 = 1) ↔ m < 0 := by rw [← hz]; unfold zig; split <;> omega
  have zf : shift_Zig.f m = some z := by rw [← hz]; exact zig_f m (by omega) (by omega)
  have pf : shift_PutInt.f 10 [] m = some (puts z.toNat) := by
    unfold shift_PutInt.f; rw [zf]; simp only [Option.bind_some]; rw [put_f 10 [] z hz0 (by omega) (by decide) (by simp)]; simp
  have hl := puts_le 4 z.toNat (by have : 128 ^ (4 + 1) = 34359738368 := by decide
                                   omega)
  obtain ⟨l, hlz⟩ : ∃ l, puts z.toNat = l := ⟨_, rfl⟩
  rw [hlz] at pf hl
  clear hz hlz
  refine (shift_Zig.calls _ _ _ zf).mono ?_
  rintro e w2 ⟨rfl, ⟨nd5, rfl⟩⟩
  have d5 : decide (z < 4294967296) = true := decide_eq_true hz1
  have PF := Aside0.mk pf
  have HZ2 := Aside0.mk hz2
  clear zf pf hz2
  have hmz : ∃ b : Bool, (z % 2 == 1) = b ∧ decide (m < 0) = b := by
    by_cases hm : m < 0
    · exact ⟨true, beq_iff_eq.2 (HZ2.out.2 hm), decide_eq_true hm⟩
    · exact ⟨false, beq_eq_false_iff_ne.2 (fun h => hm (HZ2.out.1 h)), decide_eq_false hm⟩
  obtain ⟨b, d6, d7⟩ := hmz
  clear HZ2
  cases b
  all_goals
    go_wp2_with fail
    refine (shift_PutInt.calls 10 (fun _ => True) (.slice none 0 0) [] m l w _ (by exact pw_below_drewN HB.out _) (Kd.R_nil _ _ _ _ _) PF.out).mono ?_
    rintro e w3 ⟨v, rfl, hr, hb3, hk3⟩
    obtain ⟨A, c, rfl⟩ := Kd.R_slice hr
    have HB3 := Aside0.mk hb3
    clear hb3 hk3 hr
    go_wp2_with fail
    go_ret
    exact ⟨by simp; omega, HB3.out⟩
set_option maxHeartbeats 4000000 in
set_option maxRecDepth 100000 in
theorem rooms_b (n s m : Int) (w : World) (hn0 : 0 ≤ n) (hn1 : n < 18446744073709551616) (hn2 : 256 ≤ n) (hn3 : n < 4294967296) (hs0 : 0 ≤ s) (hs1 : s < 256) (hm0 : -2147483648 ≤ m) (hm1 : m ≤ 2147483647) :
    Calls Try.prog 7 #[.int .u64 n, .int .u8 s, .int .i32 m] w fun e w' => e = .returned (.bool true) ∧ Below w.heap.size w w' := by
  have un : ((IntKind.u64.wrap n != n) : Bool) = false := by rw [IntKind.wrap_u64]; exact bne_eq_false_iff_eq.2 (by omega)
  have d1 : decide (n < 4294967296) = true := decide_eq_true (by omega)
  have d2 : decide (n < 9223372036854775808) = true := decide_eq_true (by omega)
  have d3 : decide (n < 256) = false := decide_eq_false (by omega)
  have d4 : decide (n < 0) = false := decide_eq_false (by omega)
  have T8 := Aside0.mk (to8_no n (by omega))
  have T32 := Aside0.mk (to32_yes n hn0 (by omega))
  have TI := Aside0.mk (toInt_yes n hn0 (by omega))
  clear hn1 hn2 hn3
  go_enter Try.func7, Try.ntmps7
  go_wp2_with fail
  refine (tidemarklaw01_shown.calls 12 true _ shown_near).mono ?_
  rintro e w1 ⟨rfl, hb⟩
  have HB := Aside0.mk hb
  clear hb
  go_wp2_with fail
  refine (shift_To8.calls _ _ _ _ T8.out).mono ?_
  rintro e w2 ⟨rfl, ⟨nd, rfl⟩⟩
  go_wp2_with fail
  refine (shift_To32.calls _ _ _ _ T32.out).mono ?_
  rintro e w2 ⟨rfl, ⟨nd2, rfl⟩⟩
  go_wp2_with fail
  refine (shift_ToInt.calls _ _ _ _ TI.out).mono ?_
  rintro e w2 ⟨rfl, ⟨nd3, rfl⟩⟩
  go_wp2_with fail
  refine (shift_To8.calls _ _ _ _ (to8_yes s hs0 hs1)).mono ?_
  rintro e w2 ⟨rfl, ⟨nd4, rfl⟩⟩
  go_wp2_with fail
  obtain ⟨z, hz⟩ : ∃ z, zig m = z := ⟨_, rfl⟩
  have hz0 : 0 ≤ z := by rw [← hz]; exact zig_lo m
  have hz1 : z < 4294967296 := by rw [← hz]; unfold zig; split <;> omega
  have hz2 : (z % 2 = 1) ↔ m < 0 := by rw [← hz]; unfold zig; split <;> omega
  have zf : shift_Zig.f m = some z := by rw [← hz]; exact zig_f m (by omega) (by omega)
  have pf : shift_PutInt.f 10 [] m = some (puts z.toNat) := by
    unfold shift_PutInt.f; rw [zf]; simp only [Option.bind_some]; rw [put_f 10 [] z hz0 (by omega) (by decide) (by simp)]; simp
  have hl := puts_le 4 z.toNat (by have : 128 ^ (4 + 1) = 34359738368 := by decide
                                   omega)
  obtain ⟨l, hlz⟩ : ∃ l, puts z.toNat = l := ⟨_, rfl⟩
  rw [hlz] at pf hl
  clear hz hlz
  refine (shift_Zig.calls _ _ _ zf).mono ?_
  rintro e w2 ⟨rfl, ⟨nd5, rfl⟩⟩
  have d5 : decide (z < 4294967296) = true := decide_eq_true hz1
  have PF := Aside0.mk pf
  have HZ2 := Aside0.mk hz2
  clear zf pf hz2
  have hmz : ∃ b : Bool, (z % 2 == 1) = b ∧ decide (m < 0) = b := by
    by_cases hm : m < 0
    · exact ⟨true, beq_iff_eq.2 (HZ2.out.2 hm), decide_eq_true hm⟩
    · exact ⟨false, beq_eq_false_iff_ne.2 (fun h => hm (HZ2.out.1 h)), decide_eq_false hm⟩
  obtain ⟨b, d6, d7⟩ := hmz
  clear HZ2
  cases b
  all_goals
    go_wp2_with fail
    refine (shift_PutInt.calls 10 (fun _ => True) (.slice none 0 0) [] m l w _ (by exact pw_below_drewN HB.out _) (Kd.R_nil _ _ _ _ _) PF.out).mono ?_
    rintro e w3 ⟨v, rfl, hr, hb3, hk3⟩
    obtain ⟨A, c, rfl⟩ := Kd.R_slice hr
    have HB3 := Aside0.mk hb3
    clear hb3 hk3 hr
    go_wp2_with fail
    go_ret
    exact ⟨by simp; omega, HB3.out⟩
set_option maxHeartbeats 4000000 in
set_option maxRecDepth 100000 in
theorem rooms_c (n s m : Int) (w : World) (hn0 : 0 ≤ n) (hn1 : n < 18446744073709551616) (hn2 : 4294967296 ≤ n) (hn3 : n < 9223372036854775808) (hs0 : 0 ≤ s) (hs1 : s < 256) (hm0 : -2147483648 ≤ m) (hm1 : m ≤ 2147483647) :
    Calls Try.prog 7 #[.int .u64 n, .int .u8 s, .int .i32 m] w fun e w' => e = .returned (.bool true) ∧ Below w.heap.size w w' := by
  have un : ((IntKind.u64.wrap n != n) : Bool) = false := by rw [IntKind.wrap_u64]; exact bne_eq_false_iff_eq.2 (by omega)
  have d1 : decide (n < 4294967296) = false := decide_eq_false (by omega)
  have d2 : decide (n < 9223372036854775808) = true := decide_eq_true (by omega)
  have d3 : decide (n < 256) = false := decide_eq_false (by omega)
  have d4 : decide (n < 0) = false := decide_eq_false (by omega)
  have T8 := Aside0.mk (to8_no n (by omega))
  have T32 := Aside0.mk (to32_no n (by omega))
  have TI := Aside0.mk (toInt_yes n hn0 (by omega))
  clear hn1 hn2 hn3
  go_enter Try.func7, Try.ntmps7
  go_wp2_with fail
  refine (tidemarklaw01_shown.calls 12 true _ shown_near).mono ?_
  rintro e w1 ⟨rfl, hb⟩
  have HB := Aside0.mk hb
  clear hb
  go_wp2_with fail
  refine (shift_To8.calls _ _ _ _ T8.out).mono ?_
  rintro e w2 ⟨rfl, ⟨nd, rfl⟩⟩
  go_wp2_with fail
  refine (shift_To32.calls _ _ _ _ T32.out).mono ?_
  rintro e w2 ⟨rfl, ⟨nd2, rfl⟩⟩
  go_wp2_with fail
  refine (shift_ToInt.calls _ _ _ _ TI.out).mono ?_
  rintro e w2 ⟨rfl, ⟨nd3, rfl⟩⟩
  go_wp2_with fail
  refine (shift_To8.calls _ _ _ _ (to8_yes s hs0 hs1)).mono ?_
  rintro e w2 ⟨rfl, ⟨nd4, rfl⟩⟩
  go_wp2_with fail
  obtain ⟨z, hz⟩ : ∃ z, zig m = z := ⟨_, rfl⟩
  have hz0 : 0 ≤ z := by rw [← hz]; exact zig_lo m
  have hz1 : z < 4294967296 := by rw [← hz]; unfold zig; split <;> omega
  have hz2 : (z % 2 = 1) ↔ m < 0 := by rw [← hz]; unfold zig; split <;> omega
  have zf : shift_Zig.f m = some z := by rw [← hz]; exact zig_f m (by omega) (by omega)
  have pf : shift_PutInt.f 10 [] m = some (puts z.toNat) := by
    unfold shift_PutInt.f; rw [zf]; simp only [Option.bind_some]; rw [put_f 10 [] z hz0 (by omega) (by decide) (by simp)]; simp
  have hl := puts_le 4 z.toNat (by have : 128 ^ (4 + 1) = 34359738368 := by decide
                                   omega)
  obtain ⟨l, hlz⟩ : ∃ l, puts z.toNat = l := ⟨_, rfl⟩
  rw [hlz] at pf hl
  clear hz hlz
  refine (shift_Zig.calls _ _ _ zf).mono ?_
  rintro e w2 ⟨rfl, ⟨nd5, rfl⟩⟩
  have d5 : decide (z < 4294967296) = true := decide_eq_true hz1
  have PF := Aside0.mk pf
  have HZ2 := Aside0.mk hz2
  clear zf pf hz2
  have hmz : ∃ b : Bool, (z % 2 == 1) = b ∧ decide (m < 0) = b := by
    by_cases hm : m < 0
    · exact ⟨true, beq_iff_eq.2 (HZ2.out.2 hm), decide_eq_true hm⟩
    · exact ⟨false, beq_eq_false_iff_ne.2 (fun h => hm (HZ2.out.1 h)), decide_eq_false hm⟩
  obtain ⟨b, d6, d7⟩ := hmz
  clear HZ2
  cases b
  all_goals
    go_wp2_with fail
    refine (shift_PutInt.calls 10 (fun _ => True) (.slice none 0 0) [] m l w _ (by exact pw_below_drewN HB.out _) (Kd.R_nil _ _ _ _ _) PF.out).mono ?_
    rintro e w3 ⟨v, rfl, hr, hb3, hk3⟩
    obtain ⟨A, c, rfl⟩ := Kd.R_slice hr
    have HB3 := Aside0.mk hb3
    clear hb3 hk3 hr
    go_wp2_with fail
    go_ret
    exact ⟨by simp; omega, HB3.out⟩
set_option maxHeartbeats 4000000 in
set_option maxRecDepth 100000 in
theorem rooms_d (n s m : Int) (w : World) (hn0 : 0 ≤ n) (hn1 : n < 18446744073709551616) (hn2 : 9223372036854775808 ≤ n) (hs0 : 0 ≤ s) (hs1 : s < 256) (hm0 : -2147483648 ≤ m) (hm1 : m ≤ 2147483647) :
    Calls Try.prog 7 #[.int .u64 n, .int .u8 s, .int .i32 m] w fun e w' => e = .returned (.bool true) ∧ Below w.heap.size w w' := by
  have un : ((IntKind.u64.wrap n != n) : Bool) = false := by rw [IntKind.wrap_u64]; exact bne_eq_false_iff_eq.2 (by omega)
  have d1 : decide (n < 4294967296) = false := decide_eq_false (by omega)
  have d2 : decide (n < 9223372036854775808) = false := decide_eq_false (by omega)
  have d3 : decide (n < 256) = false := decide_eq_false (by omega)
  have d4 : decide (n < 0) = false := decide_eq_false (by omega)
  have T8 := Aside0.mk (to8_no n (by omega))
  have T32 := Aside0.mk (to32_no n (by omega))
  have TI := Aside0.mk (toInt_no n (by omega) hn1)
  clear hn1 hn2
  go_enter Try.func7, Try.ntmps7
  go_wp2_with fail
  refine (tidemarklaw01_shown.calls 12 true _ shown_near).mono ?_
  rintro e w1 ⟨rfl, hb⟩
  have HB := Aside0.mk hb
  clear hb
  go_wp2_with fail
  refine (shift_To8.calls _ _ _ _ T8.out).mono ?_
  rintro e w2 ⟨rfl, ⟨nd, rfl⟩⟩
  go_wp2_with fail
  refine (shift_To32.calls _ _ _ _ T32.out).mono ?_
  rintro e w2 ⟨rfl, ⟨nd2, rfl⟩⟩
  go_wp2_with fail
  refine (shift_ToInt.calls _ _ _ _ TI.out).mono ?_
  rintro e w2 ⟨rfl, ⟨nd3, rfl⟩⟩
  go_wp2_with fail
  refine (shift_To8.calls _ _ _ _ (to8_yes s hs0 hs1)).mono ?_
  rintro e w2 ⟨rfl, ⟨nd4, rfl⟩⟩
  go_wp2_with fail
  any_goals (exact absurd ‹some undef = some (Value.bool _)› (by intro h; cases h))
  obtain ⟨z, hz⟩ : ∃ z, zig m = z := ⟨_, rfl⟩
  have hz0 : 0 ≤ z := by rw [← hz]; exact zig_lo m
  have hz1 : z < 4294967296 := by rw [← hz]; unfold zig; split <;> omega
  have hz2 : (z % 2 = 1) ↔ m < 0 := by rw [← hz]; unfold zig; split <;> omega
  have zf : shift_Zig.f m = some z := by rw [← hz]; exact zig_f m (by omega) (by omega)
  have pf : shift_PutInt.f 10 [] m = some (puts z.toNat) := by
    unfold shift_PutInt.f; rw [zf]; simp only [Option.bind_some]; rw [put_f 10 [] z hz0 (by omega) (by decide) (by simp)]; simp
  have hl := puts_le 4 z.toNat (by have : 128 ^ (4 + 1) = 34359738368 := by decide
                                   omega)
  obtain ⟨l, hlz⟩ : ∃ l, puts z.toNat = l := ⟨_, rfl⟩
  rw [hlz] at pf hl
  clear hz hlz
  refine (shift_Zig.calls _ _ _ zf).mono ?_
  rintro e w2 ⟨rfl, ⟨nd5, rfl⟩⟩
  have d5 : decide (z < 4294967296) = true := decide_eq_true hz1
  have PF := Aside0.mk pf
  have HZ2 := Aside0.mk hz2
  clear zf pf hz2
  have hmz : ∃ b : Bool, (z % 2 == 1) = b ∧ decide (m < 0) = b := by
    by_cases hm : m < 0
    · exact ⟨true, beq_iff_eq.2 (HZ2.out.2 hm), decide_eq_true hm⟩
    · exact ⟨false, beq_eq_false_iff_ne.2 (fun h => hm (HZ2.out.1 h)), decide_eq_false hm⟩
  obtain ⟨b, d6, d7⟩ := hmz
  clear HZ2
  cases b
  all_goals
    go_wp2_with fail
    refine (shift_PutInt.calls 10 (fun _ => True) (.slice none 0 0) [] m l w _ (by exact pw_below_drewN HB.out _) (Kd.R_nil _ _ _ _ _) PF.out).mono ?_
    rintro e w3 ⟨v, rfl, hr, hb3, hk3⟩
    obtain ⟨A, c, rfl⟩ := Kd.R_slice hr
    have HB3 := Aside0.mk hb3
    clear hb3 hk3 hr
    go_wp2_with fail
    go_ret
    exact ⟨by simp; omega, HB3.out⟩
theorem rooms (n s m : Int) (w : World) (wn : (Lit.int .u64 n).wf = true) (ws : (Lit.int .u8 s).wf = true) (wm : (Lit.int .i32 m).wf = true) :
    Calls Try.prog 7 #[.int .u64 n, .int .u8 s, .int .i32 m] w fun e w' => e = .returned (.bool true) ∧ Below w.heap.size w w' := by
  have hn := u64_at n wn
  have hs := u8_at s ws
  have hm := i32_at m wm
  by_cases h8 : n < 256
  · exact rooms_a n s m w hn.1 hn.2 h8 hs.1 hs.2 hm.1 hm.2
  · by_cases h32 : n < 4294967296
    · exact rooms_b n s m w hn.1 hn.2 (by omega) h32 hs.1 hs.2 hm.1 hm.2
    · by_cases h64 : n < 9223372036854775808
      · exact rooms_c n s m w hn.1 hn.2 (by omega) h64 hs.1 hs.2 hm.1 hm.2
      · exact rooms_d n s m w hn.1 hn.2 (by omega) hs.1 hs.2 hm.1 hm.2
end Go.Proofs.Ytemgidhelpacaaa.Pure
