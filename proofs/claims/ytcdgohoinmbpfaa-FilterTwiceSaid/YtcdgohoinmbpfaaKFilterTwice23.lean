import Derived.Test.YtcdgohoinmbpfaaKFilterTwice6
import Derived.Test.YtcdgohoinmbpfaaKFilterTwice21
namespace Go.Proofs.Ytcdgohoinmbpfaa.M
open Go.RowKit Go.Proofs.YtcdgohoinmbpfaaW.PrintWords Go.Proofs.YtcdgohoinmbpfaaW.PrintLast Go.Proofs.YtcdgohoinmbpfaaW.PrintMore
attribute [local go_sem] max2_int min2_int max_two min_two
set_option linter.unusedVariables false
set_option linter.unusedSimpArgs false

def ints_truth.f (a0 : Bool) : Option (Int) := if a0 = true then (some 1) else (some 0)
set_option maxHeartbeats 8000000 in
set_option maxRecDepth 100000 in
theorem ints_truth.calls (a0 : Bool) (r : Int) (w : World) (h : ints_truth.f a0 = some r) :
  Calls Try.prog 75 #[.bool a0] w fun e w' => e = .returned (.int .i64 r) ∧ Drawn0 w w' := by
 have H : (if a0 = true then (some 1) else (some 0)) = some r := h
 clear h
 by_cases c2 : a0 = true
 ·subst c2
  rw [if_pos rfl] at H
  obtain rfl := Option.some.inj H
  go_enter Try.func75, Try.ntmps75
  go_wp2
  go_ret
  exact ⟨by first | rfl | (simp; done) | (simp [*]; done), by repeat (first | exact Drawn0.refl _ | apply Drawn0.step)⟩
 ·replace c2 := Bool.eq_false_iff.mpr c2
  subst c2
  rw [if_neg (show ¬ (false = true) by decide)] at H
  obtain rfl := Option.some.inj H
  go_enter Try.func75, Try.ntmps75
  go_wp2
  go_ret
  exact ⟨by first | rfl | (simp; done) | (simp [*]; done), by repeat (first | exact Drawn0.refl _ | apply Drawn0.step)⟩

def ints_Do.f (a0 : Int) (a1 : Int) (a2 : Int) : Option (Int × Int) := if a0 = 5 then (some (wrap64 (-a1), 0)) else (if a0 = 6 then ((ints_truth.f (a1 == 0)).bind fun t121 => (some (t121, 0))) else (if a0 = 7 then (some (wrap64 (a1 * a2), 0)) else (if a0 = 8 then (some (wrap64 (a1 + a2), 0)) else (if a0 = 9 then (some (wrap64 (a1 - a2), 0)) else (if a0 = 10 then (if 0 ≤ (Go.bits .and .i64 a2 63) then (some (shl .i64 a1 (Go.bits .and .i64 a2 63), 0)) else (none)) else (if a0 = 11 then (if 0 ≤ (Go.bits .and .i64 a2 63) then (some (shr .i64 a1 (Go.bits .and .i64 a2 63), 0)) else (none)) else (if a0 = 12 then ((ints_truth.f (decide (a1 < a2))).bind fun t122 => (some (t122, 0))) else (if a0 = 13 then ((ints_truth.f (decide (a1 ≤ a2))).bind fun t123 => (some (t123, 0))) else (if a0 = 14 then ((ints_truth.f (decide (a1 > a2))).bind fun t124 => (some (t124, 0))) else (if a0 = 15 then ((ints_truth.f (decide (a1 ≥ a2))).bind fun t125 => (some (t125, 0))) else (if a0 = 16 then ((ints_truth.f (a1 == a2)).bind fun t126 => (some (t126, 0))) else (if a0 = 17 then ((ints_truth.f (a1 != a2)).bind fun t127 => (some (t127, 0))) else (if a0 = 18 then (if a1 = 0 then ((ints_truth.f false).bind fun t128 => (some (t128, 0))) else ((ints_truth.f (a2 != 0)).bind fun t129 => (some (t129, 0)))) else (if a0 = 19 then ((ints_truth.f ((Go.bits .or .i64 a1 a2) != 0)).bind fun t130 => (some (t130, 0))) else (some (0, 2))))))))))))))))
set_option maxHeartbeats 8000000 in
set_option maxRecDepth 100000 in
theorem ints_Do.calls (a0 : Int) (a1 : Int) (a2 : Int) (r1 : Int) (r2 : Int) (w : World) (h : ints_Do.f a0 a1 a2 = some (r1, r2)) :
  Calls Try.prog 53 #[.int .u8 a0, .int .i64 a1, .int .i64 a2] w fun e w' => e = .returned (.tuple #[.int .i64 r1, .int .i64 r2]) ∧ Drawn0 w w' := by
 have H : (if a0 = 5 then (some (wrap64 (-a1), 0)) else (if a0 = 6 then ((ints_truth.f (a1 == 0)).bind fun t121 => (some (t121, 0))) else (if a0 = 7 then (some (wrap64 (a1 * a2), 0)) else (if a0 = 8 then (some (wrap64 (a1 + a2), 0)) else (if a0 = 9 then (some (wrap64 (a1 - a2), 0)) else (if a0 = 10 then (if 0 ≤ (Go.bits .and .i64 a2 63) then (some (shl .i64 a1 (Go.bits .and .i64 a2 63), 0)) else (none)) else (if a0 = 11 then (if 0 ≤ (Go.bits .and .i64 a2 63) then (some (shr .i64 a1 (Go.bits .and .i64 a2 63), 0)) else (none)) else (if a0 = 12 then ((ints_truth.f (decide (a1 < a2))).bind fun t122 => (some (t122, 0))) else (if a0 = 13 then ((ints_truth.f (decide (a1 ≤ a2))).bind fun t123 => (some (t123, 0))) else (if a0 = 14 then ((ints_truth.f (decide (a1 > a2))).bind fun t124 => (some (t124, 0))) else (if a0 = 15 then ((ints_truth.f (decide (a1 ≥ a2))).bind fun t125 => (some (t125, 0))) else (if a0 = 16 then ((ints_truth.f (a1 == a2)).bind fun t126 => (some (t126, 0))) else (if a0 = 17 then ((ints_truth.f (a1 != a2)).bind fun t127 => (some (t127, 0))) else (if a0 = 18 then (if a1 = 0 then ((ints_truth.f false).bind fun t128 => (some (t128, 0))) else ((ints_truth.f (a2 != 0)).bind fun t129 => (some (t129, 0)))) else (if a0 = 19 then ((ints_truth.f ((Go.bits .or .i64 a1 a2) != 0)).bind fun t130 => (some (t130, 0))) else (some (0, 2))))))))))))))))) = some (r1, r2) := h
 clear h
 by_cases c4 : a0 = 5
 ·rw [if_pos c4] at H
  have c4b0 : (a0 == 5) = true := beq_iff_eq.mpr c4
  have c4b1 : (a0 != 5) = false := bne_eq_false_iff_eq.mpr c4
  clear c4
  simp only [Option.some.injEq, Prod.mk.injEq] at H
  obtain ⟨rfl, rfl⟩ := H
  go_enter Try.func53, Try.ntmps53
  go_wp2
  go_ret2
  exact ⟨by first | rfl | (simp; done) | (simp [*]; done), by repeat (first | exact Drawn0.refl _ | apply Drawn0.step)⟩
 ·rw [if_neg c4] at H
  have c4b0 : (a0 == 5) = false := beq_eq_false_iff_ne.mpr c4
  have c4b1 : (a0 != 5) = true := bne_iff_ne.mpr c4
  by_cases c5 : a0 = 6
  ·rw [if_pos c5] at H
   have c5b0 : (a0 == 6) = true := beq_iff_eq.mpr c5
   have c5b1 : (a0 != 6) = false := bne_eq_false_iff_eq.mpr c5
   clear c5
   replace H := Option.bind_eq_some_iff.mp H
   obtain ⟨t121, A60, H⟩ := H
   try dsimp only at H
   have A6 := am A60
   clear A60
   simp only [Option.some.injEq, Prod.mk.injEq] at H
   obtain ⟨rfl, rfl⟩ := H
   go_enter Try.func53, Try.ntmps53
   go_wp2_with (first | ((with_reducible refine gate_callee (f := 75) rfl ?_); refine goesL_ (some 17) rfl rfl Try.func75 (by kernel_rfl) rfl #[.bool (a1 == 0)] rfl (by (try simp only [List.map_toArray, List.map_cons, List.map_nil]) <;> rfl) ?_; (with_reducible refine (ints_truth.calls (a1 == 0) t121 _ A6.out).mono ?_); rintro e w' ⟨rfl, ⟨nd, rfl⟩⟩; refine ⟨_, rfl, ?_⟩))
   go_ret2
   exact ⟨by first | rfl | (simp; done) | (simp [*]; done), by repeat (first | exact Drawn0.refl _ | apply Drawn0.step)⟩
  ·rw [if_neg c5] at H
   have c5b0 : (a0 == 6) = false := beq_eq_false_iff_ne.mpr c5
   have c5b1 : (a0 != 6) = true := bne_iff_ne.mpr c5
   by_cases c7 : a0 = 7
   ·rw [if_pos c7] at H
    have c7b0 : (a0 == 7) = true := beq_iff_eq.mpr c7
    have c7b1 : (a0 != 7) = false := bne_eq_false_iff_eq.mpr c7
    clear c7
    simp only [Option.some.injEq, Prod.mk.injEq] at H
    obtain ⟨rfl, rfl⟩ := H
    go_enter Try.func53, Try.ntmps53
    go_wp2
    go_ret2
    exact ⟨by first | rfl | (simp; done) | (simp [*]; done), by repeat (first | exact Drawn0.refl _ | apply Drawn0.step)⟩
   ·rw [if_neg c7] at H
    have c7b0 : (a0 == 7) = false := beq_eq_false_iff_ne.mpr c7
    have c7b1 : (a0 != 7) = true := bne_iff_ne.mpr c7
    by_cases c8 : a0 = 8
    ·rw [if_pos c8] at H
     have c8b0 : (a0 == 8) = true := beq_iff_eq.mpr c8
     have c8b1 : (a0 != 8) = false := bne_eq_false_iff_eq.mpr c8
     clear c8
     simp only [Option.some.injEq, Prod.mk.injEq] at H
     obtain ⟨rfl, rfl⟩ := H
     go_enter Try.func53, Try.ntmps53
     go_wp2
     go_ret2
     exact ⟨by first | rfl | (simp; done) | (simp [*]; done), by repeat (first | exact Drawn0.refl _ | apply Drawn0.step)⟩
    ·rw [if_neg c8] at H
     have c8b0 : (a0 == 8) = false := beq_eq_false_iff_ne.mpr c8
     have c8b1 : (a0 != 8) = true := bne_iff_ne.mpr c8
     by_cases c9 : a0 = 9
     ·rw [if_pos c9] at H
      have c9b0 : (a0 == 9) = true := beq_iff_eq.mpr c9
      have c9b1 : (a0 != 9) = false := bne_eq_false_iff_eq.mpr c9
      clear c9
      simp only [Option.some.injEq, Prod.mk.injEq] at H
      obtain ⟨rfl, rfl⟩ := H
      go_enter Try.func53, Try.ntmps53
      go_wp2
      go_ret2
      exact ⟨by first | rfl | (simp; done) | (simp [*]; done), by repeat (first | exact Drawn0.refl _ | apply Drawn0.step)⟩
     ·rw [if_neg c9] at H
      have c9b0 : (a0 == 9) = false := beq_eq_false_iff_ne.mpr c9
      have c9b1 : (a0 != 9) = true := bne_iff_ne.mpr c9
      by_cases c10 : a0 = 10
      ·rw [if_pos c10] at H
       have c10b0 : (a0 == 10) = true := beq_iff_eq.mpr c10
       have c10b1 : (a0 != 10) = false := bne_eq_false_iff_eq.mpr c10
       clear c10
       by_cases c11 : 0 ≤ (Go.bits .and .i64 a2 63)
       ·rw [if_pos c11] at H
        have c11b0 := eq_true c11
        have c11b1 : decide (0 ≤ (Go.bits .and .i64 a2 63)) = true := decide_eq_true c11
        clear c11
        obtain ⟨ji12, hji12⟩ : ∃ j_ : Int, (shl .i64 a1 (Go.bits .and .i64 a2 63)) = j_ := ⟨_, rfl⟩
        replace H : (some (ji12, 0)) = some (r1, r2) := by first | (rw [hji12] at H; exact H) | (simp only [hji12] at H ⊢; exact H)
        have hji12_ : (IntKind.i64.wrap (a1 * 2 ^ min (Go.bits .and .i64 a2 63).toNat 64)) = ji12 := hji12
        have hji12z : (Go.bits .and .i64 a2 63) ≤ 64 → (IntKind.i64.wrap (a1 * 2 ^ (Go.bits .and .i64 a2 63).toNat)) = ji12 := shl_small hji12
        have hji12y : (wrap64 (a1 * 2 ^ min (Go.bits .and .i64 a2 63).toNat 64)) = ji12 := (i64_w _).symm.trans hji12_
        have hji12x : (Go.bits .and .i64 a2 63) ≤ 64 → (wrap64 (a1 * 2 ^ (Go.bits .and .i64 a2 63).toNat)) = ji12 := fun h_ => (i64_w _).symm.trans (hji12z h_)
        simp only [Option.some.injEq, Prod.mk.injEq] at H
        obtain ⟨rfl, rfl⟩ := H
        go_enter Try.func53, Try.ntmps53
        go_wp2
        go_ret2
        exact ⟨by first | rfl | (simp; done) | (simp only [← hji12] <;> (first | rfl | simp)) | (simp [*]; done), by repeat (first | exact Drawn0.refl _ | apply Drawn0.step)⟩
       ·rw [if_neg c11] at H
        exact absurd H (by simp)
      ·rw [if_neg c10] at H
       have c10b0 : (a0 == 10) = false := beq_eq_false_iff_ne.mpr c10
       have c10b1 : (a0 != 10) = true := bne_iff_ne.mpr c10
       by_cases c13 : a0 = 11
       ·rw [if_pos c13] at H
        have c13b0 : (a0 == 11) = true := beq_iff_eq.mpr c13
        have c13b1 : (a0 != 11) = false := bne_eq_false_iff_eq.mpr c13
        clear c13
        by_cases c14 : 0 ≤ (Go.bits .and .i64 a2 63)
        ·rw [if_pos c14] at H
         have c14b0 := eq_true c14
         have c14b1 : decide (0 ≤ (Go.bits .and .i64 a2 63)) = true := decide_eq_true c14
         clear c14
         obtain ⟨ji15, hji15⟩ : ∃ j_ : Int, (shr .i64 a1 (Go.bits .and .i64 a2 63)) = j_ := ⟨_, rfl⟩
         replace H : (some (ji15, 0)) = some (r1, r2) := by first | (rw [hji15] at H; exact H) | (simp only [hji15] at H ⊢; exact H)
         have hji15_ : (a1 / 2 ^ min (Go.bits .and .i64 a2 63).toNat 64) = ji15 := hji15
         have hji15z : (Go.bits .and .i64 a2 63) ≤ 64 → (a1 / 2 ^ (Go.bits .and .i64 a2 63).toNat) = ji15 := shr_small hji15
         simp only [Option.some.injEq, Prod.mk.injEq] at H
         obtain ⟨rfl, rfl⟩ := H
         go_enter Try.func53, Try.ntmps53
         go_wp2
         go_ret2
         exact ⟨by first | rfl | (simp; done) | (simp only [← hji15] <;> (first | rfl | simp)) | (simp [*]; done), by repeat (first | exact Drawn0.refl _ | apply Drawn0.step)⟩
        ·rw [if_neg c14] at H
         exact absurd H (by simp)
       ·rw [if_neg c13] at H
        have c13b0 : (a0 == 11) = false := beq_eq_false_iff_ne.mpr c13
        have c13b1 : (a0 != 11) = true := bne_iff_ne.mpr c13
        by_cases c16 : a0 = 12
        ·rw [if_pos c16] at H
         have c16b0 : (a0 == 12) = true := beq_iff_eq.mpr c16
         have c16b1 : (a0 != 12) = false := bne_eq_false_iff_eq.mpr c16
         clear c16
         replace H := Option.bind_eq_some_iff.mp H
         obtain ⟨t122, A170, H⟩ := H
         try dsimp only at H
         have A17 := am A170
         clear A170
         simp only [Option.some.injEq, Prod.mk.injEq] at H
         obtain ⟨rfl, rfl⟩ := H
         go_enter Try.func53, Try.ntmps53
         go_wp2_with (first | ((with_reducible refine gate_callee (f := 75) rfl ?_); refine goesL_ (some 50) rfl rfl Try.func75 (by kernel_rfl) rfl #[.bool (decide (a1 < a2))] rfl (by (try simp only [List.map_toArray, List.map_cons, List.map_nil]) <;> rfl) ?_; (with_reducible refine (ints_truth.calls (decide (a1 < a2)) t122 _ A17.out).mono ?_); rintro e w' ⟨rfl, ⟨nd, rfl⟩⟩; refine ⟨_, rfl, ?_⟩))
         go_ret2
         exact ⟨by first | rfl | (simp; done) | (simp [*]; done), by repeat (first | exact Drawn0.refl _ | apply Drawn0.step)⟩
        ·rw [if_neg c16] at H
         have c16b0 : (a0 == 12) = false := beq_eq_false_iff_ne.mpr c16
         have c16b1 : (a0 != 12) = true := bne_iff_ne.mpr c16
         by_cases c18 : a0 = 13
         ·rw [if_pos c18] at H
          have c18b0 : (a0 == 13) = true := beq_iff_eq.mpr c18
          have c18b1 : (a0 != 13) = false := bne_eq_false_iff_eq.mpr c18
          clear c18
          replace H := Option.bind_eq_some_iff.mp H
          obtain ⟨t123, A190, H⟩ := H
          try dsimp only at H
          have A19 := am A190
          clear A190
          simp only [Option.some.injEq, Prod.mk.injEq] at H
          obtain ⟨rfl, rfl⟩ := H
          go_enter Try.func53, Try.ntmps53
          go_wp2_with (first | ((with_reducible refine gate_callee (f := 75) rfl ?_); refine goesL_ (some 56) rfl rfl Try.func75 (by kernel_rfl) rfl #[.bool (decide (a1 ≤ a2))] rfl (by (try simp only [List.map_toArray, List.map_cons, List.map_nil]) <;> rfl) ?_; (with_reducible refine (ints_truth.calls (decide (a1 ≤ a2)) t123 _ A19.out).mono ?_); rintro e w' ⟨rfl, ⟨nd, rfl⟩⟩; refine ⟨_, rfl, ?_⟩))
          go_ret2
          exact ⟨by first | rfl | (simp; done) | (simp [*]; done), by repeat (first | exact Drawn0.refl _ | apply Drawn0.step)⟩
         ·rw [if_neg c18] at H
          have c18b0 : (a0 == 13) = false := beq_eq_false_iff_ne.mpr c18
          have c18b1 : (a0 != 13) = true := bne_iff_ne.mpr c18
          by_cases c20 : a0 = 14
          ·rw [if_pos c20] at H
           have c20b0 : (a0 == 14) = true := beq_iff_eq.mpr c20
           have c20b1 : (a0 != 14) = false := bne_eq_false_iff_eq.mpr c20
           clear c20
           replace H := Option.bind_eq_some_iff.mp H
           obtain ⟨t124, A210, H⟩ := H
           try dsimp only at H
           have A21 := am A210
           clear A210
           simp only [Option.some.injEq, Prod.mk.injEq] at H
           obtain ⟨rfl, rfl⟩ := H
           go_enter Try.func53, Try.ntmps53
           go_wp2_with (first | ((with_reducible refine gate_callee (f := 75) rfl ?_); refine goesL_ (some 62) rfl rfl Try.func75 (by kernel_rfl) rfl #[.bool (decide (a1 > a2))] rfl (by (try simp only [List.map_toArray, List.map_cons, List.map_nil]) <;> rfl) ?_; (with_reducible refine (ints_truth.calls (decide (a1 > a2)) t124 _ A21.out).mono ?_); rintro e w' ⟨rfl, ⟨nd, rfl⟩⟩; refine ⟨_, rfl, ?_⟩))
           go_ret2
           exact ⟨by first | rfl | (simp; done) | (simp [*]; done), by repeat (first | exact Drawn0.refl _ | apply Drawn0.step)⟩
          ·rw [if_neg c20] at H
           have c20b0 : (a0 == 14) = false := beq_eq_false_iff_ne.mpr c20
           have c20b1 : (a0 != 14) = true := bne_iff_ne.mpr c20
           by_cases c22 : a0 = 15
           ·rw [if_pos c22] at H
            have c22b0 : (a0 == 15) = true := beq_iff_eq.mpr c22
            have c22b1 : (a0 != 15) = false := bne_eq_false_iff_eq.mpr c22
            clear c22
            replace H := Option.bind_eq_some_iff.mp H
            obtain ⟨t125, A230, H⟩ := H
            try dsimp only at H
            have A23 := am A230
            clear A230
            simp only [Option.some.injEq, Prod.mk.injEq] at H
            obtain ⟨rfl, rfl⟩ := H
            go_enter Try.func53, Try.ntmps53
            go_wp2_with (first | ((with_reducible refine gate_callee (f := 75) rfl ?_); refine goesL_ (some 68) rfl rfl Try.func75 (by kernel_rfl) rfl #[.bool (decide (a1 ≥ a2))] rfl (by (try simp only [List.map_toArray, List.map_cons, List.map_nil]) <;> rfl) ?_; (with_reducible refine (ints_truth.calls (decide (a1 ≥ a2)) t125 _ A23.out).mono ?_); rintro e w' ⟨rfl, ⟨nd, rfl⟩⟩; refine ⟨_, rfl, ?_⟩))
            go_ret2
            exact ⟨by first | rfl | (simp; done) | (simp [*]; done), by repeat (first | exact Drawn0.refl _ | apply Drawn0.step)⟩
           ·rw [if_neg c22] at H
            have c22b0 : (a0 == 15) = false := beq_eq_false_iff_ne.mpr c22
            have c22b1 : (a0 != 15) = true := bne_iff_ne.mpr c22
            by_cases c24 : a0 = 16
            ·rw [if_pos c24] at H
             have c24b0 : (a0 == 16) = true := beq_iff_eq.mpr c24
             have c24b1 : (a0 != 16) = false := bne_eq_false_iff_eq.mpr c24
             clear c24
             replace H := Option.bind_eq_some_iff.mp H
             obtain ⟨t126, A250, H⟩ := H
             try dsimp only at H
             have A25 := am A250
             clear A250
             simp only [Option.some.injEq, Prod.mk.injEq] at H
             obtain ⟨rfl, rfl⟩ := H
             go_enter Try.func53, Try.ntmps53
             go_wp2_with (first | ((with_reducible refine gate_callee (f := 75) rfl ?_); refine goesL_ (some 74) rfl rfl Try.func75 (by kernel_rfl) rfl #[.bool (a1 == a2)] rfl (by (try simp only [List.map_toArray, List.map_cons, List.map_nil]) <;> rfl) ?_; (with_reducible refine (ints_truth.calls (a1 == a2) t126 _ A25.out).mono ?_); rintro e w' ⟨rfl, ⟨nd, rfl⟩⟩; refine ⟨_, rfl, ?_⟩))
             go_ret2
             exact ⟨by first | rfl | (simp; done) | (simp [*]; done), by repeat (first | exact Drawn0.refl _ | apply Drawn0.step)⟩
            ·rw [if_neg c24] at H
             have c24b0 : (a0 == 16) = false := beq_eq_false_iff_ne.mpr c24
             have c24b1 : (a0 != 16) = true := bne_iff_ne.mpr c24
             by_cases c26 : a0 = 17
             ·rw [if_pos c26] at H
              have c26b0 : (a0 == 17) = true := beq_iff_eq.mpr c26
              have c26b1 : (a0 != 17) = false := bne_eq_false_iff_eq.mpr c26
              clear c26
              replace H := Option.bind_eq_some_iff.mp H
              obtain ⟨t127, A270, H⟩ := H
              try dsimp only at H
              have A27 := am A270
              clear A270
              simp only [Option.some.injEq, Prod.mk.injEq] at H
              obtain ⟨rfl, rfl⟩ := H
              go_enter Try.func53, Try.ntmps53
              go_wp2_with (first | ((with_reducible refine gate_callee (f := 75) rfl ?_); refine goesL_ (some 80) rfl rfl Try.func75 (by kernel_rfl) rfl #[.bool (a1 != a2)] rfl (by (try simp only [List.map_toArray, List.map_cons, List.map_nil]) <;> rfl) ?_; (with_reducible refine (ints_truth.calls (a1 != a2) t127 _ A27.out).mono ?_); rintro e w' ⟨rfl, ⟨nd, rfl⟩⟩; refine ⟨_, rfl, ?_⟩))
              go_ret2
              exact ⟨by first | rfl | (simp; done) | (simp [*]; done), by repeat (first | exact Drawn0.refl _ | apply Drawn0.step)⟩
             ·rw [if_neg c26] at H
              have c26b0 : (a0 == 17) = false := beq_eq_false_iff_ne.mpr c26
              have c26b1 : (a0 != 17) = true := bne_iff_ne.mpr c26
              by_cases c28 : a0 = 18
              ·rw [if_pos c28] at H
               have c28b0 : (a0 == 18) = true := beq_iff_eq.mpr c28
               have c28b1 : (a0 != 18) = false := bne_eq_false_iff_eq.mpr c28
               clear c28
               by_cases c29 : a1 = 0
               ·rw [if_pos c29] at H
                have c29b0 : (a1 == 0) = true := beq_iff_eq.mpr c29
                have c29b1 : (a1 != 0) = false := bne_eq_false_iff_eq.mpr c29
                clear c29
                replace H := Option.bind_eq_some_iff.mp H
                obtain ⟨t128, A300, H⟩ := H
                try dsimp only at H
                have A30 := am A300
                clear A300
                simp only [Option.some.injEq, Prod.mk.injEq] at H
                obtain ⟨rfl, rfl⟩ := H
                go_enter Try.func53, Try.ntmps53
                go_wp2_with (first | ((with_reducible refine gate_callee (f := 75) rfl ?_); refine goesL_ (some 89) rfl rfl Try.func75 (by kernel_rfl) rfl #[.bool false] rfl (by (try simp only [List.map_toArray, List.map_cons, List.map_nil]) <;> rfl) ?_; (with_reducible refine (ints_truth.calls false t128 _ A30.out).mono ?_); rintro e w' ⟨rfl, ⟨nd, rfl⟩⟩; refine ⟨_, rfl, ?_⟩))
                go_ret2
                exact ⟨by first | rfl | (simp; done) | (simp [*]; done), by repeat (first | exact Drawn0.refl _ | apply Drawn0.step)⟩
               ·rw [if_neg c29] at H
                have c29b0 : (a1 == 0) = false := beq_eq_false_iff_ne.mpr c29
                have c29b1 : (a1 != 0) = true := bne_iff_ne.mpr c29
                replace H := Option.bind_eq_some_iff.mp H
                obtain ⟨t129, A310, H⟩ := H
                try dsimp only at H
                have A31 := am A310
                clear A310
                simp only [Option.some.injEq, Prod.mk.injEq] at H
                obtain ⟨rfl, rfl⟩ := H
                go_enter Try.func53, Try.ntmps53
                go_wp2_with (first | ((with_reducible refine gate_callee (f := 75) rfl ?_); refine goesL_ (some 89) rfl rfl Try.func75 (by kernel_rfl) rfl #[.bool (a2 != 0)] rfl (by (try simp only [List.map_toArray, List.map_cons, List.map_nil]) <;> rfl) ?_; (with_reducible refine (ints_truth.calls (a2 != 0) t129 _ A31.out).mono ?_); rintro e w' ⟨rfl, ⟨nd, rfl⟩⟩; refine ⟨_, rfl, ?_⟩))
                go_ret2
                exact ⟨by first | rfl | (simp; done) | (simp [*]; done), by repeat (first | exact Drawn0.refl _ | apply Drawn0.step)⟩
              ·rw [if_neg c28] at H
               have c28b0 : (a0 == 18) = false := beq_eq_false_iff_ne.mpr c28
               have c28b1 : (a0 != 18) = true := bne_iff_ne.mpr c28
               by_cases c32 : a0 = 19
               ·rw [if_pos c32] at H
                have c32b0 : (a0 == 19) = true := beq_iff_eq.mpr c32
                have c32b1 : (a0 != 19) = false := bne_eq_false_iff_eq.mpr c32
                clear c32
                replace H := Option.bind_eq_some_iff.mp H
                obtain ⟨t130, A330, H⟩ := H
                try dsimp only at H
                have A33 := am A330
                clear A330
                simp only [Option.some.injEq, Prod.mk.injEq] at H
                obtain ⟨rfl, rfl⟩ := H
                go_enter Try.func53, Try.ntmps53
                go_wp2_with (first | ((with_reducible refine gate_callee (f := 75) rfl ?_); refine goesL_ (some 96) rfl rfl Try.func75 (by kernel_rfl) rfl #[.bool ((Go.bits .or .i64 a1 a2) != 0)] rfl (by (try simp only [List.map_toArray, List.map_cons, List.map_nil]) <;> rfl) ?_; (with_reducible refine (ints_truth.calls ((Go.bits .or .i64 a1 a2) != 0) t130 _ A33.out).mono ?_); rintro e w' ⟨rfl, ⟨nd, rfl⟩⟩; refine ⟨_, rfl, ?_⟩))
                go_ret2
                exact ⟨by first | rfl | (simp; done) | (simp [*]; done), by repeat (first | exact Drawn0.refl _ | apply Drawn0.step)⟩
               ·rw [if_neg c32] at H
                have c32b0 : (a0 == 19) = false := beq_eq_false_iff_ne.mpr c32
                have c32b1 : (a0 != 19) = true := bne_iff_ne.mpr c32
                simp only [Option.some.injEq, Prod.mk.injEq] at H
                obtain ⟨rfl, rfl⟩ := H
                go_enter Try.func53, Try.ntmps53
                go_wp2
                go_ret2
                exact ⟨by first | rfl | (simp; done) | (simp [*]; done), by repeat (first | exact Drawn0.refl _ | apply Drawn0.step)⟩

end Go.Proofs.Ytcdgohoinmbpfaa.M
namespace Go.Proofs.Ytcdgohoinmbpfaa.M
open Go.RowKit Go.Proofs.YtcdgohoinmbpfaaW.PrintWords Go.Proofs.YtcdgohoinmbpfaaW.PrintLast Go.Proofs.YtcdgohoinmbpfaaW.PrintMore
set_option linter.unusedVariables false
set_option linter.unusedSimpArgs false

def Rng (x : Int) : Prop := -9223372036854775808 ≤ x ∧ x < 9223372036854775808
theorem rng_wrap (x : Int) : Rng (wrap64 x) := by unfold Rng wrap64; omega
theorem and63 (b : Int) : Go.bits .and .i64 b 63 = b % 64 := by
  have h : (BitVec.ofInt 64 b &&& BitVec.ofInt 64 63).toNat = (b % 64).toNat := by
    rw [BitVec.toNat_and, BitVec.toNat_ofInt, show (BitVec.ofInt 64 63).toNat = 2 ^ 6 - 1 from rfl, Nat.and_two_pow_sub_one_eq_mod]
    omega
  have e : Go.bits .and .i64 b 63 = IntKind.i64.wrap ((BitVec.ofInt 64 b &&& BitVec.ofInt 64 63).toNat : Int) := rfl
  rw [e, h, i64_w, w64 (by omega) (by omega)]
  omega
theorem or_zero {a b : Int} (ha : Rng a) (hb : Rng b) : (Go.bits .or .i64 a b != 0) = (a != 0 || b != 0) := by
  have e : Go.bits .or .i64 a b = wrap64 ((BitVec.ofInt 64 a ||| BitVec.ofInt 64 b).toNat : Int) := (show Go.bits .or .i64 a b = IntKind.i64.wrap ((BitVec.ofInt 64 a ||| BitVec.ofInt 64 b).toNat : Int) from rfl).trans (i64_w _)
  have hlt := (BitVec.ofInt 64 a ||| BitVec.ofInt 64 b).isLt
  have hz : ∀ x : Int, Rng x → (BitVec.ofInt 64 x = 0#64 ↔ x = 0) := by
    intro x hx
    unfold Rng at hx
    constructor
    · intro h
      have := congrArg BitVec.toNat h
      rw [BitVec.toNat_ofInt] at this
      simp at this
      omega
    · rintro rfl; rfl
  have hor : BitVec.ofInt 64 a ||| BitVec.ofInt 64 b = 0#64 ↔ a = 0 ∧ b = 0 := by
    rw [BitVec.or_eq_zero_iff, hz a ha, hz b hb]
  rw [e, Bool.eq_iff_iff, bne_iff_ne, Bool.or_eq_true, bne_iff_ne, bne_iff_ne]
  have hw : wrap64 ((BitVec.ofInt 64 a ||| BitVec.ofInt 64 b).toNat : Int) = 0 ↔ BitVec.ofInt 64 a ||| BitVec.ofInt 64 b = 0#64 := by
    constructor
    · intro h
      apply BitVec.eq_of_toNat_eq
      unfold wrap64 at h
      simp only [BitVec.toNat_ofNat]
      omega
    · intro h; rw [h]; exact w64 (x := 0) (by decide) (by decide)
  rw [Ne, hw, hor]
  omega
theorem rng_half {x : Int} (hx : Rng x) (n : Nat) : Rng (x / 2 ^ n) := by
  induction n with
  | zero => simpa using hx
  | succ n ih =>
    rw [Int.pow_succ, ← Int.ediv_ediv_of_nonneg (Int.pow_nonneg (by decide))]
    unfold Rng at ih ⊢
    omega
def opv (k x y : Int) : Int := ((ints_Do.f k x y).getD (0, 0)).1
theorem kinds15 {k : Int} (h : 5 ≤ k ∧ k ≤ 19) : k = 5 ∨ k = 6 ∨ k = 7 ∨ k = 8 ∨ k = 9 ∨ k = 10 ∨ k = 11 ∨ k = 12 ∨ k = 13 ∨ k = 14 ∨ k = 15 ∨ k = 16 ∨ k = 17 ∨ k = 18 ∨ k = 19 := by omega
theorem truth_eq (b : Bool) : ints_truth.f b = some (if b = true then 1 else 0) := by cases b <;> rfl
theorem do_eq {k : Int} (h : 5 ≤ k ∧ k ≤ 19) (x y : Int) : ints_Do.f k x y = some (opv k x y, 0) := by
  have hb : 0 ≤ y % 64 := by omega
  unfold opv
  rcases kinds15 h with rfl | rfl | rfl | rfl | rfl | rfl | rfl | rfl | rfl | rfl | rfl | rfl | rfl | rfl | rfl <;> simp [ints_Do.f, truth_eq, and63, hb]
  split <;> rfl
theorem opv_one {k : Int} (h : 5 ≤ k ∧ k ≤ 6) (x y z : Int) : opv k x y = opv k x z := by
  have : k = 5 ∨ k = 6 := by omega
  rcases this with rfl | rfl <;> simp [opv, ints_Do.f]
theorem opv_rng {k : Int} (h : 5 ≤ k ∧ k ≤ 19) {x y : Int} (hx : Rng x) : Rng (opv k x y) := by
  have hb : 0 ≤ y % 64 := by omega
  have h01 : ∀ b : Bool, Rng (if b = true then 1 else 0) := by intro b; cases b <;> (unfold Rng; decide)
  have hs : shl .i64 x (y % 64) = wrap64 (x * 2 ^ min (y % 64).toNat 64) := i64_w _
  have hs' : Rng (shr .i64 x (y % 64)) := rng_half hx _
  have hw := fun z => rng_wrap z
  unfold opv
  rcases kinds15 h with rfl | rfl | rfl | rfl | rfl | rfl | rfl | rfl | rfl | rfl | rfl | rfl | rfl | rfl | rfl <;> simp only [ints_Do.f, truth_eq, and63, hb, if_true, Option.bind_some, Option.getD_some, Int.reduceEq, if_false]
  case inr.inr.inr.inr.inr.inl => rw [hs]; exact hw _
  case inr.inr.inr.inr.inr.inr.inl => exact hs'
  all_goals first | exact hw _ | exact h01 _ | (split <;> (simp only [Option.getD_some]; exact h01 _))
end Go.Proofs.Ytcdgohoinmbpfaa.M
