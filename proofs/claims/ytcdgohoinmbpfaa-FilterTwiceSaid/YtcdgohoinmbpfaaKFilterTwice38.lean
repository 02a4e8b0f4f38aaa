import Derived.Test.YtcdgohoinmbpfaaKFilterTwice6
import Derived.Test.YtcdgohoinmbpfaaKFilterTwice32
import Derived.Test.YtcdgohoinmbpfaaKFilterTwice34
namespace Go.Proofs.Ytcdgohoinmbpfaa.M
open Go.RowKit Go.Proofs.YtcdgohoinmbpfaaW.PrintWords Go.Proofs.YtcdgohoinmbpfaaW.PrintLast Go.Proofs.YtcdgohoinmbpfaaW.PrintMore
attribute [local go_sem] max2_int min2_int max_two min_two
set_option linter.unusedVariables false
set_option linter.unusedSimpArgs false

def message_isMark.f (a0 : Int) : Option (Bool) := (message_isTime.f a0).bind fun t154 => (if t154 = true then (some true) else (some (a0 == 9223372036854775807)))
set_option maxHeartbeats 8000000 in
set_option maxRecDepth 100000 in
theorem message_isMark.calls (a0 : Int) (r : Bool) (w : World) (h : message_isMark.f a0 = some r) :
  Calls Try.prog 46 #[.int .i64 a0] w fun e w' => e = .returned (.bool r) ∧ Drawn0 w w' := by
 have H : ((message_isTime.f a0).bind fun t154 => (if t154 = true then (some true) else (some (a0 == 9223372036854775807)))) = some r := h
 clear h
 replace H := Option.bind_eq_some_iff.mp H
 obtain ⟨t154, A20, H⟩ := H
 try dsimp only at H
 have A2 := am A20
 clear A20
 by_cases c3 : t154 = true
 ·subst c3
  rw [if_pos rfl] at H
  obtain rfl := Option.some.inj H
  go_enter Try.func46, Try.ntmps46
  go_wp2_with (first | ((with_reducible refine gate_callee (f := 45) rfl ?_); refine goesL_ (some 4) rfl rfl Try.func45 (by kernel_rfl) rfl #[.int .i64 a0] rfl (by (try simp only [List.map_toArray, List.map_cons, List.map_nil]) <;> rfl) ?_; (with_reducible refine (message_isTime.calls a0 true _ A2.out).mono ?_); rintro e w' ⟨rfl, ⟨nd, rfl⟩⟩; refine ⟨_, rfl, ?_⟩))
  go_ret
  exact ⟨by first | rfl | (simp; done) | (simp [*]; done), by repeat (first | exact Drawn0.refl _ | apply Drawn0.step)⟩
 ·replace c3 := Bool.eq_false_iff.mpr c3
  subst c3
  rw [if_neg (show ¬ (false = true) by decide)] at H
  obtain rfl := Option.some.inj H
  go_enter Try.func46, Try.ntmps46
  go_wp2_with (first | ((with_reducible refine gate_callee (f := 45) rfl ?_); refine goesL_ (some 4) rfl rfl Try.func45 (by kernel_rfl) rfl #[.int .i64 a0] rfl (by (try simp only [List.map_toArray, List.map_cons, List.map_nil]) <;> rfl) ?_; (with_reducible refine (message_isTime.calls a0 false _ A2.out).mono ?_); rintro e w' ⟨rfl, ⟨nd, rfl⟩⟩; refine ⟨_, rfl, ?_⟩))
  go_ret
  exact ⟨by first | rfl | (simp; done) | (simp [*]; done), by repeat (first | exact Drawn0.refl _ | apply Drawn0.step)⟩

end Go.Proofs.Ytcdgohoinmbpfaa.M
namespace Go.Proofs.Ytcdgohoinmbpfaa.M
open Go.RowKit Go.Proofs.YtcdgohoinmbpfaaW.PrintWords Go.Proofs.YtcdgohoinmbpfaaW.PrintLast Go.Proofs.YtcdgohoinmbpfaaW.PrintMore
set_option linter.unusedVariables false
set_option linter.unusedSimpArgs false

def markB (t : Int) : Bool := timeB t || (t == 9223372036854775807)
theorem isMark_eq (t : Int) : message_isMark.f t = some (markB t) := by
  unfold message_isMark.f markB
  rw [isTime_eq]
  cases timeB t <;> rfl
def message_Check.f (k a t v m b c d x y : Int) : Option Int :=
  if b = 0 ∧ c = 0 ∧ d = 0 ∧ x = 0 ∧ y = 0 then
    (if (k = 1 ∨ k = 4) ∧ m = 0 then some (if timeB t = true then 0 else 8)
     else if k = 2 ∧ a = 0 ∧ t = 0 ∧ v = 0 then some (if markB m = true then 0 else 8) else none)
  else none
set_option maxHeartbeats 4000000 in
set_option maxRecDepth 100000 in
theorem message_late.calls (k t v : Int) (w : World) : Calls Try.prog 28 #[.agg #[.int .u8 4, .int .i64 k, .int .i64 t, .int .i64 v, .int .i64 0, .int .i64 0, .int .i64 0, .int .i64 0, .int .i64 0, .int .i64 0]] w fun e w' => e = .returned (.int .i64 (if timeB t = true then 0 else 8)) ∧ Below w.heap.size w w' := by
  have hu1 := Try.underlying50
  have hu2 := Try.underlying43
  cases ht : timeB t with
  | true =>
    have HT : Aside0 (message_isTime.f t = some true) := ⟨by rw [isTime_eq, ht]⟩
    rw [if_pos rfl]
    clear ht
    have harr : ∀ w : World, (Op.equalIn 9998 46 (.agg #[.int .i64 0, .int .i64 0]) (.agg #[.int .i64 0, .int .i64 0])).run Try.prog w = .ok true w := fun w => by kernel_rfl
    go_enter Try.func28, Try.ntmps28
    go_wp2_with (first | (go_at_call 45; (with_reducible refine (message_isTime.calls t true _ HT.out).mono ?_); rintro e w' ⟨rfl, ⟨nd, rfl⟩⟩))
    go_ret
    exact ⟨rfl, by repeat (first | exact Below.refl _ _ | apply below_alloc | apply pw_below_drewN | apply below_drew1 | refine below_set ?_ (by simp))⟩
  | false =>
    have HT : Aside0 (message_isTime.f t = some false) := ⟨by rw [isTime_eq, ht]⟩
    rw [if_neg (by decide)]
    clear ht
    go_enter Try.func28, Try.ntmps28
    go_wp2_with (first | (go_at_call 45; (with_reducible refine (message_isTime.calls t false _ HT.out).mono ?_); rintro e w' ⟨rfl, ⟨nd, rfl⟩⟩))
    go_ret
    exact ⟨rfl, by repeat (first | exact Below.refl _ _ | apply below_alloc | apply pw_below_drewN | apply below_drew1 | refine below_set ?_ (by simp))⟩
set_option maxHeartbeats 4000000 in
set_option maxRecDepth 100000 in
theorem message_mark.calls (m : Int) (w : World) : Calls Try.prog 28 #[.agg #[.int .u8 2, .int .i64 0, .int .i64 0, .int .i64 0, .int .i64 m, .int .i64 0, .int .i64 0, .int .i64 0, .int .i64 0, .int .i64 0]] w fun e w' => e = .returned (.int .i64 (if markB m = true then 0 else 8)) ∧ Below w.heap.size w w' := by
  have hu1 := Try.underlying50
  have hu2 := Try.underlying43
  cases ht : markB m with
  | true =>
    have HT : Aside0 (message_isMark.f m = some true) := ⟨by rw [isMark_eq, ht]⟩
    rw [if_pos rfl]
    clear ht
    have harr : ∀ w : World, (Op.equalIn 9998 46 (.agg #[.int .i64 0, .int .i64 0]) (.agg #[.int .i64 0, .int .i64 0])).run Try.prog w = .ok true w := fun w => by kernel_rfl
    go_enter Try.func28, Try.ntmps28
    go_wp2_with (first | (go_at_call 46; (with_reducible refine (message_isMark.calls m true _ HT.out).mono ?_); rintro e w' ⟨rfl, ⟨nd, rfl⟩⟩))
    go_ret
    exact ⟨rfl, by repeat (first | exact Below.refl _ _ | apply below_alloc | apply pw_below_drewN | apply below_drew1 | refine below_set ?_ (by simp))⟩
  | false =>
    have HT : Aside0 (message_isMark.f m = some false) := ⟨by rw [isMark_eq, ht]⟩
    rw [if_neg (by decide)]
    clear ht
    go_enter Try.func28, Try.ntmps28
    go_wp2_with (first | (go_at_call 46; (with_reducible refine (message_isMark.calls m false _ HT.out).mono ?_); rintro e w' ⟨rfl, ⟨nd, rfl⟩⟩))
    go_ret
    exact ⟨rfl, by repeat (first | exact Below.refl _ _ | apply below_alloc | apply pw_below_drewN | apply below_drew1 | refine below_set ?_ (by simp))⟩
theorem message_Check.calls (a0_0 : Int) (a0_1 : Int) (a0_2 : Int) (a0_3 : Int) (a0_4 : Int) (a0_5 : Int) (a0_6 : Int) (a0_7 : Int) (a0_8 : Int) (a0_9 : Int) (r : Int) (w : World) (h : message_Check.f a0_0 a0_1 a0_2 a0_3 a0_4 a0_5 a0_6 a0_7 a0_8 a0_9 = some r) :
    Calls Try.prog 28 #[.agg #[.int .u8 a0_0, .int .i64 a0_1, .int .i64 a0_2, .int .i64 a0_3, .int .i64 a0_4, .int .i64 a0_5, .int .i64 a0_6, .int .i64 a0_7, .int .i64 a0_8, .int .i64 a0_9]] w fun e w' => e = .returned (.int .i64 r) ∧ Below w.heap.size w w' := by
  unfold message_Check.f at h
  by_cases h1 : a0_5 = 0 ∧ a0_6 = 0 ∧ a0_7 = 0 ∧ a0_8 = 0 ∧ a0_9 = 0
  · rw [if_pos h1] at h
    obtain ⟨rfl, rfl, rfl, rfl, rfl⟩ := h1
    by_cases h2 : (a0_0 = 1 ∨ a0_0 = 4) ∧ a0_4 = 0
    · rw [if_pos h2] at h
      obtain ⟨h2, rfl⟩ := h2
      obtain rfl := Option.some.inj h
      rcases h2 with rfl | rfl
      · exact message_rec.calls a0_1 a0_2 a0_3 w
      · exact message_late.calls a0_1 a0_2 a0_3 w
    · rw [if_neg h2] at h
      by_cases h3 : a0_0 = 2 ∧ a0_1 = 0 ∧ a0_2 = 0 ∧ a0_3 = 0
      · rw [if_pos h3] at h
        obtain ⟨rfl, rfl, rfl, rfl⟩ := h3
        obtain rfl := Option.some.inj h
        exact message_mark.calls a0_4 w
      · rw [if_neg h3] at h; cases h
  · rw [if_neg h1] at h; cases h
def task_isMark.f (a0 : Int) : Option Bool := if a0 = -9223372036854775808 then some true else if markB a0 = true then some true else none
set_option maxHeartbeats 4000000 in
set_option maxRecDepth 100000 in
theorem task_isMark.calls (a0 : Int) (r : Bool) (w : World) (h : task_isMark.f a0 = some r) :
    Calls Try.prog 43 #[.int .i64 a0] w fun e w' => e = .returned (.bool r) ∧ Below w.heap.size w w' := by
  have hu1 := Try.underlying50
  unfold task_isMark.f at h
  by_cases h1 : a0 = -9223372036854775808
  · rw [if_pos h1] at h
    obtain rfl := Option.some.inj h
    subst h1
    clear h
    go_enter Try.func43, Try.ntmps43
    go_wp2
    go_ret
    exact ⟨rfl, by repeat (first | exact Below.refl _ _ | apply below_alloc | apply pw_below_drewN | apply below_drew1)⟩
  · rw [if_neg h1] at h
    by_cases h2 : markB a0 = true
    · rw [if_pos h2] at h
      obtain rfl := Option.some.inj h
      have hm : message_Check.f 2 0 0 0 a0 0 0 0 0 0 = some 0 := by simp [message_Check.f, h2]
      have HM := am hm
      have e1 : (a0 == -9223372036854775808) = false := by simpa using h1
      clear h hm h2
      go_enter Try.func43, Try.ntmps43
      go_wp2_with (first | (go_at_call 28; (with_reducible refine (message_Check.calls 2 0 0 0 a0 0 0 0 0 0 0 _ HM.out).mono ?_); rintro e w' ⟨rfl, hb⟩; have HB := am hb; clear hb))
      go_ret
      exact ⟨rfl, HB.out⟩
    · rw [if_neg h2] at h; cases h
def task_sends.f (l0 : List (S55)) : Option Bool := match l0 with
  | [] => some true
  | [s] => if 0 ≤ s.f0 ∧ s.f0 < 3 ∧ message_Check.f s.f1.f0 s.f1.f1.f0 s.f1.f1.f1 s.f1.f1.f2 s.f1.f2 s.f1.f3.f0 s.f1.f3.f1.f0 s.f1.f3.f1.f1 s.f1.f3.f2.f0 s.f1.f3.f2.f1 = some 0 then some true else none
  | _ => none
set_option maxHeartbeats 8000000 in
set_option maxRecDepth 100000 in
theorem task_sends.calls (A0 : Option Addr) (c0 : Nat) (l0 : List (S55)) (r : Bool) (w : World) (hr0 : Kd.C k55 w A0 l0.length l0) (hc0 : l0.length ≤ c0) (h : task_sends.f l0 = some r) :
    Calls Try.prog 41 #[.slice A0 l0.length c0] w fun e w' => e = .returned (.bool r) ∧ Below w.heap.size w w' := by
  have hu1 := Try.underlying55
  have hu2 := Try.underlying50
  match l0, hr0, hc0, h with
  | [], hr0, hc0, h =>
    obtain rfl := Option.some.inj h
    clear h hr0 hc0
    show Calls Try.prog 41 #[.slice A0 0 c0] w _
    go_enter Try.func41, Try.ntmps41
    go_wp2
    refine wp_loop_once ?_
    go_wp2
    go_ret
    exact ⟨rfl, by repeat (first | exact Below.refl _ _ | apply below_alloc | apply pw_below_drewN | apply below_drew1)⟩
  | [s], hr0, hc0, h =>
    simp only [task_sends.f] at h
    by_cases h1 : 0 ≤ s.f0 ∧ s.f0 < 3 ∧ message_Check.f s.f1.f0 s.f1.f1.f0 s.f1.f1.f1 s.f1.f1.f2 s.f1.f2 s.f1.f3.f0 s.f1.f3.f1.f0 s.f1.f3.f1.f1 s.f1.f3.f2.f0 s.f1.f3.f2.f1 = some 0
    · rw [if_pos h1] at h
      obtain rfl := Option.some.inj h
      obtain ⟨h2, h3, h4⟩ := h1
      have HM := am h4
      obtain ⟨ad, rfl, q0, q1, q2, q3, q4, q5, q6, q7, q8, q9, q10⟩ := at_T55 hr0 0 (by decide) (by simp)
      have e0 : ad.add 0 = ad := by cases ad; simp [Addr.add]
      simp only [rd_T55, Int.toNat_zero, Nat.zero_mul, List.getD_cons_zero, e0] at q0 q1 q2 q3 q4 q5 q6 q7 q8 q9 q10
      have d1 : decide (s.f0 < 0) = false := decide_eq_false (by omega)
      have d2 : decide (s.f0 ≥ 3) = false := decide_eq_false (by omega)
      clear h h4 hr0 h2 h3
      show Calls Try.prog 41 #[.slice (some ad) 1 c0] w _
      go_enter Try.func41, Try.ntmps41
      go_wp2
      refine wp_loop_rounds 2 ?_
      rw [rounds_succ]
      go_wp2_with (first | (go_at_call 28; (with_reducible refine (message_Check.calls _ _ _ _ _ _ _ _ _ _ 0 _ HM.out).mono ?_); rintro e w' ⟨rfl, hb⟩; have HB := am (below_step (by exact belL (Below.refl w.heap.size w)) hb); clear hb))
      rw [rounds_succ]
      go_wp2
      go_ret
      exact ⟨rfl, HB.out⟩
    · rw [if_neg h1] at h; cases h
  | _ :: _ :: _, _, _, h => cases h

end Go.Proofs.Ytcdgohoinmbpfaa.M
namespace Go.Proofs.Ytcdgohoinmbpfaa.M
open Go.RowKit Go.Proofs.YtcdgohoinmbpfaaW.PrintWords Go.Proofs.YtcdgohoinmbpfaaW.PrintLast Go.Proofs.YtcdgohoinmbpfaaW.PrintMore
attribute [local go_sem] max2_int min2_int max_two min_two
set_option linter.unusedVariables false
set_option linter.unusedSimpArgs false

def task_limits.f (a0 : Int) : Option (Int × Int × Bool × Bool × Bool × Bool) := if a0 = 1 then (some (0, 0, false, true, false, false)) else (if a0 = 2 then (some (1, 1, false, false, false, false)) else (if a0 = 3 then (some (0, 0, false, false, false, false)) else (if a0 = 4 then (some (1, 4, true, false, false, false)) else (if a0 = 5 then (some (2, 2, true, false, false, false)) else (if a0 = 6 then (some (0, 0, false, false, true, false)) else (if a0 = 7 then (some (0, 0, false, false, false, true)) else (some (1, 0, false, false, false, false))))))))
set_option maxHeartbeats 8000000 in
set_option maxRecDepth 100000 in
theorem task_limits.calls (a0 : Int) (r1 : Int) (r2 : Int) (r3 : Bool) (r4 : Bool) (r5 : Bool) (r6 : Bool) (w : World) (h : task_limits.f a0 = some (r1, r2, r3, r4, r5, r6)) :
  Calls Try.prog 39 #[.int .u8 a0] w fun e w' => e = .returned (.tuple #[.int .i64 r1, .int .i64 r2, .bool r3, .bool r4, .bool r5, .bool r6]) ∧ Drawn0 w w' := by
 have H : (if a0 = 1 then (some (0, 0, false, true, false, false)) else (if a0 = 2 then (some (1, 1, false, false, false, false)) else (if a0 = 3 then (some (0, 0, false, false, false, false)) else (if a0 = 4 then (some (1, 4, true, false, false, false)) else (if a0 = 5 then (some (2, 2, true, false, false, false)) else (if a0 = 6 then (some (0, 0, false, false, true, false)) else (if a0 = 7 then (some (0, 0, false, false, false, true)) else (some (1, 0, false, false, false, false))))))))) = some (r1, r2, r3, r4, r5, r6) := h
 clear h
 by_cases c2 : a0 = 1
 ·rw [if_pos c2] at H
  have c2b0 : (a0 == 1) = true := beq_iff_eq.mpr c2
  have c2b1 : (a0 != 1) = false := bne_eq_false_iff_eq.mpr c2
  clear c2
  simp only [Option.some.injEq, Prod.mk.injEq] at H
  obtain ⟨rfl, rfl, rfl, rfl, rfl, rfl⟩ := H
  go_enter Try.func39, Try.ntmps39
  go_wp2
  refine bodyPost_ret (results_list (rs := [.tmp 2, .tmp 3, .tmp 4, .tmp 5, .tmp 6, .tmp 7]) rfl (by simp) (.tmp (.tmp (.tmp (.tmp (.tmp (.tmp .nil))))))) rfl ?_
  exact ⟨by first | rfl | (simp; done) | (simp [*]; done), by repeat (first | exact Drawn0.refl _ | apply Drawn0.step)⟩
 ·rw [if_neg c2] at H
  have c2b0 : (a0 == 1) = false := beq_eq_false_iff_ne.mpr c2
  have c2b1 : (a0 != 1) = true := bne_iff_ne.mpr c2
  by_cases c3 : a0 = 2
  ·rw [if_pos c3] at H
   have c3b0 : (a0 == 2) = true := beq_iff_eq.mpr c3
   have c3b1 : (a0 != 2) = false := bne_eq_false_iff_eq.mpr c3
   clear c3
   simp only [Option.some.injEq, Prod.mk.injEq] at H
   obtain ⟨rfl, rfl, rfl, rfl, rfl, rfl⟩ := H
   go_enter Try.func39, Try.ntmps39
   go_wp2
   refine bodyPost_ret (results_list (rs := [.tmp 2, .tmp 3, .tmp 4, .tmp 5, .tmp 6, .tmp 7]) rfl (by simp) (.tmp (.tmp (.tmp (.tmp (.tmp (.tmp .nil))))))) rfl ?_
   exact ⟨by first | rfl | (simp; done) | (simp [*]; done), by repeat (first | exact Drawn0.refl _ | apply Drawn0.step)⟩
  ·rw [if_neg c3] at H
   have c3b0 : (a0 == 2) = false := beq_eq_false_iff_ne.mpr c3
   have c3b1 : (a0 != 2) = true := bne_iff_ne.mpr c3
   by_cases c4 : a0 = 3
   ·rw [if_pos c4] at H
    have c4b0 : (a0 == 3) = true := beq_iff_eq.mpr c4
    have c4b1 : (a0 != 3) = false := bne_eq_false_iff_eq.mpr c4
    clear c4
    simp only [Option.some.injEq, Prod.mk.injEq] at H
    obtain ⟨rfl, rfl, rfl, rfl, rfl, rfl⟩ := H
    go_enter Try.func39, Try.ntmps39
    go_wp2
    refine bodyPost_ret (results_list (rs := [.tmp 2, .tmp 3, .tmp 4, .tmp 5, .tmp 6, .tmp 7]) rfl (by simp) (.tmp (.tmp (.tmp (.tmp (.tmp (.tmp .nil))))))) rfl ?_
    exact ⟨by first | rfl | (simp; done) | (simp [*]; done), by repeat (first | exact Drawn0.refl _ | apply Drawn0.step)⟩
   ·rw [if_neg c4] at H
    have c4b0 : (a0 == 3) = false := beq_eq_false_iff_ne.mpr c4
    have c4b1 : (a0 != 3) = true := bne_iff_ne.mpr c4
    by_cases c5 : a0 = 4
    ·rw [if_pos c5] at H
     have c5b0 : (a0 == 4) = true := beq_iff_eq.mpr c5
     have c5b1 : (a0 != 4) = false := bne_eq_false_iff_eq.mpr c5
     clear c5
     simp only [Option.some.injEq, Prod.mk.injEq] at H
     obtain ⟨rfl, rfl, rfl, rfl, rfl, rfl⟩ := H
     go_enter Try.func39, Try.ntmps39
     go_wp2
     refine bodyPost_ret (results_list (rs := [.tmp 2, .tmp 3, .tmp 4, .tmp 5, .tmp 6, .tmp 7]) rfl (by simp) (.tmp (.tmp (.tmp (.tmp (.tmp (.tmp .nil))))))) rfl ?_
     exact ⟨by first | rfl | (simp; done) | (simp [*]; done), by repeat (first | exact Drawn0.refl _ | apply Drawn0.step)⟩
    ·rw [if_neg c5] at H
     have c5b0 : (a0 == 4) = false := beq_eq_false_iff_ne.mpr c5
     have c5b1 : (a0 != 4) = true := bne_iff_ne.mpr c5
     by_cases c6 : a0 = 5
     ·rw [if_pos c6] at H
      have c6b0 : (a0 == 5) = true := beq_iff_eq.mpr c6
      have c6b1 : (a0 != 5) = false := bne_eq_false_iff_eq.mpr c6
      clear c6
      simp only [Option.some.injEq, Prod.mk.injEq] at H
      obtain ⟨rfl, rfl, rfl, rfl, rfl, rfl⟩ := H
      go_enter Try.func39, Try.ntmps39
      go_wp2
      refine bodyPost_ret (results_list (rs := [.tmp 2, .tmp 3, .tmp 4, .tmp 5, .tmp 6, .tmp 7]) rfl (by simp) (.tmp (.tmp (.tmp (.tmp (.tmp (.tmp .nil))))))) rfl ?_
      exact ⟨by first | rfl | (simp; done) | (simp [*]; done), by repeat (first | exact Drawn0.refl _ | apply Drawn0.step)⟩
     ·rw [if_neg c6] at H
      have c6b0 : (a0 == 5) = false := beq_eq_false_iff_ne.mpr c6
      have c6b1 : (a0 != 5) = true := bne_iff_ne.mpr c6
      by_cases c7 : a0 = 6
      ·rw [if_pos c7] at H
       have c7b0 : (a0 == 6) = true := beq_iff_eq.mpr c7
       have c7b1 : (a0 != 6) = false := bne_eq_false_iff_eq.mpr c7
       clear c7
       simp only [Option.some.injEq, Prod.mk.injEq] at H
       obtain ⟨rfl, rfl, rfl, rfl, rfl, rfl⟩ := H
       go_enter Try.func39, Try.ntmps39
       go_wp2
       refine bodyPost_ret (results_list (rs := [.tmp 2, .tmp 3, .tmp 4, .tmp 5, .tmp 6, .tmp 7]) rfl (by simp) (.tmp (.tmp (.tmp (.tmp (.tmp (.tmp .nil))))))) rfl ?_
       exact ⟨by first | rfl | (simp; done) | (simp [*]; done), by repeat (first | exact Drawn0.refl _ | apply Drawn0.step)⟩
      ·rw [if_neg c7] at H
       have c7b0 : (a0 == 6) = false := beq_eq_false_iff_ne.mpr c7
       have c7b1 : (a0 != 6) = true := bne_iff_ne.mpr c7
       by_cases c8 : a0 = 7
       ·rw [if_pos c8] at H
        have c8b0 : (a0 == 7) = true := beq_iff_eq.mpr c8
        have c8b1 : (a0 != 7) = false := bne_eq_false_iff_eq.mpr c8
        clear c8
        simp only [Option.some.injEq, Prod.mk.injEq] at H
        obtain ⟨rfl, rfl, rfl, rfl, rfl, rfl⟩ := H
        go_enter Try.func39, Try.ntmps39
        go_wp2
        refine bodyPost_ret (results_list (rs := [.tmp 2, .tmp 3, .tmp 4, .tmp 5, .tmp 6, .tmp 7]) rfl (by simp) (.tmp (.tmp (.tmp (.tmp (.tmp (.tmp .nil))))))) rfl ?_
        exact ⟨by first | rfl | (simp; done) | (simp [*]; done), by repeat (first | exact Drawn0.refl _ | apply Drawn0.step)⟩
       ·rw [if_neg c8] at H
        have c8b0 : (a0 == 7) = false := beq_eq_false_iff_ne.mpr c8
        have c8b1 : (a0 != 7) = true := bne_iff_ne.mpr c8
        simp only [Option.some.injEq, Prod.mk.injEq] at H
        obtain ⟨rfl, rfl, rfl, rfl, rfl, rfl⟩ := H
        go_enter Try.func39, Try.ntmps39
        go_wp2
        refine bodyPost_ret (results_list (rs := [.tmp 2, .tmp 3, .tmp 4, .tmp 5, .tmp 6, .tmp 7]) rfl (by simp) (.tmp (.tmp (.tmp (.tmp (.tmp (.tmp .nil))))))) rfl ?_
        exact ⟨by first | rfl | (simp; done) | (simp [*]; done), by repeat (first | exact Drawn0.refl _ | apply Drawn0.step)⟩
def task_room.f (a0 : Bool) (a1 : Int) : Option (Int) := if a0 = true then (some a1) else (some 0)
set_option maxHeartbeats 8000000 in
set_option maxRecDepth 100000 in
theorem task_room.calls (a0 : Bool) (a1 : Int) (r : Int) (w : World) (h : task_room.f a0 a1 = some r) :
  Calls Try.prog 40 #[.bool a0, .int .i64 a1] w fun e w' => e = .returned (.int .i64 r) ∧ Drawn0 w w' := by
 have H : (if a0 = true then (some a1) else (some 0)) = some r := h
 clear h
 by_cases c3 : a0 = true
 ·subst c3
  rw [if_pos rfl] at H
  obtain rfl := Option.some.inj H
  go_enter Try.func40, Try.ntmps40
  go_wp2
  go_ret
  exact ⟨by first | rfl | (simp; done) | (simp [*]; done), by repeat (first | exact Drawn0.refl _ | apply Drawn0.step)⟩
 ·replace c3 := Bool.eq_false_iff.mpr c3
  subst c3
  rw [if_neg (show ¬ (false = true) by decide)] at H
  obtain rfl := Option.some.inj H
  go_enter Try.func40, Try.ntmps40
  go_wp2
  go_ret
  exact ⟨by first | rfl | (simp; done) | (simp [*]; done), by repeat (first | exact Drawn0.refl _ | apply Drawn0.step)⟩

end Go.Proofs.Ytcdgohoinmbpfaa.M
namespace Go.Proofs.Ytcdgohoinmbpfaa.M
open Go.RowKit Go.Proofs.YtcdgohoinmbpfaaW.PrintWords Go.Proofs.YtcdgohoinmbpfaaW.PrintLast Go.Proofs.YtcdgohoinmbpfaaW.PrintMore
set_option linter.unusedVariables false
set_option linter.unusedSimpArgs false

set_option maxHeartbeats 1000000 in
theorem store_nil.calls (A : Option Addr) (c : Nat) (w : World) : Calls Try.prog 42 #[.slice A 0 c] w fun e w' => e = .returned (.int .i64 0) ∧ Below w.heap.size w w' := by
  go_enter Try.func42, Try.ntmps42
  go_wp2
  refine wp_loop_once ?_
  go_wp2
  go_ret
  exact ⟨rfl, by repeat (first | exact Below.refl _ _ | apply below_alloc | apply pw_below_drewN | apply below_drew1)⟩
def task_Check.f (a0_0 : Int) (a0_1 : Int) (a0_2 : Int) (l0_3 : List (S55)) (l0_4 : List Int) (l0_5 : List (S105)) (l0_6 : List (S99)) (l0_7 : List (S48)) (l0_8 : List (S43)) : Option (Int) :=
  if l0_5.length = 0 ∧ l0_6.length = 0 ∧ l0_7.length = 0 ∧ l0_8.length = 0 ∧ a0_0 = 2 ∧ 0 ≤ a0_1 ∧ a0_1 < 4 ∧ 0 ≤ a0_2 ∧ a0_2 < 20 ∧ l0_3.length ≤ 4000 ∧ task_sends.f l0_3 = some true then
    (match l0_4 with | [x] => if task_isMark.f x = some true then some 0 else none | _ => none) else none
theorem len1 {l : List Int} {r : Int} (h : (match l with | [x] => if task_isMark.f x = some true then some 0 else none | _ => none) = some r) : r = 0 ∧ l.length = 1 ∧ task_isMark.f (rd l 0) = some true := by
  match l, h with
  | [x], h =>
    by_cases hx : task_isMark.f x = some true
    · simp only [if_pos hx] at h; exact ⟨(Option.some.inj h).symm, rfl, hx⟩
    · simp only [if_neg hx] at h; cases h
  | [], h => cases h
  | _ :: _ :: _, h => cases h
set_option maxHeartbeats 16000000 in
set_option maxRecDepth 100000 in
theorem task_Check.calls (a0_0 : Int) (a0_1 : Int) (a0_2 : Int) (A0_3 : Option Addr) (c0_3 : Nat) (l0_3 : List (S55)) (A0_4 : Option Addr) (c0_4 : Nat) (l0_4 : List Int) (A0_5 : Option Addr) (c0_5 : Nat) (l0_5 : List (S105)) (A0_6 : Option Addr) (c0_6 : Nat) (l0_6 : List (S99)) (A0_7 : Option Addr) (c0_7 : Nat) (l0_7 : List (S48)) (A0_8 : Option Addr) (c0_8 : Nat) (l0_8 : List (S43)) (r : Int) (w : World) (hr0_3 : Kd.C k55 w A0_3 l0_3.length l0_3) (hc0_3 : l0_3.length ≤ c0_3) (hr0_4 : Kd.C (Kd.int .i64) w A0_4 l0_4.length l0_4) (hc0_4 : l0_4.length ≤ c0_4) (hr0_5 : Kd.C k105 w A0_5 l0_5.length l0_5) (hc0_5 : l0_5.length ≤ c0_5) (hr0_6 : Kd.C k99 w A0_6 l0_6.length l0_6) (hc0_6 : l0_6.length ≤ c0_6) (hr0_7 : Kd.C k48 w A0_7 l0_7.length l0_7) (hc0_7 : l0_7.length ≤ c0_7) (hr0_8 : Kd.C k43 w A0_8 l0_8.length l0_8) (hc0_8 : l0_8.length ≤ c0_8) (h : task_Check.f a0_0 a0_1 a0_2 l0_3 l0_4 l0_5 l0_6 l0_7 l0_8 = some r) (hrt : r = 0) :
    Calls Try.prog 27 #[.agg #[.int .u8 a0_0, .int .i64 a0_1, .int .i64 a0_2, .slice A0_3 l0_3.length c0_3, .slice A0_4 l0_4.length c0_4, .slice A0_5 l0_5.length c0_5, .slice A0_6 l0_6.length c0_6, .slice A0_7 l0_7.length c0_7, .slice A0_8 l0_8.length c0_8]] w fun e w' => e = .returned (.int .i64 r) ∧ Below w.heap.size w w' := by
  have hu1 := Try.underlying31
  have hu2 := Try.underlying23
  unfold task_Check.f at h
  by_cases h1 : l0_5.length = 0 ∧ l0_6.length = 0 ∧ l0_7.length = 0 ∧ l0_8.length = 0 ∧ a0_0 = 2 ∧ 0 ≤ a0_1 ∧ a0_1 < 4 ∧ 0 ≤ a0_2 ∧ a0_2 < 20 ∧ l0_3.length ≤ 4000 ∧ task_sends.f l0_3 = some true
  · rw [if_pos h1] at h
    obtain ⟨h5, h6, h7, h8, rfl, n0, n1, t0, t1, hP, hS⟩ := h1
    obtain ⟨rfl, h4, hM⟩ := len1 h
    rw [h4] at hr0_4 ⊢
    rw [h5, h6, h7, h8]
    clear h hr0_5 hr0_6 hr0_7 hr0_8 hc0_5 hc0_6 hc0_7 hc0_8 h5 h6 h7 h8 hrt
    have HR3 := am hr0_3
    have HC3 := am hc0_3
    have HS := am hS
    have HM := am hM
    have HL : Aside0 (task_limits.f 2 = some (1, 1, false, false, false, false)) := ⟨rfl⟩
    have HO : Aside0 (∀ n, task_room.f false n = some 0) := ⟨fun n => rfl⟩
    obtain ⟨ad, rfl, q0⟩ := Kd.at_int hr0_4 0 (by decide) (by decide)
    have e0 : ad.add 0 = ad := by cases ad; simp [Addr.add]
    simp only [Int.toNat_zero, e0] at q0
    generalize rd l0_4 0 = x at q0 HM
    have hlt := World.block_lt_of_cell? w _ q0
    have HLT := am hlt
    have HQ := am q0
    clear e0 hlt q0 h4
    have d1 : decide (a0_1 ≥ 0) = true := decide_eq_true n0
    have d2 : decide (a0_1 < 4) = true := decide_eq_true n1
    have d3 : decide (a0_2 ≥ 0) = true := decide_eq_true t0
    have d4 : decide (a0_2 < 20) = true := decide_eq_true t1
    have d5 : decide (l0_3.length ≤ 4000) = true := decide_eq_true hP
    have d6 : decide ((l0_3.length : Int) ≤ 4000) = true := decide_eq_true (by omega)
    clear hr0_3 hc0_3 hS hM hr0_4 hc0_4
    go_enter Try.func27, Try.ntmps27
    go_wp2_with (first
      | ((with_reducible refine gate_dst (N := 1) rfl ?_); refine box_event ?hg (N := 1) ?hd (cs := #[.int .u8 2, .int .i64 a0_1, .int .i64 a0_2, .slice A0_3 l0_3.length c0_3, .slice (some ad) 1 c0_4, .slice A0_5 0 c0_5, .slice A0_6 0 c0_6, .slice A0_7 0 c0_7, .slice A0_8 0 c0_8]) (t := 31) ?hr ?_; (case hd => rfl); (case hg => rfl); (case hr => first | (go_simp; done) | (go_simp; rfl)); intro g hg w1 hbox hb; have BK := am hbox; have HB := am hb; clear hb hg hbox; (obtain ⟨hcz0, hcz1, hcz2, hcz3, hcz4, hcz5, hcz6, hcz7, hcz8, hfz0, hfz1, hfz2, hfz3, hfz4, hfz5, hfz6, hfz7, hfz8⟩ := box9 BK.out); (have q0 := (HB.out.cell HLT.out).trans HQ.out))
      | (go_at_call 39; (with_reducible refine (task_limits.calls 2 1 1 false false false false _ HL.out).mono ?_); rintro e w' ⟨rfl, ⟨nd, rfl⟩⟩)
      | go_quiet (first | (go_at_call 40; (with_reducible refine (task_room.calls false _ 0 _ (HO.out _)).mono ?_); rintro e_ w' ⟨rfl, ⟨nd, rfl⟩⟩; (try first | exact ⟨rfl, _, World.drewN_drewN _ _ _⟩ | exact ⟨rfl, _, Eq.trans (World.drewN_drewN _ _ _) (congrArg (World.drewN _) (Nat.add_assoc _ _ _))⟩)))
      | (go_at_call 41; (with_reducible refine (task_sends.calls _ _ l0_3 true _ (Kd.C_below HR3.out (by exact belL HB.out)) HC3.out HS.out).mono ?_); rintro e w' ⟨rfl, hb⟩; (have n1_ := am (below_step (by exact belL HB.out) hb)); (have n2_ := am (blkB BK.out hb)); clear HB BK; have HB := n1_; have BK := n2_; clear n1_ n2_ hb; (obtain ⟨hcz0, hcz1, hcz2, hcz3, hcz4, hcz5, hcz6, hcz7, hcz8, hfz0, hfz1, hfz2, hfz3, hfz4, hfz5, hfz6, hfz7, hfz8⟩ := box9 BK.out); (have q0 := (HB.out.cell HLT.out).trans HQ.out))
      | (go_at_call 42; (with_reducible refine (store_nil.calls _ _ _).mono ?_); rintro e w' ⟨rfl, hb⟩; (have n1_ := am (below_step (by exact belL HB.out) hb)); (have n2_ := am (blkB BK.out hb)); clear HB BK; have HB := n1_; have BK := n2_; clear n1_ n2_ hb; (obtain ⟨hcz0, hcz1, hcz2, hcz3, hcz4, hcz5, hcz6, hcz7, hcz8, hfz0, hfz1, hfz2, hfz3, hfz4, hfz5, hfz6, hfz7, hfz8⟩ := box9 BK.out); (have q0 := (HB.out.cell HLT.out).trans HQ.out))
      | (go_at_call 43; (with_reducible refine (task_isMark.calls x true _ HM.out).mono ?_); rintro e w' ⟨rfl, hb⟩; (have n1_ := am (below_step (by exact belL HB.out) hb)); (have n2_ := am (blkB BK.out hb)); clear HB BK; have HB := n1_; have BK := n2_; clear n1_ n2_ hb; (obtain ⟨hcz0, hcz1, hcz2, hcz3, hcz4, hcz5, hcz6, hcz7, hcz8, hfz0, hfz1, hfz2, hfz3, hfz4, hfz5, hfz6, hfz7, hfz8⟩ := box9 BK.out); (have q0 := (HB.out.cell HLT.out).trans HQ.out)))
    refine wp_loop_rounds 2 ?_
    rw [rounds_succ]
    go_wp2_with (first | (go_at_call 43; (with_reducible refine (task_isMark.calls x true _ HM.out).mono ?_); rintro e w' ⟨rfl, hb⟩; (have n1_ := am (below_step (by exact belL HB.out) hb)); (have n2_ := am (blkB BK.out hb)); clear HB BK; have HB := n1_; have BK := n2_; clear n1_ n2_ hb; (obtain ⟨hcz0, hcz1, hcz2, hcz3, hcz4, hcz5, hcz6, hcz7, hcz8, hfz0, hfz1, hfz2, hfz3, hfz4, hfz5, hfz6, hfz7, hfz8⟩ := box9 BK.out); (have q0 := (HB.out.cell HLT.out).trans HQ.out)))
    rw [rounds_succ]
    go_wp2
    refine wp_loop_once ?_
    go_wp2
    refine wp_loop_once ?_
    go_wp2
    refine wp_loop_once ?_
    go_wp2
    refine wp_loop_once ?_
    go_wp2
    go_ret
    exact ⟨rfl, HB.out⟩
  · rw [if_neg h1] at h; cases h

end Go.Proofs.Ytcdgohoinmbpfaa.M
