import Derived.Test.YtcdgohoinmbpfaaKFilterProjects6
-- PRINTED by print.py (a twelfth state) out of the translation. Not trusted: Lean checks it.
namespace Go.Proofs.Ytcdgohoinmbpfaa.M
open Go.RowKit Go.Proofs.YtcdgohoinmbpfaaW.PrintWords Go.Proofs.YtcdgohoinmbpfaaW.PrintLast Go.Proofs.YtcdgohoinmbpfaaW.PrintMore
attribute [local go_sem] max2_int min2_int max_two min_two
set_option linter.unusedVariables false
set_option linter.unusedSimpArgs false

/-! ### tailwaterref01_Truth: function 78 -/
def tailwaterref01_Truth.f (a0 : Bool) : Option (Int) := if a0 = true then (some 1) else (some 0)
set_option maxHeartbeats 8000000 in
set_option maxRecDepth 100000 in
theorem tailwaterref01_Truth.calls (a0 : Bool) (r : Int) (w : World) (h : tailwaterref01_Truth.f a0 = some r) :
  Calls Try.prog 78 #[.bool a0] w fun e w' => e = .returned (.int .i64 r) ∧ Drawn0 w w' := by
 have H : (if a0 = true then (some 1) else (some 0)) = some r := h
 clear h
 by_cases c2 : a0 = true
 ·subst c2
  have H1 : (some 1) = some r := by rw [if_pos rfl] at H; exact H
  clear H
  have H := H1
  clear H1
  obtain rfl := Option.some.inj H
  go_enter Try.func78, Try.ntmps78
  go_wp2
  go_ret
  exact ⟨by first | rfl | (simp; done) | (simp [*]; done), by repeat (first | exact Drawn0.refl _ | apply Drawn0.step)⟩
 ·replace c2 := Bool.eq_false_iff.mpr c2
  subst c2
  have H1 : (some 0) = some r := by rw [if_neg (show ¬ (false = true) by decide)] at H; exact H
  clear H
  have H := H1
  clear H1
  obtain rfl := Option.some.inj H
  go_enter Try.func78, Try.ntmps78
  go_wp2
  go_ret
  exact ⟨by first | rfl | (simp; done) | (simp [*]; done), by repeat (first | exact Drawn0.refl _ | apply Drawn0.step)⟩

/-! ### tailwaterref01_power: function 79 -/
def tailwaterref01_power.l0 : Nat → Int → Int → Int → Option (Int)
 | 0, _, _, _ => none
 | k + 1, x0, x3, x4 => if x4 < x0 then (tailwaterref01_power.l0 k x0 (wrap64 (x3 + x3)) (wrap64 (x4 + 1))) else (some x3)
def tailwaterref01_power.f (k : Nat) (a0 : Int) : Option (Int) := tailwaterref01_power.l0 k a0 1 0
theorem tailwaterref01_power.mono_l : ∀ k, (∀ y0 y1 y2, LeO (tailwaterref01_power.l0 k y0 y1 y2) (tailwaterref01_power.l0 (k + 1) y0 y1 y2))
 | 0 => fun _ _ _ r h => by simp [tailwaterref01_power.l0] at h
 | k + 1 => by
  have ih0 := tailwaterref01_power.mono_l k
  ·intro y0 y1 y2
   unfold tailwaterref01_power.l0
   repeat' first
   | (with_reducible exact ih0 _ _ _)
   | (with_reducible exact LeO.refl _)
   | (with_reducible exact LeO.none _)
   | (with_reducible refine LeO.ite ?_ ?_)
   | (with_reducible refine LeO.bind ?_ (fun _ => ?_))
   | exact ih0 _ _ _
   | exact LeO.none _
   | refine LeO.ite ?_ ?_
   | refine LeO.bind ?_ (fun _ => ?_)
theorem tailwaterref01_power.mono : ∀ a0 k, LeO (tailwaterref01_power.f k a0) (tailwaterref01_power.f (k + 1) a0) := by
 intro a0 k
 have ih0 := tailwaterref01_power.mono_l k
 unfold tailwaterref01_power.f
 repeat' first
   | (with_reducible exact ih0 _ _ _)
   | (with_reducible exact LeO.refl _)
   | (with_reducible exact LeO.none _)
   | (with_reducible refine LeO.ite ?_ ?_)
   | (with_reducible refine LeO.bind ?_ (fun _ => ?_))
   | exact ih0 _ _ _
   | exact LeO.none _
   | refine LeO.ite ?_ ?_
   | refine LeO.bind ?_ (fun _ => ?_)
set_option maxHeartbeats 8000000 in
set_option maxRecDepth 100000 in
theorem tailwaterref01_power.calls (k : Nat) (a0 : Int) (r : Int) (w : World) (h : tailwaterref01_power.f k a0 = some r) :
  Calls Try.prog 79 #[.int .i64 a0] w fun e w' => e = .returned (.int .i64 r) ∧ Drawn0 w w' := by
 have H : (tailwaterref01_power.l0 k a0 1 0) = some r := h
 clear h
 have H' := Aside0.mk H
 clear H
 go_enter Try.func79, Try.ntmps79
 go_wp2
 go_loopg [3, 4] k (fun kq v3 v4 w' => ∃ (x3_1 : Int) (x4_1 : Int), v3 = .int .i64 x3_1 ∧ v4 = .int .i64 x4_1 ∧ Aside0 (tailwaterref01_power.l0 kq a0 x3_1 x4_1 = some r) ∧ Aside0 (kq ≤ k) ∧ Drawn0 w w')
 case atStart => exact ⟨(1), (0), (by first | rfl | (simp; done) | (simp [*]; done)), (by first | rfl | (simp; done) | (simp [*]; done)), H', ⟨Nat.le_refl _⟩, by repeat (first | exact Drawn0.refl _ | apply Drawn0.step)⟩
 case round =>
  clear H'
  obtain ⟨x3_1, x4_1, rfl, rfl, HA, HK1, ⟨m1, rfl⟩⟩ := hrel
  cases gk with
  | zero => exact absurd HA.out (by simp [tailwaterref01_power.l0])
  | succ k1 =>
   have H := HA.out
   clear HA
   simp only [tailwaterref01_power.l0] at H
   by_cases c2 : x4_1 < a0
   ·rw [if_pos c2] at H
    have c2b0 : decide (x4_1 < a0) = true := decide_eq_true c2
    clear c2
    have H' := Aside0.mk H
    clear H
    go_wp2
    go_roundg k1
    case measure => have := HK1.out; omega
    case rel => exact ⟨(wrap64 (x3_1 + x3_1)), (wrap64 (x4_1 + 1)), (by first | rfl | (simp; done) | (simp [*]; done)), (by first | rfl | (simp; done) | (simp [*]; done)), H', ⟨by have := HK1.out; omega⟩, by repeat (first | exact Drawn0.refl _ | apply Drawn0.step)⟩
   ·rw [if_neg c2] at H
    have c2b0 : decide (x4_1 < a0) = false := decide_eq_false c2
    clear c2
    obtain rfl := Option.some.inj H
    go_wp2
    go_ret
    exact ⟨by first | rfl | (simp; done) | (simp [*]; done), by repeat (first | exact Drawn0.refl _ | apply Drawn0.step)⟩

/-! ### tailwaterref01_Count: function 80 -/
def tailwaterref01_Count.f (a0 : Int) : Option (Int) := some (wrap64 (Int.tmod (IntKind.u64.wrap (a0)) 64))
set_option maxHeartbeats 8000000 in
set_option maxRecDepth 100000 in
theorem tailwaterref01_Count.calls (a0 : Int) (r : Int) (w : World) (h : tailwaterref01_Count.f a0 = some r) :
  Calls Try.prog 80 #[.int .i64 a0] w fun e w' => e = .returned (.int .i64 r) ∧ Drawn0 w w' := by
 have H : (some (wrap64 (Int.tmod (IntKind.u64.wrap (a0)) 64))) = some r := h
 clear h
 obtain rfl := Option.some.inj H
 go_enter Try.func80, Try.ntmps80
 go_wp2
 go_ret
 exact ⟨by first | rfl | (simp; done) | (simp [*]; done), by repeat (first | exact Drawn0.refl _ | apply Drawn0.step)⟩

/-! ### tailwaterref01_half: function 81 -/
def tailwaterref01_half.f (a0 : Int) : Option (Int) := if (Int.tmod a0 2) < 0 then (some (wrap64 ((wrap64 (Int.tdiv a0 2)) - 1))) else (some (wrap64 (Int.tdiv a0 2)))
set_option maxHeartbeats 8000000 in
set_option maxRecDepth 100000 in
theorem tailwaterref01_half.calls (a0 : Int) (r : Int) (w : World) (h : tailwaterref01_half.f a0 = some r) :
  Calls Try.prog 81 #[.int .i64 a0] w fun e w' => e = .returned (.int .i64 r) ∧ Drawn0 w w' := by
 have H : (if (Int.tmod a0 2) < 0 then (some (wrap64 ((wrap64 (Int.tdiv a0 2)) - 1))) else (some (wrap64 (Int.tdiv a0 2)))) = some r := h
 clear h
 by_cases c2 : (Int.tmod a0 2) < 0
 ·rw [if_pos c2] at H
  have c2b0 : decide ((Int.tmod a0 2) < 0) = true := decide_eq_true c2
  clear c2
  obtain rfl := Option.some.inj H
  go_enter Try.func81, Try.ntmps81
  go_wp2
  go_ret
  exact ⟨by first | rfl | (simp; done) | (simp [*]; done), by repeat (first | exact Drawn0.refl _ | apply Drawn0.step)⟩
 ·rw [if_neg c2] at H
  have c2b0 : decide ((Int.tmod a0 2) < 0) = false := decide_eq_false c2
  clear c2
  obtain rfl := Option.some.inj H
  go_enter Try.func81, Try.ntmps81
  go_wp2
  go_ret
  exact ⟨by first | rfl | (simp; done) | (simp [*]; done), by repeat (first | exact Drawn0.refl _ | apply Drawn0.step)⟩

/-! ### tailwaterref01_Compare: function 82 -/
def tailwaterref01_Compare.f (a0 : Int) (a1 : Int) (a2 : Int) : Option (Bool) := if a0 = 12 then (some (decide (a1 < a2))) else (if a0 = 13 then (if a1 < a2 then (some true) else (some (a1 == a2))) else (if a0 = 14 then (some (decide (a2 < a1))) else (if a0 = 15 then (if a2 < a1 then (some true) else (some (a1 == a2))) else (if a0 = 16 then (some (a1 == a2)) else (some (a1 != a2))))))
set_option maxHeartbeats 8000000 in
set_option maxRecDepth 100000 in
theorem tailwaterref01_Compare.calls (a0 : Int) (a1 : Int) (a2 : Int) (r : Bool) (w : World) (h : tailwaterref01_Compare.f a0 a1 a2 = some r) :
  Calls Try.prog 82 #[.int .u8 a0, .int .i64 a1, .int .i64 a2] w fun e w' => e = .returned (.bool r) ∧ Drawn0 w w' := by
 have H : (if a0 = 12 then (some (decide (a1 < a2))) else (if a0 = 13 then (if a1 < a2 then (some true) else (some (a1 == a2))) else (if a0 = 14 then (some (decide (a2 < a1))) else (if a0 = 15 then (if a2 < a1 then (some true) else (some (a1 == a2))) else (if a0 = 16 then (some (a1 == a2)) else (some (a1 != a2))))))) = some r := h
 clear h
 by_cases c4 : a0 = 12
 ·rw [if_pos c4] at H
  have c4b0 : (a0 == 12) = true := beq_iff_eq.mpr c4
  have c4b1 : (a0 != 12) = false := bne_eq_false_iff_eq.mpr c4
  clear c4
  obtain rfl := Option.some.inj H
  go_enter Try.func82, Try.ntmps82
  go_wp2
  go_ret
  exact ⟨by first | rfl | (simp; done) | (simp [*]; done), by repeat (first | exact Drawn0.refl _ | apply Drawn0.step)⟩
 ·rw [if_neg c4] at H
  have c4b0 : (a0 == 12) = false := beq_eq_false_iff_ne.mpr c4
  have c4b1 : (a0 != 12) = true := bne_iff_ne.mpr c4
  by_cases c5 : a0 = 13
  ·rw [if_pos c5] at H
   have c5b0 : (a0 == 13) = true := beq_iff_eq.mpr c5
   have c5b1 : (a0 != 13) = false := bne_eq_false_iff_eq.mpr c5
   clear c5
   by_cases c6 : a1 < a2
   ·rw [if_pos c6] at H
    have c6b0 : decide (a1 < a2) = true := decide_eq_true c6
    clear c6
    obtain rfl := Option.some.inj H
    go_enter Try.func82, Try.ntmps82
    go_wp2
    go_ret
    exact ⟨by first | rfl | (simp; done) | (simp [*]; done), by repeat (first | exact Drawn0.refl _ | apply Drawn0.step)⟩
   ·rw [if_neg c6] at H
    have c6b0 : decide (a1 < a2) = false := decide_eq_false c6
    clear c6
    obtain rfl := Option.some.inj H
    go_enter Try.func82, Try.ntmps82
    go_wp2
    go_ret
    exact ⟨by first | rfl | (simp; done) | (simp [*]; done), by repeat (first | exact Drawn0.refl _ | apply Drawn0.step)⟩
  ·rw [if_neg c5] at H
   have c5b0 : (a0 == 13) = false := beq_eq_false_iff_ne.mpr c5
   have c5b1 : (a0 != 13) = true := bne_iff_ne.mpr c5
   by_cases c7 : a0 = 14
   ·rw [if_pos c7] at H
    have c7b0 : (a0 == 14) = true := beq_iff_eq.mpr c7
    have c7b1 : (a0 != 14) = false := bne_eq_false_iff_eq.mpr c7
    clear c7
    obtain rfl := Option.some.inj H
    go_enter Try.func82, Try.ntmps82
    go_wp2
    go_ret
    exact ⟨by first | rfl | (simp; done) | (simp [*]; done), by repeat (first | exact Drawn0.refl _ | apply Drawn0.step)⟩
   ·rw [if_neg c7] at H
    have c7b0 : (a0 == 14) = false := beq_eq_false_iff_ne.mpr c7
    have c7b1 : (a0 != 14) = true := bne_iff_ne.mpr c7
    by_cases c8 : a0 = 15
    ·rw [if_pos c8] at H
     have c8b0 : (a0 == 15) = true := beq_iff_eq.mpr c8
     have c8b1 : (a0 != 15) = false := bne_eq_false_iff_eq.mpr c8
     clear c8
     by_cases c9 : a2 < a1
     ·rw [if_pos c9] at H
      have c9b0 : decide (a2 < a1) = true := decide_eq_true c9
      clear c9
      obtain rfl := Option.some.inj H
      go_enter Try.func82, Try.ntmps82
      go_wp2
      go_ret
      exact ⟨by first | rfl | (simp; done) | (simp [*]; done), by repeat (first | exact Drawn0.refl _ | apply Drawn0.step)⟩
     ·rw [if_neg c9] at H
      have c9b0 : decide (a2 < a1) = false := decide_eq_false c9
      clear c9
      obtain rfl := Option.some.inj H
      go_enter Try.func82, Try.ntmps82
      go_wp2
      go_ret
      exact ⟨by first | rfl | (simp; done) | (simp [*]; done), by repeat (first | exact Drawn0.refl _ | apply Drawn0.step)⟩
    ·rw [if_neg c8] at H
     have c8b0 : (a0 == 15) = false := beq_eq_false_iff_ne.mpr c8
     have c8b1 : (a0 != 15) = true := bne_iff_ne.mpr c8
     by_cases c10 : a0 = 16
     ·rw [if_pos c10] at H
      have c10b0 : (a0 == 16) = true := beq_iff_eq.mpr c10
      have c10b1 : (a0 != 16) = false := bne_eq_false_iff_eq.mpr c10
      clear c10
      obtain rfl := Option.some.inj H
      go_enter Try.func82, Try.ntmps82
      go_wp2
      go_ret
      exact ⟨by first | rfl | (simp; done) | (simp [*]; done), by repeat (first | exact Drawn0.refl _ | apply Drawn0.step)⟩
     ·rw [if_neg c10] at H
      have c10b0 : (a0 == 16) = false := beq_eq_false_iff_ne.mpr c10
      have c10b1 : (a0 != 16) = true := bne_iff_ne.mpr c10
      obtain rfl := Option.some.inj H
      go_enter Try.func82, Try.ntmps82
      go_wp2
      go_ret
      exact ⟨by first | rfl | (simp; done) | (simp [*]; done), by repeat (first | exact Drawn0.refl _ | apply Drawn0.step)⟩

/-! ### tailwaterref01_Given: function 58 -/
def tailwaterref01_Given.l0 : Nat → Int → Int → Int → Option (Int)
 | 0, _, _, _ => none
 | k + 1, x1, x2, x7 => (tailwaterref01_Count.f x2).bind fun t238 => (if x7 < t238 then ((tailwaterref01_half.f x1).bind fun t239 => (tailwaterref01_Given.l0 k t239 x2 (wrap64 (x7 + 1)))) else (some x1))
def tailwaterref01_Given.f (k : Nat) (a0 : Int) (a1 : Int) (a2 : Int) : Option (Int) := if a0 = 5 then (some (wrap64 (-a1))) else (if a0 = 6 then ((tailwaterref01_Truth.f (a1 == 0)).bind fun t235 => (some t235)) else (if a0 = 7 then (some (wrap64 (a1 * a2))) else (if a0 = 8 then (some (wrap64 (a1 + a2))) else (if a0 = 9 then (some (wrap64 (a1 - a2))) else (if a0 = 10 then ((tailwaterref01_Count.f a2).bind fun t236 => ((tailwaterref01_power.f k t236).bind fun t237 => (some (wrap64 (a1 * t237))))) else (if a0 = 11 then (tailwaterref01_Given.l0 k a1 a2 0) else (if a0 = 18 then (if a1 = 0 then ((tailwaterref01_Truth.f false).bind fun t240 => (some t240)) else ((tailwaterref01_Truth.f (a2 != 0)).bind fun t241 => (some t241))) else (if a0 = 19 then (if a1 = 0 then ((tailwaterref01_Truth.f (a2 != 0)).bind fun t242 => (some t242)) else ((tailwaterref01_Truth.f true).bind fun t243 => (some t243))) else ((tailwaterref01_Compare.f a0 a1 a2).bind fun t244 => ((tailwaterref01_Truth.f t244).bind fun t245 => (some t245)))))))))))
theorem tailwaterref01_Given.mono_l : ∀ k, (∀ y0 y1 y2, LeO (tailwaterref01_Given.l0 k y0 y1 y2) (tailwaterref01_Given.l0 (k + 1) y0 y1 y2))
 | 0 => fun _ _ _ r h => by simp [tailwaterref01_Given.l0] at h
 | k + 1 => by
  have ih0 := tailwaterref01_Given.mono_l k
  ·intro y0 y1 y2
   unfold tailwaterref01_Given.l0
   repeat' first
   | (with_reducible exact ih0 _ _ _)
   | (with_reducible exact tailwaterref01_power.mono _ _)
   | (with_reducible exact LeO.refl _)
   | (with_reducible exact LeO.none _)
   | (with_reducible refine LeO.ite ?_ ?_)
   | (with_reducible refine LeO.bind ?_ (fun _ => ?_))
   | exact ih0 _ _ _
   | exact tailwaterref01_power.mono _ _
   | exact LeO.none _
   | refine LeO.ite ?_ ?_
   | refine LeO.bind ?_ (fun _ => ?_)
theorem tailwaterref01_Given.mono : ∀ a0 a1 a2 k, LeO (tailwaterref01_Given.f k a0 a1 a2) (tailwaterref01_Given.f (k + 1) a0 a1 a2) := by
 intro a0 a1 a2 k
 have ih0 := tailwaterref01_Given.mono_l k
 unfold tailwaterref01_Given.f
 repeat' first
   | (with_reducible exact ih0 _ _ _)
   | (with_reducible exact tailwaterref01_power.mono _ _)
   | (with_reducible exact LeO.refl _)
   | (with_reducible exact LeO.none _)
   | (with_reducible refine LeO.ite ?_ ?_)
   | (with_reducible refine LeO.bind ?_ (fun _ => ?_))
   | exact ih0 _ _ _
   | exact tailwaterref01_power.mono _ _
   | exact LeO.none _
   | refine LeO.ite ?_ ?_
   | refine LeO.bind ?_ (fun _ => ?_)
set_option maxHeartbeats 8000000 in
set_option maxRecDepth 100000 in
theorem tailwaterref01_Given.calls (k : Nat) (a0 : Int) (a1 : Int) (a2 : Int) (r : Int) (w : World) (h : tailwaterref01_Given.f k a0 a1 a2 = some r) :
  Calls Try.prog 58 #[.int .u8 a0, .int .i64 a1, .int .i64 a2] w fun e w' => e = .returned (.int .i64 r) ∧ Drawn0 w w' := by
 have H : (if a0 = 5 then (some (wrap64 (-a1))) else (if a0 = 6 then ((tailwaterref01_Truth.f (a1 == 0)).bind fun t235 => (some t235)) else (if a0 = 7 then (some (wrap64 (a1 * a2))) else (if a0 = 8 then (some (wrap64 (a1 + a2))) else (if a0 = 9 then (some (wrap64 (a1 - a2))) else (if a0 = 10 then ((tailwaterref01_Count.f a2).bind fun t236 => ((tailwaterref01_power.f k t236).bind fun t237 => (some (wrap64 (a1 * t237))))) else (if a0 = 11 then (tailwaterref01_Given.l0 k a1 a2 0) else (if a0 = 18 then (if a1 = 0 then ((tailwaterref01_Truth.f false).bind fun t240 => (some t240)) else ((tailwaterref01_Truth.f (a2 != 0)).bind fun t241 => (some t241))) else (if a0 = 19 then (if a1 = 0 then ((tailwaterref01_Truth.f (a2 != 0)).bind fun t242 => (some t242)) else ((tailwaterref01_Truth.f true).bind fun t243 => (some t243))) else ((tailwaterref01_Compare.f a0 a1 a2).bind fun t244 => ((tailwaterref01_Truth.f t244).bind fun t245 => (some t245)))))))))))) = some r := h
 clear h
 by_cases c4 : a0 = 5
 ·rw [if_pos c4] at H
  have c4b0 : (a0 == 5) = true := beq_iff_eq.mpr c4
  have c4b1 : (a0 != 5) = false := bne_eq_false_iff_eq.mpr c4
  clear c4
  obtain rfl := Option.some.inj H
  go_enter Try.func58, Try.ntmps58
  go_wp2
  go_ret
  exact ⟨by first | rfl | (simp; done) | (simp [*]; done), by repeat (first | exact Drawn0.refl _ | apply Drawn0.step)⟩
 ·rw [if_neg c4] at H
  have c4b0 : (a0 == 5) = false := beq_eq_false_iff_ne.mpr c4
  have c4b1 : (a0 != 5) = true := bne_iff_ne.mpr c4
  by_cases c5 : a0 = 6
  ·rw [if_pos c5] at H
   have c5b0 : (a0 == 6) = true := beq_iff_eq.mpr c5
   have c5b1 : (a0 != 6) = false := bne_eq_false_iff_eq.mpr c5
   clear c5
   replace H := Option.bind_eq_some_iff.mp H
   obtain ⟨t235, A60, H⟩ := H
   replace H : (some t235) = some r := H
   have A6 := Aside0.mk A60
   clear A60
   obtain rfl := Option.some.inj H
   go_enter Try.func58, Try.ntmps58
   go_wp2_with (first | ((with_reducible refine gate_callee (f := 78) rfl ?_); refine goesL_ (some 17) rfl rfl Try.func78 (by kernel_rfl) rfl #[.bool (a1 == 0)] rfl (by (try simp only [List.map_toArray, List.map_cons, List.map_nil]); first | done | rfl | (simp only [List.length_drop, List.length_take]; rfl)) ?_; (with_reducible refine (tailwaterref01_Truth.calls (a1 == 0) t235 _ A6.out).mono ?_); rintro e w' ⟨rfl, ⟨nd, rfl⟩⟩; refine ⟨_, rfl, ?_⟩))
   go_ret
   exact ⟨by first | rfl | (simp; done) | (simp [*]; done), by repeat (first | exact Drawn0.refl _ | apply Drawn0.step)⟩
  ·rw [if_neg c5] at H
   have c5b0 : (a0 == 6) = false := beq_eq_false_iff_ne.mpr c5
   have c5b1 : (a0 != 6) = true := bne_iff_ne.mpr c5
   by_cases c7 : a0 = 7
   ·rw [if_pos c7] at H
    have c7b0 : (a0 == 7) = true := beq_iff_eq.mpr c7
    have c7b1 : (a0 != 7) = false := bne_eq_false_iff_eq.mpr c7
    clear c7
    obtain rfl := Option.some.inj H
    go_enter Try.func58, Try.ntmps58
    go_wp2
    go_ret
    exact ⟨by first | rfl | (simp; done) | (simp [*]; done), by repeat (first | exact Drawn0.refl _ | apply Drawn0.step)⟩
   ·rw [if_neg c7] at H
    have c7b0 : (a0 == 7) = false := beq_eq_false_iff_ne.mpr c7
    have c7b1 : (a0 != 7) = true := bne_iff_ne.mpr c7
    by_cases c8 : a0 = 8
    ·rw [if_pos c8] at H
     have c8b0 : (a0 == 8) = true := beq_iff_eq.mpr c8
     have c8b1 : (a0 != 8) = false := bne_eq_false_iff_eq.mpr c8
     clear c8
     obtain rfl := Option.some.inj H
     go_enter Try.func58, Try.ntmps58
     go_wp2
     go_ret
     exact ⟨by first | rfl | (simp; done) | (simp [*]; done), by repeat (first | exact Drawn0.refl _ | apply Drawn0.step)⟩
    ·rw [if_neg c8] at H
     have c8b0 : (a0 == 8) = false := beq_eq_false_iff_ne.mpr c8
     have c8b1 : (a0 != 8) = true := bne_iff_ne.mpr c8
     by_cases c9 : a0 = 9
     ·rw [if_pos c9] at H
      have c9b0 : (a0 == 9) = true := beq_iff_eq.mpr c9
      have c9b1 : (a0 != 9) = false := bne_eq_false_iff_eq.mpr c9
      clear c9
      obtain rfl := Option.some.inj H
      go_enter Try.func58, Try.ntmps58
      go_wp2
      go_ret
      exact ⟨by first | rfl | (simp; done) | (simp [*]; done), by repeat (first | exact Drawn0.refl _ | apply Drawn0.step)⟩
     ·rw [if_neg c9] at H
      have c9b0 : (a0 == 9) = false := beq_eq_false_iff_ne.mpr c9
      have c9b1 : (a0 != 9) = true := bne_iff_ne.mpr c9
      by_cases c10 : a0 = 10
      ·rw [if_pos c10] at H
       have c10b0 : (a0 == 10) = true := beq_iff_eq.mpr c10
       have c10b1 : (a0 != 10) = false := bne_eq_false_iff_eq.mpr c10
       clear c10
       replace H := Option.bind_eq_some_iff.mp H
       obtain ⟨t236, A110, H⟩ := H
       replace H : ((tailwaterref01_power.f k t236).bind fun t237 => (some (wrap64 (a1 * t237)))) = some r := H
       have A11 := Aside0.mk A110
       clear A110
       replace H := Option.bind_eq_some_iff.mp H
       obtain ⟨t237, A120, H⟩ := H
       replace H : (some (wrap64 (a1 * t237))) = some r := H
       have A12 := Aside0.mk A120
       clear A120
       obtain rfl := Option.some.inj H
       go_enter Try.func58, Try.ntmps58
       go_wp2_with (first | ((with_reducible refine gate_callee (f := 80) rfl ?_); refine goesL_ (some 37) rfl rfl Try.func80 (by kernel_rfl) rfl #[.int .i64 a2] rfl (by (try simp only [List.map_toArray, List.map_cons, List.map_nil]); first | done | rfl | (simp only [List.length_drop, List.length_take]; rfl)) ?_; (with_reducible refine (tailwaterref01_Count.calls a2 t236 _ A11.out).mono ?_); rintro e w' ⟨rfl, ⟨nd, rfl⟩⟩; refine ⟨_, rfl, ?_⟩) | ((with_reducible refine gate_callee (f := 79) rfl ?_); refine goesL_ (some 38) rfl rfl Try.func79 (by kernel_rfl) rfl #[.int .i64 t236] rfl (by (try simp only [List.map_toArray, List.map_cons, List.map_nil]); first | done | rfl | (simp only [List.length_drop, List.length_take]; rfl)) ?_; (with_reducible refine (tailwaterref01_power.calls k t236 t237 _ A12.out).mono ?_); rintro e w' ⟨rfl, ⟨nd, rfl⟩⟩; refine ⟨_, rfl, ?_⟩))
       go_ret
       exact ⟨by first | rfl | (simp; done) | (simp [*]; done), by repeat (first | exact Drawn0.refl _ | apply Drawn0.step)⟩
      ·rw [if_neg c10] at H
       have c10b0 : (a0 == 10) = false := beq_eq_false_iff_ne.mpr c10
       have c10b1 : (a0 != 10) = true := bne_iff_ne.mpr c10
       by_cases c13 : a0 = 11
       ·rw [if_pos c13] at H
        have c13b0 : (a0 == 11) = true := beq_iff_eq.mpr c13
        have c13b1 : (a0 != 11) = false := bne_eq_false_iff_eq.mpr c13
        clear c13
        have H' := Aside0.mk H
        clear H
        go_enter Try.func58, Try.ntmps58
        go_wp2
        go_loopg [1, 7] k (fun kq v1 v7 w' => ∃ (x1_1 : Int) (x7_1 : Int), v1 = .int .i64 x1_1 ∧ v7 = .int .i64 x7_1 ∧ Aside0 (tailwaterref01_Given.l0 kq x1_1 a2 x7_1 = some r) ∧ Aside0 (kq ≤ k) ∧ Drawn0 w w')
        case atStart => exact ⟨(a1), (0), (by first | rfl | (simp; done) | (simp [*]; done)), (by first | rfl | (simp; done) | (simp [*]; done)), H', ⟨Nat.le_refl _⟩, by repeat (first | exact Drawn0.refl _ | apply Drawn0.step)⟩
        case round =>
         clear H'
         try clear c1
         try clear p2
         try clear c4
         try clear c4b0
         try clear c4b1
         try clear c5
         try clear c5b0
         try clear c5b1
         try clear p6
         try clear c7
         try clear c7b0
         try clear c7b1
         try clear c8
         try clear c8b0
         try clear c8b1
         try clear c9
         try clear c9b0
         try clear c9b1
         try clear c10
         try clear c10b0
         try clear c10b1
         try clear c13
         try clear c13b0
         try clear c13b1
         obtain ⟨x1_1, x7_1, rfl, rfl, HA, HK1, ⟨m1, rfl⟩⟩ := hrel
         cases gk with
         | zero => exact absurd HA.out (by simp [tailwaterref01_Given.l0])
         | succ k1 =>
          have H := HA.out
          clear HA
          simp only [tailwaterref01_Given.l0] at H
          replace H := Option.bind_eq_some_iff.mp H
          obtain ⟨t238, A140, H⟩ := H
          replace H : (if x7_1 < t238 then ((tailwaterref01_half.f x1_1).bind fun t239 => (tailwaterref01_Given.l0 k1 t239 a2 (wrap64 (x7_1 + 1)))) else (some x1_1)) = some r := H
          have A14 := Aside0.mk A140
          clear A140
          by_cases c15 : x7_1 < t238
          ·rw [if_pos c15] at H
           have c15b0 : decide (x7_1 < t238) = true := decide_eq_true c15
           clear c15
           replace H := Option.bind_eq_some_iff.mp H
           obtain ⟨t239, A160, H⟩ := H
           replace H : (tailwaterref01_Given.l0 k1 t239 a2 (wrap64 (x7_1 + 1))) = some r := H
           have A16 := Aside0.mk A160
           clear A160
           have H' := Aside0.mk H
           clear H
           go_wp2_with (first | ((with_reducible refine gate_callee (f := 80) rfl ?_); refine goesL_ (some 44) rfl rfl Try.func80 (by kernel_rfl) rfl #[.int .i64 a2] rfl (by (try simp only [List.map_toArray, List.map_cons, List.map_nil]); first | done | rfl | (simp only [List.length_drop, List.length_take]; rfl)) ?_; (with_reducible refine (tailwaterref01_Count.calls a2 t238 _ A14.out).mono ?_); rintro e w' ⟨rfl, ⟨nd, rfl⟩⟩; refine ⟨_, rfl, ?_⟩) | ((with_reducible refine gate_callee (f := 81) rfl ?_); refine goesL_ (some 49) rfl rfl Try.func81 (by kernel_rfl) rfl #[.int .i64 x1_1] rfl (by (try simp only [List.map_toArray, List.map_cons, List.map_nil]); first | done | rfl | (simp only [List.length_drop, List.length_take]; rfl)) ?_; (with_reducible refine (tailwaterref01_half.calls x1_1 t239 _ A16.out).mono ?_); rintro e w' ⟨rfl, ⟨nd, rfl⟩⟩; refine ⟨_, rfl, ?_⟩))
           go_roundg k1
           case measure => have := HK1.out; omega
           case rel => exact ⟨(t239), (wrap64 (x7_1 + 1)), (by first | rfl | (simp; done) | (simp [*]; done)), (by first | rfl | (simp; done) | (simp [*]; done)), H', ⟨by have := HK1.out; omega⟩, by repeat (first | exact Drawn0.refl _ | apply Drawn0.step)⟩
          ·rw [if_neg c15] at H
           have c15b0 : decide (x7_1 < t238) = false := decide_eq_false c15
           clear c15
           obtain rfl := Option.some.inj H
           go_wp2_with (first | ((with_reducible refine gate_callee (f := 80) rfl ?_); refine goesL_ (some 44) rfl rfl Try.func80 (by kernel_rfl) rfl #[.int .i64 a2] rfl (by (try simp only [List.map_toArray, List.map_cons, List.map_nil]); first | done | rfl | (simp only [List.length_drop, List.length_take]; rfl)) ?_; (with_reducible refine (tailwaterref01_Count.calls a2 t238 _ A14.out).mono ?_); rintro e w' ⟨rfl, ⟨nd, rfl⟩⟩; refine ⟨_, rfl, ?_⟩))
           go_ret
           exact ⟨by first | rfl | (simp; done) | (simp [*]; done), by repeat (first | exact Drawn0.refl _ | apply Drawn0.step)⟩
       ·rw [if_neg c13] at H
        have c13b0 : (a0 == 11) = false := beq_eq_false_iff_ne.mpr c13
        have c13b1 : (a0 != 11) = true := bne_iff_ne.mpr c13
        by_cases c17 : a0 = 18
        ·rw [if_pos c17] at H
         have c17b0 : (a0 == 18) = true := beq_iff_eq.mpr c17
         have c17b1 : (a0 != 18) = false := bne_eq_false_iff_eq.mpr c17
         clear c17
         by_cases c18 : a1 = 0
         ·rw [if_pos c18] at H
          have c18b0 : (a1 == 0) = true := beq_iff_eq.mpr c18
          have c18b1 : (a1 != 0) = false := bne_eq_false_iff_eq.mpr c18
          clear c18
          replace H := Option.bind_eq_some_iff.mp H
          obtain ⟨t240, A190, H⟩ := H
          replace H : (some t240) = some r := H
          have A19 := Aside0.mk A190
          clear A190
          obtain rfl := Option.some.inj H
          go_enter Try.func58, Try.ntmps58
          go_wp2_with (first | ((with_reducible refine gate_callee (f := 78) rfl ?_); refine goesL_ (some 59) rfl rfl Try.func78 (by kernel_rfl) rfl #[.bool false] rfl (by (try simp only [List.map_toArray, List.map_cons, List.map_nil]); first | done | rfl | (simp only [List.length_drop, List.length_take]; rfl)) ?_; (with_reducible refine (tailwaterref01_Truth.calls false t240 _ A19.out).mono ?_); rintro e w' ⟨rfl, ⟨nd, rfl⟩⟩; refine ⟨_, rfl, ?_⟩))
          go_ret
          exact ⟨by first | rfl | (simp; done) | (simp [*]; done), by repeat (first | exact Drawn0.refl _ | apply Drawn0.step)⟩
         ·rw [if_neg c18] at H
          have c18b0 : (a1 == 0) = false := beq_eq_false_iff_ne.mpr c18
          have c18b1 : (a1 != 0) = true := bne_iff_ne.mpr c18
          replace H := Option.bind_eq_some_iff.mp H
          obtain ⟨t241, A200, H⟩ := H
          replace H : (some t241) = some r := H
          have A20 := Aside0.mk A200
          clear A200
          obtain rfl := Option.some.inj H
          go_enter Try.func58, Try.ntmps58
          go_wp2_with (first | ((with_reducible refine gate_callee (f := 78) rfl ?_); refine goesL_ (some 59) rfl rfl Try.func78 (by kernel_rfl) rfl #[.bool (a2 != 0)] rfl (by (try simp only [List.map_toArray, List.map_cons, List.map_nil]); first | done | rfl | (simp only [List.length_drop, List.length_take]; rfl)) ?_; (with_reducible refine (tailwaterref01_Truth.calls (a2 != 0) t241 _ A20.out).mono ?_); rintro e w' ⟨rfl, ⟨nd, rfl⟩⟩; refine ⟨_, rfl, ?_⟩))
          go_ret
          exact ⟨by first | rfl | (simp; done) | (simp [*]; done), by repeat (first | exact Drawn0.refl _ | apply Drawn0.step)⟩
        ·rw [if_neg c17] at H
         have c17b0 : (a0 == 18) = false := beq_eq_false_iff_ne.mpr c17
         have c17b1 : (a0 != 18) = true := bne_iff_ne.mpr c17
         by_cases c21 : a0 = 19
         ·rw [if_pos c21] at H
          have c21b0 : (a0 == 19) = true := beq_iff_eq.mpr c21
          have c21b1 : (a0 != 19) = false := bne_eq_false_iff_eq.mpr c21
          clear c21
          by_cases c22 : a1 = 0
          ·rw [if_pos c22] at H
           have c22b0 : (a1 == 0) = true := beq_iff_eq.mpr c22
           have c22b1 : (a1 != 0) = false := bne_eq_false_iff_eq.mpr c22
           clear c22
           replace H := Option.bind_eq_some_iff.mp H
           obtain ⟨t242, A230, H⟩ := H
           replace H : (some t242) = some r := H
           have A23 := Aside0.mk A230
           clear A230
           obtain rfl := Option.some.inj H
           go_enter Try.func58, Try.ntmps58
           go_wp2_with (first | ((with_reducible refine gate_callee (f := 78) rfl ?_); refine goesL_ (some 68) rfl rfl Try.func78 (by kernel_rfl) rfl #[.bool (a2 != 0)] rfl (by (try simp only [List.map_toArray, List.map_cons, List.map_nil]); first | done | rfl | (simp only [List.length_drop, List.length_take]; rfl)) ?_; (with_reducible refine (tailwaterref01_Truth.calls (a2 != 0) t242 _ A23.out).mono ?_); rintro e w' ⟨rfl, ⟨nd, rfl⟩⟩; refine ⟨_, rfl, ?_⟩))
           go_ret
           exact ⟨by first | rfl | (simp; done) | (simp [*]; done), by repeat (first | exact Drawn0.refl _ | apply Drawn0.step)⟩
          ·rw [if_neg c22] at H
           have c22b0 : (a1 == 0) = false := beq_eq_false_iff_ne.mpr c22
           have c22b1 : (a1 != 0) = true := bne_iff_ne.mpr c22
           replace H := Option.bind_eq_some_iff.mp H
           obtain ⟨t243, A240, H⟩ := H
           replace H : (some t243) = some r := H
           have A24 := Aside0.mk A240
           clear A240
           obtain rfl := Option.some.inj H
           go_enter Try.func58, Try.ntmps58
           go_wp2_with (first | ((with_reducible refine gate_callee (f := 78) rfl ?_); refine goesL_ (some 68) rfl rfl Try.func78 (by kernel_rfl) rfl #[.bool true] rfl (by (try simp only [List.map_toArray, List.map_cons, List.map_nil]); first | done | rfl | (simp only [List.length_drop, List.length_take]; rfl)) ?_; (with_reducible refine (tailwaterref01_Truth.calls true t243 _ A24.out).mono ?_); rintro e w' ⟨rfl, ⟨nd, rfl⟩⟩; refine ⟨_, rfl, ?_⟩))
           go_ret
           exact ⟨by first | rfl | (simp; done) | (simp [*]; done), by repeat (first | exact Drawn0.refl _ | apply Drawn0.step)⟩
         ·rw [if_neg c21] at H
          have c21b0 : (a0 == 19) = false := beq_eq_false_iff_ne.mpr c21
          have c21b1 : (a0 != 19) = true := bne_iff_ne.mpr c21
          replace H := Option.bind_eq_some_iff.mp H
          obtain ⟨t244, A250, H⟩ := H
          replace H : ((tailwaterref01_Truth.f t244).bind fun t245 => (some t245)) = some r := H
          have A25 := Aside0.mk A250
          clear A250
          replace H := Option.bind_eq_some_iff.mp H
          obtain ⟨t245, A260, H⟩ := H
          replace H : (some t245) = some r := H
          have A26 := Aside0.mk A260
          clear A260
          obtain rfl := Option.some.inj H
          go_enter Try.func58, Try.ntmps58
          go_wp2_with (first | ((with_reducible refine gate_callee (f := 82) rfl ?_); refine goesL_ (some 72) rfl rfl Try.func82 (by kernel_rfl) rfl #[.int .u8 a0, .int .i64 a1, .int .i64 a2] rfl (by (try simp only [List.map_toArray, List.map_cons, List.map_nil]); first | done | rfl | (simp only [List.length_drop, List.length_take]; rfl)) ?_; (with_reducible refine (tailwaterref01_Compare.calls a0 a1 a2 t244 _ A25.out).mono ?_); rintro e w' ⟨rfl, ⟨nd, rfl⟩⟩; refine ⟨_, rfl, ?_⟩) | ((with_reducible refine gate_callee (f := 78) rfl ?_); refine goesL_ (some 73) rfl rfl Try.func78 (by kernel_rfl) rfl #[.bool t244] rfl (by (try simp only [List.map_toArray, List.map_cons, List.map_nil]); first | done | rfl | (simp only [List.length_drop, List.length_take]; rfl)) ?_; (with_reducible refine (tailwaterref01_Truth.calls t244 t245 _ A26.out).mono ?_); rintro e w' ⟨rfl, ⟨nd, rfl⟩⟩; refine ⟨_, rfl, ?_⟩))
          go_ret
          exact ⟨by first | rfl | (simp; done) | (simp [*]; done), by repeat (first | exact Drawn0.refl _ | apply Drawn0.step)⟩

end Go.Proofs.Ytcdgohoinmbpfaa.M
