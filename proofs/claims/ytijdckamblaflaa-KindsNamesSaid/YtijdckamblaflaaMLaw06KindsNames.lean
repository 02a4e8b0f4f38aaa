-- PRINTED by print.py (a twelfth state) out of the translation. Not trusted: Lean checks it.
import Derived.Test.YtijdckamblaflaaMTypes
import Derived.Test.YtijdckamblaflaaGLater
import Derived.Test.YtijdckamblaflaaWRepsOne
import Derived.Test.YtijdckamblaflaaGMade
import Derived.Test.YtijdckamblaflaaMKindsAll
import Derived.Test.YtijdckamblaflaaMKindsOf
import Derived.Test.YtijdckamblaflaaMLaw06Alive
import Derived.Test.YtijdckamblaflaaMLaw06Binary
import Derived.Test.YtijdckamblaflaaMLaw06Typed
namespace Go.Proofs.Ytijdckamblaflaa.M
open Go.RowKit Go.Proofs.YtijdckamblaflaaW.PrintWords Go.Proofs.YtijdckamblaflaaW.PrintLast Go.Proofs.YtijdckamblaflaaW.PrintMore
attribute [local go_sem] max2_int min2_int max_two min_two max_three min_three max_four min_four   -- for this text's walks alone
set_option linter.unusedVariables false
set_option linter.unusedSimpArgs false

/-! ### tailwaterlaw06_KindsNames: function 4 -/
mutual
def tailwaterlaw06_KindsNames.l0 : Nat → Int → Option (Bool)
  | 0, _ => none
  | k + 1, x1 => if x1 ≤ 19 then (tailwaterlaw06_KindsNames.l1 k x1 0) else ((some (([(⟨4, 0, 0, 0, 0⟩ : S27)] : List (S27)) : List (S27))).bind fun y268 => ((tailwaterlaw06_binary.f 14 false false).bind fun t271 => ((tailwaterref04_Made.f 5 0 0 (([y268] : List (List (S27))))).bind fun t277 => ((tailwaterref04_Made.f 6 0 0 (([t271] : List (List (S27))))).bind fun t283 => ((tailwaterref04_Made.f 5 0 0 (([t271] : List (List (S27))))).bind fun t289 => ((kinds_Of.f t289).bind fun bt292 => ((kinds_Number.f t271).bind fun bt295 => ((kinds_Truth.f y268).bind fun bt297 => ((kinds_Number.f y268).bind fun bt299 => ((kinds_Truth.f t283).bind fun bt301 => ((kinds_Of.f ([] : List (S27))).bind fun bt303 => ((kinds_All.f (([(⟨0, 0, 0, 0, 0⟩ : S27)] : List (S27)))).bind fun bt309 => (if 61 ≤ 7036874417766 then ((kinds_Number.f (List.replicate 61 z27)).bind fun bt316 => ((tailwaterlaw06_binary.f 18 true false).bind fun t318 => ((kinds_Truth.f t318).bind fun bt321 => ((tailwaterlaw06_typed.f t277 false).bind fun t323 => (if t323 = true then ((tailwaterlaw06_typed.f t283 true).bind fun t324 => (if t324 = true then ((tailwaterlaw06_typed.f y268 false).bind fun t325 => (if t325 = true then (if bt292.2.2 = 42 then (if bt292.2.1 = 3 then (if bt295.2 = 42 then (if bt295.1 = 2 then (if bt297.2 = 42 then (if bt297.1 = 0 then (if bt299.2 = 0 then (if bt299.1 = 0 then (if bt301.2 = 0 then (if bt301.1 = 3 then (if bt303.2.2 = 8 then (if bt309.2 = 8 then (if bt316.2 = 4 then (if bt321.2 = 42 then (if bt321.1 = 4 then ((tailwaterlaw06_alive.f).bind fun t326 => (some t326)) else (some false)) else (some false)) else (some false)) else (some false)) else (some false)) else (some false)) else (some false)) else (some false)) else (some false)) else (some false)) else (some false)) else (some false)) else (some false)) else (some false)) else (some false)) else (some false))) else (some false))) else (some false)))))) else (none))))))))))))))
def tailwaterlaw06_KindsNames.l1 : Nat → Int → Int → Option (Bool)
  | 0, _, _ => none
  | k + 1, x1, x2 => if x2 < 4 then (if ((Int.tmod x2 2) = 1) then (if (Int.tmod x2 2) = 1 then (if (wrap64 (Int.tdiv x2 2)) = 1 then (tailwaterlaw06_KindsNames.j2 k x1 x2 ((Int.tmod x2 2) == 1) ((wrap64 (Int.tdiv x2 2)) == 1) (decide (x1 ≥ 16))) else (tailwaterlaw06_KindsNames.j2 k x1 x2 ((Int.tmod x2 2) == 1) ((wrap64 (Int.tdiv x2 2)) == 1) false)) else (tailwaterlaw06_KindsNames.j2 k x1 x2 ((Int.tmod x2 2) == 1) ((wrap64 (Int.tdiv x2 2)) == 1) false)) else (if ((wrap64 (Int.tdiv x2 2)) = 1) then (if (Int.tmod x2 2) = 1 then (if (wrap64 (Int.tdiv x2 2)) = 1 then (tailwaterlaw06_KindsNames.j2 k x1 x2 ((Int.tmod x2 2) == 1) ((wrap64 (Int.tdiv x2 2)) == 1) (decide (x1 ≥ 16))) else (tailwaterlaw06_KindsNames.j2 k x1 x2 ((Int.tmod x2 2) == 1) ((wrap64 (Int.tdiv x2 2)) == 1) false)) else (tailwaterlaw06_KindsNames.j2 k x1 x2 ((Int.tmod x2 2) == 1) ((wrap64 (Int.tdiv x2 2)) == 1) false)) else (if x1 ≤ 17 then (tailwaterlaw06_KindsNames.j2 k x1 x2 ((Int.tmod x2 2) == 1) ((wrap64 (Int.tdiv x2 2)) == 1) true) else (if (Int.tmod x2 2) = 1 then (if (wrap64 (Int.tdiv x2 2)) = 1 then (tailwaterlaw06_KindsNames.j2 k x1 x2 ((Int.tmod x2 2) == 1) ((wrap64 (Int.tdiv x2 2)) == 1) (decide (x1 ≥ 16))) else (tailwaterlaw06_KindsNames.j2 k x1 x2 ((Int.tmod x2 2) == 1) ((wrap64 (Int.tdiv x2 2)) == 1) false)) else (tailwaterlaw06_KindsNames.j2 k x1 x2 ((Int.tmod x2 2) == 1) ((wrap64 (Int.tdiv x2 2)) == 1) false))))) else (tailwaterlaw06_KindsNames.l0 k ((x1 + 1) % 256))
def tailwaterlaw06_KindsNames.j2 : Nat → Int → Int → Bool → Bool → Bool → Option (Bool)
  | 0, _, _, _, _, _ => none
  | k + 1, x1, x2, x3, x4, x5 => (tailwaterlaw06_binary.f x1 x3 x4).bind fun t261 => (if x5 = true then ((tailwaterlaw06_typed.f t261 (decide (x1 ≥ 12))).bind fun t264 => (tailwaterlaw06_KindsNames.j3 k x1 x2 x5 t261 (!t264))) else (tailwaterlaw06_KindsNames.j3 k x1 x2 x5 t261 false))
def tailwaterlaw06_KindsNames.j3 : Nat → Int → Int → Bool → List (S27) → Bool → Option (Bool)
  | 0, _, _, _, _, _ => none
  | k + 1, x1, x2, x5, x6, x79 => if x79 = true then (some false) else ((kinds_Of.f x6).bind fun bt265 => (if x5 = true then (tailwaterlaw06_KindsNames.l1 k x1 (wrap64 (x2 + 1))) else (if bt265.2.2 = 42 then (if bt265.2.1 = (wrap64 ((x6.length : Int) - 1)) then (tailwaterlaw06_KindsNames.l1 k x1 (wrap64 (x2 + 1))) else (some false)) else (some false))))
end
def tailwaterlaw06_KindsNames.f (k : Nat)  : Option (Bool) := tailwaterlaw06_KindsNames.l0 k 7
theorem tailwaterlaw06_KindsNames.mono_l : ∀ k, (∀ y0, LeO (tailwaterlaw06_KindsNames.l0 k y0) (tailwaterlaw06_KindsNames.l0 (k + 1) y0)) ∧ (∀ y0 y1, LeO (tailwaterlaw06_KindsNames.l1 k y0 y1) (tailwaterlaw06_KindsNames.l1 (k + 1) y0 y1)) ∧ (∀ y0 y1 y2 y3 y4, LeO (tailwaterlaw06_KindsNames.j2 k y0 y1 y2 y3 y4) (tailwaterlaw06_KindsNames.j2 (k + 1) y0 y1 y2 y3 y4)) ∧ (∀ y0 y1 y2 y3 y4, LeO (tailwaterlaw06_KindsNames.j3 k y0 y1 y2 y3 y4) (tailwaterlaw06_KindsNames.j3 (k + 1) y0 y1 y2 y3 y4))
  | 0 => ⟨fun _ r h => by simp [tailwaterlaw06_KindsNames.l0] at h, fun _ _ r h => by simp [tailwaterlaw06_KindsNames.l1] at h, fun _ _ _ _ _ r h => by simp [tailwaterlaw06_KindsNames.j2] at h, fun _ _ _ _ _ r h => by simp [tailwaterlaw06_KindsNames.j3] at h⟩
  | k + 1 => by
    obtain ⟨ih0, ih1, ih2, ih3⟩ := tailwaterlaw06_KindsNames.mono_l k
    refine ⟨?_, ?_, ?_, ?_⟩
    · intro y0
      unfold tailwaterlaw06_KindsNames.l0
      repeat' first
      | (with_reducible exact ih0 _)
      | (with_reducible exact ih1 _ _)
      | (with_reducible exact ih2 _ _ _ _ _)
      | (with_reducible exact ih3 _ _ _ _ _)
      | (with_reducible exact LeO.refl _)
      | (with_reducible exact LeO.none _)
      | (with_reducible refine LeO.ite ?_ ?_)
      | (with_reducible refine LeO.bind ?_ (fun _ => ?_))
      | exact ih0 _
      | exact ih1 _ _
      | exact ih2 _ _ _ _ _
      | exact ih3 _ _ _ _ _
      | exact LeO.none _
      | refine LeO.ite ?_ ?_
      | refine LeO.bind ?_ (fun _ => ?_)
    · intro y0 y1
      unfold tailwaterlaw06_KindsNames.l1
      repeat' first
      | (with_reducible exact ih0 _)
      | (with_reducible exact ih1 _ _)
      | (with_reducible exact ih2 _ _ _ _ _)
      | (with_reducible exact ih3 _ _ _ _ _)
      | (with_reducible exact LeO.refl _)
      | (with_reducible exact LeO.none _)
      | (with_reducible refine LeO.ite ?_ ?_)
      | (with_reducible refine LeO.bind ?_ (fun _ => ?_))
      | exact ih0 _
      | exact ih1 _ _
      | exact ih2 _ _ _ _ _
      | exact ih3 _ _ _ _ _
      | exact LeO.none _
      | refine LeO.ite ?_ ?_
      | refine LeO.bind ?_ (fun _ => ?_)
    · intro y0 y1 y2 y3 y4
      unfold tailwaterlaw06_KindsNames.j2
      repeat' first
      | (with_reducible exact ih0 _)
      | (with_reducible exact ih1 _ _)
      | (with_reducible exact ih2 _ _ _ _ _)
      | (with_reducible exact ih3 _ _ _ _ _)
      | (with_reducible exact LeO.refl _)
      | (with_reducible exact LeO.none _)
      | (with_reducible refine LeO.ite ?_ ?_)
      | (with_reducible refine LeO.bind ?_ (fun _ => ?_))
      | exact ih0 _
      | exact ih1 _ _
      | exact ih2 _ _ _ _ _
      | exact ih3 _ _ _ _ _
      | exact LeO.none _
      | refine LeO.ite ?_ ?_
      | refine LeO.bind ?_ (fun _ => ?_)
    · intro y0 y1 y2 y3 y4
      unfold tailwaterlaw06_KindsNames.j3
      repeat' first
      | (with_reducible exact ih0 _)
      | (with_reducible exact ih1 _ _)
      | (with_reducible exact ih2 _ _ _ _ _)
      | (with_reducible exact ih3 _ _ _ _ _)
      | (with_reducible exact LeO.refl _)
      | (with_reducible exact LeO.none _)
      | (with_reducible refine LeO.ite ?_ ?_)
      | (with_reducible refine LeO.bind ?_ (fun _ => ?_))
      | exact ih0 _
      | exact ih1 _ _
      | exact ih2 _ _ _ _ _
      | exact ih3 _ _ _ _ _
      | exact LeO.none _
      | refine LeO.ite ?_ ?_
      | refine LeO.bind ?_ (fun _ => ?_)
theorem tailwaterlaw06_KindsNames.mono : ∀ k, LeO (tailwaterlaw06_KindsNames.f k ) (tailwaterlaw06_KindsNames.f (k + 1) ) := by
  intro  k
  obtain ⟨ih0, ih1, ih2, ih3⟩ := tailwaterlaw06_KindsNames.mono_l k
  unfold tailwaterlaw06_KindsNames.f
  repeat' first
      | (with_reducible exact ih0 _)
      | (with_reducible exact ih1 _ _)
      | (with_reducible exact ih2 _ _ _ _ _)
      | (with_reducible exact ih3 _ _ _ _ _)
      | (with_reducible exact LeO.refl _)
      | (with_reducible exact LeO.none _)
      | (with_reducible refine LeO.ite ?_ ?_)
      | (with_reducible refine LeO.bind ?_ (fun _ => ?_))
      | exact ih0 _
      | exact ih1 _ _
      | exact ih2 _ _ _ _ _
      | exact ih3 _ _ _ _ _
      | exact LeO.none _
      | refine LeO.ite ?_ ?_
      | refine LeO.bind ?_ (fun _ => ?_)
set_option maxHeartbeats 8000000 in
set_option maxRecDepth 100000 in
theorem tailwaterlaw06_KindsNames.calls (k : Nat)  (r : Bool) (w : World) (h : tailwaterlaw06_KindsNames.f k  = some r) (hrt : r = true) :
    Calls Try.prog 4 #[] w fun e w' => e = .returned (.bool r) ∧ Below w.heap.size w w' := by
  have hu27 := Try.underlying27
  have HB := Aside0.mk (Below.refl w.heap.size w)
  have H : (tailwaterlaw06_KindsNames.l0 k 7) = some r := h
  clear h
  have H' := Aside0.mk H
  clear H
  go_enter Try.func4, Try.ntmps4
  go_wp2
  go_loopg [1] k (fun kq v1 w' => ∃ (x1_1 : Int), v1 = .int .u8 x1_1 ∧ Aside0 (tailwaterlaw06_KindsNames.l0 kq x1_1 = some r) ∧ Aside0 (kq ≤ k) ∧ Aside0 (Below w.heap.size w w'))
  case atStart => exact ⟨(7), (by first | rfl | (simp; done) | (simp [*]; done)), H', ⟨Nat.le_refl _⟩, ⟨by repeat (first | (with_reducible first | exact HB.out | apply below_alloc | apply pw_below_drewN | apply below_drew1) | exact HB.out)⟩⟩
  case round =>
    clear H'
    obtain ⟨x1_1, rfl, HA, HK1, HB⟩ := hrel
    cases gk with
    | zero => exact absurd HA.out (by simp [tailwaterlaw06_KindsNames.l0])
    | succ k1 =>
      have H := HA.out
      clear HA
      simp only [tailwaterlaw06_KindsNames.l0] at H
      by_cases c1 : x1_1 ≤ 19
      · rw [if_pos c1] at H
        have c1b0 : decide (x1_1 ≤ 19) = true := decide_eq_true c1
        clear c1
        have H' := Aside0.mk H
        clear H
        go_wp2
        go_loopg [2] k1 (fun kq v2 w' => ∃ (x2_2 : Int), v2 = .int .i64 x2_2 ∧ Aside0 (tailwaterlaw06_KindsNames.l1 kq x1_1 x2_2 = some r) ∧ Aside0 (kq ≤ k1) ∧ Aside0 (Below w.heap.size w w'))
        case atStart => exact ⟨(0), (by first | rfl | (simp; done) | (simp [*]; done)), H', ⟨Nat.le_refl _⟩, ⟨by repeat (first | (with_reducible first | exact HB.out | apply below_alloc | apply pw_below_drewN | apply below_drew1) | exact HB.out)⟩⟩
        case round =>
          clear H'
          try clear c1
          try clear c1b0
          obtain ⟨x2_2, rfl, HA, HK2, HB⟩ := hrel
          cases gk with
          | zero => exact absurd HA.out (by simp [tailwaterlaw06_KindsNames.l1])
          | succ k2 =>
            have H := HA.out
            clear HA
            simp only [tailwaterlaw06_KindsNames.l1] at H
            by_cases c2 : x2_2 < 4
            · rw [if_pos c2] at H
              have c2b0 : decide (x2_2 < 4) = true := decide_eq_true c2
              clear c2
              have HC3 := Aside0.mk H
              clear H
              go_upto_region 8 with (fail)
              go_cut [5] (fun v5 wc => ∃ (kq : Nat) (x5_2 : Bool), v5 = .bool x5_2 ∧ Aside0 (tailwaterlaw06_KindsNames.j2 kq x1_1 x2_2 ((Int.tmod x2_2 2) == 1) ((wrap64 (Int.tdiv x2_2 2)) == 1) x5_2 = some r) ∧ Aside0 (kq ≤ k2) ∧ Aside0 (Below w.heap.size w wc))
              case first =>
                have H := HC3.out
                clear HC3
                by_cases c4 : ((Int.tmod x2_2 2) = 1)
                · rw [if_pos c4] at H
                  have c4b0 : ((Int.tmod x2_2 2) == 1) = true := beq_iff_eq.mpr c4
                  have c4b1 : ((Int.tmod x2_2 2) != 1) = false := bne_eq_false_iff_eq.mpr c4
                  clear c4
                  (first | rw [c4b0] | (simp only [i64_w, i32_w]; rw [c4b0]) | skip)
                  by_cases c5 : (Int.tmod x2_2 2) = 1
                  · rw [if_pos c5] at H
                    have c5b0 : ((Int.tmod x2_2 2) == 1) = true := beq_iff_eq.mpr c5
                    have c5b1 : ((Int.tmod x2_2 2) != 1) = false := bne_eq_false_iff_eq.mpr c5
                    clear c5
                    by_cases c6 : (wrap64 (Int.tdiv x2_2 2)) = 1
                    · rw [if_pos c6] at H
                      have c6b0 : ((wrap64 (Int.tdiv x2_2 2)) == 1) = true := beq_iff_eq.mpr c6
                      have c6b1 : ((wrap64 (Int.tdiv x2_2 2)) != 1) = false := bne_eq_false_iff_eq.mpr c6
                      clear c6
                      have H' := Aside0.mk H
                      clear H
                      go_wp2
                      (try simp only [c1b0] at *)
                      (try simp only [c2b0] at *)
                      (try simp only [c4b0] at *)
                      (try simp only [c5b0] at *)
                      (try simp only [c6b0] at *)
                      go_meet
                      case rel => exact ⟨_, (decide (x1_1 ≥ 16)), (by first | rfl | (simp; done) | (simp [*]; done)), H', ⟨by have := HK1.out; have := HK2.out; first | omega | exact Nat.le_refl _⟩, ⟨by repeat (first | (with_reducible first | exact HB.out | apply below_alloc | apply pw_below_drewN | apply below_drew1) | exact HB.out)⟩⟩
                    · rw [if_neg c6] at H
                      have c6b0 : ((wrap64 (Int.tdiv x2_2 2)) == 1) = false := beq_eq_false_iff_ne.mpr c6
                      have c6b1 : ((wrap64 (Int.tdiv x2_2 2)) != 1) = true := bne_iff_ne.mpr c6
                      have H' := Aside0.mk H
                      clear H
                      go_wp2
                      (try simp only [c1b0] at *)
                      (try simp only [c2b0] at *)
                      (try simp only [c4b0] at *)
                      (try simp only [c5b0] at *)
                      (try simp only [c6b0] at *)
                      go_meet
                      case rel => exact ⟨_, (false), (by first | rfl | (simp; done) | (simp [*]; done)), H', ⟨by have := HK1.out; have := HK2.out; first | omega | exact Nat.le_refl _⟩, ⟨by repeat (first | (with_reducible first | exact HB.out | apply below_alloc | apply pw_below_drewN | apply below_drew1) | exact HB.out)⟩⟩
                  · exact absurd (beq_iff_eq.mp c4b0) c5
                · rw [if_neg c4] at H
                  have c4b0 : ((Int.tmod x2_2 2) == 1) = false := beq_eq_false_iff_ne.mpr c4
                  have c4b1 : ((Int.tmod x2_2 2) != 1) = true := bne_iff_ne.mpr c4
                  (first | rw [c4b0] | (simp only [i64_w, i32_w]; rw [c4b0]) | skip)
                  by_cases c7 : ((wrap64 (Int.tdiv x2_2 2)) = 1)
                  · rw [if_pos c7] at H
                    have c7b0 : ((wrap64 (Int.tdiv x2_2 2)) == 1) = true := beq_iff_eq.mpr c7
                    have c7b1 : ((wrap64 (Int.tdiv x2_2 2)) != 1) = false := bne_eq_false_iff_eq.mpr c7
                    clear c7
                    by_cases c8 : (Int.tmod x2_2 2) = 1
                    · exact absurd (beq_iff_eq.mpr c8) (by rw [c4b0]; decide)
                    · rw [if_neg c8] at H
                      have c8b0 : ((Int.tmod x2_2 2) == 1) = false := beq_eq_false_iff_ne.mpr c8
                      have c8b1 : ((Int.tmod x2_2 2) != 1) = true := bne_iff_ne.mpr c8
                      have H' := Aside0.mk H
                      clear H
                      go_wp2
                      (try simp only [c1b0] at *)
                      (try simp only [c2b0] at *)
                      (try simp only [c4b0] at *)
                      (try simp only [c7b0] at *)
                      (try simp only [c8b0] at *)
                      go_meet
                      case rel => exact ⟨_, (false), (by first | rfl | (simp; done) | (simp [*]; done)), H', ⟨by have := HK1.out; have := HK2.out; first | omega | exact Nat.le_refl _⟩, ⟨by repeat (first | (with_reducible first | exact HB.out | apply below_alloc | apply pw_below_drewN | apply below_drew1) | exact HB.out)⟩⟩
                  · rw [if_neg c7] at H
                    have c7b0 : ((wrap64 (Int.tdiv x2_2 2)) == 1) = false := beq_eq_false_iff_ne.mpr c7
                    have c7b1 : ((wrap64 (Int.tdiv x2_2 2)) != 1) = true := bne_iff_ne.mpr c7
                    by_cases c10 : x1_1 ≤ 17
                    · rw [if_pos c10] at H
                      have c10b0 : decide (x1_1 ≤ 17) = true := decide_eq_true c10
                      clear c10
                      have H' := Aside0.mk H
                      clear H
                      go_wp2
                      (try simp only [c1b0] at *)
                      (try simp only [c2b0] at *)
                      (try simp only [c4b0] at *)
                      (try simp only [c7b0] at *)
                      (try simp only [c10b0] at *)
                      go_meet
                      case rel => exact ⟨_, (true), (by first | rfl | (simp; done) | (simp [*]; done)), H', ⟨by have := HK1.out; have := HK2.out; first | omega | exact Nat.le_refl _⟩, ⟨by repeat (first | (with_reducible first | exact HB.out | apply below_alloc | apply pw_below_drewN | apply below_drew1) | exact HB.out)⟩⟩
                    · rw [if_neg c10] at H
                      have c10b0 : decide (x1_1 ≤ 17) = false := decide_eq_false c10
                      clear c10
                      by_cases c11 : (Int.tmod x2_2 2) = 1
                      · exact absurd (beq_iff_eq.mpr c11) (by rw [c4b0]; decide)
                      · rw [if_neg c11] at H
                        have c11b0 : ((Int.tmod x2_2 2) == 1) = false := beq_eq_false_iff_ne.mpr c11
                        have c11b1 : ((Int.tmod x2_2 2) != 1) = true := bne_iff_ne.mpr c11
                        have H' := Aside0.mk H
                        clear H
                        go_wp2
                        (try simp only [c1b0] at *)
                        (try simp only [c2b0] at *)
                        (try simp only [c4b0] at *)
                        (try simp only [c7b0] at *)
                        (try simp only [c10b0] at *)
                        (try simp only [c11b0] at *)
                        go_meet
                        case rel => exact ⟨_, (false), (by first | rfl | (simp; done) | (simp [*]; done)), H', ⟨by have := HK1.out; have := HK2.out; first | omega | exact Nat.le_refl _⟩, ⟨by repeat (first | (with_reducible first | exact HB.out | apply below_alloc | apply pw_below_drewN | apply below_drew1) | exact HB.out)⟩⟩
              case rest =>
                clear HC3
                try clear c1
                try clear c1b0
                try clear c2
                try clear c2b0
                try clear p2
                try clear c4
                try clear c4b0
                try clear c4b1
                try clear c5
                try clear c5b0
                try clear c5b1
                try clear c6
                try clear c6b0
                try clear c6b1
                try clear p6
                try clear c7
                try clear c7b0
                try clear c7b1
                try clear c8
                try clear c8b0
                try clear c8b1
                try clear c9
                try clear c9b0
                try clear c9b1
                try clear c10
                try clear c10b0
                try clear c11
                try clear c11b0
                try clear c11b1
                try clear c12
                try clear c12b0
                try clear c12b1
                obtain ⟨kq, x5_2, rfl, HA, HJ2, HB⟩ := hcut
                cases kq with
                | zero => exact absurd HA.out (by simp [tailwaterlaw06_KindsNames.j2])
                | succ kj2 =>
                  have H := HA.out
                  clear HA
                  simp only [tailwaterlaw06_KindsNames.j2] at H
                  replace H := Option.bind_eq_some_iff.mp H
                  obtain ⟨t261, A130, H⟩ := H
                  replace H : (if x5_2 = true then ((tailwaterlaw06_typed.f t261 (decide (x1_1 ≥ 12))).bind fun t264 => (tailwaterlaw06_KindsNames.j3 kj2 x1_1 x2_2 x5_2 t261 (!t264))) else (tailwaterlaw06_KindsNames.j3 kj2 x1_1 x2_2 x5_2 t261 false)) = some r := H
                  have A13 := Aside0.mk A130
                  clear A130
                  have HC14 := Aside0.mk H
                  clear H
                  go_upto_region 10 with (first | ((with_reducible refine gate_callee (f := 19) rfl ?_); refine goesL_ (some 71) rfl rfl Try.func19 (by kernel_rfl) rfl #[.int .u8 x1_1, .bool ((Int.tmod x2_2 2) == 1), .bool ((wrap64 (Int.tdiv x2_2 2)) == 1)] rfl (by (try simp only [List.map_toArray, List.map_cons, List.map_nil]); first | done | rfl | (simp only [List.length_drop, List.length_take]; rfl)) ?_; (with_reducible refine (tailwaterlaw06_binary.calls x1_1 ((Int.tmod x2_2 2) == 1) ((wrap64 (Int.tdiv x2_2 2)) == 1) t261 _ A13.out).mono ?_); rintro e w15 ⟨v262, rfl, ho0, hb⟩; refine ⟨_, rfl, ?_⟩; have n0_ := Aside0.mk (Kd.R_lower ho0 (below_size (by exact belL HB.out))); have n1_ := Aside0.mk (below_step (by exact belL HB.out) hb); clear HB; have HO263 := n0_; have HB := n1_; clear n0_ n1_; (try clear hb); (try clear hb2); (try clear hk); (try clear hi); (try clear ho0)))
                  (try simp only [Act.put, List.setIfInBounds_toArray, List.set_cons_zero, List.set_cons_succ])
                  go_cut [79] (fun v79 wc => ∃ (kq : Nat) (x79_13 : Bool), v79 = .bool x79_13 ∧ Aside0 (tailwaterlaw06_KindsNames.j3 kq x1_1 x2_2 x5_2 t261 x79_13 = some r) ∧ Aside0 (kq ≤ kj2) ∧ Aside0 (Kd.R k27 27 wc w.heap.size (fun _ => True) v262 t261) ∧ Aside0 (Below w.heap.size w wc))
                  case first =>
                    have H := HC14.out
                    clear HC14
                    by_cases c16 : x5_2 = true
                    · subst c16
                      have H1 : ((tailwaterlaw06_typed.f t261 (decide (x1_1 ≥ 12))).bind fun t264 => (tailwaterlaw06_KindsNames.j3 kj2 x1_1 x2_2 true t261 (!t264))) = some r := by rw [if_pos rfl] at H; exact H
                      clear H
                      have H := H1
                      clear H1
                      replace H := Option.bind_eq_some_iff.mp H
                      obtain ⟨t264, A170, H⟩ := H
                      replace H : (tailwaterlaw06_KindsNames.j3 kj2 x1_1 x2_2 true t261 (!t264)) = some r := H
                      have A17 := Aside0.mk A170
                      clear A170
                      have H' := Aside0.mk H
                      clear H
                      obtain ⟨Ao18, co18, eo18⟩ := Kd.R_slice HO263.out
                      subst eo18
                      go_wp2_with (first | (go_at_call 20; (with_reducible refine (tailwaterlaw06_typed.calls _ _ t261 (decide (x1_1 ≥ 12)) t264 _ ?side1 ?side2 A17.out).mono ?_); (case side1 => repeat (first | exact (Kd.R_reads' HO263.out).2.2 | (with_reducible refine Kd.C_alloc ?_ _) | (with_reducible refine Kd.C_drewN ?_ _) | (with_reducible refine Kd.C_drew ?_))); (case side2 => exact (Kd.R_reads' HO263.out).2.1); rintro e w19 ⟨rfl, hb⟩; have n0_ := Aside0.mk (Kd.R_below (by exact RL HO263.out) hb); have n1_ := Aside0.mk (below_step (by exact belL HB.out) hb); clear HO263; clear HB; have HO263 := n0_; have HB := n1_; clear n0_ n1_; (try clear hb); (try clear hb2); (try clear hk); (try clear hi)))
                      (try simp only [c1b0] at *)
                      (try simp only [c2b0] at *)
                      go_meet
                      case rel => exact ⟨_, (!t264), (by first | rfl | (simp; done) | (simp [*]; done)), H', ⟨by have := HK1.out; have := HK2.out; have := HJ2.out; first | omega | exact Nat.le_refl _⟩, ⟨by (with_reducible repeat (first | apply Kd.R_alloc | apply Kd.R_drewN | apply Kd.R_drew)); exact HO263.out⟩, ⟨by repeat (first | (with_reducible first | exact HB.out | apply below_alloc | apply pw_below_drewN | apply below_drew1) | exact HB.out)⟩⟩
                    · replace c16 := Bool.eq_false_iff.mpr c16
                      subst c16
                      have H1 : (tailwaterlaw06_KindsNames.j3 kj2 x1_1 x2_2 false t261 false) = some r := by rw [if_neg (show ¬ (false = true) by decide)] at H; exact H
                      clear H
                      have H := H1
                      clear H1
                      have H' := Aside0.mk H
                      clear H
                      go_wp2
                      (try simp only [c1b0] at *)
                      (try simp only [c2b0] at *)
                      go_meet
                      case rel => exact ⟨_, (false), (by first | rfl | (simp; done) | (simp [*]; done)), H', ⟨by have := HK1.out; have := HK2.out; have := HJ2.out; first | omega | exact Nat.le_refl _⟩, ⟨by (with_reducible repeat (first | apply Kd.R_alloc | apply Kd.R_drewN | apply Kd.R_drew)); exact HO263.out⟩, ⟨by repeat (first | (with_reducible first | exact HB.out | apply below_alloc | apply pw_below_drewN | apply below_drew1) | exact HB.out)⟩⟩
                  case rest =>
                    clear HC14
                    try clear c1
                    try clear c1b0
                    try clear c2
                    try clear c2b0
                    try clear p2
                    try clear c4
                    try clear c4b0
                    try clear c4b1
                    try clear c5
                    try clear c5b0
                    try clear c5b1
                    try clear c6
                    try clear c6b0
                    try clear c6b1
                    try clear p6
                    try clear c7
                    try clear c7b0
                    try clear c7b1
                    try clear c8
                    try clear c8b0
                    try clear c8b1
                    try clear c9
                    try clear c9b0
                    try clear c9b1
                    try clear c10
                    try clear c10b0
                    try clear c11
                    try clear c11b0
                    try clear c11b1
                    try clear c12
                    try clear c12b0
                    try clear c12b1
                    try clear c16
                    try clear c19
                    try clear p2
                    try clear p6
                    obtain ⟨kq, x79_13, rfl, HA, HJ13, HO_6, HB⟩ := hcut
                    cases kq with
                    | zero => exact absurd HA.out (by simp [tailwaterlaw06_KindsNames.j3])
                    | succ kj13 =>
                      have H := HA.out
                      clear HA
                      simp only [tailwaterlaw06_KindsNames.j3] at H
                      by_cases c20 : x79_13 = true
                      · subst c20
                        have H1 : (some false) = some r := by rw [if_pos rfl] at H; exact H
                        clear H
                        have H := H1
                        clear H1
                        exact absurd ((Option.some.inj H).trans hrt) (by decide)
                      · replace c20 := Bool.eq_false_iff.mpr c20
                        subst c20
                        have H1 : ((kinds_Of.f t261).bind fun bt265 => (if x5_2 = true then (tailwaterlaw06_KindsNames.l1 kj13 x1_1 (wrap64 (x2_2 + 1))) else (if bt265.2.2 = 42 then (if bt265.2.1 = (wrap64 ((t261.length : Int) - 1)) then (tailwaterlaw06_KindsNames.l1 kj13 x1_1 (wrap64 (x2_2 + 1))) else (some false)) else (some false)))) = some r := by rw [if_neg (show ¬ (false = true) by decide)] at H; exact H
                        clear H
                        have H := H1
                        clear H1
                        replace H := Option.bind_eq_some_iff.mp H
                        obtain ⟨⟨t265, t266, t267⟩, A210, H⟩ := H
                        replace H : (if x5_2 = true then (tailwaterlaw06_KindsNames.l1 kj13 x1_1 (wrap64 (x2_2 + 1))) else (if t267 = 42 then (if t266 = (wrap64 ((t261.length : Int) - 1)) then (tailwaterlaw06_KindsNames.l1 kj13 x1_1 (wrap64 (x2_2 + 1))) else (some false)) else (some false))) = some r := H
                        have A21 := Aside0.mk A210
                        clear A210
                        by_cases c22 : x5_2 = true
                        · subst c22
                          have H1 : (tailwaterlaw06_KindsNames.l1 kj13 x1_1 (wrap64 (x2_2 + 1))) = some r := by rw [if_pos rfl] at H; exact H
                          clear H
                          have H := H1
                          clear H1
                          have H' := Aside0.mk H
                          clear H
                          obtain ⟨Ao23, co23, eo23⟩ := Kd.R_slice HO_6.out
                          subst eo23
                          go_wp2_with (first | ((with_reducible refine gate_callee (f := 18) rfl ?_); refine goesL_ (some 82) rfl rfl Try.func18 (by kernel_rfl) rfl #[.slice Ao23 t261.length co23] rfl (by (try simp only [List.map_toArray, List.map_cons, List.map_nil]); first | done | rfl | (simp only [List.length_drop, List.length_take]; rfl)) ?_; (with_reducible refine (kinds_Of.calls _ _ t261 t265 t266 t267 _ ?side1 ?side2 A21.out).mono ?_); (case side1 => repeat (first | exact (Kd.R_reads' HO_6.out).2.2 | (with_reducible refine Kd.C_alloc ?_ _) | (with_reducible refine Kd.C_drewN ?_ _) | (with_reducible refine Kd.C_drew ?_))); (case side2 => exact (Kd.R_reads' HO_6.out).2.1); rintro e w24 ⟨rfl, hb⟩; refine ⟨_, rfl, ?_⟩; have n0_ := Aside0.mk (Kd.R_below (by exact RL HO_6.out) hb); have n1_ := Aside0.mk (below_step (by exact belL HB.out) hb); clear HO_6; clear HB; have HO_6 := n0_; have HB := n1_; clear n0_ n1_; (try clear hb); (try clear hb2); (try clear hk); (try clear hi)))
                          go_roundg kj13
                          case measure => have := HK1.out; have := HK2.out; have := HJ2.out; have := HJ13.out; omega
                          case rel => exact ⟨(wrap64 (x2_2 + 1)), (by first | rfl | (simp; done) | (simp [*]; done)), H', ⟨by have := HK1.out; have := HK2.out; have := HJ2.out; have := HJ13.out; omega⟩, ⟨by repeat (first | (with_reducible first | exact HB.out | apply below_alloc | apply pw_below_drewN | apply below_drew1) | exact HB.out)⟩⟩
                        · replace c22 := Bool.eq_false_iff.mpr c22
                          subst c22
                          have H1 : (if t267 = 42 then (if t266 = (wrap64 ((t261.length : Int) - 1)) then (tailwaterlaw06_KindsNames.l1 kj13 x1_1 (wrap64 (x2_2 + 1))) else (some false)) else (some false)) = some r := by rw [if_neg (show ¬ (false = true) by decide)] at H; exact H
                          clear H
                          have H := H1
                          clear H1
                          by_cases c25 : t267 = 42
                          · rw [if_pos c25] at H
                            have c25b0 : (t267 == 42) = true := beq_iff_eq.mpr c25
                            have c25b1 : (t267 != 42) = false := bne_eq_false_iff_eq.mpr c25
                            clear c25
                            by_cases c26 : t266 = (wrap64 ((t261.length : Int) - 1))
                            · rw [if_pos c26] at H
                              have c26b0 : (t266 == (wrap64 ((t261.length : Int) - 1))) = true := beq_iff_eq.mpr c26
                              have c26b1 : (t266 != (wrap64 ((t261.length : Int) - 1))) = false := bne_eq_false_iff_eq.mpr c26
                              clear c26
                              have H' := Aside0.mk H
                              clear H
                              obtain ⟨Ao27, co27, eo27⟩ := Kd.R_slice HO_6.out
                              subst eo27
                              go_wp2_with (first | ((with_reducible refine gate_callee (f := 18) rfl ?_); refine goesL_ (some 82) rfl rfl Try.func18 (by kernel_rfl) rfl #[.slice Ao27 t261.length co27] rfl (by (try simp only [List.map_toArray, List.map_cons, List.map_nil]); first | done | rfl | (simp only [List.length_drop, List.length_take]; rfl)) ?_; (with_reducible refine (kinds_Of.calls _ _ t261 t265 t266 t267 _ ?side1 ?side2 A21.out).mono ?_); (case side1 => repeat (first | exact (Kd.R_reads' HO_6.out).2.2 | (with_reducible refine Kd.C_alloc ?_ _) | (with_reducible refine Kd.C_drewN ?_ _) | (with_reducible refine Kd.C_drew ?_))); (case side2 => exact (Kd.R_reads' HO_6.out).2.1); rintro e w28 ⟨rfl, hb⟩; refine ⟨_, rfl, ?_⟩; have n0_ := Aside0.mk (Kd.R_below (by exact RL HO_6.out) hb); have n1_ := Aside0.mk (below_step (by exact belL HB.out) hb); clear HO_6; clear HB; have HO_6 := n0_; have HB := n1_; clear n0_ n1_; (try clear hb); (try clear hb2); (try clear hk); (try clear hi)))
                              go_roundg kj13
                              case measure => have := HK1.out; have := HK2.out; have := HJ2.out; have := HJ13.out; omega
                              case rel => exact ⟨(wrap64 (x2_2 + 1)), (by first | rfl | (simp; done) | (simp [*]; done)), H', ⟨by have := HK1.out; have := HK2.out; have := HJ2.out; have := HJ13.out; omega⟩, ⟨by repeat (first | (with_reducible first | exact HB.out | apply below_alloc | apply pw_below_drewN | apply below_drew1) | exact HB.out)⟩⟩
                            · rw [if_neg c26] at H
                              have c26b0 : (t266 == (wrap64 ((t261.length : Int) - 1))) = false := beq_eq_false_iff_ne.mpr c26
                              have c26b1 : (t266 != (wrap64 ((t261.length : Int) - 1))) = true := bne_iff_ne.mpr c26
                              exact absurd ((Option.some.inj H).trans hrt) (by decide)
                          · rw [if_neg c25] at H
                            have c25b0 : (t267 == 42) = false := beq_eq_false_iff_ne.mpr c25
                            have c25b1 : (t267 != 42) = true := bne_iff_ne.mpr c25
                            exact absurd ((Option.some.inj H).trans hrt) (by decide)
            · rw [if_neg c2] at H
              have c2b0 : decide (x2_2 < 4) = false := decide_eq_false c2
              clear c2
              have H' := Aside0.mk H
              clear H
              go_wp2
              go_roundg k2
              case measure => have := HK1.out; have := HK2.out; omega
              case rel => exact ⟨((x1_1 + 1) % 256), (by first | rfl | (simp; done) | (simp [*]; done)), H', ⟨by have := HK1.out; have := HK2.out; omega⟩, ⟨by repeat (first | (with_reducible first | exact HB.out | apply below_alloc | apply pw_below_drewN | apply below_drew1) | exact HB.out)⟩⟩
      · rw [if_neg c1] at H
        have c1b0 : decide (x1_1 ≤ 19) = false := decide_eq_false c1
        clear c1
        obtain ⟨y268, hy268⟩ : ∃ y_ : List (S27), y_ = (([(⟨4, 0, 0, 0, 0⟩ : S27)] : List (S27))) := ⟨_, rfl⟩
        replace H : ((tailwaterlaw06_binary.f 14 false false).bind fun t271 => ((tailwaterref04_Made.f 5 0 0 (([y268] : List (List (S27))))).bind fun t277 => ((tailwaterref04_Made.f 6 0 0 (([t271] : List (List (S27))))).bind fun t283 => ((tailwaterref04_Made.f 5 0 0 (([t271] : List (List (S27))))).bind fun t289 => ((kinds_Of.f t289).bind fun bt292 => ((kinds_Number.f t271).bind fun bt295 => ((kinds_Truth.f y268).bind fun bt297 => ((kinds_Number.f y268).bind fun bt299 => ((kinds_Truth.f t283).bind fun bt301 => ((kinds_Of.f ([] : List (S27))).bind fun bt303 => ((kinds_All.f (([(⟨0, 0, 0, 0, 0⟩ : S27)] : List (S27)))).bind fun bt309 => (if 61 ≤ 7036874417766 then ((kinds_Number.f (List.replicate 61 z27)).bind fun bt316 => ((tailwaterlaw06_binary.f 18 true false).bind fun t318 => ((kinds_Truth.f t318).bind fun bt321 => ((tailwaterlaw06_typed.f t277 false).bind fun t323 => (if t323 = true then ((tailwaterlaw06_typed.f t283 true).bind fun t324 => (if t324 = true then ((tailwaterlaw06_typed.f y268 false).bind fun t325 => (if t325 = true then (if bt292.2.2 = 42 then (if bt292.2.1 = 3 then (if bt295.2 = 42 then (if bt295.1 = 2 then (if bt297.2 = 42 then (if bt297.1 = 0 then (if bt299.2 = 0 then (if bt299.1 = 0 then (if bt301.2 = 0 then (if bt301.1 = 3 then (if bt303.2.2 = 8 then (if bt309.2 = 8 then (if bt316.2 = 4 then (if bt321.2 = 42 then (if bt321.1 = 4 then ((tailwaterlaw06_alive.f).bind fun t326 => (some t326)) else (some false)) else (some false)) else (some false)) else (some false)) else (some false)) else (some false)) else (some false)) else (some false)) else (some false)) else (some false)) else (some false)) else (some false)) else (some false)) else (some false)) else (some false)) else (some false))) else (some false))) else (some false)))))) else (none))))))))))))) = some r := by first | (rw [hy268]; with_reducible exact H) | (have H2_ := (Option.bind_some _ _).symm.trans H; rw [hy268]; with_reducible exact H2_) | (have H2_ := (Option.bind_some _ _).symm.trans H; with_reducible exact H2_) | with_reducible exact H | (rw [hy268]; exact H) | exact H
        have Ny268 := Aside0.mk hy268
        clear hy268
        replace H := Option.bind_eq_some_iff.mp H
        obtain ⟨t271, A290, H⟩ := H
        replace H : ((tailwaterref04_Made.f 5 0 0 (([y268] : List (List (S27))))).bind fun t277 => ((tailwaterref04_Made.f 6 0 0 (([t271] : List (List (S27))))).bind fun t283 => ((tailwaterref04_Made.f 5 0 0 (([t271] : List (List (S27))))).bind fun t289 => ((kinds_Of.f t289).bind fun bt292 => ((kinds_Number.f t271).bind fun bt295 => ((kinds_Truth.f y268).bind fun bt297 => ((kinds_Number.f y268).bind fun bt299 => ((kinds_Truth.f t283).bind fun bt301 => ((kinds_Of.f ([] : List (S27))).bind fun bt303 => ((kinds_All.f (([(⟨0, 0, 0, 0, 0⟩ : S27)] : List (S27)))).bind fun bt309 => (if 61 ≤ 7036874417766 then ((kinds_Number.f (List.replicate 61 z27)).bind fun bt316 => ((tailwaterlaw06_binary.f 18 true false).bind fun t318 => ((kinds_Truth.f t318).bind fun bt321 => ((tailwaterlaw06_typed.f t277 false).bind fun t323 => (if t323 = true then ((tailwaterlaw06_typed.f t283 true).bind fun t324 => (if t324 = true then ((tailwaterlaw06_typed.f y268 false).bind fun t325 => (if t325 = true then (if bt292.2.2 = 42 then (if bt292.2.1 = 3 then (if bt295.2 = 42 then (if bt295.1 = 2 then (if bt297.2 = 42 then (if bt297.1 = 0 then (if bt299.2 = 0 then (if bt299.1 = 0 then (if bt301.2 = 0 then (if bt301.1 = 3 then (if bt303.2.2 = 8 then (if bt309.2 = 8 then (if bt316.2 = 4 then (if bt321.2 = 42 then (if bt321.1 = 4 then ((tailwaterlaw06_alive.f).bind fun t326 => (some t326)) else (some false)) else (some false)) else (some false)) else (some false)) else (some false)) else (some false)) else (some false)) else (some false)) else (some false)) else (some false)) else (some false)) else (some false)) else (some false)) else (some false)) else (some false)) else (some false))) else (some false))) else (some false)))))) else (none)))))))))))) = some r := H
        have A29 := Aside0.mk A290
        clear A290
        obtain ⟨y274, hy274⟩ : ∃ y_ : List (List (S27)), y_ = (([y268] : List (List (S27)))) := ⟨_, rfl⟩
        replace H : ((tailwaterref04_Made.f 5 0 0 y274).bind fun t277 => ((tailwaterref04_Made.f 6 0 0 (([t271] : List (List (S27))))).bind fun t283 => ((tailwaterref04_Made.f 5 0 0 (([t271] : List (List (S27))))).bind fun t289 => ((kinds_Of.f t289).bind fun bt292 => ((kinds_Number.f t271).bind fun bt295 => ((kinds_Truth.f y268).bind fun bt297 => ((kinds_Number.f y268).bind fun bt299 => ((kinds_Truth.f t283).bind fun bt301 => ((kinds_Of.f ([] : List (S27))).bind fun bt303 => ((kinds_All.f (([(⟨0, 0, 0, 0, 0⟩ : S27)] : List (S27)))).bind fun bt309 => (if 61 ≤ 7036874417766 then ((kinds_Number.f (List.replicate 61 z27)).bind fun bt316 => ((tailwaterlaw06_binary.f 18 true false).bind fun t318 => ((kinds_Truth.f t318).bind fun bt321 => ((tailwaterlaw06_typed.f t277 false).bind fun t323 => (if t323 = true then ((tailwaterlaw06_typed.f t283 true).bind fun t324 => (if t324 = true then ((tailwaterlaw06_typed.f y268 false).bind fun t325 => (if t325 = true then (if bt292.2.2 = 42 then (if bt292.2.1 = 3 then (if bt295.2 = 42 then (if bt295.1 = 2 then (if bt297.2 = 42 then (if bt297.1 = 0 then (if bt299.2 = 0 then (if bt299.1 = 0 then (if bt301.2 = 0 then (if bt301.1 = 3 then (if bt303.2.2 = 8 then (if bt309.2 = 8 then (if bt316.2 = 4 then (if bt321.2 = 42 then (if bt321.1 = 4 then ((tailwaterlaw06_alive.f).bind fun t326 => (some t326)) else (some false)) else (some false)) else (some false)) else (some false)) else (some false)) else (some false)) else (some false)) else (some false)) else (some false)) else (some false)) else (some false)) else (some false)) else (some false)) else (some false)) else (some false)) else (some false))) else (some false))) else (some false)))))) else (none)))))))))))) = some r := by first | (rw [hy274]; with_reducible exact H) | (have H2_ := (Option.bind_some _ _).symm.trans H; rw [hy274]; with_reducible exact H2_) | (have H2_ := (Option.bind_some _ _).symm.trans H; with_reducible exact H2_) | with_reducible exact H | (rw [hy274]; exact H) | exact H
        have Ny274 := Aside0.mk hy274
        clear hy274
        replace H := Option.bind_eq_some_iff.mp H
        obtain ⟨t277, A300, H⟩ := H
        replace H : ((tailwaterref04_Made.f 6 0 0 (([t271] : List (List (S27))))).bind fun t283 => ((tailwaterref04_Made.f 5 0 0 (([t271] : List (List (S27))))).bind fun t289 => ((kinds_Of.f t289).bind fun bt292 => ((kinds_Number.f t271).bind fun bt295 => ((kinds_Truth.f y268).bind fun bt297 => ((kinds_Number.f y268).bind fun bt299 => ((kinds_Truth.f t283).bind fun bt301 => ((kinds_Of.f ([] : List (S27))).bind fun bt303 => ((kinds_All.f (([(⟨0, 0, 0, 0, 0⟩ : S27)] : List (S27)))).bind fun bt309 => (if 61 ≤ 7036874417766 then ((kinds_Number.f (List.replicate 61 z27)).bind fun bt316 => ((tailwaterlaw06_binary.f 18 true false).bind fun t318 => ((kinds_Truth.f t318).bind fun bt321 => ((tailwaterlaw06_typed.f t277 false).bind fun t323 => (if t323 = true then ((tailwaterlaw06_typed.f t283 true).bind fun t324 => (if t324 = true then ((tailwaterlaw06_typed.f y268 false).bind fun t325 => (if t325 = true then (if bt292.2.2 = 42 then (if bt292.2.1 = 3 then (if bt295.2 = 42 then (if bt295.1 = 2 then (if bt297.2 = 42 then (if bt297.1 = 0 then (if bt299.2 = 0 then (if bt299.1 = 0 then (if bt301.2 = 0 then (if bt301.1 = 3 then (if bt303.2.2 = 8 then (if bt309.2 = 8 then (if bt316.2 = 4 then (if bt321.2 = 42 then (if bt321.1 = 4 then ((tailwaterlaw06_alive.f).bind fun t326 => (some t326)) else (some false)) else (some false)) else (some false)) else (some false)) else (some false)) else (some false)) else (some false)) else (some false)) else (some false)) else (some false)) else (some false)) else (some false)) else (some false)) else (some false)) else (some false)) else (some false))) else (some false))) else (some false)))))) else (none))))))))))) = some r := H
        have A30 := Aside0.mk A300
        clear A300
        obtain ⟨y280, hy280⟩ : ∃ y_ : List (List (S27)), y_ = (([t271] : List (List (S27)))) := ⟨_, rfl⟩
        replace H : ((tailwaterref04_Made.f 6 0 0 y280).bind fun t283 => ((tailwaterref04_Made.f 5 0 0 (([t271] : List (List (S27))))).bind fun t289 => ((kinds_Of.f t289).bind fun bt292 => ((kinds_Number.f t271).bind fun bt295 => ((kinds_Truth.f y268).bind fun bt297 => ((kinds_Number.f y268).bind fun bt299 => ((kinds_Truth.f t283).bind fun bt301 => ((kinds_Of.f ([] : List (S27))).bind fun bt303 => ((kinds_All.f (([(⟨0, 0, 0, 0, 0⟩ : S27)] : List (S27)))).bind fun bt309 => (if 61 ≤ 7036874417766 then ((kinds_Number.f (List.replicate 61 z27)).bind fun bt316 => ((tailwaterlaw06_binary.f 18 true false).bind fun t318 => ((kinds_Truth.f t318).bind fun bt321 => ((tailwaterlaw06_typed.f t277 false).bind fun t323 => (if t323 = true then ((tailwaterlaw06_typed.f t283 true).bind fun t324 => (if t324 = true then ((tailwaterlaw06_typed.f y268 false).bind fun t325 => (if t325 = true then (if bt292.2.2 = 42 then (if bt292.2.1 = 3 then (if bt295.2 = 42 then (if bt295.1 = 2 then (if bt297.2 = 42 then (if bt297.1 = 0 then (if bt299.2 = 0 then (if bt299.1 = 0 then (if bt301.2 = 0 then (if bt301.1 = 3 then (if bt303.2.2 = 8 then (if bt309.2 = 8 then (if bt316.2 = 4 then (if bt321.2 = 42 then (if bt321.1 = 4 then ((tailwaterlaw06_alive.f).bind fun t326 => (some t326)) else (some false)) else (some false)) else (some false)) else (some false)) else (some false)) else (some false)) else (some false)) else (some false)) else (some false)) else (some false)) else (some false)) else (some false)) else (some false)) else (some false)) else (some false)) else (some false))) else (some false))) else (some false)))))) else (none))))))))))) = some r := by first | (rw [hy280]; with_reducible exact H) | (have H2_ := (Option.bind_some _ _).symm.trans H; rw [hy280]; with_reducible exact H2_) | (have H2_ := (Option.bind_some _ _).symm.trans H; with_reducible exact H2_) | with_reducible exact H | (rw [hy280]; exact H) | exact H
        have Ny280 := Aside0.mk hy280
        clear hy280
        replace H := Option.bind_eq_some_iff.mp H
        obtain ⟨t283, A310, H⟩ := H
        replace H : ((tailwaterref04_Made.f 5 0 0 (([t271] : List (List (S27))))).bind fun t289 => ((kinds_Of.f t289).bind fun bt292 => ((kinds_Number.f t271).bind fun bt295 => ((kinds_Truth.f y268).bind fun bt297 => ((kinds_Number.f y268).bind fun bt299 => ((kinds_Truth.f t283).bind fun bt301 => ((kinds_Of.f ([] : List (S27))).bind fun bt303 => ((kinds_All.f (([(⟨0, 0, 0, 0, 0⟩ : S27)] : List (S27)))).bind fun bt309 => (if 61 ≤ 7036874417766 then ((kinds_Number.f (List.replicate 61 z27)).bind fun bt316 => ((tailwaterlaw06_binary.f 18 true false).bind fun t318 => ((kinds_Truth.f t318).bind fun bt321 => ((tailwaterlaw06_typed.f t277 false).bind fun t323 => (if t323 = true then ((tailwaterlaw06_typed.f t283 true).bind fun t324 => (if t324 = true then ((tailwaterlaw06_typed.f y268 false).bind fun t325 => (if t325 = true then (if bt292.2.2 = 42 then (if bt292.2.1 = 3 then (if bt295.2 = 42 then (if bt295.1 = 2 then (if bt297.2 = 42 then (if bt297.1 = 0 then (if bt299.2 = 0 then (if bt299.1 = 0 then (if bt301.2 = 0 then (if bt301.1 = 3 then (if bt303.2.2 = 8 then (if bt309.2 = 8 then (if bt316.2 = 4 then (if bt321.2 = 42 then (if bt321.1 = 4 then ((tailwaterlaw06_alive.f).bind fun t326 => (some t326)) else (some false)) else (some false)) else (some false)) else (some false)) else (some false)) else (some false)) else (some false)) else (some false)) else (some false)) else (some false)) else (some false)) else (some false)) else (some false)) else (some false)) else (some false)) else (some false))) else (some false))) else (some false)))))) else (none)))))))))) = some r := H
        have A31 := Aside0.mk A310
        clear A310
        obtain ⟨y286, hy286⟩ : ∃ y_ : List (List (S27)), y_ = (([t271] : List (List (S27)))) := ⟨_, rfl⟩
        replace H : ((tailwaterref04_Made.f 5 0 0 y286).bind fun t289 => ((kinds_Of.f t289).bind fun bt292 => ((kinds_Number.f t271).bind fun bt295 => ((kinds_Truth.f y268).bind fun bt297 => ((kinds_Number.f y268).bind fun bt299 => ((kinds_Truth.f t283).bind fun bt301 => ((kinds_Of.f ([] : List (S27))).bind fun bt303 => ((kinds_All.f (([(⟨0, 0, 0, 0, 0⟩ : S27)] : List (S27)))).bind fun bt309 => (if 61 ≤ 7036874417766 then ((kinds_Number.f (List.replicate 61 z27)).bind fun bt316 => ((tailwaterlaw06_binary.f 18 true false).bind fun t318 => ((kinds_Truth.f t318).bind fun bt321 => ((tailwaterlaw06_typed.f t277 false).bind fun t323 => (if t323 = true then ((tailwaterlaw06_typed.f t283 true).bind fun t324 => (if t324 = true then ((tailwaterlaw06_typed.f y268 false).bind fun t325 => (if t325 = true then (if bt292.2.2 = 42 then (if bt292.2.1 = 3 then (if bt295.2 = 42 then (if bt295.1 = 2 then (if bt297.2 = 42 then (if bt297.1 = 0 then (if bt299.2 = 0 then (if bt299.1 = 0 then (if bt301.2 = 0 then (if bt301.1 = 3 then (if bt303.2.2 = 8 then (if bt309.2 = 8 then (if bt316.2 = 4 then (if bt321.2 = 42 then (if bt321.1 = 4 then ((tailwaterlaw06_alive.f).bind fun t326 => (some t326)) else (some false)) else (some false)) else (some false)) else (some false)) else (some false)) else (some false)) else (some false)) else (some false)) else (some false)) else (some false)) else (some false)) else (some false)) else (some false)) else (some false)) else (some false)) else (some false))) else (some false))) else (some false)))))) else (none)))))))))) = some r := by first | (rw [hy286]; with_reducible exact H) | (have H2_ := (Option.bind_some _ _).symm.trans H; rw [hy286]; with_reducible exact H2_) | (have H2_ := (Option.bind_some _ _).symm.trans H; with_reducible exact H2_) | with_reducible exact H | (rw [hy286]; exact H) | exact H
        have Ny286 := Aside0.mk hy286
        clear hy286
        replace H := Option.bind_eq_some_iff.mp H
        obtain ⟨t289, A320, H⟩ := H
        replace H : ((kinds_Of.f t289).bind fun bt292 => ((kinds_Number.f t271).bind fun bt295 => ((kinds_Truth.f y268).bind fun bt297 => ((kinds_Number.f y268).bind fun bt299 => ((kinds_Truth.f t283).bind fun bt301 => ((kinds_Of.f ([] : List (S27))).bind fun bt303 => ((kinds_All.f (([(⟨0, 0, 0, 0, 0⟩ : S27)] : List (S27)))).bind fun bt309 => (if 61 ≤ 7036874417766 then ((kinds_Number.f (List.replicate 61 z27)).bind fun bt316 => ((tailwaterlaw06_binary.f 18 true false).bind fun t318 => ((kinds_Truth.f t318).bind fun bt321 => ((tailwaterlaw06_typed.f t277 false).bind fun t323 => (if t323 = true then ((tailwaterlaw06_typed.f t283 true).bind fun t324 => (if t324 = true then ((tailwaterlaw06_typed.f y268 false).bind fun t325 => (if t325 = true then (if bt292.2.2 = 42 then (if bt292.2.1 = 3 then (if bt295.2 = 42 then (if bt295.1 = 2 then (if bt297.2 = 42 then (if bt297.1 = 0 then (if bt299.2 = 0 then (if bt299.1 = 0 then (if bt301.2 = 0 then (if bt301.1 = 3 then (if bt303.2.2 = 8 then (if bt309.2 = 8 then (if bt316.2 = 4 then (if bt321.2 = 42 then (if bt321.1 = 4 then ((tailwaterlaw06_alive.f).bind fun t326 => (some t326)) else (some false)) else (some false)) else (some false)) else (some false)) else (some false)) else (some false)) else (some false)) else (some false)) else (some false)) else (some false)) else (some false)) else (some false)) else (some false)) else (some false)) else (some false)) else (some false))) else (some false))) else (some false)))))) else (none))))))))) = some r := H
        have A32 := Aside0.mk A320
        clear A320
        replace H := Option.bind_eq_some_iff.mp H
        obtain ⟨⟨t292, t293, t294⟩, A330, H⟩ := H
        replace H : ((kinds_Number.f t271).bind fun bt295 => ((kinds_Truth.f y268).bind fun bt297 => ((kinds_Number.f y268).bind fun bt299 => ((kinds_Truth.f t283).bind fun bt301 => ((kinds_Of.f ([] : List (S27))).bind fun bt303 => ((kinds_All.f (([(⟨0, 0, 0, 0, 0⟩ : S27)] : List (S27)))).bind fun bt309 => (if 61 ≤ 7036874417766 then ((kinds_Number.f (List.replicate 61 z27)).bind fun bt316 => ((tailwaterlaw06_binary.f 18 true false).bind fun t318 => ((kinds_Truth.f t318).bind fun bt321 => ((tailwaterlaw06_typed.f t277 false).bind fun t323 => (if t323 = true then ((tailwaterlaw06_typed.f t283 true).bind fun t324 => (if t324 = true then ((tailwaterlaw06_typed.f y268 false).bind fun t325 => (if t325 = true then (if t294 = 42 then (if t293 = 3 then (if bt295.2 = 42 then (if bt295.1 = 2 then (if bt297.2 = 42 then (if bt297.1 = 0 then (if bt299.2 = 0 then (if bt299.1 = 0 then (if bt301.2 = 0 then (if bt301.1 = 3 then (if bt303.2.2 = 8 then (if bt309.2 = 8 then (if bt316.2 = 4 then (if bt321.2 = 42 then (if bt321.1 = 4 then ((tailwaterlaw06_alive.f).bind fun t326 => (some t326)) else (some false)) else (some false)) else (some false)) else (some false)) else (some false)) else (some false)) else (some false)) else (some false)) else (some false)) else (some false)) else (some false)) else (some false)) else (some false)) else (some false)) else (some false)) else (some false))) else (some false))) else (some false)))))) else (none)))))))) = some r := H
        have A33 := Aside0.mk A330
        clear A330
        replace H := Option.bind_eq_some_iff.mp H
        obtain ⟨⟨t295, t296⟩, A340, H⟩ := H
        replace H : ((kinds_Truth.f y268).bind fun bt297 => ((kinds_Number.f y268).bind fun bt299 => ((kinds_Truth.f t283).bind fun bt301 => ((kinds_Of.f ([] : List (S27))).bind fun bt303 => ((kinds_All.f (([(⟨0, 0, 0, 0, 0⟩ : S27)] : List (S27)))).bind fun bt309 => (if 61 ≤ 7036874417766 then ((kinds_Number.f (List.replicate 61 z27)).bind fun bt316 => ((tailwaterlaw06_binary.f 18 true false).bind fun t318 => ((kinds_Truth.f t318).bind fun bt321 => ((tailwaterlaw06_typed.f t277 false).bind fun t323 => (if t323 = true then ((tailwaterlaw06_typed.f t283 true).bind fun t324 => (if t324 = true then ((tailwaterlaw06_typed.f y268 false).bind fun t325 => (if t325 = true then (if t294 = 42 then (if t293 = 3 then (if t296 = 42 then (if t295 = 2 then (if bt297.2 = 42 then (if bt297.1 = 0 then (if bt299.2 = 0 then (if bt299.1 = 0 then (if bt301.2 = 0 then (if bt301.1 = 3 then (if bt303.2.2 = 8 then (if bt309.2 = 8 then (if bt316.2 = 4 then (if bt321.2 = 42 then (if bt321.1 = 4 then ((tailwaterlaw06_alive.f).bind fun t326 => (some t326)) else (some false)) else (some false)) else (some false)) else (some false)) else (some false)) else (some false)) else (some false)) else (some false)) else (some false)) else (some false)) else (some false)) else (some false)) else (some false)) else (some false)) else (some false)) else (some false))) else (some false))) else (some false)))))) else (none))))))) = some r := H
        have A34 := Aside0.mk A340
        clear A340
        replace H := Option.bind_eq_some_iff.mp H
        obtain ⟨⟨t297, t298⟩, A350, H⟩ := H
        replace H : ((kinds_Number.f y268).bind fun bt299 => ((kinds_Truth.f t283).bind fun bt301 => ((kinds_Of.f ([] : List (S27))).bind fun bt303 => ((kinds_All.f (([(⟨0, 0, 0, 0, 0⟩ : S27)] : List (S27)))).bind fun bt309 => (if 61 ≤ 7036874417766 then ((kinds_Number.f (List.replicate 61 z27)).bind fun bt316 => ((tailwaterlaw06_binary.f 18 true false).bind fun t318 => ((kinds_Truth.f t318).bind fun bt321 => ((tailwaterlaw06_typed.f t277 false).bind fun t323 => (if t323 = true then ((tailwaterlaw06_typed.f t283 true).bind fun t324 => (if t324 = true then ((tailwaterlaw06_typed.f y268 false).bind fun t325 => (if t325 = true then (if t294 = 42 then (if t293 = 3 then (if t296 = 42 then (if t295 = 2 then (if t298 = 42 then (if t297 = 0 then (if bt299.2 = 0 then (if bt299.1 = 0 then (if bt301.2 = 0 then (if bt301.1 = 3 then (if bt303.2.2 = 8 then (if bt309.2 = 8 then (if bt316.2 = 4 then (if bt321.2 = 42 then (if bt321.1 = 4 then ((tailwaterlaw06_alive.f).bind fun t326 => (some t326)) else (some false)) else (some false)) else (some false)) else (some false)) else (some false)) else (some false)) else (some false)) else (some false)) else (some false)) else (some false)) else (some false)) else (some false)) else (some false)) else (some false)) else (some false)) else (some false))) else (some false))) else (some false)))))) else (none)))))) = some r := H
        have A35 := Aside0.mk A350
        clear A350
        replace H := Option.bind_eq_some_iff.mp H
        obtain ⟨⟨t299, t300⟩, A360, H⟩ := H
        replace H : ((kinds_Truth.f t283).bind fun bt301 => ((kinds_Of.f ([] : List (S27))).bind fun bt303 => ((kinds_All.f (([(⟨0, 0, 0, 0, 0⟩ : S27)] : List (S27)))).bind fun bt309 => (if 61 ≤ 7036874417766 then ((kinds_Number.f (List.replicate 61 z27)).bind fun bt316 => ((tailwaterlaw06_binary.f 18 true false).bind fun t318 => ((kinds_Truth.f t318).bind fun bt321 => ((tailwaterlaw06_typed.f t277 false).bind fun t323 => (if t323 = true then ((tailwaterlaw06_typed.f t283 true).bind fun t324 => (if t324 = true then ((tailwaterlaw06_typed.f y268 false).bind fun t325 => (if t325 = true then (if t294 = 42 then (if t293 = 3 then (if t296 = 42 then (if t295 = 2 then (if t298 = 42 then (if t297 = 0 then (if t300 = 0 then (if t299 = 0 then (if bt301.2 = 0 then (if bt301.1 = 3 then (if bt303.2.2 = 8 then (if bt309.2 = 8 then (if bt316.2 = 4 then (if bt321.2 = 42 then (if bt321.1 = 4 then ((tailwaterlaw06_alive.f).bind fun t326 => (some t326)) else (some false)) else (some false)) else (some false)) else (some false)) else (some false)) else (some false)) else (some false)) else (some false)) else (some false)) else (some false)) else (some false)) else (some false)) else (some false)) else (some false)) else (some false)) else (some false))) else (some false))) else (some false)))))) else (none))))) = some r := H
        have A36 := Aside0.mk A360
        clear A360
        replace H := Option.bind_eq_some_iff.mp H
        obtain ⟨⟨t301, t302⟩, A370, H⟩ := H
        replace H : ((kinds_Of.f ([] : List (S27))).bind fun bt303 => ((kinds_All.f (([(⟨0, 0, 0, 0, 0⟩ : S27)] : List (S27)))).bind fun bt309 => (if 61 ≤ 7036874417766 then ((kinds_Number.f (List.replicate 61 z27)).bind fun bt316 => ((tailwaterlaw06_binary.f 18 true false).bind fun t318 => ((kinds_Truth.f t318).bind fun bt321 => ((tailwaterlaw06_typed.f t277 false).bind fun t323 => (if t323 = true then ((tailwaterlaw06_typed.f t283 true).bind fun t324 => (if t324 = true then ((tailwaterlaw06_typed.f y268 false).bind fun t325 => (if t325 = true then (if t294 = 42 then (if t293 = 3 then (if t296 = 42 then (if t295 = 2 then (if t298 = 42 then (if t297 = 0 then (if t300 = 0 then (if t299 = 0 then (if t302 = 0 then (if t301 = 3 then (if bt303.2.2 = 8 then (if bt309.2 = 8 then (if bt316.2 = 4 then (if bt321.2 = 42 then (if bt321.1 = 4 then ((tailwaterlaw06_alive.f).bind fun t326 => (some t326)) else (some false)) else (some false)) else (some false)) else (some false)) else (some false)) else (some false)) else (some false)) else (some false)) else (some false)) else (some false)) else (some false)) else (some false)) else (some false)) else (some false)) else (some false)) else (some false))) else (some false))) else (some false)))))) else (none)))) = some r := H
        have A37 := Aside0.mk A370
        clear A370
        replace H := Option.bind_eq_some_iff.mp H
        obtain ⟨⟨t303, t304, t305⟩, A380, H⟩ := H
        replace H : ((kinds_All.f (([(⟨0, 0, 0, 0, 0⟩ : S27)] : List (S27)))).bind fun bt309 => (if 61 ≤ 7036874417766 then ((kinds_Number.f (List.replicate 61 z27)).bind fun bt316 => ((tailwaterlaw06_binary.f 18 true false).bind fun t318 => ((kinds_Truth.f t318).bind fun bt321 => ((tailwaterlaw06_typed.f t277 false).bind fun t323 => (if t323 = true then ((tailwaterlaw06_typed.f t283 true).bind fun t324 => (if t324 = true then ((tailwaterlaw06_typed.f y268 false).bind fun t325 => (if t325 = true then (if t294 = 42 then (if t293 = 3 then (if t296 = 42 then (if t295 = 2 then (if t298 = 42 then (if t297 = 0 then (if t300 = 0 then (if t299 = 0 then (if t302 = 0 then (if t301 = 3 then (if t305 = 8 then (if bt309.2 = 8 then (if bt316.2 = 4 then (if bt321.2 = 42 then (if bt321.1 = 4 then ((tailwaterlaw06_alive.f).bind fun t326 => (some t326)) else (some false)) else (some false)) else (some false)) else (some false)) else (some false)) else (some false)) else (some false)) else (some false)) else (some false)) else (some false)) else (some false)) else (some false)) else (some false)) else (some false)) else (some false)) else (some false))) else (some false))) else (some false)))))) else (none))) = some r := H
        have A38 := Aside0.mk A380
        clear A380
        obtain ⟨y306, hy306⟩ : ∃ y_ : List (S27), y_ = (([(⟨0, 0, 0, 0, 0⟩ : S27)] : List (S27))) := ⟨_, rfl⟩
        replace H : ((kinds_All.f y306).bind fun bt309 => (if 61 ≤ 7036874417766 then ((kinds_Number.f (List.replicate 61 z27)).bind fun bt316 => ((tailwaterlaw06_binary.f 18 true false).bind fun t318 => ((kinds_Truth.f t318).bind fun bt321 => ((tailwaterlaw06_typed.f t277 false).bind fun t323 => (if t323 = true then ((tailwaterlaw06_typed.f t283 true).bind fun t324 => (if t324 = true then ((tailwaterlaw06_typed.f y268 false).bind fun t325 => (if t325 = true then (if t294 = 42 then (if t293 = 3 then (if t296 = 42 then (if t295 = 2 then (if t298 = 42 then (if t297 = 0 then (if t300 = 0 then (if t299 = 0 then (if t302 = 0 then (if t301 = 3 then (if t305 = 8 then (if bt309.2 = 8 then (if bt316.2 = 4 then (if bt321.2 = 42 then (if bt321.1 = 4 then ((tailwaterlaw06_alive.f).bind fun t326 => (some t326)) else (some false)) else (some false)) else (some false)) else (some false)) else (some false)) else (some false)) else (some false)) else (some false)) else (some false)) else (some false)) else (some false)) else (some false)) else (some false)) else (some false)) else (some false)) else (some false))) else (some false))) else (some false)))))) else (none))) = some r := by first | (rw [hy306]; with_reducible exact H) | (have H2_ := (Option.bind_some _ _).symm.trans H; rw [hy306]; with_reducible exact H2_) | (have H2_ := (Option.bind_some _ _).symm.trans H; with_reducible exact H2_) | with_reducible exact H | (rw [hy306]; exact H) | exact H
        have Ny306 := Aside0.mk hy306
        clear hy306
        replace H := Option.bind_eq_some_iff.mp H
        obtain ⟨⟨t309, t310⟩, A390, H⟩ := H
        replace H : (if 61 ≤ 7036874417766 then ((kinds_Number.f (List.replicate 61 z27)).bind fun bt316 => ((tailwaterlaw06_binary.f 18 true false).bind fun t318 => ((kinds_Truth.f t318).bind fun bt321 => ((tailwaterlaw06_typed.f t277 false).bind fun t323 => (if t323 = true then ((tailwaterlaw06_typed.f t283 true).bind fun t324 => (if t324 = true then ((tailwaterlaw06_typed.f y268 false).bind fun t325 => (if t325 = true then (if t294 = 42 then (if t293 = 3 then (if t296 = 42 then (if t295 = 2 then (if t298 = 42 then (if t297 = 0 then (if t300 = 0 then (if t299 = 0 then (if t302 = 0 then (if t301 = 3 then (if t305 = 8 then (if t310 = 8 then (if bt316.2 = 4 then (if bt321.2 = 42 then (if bt321.1 = 4 then ((tailwaterlaw06_alive.f).bind fun t326 => (some t326)) else (some false)) else (some false)) else (some false)) else (some false)) else (some false)) else (some false)) else (some false)) else (some false)) else (some false)) else (some false)) else (some false)) else (some false)) else (some false)) else (some false)) else (some false)) else (some false))) else (some false))) else (some false)))))) else (none)) = some r := H
        have A39 := Aside0.mk A390
        clear A390
        by_cases c40 : 61 ≤ 7036874417766
        · rw [if_pos c40] at H
          have c40b0 := eq_true c40
          have c40b1 : decide (61 ≤ 7036874417766) = true := decide_eq_true c40
          clear c40
          obtain ⟨y313, hy313⟩ : ∃ y_ : List (S27), y_ = (List.replicate 61 z27) := ⟨_, rfl⟩
          replace H : ((kinds_Number.f y313).bind fun bt316 => ((tailwaterlaw06_binary.f 18 true false).bind fun t318 => ((kinds_Truth.f t318).bind fun bt321 => ((tailwaterlaw06_typed.f t277 false).bind fun t323 => (if t323 = true then ((tailwaterlaw06_typed.f t283 true).bind fun t324 => (if t324 = true then ((tailwaterlaw06_typed.f y268 false).bind fun t325 => (if t325 = true then (if t294 = 42 then (if t293 = 3 then (if t296 = 42 then (if t295 = 2 then (if t298 = 42 then (if t297 = 0 then (if t300 = 0 then (if t299 = 0 then (if t302 = 0 then (if t301 = 3 then (if t305 = 8 then (if t310 = 8 then (if bt316.2 = 4 then (if bt321.2 = 42 then (if bt321.1 = 4 then ((tailwaterlaw06_alive.f).bind fun t326 => (some t326)) else (some false)) else (some false)) else (some false)) else (some false)) else (some false)) else (some false)) else (some false)) else (some false)) else (some false)) else (some false)) else (some false)) else (some false)) else (some false)) else (some false)) else (some false)) else (some false))) else (some false))) else (some false)))))) = some r := by first | (rw [hy313]; with_reducible exact H) | (have H2_ := (Option.bind_some _ _).symm.trans H; rw [hy313]; with_reducible exact H2_) | (have H2_ := (Option.bind_some _ _).symm.trans H; with_reducible exact H2_) | with_reducible exact H | (rw [hy313]; exact H) | exact H
          have Ny313 := Aside0.mk hy313
          clear hy313
          replace H := Option.bind_eq_some_iff.mp H
          obtain ⟨⟨t316, t317⟩, A410, H⟩ := H
          replace H : ((tailwaterlaw06_binary.f 18 true false).bind fun t318 => ((kinds_Truth.f t318).bind fun bt321 => ((tailwaterlaw06_typed.f t277 false).bind fun t323 => (if t323 = true then ((tailwaterlaw06_typed.f t283 true).bind fun t324 => (if t324 = true then ((tailwaterlaw06_typed.f y268 false).bind fun t325 => (if t325 = true then (if t294 = 42 then (if t293 = 3 then (if t296 = 42 then (if t295 = 2 then (if t298 = 42 then (if t297 = 0 then (if t300 = 0 then (if t299 = 0 then (if t302 = 0 then (if t301 = 3 then (if t305 = 8 then (if t310 = 8 then (if t317 = 4 then (if bt321.2 = 42 then (if bt321.1 = 4 then ((tailwaterlaw06_alive.f).bind fun t326 => (some t326)) else (some false)) else (some false)) else (some false)) else (some false)) else (some false)) else (some false)) else (some false)) else (some false)) else (some false)) else (some false)) else (some false)) else (some false)) else (some false)) else (some false)) else (some false)) else (some false))) else (some false))) else (some false))))) = some r := H
          have A41 := Aside0.mk A410
          clear A410
          replace H := Option.bind_eq_some_iff.mp H
          obtain ⟨t318, A420, H⟩ := H
          replace H : ((kinds_Truth.f t318).bind fun bt321 => ((tailwaterlaw06_typed.f t277 false).bind fun t323 => (if t323 = true then ((tailwaterlaw06_typed.f t283 true).bind fun t324 => (if t324 = true then ((tailwaterlaw06_typed.f y268 false).bind fun t325 => (if t325 = true then (if t294 = 42 then (if t293 = 3 then (if t296 = 42 then (if t295 = 2 then (if t298 = 42 then (if t297 = 0 then (if t300 = 0 then (if t299 = 0 then (if t302 = 0 then (if t301 = 3 then (if t305 = 8 then (if t310 = 8 then (if t317 = 4 then (if bt321.2 = 42 then (if bt321.1 = 4 then ((tailwaterlaw06_alive.f).bind fun t326 => (some t326)) else (some false)) else (some false)) else (some false)) else (some false)) else (some false)) else (some false)) else (some false)) else (some false)) else (some false)) else (some false)) else (some false)) else (some false)) else (some false)) else (some false)) else (some false)) else (some false))) else (some false))) else (some false)))) = some r := H
          have A42 := Aside0.mk A420
          clear A420
          replace H := Option.bind_eq_some_iff.mp H
          obtain ⟨⟨t321, t322⟩, A430, H⟩ := H
          replace H : ((tailwaterlaw06_typed.f t277 false).bind fun t323 => (if t323 = true then ((tailwaterlaw06_typed.f t283 true).bind fun t324 => (if t324 = true then ((tailwaterlaw06_typed.f y268 false).bind fun t325 => (if t325 = true then (if t294 = 42 then (if t293 = 3 then (if t296 = 42 then (if t295 = 2 then (if t298 = 42 then (if t297 = 0 then (if t300 = 0 then (if t299 = 0 then (if t302 = 0 then (if t301 = 3 then (if t305 = 8 then (if t310 = 8 then (if t317 = 4 then (if t322 = 42 then (if t321 = 4 then ((tailwaterlaw06_alive.f).bind fun t326 => (some t326)) else (some false)) else (some false)) else (some false)) else (some false)) else (some false)) else (some false)) else (some false)) else (some false)) else (some false)) else (some false)) else (some false)) else (some false)) else (some false)) else (some false)) else (some false)) else (some false))) else (some false))) else (some false))) = some r := H
          have A43 := Aside0.mk A430
          clear A430
          replace H := Option.bind_eq_some_iff.mp H
          obtain ⟨t323, A440, H⟩ := H
          replace H : (if t323 = true then ((tailwaterlaw06_typed.f t283 true).bind fun t324 => (if t324 = true then ((tailwaterlaw06_typed.f y268 false).bind fun t325 => (if t325 = true then (if t294 = 42 then (if t293 = 3 then (if t296 = 42 then (if t295 = 2 then (if t298 = 42 then (if t297 = 0 then (if t300 = 0 then (if t299 = 0 then (if t302 = 0 then (if t301 = 3 then (if t305 = 8 then (if t310 = 8 then (if t317 = 4 then (if t322 = 42 then (if t321 = 4 then ((tailwaterlaw06_alive.f).bind fun t326 => (some t326)) else (some false)) else (some false)) else (some false)) else (some false)) else (some false)) else (some false)) else (some false)) else (some false)) else (some false)) else (some false)) else (some false)) else (some false)) else (some false)) else (some false)) else (some false)) else (some false))) else (some false))) else (some false)) = some r := H
          have A44 := Aside0.mk A440
          clear A440
          by_cases c45 : t323 = true
          · subst c45
            have H1 : ((tailwaterlaw06_typed.f t283 true).bind fun t324 => (if t324 = true then ((tailwaterlaw06_typed.f y268 false).bind fun t325 => (if t325 = true then (if t294 = 42 then (if t293 = 3 then (if t296 = 42 then (if t295 = 2 then (if t298 = 42 then (if t297 = 0 then (if t300 = 0 then (if t299 = 0 then (if t302 = 0 then (if t301 = 3 then (if t305 = 8 then (if t310 = 8 then (if t317 = 4 then (if t322 = 42 then (if t321 = 4 then ((tailwaterlaw06_alive.f).bind fun t326 => (some t326)) else (some false)) else (some false)) else (some false)) else (some false)) else (some false)) else (some false)) else (some false)) else (some false)) else (some false)) else (some false)) else (some false)) else (some false)) else (some false)) else (some false)) else (some false)) else (some false))) else (some false))) = some r := by rw [if_pos rfl] at H; exact H
            clear H
            have H := H1
            clear H1
            replace H := Option.bind_eq_some_iff.mp H
            obtain ⟨t324, A460, H⟩ := H
            replace H : (if t324 = true then ((tailwaterlaw06_typed.f y268 false).bind fun t325 => (if t325 = true then (if t294 = 42 then (if t293 = 3 then (if t296 = 42 then (if t295 = 2 then (if t298 = 42 then (if t297 = 0 then (if t300 = 0 then (if t299 = 0 then (if t302 = 0 then (if t301 = 3 then (if t305 = 8 then (if t310 = 8 then (if t317 = 4 then (if t322 = 42 then (if t321 = 4 then ((tailwaterlaw06_alive.f).bind fun t326 => (some t326)) else (some false)) else (some false)) else (some false)) else (some false)) else (some false)) else (some false)) else (some false)) else (some false)) else (some false)) else (some false)) else (some false)) else (some false)) else (some false)) else (some false)) else (some false)) else (some false))) else (some false)) = some r := H
            have A46 := Aside0.mk A460
            clear A460
            by_cases c47 : t324 = true
            · subst c47
              have H1 : ((tailwaterlaw06_typed.f y268 false).bind fun t325 => (if t325 = true then (if t294 = 42 then (if t293 = 3 then (if t296 = 42 then (if t295 = 2 then (if t298 = 42 then (if t297 = 0 then (if t300 = 0 then (if t299 = 0 then (if t302 = 0 then (if t301 = 3 then (if t305 = 8 then (if t310 = 8 then (if t317 = 4 then (if t322 = 42 then (if t321 = 4 then ((tailwaterlaw06_alive.f).bind fun t326 => (some t326)) else (some false)) else (some false)) else (some false)) else (some false)) else (some false)) else (some false)) else (some false)) else (some false)) else (some false)) else (some false)) else (some false)) else (some false)) else (some false)) else (some false)) else (some false)) else (some false))) = some r := by rw [if_pos rfl] at H; exact H
              clear H
              have H := H1
              clear H1
              replace H := Option.bind_eq_some_iff.mp H
              obtain ⟨t325, A480, H⟩ := H
              replace H : (if t325 = true then (if t294 = 42 then (if t293 = 3 then (if t296 = 42 then (if t295 = 2 then (if t298 = 42 then (if t297 = 0 then (if t300 = 0 then (if t299 = 0 then (if t302 = 0 then (if t301 = 3 then (if t305 = 8 then (if t310 = 8 then (if t317 = 4 then (if t322 = 42 then (if t321 = 4 then ((tailwaterlaw06_alive.f).bind fun t326 => (some t326)) else (some false)) else (some false)) else (some false)) else (some false)) else (some false)) else (some false)) else (some false)) else (some false)) else (some false)) else (some false)) else (some false)) else (some false)) else (some false)) else (some false)) else (some false)) else (some false)) = some r := H
              have A48 := Aside0.mk A480
              clear A480
              by_cases c49 : t325 = true
              · subst c49
                have H1 : (if t294 = 42 then (if t293 = 3 then (if t296 = 42 then (if t295 = 2 then (if t298 = 42 then (if t297 = 0 then (if t300 = 0 then (if t299 = 0 then (if t302 = 0 then (if t301 = 3 then (if t305 = 8 then (if t310 = 8 then (if t317 = 4 then (if t322 = 42 then (if t321 = 4 then ((tailwaterlaw06_alive.f).bind fun t326 => (some t326)) else (some false)) else (some false)) else (some false)) else (some false)) else (some false)) else (some false)) else (some false)) else (some false)) else (some false)) else (some false)) else (some false)) else (some false)) else (some false)) else (some false)) else (some false)) = some r := by rw [if_pos rfl] at H; exact H
                clear H
                have H := H1
                clear H1
                by_cases c50 : t294 = 42
                · rw [if_pos c50] at H
                  have c50b0 : (t294 == 42) = true := beq_iff_eq.mpr c50
                  have c50b1 : (t294 != 42) = false := bne_eq_false_iff_eq.mpr c50
                  clear c50
                  by_cases c51 : t293 = 3
                  · rw [if_pos c51] at H
                    have c51b0 : (t293 == 3) = true := beq_iff_eq.mpr c51
                    have c51b1 : (t293 != 3) = false := bne_eq_false_iff_eq.mpr c51
                    clear c51
                    by_cases c52 : t296 = 42
                    · rw [if_pos c52] at H
                      have c52b0 : (t296 == 42) = true := beq_iff_eq.mpr c52
                      have c52b1 : (t296 != 42) = false := bne_eq_false_iff_eq.mpr c52
                      clear c52
                      by_cases c53 : t295 = 2
                      · rw [if_pos c53] at H
                        have c53b0 : (t295 == 2) = true := beq_iff_eq.mpr c53
                        have c53b1 : (t295 != 2) = false := bne_eq_false_iff_eq.mpr c53
                        clear c53
                        by_cases c54 : t298 = 42
                        · rw [if_pos c54] at H
                          have c54b0 : (t298 == 42) = true := beq_iff_eq.mpr c54
                          have c54b1 : (t298 != 42) = false := bne_eq_false_iff_eq.mpr c54
                          clear c54
                          by_cases c55 : t297 = 0
                          · rw [if_pos c55] at H
                            have c55b0 : (t297 == 0) = true := beq_iff_eq.mpr c55
                            have c55b1 : (t297 != 0) = false := bne_eq_false_iff_eq.mpr c55
                            clear c55
                            by_cases c56 : t300 = 0
                            · rw [if_pos c56] at H
                              have c56b0 : (t300 == 0) = true := beq_iff_eq.mpr c56
                              have c56b1 : (t300 != 0) = false := bne_eq_false_iff_eq.mpr c56
                              clear c56
                              by_cases c57 : t299 = 0
                              · rw [if_pos c57] at H
                                have c57b0 : (t299 == 0) = true := beq_iff_eq.mpr c57
                                have c57b1 : (t299 != 0) = false := bne_eq_false_iff_eq.mpr c57
                                clear c57
                                by_cases c58 : t302 = 0
                                · rw [if_pos c58] at H
                                  have c58b0 : (t302 == 0) = true := beq_iff_eq.mpr c58
                                  have c58b1 : (t302 != 0) = false := bne_eq_false_iff_eq.mpr c58
                                  clear c58
                                  by_cases c59 : t301 = 3
                                  · rw [if_pos c59] at H
                                    have c59b0 : (t301 == 3) = true := beq_iff_eq.mpr c59
                                    have c59b1 : (t301 != 3) = false := bne_eq_false_iff_eq.mpr c59
                                    clear c59
                                    by_cases c60 : t305 = 8
                                    · rw [if_pos c60] at H
                                      have c60b0 : (t305 == 8) = true := beq_iff_eq.mpr c60
                                      have c60b1 : (t305 != 8) = false := bne_eq_false_iff_eq.mpr c60
                                      clear c60
                                      by_cases c61 : t310 = 8
                                      · rw [if_pos c61] at H
                                        have c61b0 : (t310 == 8) = true := beq_iff_eq.mpr c61
                                        have c61b1 : (t310 != 8) = false := bne_eq_false_iff_eq.mpr c61
                                        clear c61
                                        by_cases c62 : t317 = 4
                                        · rw [if_pos c62] at H
                                          have c62b0 : (t317 == 4) = true := beq_iff_eq.mpr c62
                                          have c62b1 : (t317 != 4) = false := bne_eq_false_iff_eq.mpr c62
                                          clear c62
                                          by_cases c63 : t322 = 42
                                          · rw [if_pos c63] at H
                                            have c63b0 : (t322 == 42) = true := beq_iff_eq.mpr c63
                                            have c63b1 : (t322 != 42) = false := bne_eq_false_iff_eq.mpr c63
                                            clear c63
                                            by_cases c64 : t321 = 4
                                            · rw [if_pos c64] at H
                                              have c64b0 : (t321 == 4) = true := beq_iff_eq.mpr c64
                                              have c64b1 : (t321 != 4) = false := bne_eq_false_iff_eq.mpr c64
                                              clear c64
                                              replace H := Option.bind_eq_some_iff.mp H
                                              obtain ⟨t326, A650, H⟩ := H
                                              replace H : (some t326) = some r := H
                                              have A65 := Aside0.mk A650
                                              clear A650
                                              obtain rfl := Option.some.inj H
                                              go_wp2_with (first | ((with_reducible refine gate_dst (N := 100) rfl ?_); (try (refine gate_guard (by rfl) ?_; dsimp only)); refine Kd.R_lit k27 _ 27 ?hg (N := 100) ?hd (xs := ([(⟨4, 0, 0, 0, 0⟩ : S27)] : List (S27))) (inner := [.int .u8 4, .int .i64 0, .int .i64 0, .int .i64 0, .int .i64 0]) (ok := fun _ => True) (okp := fun _ => True) ?hr ?hp (fun _ hk => hk) trivial (Below.refl _ _) (Nat.le_refl _) (by simp) ?_; (case hd => rfl); (case hg => rfl); (case hr => first | (go_simp; done) | (go_simp; rfl)); (case hp => exact (Reps.c5 (show Kd.M k27 _ _ _ (⟨4, 0, 0, 0, 0⟩ : S27) [.int .u8 4, .int .i64 0, .int .i64 0, .int .i64 0, .int .i64 0] from (k27_mkM _ _ _ (⟨4, 0, 0, 0, 0⟩ : S27) )) (Reps.none _ _))); intro v269 w66 ho67 hb hg_ hnew_; clear hg_ hnew_; (first | rw [← Ny268.out] at ho67 | (simp only [Int.reduceToNat] at ho67; rw [← Ny268.out] at ho67)); have n0_ := Aside0.mk (Kd.R_lower ho67 (below_size (by exact belL HB.out))); have n1_ := Aside0.mk (below_step (by exact belL HB.out) hb); clear HB; have HO270 := n0_; have HB := n1_; clear n0_ n1_; clear hb ho67) | ((with_reducible refine gate_callee (f := 19) rfl ?_); refine goesL_ (some 101) rfl rfl Try.func19 (by kernel_rfl) rfl #[.int .u8 14, .bool false, .bool false] rfl (by (try simp only [List.map_toArray, List.map_cons, List.map_nil]); first | done | rfl | (simp only [List.length_drop, List.length_take]; rfl)) ?_; (with_reducible refine (tailwaterlaw06_binary.calls 14 false false t271 _ A29.out).mono ?_); rintro e w68 ⟨v272, rfl, ho0, hb⟩; refine ⟨_, rfl, ?_⟩; have n0_ := Aside0.mk (Kd.R_elder' (by exact RL HO270.out) (Kd.R_base ho0) hb); have n1_ := Aside0.mk (Kd.R_lower (Kd.R_new' ho0 (Kd.R_lt (by exact RL HO270.out))) (below_size (by exact belL HB.out))); have n2_ := Aside0.mk (below_step (by exact belL HB.out) hb); clear HO270; clear HB; have HO270 := n0_; have HO273 := n1_; have HB := n2_; clear n0_ n1_ n2_; (try clear hb); (try clear hb2); (try clear hk); (try clear hi); (try clear ho0); obtain ⟨Ao69, co69, eo69⟩ := Kd.R_slice HO270.out; subst eo69) | ((with_reducible refine gate_dst (N := 103) rfl ?_); (try (refine gate_guard (by rfl) ?_; dsimp only)); refine Kd.N_lit (Kd.slice 27 k27) _ 22 ?hg (N' := 103) ?hd (xs := ([y268] : List (List (S27)))) (inner := [.slice Ao69 y268.length co69]) (ok := (fun k_ => some k_ ≠ (v272 : Value).ownBlock)) (okp := (fun k_ => some k_ ≠ (v272 : Value).ownBlock)) ?hr ?hp (fun _ hk => hk) ((show ∀ k_, w68.heap.size ≤ k_ → (fun k_ => some k_ ≠ (v272 : Value).ownBlock) k_ from fun k_ hk => Kd.fresh' (Kd.R_lt (by exact RL HO273.out)) k_ hk) _ (Nat.le_refl _)) (Below.refl _ _) (Nat.le_refl _) (by simp) ?_; (case hd => rfl); (case hg => rfl); (case hr => first | (go_simp; done) | (go_simp; rfl)); (case hp => exact (Reps.one (show Kd.FK (Kd.slice 27 k27) _ _ y268 [.slice Ao69 y268.length co69] from (Kd.FK_slice_mk (Kd.R_reads' (Kd.R_mono (ok' := (fun k_ => some k_ ≠ (v272 : Value).ownBlock)) (HO270.out) (fun k_ hk => hk.2))).2.1 (Kd.R_F (Kd.R_mono (ok' := (fun k_ => some k_ ≠ (v272 : Value).ownBlock)) (HO270.out) (fun k_ hk => hk.2))))) (Reps.none _ _))); intro v275 w70 ho71 hb hg_ hnew_; clear hg_ hnew_; (first | rw [← Ny274.out] at ho71 | (simp only [Int.reduceToNat] at ho71; rw [← Ny274.out] at ho71)); have n0_ := Aside0.mk (Kd.R_below (by exact RL HO270.out) hb); have n1_ := Aside0.mk (Kd.R_below (by exact RL HO273.out) hb); have n2_ := Aside0.mk (Kd.N_lower ho71 (below_size (by exact belL HB.out))); have n3_ := Aside0.mk (below_step (by exact belL HB.out) hb); clear HO270; clear HO273; clear HB; have HO270 := n0_; have HO273 := n1_; have HO276 := n2_; have HB := n3_; clear n0_ n1_ n2_ n3_; clear hb ho71; obtain ⟨Ao72, co72, eo72⟩ := Kd.N_slice HO276.out; subst eo72) | ((with_reducible refine gate_callee (f := 21) rfl ?_); refine goesL_ (some 104) rfl rfl Try.func21 (by kernel_rfl) rfl #[.int .u8 5, .int .i64 0, .int .i64 0, .slice Ao72 y274.length co72] rfl (by (try simp only [List.map_toArray, List.map_cons, List.map_nil]); first | done | rfl | (simp only [List.length_drop, List.length_take]; rfl)) ?_; (with_reducible refine (tailwaterref04_Made.calls 5 0 0 _ _ y274 t277 _ ?side1 ?side2 A30.out).mono ?_); (case side1 => repeat (first | exact (Kd.N_reads' HO276.out).2.2 | (with_reducible refine Kd.C_alloc ?_ _) | (with_reducible refine Kd.C_drewN ?_ _) | (with_reducible refine Kd.C_drew ?_))); (case side2 => exact (Kd.N_reads' HO276.out).2.1); rintro e w73 ⟨v278, rfl, ho0, hb⟩; refine ⟨_, rfl, ?_⟩; have n0_ := Aside0.mk (Kd.R_elder' (by exact RL HO270.out) (Kd.R_base ho0) hb); have n1_ := Aside0.mk (Kd.R_elder' (by exact RL HO273.out) (Kd.R_base ho0) hb); have n2_ := Aside0.mk (Kd.N_elder' (by exact NL HO276.out) (Kd.R_base ho0) hb); have n3_ := Aside0.mk (Kd.R_lower (Kd.R_new' (Kd.R_new' ho0 (Kd.R_lt (by exact RL HO270.out))) (Kd.R_lt (by exact RL HO273.out))) (below_size (by exact belL HB.out))); have n4_ := Aside0.mk (below_step (by exact belL HB.out) hb); clear HO270; clear HO273; clear HO276; clear HB; have HO270 := n0_; have HO273 := n1_; have HO276 := n2_; have HO279 := n3_; have HB := n4_; clear n0_ n1_ n2_ n3_ n4_; (try clear hb); (try clear hb2); (try clear hk); (try clear hi); (try clear ho0); obtain ⟨Ao74, co74, eo74⟩ := Kd.R_slice HO273.out; subst eo74) | ((with_reducible refine gate_dst (N := 106) rfl ?_); (try (refine gate_guard (by rfl) ?_; dsimp only)); refine Kd.N_lit (Kd.slice 27 k27) _ 22 ?hg (N' := 106) ?hd (xs := ([t271] : List (List (S27)))) (inner := [.slice Ao74 t271.length co74]) (ok := (fun k_ => some k_ ≠ (.slice Ao69 y268.length co69 : Value).ownBlock ∧ some k_ ≠ (v278 : Value).ownBlock)) (okp := (fun k_ => some k_ ≠ (.slice Ao69 y268.length co69 : Value).ownBlock ∧ some k_ ≠ (v278 : Value).ownBlock)) ?hr ?hp (fun _ hk => hk) ((show ∀ k_, w73.heap.size ≤ k_ → (fun k_ => some k_ ≠ (.slice Ao69 y268.length co69 : Value).ownBlock ∧ some k_ ≠ (v278 : Value).ownBlock) k_ from fun k_ hk => ⟨Kd.fresh' (Kd.R_lt (by exact RL HO270.out)) k_ hk, Kd.fresh' (Kd.R_lt (by exact RL HO279.out)) k_ hk⟩) _ (Nat.le_refl _)) (Below.refl _ _) (Nat.le_refl _) (by simp) ?_; (case hd => rfl); (case hg => rfl); (case hr => first | (go_simp; done) | (go_simp; rfl)); (case hp => exact (Reps.one (show Kd.FK (Kd.slice 27 k27) _ _ t271 [.slice Ao74 t271.length co74] from (Kd.FK_slice_mk (Kd.R_reads' (Kd.R_mono (ok' := (fun k_ => some k_ ≠ (.slice Ao69 y268.length co69 : Value).ownBlock ∧ some k_ ≠ (v278 : Value).ownBlock)) (HO273.out) (fun k_ hk => ⟨hk.1.2, hk.2⟩))).2.1 (Kd.R_F (Kd.R_mono (ok' := (fun k_ => some k_ ≠ (.slice Ao69 y268.length co69 : Value).ownBlock ∧ some k_ ≠ (v278 : Value).ownBlock)) (HO273.out) (fun k_ hk => ⟨hk.1.2, hk.2⟩))))) (Reps.none _ _))); intro v281 w75 ho76 hb hg_ hnew_; clear hg_ hnew_; (first | rw [← Ny280.out] at ho76 | (simp only [Int.reduceToNat] at ho76; rw [← Ny280.out] at ho76)); have n0_ := Aside0.mk (Kd.R_below (by exact RL HO270.out) hb); have n1_ := Aside0.mk (Kd.R_below (by exact RL HO273.out) hb); have n2_ := Aside0.mk (Kd.R_below (by exact RL HO279.out) hb); have n3_ := Aside0.mk (Kd.N_lower ho76 (below_size (by exact belL HB.out))); have n4_ := Aside0.mk (below_step (by exact belL HB.out) hb); clear HO270; clear HO273; clear HO279; clear HB; have HO270 := n0_; have HO273 := n1_; have HO279 := n2_; have HO282 := n3_; have HB := n4_; clear n0_ n1_ n2_ n3_ n4_; clear hb ho76; obtain ⟨Ao77, co77, eo77⟩ := Kd.N_slice HO282.out; subst eo77) | ((with_reducible refine gate_callee (f := 21) rfl ?_); refine goesL_ (some 107) rfl rfl Try.func21 (by kernel_rfl) rfl #[.int .u8 6, .int .i64 0, .int .i64 0, .slice Ao77 y280.length co77] rfl (by (try simp only [List.map_toArray, List.map_cons, List.map_nil]); first | done | rfl | (simp only [List.length_drop, List.length_take]; rfl)) ?_; (with_reducible refine (tailwaterref04_Made.calls 6 0 0 _ _ y280 t283 _ ?side1 ?side2 A31.out).mono ?_); (case side1 => repeat (first | exact (Kd.N_reads' HO282.out).2.2 | (with_reducible refine Kd.C_alloc ?_ _) | (with_reducible refine Kd.C_drewN ?_ _) | (with_reducible refine Kd.C_drew ?_))); (case side2 => exact (Kd.N_reads' HO282.out).2.1); rintro e w78 ⟨v284, rfl, ho0, hb⟩; refine ⟨_, rfl, ?_⟩; have n0_ := Aside0.mk (Kd.R_elder' (by exact RL HO270.out) (Kd.R_base ho0) hb); have n1_ := Aside0.mk (Kd.R_elder' (by exact RL HO273.out) (Kd.R_base ho0) hb); have n2_ := Aside0.mk (Kd.R_elder' (by exact RL HO279.out) (Kd.R_base ho0) hb); have n3_ := Aside0.mk (Kd.N_elder' (by exact NL HO282.out) (Kd.R_base ho0) hb); have n4_ := Aside0.mk (Kd.R_lower (Kd.R_new' (Kd.R_new' (Kd.R_new' ho0 (Kd.R_lt (by exact RL HO270.out))) (Kd.R_lt (by exact RL HO273.out))) (Kd.R_lt (by exact RL HO279.out))) (below_size (by exact belL HB.out))); have n5_ := Aside0.mk (below_step (by exact belL HB.out) hb); clear HO270; clear HO273; clear HO279; clear HO282; clear HB; have HO270 := n0_; have HO273 := n1_; have HO279 := n2_; have HO282 := n3_; have HO285 := n4_; have HB := n5_; clear n0_ n1_ n2_ n3_ n4_ n5_; (try clear hb); (try clear hb2); (try clear hk); (try clear hi); (try clear ho0)) | ((with_reducible refine gate_dst (N := 110) rfl ?_); (try (refine gate_guard (by rfl) ?_; dsimp only)); refine Kd.N_lit (Kd.slice 27 k27) _ 22 ?hg (N' := 110) ?hd (xs := ([t271] : List (List (S27)))) (inner := [.slice Ao74 t271.length co74]) (ok := (fun k_ => some k_ ≠ (.slice Ao69 y268.length co69 : Value).ownBlock ∧ some k_ ≠ (v278 : Value).ownBlock ∧ some k_ ≠ (v284 : Value).ownBlock)) (okp := (fun k_ => some k_ ≠ (.slice Ao69 y268.length co69 : Value).ownBlock ∧ some k_ ≠ (v278 : Value).ownBlock ∧ some k_ ≠ (v284 : Value).ownBlock)) ?hr ?hp (fun _ hk => hk) ((show ∀ k_, w78.heap.size ≤ k_ → (fun k_ => some k_ ≠ (.slice Ao69 y268.length co69 : Value).ownBlock ∧ some k_ ≠ (v278 : Value).ownBlock ∧ some k_ ≠ (v284 : Value).ownBlock) k_ from fun k_ hk => ⟨Kd.fresh' (Kd.R_lt (by exact RL HO270.out)) k_ hk, Kd.fresh' (Kd.R_lt (by exact RL HO279.out)) k_ hk, Kd.fresh' (Kd.R_lt (by exact RL HO285.out)) k_ hk⟩) _ (Nat.le_refl _)) (Below.refl _ _) (Nat.le_refl _) (by simp) ?_; (case hd => rfl); (case hg => rfl); (case hr => first | (go_simp; done) | (go_simp; rfl)); (case hp => exact (Reps.one (show Kd.FK (Kd.slice 27 k27) _ _ t271 [.slice Ao74 t271.length co74] from (Kd.FK_slice_mk (Kd.R_reads' (Kd.R_mono (ok' := (fun k_ => some k_ ≠ (.slice Ao69 y268.length co69 : Value).ownBlock ∧ some k_ ≠ (v278 : Value).ownBlock ∧ some k_ ≠ (v284 : Value).ownBlock)) (HO273.out) (fun k_ hk => ⟨hk.1.1.2, ⟨hk.1.2, hk.2⟩⟩))).2.1 (Kd.R_F (Kd.R_mono (ok' := (fun k_ => some k_ ≠ (.slice Ao69 y268.length co69 : Value).ownBlock ∧ some k_ ≠ (v278 : Value).ownBlock ∧ some k_ ≠ (v284 : Value).ownBlock)) (HO273.out) (fun k_ hk => ⟨hk.1.1.2, ⟨hk.1.2, hk.2⟩⟩))))) (Reps.none _ _))); intro v287 w79 ho80 hb hg_ hnew_; clear hg_ hnew_; (first | rw [← Ny286.out] at ho80 | (simp only [Int.reduceToNat] at ho80; rw [← Ny286.out] at ho80)); have n0_ := Aside0.mk (Kd.R_below (by exact RL HO270.out) hb); have n1_ := Aside0.mk (Kd.R_below (by exact RL HO273.out) hb); have n2_ := Aside0.mk (Kd.R_below (by exact RL HO279.out) hb); have n3_ := Aside0.mk (Kd.R_below (by exact RL HO285.out) hb); have n4_ := Aside0.mk (Kd.N_lower ho80 (below_size (by exact belL HB.out))); have n5_ := Aside0.mk (below_step (by exact belL HB.out) hb); clear HO270; clear HO273; clear HO279; clear HO285; clear HB; have HO270 := n0_; have HO273 := n1_; have HO279 := n2_; have HO285 := n3_; have HO288 := n4_; have HB := n5_; clear n0_ n1_ n2_ n3_ n4_ n5_; clear hb ho80; obtain ⟨Ao81, co81, eo81⟩ := Kd.N_slice HO288.out; subst eo81) | ((with_reducible refine gate_callee (f := 21) rfl ?_); refine goesL_ (some 111) rfl rfl Try.func21 (by kernel_rfl) rfl #[.int .u8 5, .int .i64 0, .int .i64 0, .slice Ao81 y286.length co81] rfl (by (try simp only [List.map_toArray, List.map_cons, List.map_nil]); first | done | rfl | (simp only [List.length_drop, List.length_take]; rfl)) ?_; (with_reducible refine (tailwaterref04_Made.calls 5 0 0 _ _ y286 t289 _ ?side1 ?side2 A32.out).mono ?_); (case side1 => repeat (first | exact (Kd.N_reads' HO288.out).2.2 | (with_reducible refine Kd.C_alloc ?_ _) | (with_reducible refine Kd.C_drewN ?_ _) | (with_reducible refine Kd.C_drew ?_))); (case side2 => exact (Kd.N_reads' HO288.out).2.1); rintro e w82 ⟨v290, rfl, ho0, hb⟩; refine ⟨_, rfl, ?_⟩; have n0_ := Aside0.mk (Kd.R_elder' (by exact RL HO270.out) (Kd.R_base ho0) hb); have n1_ := Aside0.mk (Kd.R_elder' (by exact RL HO273.out) (Kd.R_base ho0) hb); have n2_ := Aside0.mk (Kd.R_elder' (by exact RL HO279.out) (Kd.R_base ho0) hb); have n3_ := Aside0.mk (Kd.R_elder' (by exact RL HO285.out) (Kd.R_base ho0) hb); have n4_ := Aside0.mk (Kd.N_elder' (by exact NL HO288.out) (Kd.R_base ho0) hb); have n5_ := Aside0.mk (Kd.R_lower (Kd.R_new' (Kd.R_new' (Kd.R_new' (Kd.R_new' ho0 (Kd.R_lt (by exact RL HO270.out))) (Kd.R_lt (by exact RL HO273.out))) (Kd.R_lt (by exact RL HO279.out))) (Kd.R_lt (by exact RL HO285.out))) (below_size (by exact belL HB.out))); have n6_ := Aside0.mk (below_step (by exact belL HB.out) hb); clear HO270; clear HO273; clear HO279; clear HO285; clear HO288; clear HB; have HO270 := n0_; have HO273 := n1_; have HO279 := n2_; have HO285 := n3_; have HO288 := n4_; have HO291 := n5_; have HB := n6_; clear n0_ n1_ n2_ n3_ n4_ n5_ n6_; (try clear hb); (try clear hb2); (try clear hk); (try clear hi); (try clear ho0); obtain ⟨Ao83, co83, eo83⟩ := Kd.R_slice HO291.out; subst eo83) | ((with_reducible refine gate_callee (f := 18) rfl ?_); refine goesL_ (some 112) rfl rfl Try.func18 (by kernel_rfl) rfl #[.slice Ao83 t289.length co83] rfl (by (try simp only [List.map_toArray, List.map_cons, List.map_nil]); first | done | rfl | (simp only [List.length_drop, List.length_take]; rfl)) ?_; (with_reducible refine (kinds_Of.calls _ _ t289 t292 t293 t294 _ ?side1 ?side2 A33.out).mono ?_); (case side1 => repeat (first | exact (Kd.R_reads' HO291.out).2.2 | (with_reducible refine Kd.C_alloc ?_ _) | (with_reducible refine Kd.C_drewN ?_ _) | (with_reducible refine Kd.C_drew ?_))); (case side2 => exact (Kd.R_reads' HO291.out).2.1); rintro e w84 ⟨rfl, hb⟩; refine ⟨_, rfl, ?_⟩; have n0_ := Aside0.mk (Kd.R_below (by exact RL HO270.out) hb); have n1_ := Aside0.mk (Kd.R_below (by exact RL HO273.out) hb); have n2_ := Aside0.mk (Kd.R_below (by exact RL HO279.out) hb); have n3_ := Aside0.mk (Kd.R_below (by exact RL HO285.out) hb); have n4_ := Aside0.mk (Kd.R_below (by exact RL HO291.out) hb); have n5_ := Aside0.mk (below_step (by exact belL HB.out) hb); clear HO270; clear HO273; clear HO279; clear HO285; clear HO291; clear HB; have HO270 := n0_; have HO273 := n1_; have HO279 := n2_; have HO285 := n3_; have HO291 := n4_; have HB := n5_; clear n0_ n1_ n2_ n3_ n4_ n5_; (try clear hb); (try clear hb2); (try clear hk); (try clear hi)) | ((with_reducible refine gate_callee (f := 22) rfl ?_); refine goesL_ (some 118) rfl rfl Try.func22 (by kernel_rfl) rfl #[.slice Ao74 t271.length co74] rfl (by (try simp only [List.map_toArray, List.map_cons, List.map_nil]); first | done | rfl | (simp only [List.length_drop, List.length_take]; rfl)) ?_; (with_reducible refine (kinds_Number.calls _ _ t271 t295 t296 _ ?side1 ?side2 A34.out).mono ?_); (case side1 => repeat (first | exact (Kd.R_reads' HO273.out).2.2 | (with_reducible refine Kd.C_alloc ?_ _) | (with_reducible refine Kd.C_drewN ?_ _) | (with_reducible refine Kd.C_drew ?_))); (case side2 => exact (Kd.R_reads' HO273.out).2.1); rintro e w85 ⟨rfl, hb⟩; refine ⟨_, rfl, ?_⟩; have n0_ := Aside0.mk (Kd.R_below (by exact RL HO270.out) hb); have n1_ := Aside0.mk (Kd.R_below (by exact RL HO273.out) hb); have n2_ := Aside0.mk (Kd.R_below (by exact RL HO279.out) hb); have n3_ := Aside0.mk (Kd.R_below (by exact RL HO285.out) hb); have n4_ := Aside0.mk (below_step (by exact belL HB.out) hb); clear HO270; clear HO273; clear HO279; clear HO285; clear HB; have HO270 := n0_; have HO273 := n1_; have HO279 := n2_; have HO285 := n3_; have HB := n4_; clear n0_ n1_ n2_ n3_ n4_; (try clear hb); (try clear hb2); (try clear hk); (try clear hi)) | ((with_reducible refine gate_callee (f := 23) rfl ?_); refine goesL_ (some 123) rfl rfl Try.func23 (by kernel_rfl) rfl #[.slice Ao69 y268.length co69] rfl (by (try simp only [List.map_toArray, List.map_cons, List.map_nil]); first | done | rfl | (simp only [List.length_drop, List.length_take]; rfl)) ?_; (with_reducible refine (kinds_Truth.calls _ _ y268 t297 t298 _ ?side1 ?side2 A35.out).mono ?_); (case side1 => repeat (first | exact (Kd.R_reads' HO270.out).2.2 | (with_reducible refine Kd.C_alloc ?_ _) | (with_reducible refine Kd.C_drewN ?_ _) | (with_reducible refine Kd.C_drew ?_))); (case side2 => exact (Kd.R_reads' HO270.out).2.1); rintro e w86 ⟨rfl, hb⟩; refine ⟨_, rfl, ?_⟩; have n0_ := Aside0.mk (Kd.R_below (by exact RL HO270.out) hb); have n1_ := Aside0.mk (Kd.R_below (by exact RL HO279.out) hb); have n2_ := Aside0.mk (Kd.R_below (by exact RL HO285.out) hb); have n3_ := Aside0.mk (below_step (by exact belL HB.out) hb); clear HO270; clear HO279; clear HO285; clear HB; have HO270 := n0_; have HO279 := n1_; have HO285 := n2_; have HB := n3_; clear n0_ n1_ n2_ n3_; (try clear hb); (try clear hb2); (try clear hk); (try clear hi)) | ((with_reducible refine gate_callee (f := 22) rfl ?_); refine goesL_ (some 128) rfl rfl Try.func22 (by kernel_rfl) rfl #[.slice Ao69 y268.length co69] rfl (by (try simp only [List.map_toArray, List.map_cons, List.map_nil]); first | done | rfl | (simp only [List.length_drop, List.length_take]; rfl)) ?_; (with_reducible refine (kinds_Number.calls _ _ y268 t299 t300 _ ?side1 ?side2 A36.out).mono ?_); (case side1 => repeat (first | exact (Kd.R_reads' HO270.out).2.2 | (with_reducible refine Kd.C_alloc ?_ _) | (with_reducible refine Kd.C_drewN ?_ _) | (with_reducible refine Kd.C_drew ?_))); (case side2 => exact (Kd.R_reads' HO270.out).2.1); rintro e w87 ⟨rfl, hb⟩; refine ⟨_, rfl, ?_⟩; have n0_ := Aside0.mk (Kd.R_below (by exact RL HO270.out) hb); have n1_ := Aside0.mk (Kd.R_below (by exact RL HO279.out) hb); have n2_ := Aside0.mk (Kd.R_below (by exact RL HO285.out) hb); have n3_ := Aside0.mk (below_step (by exact belL HB.out) hb); clear HO270; clear HO279; clear HO285; clear HB; have HO270 := n0_; have HO279 := n1_; have HO285 := n2_; have HB := n3_; clear n0_ n1_ n2_ n3_; (try clear hb); (try clear hb2); (try clear hk); (try clear hi); obtain ⟨Ao88, co88, eo88⟩ := Kd.R_slice HO285.out; subst eo88) | ((with_reducible refine gate_callee (f := 23) rfl ?_); refine goesL_ (some 133) rfl rfl Try.func23 (by kernel_rfl) rfl #[.slice Ao88 t283.length co88] rfl (by (try simp only [List.map_toArray, List.map_cons, List.map_nil]); first | done | rfl | (simp only [List.length_drop, List.length_take]; rfl)) ?_; (with_reducible refine (kinds_Truth.calls _ _ t283 t301 t302 _ ?side1 ?side2 A37.out).mono ?_); (case side1 => repeat (first | exact (Kd.R_reads' HO285.out).2.2 | (with_reducible refine Kd.C_alloc ?_ _) | (with_reducible refine Kd.C_drewN ?_ _) | (with_reducible refine Kd.C_drew ?_))); (case side2 => exact (Kd.R_reads' HO285.out).2.1); rintro e w89 ⟨rfl, hb⟩; refine ⟨_, rfl, ?_⟩; have n0_ := Aside0.mk (Kd.R_below (by exact RL HO270.out) hb); have n1_ := Aside0.mk (Kd.R_below (by exact RL HO279.out) hb); have n2_ := Aside0.mk (Kd.R_below (by exact RL HO285.out) hb); have n3_ := Aside0.mk (below_step (by exact belL HB.out) hb); clear HO270; clear HO279; clear HO285; clear HB; have HO270 := n0_; have HO279 := n1_; have HO285 := n2_; have HB := n3_; clear n0_ n1_ n2_ n3_; (try clear hb); (try clear hb2); (try clear hk); (try clear hi)) | ((with_reducible refine gate_callee (f := 18) rfl ?_); refine goesL_ (some 137) rfl rfl Try.func18 (by kernel_rfl) rfl #[.slice none 0 0] rfl (by (try simp only [List.map_toArray, List.map_cons, List.map_nil]); first | done | rfl | (simp only [List.length_drop, List.length_take]; rfl)) ?_; (refine (kinds_Of.calls _ _ ([] : List (S27)) t303 t304 t305 _ ?side1 ?side2 A38.out).mono ?_); (case side1 => exact Kd.C_nil _ _); (case side2 => exact Nat.le_refl _); rintro e w90 ⟨rfl, hb⟩; refine ⟨_, rfl, ?_⟩; have n0_ := Aside0.mk (Kd.R_below (by exact RL HO270.out) hb); have n1_ := Aside0.mk (Kd.R_below (by exact RL HO279.out) hb); have n2_ := Aside0.mk (Kd.R_below (by exact RL HO285.out) hb); have n3_ := Aside0.mk (below_step (by exact belL HB.out) hb); clear HO270; clear HO279; clear HO285; clear HB; have HO270 := n0_; have HO279 := n1_; have HO285 := n2_; have HB := n3_; clear n0_ n1_ n2_ n3_; (try clear hb); (try clear hb2); (try clear hk); (try clear hi)) | ((with_reducible refine gate_dst (N := 143) rfl ?_); (try (refine gate_guard (by rfl) ?_; dsimp only)); refine Kd.R_lit k27 _ 27 ?hg (N := 143) ?hd (xs := ([(⟨0, 0, 0, 0, 0⟩ : S27)] : List (S27))) (inner := [.int .u8 0, .int .i64 0, .int .i64 0, .int .i64 0, .int .i64 0]) (ok := fun _ => True) (okp := fun _ => True) ?hr ?hp (fun _ hk => hk) trivial (Below.refl _ _) (Nat.le_refl _) (by simp) ?_; (case hd => rfl); (case hg => rfl); (case hr => first | (go_simp; done) | (go_simp; rfl)); (case hp => exact (Reps.c5 (show Kd.M k27 _ _ _ (⟨0, 0, 0, 0, 0⟩ : S27) [.int .u8 0, .int .i64 0, .int .i64 0, .int .i64 0, .int .i64 0] from (k27_mkM _ _ _ (⟨0, 0, 0, 0, 0⟩ : S27) )) (Reps.none _ _))); intro v307 w91 ho92 hb hg_ hnew_; clear hg_ hnew_; (first | rw [← Ny306.out] at ho92 | (simp only [Int.reduceToNat] at ho92; rw [← Ny306.out] at ho92)); have n0_ := Aside0.mk (Kd.R_elder' (by exact RL HO270.out) (Kd.R_base ho92) hb); have n1_ := Aside0.mk (Kd.R_elder' (by exact RL HO279.out) (Kd.R_base ho92) hb); have n2_ := Aside0.mk (Kd.R_elder' (by exact RL HO285.out) (Kd.R_base ho92) hb); have n3_ := Aside0.mk (Kd.R_lower (Kd.R_new' (Kd.R_new' (Kd.R_new' ho92 (Kd.R_lt (by exact RL HO270.out))) (Kd.R_lt (by exact RL HO279.out))) (Kd.R_lt (by exact RL HO285.out))) (below_size (by exact belL HB.out))); have n4_ := Aside0.mk (below_step (by exact belL HB.out) hb); clear HO270; clear HO279; clear HO285; clear HB; have HO270 := n0_; have HO279 := n1_; have HO285 := n2_; have HO308 := n3_; have HB := n4_; clear n0_ n1_ n2_ n3_ n4_; clear hb ho92; obtain ⟨Ao93, co93, eo93⟩ := Kd.R_slice HO308.out; subst eo93) | ((with_reducible refine gate_callee (f := 24) rfl ?_); refine goesL_ (some 144) rfl rfl Try.func24 (by kernel_rfl) rfl #[.slice Ao93 y306.length co93] rfl (by (try simp only [List.map_toArray, List.map_cons, List.map_nil]); first | done | rfl | (simp only [List.length_drop, List.length_take]; rfl)) ?_; (with_reducible refine (kinds_All.calls _ _ y306 t309 t310 _ ?side1 ?side2 A39.out).mono ?_); (case side1 => repeat (first | exact (Kd.R_reads' HO308.out).2.2 | (with_reducible refine Kd.C_alloc ?_ _) | (with_reducible refine Kd.C_drewN ?_ _) | (with_reducible refine Kd.C_drew ?_))); (case side2 => exact (Kd.R_reads' HO308.out).2.1); rintro e w94 ⟨v311, rfl, ho0, hb⟩; refine ⟨_, rfl, ?_⟩; have n0_ := Aside0.mk (Kd.R_below (by exact RL HO270.out) hb); have n1_ := Aside0.mk (Kd.R_below (by exact RL HO279.out) hb); have n2_ := Aside0.mk (Kd.R_below (by exact RL HO285.out) hb); have n3_ := Aside0.mk (Kd.R_below (by exact RL HO308.out) hb); have n4_ := Aside0.mk (Kd.R_lower ho0 (below_size (by exact belL HB.out))); have n5_ := Aside0.mk (below_step (by exact belL HB.out) hb); clear HO270; clear HO279; clear HO285; clear HO308; clear HB; have HO270 := n0_; have HO279 := n1_; have HO285 := n2_; have HO308 := n3_; have HO312 := n4_; have HB := n5_; clear n0_ n1_ n2_ n3_ n4_ n5_; (try clear hb); (try clear hb2); (try clear hk); (try clear hi); (try clear ho0)) | ((with_reducible refine gate_dst (N := 148) rfl ?_); (try (refine gate_guard (by rfl) ?_; dsimp only)); refine Kd.R_make k27 _ 27 rfl (N := 148) rfl 22 _ _ rfl 61 rfl rfl Try.underlying22 (.agg #[(.int .u8 0), (.int .i64 0), (.int .i64 0), (.int .i64 0), (.int .i64 0)]) 40 info27 rfl (by decide) (by omega) z27 (ok := fun _ => True) (okp := fun _ => True) (k27_mkM _ _ _ z27 ) (fun _ hk => hk) trivial (by omega) (by omega) (Below.refl _ _) (Nat.le_refl _) ?_; intro v314 w95 ho96 hb hg_ hnew_; clear hg_ hnew_; (first | rw [← Ny313.out] at ho96 | (simp only [Int.reduceToNat] at ho96; rw [← Ny313.out] at ho96)); have n0_ := Aside0.mk (Kd.R_elder' (by exact RL HO270.out) (Kd.R_base ho96) hb); have n1_ := Aside0.mk (Kd.R_elder' (by exact RL HO279.out) (Kd.R_base ho96) hb); have n2_ := Aside0.mk (Kd.R_elder' (by exact RL HO285.out) (Kd.R_base ho96) hb); have n3_ := Aside0.mk (Kd.R_lower (Kd.R_new' (Kd.R_new' (Kd.R_new' ho96 (Kd.R_lt (by exact RL HO270.out))) (Kd.R_lt (by exact RL HO279.out))) (Kd.R_lt (by exact RL HO285.out))) (below_size (by exact belL HB.out))); have n4_ := Aside0.mk (below_step (by exact belL HB.out) hb); clear HO270; clear HO279; clear HO285; clear HB; have HO270 := n0_; have HO279 := n1_; have HO285 := n2_; have HO315 := n3_; have HB := n4_; clear n0_ n1_ n2_ n3_ n4_; clear hb ho96; obtain ⟨Ao97, co97, eo97⟩ := Kd.R_slice HO315.out; subst eo97) | ((with_reducible refine gate_callee (f := 22) rfl ?_); refine goesL_ (some 149) rfl rfl Try.func22 (by kernel_rfl) rfl #[.slice Ao97 y313.length co97] rfl (by (try simp only [List.map_toArray, List.map_cons, List.map_nil]); first | done | rfl | (simp only [List.length_drop, List.length_take]; rfl)) ?_; (with_reducible refine (kinds_Number.calls _ _ y313 t316 t317 _ ?side1 ?side2 A41.out).mono ?_); (case side1 => repeat (first | exact (Kd.R_reads' HO315.out).2.2 | (with_reducible refine Kd.C_alloc ?_ _) | (with_reducible refine Kd.C_drewN ?_ _) | (with_reducible refine Kd.C_drew ?_))); (case side2 => exact (Kd.R_reads' HO315.out).2.1); rintro e w98 ⟨rfl, hb⟩; refine ⟨_, rfl, ?_⟩; have n0_ := Aside0.mk (Kd.R_below (by exact RL HO270.out) hb); have n1_ := Aside0.mk (Kd.R_below (by exact RL HO279.out) hb); have n2_ := Aside0.mk (Kd.R_below (by exact RL HO285.out) hb); have n3_ := Aside0.mk (Kd.R_below (by exact RL HO315.out) hb); have n4_ := Aside0.mk (below_step (by exact belL HB.out) hb); clear HO270; clear HO279; clear HO285; clear HO315; clear HB; have HO270 := n0_; have HO279 := n1_; have HO285 := n2_; have HO315 := n3_; have HB := n4_; clear n0_ n1_ n2_ n3_ n4_; (try clear hb); (try clear hb2); (try clear hk); (try clear hi)) | ((with_reducible refine gate_callee (f := 19) rfl ?_); refine goesL_ (some 153) rfl rfl Try.func19 (by kernel_rfl) rfl #[.int .u8 18, .bool true, .bool false] rfl (by (try simp only [List.map_toArray, List.map_cons, List.map_nil]); first | done | rfl | (simp only [List.length_drop, List.length_take]; rfl)) ?_; (with_reducible refine (tailwaterlaw06_binary.calls 18 true false t318 _ A42.out).mono ?_); rintro e w99 ⟨v319, rfl, ho0, hb⟩; refine ⟨_, rfl, ?_⟩; have n0_ := Aside0.mk (Kd.R_elder' (by exact RL HO270.out) (Kd.R_base ho0) hb); have n1_ := Aside0.mk (Kd.R_elder' (by exact RL HO279.out) (Kd.R_base ho0) hb); have n2_ := Aside0.mk (Kd.R_elder' (by exact RL HO285.out) (Kd.R_base ho0) hb); have n3_ := Aside0.mk (Kd.R_lower (Kd.R_new' (Kd.R_new' (Kd.R_new' ho0 (Kd.R_lt (by exact RL HO270.out))) (Kd.R_lt (by exact RL HO279.out))) (Kd.R_lt (by exact RL HO285.out))) (below_size (by exact belL HB.out))); have n4_ := Aside0.mk (below_step (by exact belL HB.out) hb); clear HO270; clear HO279; clear HO285; clear HB; have HO270 := n0_; have HO279 := n1_; have HO285 := n2_; have HO320 := n3_; have HB := n4_; clear n0_ n1_ n2_ n3_ n4_; (try clear hb); (try clear hb2); (try clear hk); (try clear hi); (try clear ho0); obtain ⟨Ao100, co100, eo100⟩ := Kd.R_slice HO320.out; subst eo100) | ((with_reducible refine gate_callee (f := 23) rfl ?_); refine goesL_ (some 154) rfl rfl Try.func23 (by kernel_rfl) rfl #[.slice Ao100 t318.length co100] rfl (by (try simp only [List.map_toArray, List.map_cons, List.map_nil]); first | done | rfl | (simp only [List.length_drop, List.length_take]; rfl)) ?_; (with_reducible refine (kinds_Truth.calls _ _ t318 t321 t322 _ ?side1 ?side2 A43.out).mono ?_); (case side1 => repeat (first | exact (Kd.R_reads' HO320.out).2.2 | (with_reducible refine Kd.C_alloc ?_ _) | (with_reducible refine Kd.C_drewN ?_ _) | (with_reducible refine Kd.C_drew ?_))); (case side2 => exact (Kd.R_reads' HO320.out).2.1); rintro e w101 ⟨rfl, hb⟩; refine ⟨_, rfl, ?_⟩; have n0_ := Aside0.mk (Kd.R_below (by exact RL HO270.out) hb); have n1_ := Aside0.mk (Kd.R_below (by exact RL HO279.out) hb); have n2_ := Aside0.mk (Kd.R_below (by exact RL HO285.out) hb); have n3_ := Aside0.mk (Kd.R_below (by exact RL HO320.out) hb); have n4_ := Aside0.mk (below_step (by exact belL HB.out) hb); clear HO270; clear HO279; clear HO285; clear HO320; clear HB; have HO270 := n0_; have HO279 := n1_; have HO285 := n2_; have HO320 := n3_; have HB := n4_; clear n0_ n1_ n2_ n3_ n4_; (try clear hb); (try clear hb2); (try clear hk); (try clear hi); obtain ⟨Ao102, co102, eo102⟩ := Kd.R_slice HO279.out; subst eo102) | (go_at_call 20; (with_reducible refine (tailwaterlaw06_typed.calls _ _ t277 false true _ ?side1 ?side2 A44.out).mono ?_); (case side1 => repeat (first | exact (Kd.R_reads' HO279.out).2.2 | (with_reducible refine Kd.C_alloc ?_ _) | (with_reducible refine Kd.C_drewN ?_ _) | (with_reducible refine Kd.C_drew ?_))); (case side2 => exact (Kd.R_reads' HO279.out).2.1); rintro e w103 ⟨rfl, hb⟩; have n0_ := Aside0.mk (Kd.R_below (by exact RL HO270.out) hb); have n1_ := Aside0.mk (Kd.R_below (by exact RL HO279.out) hb); have n2_ := Aside0.mk (Kd.R_below (by exact RL HO285.out) hb); have n3_ := Aside0.mk (below_step (by exact belL HB.out) hb); clear HO270; clear HO279; clear HO285; clear HB; have HO270 := n0_; have HO279 := n1_; have HO285 := n2_; have HB := n3_; clear n0_ n1_ n2_ n3_; (try clear hb); (try clear hb2); (try clear hk); (try clear hi)) | (go_at_call 20; (with_reducible refine (tailwaterlaw06_typed.calls _ _ t283 true true _ ?side1 ?side2 A46.out).mono ?_); (case side1 => repeat (first | exact (Kd.R_reads' HO285.out).2.2 | (with_reducible refine Kd.C_alloc ?_ _) | (with_reducible refine Kd.C_drewN ?_ _) | (with_reducible refine Kd.C_drew ?_))); (case side2 => exact (Kd.R_reads' HO285.out).2.1); rintro e w104 ⟨rfl, hb⟩; have n0_ := Aside0.mk (Kd.R_below (by exact RL HO270.out) hb); have n1_ := Aside0.mk (Kd.R_below (by exact RL HO285.out) hb); have n2_ := Aside0.mk (below_step (by exact belL HB.out) hb); clear HO270; clear HO285; clear HB; have HO270 := n0_; have HO285 := n1_; have HB := n2_; clear n0_ n1_ n2_; (try clear hb); (try clear hb2); (try clear hk); (try clear hi)) | (go_at_call 20; (with_reducible refine (tailwaterlaw06_typed.calls _ _ y268 false true _ ?side1 ?side2 A48.out).mono ?_); (case side1 => repeat (first | exact (Kd.R_reads' HO270.out).2.2 | (with_reducible refine Kd.C_alloc ?_ _) | (with_reducible refine Kd.C_drewN ?_ _) | (with_reducible refine Kd.C_drew ?_))); (case side2 => exact (Kd.R_reads' HO270.out).2.1); rintro e w105 ⟨rfl, hb⟩; have n0_ := Aside0.mk (Kd.R_below (by exact RL HO270.out) hb); have n1_ := Aside0.mk (below_step (by exact belL HB.out) hb); clear HO270; clear HB; have HO270 := n0_; have HB := n1_; clear n0_ n1_; (try clear hb); (try clear hb2); (try clear hk); (try clear hi)) | (go_at_call 17; (with_reducible refine (tailwaterlaw06_alive.calls  t326 _ A65.out).mono ?_); rintro e w106 ⟨rfl, hb⟩; have n0_ := Aside0.mk (below_step (by exact belL HB.out) hb); clear HB; have HB := n0_; clear n0_; (try clear hb); (try clear hb2); (try clear hk); (try clear hi)))
                                              go_ret
                                              exact ⟨by first | rfl | (simp [errW_none, errW_some] <;> rfl) | (simp [*, errW_none, errW_some] <;> rfl), by repeat (first | (with_reducible first | exact HB.out | apply below_alloc | apply pw_below_drewN | apply below_drew1) | exact HB.out)⟩
                                            · rw [if_neg c64] at H
                                              have c64b0 : (t321 == 4) = false := beq_eq_false_iff_ne.mpr c64
                                              have c64b1 : (t321 != 4) = true := bne_iff_ne.mpr c64
                                              exact absurd ((Option.some.inj H).trans hrt) (by decide)
                                          · rw [if_neg c63] at H
                                            have c63b0 : (t322 == 42) = false := beq_eq_false_iff_ne.mpr c63
                                            have c63b1 : (t322 != 42) = true := bne_iff_ne.mpr c63
                                            exact absurd ((Option.some.inj H).trans hrt) (by decide)
                                        · rw [if_neg c62] at H
                                          have c62b0 : (t317 == 4) = false := beq_eq_false_iff_ne.mpr c62
                                          have c62b1 : (t317 != 4) = true := bne_iff_ne.mpr c62
                                          exact absurd ((Option.some.inj H).trans hrt) (by decide)
                                      · rw [if_neg c61] at H
                                        have c61b0 : (t310 == 8) = false := beq_eq_false_iff_ne.mpr c61
                                        have c61b1 : (t310 != 8) = true := bne_iff_ne.mpr c61
                                        exact absurd ((Option.some.inj H).trans hrt) (by decide)
                                    · rw [if_neg c60] at H
                                      have c60b0 : (t305 == 8) = false := beq_eq_false_iff_ne.mpr c60
                                      have c60b1 : (t305 != 8) = true := bne_iff_ne.mpr c60
                                      exact absurd ((Option.some.inj H).trans hrt) (by decide)
                                  · rw [if_neg c59] at H
                                    have c59b0 : (t301 == 3) = false := beq_eq_false_iff_ne.mpr c59
                                    have c59b1 : (t301 != 3) = true := bne_iff_ne.mpr c59
                                    exact absurd ((Option.some.inj H).trans hrt) (by decide)
                                · rw [if_neg c58] at H
                                  have c58b0 : (t302 == 0) = false := beq_eq_false_iff_ne.mpr c58
                                  have c58b1 : (t302 != 0) = true := bne_iff_ne.mpr c58
                                  exact absurd ((Option.some.inj H).trans hrt) (by decide)
                              · rw [if_neg c57] at H
                                have c57b0 : (t299 == 0) = false := beq_eq_false_iff_ne.mpr c57
                                have c57b1 : (t299 != 0) = true := bne_iff_ne.mpr c57
                                exact absurd ((Option.some.inj H).trans hrt) (by decide)
                            · rw [if_neg c56] at H
                              have c56b0 : (t300 == 0) = false := beq_eq_false_iff_ne.mpr c56
                              have c56b1 : (t300 != 0) = true := bne_iff_ne.mpr c56
                              exact absurd ((Option.some.inj H).trans hrt) (by decide)
                          · rw [if_neg c55] at H
                            have c55b0 : (t297 == 0) = false := beq_eq_false_iff_ne.mpr c55
                            have c55b1 : (t297 != 0) = true := bne_iff_ne.mpr c55
                            exact absurd ((Option.some.inj H).trans hrt) (by decide)
                        · rw [if_neg c54] at H
                          have c54b0 : (t298 == 42) = false := beq_eq_false_iff_ne.mpr c54
                          have c54b1 : (t298 != 42) = true := bne_iff_ne.mpr c54
                          exact absurd ((Option.some.inj H).trans hrt) (by decide)
                      · rw [if_neg c53] at H
                        have c53b0 : (t295 == 2) = false := beq_eq_false_iff_ne.mpr c53
                        have c53b1 : (t295 != 2) = true := bne_iff_ne.mpr c53
                        exact absurd ((Option.some.inj H).trans hrt) (by decide)
                    · rw [if_neg c52] at H
                      have c52b0 : (t296 == 42) = false := beq_eq_false_iff_ne.mpr c52
                      have c52b1 : (t296 != 42) = true := bne_iff_ne.mpr c52
                      exact absurd ((Option.some.inj H).trans hrt) (by decide)
                  · rw [if_neg c51] at H
                    have c51b0 : (t293 == 3) = false := beq_eq_false_iff_ne.mpr c51
                    have c51b1 : (t293 != 3) = true := bne_iff_ne.mpr c51
                    exact absurd ((Option.some.inj H).trans hrt) (by decide)
                · rw [if_neg c50] at H
                  have c50b0 : (t294 == 42) = false := beq_eq_false_iff_ne.mpr c50
                  have c50b1 : (t294 != 42) = true := bne_iff_ne.mpr c50
                  exact absurd ((Option.some.inj H).trans hrt) (by decide)
              · replace c49 := Bool.eq_false_iff.mpr c49
                subst c49
                have H1 : (some false) = some r := by rw [if_neg (show ¬ (false = true) by decide)] at H; exact H
                clear H
                have H := H1
                clear H1
                exact absurd ((Option.some.inj H).trans hrt) (by decide)
            · replace c47 := Bool.eq_false_iff.mpr c47
              subst c47
              have H1 : (some false) = some r := by rw [if_neg (show ¬ (false = true) by decide)] at H; exact H
              clear H
              have H := H1
              clear H1
              exact absurd ((Option.some.inj H).trans hrt) (by decide)
          · replace c45 := Bool.eq_false_iff.mpr c45
            subst c45
            have H1 : (some false) = some r := by rw [if_neg (show ¬ (false = true) by decide)] at H; exact H
            clear H
            have H := H1
            clear H1
            exact absurd ((Option.some.inj H).trans hrt) (by decide)
        · rw [if_neg c40] at H
          exact absurd H (by simp)

end Go.Proofs.Ytijdckamblaflaa.M
