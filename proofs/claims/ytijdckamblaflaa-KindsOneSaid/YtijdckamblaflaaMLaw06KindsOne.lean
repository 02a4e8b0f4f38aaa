-- PRINTED by print.py (a twelfth state) out of the translation. Not trusted: Lean checks it.
import Derived.Test.YtijdckamblaflaaMTypes
import Derived.Test.YtijdckamblaflaaMKindsAll
import Derived.Test.YtijdckamblaflaaMKindsOf
import Derived.Test.YtijdckamblaflaaMKindsWant
import Derived.Test.YtijdckamblaflaaMLaw06Alive
import Derived.Test.YtijdckamblaflaaMNodesPart
import Derived.Test.YtijdckamblaflaaMRef04Check
import Derived.Test.YtijdckamblaflaaMRef04Great
namespace Go.Proofs.Ytijdckamblaflaa.M
open Go.RowKit Go.Proofs.YtijdckamblaflaaW.PrintWords Go.Proofs.YtijdckamblaflaaW.PrintLast Go.Proofs.YtijdckamblaflaaW.PrintMore
attribute [local go_sem] max2_int min2_int max_two min_two max_three min_three max_four min_four   -- for this text's walks alone
set_option linter.unusedVariables false
set_option linter.unusedSimpArgs false

/-! ### tailwaterlaw06_KindsOne: function 8 -/
mutual
def tailwaterlaw06_KindsOne.j0 : Nat → List (S27) → Int → Bool → Option (Bool)
  | 0, _, _, _ => none
  | k + 1, x0, x1, x35 => if x35 = true then ((tailwaterlaw06_alive.f).bind fun t434 => (some t434)) else ((kinds_Of.f x0).bind fun bt435 => ((kinds_Number.f x0).bind fun bt438 => ((kinds_Truth.f x0).bind fun bt440 => ((kinds_All.f x0).bind fun bt442 => (if bt435.2.2 = bt442.2 then (if bt438.1 = bt435.2.1 then (tailwaterlaw06_KindsOne.j1 k x0 x1 bt435.1 bt435.2.1 bt435.2.2 bt438.2 bt440.2 bt442.1 (bt440.1 != bt435.2.1)) else (tailwaterlaw06_KindsOne.j1 k x0 x1 bt435.1 bt435.2.1 bt435.2.2 bt438.2 bt440.2 bt442.1 true)) else (tailwaterlaw06_KindsOne.j1 k x0 x1 bt435.1 bt435.2.1 bt435.2.2 bt438.2 bt440.2 bt442.1 true))))))
def tailwaterlaw06_KindsOne.j1 : Nat → List (S27) → Int → Bool → Int → Int → Int → Int → List Bool → Bool → Option (Bool)
  | 0, _, _, _, _, _, _, _, _, _ => none
  | k + 1, x0, x1, x5, x6, x7, x9, x11, x12, x70 => if x70 = true then (some false) else (if x7 = 0 then (if ((x9 == 0) == (x11 == 0)) = true then (tailwaterlaw06_KindsOne.j2 k x0 x1 x12 true) else (if ((x11 == 0) != x5) = true then (tailwaterlaw06_KindsOne.j2 k x0 x1 x12 true) else (if (x12.length : Int) = (x0.length : Int) then (if 0 ≤ (wrap64 ((x0.length : Int) - 1)) then (if (wrap64 ((x0.length : Int) - 1)) < (x12.length : Int) then (if ((rdOf false x12 (wrap64 ((x0.length : Int) - 1))) != x5) = true then (tailwaterlaw06_KindsOne.j2 k x0 x1 x12 true) else (tailwaterlaw06_KindsOne.j2 k x0 x1 x12 (x6 != (wrap64 ((x0.length : Int) - 1))))) else (none)) else (none)) else (tailwaterlaw06_KindsOne.j2 k x0 x1 x12 true)))) else (if x7 = 42 then (if x9 = x7 then (if x11 = x7 then (if x6 ≥ 0 then (if x6 < (x0.length : Int) then (if (x12.length : Int) = 0 then ((tailwaterlaw06_alive.f).bind fun t446 => (some t446)) else (some false)) else (some false)) else (some false)) else (some false)) else (some false)) else (some false)))
def tailwaterlaw06_KindsOne.j2 : Nat → List (S27) → Int → List Bool → Bool → Option (Bool)
  | 0, _, _, _, _ => none
  | k + 1, x0, x1, x12, x137 => if x137 = true then (some false) else ((nodes_Part.f k x0 x1).bind fun bt448 => ((kinds_Of.f bt448.1).bind fun bt452 => (if bt448.2 = 0 then (if bt452.2.2 = 0 then (if 0 ≤ x1 then (if x1 < (x12.length : Int) then (if (bt452.1 == (rdOf false x12 x1)) = true then ((tailwaterlaw06_alive.f).bind fun t456 => (some t456)) else (some false)) else (none)) else (none)) else (some false)) else (some false))))
end
def tailwaterlaw06_KindsOne.f (k : Nat) (l0 : List (S27)) (a1 : Int) : Option (Bool) := (tailwaterref04_Great.f l0).bind fun t432 => (if t432 = true then (tailwaterlaw06_KindsOne.j0 k l0 a1 true) else ((tailwaterref04_Check.f k l0).bind fun t433 => (if t433 = 0 then (if a1 < 0 then (tailwaterlaw06_KindsOne.j0 k l0 a1 true) else (tailwaterlaw06_KindsOne.j0 k l0 a1 (decide (a1 ≥ (l0.length : Int))))) else (tailwaterlaw06_KindsOne.j0 k l0 a1 true))))
theorem tailwaterlaw06_KindsOne.mono_l : ∀ k, (∀ y0 y1 y2, LeO (tailwaterlaw06_KindsOne.j0 k y0 y1 y2) (tailwaterlaw06_KindsOne.j0 (k + 1) y0 y1 y2)) ∧ (∀ y0 y1 y2 y3 y4 y5 y6 y7 y8, LeO (tailwaterlaw06_KindsOne.j1 k y0 y1 y2 y3 y4 y5 y6 y7 y8) (tailwaterlaw06_KindsOne.j1 (k + 1) y0 y1 y2 y3 y4 y5 y6 y7 y8)) ∧ (∀ y0 y1 y2 y3, LeO (tailwaterlaw06_KindsOne.j2 k y0 y1 y2 y3) (tailwaterlaw06_KindsOne.j2 (k + 1) y0 y1 y2 y3))
  | 0 => ⟨fun _ _ _ r h => by simp [tailwaterlaw06_KindsOne.j0] at h, fun _ _ _ _ _ _ _ _ _ r h => by simp [tailwaterlaw06_KindsOne.j1] at h, fun _ _ _ _ r h => by simp [tailwaterlaw06_KindsOne.j2] at h⟩
  | k + 1 => by
    obtain ⟨ih0, ih1, ih2⟩ := tailwaterlaw06_KindsOne.mono_l k
    refine ⟨?_, ?_, ?_⟩
    · intro y0 y1 y2
      unfold tailwaterlaw06_KindsOne.j0
      repeat' first
      | (with_reducible exact ih0 _ _ _)
      | (with_reducible exact ih1 _ _ _ _ _ _ _ _ _)
      | (with_reducible exact ih2 _ _ _ _)
      | (with_reducible exact nodes_Part.mono _ _ _)
      | (with_reducible exact tailwaterref04_Check.mono _ _)
      | (with_reducible exact LeO.refl _)
      | (with_reducible exact LeO.none _)
      | (with_reducible refine LeO.ite ?_ ?_)
      | (with_reducible refine LeO.bind ?_ (fun _ => ?_))
      | exact ih0 _ _ _
      | exact ih1 _ _ _ _ _ _ _ _ _
      | exact ih2 _ _ _ _
      | exact nodes_Part.mono _ _ _
      | exact tailwaterref04_Check.mono _ _
      | exact LeO.none _
      | refine LeO.ite ?_ ?_
      | refine LeO.bind ?_ (fun _ => ?_)
    · intro y0 y1 y2 y3 y4 y5 y6 y7 y8
      unfold tailwaterlaw06_KindsOne.j1
      repeat' first
      | (with_reducible exact ih0 _ _ _)
      | (with_reducible exact ih1 _ _ _ _ _ _ _ _ _)
      | (with_reducible exact ih2 _ _ _ _)
      | (with_reducible exact nodes_Part.mono _ _ _)
      | (with_reducible exact tailwaterref04_Check.mono _ _)
      | (with_reducible exact LeO.refl _)
      | (with_reducible exact LeO.none _)
      | (with_reducible refine LeO.ite ?_ ?_)
      | (with_reducible refine LeO.bind ?_ (fun _ => ?_))
      | exact ih0 _ _ _
      | exact ih1 _ _ _ _ _ _ _ _ _
      | exact ih2 _ _ _ _
      | exact nodes_Part.mono _ _ _
      | exact tailwaterref04_Check.mono _ _
      | exact LeO.none _
      | refine LeO.ite ?_ ?_
      | refine LeO.bind ?_ (fun _ => ?_)
    · intro y0 y1 y2 y3
      unfold tailwaterlaw06_KindsOne.j2
      repeat' first
      | (with_reducible exact ih0 _ _ _)
      | (with_reducible exact ih1 _ _ _ _ _ _ _ _ _)
      | (with_reducible exact ih2 _ _ _ _)
      | (with_reducible exact nodes_Part.mono _ _ _)
      | (with_reducible exact tailwaterref04_Check.mono _ _)
      | (with_reducible exact LeO.refl _)
      | (with_reducible exact LeO.none _)
      | (with_reducible refine LeO.ite ?_ ?_)
      | (with_reducible refine LeO.bind ?_ (fun _ => ?_))
      | exact ih0 _ _ _
      | exact ih1 _ _ _ _ _ _ _ _ _
      | exact ih2 _ _ _ _
      | exact nodes_Part.mono _ _ _
      | exact tailwaterref04_Check.mono _ _
      | exact LeO.none _
      | refine LeO.ite ?_ ?_
      | refine LeO.bind ?_ (fun _ => ?_)
theorem tailwaterlaw06_KindsOne.mono : ∀ a0 a1 k, LeO (tailwaterlaw06_KindsOne.f k a0 a1) (tailwaterlaw06_KindsOne.f (k + 1) a0 a1) := by
  intro a0 a1 k
  obtain ⟨ih0, ih1, ih2⟩ := tailwaterlaw06_KindsOne.mono_l k
  unfold tailwaterlaw06_KindsOne.f
  repeat' first
      | (with_reducible exact ih0 _ _ _)
      | (with_reducible exact ih1 _ _ _ _ _ _ _ _ _)
      | (with_reducible exact ih2 _ _ _ _)
      | (with_reducible exact nodes_Part.mono _ _ _)
      | (with_reducible exact tailwaterref04_Check.mono _ _)
      | (with_reducible exact LeO.refl _)
      | (with_reducible exact LeO.none _)
      | (with_reducible refine LeO.ite ?_ ?_)
      | (with_reducible refine LeO.bind ?_ (fun _ => ?_))
      | exact ih0 _ _ _
      | exact ih1 _ _ _ _ _ _ _ _ _
      | exact ih2 _ _ _ _
      | exact nodes_Part.mono _ _ _
      | exact tailwaterref04_Check.mono _ _
      | exact LeO.none _
      | refine LeO.ite ?_ ?_
      | refine LeO.bind ?_ (fun _ => ?_)
set_option maxHeartbeats 8000000 in
set_option maxRecDepth 100000 in
theorem tailwaterlaw06_KindsOne.calls (k : Nat) (A0 : Option Addr) (c0 : Nat) (l0 : List (S27)) (a1 : Int) (r : Bool) (w : World) (hr0 : Kd.C k27 w A0 l0.length l0) (hc0 : l0.length ≤ c0) (h : tailwaterlaw06_KindsOne.f k l0 a1 = some r) :
    Calls Try.prog 8 #[.slice A0 l0.length c0, .int .i64 a1] w fun e w' => e = .returned (.bool r) ∧ Below w.heap.size w w' := by
  have HR0 := Aside0.mk hr0
  have HC0 := Aside0.mk hc0
  clear hr0 hc0
  have HB := Aside0.mk (Below.refl w.heap.size w)
  have H : ((tailwaterref04_Great.f l0).bind fun t432 => (if t432 = true then (tailwaterlaw06_KindsOne.j0 k l0 a1 true) else ((tailwaterref04_Check.f k l0).bind fun t433 => (if t433 = 0 then (if a1 < 0 then (tailwaterlaw06_KindsOne.j0 k l0 a1 true) else (tailwaterlaw06_KindsOne.j0 k l0 a1 (decide (a1 ≥ (l0.length : Int))))) else (tailwaterlaw06_KindsOne.j0 k l0 a1 true))))) = some r := h
  clear h
  have HC3 := Aside0.mk H
  clear H
  go_enter Try.func8, Try.ntmps8
  go_upto_region 1 with (fail)
  go_cut [35] (fun v35 wc => ∃ (kq : Nat) (x35_2 : Bool), v35 = .bool x35_2 ∧ Aside0 (tailwaterlaw06_KindsOne.j0 kq l0 a1 x35_2 = some r) ∧ Aside0 (kq ≤ k) ∧ Aside0 (Below w.heap.size w wc))
  case first =>
    have H := HC3.out
    clear HC3
    replace H := Option.bind_eq_some_iff.mp H
    obtain ⟨t432, A40, H⟩ := H
    replace H : (if t432 = true then (tailwaterlaw06_KindsOne.j0 k l0 a1 true) else ((tailwaterref04_Check.f k l0).bind fun t433 => (if t433 = 0 then (if a1 < 0 then (tailwaterlaw06_KindsOne.j0 k l0 a1 true) else (tailwaterlaw06_KindsOne.j0 k l0 a1 (decide (a1 ≥ (l0.length : Int))))) else (tailwaterlaw06_KindsOne.j0 k l0 a1 true)))) = some r := H
    have A4 := Aside0.mk A40
    clear A40
    by_cases c5 : t432 = true
    · subst c5
      have H1 : (tailwaterlaw06_KindsOne.j0 k l0 a1 true) = some r := by rw [if_pos rfl] at H; exact H
      clear H
      have H := H1
      clear H1
      have H' := Aside0.mk H
      clear H
      go_wp2_with (first | ((with_reducible refine gate_callee (f := 15) rfl ?_); refine goesL_ (some 20) rfl rfl Try.func15 (by kernel_rfl) rfl #[.slice A0 l0.length c0] rfl (by (try simp only [List.map_toArray, List.map_cons, List.map_nil]); first | done | rfl | (simp only [List.length_drop, List.length_take]; rfl)) ?_; (with_reducible refine (tailwaterref04_Great.calls _ _ l0 true _ ?side1 ?side2 A4.out).mono ?_); (case side1 => repeat (first | exact (Kd.C_below HR0.out HB.out) | (with_reducible refine Kd.C_alloc ?_ _) | (with_reducible refine Kd.C_drewN ?_ _) | (with_reducible refine Kd.C_drew ?_))); (case side2 => exact HC0.out); rintro e w' ⟨rfl, ⟨nd, rfl⟩⟩; refine ⟨_, rfl, ?_⟩))
      go_meet
      case rel => exact ⟨_, (true), (by first | rfl | (simp; done) | (simp [*]; done)), H', ⟨by first | omega | exact Nat.le_refl _⟩, ⟨by repeat (first | (with_reducible first | exact HB.out | apply below_alloc | apply pw_below_drewN | apply below_drew1) | exact HB.out)⟩⟩
    · replace c5 := Bool.eq_false_iff.mpr c5
      subst c5
      have H1 : ((tailwaterref04_Check.f k l0).bind fun t433 => (if t433 = 0 then (if a1 < 0 then (tailwaterlaw06_KindsOne.j0 k l0 a1 true) else (tailwaterlaw06_KindsOne.j0 k l0 a1 (decide (a1 ≥ (l0.length : Int))))) else (tailwaterlaw06_KindsOne.j0 k l0 a1 true))) = some r := by rw [if_neg (show ¬ (false = true) by decide)] at H; exact H
      clear H
      have H := H1
      clear H1
      replace H := Option.bind_eq_some_iff.mp H
      obtain ⟨t433, A60, H⟩ := H
      replace H : (if t433 = 0 then (if a1 < 0 then (tailwaterlaw06_KindsOne.j0 k l0 a1 true) else (tailwaterlaw06_KindsOne.j0 k l0 a1 (decide (a1 ≥ (l0.length : Int))))) else (tailwaterlaw06_KindsOne.j0 k l0 a1 true)) = some r := H
      have A6 := Aside0.mk A60
      clear A60
      by_cases c7 : t433 = 0
      · rw [if_pos c7] at H
        have c7b0 : (t433 == 0) = true := beq_iff_eq.mpr c7
        have c7b1 : (t433 != 0) = false := bne_eq_false_iff_eq.mpr c7
        clear c7
        (first | rw [c7b0] | (simp only [i64_w, i32_w]; rw [c7b0]) | skip)
        by_cases c8 : a1 < 0
        · rw [if_pos c8] at H
          have c8b0 : decide (a1 < 0) = true := decide_eq_true c8
          clear c8
          have H' := Aside0.mk H
          clear H
          go_wp2_with (first | ((with_reducible refine gate_callee (f := 15) rfl ?_); refine goesL_ (some 20) rfl rfl Try.func15 (by kernel_rfl) rfl #[.slice A0 l0.length c0] rfl (by (try simp only [List.map_toArray, List.map_cons, List.map_nil]); first | done | rfl | (simp only [List.length_drop, List.length_take]; rfl)) ?_; (with_reducible refine (tailwaterref04_Great.calls _ _ l0 false _ ?side1 ?side2 A4.out).mono ?_); (case side1 => repeat (first | exact (Kd.C_below HR0.out HB.out) | (with_reducible refine Kd.C_alloc ?_ _) | (with_reducible refine Kd.C_drewN ?_ _) | (with_reducible refine Kd.C_drew ?_))); (case side2 => exact HC0.out); rintro e w' ⟨rfl, ⟨nd, rfl⟩⟩; refine ⟨_, rfl, ?_⟩) | (go_at_call 16; (with_reducible refine (tailwaterref04_Check.calls k _ _ l0 t433 _ ?side1 ?side2 A6.out).mono ?_); (case side1 => repeat (first | exact (Kd.C_below HR0.out (by repeat (first | (with_reducible first | exact HB.out | apply below_alloc | apply pw_below_drewN | apply below_drew1) | exact HB.out))) | (with_reducible refine Kd.C_alloc ?_ _) | (with_reducible refine Kd.C_drewN ?_ _) | (with_reducible refine Kd.C_drew ?_))); (case side2 => exact HC0.out); rintro e w9 ⟨rfl, hb⟩; have n0_ := Aside0.mk (below_step (by repeat (first | (with_reducible first | exact HB.out | apply below_alloc | apply pw_below_drewN | apply below_drew1) | exact HB.out)) hb); clear HB; have HB := n0_; clear n0_; (try clear hb); (try clear hb2); (try clear hk); (try clear hi)))
          go_meet
          case rel => exact ⟨_, (true), (by first | rfl | (simp; done) | (simp [*]; done)), H', ⟨by first | omega | exact Nat.le_refl _⟩, ⟨by repeat (first | (with_reducible first | exact HB.out | apply below_alloc | apply pw_below_drewN | apply below_drew1) | exact HB.out)⟩⟩
        · rw [if_neg c8] at H
          have c8b0 : decide (a1 < 0) = false := decide_eq_false c8
          clear c8
          have H' := Aside0.mk H
          clear H
          go_wp2_with (first | ((with_reducible refine gate_callee (f := 15) rfl ?_); refine goesL_ (some 20) rfl rfl Try.func15 (by kernel_rfl) rfl #[.slice A0 l0.length c0] rfl (by (try simp only [List.map_toArray, List.map_cons, List.map_nil]); first | done | rfl | (simp only [List.length_drop, List.length_take]; rfl)) ?_; (with_reducible refine (tailwaterref04_Great.calls _ _ l0 false _ ?side1 ?side2 A4.out).mono ?_); (case side1 => repeat (first | exact (Kd.C_below HR0.out HB.out) | (with_reducible refine Kd.C_alloc ?_ _) | (with_reducible refine Kd.C_drewN ?_ _) | (with_reducible refine Kd.C_drew ?_))); (case side2 => exact HC0.out); rintro e w' ⟨rfl, ⟨nd, rfl⟩⟩; refine ⟨_, rfl, ?_⟩) | (go_at_call 16; (with_reducible refine (tailwaterref04_Check.calls k _ _ l0 t433 _ ?side1 ?side2 A6.out).mono ?_); (case side1 => repeat (first | exact (Kd.C_below HR0.out (by repeat (first | (with_reducible first | exact HB.out | apply below_alloc | apply pw_below_drewN | apply below_drew1) | exact HB.out))) | (with_reducible refine Kd.C_alloc ?_ _) | (with_reducible refine Kd.C_drewN ?_ _) | (with_reducible refine Kd.C_drew ?_))); (case side2 => exact HC0.out); rintro e w10 ⟨rfl, hb⟩; have n0_ := Aside0.mk (below_step (by repeat (first | (with_reducible first | exact HB.out | apply below_alloc | apply pw_below_drewN | apply below_drew1) | exact HB.out)) hb); clear HB; have HB := n0_; clear n0_; (try clear hb); (try clear hb2); (try clear hk); (try clear hi)))
          go_meet
          case rel => exact ⟨_, (decide (a1 ≥ (l0.length : Int))), (by first | rfl | (simp; done) | (simp [*]; done)), H', ⟨by first | omega | exact Nat.le_refl _⟩, ⟨by repeat (first | (with_reducible first | exact HB.out | apply below_alloc | apply pw_below_drewN | apply below_drew1) | exact HB.out)⟩⟩
      · rw [if_neg c7] at H
        have c7b0 : (t433 == 0) = false := beq_eq_false_iff_ne.mpr c7
        have c7b1 : (t433 != 0) = true := bne_iff_ne.mpr c7
        (first | rw [c7b0] | (simp only [i64_w, i32_w]; rw [c7b0]) | skip)
        have H' := Aside0.mk H
        clear H
        go_wp2_with (first | ((with_reducible refine gate_callee (f := 15) rfl ?_); refine goesL_ (some 20) rfl rfl Try.func15 (by kernel_rfl) rfl #[.slice A0 l0.length c0] rfl (by (try simp only [List.map_toArray, List.map_cons, List.map_nil]); first | done | rfl | (simp only [List.length_drop, List.length_take]; rfl)) ?_; (with_reducible refine (tailwaterref04_Great.calls _ _ l0 false _ ?side1 ?side2 A4.out).mono ?_); (case side1 => repeat (first | exact (Kd.C_below HR0.out HB.out) | (with_reducible refine Kd.C_alloc ?_ _) | (with_reducible refine Kd.C_drewN ?_ _) | (with_reducible refine Kd.C_drew ?_))); (case side2 => exact HC0.out); rintro e w' ⟨rfl, ⟨nd, rfl⟩⟩; refine ⟨_, rfl, ?_⟩) | (go_at_call 16; (with_reducible refine (tailwaterref04_Check.calls k _ _ l0 t433 _ ?side1 ?side2 A6.out).mono ?_); (case side1 => repeat (first | exact (Kd.C_below HR0.out (by repeat (first | (with_reducible first | exact HB.out | apply below_alloc | apply pw_below_drewN | apply below_drew1) | exact HB.out))) | (with_reducible refine Kd.C_alloc ?_ _) | (with_reducible refine Kd.C_drewN ?_ _) | (with_reducible refine Kd.C_drew ?_))); (case side2 => exact HC0.out); rintro e w11 ⟨rfl, hb⟩; have n0_ := Aside0.mk (below_step (by repeat (first | (with_reducible first | exact HB.out | apply below_alloc | apply pw_below_drewN | apply below_drew1) | exact HB.out)) hb); clear HB; have HB := n0_; clear n0_; (try clear hb); (try clear hb2); (try clear hk); (try clear hi)))
        go_meet
        case rel => exact ⟨_, (true), (by first | rfl | (simp; done) | (simp [*]; done)), H', ⟨by first | omega | exact Nat.le_refl _⟩, ⟨by repeat (first | (with_reducible first | exact HB.out | apply below_alloc | apply pw_below_drewN | apply below_drew1) | exact HB.out)⟩⟩
  case rest =>
    clear HC3
    try clear c1
    try clear p2
    try clear c5
    try clear c7
    try clear c7b0
    try clear c7b1
    try clear c8
    try clear c8b0
    obtain ⟨kq, x35_2, rfl, HA, HJ2, HB⟩ := hcut
    cases kq with
    | zero => exact absurd HA.out (by simp [tailwaterlaw06_KindsOne.j0])
    | succ kj2 =>
      have H := HA.out
      clear HA
      simp only [tailwaterlaw06_KindsOne.j0] at H
      by_cases c12 : x35_2 = true
      · subst c12
        have H1 : ((tailwaterlaw06_alive.f).bind fun t434 => (some t434)) = some r := by rw [if_pos rfl] at H; exact H
        clear H
        have H := H1
        clear H1
        replace H := Option.bind_eq_some_iff.mp H
        obtain ⟨t434, A130, H⟩ := H
        replace H : (some t434) = some r := H
        have A13 := Aside0.mk A130
        clear A130
        obtain rfl := Option.some.inj H
        go_wp2_with (first | ((with_reducible refine gate_callee (f := 17) rfl ?_); refine goesL_ (some 36) rfl rfl Try.func17 (by kernel_rfl) rfl #[] rfl (by (try simp only [List.map_toArray, List.map_cons, List.map_nil]); first | done | rfl | (simp only [List.length_drop, List.length_take]; rfl)) ?_; (with_reducible refine (tailwaterlaw06_alive.calls  t434 _ A13.out).mono ?_); rintro e w14 ⟨rfl, hb⟩; refine ⟨_, rfl, ?_⟩; have n0_ := Aside0.mk (below_step (by repeat (first | (with_reducible first | exact HB.out | apply below_alloc | apply pw_below_drewN | apply below_drew1) | exact HB.out)) hb); clear HB; have HB := n0_; clear n0_; (try clear hb); (try clear hb2); (try clear hk); (try clear hi)))
        go_ret
        exact ⟨by first | rfl | (simp [errW_none, errW_some] <;> rfl) | (simp [*, errW_none, errW_some] <;> rfl), by repeat (first | (with_reducible first | exact HB.out | apply below_alloc | apply pw_below_drewN | apply below_drew1) | exact HB.out)⟩
      · replace c12 := Bool.eq_false_iff.mpr c12
        subst c12
        have H1 : ((kinds_Of.f l0).bind fun bt435 => ((kinds_Number.f l0).bind fun bt438 => ((kinds_Truth.f l0).bind fun bt440 => ((kinds_All.f l0).bind fun bt442 => (if bt435.2.2 = bt442.2 then (if bt438.1 = bt435.2.1 then (tailwaterlaw06_KindsOne.j1 kj2 l0 a1 bt435.1 bt435.2.1 bt435.2.2 bt438.2 bt440.2 bt442.1 (bt440.1 != bt435.2.1)) else (tailwaterlaw06_KindsOne.j1 kj2 l0 a1 bt435.1 bt435.2.1 bt435.2.2 bt438.2 bt440.2 bt442.1 true)) else (tailwaterlaw06_KindsOne.j1 kj2 l0 a1 bt435.1 bt435.2.1 bt435.2.2 bt438.2 bt440.2 bt442.1 true)))))) = some r := by rw [if_neg (show ¬ (false = true) by decide)] at H; exact H
        clear H
        have H := H1
        clear H1
        replace H := Option.bind_eq_some_iff.mp H
        obtain ⟨⟨t435, t436, t437⟩, A150, H⟩ := H
        replace H : ((kinds_Number.f l0).bind fun bt438 => ((kinds_Truth.f l0).bind fun bt440 => ((kinds_All.f l0).bind fun bt442 => (if t437 = bt442.2 then (if bt438.1 = t436 then (tailwaterlaw06_KindsOne.j1 kj2 l0 a1 t435 t436 t437 bt438.2 bt440.2 bt442.1 (bt440.1 != t436)) else (tailwaterlaw06_KindsOne.j1 kj2 l0 a1 t435 t436 t437 bt438.2 bt440.2 bt442.1 true)) else (tailwaterlaw06_KindsOne.j1 kj2 l0 a1 t435 t436 t437 bt438.2 bt440.2 bt442.1 true))))) = some r := H
        have A15 := Aside0.mk A150
        clear A150
        replace H := Option.bind_eq_some_iff.mp H
        obtain ⟨⟨t438, t439⟩, A160, H⟩ := H
        replace H : ((kinds_Truth.f l0).bind fun bt440 => ((kinds_All.f l0).bind fun bt442 => (if t437 = bt442.2 then (if t438 = t436 then (tailwaterlaw06_KindsOne.j1 kj2 l0 a1 t435 t436 t437 t439 bt440.2 bt442.1 (bt440.1 != t436)) else (tailwaterlaw06_KindsOne.j1 kj2 l0 a1 t435 t436 t437 t439 bt440.2 bt442.1 true)) else (tailwaterlaw06_KindsOne.j1 kj2 l0 a1 t435 t436 t437 t439 bt440.2 bt442.1 true)))) = some r := H
        have A16 := Aside0.mk A160
        clear A160
        replace H := Option.bind_eq_some_iff.mp H
        obtain ⟨⟨t440, t441⟩, A170, H⟩ := H
        replace H : ((kinds_All.f l0).bind fun bt442 => (if t437 = bt442.2 then (if t438 = t436 then (tailwaterlaw06_KindsOne.j1 kj2 l0 a1 t435 t436 t437 t439 t441 bt442.1 (t440 != t436)) else (tailwaterlaw06_KindsOne.j1 kj2 l0 a1 t435 t436 t437 t439 t441 bt442.1 true)) else (tailwaterlaw06_KindsOne.j1 kj2 l0 a1 t435 t436 t437 t439 t441 bt442.1 true))) = some r := H
        have A17 := Aside0.mk A170
        clear A170
        replace H := Option.bind_eq_some_iff.mp H
        obtain ⟨⟨t442, t443⟩, A180, H⟩ := H
        replace H : (if t437 = t443 then (if t438 = t436 then (tailwaterlaw06_KindsOne.j1 kj2 l0 a1 t435 t436 t437 t439 t441 t442 (t440 != t436)) else (tailwaterlaw06_KindsOne.j1 kj2 l0 a1 t435 t436 t437 t439 t441 t442 true)) else (tailwaterlaw06_KindsOne.j1 kj2 l0 a1 t435 t436 t437 t439 t441 t442 true)) = some r := H
        have A18 := Aside0.mk A180
        clear A180
        have HC19 := Aside0.mk H
        clear H
        go_upto_region 7 with (first | ((with_reducible refine gate_callee (f := 18) rfl ?_); refine goesL_ (some 39) rfl rfl Try.func18 (by kernel_rfl) rfl #[.slice A0 l0.length c0] rfl (by (try simp only [List.map_toArray, List.map_cons, List.map_nil]); first | done | rfl | (simp only [List.length_drop, List.length_take]; rfl)) ?_; (with_reducible refine (kinds_Of.calls _ _ l0 t435 t436 t437 _ ?side1 ?side2 A15.out).mono ?_); (case side1 => repeat (first | exact (Kd.C_below HR0.out HB.out) | (with_reducible refine Kd.C_alloc ?_ _) | (with_reducible refine Kd.C_drewN ?_ _) | (with_reducible refine Kd.C_drew ?_))); (case side2 => exact HC0.out); rintro e w20 ⟨rfl, hb⟩; refine ⟨_, rfl, ?_⟩; have n0_ := Aside0.mk (below_step (by repeat (first | (with_reducible first | exact HB.out | apply below_alloc | apply pw_below_drewN | apply below_drew1) | exact HB.out)) hb); clear HB; have HB := n0_; clear n0_; (try clear hb); (try clear hb2); (try clear hk); (try clear hi)) | ((with_reducible refine gate_callee (f := 22) rfl ?_); refine goesL_ (some 45) rfl rfl Try.func22 (by kernel_rfl) rfl #[.slice A0 l0.length c0] rfl (by (try simp only [List.map_toArray, List.map_cons, List.map_nil]); first | done | rfl | (simp only [List.length_drop, List.length_take]; rfl)) ?_; (with_reducible refine (kinds_Number.calls _ _ l0 t438 t439 _ ?side1 ?side2 A16.out).mono ?_); (case side1 => repeat (first | exact (Kd.C_below HR0.out HB.out) | (with_reducible refine Kd.C_alloc ?_ _) | (with_reducible refine Kd.C_drewN ?_ _) | (with_reducible refine Kd.C_drew ?_))); (case side2 => exact HC0.out); rintro e w21 ⟨rfl, hb⟩; refine ⟨_, rfl, ?_⟩; have n0_ := Aside0.mk (below_step (by repeat (first | (with_reducible first | exact HB.out | apply below_alloc | apply pw_below_drewN | apply below_drew1) | exact HB.out)) hb); clear HB; have HB := n0_; clear n0_; (try clear hb); (try clear hb2); (try clear hk); (try clear hi)) | ((with_reducible refine gate_callee (f := 23) rfl ?_); refine goesL_ (some 50) rfl rfl Try.func23 (by kernel_rfl) rfl #[.slice A0 l0.length c0] rfl (by (try simp only [List.map_toArray, List.map_cons, List.map_nil]); first | done | rfl | (simp only [List.length_drop, List.length_take]; rfl)) ?_; (with_reducible refine (kinds_Truth.calls _ _ l0 t440 t441 _ ?side1 ?side2 A17.out).mono ?_); (case side1 => repeat (first | exact (Kd.C_below HR0.out HB.out) | (with_reducible refine Kd.C_alloc ?_ _) | (with_reducible refine Kd.C_drewN ?_ _) | (with_reducible refine Kd.C_drew ?_))); (case side2 => exact HC0.out); rintro e w22 ⟨rfl, hb⟩; refine ⟨_, rfl, ?_⟩; have n0_ := Aside0.mk (below_step (by repeat (first | (with_reducible first | exact HB.out | apply below_alloc | apply pw_below_drewN | apply below_drew1) | exact HB.out)) hb); clear HB; have HB := n0_; clear n0_; (try clear hb); (try clear hb2); (try clear hk); (try clear hi)) | ((with_reducible refine gate_callee (f := 24) rfl ?_); refine goesL_ (some 55) rfl rfl Try.func24 (by kernel_rfl) rfl #[.slice A0 l0.length c0] rfl (by (try simp only [List.map_toArray, List.map_cons, List.map_nil]); first | done | rfl | (simp only [List.length_drop, List.length_take]; rfl)) ?_; (with_reducible refine (kinds_All.calls _ _ l0 t442 t443 _ ?side1 ?side2 A18.out).mono ?_); (case side1 => repeat (first | exact (Kd.C_below HR0.out HB.out) | (with_reducible refine Kd.C_alloc ?_ _) | (with_reducible refine Kd.C_drewN ?_ _) | (with_reducible refine Kd.C_drew ?_))); (case side2 => exact HC0.out); rintro e w23 ⟨v444, rfl, ho0, hb⟩; refine ⟨_, rfl, ?_⟩; have n0_ := Aside0.mk (Kd.R_lower ho0 (below_size (by repeat (first | (with_reducible first | exact HB.out | apply below_alloc | apply pw_below_drewN | apply below_drew1) | exact HB.out)))); have n1_ := Aside0.mk (below_step (by repeat (first | (with_reducible first | exact HB.out | apply below_alloc | apply pw_below_drewN | apply below_drew1) | exact HB.out)) hb); clear HB; have HO445 := n0_; have HB := n1_; clear n0_ n1_; (try clear hb); (try clear hb2); (try clear hk); (try clear hi); (try clear ho0)))
        (try simp only [Act.put, List.setIfInBounds_toArray, List.set_cons_zero, List.set_cons_succ])
        go_cut [70] (fun v70 wc => ∃ (kq : Nat) (x70_18 : Bool), v70 = .bool x70_18 ∧ Aside0 (tailwaterlaw06_KindsOne.j1 kq l0 a1 t435 t436 t437 t439 t441 t442 x70_18 = some r) ∧ Aside0 (kq ≤ kj2) ∧ Aside0 (Kd.R Kd.bool 4 wc w.heap.size (fun _ => True) v444 t442) ∧ Aside0 (Below w.heap.size w wc))
        case first =>
          have H := HC19.out
          clear HC19
          by_cases c24 : t437 = t443
          · rw [if_pos c24] at H
            have c24b0 : (t437 == t443) = true := beq_iff_eq.mpr c24
            have c24b1 : (t437 != t443) = false := bne_eq_false_iff_eq.mpr c24
            clear c24
            (first | rw [c24b0] | (simp only [i64_w, i32_w]; rw [c24b0]) | skip)
            by_cases c25 : t438 = t436
            · rw [if_pos c25] at H
              have c25b0 : (t438 == t436) = true := beq_iff_eq.mpr c25
              have c25b1 : (t438 != t436) = false := bne_eq_false_iff_eq.mpr c25
              clear c25
              have H' := Aside0.mk H
              clear H
              go_wp2
              go_meet
              case rel => exact ⟨_, ((t440 != t436)), (by first | rfl | (simp; done) | (simp [*]; done)), H', ⟨by have := HJ2.out; first | omega | exact Nat.le_refl _⟩, ⟨by (with_reducible repeat (first | apply Kd.R_alloc | apply Kd.R_drewN | apply Kd.R_drew)); exact HO445.out⟩, ⟨by repeat (first | (with_reducible first | exact HB.out | apply below_alloc | apply pw_below_drewN | apply below_drew1) | exact HB.out)⟩⟩
            · rw [if_neg c25] at H
              have c25b0 : (t438 == t436) = false := beq_eq_false_iff_ne.mpr c25
              have c25b1 : (t438 != t436) = true := bne_iff_ne.mpr c25
              have H' := Aside0.mk H
              clear H
              go_wp2
              go_meet
              case rel => exact ⟨_, (true), (by first | rfl | (simp; done) | (simp [*]; done)), H', ⟨by have := HJ2.out; first | omega | exact Nat.le_refl _⟩, ⟨by (with_reducible repeat (first | apply Kd.R_alloc | apply Kd.R_drewN | apply Kd.R_drew)); exact HO445.out⟩, ⟨by repeat (first | (with_reducible first | exact HB.out | apply below_alloc | apply pw_below_drewN | apply below_drew1) | exact HB.out)⟩⟩
          · rw [if_neg c24] at H
            have c24b0 : (t437 == t443) = false := beq_eq_false_iff_ne.mpr c24
            have c24b1 : (t437 != t443) = true := bne_iff_ne.mpr c24
            (first | rw [c24b0] | (simp only [i64_w, i32_w]; rw [c24b0]) | skip)
            have H' := Aside0.mk H
            clear H
            go_wp2
            go_meet
            case rel => exact ⟨_, (true), (by first | rfl | (simp; done) | (simp [*]; done)), H', ⟨by have := HJ2.out; first | omega | exact Nat.le_refl _⟩, ⟨by (with_reducible repeat (first | apply Kd.R_alloc | apply Kd.R_drewN | apply Kd.R_drew)); exact HO445.out⟩, ⟨by repeat (first | (with_reducible first | exact HB.out | apply below_alloc | apply pw_below_drewN | apply below_drew1) | exact HB.out)⟩⟩
        case rest =>
          clear HC19
          try clear c1
          try clear c2
          try clear p2
          try clear c5
          try clear c7
          try clear c7b0
          try clear c7b1
          try clear c8
          try clear c8b0
          try clear c12
          try clear c15
          try clear c17
          try clear c18
          try clear c22
          try clear c23
          try clear c24
          try clear c24b0
          try clear c24b1
          try clear c25
          try clear c25b0
          try clear c25b1
          try clear p2
          obtain ⟨kq, x70_18, rfl, HA, HJ18, HO_12, HB⟩ := hcut
          cases kq with
          | zero => exact absurd HA.out (by simp [tailwaterlaw06_KindsOne.j1])
          | succ kj18 =>
            have H := HA.out
            clear HA
            simp only [tailwaterlaw06_KindsOne.j1] at H
            by_cases c26 : x70_18 = true
            · subst c26
              have H1 : (some false) = some r := by rw [if_pos rfl] at H; exact H
              clear H
              have H := H1
              clear H1
              obtain rfl := Option.some.inj H
              go_wp2
              go_ret
              exact ⟨by first | rfl | (simp [errW_none, errW_some] <;> rfl) | (simp [*, errW_none, errW_some] <;> rfl), by repeat (first | (with_reducible first | exact HB.out | apply below_alloc | apply pw_below_drewN | apply below_drew1) | exact HB.out)⟩
            · replace c26 := Bool.eq_false_iff.mpr c26
              subst c26
              have H1 : (if t437 = 0 then (if ((t439 == 0) == (t441 == 0)) = true then (tailwaterlaw06_KindsOne.j2 kj18 l0 a1 t442 true) else (if ((t441 == 0) != t435) = true then (tailwaterlaw06_KindsOne.j2 kj18 l0 a1 t442 true) else (if (t442.length : Int) = (l0.length : Int) then (if 0 ≤ (wrap64 ((l0.length : Int) - 1)) then (if (wrap64 ((l0.length : Int) - 1)) < (t442.length : Int) then (if ((rdOf false t442 (wrap64 ((l0.length : Int) - 1))) != t435) = true then (tailwaterlaw06_KindsOne.j2 kj18 l0 a1 t442 true) else (tailwaterlaw06_KindsOne.j2 kj18 l0 a1 t442 (t436 != (wrap64 ((l0.length : Int) - 1))))) else (none)) else (none)) else (tailwaterlaw06_KindsOne.j2 kj18 l0 a1 t442 true)))) else (if t437 = 42 then (if t439 = t437 then (if t441 = t437 then (if t436 ≥ 0 then (if t436 < (l0.length : Int) then (if (t442.length : Int) = 0 then ((tailwaterlaw06_alive.f).bind fun t446 => (some t446)) else (some false)) else (some false)) else (some false)) else (some false)) else (some false)) else (some false))) = some r := by rw [if_neg (show ¬ (false = true) by decide)] at H; exact H
              clear H
              have H := H1
              clear H1
              by_cases c27 : t437 = 0
              · rw [if_pos c27] at H
                have c27b0 : (t437 == 0) = true := beq_iff_eq.mpr c27
                have c27b1 : (t437 != 0) = false := bne_eq_false_iff_eq.mpr c27
                clear c27
                have HC28 := Aside0.mk H
                clear H
                go_upto_region 11 with (fail)
                go_cut [137] (fun v137 wc => ∃ (kq : Nat) (x137_27 : Bool), v137 = .bool x137_27 ∧ Aside0 (tailwaterlaw06_KindsOne.j2 kq l0 a1 t442 x137_27 = some r) ∧ Aside0 (kq ≤ kj18) ∧ Aside0 (Kd.R Kd.bool 4 wc w.heap.size (fun _ => True) v444 t442) ∧ Aside0 (Below w.heap.size w wc))
                case first =>
                  have H := HC28.out
                  clear HC28
                  by_cases c29 : ((t439 == 0) == (t441 == 0)) = true
                  · rw [if_pos c29] at H
                    have c29b0 : ((t439 == 0) == (t441 == 0)) = true := c29
                    (try (have c29b1 : decide ((t439 == 0) = (t441 == 0)) = true := by simpa using c29))
                    (try (have c29b2 : ((t439 == 0) == (t441 == 0)) = true := by simpa using c29))
                    clear c29
                    (first | rw [c29b0] | (simp only [i64_w, i32_w]; rw [c29b0]) | skip)
                    have H' := Aside0.mk H
                    clear H
                    go_wp2
                    go_meet
                    case rel => exact ⟨_, (true), (by first | rfl | (simp; done) | (simp [*]; done)), H', ⟨by have := HJ2.out; have := HJ18.out; first | omega | exact Nat.le_refl _⟩, ⟨by (with_reducible repeat (first | apply Kd.R_alloc | apply Kd.R_drewN | apply Kd.R_drew)); exact HO_12.out⟩, ⟨by repeat (first | (with_reducible first | exact HB.out | apply below_alloc | apply pw_below_drewN | apply below_drew1) | exact HB.out)⟩⟩
                  · rw [if_neg c29] at H
                    have c29b0 : ((t439 == 0) == (t441 == 0)) = false := by simpa using c29
                    (try (have c29b1 : decide ((t439 == 0) = (t441 == 0)) = false := by simpa using c29))
                    (try (have c29b2 : ((t439 == 0) == (t441 == 0)) = false := by simpa using c29))
                    (try (have c29b3 : ¬ ((t439 == 0) = (t441 == 0)) := by simpa using c29))
                    clear c29
                    (first | rw [c29b0] | (simp only [i64_w, i32_w]; rw [c29b0]) | skip)
                    by_cases c30 : ((t441 == 0) != t435) = true
                    · rw [if_pos c30] at H
                      have c30b0 : ((t441 == 0) != t435) = true := c30
                      (try (have c30b1 : decide ((t441 == 0) = t435) = false := by simpa using c30))
                      (try (have c30b2 : ((t441 == 0) == t435) = false := by simpa using c30))
                      (try (have c30b3 : ¬ ((t441 == 0) = t435) := by simpa using c30))
                      clear c30
                      have H' := Aside0.mk H
                      clear H
                      go_wp2
                      go_meet
                      case rel => exact ⟨_, (true), (by first | rfl | (simp; done) | (simp [*]; done)), H', ⟨by have := HJ2.out; have := HJ18.out; first | omega | exact Nat.le_refl _⟩, ⟨by (with_reducible repeat (first | apply Kd.R_alloc | apply Kd.R_drewN | apply Kd.R_drew)); exact HO_12.out⟩, ⟨by repeat (first | (with_reducible first | exact HB.out | apply below_alloc | apply pw_below_drewN | apply below_drew1) | exact HB.out)⟩⟩
                    · rw [if_neg c30] at H
                      have c30b0 : ((t441 == 0) != t435) = false := by simpa using c30
                      (try (have c30b1 : decide ((t441 == 0) = t435) = true := by simpa using c30))
                      (try (have c30b2 : ((t441 == 0) == t435) = true := by simpa using c30))
                      clear c30
                      by_cases c31 : (t442.length : Int) = (l0.length : Int)
                      · rw [if_pos c31] at H
                        have c31b0 : ((t442.length : Int) == (l0.length : Int)) = true := beq_iff_eq.mpr c31
                        have c31b1 : ((t442.length : Int) != (l0.length : Int)) = false := bne_eq_false_iff_eq.mpr c31
                        have c31b2 : (t442.length == l0.length) = true := by first | simpa using c31 | (simp at c31 ⊢; omega)
                        clear c31
                        obtain ⟨ji32, hji32⟩ : ∃ j_ : Int, (wrap64 ((l0.length : Int) - 1)) = j_ := ⟨_, rfl⟩
                        replace H : (if 0 ≤ (ji32) then (if (ji32) < (t442.length : Int) then (if ((rdOf false t442 (ji32)) != t435) = true then (tailwaterlaw06_KindsOne.j2 kj18 l0 a1 t442 true) else (tailwaterlaw06_KindsOne.j2 kj18 l0 a1 t442 (t436 != (ji32)))) else (none)) else (none)) = some r := by first | (rw [hji32] at H; exact H) | (simp only [hji32] at H ⊢; exact H)
                        have hji32w : (IntKind.i64.wrap ((l0.length : Int) - 1)) = ji32 := (i64_w _).trans hji32
                        by_cases c33 : 0 ≤ (ji32)
                        · rw [if_pos c33] at H
                          have c33b0 : decide (0 ≤ (ji32)) = true := decide_eq_true c33
                          clear c33
                          by_cases c34 : (ji32) < (t442.length : Int)
                          · rw [if_pos c34] at H
                            have c34b0 : decide ((ji32) < (t442.length : Int)) = true := decide_eq_true c34
                            clear c34
                            by_cases c35 : ((rdOf false t442 (ji32)) != t435) = true
                            · rw [if_pos c35] at H
                              have c35b0 : ((rdOf false t442 (ji32)) != t435) = true := c35
                              (try (have c35b1 : decide ((rdOf false t442 (ji32)) = t435) = false := by simpa using c35))
                              (try (have c35b2 : ((rdOf false t442 (ji32)) == t435) = false := by simpa using c35))
                              (try (have c35b3 : ¬ ((rdOf false t442 (ji32)) = t435) := by simpa using c35))
                              clear c35
                              have H' := Aside0.mk H
                              clear H
                              obtain ⟨Ao36, co36, eo36⟩ := Kd.R_slice HO_12.out
                              subst eo36
                              have p447 : 0 ≤ ((ji32) : Int) := of_decide_eq_true (by first | (with_reducible assumption) | assumption)
                              have q447 : (ji32) < (t442.length : Int) := of_decide_eq_true (by first | (with_reducible assumption) | assumption)
                              obtain ⟨ad447, e447, hx447_0⟩ := Kd.at_bool (Kd.R_reads' HO_12.out).2.2 (ji32) p447 q447
                              cases e447
                              replace p447 := eq_true p447
                              replace q447 := eq_true q447
                              go_wp2
                              go_meet
                              case rel => exact ⟨_, (true), (by first | rfl | (simp; done) | (simp [*]; done)), H', ⟨by have := HJ2.out; have := HJ18.out; first | omega | exact Nat.le_refl _⟩, ⟨by (with_reducible repeat (first | apply Kd.R_alloc | apply Kd.R_drewN | apply Kd.R_drew)); exact HO_12.out⟩, ⟨by repeat (first | (with_reducible first | exact HB.out | apply below_alloc | apply pw_below_drewN | apply below_drew1) | exact HB.out)⟩⟩
                            · rw [if_neg c35] at H
                              have c35b0 : ((rdOf false t442 (ji32)) != t435) = false := by simpa using c35
                              (try (have c35b1 : decide ((rdOf false t442 (ji32)) = t435) = true := by simpa using c35))
                              (try (have c35b2 : ((rdOf false t442 (ji32)) == t435) = true := by simpa using c35))
                              clear c35
                              have H' := Aside0.mk H
                              clear H
                              obtain ⟨Ao37, co37, eo37⟩ := Kd.R_slice HO_12.out
                              subst eo37
                              have p447 : 0 ≤ ((ji32) : Int) := of_decide_eq_true (by first | (with_reducible assumption) | assumption)
                              have q447 : (ji32) < (t442.length : Int) := of_decide_eq_true (by first | (with_reducible assumption) | assumption)
                              obtain ⟨ad447, e447, hx447_0⟩ := Kd.at_bool (Kd.R_reads' HO_12.out).2.2 (ji32) p447 q447
                              cases e447
                              replace p447 := eq_true p447
                              replace q447 := eq_true q447
                              go_wp2
                              go_meet
                              case rel => exact ⟨_, ((t436 != (ji32))), (by first | rfl | (simp; done) | (simp only [← hji32] <;> (first | rfl | simp)) | (simp [*]; done)), H', ⟨by have := HJ2.out; have := HJ18.out; first | omega | exact Nat.le_refl _⟩, ⟨by (with_reducible repeat (first | apply Kd.R_alloc | apply Kd.R_drewN | apply Kd.R_drew)); exact HO_12.out⟩, ⟨by repeat (first | (with_reducible first | exact HB.out | apply below_alloc | apply pw_below_drewN | apply below_drew1) | exact HB.out)⟩⟩
                          · rw [if_neg c34] at H
                            exact absurd H (by simp)
                        · rw [if_neg c33] at H
                          exact absurd H (by simp)
                      · rw [if_neg c31] at H
                        have c31b0 : ((t442.length : Int) == (l0.length : Int)) = false := beq_eq_false_iff_ne.mpr c31
                        have c31b1 : ((t442.length : Int) != (l0.length : Int)) = true := bne_iff_ne.mpr c31
                        have c31b2 : (t442.length == l0.length) = false := by first | simpa using c31 | (simp at c31 ⊢; omega)
                        have H' := Aside0.mk H
                        clear H
                        obtain ⟨Ao38, co38, eo38⟩ := Kd.R_slice HO_12.out
                        subst eo38
                        go_wp2
                        go_meet
                        case rel => exact ⟨_, (true), (by first | rfl | (simp; done) | (simp [*]; done)), H', ⟨by have := HJ2.out; have := HJ18.out; first | omega | exact Nat.le_refl _⟩, ⟨by (with_reducible repeat (first | apply Kd.R_alloc | apply Kd.R_drewN | apply Kd.R_drew)); exact HO_12.out⟩, ⟨by repeat (first | (with_reducible first | exact HB.out | apply below_alloc | apply pw_below_drewN | apply below_drew1) | exact HB.out)⟩⟩
                case rest =>
                  clear HC28
                  try clear c1
                  try clear c2
                  try clear p2
                  try clear c3
                  try clear p4
                  try clear q4
                  try clear hx4
                  try clear c5
                  try clear p6
                  try clear c7
                  try clear c7b0
                  try clear c7b1
                  try clear c8
                  try clear c8b0
                  try clear c12
                  try clear c15
                  try clear c17
                  try clear c18
                  try clear c22
                  try clear c23
                  try clear c24
                  try clear c24b0
                  try clear c24b1
                  try clear c25
                  try clear c25b0
                  try clear c25b1
                  try clear c26
                  try clear c27
                  try clear c27b0
                  try clear c27b1
                  try clear c29
                  try clear c29b0
                  try clear c29b1
                  try clear c29b2
                  try clear c30
                  try clear c30b0
                  try clear c30b1
                  try clear c30b2
                  try clear c31
                  try clear c31b0
                  try clear c31b1
                  try clear c31b2
                  try clear c33
                  try clear c33b0
                  try clear c34
                  try clear c34b0
                  try clear c35
                  try clear c35b0
                  try clear c35b1
                  try clear c35b2
                  try clear hx447_0
                  try clear p2
                  try clear p447
                  try clear q447
                  obtain ⟨kq, x137_27, rfl, HA, HJ27, HO_12, HB⟩ := hcut
                  cases kq with
                  | zero => exact absurd HA.out (by simp [tailwaterlaw06_KindsOne.j2])
                  | succ kj27 =>
                    have H := HA.out
                    clear HA
                    simp only [tailwaterlaw06_KindsOne.j2] at H
                    by_cases c39 : x137_27 = true
                    · subst c39
                      have H1 : (some false) = some r := by rw [if_pos rfl] at H; exact H
                      clear H
                      have H := H1
                      clear H1
                      obtain rfl := Option.some.inj H
                      go_wp2
                      go_ret
                      exact ⟨by first | rfl | (simp [errW_none, errW_some] <;> rfl) | (simp [*, errW_none, errW_some] <;> rfl), by repeat (first | (with_reducible first | exact HB.out | apply below_alloc | apply pw_below_drewN | apply below_drew1) | exact HB.out)⟩
                    · replace c39 := Bool.eq_false_iff.mpr c39
                      subst c39
                      have H1 : ((nodes_Part.f kj27 l0 a1).bind fun bt448 => ((kinds_Of.f bt448.1).bind fun bt452 => (if bt448.2 = 0 then (if bt452.2.2 = 0 then (if 0 ≤ a1 then (if a1 < (t442.length : Int) then (if (bt452.1 == (rdOf false t442 a1)) = true then ((tailwaterlaw06_alive.f).bind fun t456 => (some t456)) else (some false)) else (none)) else (none)) else (some false)) else (some false)))) = some r := by rw [if_neg (show ¬ (false = true) by decide)] at H; exact H
                      clear H
                      have H := H1
                      clear H1
                      replace H := Option.bind_eq_some_iff.mp H
                      obtain ⟨⟨t448, t449⟩, A400, H⟩ := H
                      replace H : ((kinds_Of.f t448).bind fun bt452 => (if t449 = 0 then (if bt452.2.2 = 0 then (if 0 ≤ a1 then (if a1 < (t442.length : Int) then (if (bt452.1 == (rdOf false t442 a1)) = true then ((tailwaterlaw06_alive.f).bind fun t456 => (some t456)) else (some false)) else (none)) else (none)) else (some false)) else (some false))) = some r := H
                      have A40 := Aside0.mk A400
                      clear A400
                      replace H := Option.bind_eq_some_iff.mp H
                      obtain ⟨⟨t452, t453, t454⟩, A410, H⟩ := H
                      replace H : (if t449 = 0 then (if t454 = 0 then (if 0 ≤ a1 then (if a1 < (t442.length : Int) then (if (t452 == (rdOf false t442 a1)) = true then ((tailwaterlaw06_alive.f).bind fun t456 => (some t456)) else (some false)) else (none)) else (none)) else (some false)) else (some false)) = some r := H
                      have A41 := Aside0.mk A410
                      clear A410
                      by_cases c42 : t449 = 0
                      · rw [if_pos c42] at H
                        have c42b0 : (t449 == 0) = true := beq_iff_eq.mpr c42
                        have c42b1 : (t449 != 0) = false := bne_eq_false_iff_eq.mpr c42
                        clear c42
                        by_cases c43 : t454 = 0
                        · rw [if_pos c43] at H
                          have c43b0 : (t454 == 0) = true := beq_iff_eq.mpr c43
                          have c43b1 : (t454 != 0) = false := bne_eq_false_iff_eq.mpr c43
                          clear c43
                          by_cases c44 : 0 ≤ a1
                          · rw [if_pos c44] at H
                            have c44b0 : decide (0 ≤ a1) = true := decide_eq_true c44
                            clear c44
                            by_cases c45 : a1 < (t442.length : Int)
                            · rw [if_pos c45] at H
                              have c45b0 : decide (a1 < (t442.length : Int)) = true := decide_eq_true c45
                              clear c45
                              by_cases c46 : (t452 == (rdOf false t442 a1)) = true
                              · rw [if_pos c46] at H
                                have c46b0 : (t452 == (rdOf false t442 a1)) = true := c46
                                (try (have c46b1 : decide (t452 = (rdOf false t442 a1)) = true := by simpa using c46))
                                (try (have c46b2 : (t452 == (rdOf false t442 a1)) = true := by simpa using c46))
                                clear c46
                                replace H := Option.bind_eq_some_iff.mp H
                                obtain ⟨t456, A470, H⟩ := H
                                replace H : (some t456) = some r := H
                                have A47 := Aside0.mk A470
                                clear A470
                                obtain rfl := Option.some.inj H
                                go_wp2_with (first | ((with_reducible refine gate_callee (f := 30) rfl ?_); refine goesL_ (some 141) rfl rfl Try.func30 (by kernel_rfl) rfl #[.slice A0 l0.length c0, .int .i64 a1] rfl (by (try simp only [List.map_toArray, List.map_cons, List.map_nil]); first | done | rfl | (simp only [List.length_drop, List.length_take]; rfl)) ?_; (with_reducible refine (nodes_Part.calls kj27 _ _ l0 a1 t448 t449 _ ?side1 ?side2 A40.out).mono ?_); (case side1 => repeat (first | exact (Kd.C_below HR0.out HB.out) | (with_reducible refine Kd.C_alloc ?_ _) | (with_reducible refine Kd.C_drewN ?_ _) | (with_reducible refine Kd.C_drew ?_))); (case side2 => exact HC0.out); rintro e w48 ⟨v450, rfl, ho0, hb⟩; refine ⟨_, rfl, ?_⟩; have n0_ := Aside0.mk (Kd.R_below (by (with_reducible repeat (first | apply Kd.R_alloc | apply Kd.R_drewN | apply Kd.R_drew)); exact HO_12.out) hb); have n1_ := Aside0.mk (Kd.R_lower ho0 (below_size (by repeat (first | (with_reducible first | exact HB.out | apply below_alloc | apply pw_below_drewN | apply below_drew1) | exact HB.out)))); have n2_ := Aside0.mk (below_step (by repeat (first | (with_reducible first | exact HB.out | apply below_alloc | apply pw_below_drewN | apply below_drew1) | exact HB.out)) hb); clear HO_12; clear HB; have HO_12 := n0_; have HO451 := n1_; have HB := n2_; clear n0_ n1_ n2_; (try clear hb); (try clear hb2); (try clear hk); (try clear hi); (try clear ho0); obtain ⟨Ao49, co49, eo49⟩ := Kd.R_slice HO451.out; subst eo49) | ((with_reducible refine gate_callee (f := 18) rfl ?_); refine goesL_ (some 146) rfl rfl Try.func18 (by kernel_rfl) rfl #[.slice Ao49 t448.length co49] rfl (by (try simp only [List.map_toArray, List.map_cons, List.map_nil]); first | done | rfl | (simp only [List.length_drop, List.length_take]; rfl)) ?_; (with_reducible refine (kinds_Of.calls _ _ t448 t452 t453 t454 _ ?side1 ?side2 A41.out).mono ?_); (case side1 => repeat (first | exact (Kd.R_reads' HO451.out).2.2 | (with_reducible refine Kd.C_alloc ?_ _) | (with_reducible refine Kd.C_drewN ?_ _) | (with_reducible refine Kd.C_drew ?_))); (case side2 => exact (Kd.R_reads' HO451.out).2.1); rintro e w50 ⟨rfl, hb⟩; refine ⟨_, rfl, ?_⟩; have n0_ := Aside0.mk (Kd.R_below (by (with_reducible repeat (first | apply Kd.R_alloc | apply Kd.R_drewN | apply Kd.R_drew)); exact HO_12.out) hb); have n1_ := Aside0.mk (Kd.R_below (by (with_reducible repeat (first | apply Kd.R_alloc | apply Kd.R_drewN | apply Kd.R_drew)); exact HO451.out) hb); have n2_ := Aside0.mk (below_step (by repeat (first | (with_reducible first | exact HB.out | apply below_alloc | apply pw_below_drewN | apply below_drew1) | exact HB.out)) hb); clear HO_12; clear HO451; clear HB; have HO_12 := n0_; have HO451 := n1_; have HB := n2_; clear n0_ n1_ n2_; (try clear hb); (try clear hb2); (try clear hk); (try clear hi); obtain ⟨Ao51, co51, eo51⟩ := Kd.R_slice HO_12.out; subst eo51; have p455 : 0 ≤ (a1 : Int) := of_decide_eq_true (by first | (with_reducible assumption) | assumption); have q455 : a1 < (t442.length : Int) := of_decide_eq_true (by first | (with_reducible assumption) | assumption); obtain ⟨ad455, e455, hx455_0⟩ := Kd.at_bool (Kd.R_reads' HO_12.out).2.2 a1 p455 q455; cases e455; replace p455 := eq_true p455; replace q455 := eq_true q455) | (go_at_call 17; (with_reducible refine (tailwaterlaw06_alive.calls  t456 _ A47.out).mono ?_); rintro e w52 ⟨rfl, hb⟩; have n0_ := Aside0.mk (Kd.R_below (by (with_reducible repeat (first | apply Kd.R_alloc | apply Kd.R_drewN | apply Kd.R_drew)); exact HO_12.out) hb); have n1_ := Aside0.mk (Kd.R_below (by (with_reducible repeat (first | apply Kd.R_alloc | apply Kd.R_drewN | apply Kd.R_drew)); exact HO451.out) hb); have n2_ := Aside0.mk (below_step (by repeat (first | (with_reducible first | exact HB.out | apply below_alloc | apply pw_below_drewN | apply below_drew1) | exact HB.out)) hb); clear HO_12; clear HO451; clear HB; have HO_12 := n0_; have HO451 := n1_; have HB := n2_; clear n0_ n1_ n2_; (try clear hb); (try clear hb2); (try clear hk); (try clear hi)))
                                go_ret
                                exact ⟨by first | rfl | (simp [errW_none, errW_some] <;> rfl) | (simp [*, errW_none, errW_some] <;> rfl), by repeat (first | (with_reducible first | exact HB.out | apply below_alloc | apply pw_below_drewN | apply below_drew1) | exact HB.out)⟩
                              · rw [if_neg c46] at H
                                have c46b0 : (t452 == (rdOf false t442 a1)) = false := by simpa using c46
                                (try (have c46b1 : decide (t452 = (rdOf false t442 a1)) = false := by simpa using c46))
                                (try (have c46b2 : (t452 == (rdOf false t442 a1)) = false := by simpa using c46))
                                (try (have c46b3 : ¬ (t452 = (rdOf false t442 a1)) := by simpa using c46))
                                clear c46
                                obtain rfl := Option.some.inj H
                                go_wp2_with (first | ((with_reducible refine gate_callee (f := 30) rfl ?_); refine goesL_ (some 141) rfl rfl Try.func30 (by kernel_rfl) rfl #[.slice A0 l0.length c0, .int .i64 a1] rfl (by (try simp only [List.map_toArray, List.map_cons, List.map_nil]); first | done | rfl | (simp only [List.length_drop, List.length_take]; rfl)) ?_; (with_reducible refine (nodes_Part.calls kj27 _ _ l0 a1 t448 t449 _ ?side1 ?side2 A40.out).mono ?_); (case side1 => repeat (first | exact (Kd.C_below HR0.out HB.out) | (with_reducible refine Kd.C_alloc ?_ _) | (with_reducible refine Kd.C_drewN ?_ _) | (with_reducible refine Kd.C_drew ?_))); (case side2 => exact HC0.out); rintro e w53 ⟨v450, rfl, ho0, hb⟩; refine ⟨_, rfl, ?_⟩; have n0_ := Aside0.mk (Kd.R_below (by (with_reducible repeat (first | apply Kd.R_alloc | apply Kd.R_drewN | apply Kd.R_drew)); exact HO_12.out) hb); have n1_ := Aside0.mk (Kd.R_lower ho0 (below_size (by repeat (first | (with_reducible first | exact HB.out | apply below_alloc | apply pw_below_drewN | apply below_drew1) | exact HB.out)))); have n2_ := Aside0.mk (below_step (by repeat (first | (with_reducible first | exact HB.out | apply below_alloc | apply pw_below_drewN | apply below_drew1) | exact HB.out)) hb); clear HO_12; clear HB; have HO_12 := n0_; have HO451 := n1_; have HB := n2_; clear n0_ n1_ n2_; (try clear hb); (try clear hb2); (try clear hk); (try clear hi); (try clear ho0); obtain ⟨Ao54, co54, eo54⟩ := Kd.R_slice HO451.out; subst eo54) | ((with_reducible refine gate_callee (f := 18) rfl ?_); refine goesL_ (some 146) rfl rfl Try.func18 (by kernel_rfl) rfl #[.slice Ao54 t448.length co54] rfl (by (try simp only [List.map_toArray, List.map_cons, List.map_nil]); first | done | rfl | (simp only [List.length_drop, List.length_take]; rfl)) ?_; (with_reducible refine (kinds_Of.calls _ _ t448 t452 t453 t454 _ ?side1 ?side2 A41.out).mono ?_); (case side1 => repeat (first | exact (Kd.R_reads' HO451.out).2.2 | (with_reducible refine Kd.C_alloc ?_ _) | (with_reducible refine Kd.C_drewN ?_ _) | (with_reducible refine Kd.C_drew ?_))); (case side2 => exact (Kd.R_reads' HO451.out).2.1); rintro e w55 ⟨rfl, hb⟩; refine ⟨_, rfl, ?_⟩; have n0_ := Aside0.mk (Kd.R_below (by (with_reducible repeat (first | apply Kd.R_alloc | apply Kd.R_drewN | apply Kd.R_drew)); exact HO_12.out) hb); have n1_ := Aside0.mk (Kd.R_below (by (with_reducible repeat (first | apply Kd.R_alloc | apply Kd.R_drewN | apply Kd.R_drew)); exact HO451.out) hb); have n2_ := Aside0.mk (below_step (by repeat (first | (with_reducible first | exact HB.out | apply below_alloc | apply pw_below_drewN | apply below_drew1) | exact HB.out)) hb); clear HO_12; clear HO451; clear HB; have HO_12 := n0_; have HO451 := n1_; have HB := n2_; clear n0_ n1_ n2_; (try clear hb); (try clear hb2); (try clear hk); (try clear hi); obtain ⟨Ao56, co56, eo56⟩ := Kd.R_slice HO_12.out; subst eo56; have p455 : 0 ≤ (a1 : Int) := of_decide_eq_true (by first | (with_reducible assumption) | assumption); have q455 : a1 < (t442.length : Int) := of_decide_eq_true (by first | (with_reducible assumption) | assumption); obtain ⟨ad455, e455, hx455_0⟩ := Kd.at_bool (Kd.R_reads' HO_12.out).2.2 a1 p455 q455; cases e455; replace p455 := eq_true p455; replace q455 := eq_true q455))
                                go_ret
                                exact ⟨by first | rfl | (simp [errW_none, errW_some] <;> rfl) | (simp [*, errW_none, errW_some] <;> rfl), by repeat (first | (with_reducible first | exact HB.out | apply below_alloc | apply pw_below_drewN | apply below_drew1) | exact HB.out)⟩
                            · rw [if_neg c45] at H
                              exact absurd H (by simp)
                          · rw [if_neg c44] at H
                            exact absurd H (by simp)
                        · rw [if_neg c43] at H
                          have c43b0 : (t454 == 0) = false := beq_eq_false_iff_ne.mpr c43
                          have c43b1 : (t454 != 0) = true := bne_iff_ne.mpr c43
                          obtain rfl := Option.some.inj H
                          go_wp2_with (first | ((with_reducible refine gate_callee (f := 30) rfl ?_); refine goesL_ (some 141) rfl rfl Try.func30 (by kernel_rfl) rfl #[.slice A0 l0.length c0, .int .i64 a1] rfl (by (try simp only [List.map_toArray, List.map_cons, List.map_nil]); first | done | rfl | (simp only [List.length_drop, List.length_take]; rfl)) ?_; (with_reducible refine (nodes_Part.calls kj27 _ _ l0 a1 t448 t449 _ ?side1 ?side2 A40.out).mono ?_); (case side1 => repeat (first | exact (Kd.C_below HR0.out HB.out) | (with_reducible refine Kd.C_alloc ?_ _) | (with_reducible refine Kd.C_drewN ?_ _) | (with_reducible refine Kd.C_drew ?_))); (case side2 => exact HC0.out); rintro e w57 ⟨v450, rfl, ho0, hb⟩; refine ⟨_, rfl, ?_⟩; have n0_ := Aside0.mk (Kd.R_below (by (with_reducible repeat (first | apply Kd.R_alloc | apply Kd.R_drewN | apply Kd.R_drew)); exact HO_12.out) hb); have n1_ := Aside0.mk (Kd.R_lower ho0 (below_size (by repeat (first | (with_reducible first | exact HB.out | apply below_alloc | apply pw_below_drewN | apply below_drew1) | exact HB.out)))); have n2_ := Aside0.mk (below_step (by repeat (first | (with_reducible first | exact HB.out | apply below_alloc | apply pw_below_drewN | apply below_drew1) | exact HB.out)) hb); clear HO_12; clear HB; have HO_12 := n0_; have HO451 := n1_; have HB := n2_; clear n0_ n1_ n2_; (try clear hb); (try clear hb2); (try clear hk); (try clear hi); (try clear ho0); obtain ⟨Ao58, co58, eo58⟩ := Kd.R_slice HO451.out; subst eo58) | ((with_reducible refine gate_callee (f := 18) rfl ?_); refine goesL_ (some 146) rfl rfl Try.func18 (by kernel_rfl) rfl #[.slice Ao58 t448.length co58] rfl (by (try simp only [List.map_toArray, List.map_cons, List.map_nil]); first | done | rfl | (simp only [List.length_drop, List.length_take]; rfl)) ?_; (with_reducible refine (kinds_Of.calls _ _ t448 t452 t453 t454 _ ?side1 ?side2 A41.out).mono ?_); (case side1 => repeat (first | exact (Kd.R_reads' HO451.out).2.2 | (with_reducible refine Kd.C_alloc ?_ _) | (with_reducible refine Kd.C_drewN ?_ _) | (with_reducible refine Kd.C_drew ?_))); (case side2 => exact (Kd.R_reads' HO451.out).2.1); rintro e w59 ⟨rfl, hb⟩; refine ⟨_, rfl, ?_⟩; have n0_ := Aside0.mk (Kd.R_below (by (with_reducible repeat (first | apply Kd.R_alloc | apply Kd.R_drewN | apply Kd.R_drew)); exact HO_12.out) hb); have n1_ := Aside0.mk (Kd.R_below (by (with_reducible repeat (first | apply Kd.R_alloc | apply Kd.R_drewN | apply Kd.R_drew)); exact HO451.out) hb); have n2_ := Aside0.mk (below_step (by repeat (first | (with_reducible first | exact HB.out | apply below_alloc | apply pw_below_drewN | apply below_drew1) | exact HB.out)) hb); clear HO_12; clear HO451; clear HB; have HO_12 := n0_; have HO451 := n1_; have HB := n2_; clear n0_ n1_ n2_; (try clear hb); (try clear hb2); (try clear hk); (try clear hi)))
                          go_ret
                          exact ⟨by first | rfl | (simp [errW_none, errW_some] <;> rfl) | (simp [*, errW_none, errW_some] <;> rfl), by repeat (first | (with_reducible first | exact HB.out | apply below_alloc | apply pw_below_drewN | apply below_drew1) | exact HB.out)⟩
                      · rw [if_neg c42] at H
                        have c42b0 : (t449 == 0) = false := beq_eq_false_iff_ne.mpr c42
                        have c42b1 : (t449 != 0) = true := bne_iff_ne.mpr c42
                        obtain rfl := Option.some.inj H
                        go_wp2_with (first | ((with_reducible refine gate_callee (f := 30) rfl ?_); refine goesL_ (some 141) rfl rfl Try.func30 (by kernel_rfl) rfl #[.slice A0 l0.length c0, .int .i64 a1] rfl (by (try simp only [List.map_toArray, List.map_cons, List.map_nil]); first | done | rfl | (simp only [List.length_drop, List.length_take]; rfl)) ?_; (with_reducible refine (nodes_Part.calls kj27 _ _ l0 a1 t448 t449 _ ?side1 ?side2 A40.out).mono ?_); (case side1 => repeat (first | exact (Kd.C_below HR0.out HB.out) | (with_reducible refine Kd.C_alloc ?_ _) | (with_reducible refine Kd.C_drewN ?_ _) | (with_reducible refine Kd.C_drew ?_))); (case side2 => exact HC0.out); rintro e w60 ⟨v450, rfl, ho0, hb⟩; refine ⟨_, rfl, ?_⟩; have n0_ := Aside0.mk (Kd.R_below (by (with_reducible repeat (first | apply Kd.R_alloc | apply Kd.R_drewN | apply Kd.R_drew)); exact HO_12.out) hb); have n1_ := Aside0.mk (Kd.R_lower ho0 (below_size (by repeat (first | (with_reducible first | exact HB.out | apply below_alloc | apply pw_below_drewN | apply below_drew1) | exact HB.out)))); have n2_ := Aside0.mk (below_step (by repeat (first | (with_reducible first | exact HB.out | apply below_alloc | apply pw_below_drewN | apply below_drew1) | exact HB.out)) hb); clear HO_12; clear HB; have HO_12 := n0_; have HO451 := n1_; have HB := n2_; clear n0_ n1_ n2_; (try clear hb); (try clear hb2); (try clear hk); (try clear hi); (try clear ho0); obtain ⟨Ao61, co61, eo61⟩ := Kd.R_slice HO451.out; subst eo61) | ((with_reducible refine gate_callee (f := 18) rfl ?_); refine goesL_ (some 146) rfl rfl Try.func18 (by kernel_rfl) rfl #[.slice Ao61 t448.length co61] rfl (by (try simp only [List.map_toArray, List.map_cons, List.map_nil]); first | done | rfl | (simp only [List.length_drop, List.length_take]; rfl)) ?_; (with_reducible refine (kinds_Of.calls _ _ t448 t452 t453 t454 _ ?side1 ?side2 A41.out).mono ?_); (case side1 => repeat (first | exact (Kd.R_reads' HO451.out).2.2 | (with_reducible refine Kd.C_alloc ?_ _) | (with_reducible refine Kd.C_drewN ?_ _) | (with_reducible refine Kd.C_drew ?_))); (case side2 => exact (Kd.R_reads' HO451.out).2.1); rintro e w62 ⟨rfl, hb⟩; refine ⟨_, rfl, ?_⟩; have n0_ := Aside0.mk (Kd.R_below (by (with_reducible repeat (first | apply Kd.R_alloc | apply Kd.R_drewN | apply Kd.R_drew)); exact HO_12.out) hb); have n1_ := Aside0.mk (Kd.R_below (by (with_reducible repeat (first | apply Kd.R_alloc | apply Kd.R_drewN | apply Kd.R_drew)); exact HO451.out) hb); have n2_ := Aside0.mk (below_step (by repeat (first | (with_reducible first | exact HB.out | apply below_alloc | apply pw_below_drewN | apply below_drew1) | exact HB.out)) hb); clear HO_12; clear HO451; clear HB; have HO_12 := n0_; have HO451 := n1_; have HB := n2_; clear n0_ n1_ n2_; (try clear hb); (try clear hb2); (try clear hk); (try clear hi)))
                        go_ret
                        exact ⟨by first | rfl | (simp [errW_none, errW_some] <;> rfl) | (simp [*, errW_none, errW_some] <;> rfl), by repeat (first | (with_reducible first | exact HB.out | apply below_alloc | apply pw_below_drewN | apply below_drew1) | exact HB.out)⟩
              · rw [if_neg c27] at H
                have c27b0 : (t437 == 0) = false := beq_eq_false_iff_ne.mpr c27
                have c27b1 : (t437 != 0) = true := bne_iff_ne.mpr c27
                by_cases c63 : t437 = 42
                · rw [if_pos c63] at H
                  have c63b0 : (t437 == 42) = true := beq_iff_eq.mpr c63
                  have c63b1 : (t437 != 42) = false := bne_eq_false_iff_eq.mpr c63
                  clear c63
                  by_cases c64 : t439 = t437
                  · rw [if_pos c64] at H
                    have c64b0 : (t439 == t437) = true := beq_iff_eq.mpr c64
                    have c64b1 : (t439 != t437) = false := bne_eq_false_iff_eq.mpr c64
                    clear c64
                    by_cases c65 : t441 = t437
                    · rw [if_pos c65] at H
                      have c65b0 : (t441 == t437) = true := beq_iff_eq.mpr c65
                      have c65b1 : (t441 != t437) = false := bne_eq_false_iff_eq.mpr c65
                      clear c65
                      by_cases c66 : t436 ≥ 0
                      · rw [if_pos c66] at H
                        have c66b0 : decide (0 ≤ t436) = true := decide_eq_true c66
                        clear c66
                        by_cases c67 : t436 < (l0.length : Int)
                        · rw [if_pos c67] at H
                          have c67b0 : decide (t436 < (l0.length : Int)) = true := decide_eq_true c67
                          clear c67
                          by_cases c68 : (t442.length : Int) = 0
                          · rw [if_pos c68] at H
                            have c68b0 : ((t442.length : Int) == 0) = true := beq_iff_eq.mpr c68
                            have c68b1 : ((t442.length : Int) != 0) = false := bne_eq_false_iff_eq.mpr c68
                            clear c68
                            replace H := Option.bind_eq_some_iff.mp H
                            obtain ⟨t446, A690, H⟩ := H
                            replace H : (some t446) = some r := H
                            have A69 := Aside0.mk A690
                            clear A690
                            obtain rfl := Option.some.inj H
                            obtain ⟨Ao70, co70, eo70⟩ := Kd.R_slice HO_12.out
                            subst eo70
                            go_wp2_with (first | (go_at_call 17; (with_reducible refine (tailwaterlaw06_alive.calls  t446 _ A69.out).mono ?_); rintro e w71 ⟨rfl, hb⟩; have n0_ := Aside0.mk (Kd.R_below (by (with_reducible repeat (first | apply Kd.R_alloc | apply Kd.R_drewN | apply Kd.R_drew)); exact HO_12.out) hb); have n1_ := Aside0.mk (below_step (by repeat (first | (with_reducible first | exact HB.out | apply below_alloc | apply pw_below_drewN | apply below_drew1) | exact HB.out)) hb); clear HO_12; clear HB; have HO_12 := n0_; have HB := n1_; clear n0_ n1_; (try clear hb); (try clear hb2); (try clear hk); (try clear hi)))
                            go_ret
                            exact ⟨by first | rfl | (simp [errW_none, errW_some] <;> rfl) | (simp [*, errW_none, errW_some] <;> rfl), by repeat (first | (with_reducible first | exact HB.out | apply below_alloc | apply pw_below_drewN | apply below_drew1) | exact HB.out)⟩
                          · rw [if_neg c68] at H
                            have c68b0 : ((t442.length : Int) == 0) = false := beq_eq_false_iff_ne.mpr c68
                            have c68b1 : ((t442.length : Int) != 0) = true := bne_iff_ne.mpr c68
                            have c68b2 : ¬ (t442 = []) := fun h_ => c68 (by rw [h_]; rfl)
                            obtain rfl := Option.some.inj H
                            obtain ⟨Ao72, co72, eo72⟩ := Kd.R_slice HO_12.out
                            subst eo72
                            go_wp2
                            go_ret
                            exact ⟨by first | rfl | (simp [errW_none, errW_some] <;> rfl) | (simp [*, errW_none, errW_some] <;> rfl), by repeat (first | (with_reducible first | exact HB.out | apply below_alloc | apply pw_below_drewN | apply below_drew1) | exact HB.out)⟩
                        · rw [if_neg c67] at H
                          have c67b0 : decide (t436 < (l0.length : Int)) = false := decide_eq_false c67
                          clear c67
                          obtain rfl := Option.some.inj H
                          go_wp2
                          go_ret
                          exact ⟨by first | rfl | (simp [errW_none, errW_some] <;> rfl) | (simp [*, errW_none, errW_some] <;> rfl), by repeat (first | (with_reducible first | exact HB.out | apply below_alloc | apply pw_below_drewN | apply below_drew1) | exact HB.out)⟩
                      · rw [if_neg c66] at H
                        have c66b0 : decide (0 ≤ t436) = false := decide_eq_false c66
                        clear c66
                        obtain rfl := Option.some.inj H
                        go_wp2
                        go_ret
                        exact ⟨by first | rfl | (simp [errW_none, errW_some] <;> rfl) | (simp [*, errW_none, errW_some] <;> rfl), by repeat (first | (with_reducible first | exact HB.out | apply below_alloc | apply pw_below_drewN | apply below_drew1) | exact HB.out)⟩
                    · rw [if_neg c65] at H
                      have c65b0 : (t441 == t437) = false := beq_eq_false_iff_ne.mpr c65
                      have c65b1 : (t441 != t437) = true := bne_iff_ne.mpr c65
                      obtain rfl := Option.some.inj H
                      go_wp2
                      go_ret
                      exact ⟨by first | rfl | (simp [errW_none, errW_some] <;> rfl) | (simp [*, errW_none, errW_some] <;> rfl), by repeat (first | (with_reducible first | exact HB.out | apply below_alloc | apply pw_below_drewN | apply below_drew1) | exact HB.out)⟩
                  · rw [if_neg c64] at H
                    have c64b0 : (t439 == t437) = false := beq_eq_false_iff_ne.mpr c64
                    have c64b1 : (t439 != t437) = true := bne_iff_ne.mpr c64
                    obtain rfl := Option.some.inj H
                    go_wp2
                    go_ret
                    exact ⟨by first | rfl | (simp [errW_none, errW_some] <;> rfl) | (simp [*, errW_none, errW_some] <;> rfl), by repeat (first | (with_reducible first | exact HB.out | apply below_alloc | apply pw_below_drewN | apply below_drew1) | exact HB.out)⟩
                · rw [if_neg c63] at H
                  have c63b0 : (t437 == 42) = false := beq_eq_false_iff_ne.mpr c63
                  have c63b1 : (t437 != 42) = true := bne_iff_ne.mpr c63
                  obtain rfl := Option.some.inj H
                  go_wp2
                  go_ret
                  exact ⟨by first | rfl | (simp [errW_none, errW_some] <;> rfl) | (simp [*, errW_none, errW_some] <;> rfl), by repeat (first | (with_reducible first | exact HB.out | apply below_alloc | apply pw_below_drewN | apply below_drew1) | exact HB.out)⟩

end Go.Proofs.Ytijdckamblaflaa.M
