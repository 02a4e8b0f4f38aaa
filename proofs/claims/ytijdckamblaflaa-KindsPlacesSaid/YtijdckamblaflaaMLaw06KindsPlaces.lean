-- PRINTED by print.py (a twelfth state) out of the translation. Not trusted: Lean checks it.
import Derived.Test.YtijdckamblaflaaMTypes
import Derived.Test.YtijdckamblaflaaMKindsOf
import Derived.Test.YtijdckamblaflaaMLaw06Alive
import Derived.Test.YtijdckamblaflaaMRef04Check
import Derived.Test.YtijdckamblaflaaMRef04Great
namespace Go.Proofs.Ytijdckamblaflaa.M
open Go.RowKit Go.Proofs.YtijdckamblaflaaW.PrintWords Go.Proofs.YtijdckamblaflaaW.PrintLast Go.Proofs.YtijdckamblaflaaW.PrintMore
attribute [local go_sem] max2_int min2_int max_two min_two max_three min_three max_four min_four   -- for this text's walks alone
set_option linter.unusedVariables false
set_option linter.unusedSimpArgs false

/-! ### tailwaterlaw06_KindsPlaces: function 3 -/
mutual
def tailwaterlaw06_KindsPlaces.j0 : Nat → List (S27) → Int → Int → Bool → Option (Bool)
  | 0, _, _, _, _ => none
  | k + 1, x0, x1, x2, x37 => if x37 = true then ((tailwaterlaw06_alive.f).bind fun t229 => (some t229)) else ((some (([] : List (S27)) : List (S27))).bind fun y230 => (if y230.length + x0.length < 3518437208883 then (tailwaterlaw06_KindsPlaces.l0 k x0 x1 x2 (y230 ++ x0) 0) else (none)))
def tailwaterlaw06_KindsPlaces.l0 : Nat → List (S27) → Int → Int → List (S27) → Int → Option (Bool)
  | 0, _, _, _, _, _ => none
  | k + 1, x0, x1, x2, x7, x8 => if x8 < (x7.length : Int) then (if 0 ≤ x8 then ((some (x7.set (x8 : Int).toNat (⟨(rd_T27 x7 x8).f0, (rd_T27 x7 x8).f1, (rd_T27 x7 x8).f2, (rd_T27 x7 x8).f3, x1⟩ : S27) : List (S27))).bind fun y236 => (if ((rd_T27 y236 x8).f0) ≤ 4 then ((some (y236.set (x8 : Int).toNat (⟨x2, (rd_T27 y236 x8).f1, (rd_T27 y236 x8).f2, (rd_T27 y236 x8).f3, (rd_T27 y236 x8).f4⟩ : S27) : List (S27))).bind fun y238 => (tailwaterlaw06_KindsPlaces.l0 k x0 x1 x2 (y238.set (x8 : Int).toNat (⟨(rd_T27 y238 x8).f0, 0, (rd_T27 y238 x8).f2, (rd_T27 y238 x8).f3, (rd_T27 y238 x8).f4⟩ : S27)) (wrap64 (x8 + 1)))) else (tailwaterlaw06_KindsPlaces.l0 k x0 x1 x2 y236 (wrap64 (x8 + 1))))) else (none)) else ((kinds_Of.f x0).bind fun bt240 => ((kinds_Of.f x7).bind fun bt243 => (if (bt240.1 == bt243.1) = true then (if bt240.2.1 = bt243.2.1 then (if bt240.2.2 = bt243.2.2 then ((tailwaterlaw06_alive.f).bind fun t246 => (some t246)) else (some false)) else (some false)) else (some false))))
end
def tailwaterlaw06_KindsPlaces.f (k : Nat) (l0 : List (S27)) (a1 : Int) (a2 : Int) : Option (Bool) := (tailwaterref04_Great.f l0).bind fun t227 => (if t227 = true then (tailwaterlaw06_KindsPlaces.j0 k l0 a1 a2 true) else ((tailwaterref04_Check.f k l0).bind fun t228 => (if t228 = 0 then (if a1 < 0 then (tailwaterlaw06_KindsPlaces.j0 k l0 a1 a2 true) else (if a1 > 400 then (tailwaterlaw06_KindsPlaces.j0 k l0 a1 a2 true) else (if a2 < 1 then (tailwaterlaw06_KindsPlaces.j0 k l0 a1 a2 true) else (tailwaterlaw06_KindsPlaces.j0 k l0 a1 a2 (decide (a2 > 4)))))) else (tailwaterlaw06_KindsPlaces.j0 k l0 a1 a2 true))))
theorem tailwaterlaw06_KindsPlaces.mono_l : ∀ k, (∀ y0 y1 y2 y3, LeO (tailwaterlaw06_KindsPlaces.j0 k y0 y1 y2 y3) (tailwaterlaw06_KindsPlaces.j0 (k + 1) y0 y1 y2 y3)) ∧ (∀ y0 y1 y2 y3 y4, LeO (tailwaterlaw06_KindsPlaces.l0 k y0 y1 y2 y3 y4) (tailwaterlaw06_KindsPlaces.l0 (k + 1) y0 y1 y2 y3 y4))
  | 0 => ⟨fun _ _ _ _ r h => by simp [tailwaterlaw06_KindsPlaces.j0] at h, fun _ _ _ _ _ r h => by simp [tailwaterlaw06_KindsPlaces.l0] at h⟩
  | k + 1 => by
    obtain ⟨ih0, ih1⟩ := tailwaterlaw06_KindsPlaces.mono_l k
    refine ⟨?_, ?_⟩
    · intro y0 y1 y2 y3
      unfold tailwaterlaw06_KindsPlaces.j0
      repeat' first
      | (with_reducible exact ih0 _ _ _ _)
      | (with_reducible exact ih1 _ _ _ _ _)
      | (with_reducible exact tailwaterref04_Check.mono _ _)
      | (with_reducible exact LeO.refl _)
      | (with_reducible exact LeO.none _)
      | (with_reducible refine LeO.ite ?_ ?_)
      | (with_reducible refine LeO.bind ?_ (fun _ => ?_))
      | exact ih0 _ _ _ _
      | exact ih1 _ _ _ _ _
      | exact tailwaterref04_Check.mono _ _
      | exact LeO.none _
      | refine LeO.ite ?_ ?_
      | refine LeO.bind ?_ (fun _ => ?_)
    · intro y0 y1 y2 y3 y4
      unfold tailwaterlaw06_KindsPlaces.l0
      repeat' first
      | (with_reducible exact ih0 _ _ _ _)
      | (with_reducible exact ih1 _ _ _ _ _)
      | (with_reducible exact tailwaterref04_Check.mono _ _)
      | (with_reducible exact LeO.refl _)
      | (with_reducible exact LeO.none _)
      | (with_reducible refine LeO.ite ?_ ?_)
      | (with_reducible refine LeO.bind ?_ (fun _ => ?_))
      | exact ih0 _ _ _ _
      | exact ih1 _ _ _ _ _
      | exact tailwaterref04_Check.mono _ _
      | exact LeO.none _
      | refine LeO.ite ?_ ?_
      | refine LeO.bind ?_ (fun _ => ?_)
theorem tailwaterlaw06_KindsPlaces.mono : ∀ a0 a1 a2 k, LeO (tailwaterlaw06_KindsPlaces.f k a0 a1 a2) (tailwaterlaw06_KindsPlaces.f (k + 1) a0 a1 a2) := by
  intro a0 a1 a2 k
  obtain ⟨ih0, ih1⟩ := tailwaterlaw06_KindsPlaces.mono_l k
  unfold tailwaterlaw06_KindsPlaces.f
  repeat' first
      | (with_reducible exact ih0 _ _ _ _)
      | (with_reducible exact ih1 _ _ _ _ _)
      | (with_reducible exact tailwaterref04_Check.mono _ _)
      | (with_reducible exact LeO.refl _)
      | (with_reducible exact LeO.none _)
      | (with_reducible refine LeO.ite ?_ ?_)
      | (with_reducible refine LeO.bind ?_ (fun _ => ?_))
      | exact ih0 _ _ _ _
      | exact ih1 _ _ _ _ _
      | exact tailwaterref04_Check.mono _ _
      | exact LeO.none _
      | refine LeO.ite ?_ ?_
      | refine LeO.bind ?_ (fun _ => ?_)
set_option maxHeartbeats 8000000 in
set_option maxRecDepth 100000 in
theorem tailwaterlaw06_KindsPlaces.calls (k : Nat) (A0 : Option Addr) (c0 : Nat) (l0 : List (S27)) (a1 : Int) (a2 : Int) (r : Bool) (w : World) (hr0 : Kd.C k27 w A0 l0.length l0) (hc0 : l0.length ≤ c0) (h : tailwaterlaw06_KindsPlaces.f k l0 a1 a2 = some r) :
    Calls Try.prog 3 #[.slice A0 l0.length c0, .int .i64 a1, .int .u8 a2] w fun e w' => e = .returned (.bool r) ∧ Below w.heap.size w w' := by
  have HR0 := Aside0.mk hr0
  have HC0 := Aside0.mk hc0
  clear hr0 hc0
  have HB := Aside0.mk (Below.refl w.heap.size w)
  have H : ((tailwaterref04_Great.f l0).bind fun t227 => (if t227 = true then (tailwaterlaw06_KindsPlaces.j0 k l0 a1 a2 true) else ((tailwaterref04_Check.f k l0).bind fun t228 => (if t228 = 0 then (if a1 < 0 then (tailwaterlaw06_KindsPlaces.j0 k l0 a1 a2 true) else (if a1 > 400 then (tailwaterlaw06_KindsPlaces.j0 k l0 a1 a2 true) else (if a2 < 1 then (tailwaterlaw06_KindsPlaces.j0 k l0 a1 a2 true) else (tailwaterlaw06_KindsPlaces.j0 k l0 a1 a2 (decide (a2 > 4)))))) else (tailwaterlaw06_KindsPlaces.j0 k l0 a1 a2 true))))) = some r := h
  clear h
  have HC4 := Aside0.mk H
  clear H
  go_enter Try.func3, Try.ntmps3
  go_upto_region 1 with (fail)
  go_cut [37] (fun v37 wc => ∃ (kq : Nat) (x37_3 : Bool), v37 = .bool x37_3 ∧ Aside0 (tailwaterlaw06_KindsPlaces.j0 kq l0 a1 a2 x37_3 = some r) ∧ Aside0 (kq ≤ k) ∧ Aside0 (Below w.heap.size w wc))
  case first =>
    have H := HC4.out
    clear HC4
    replace H := Option.bind_eq_some_iff.mp H
    obtain ⟨t227, A50, H⟩ := H
    replace H : (if t227 = true then (tailwaterlaw06_KindsPlaces.j0 k l0 a1 a2 true) else ((tailwaterref04_Check.f k l0).bind fun t228 => (if t228 = 0 then (if a1 < 0 then (tailwaterlaw06_KindsPlaces.j0 k l0 a1 a2 true) else (if a1 > 400 then (tailwaterlaw06_KindsPlaces.j0 k l0 a1 a2 true) else (if a2 < 1 then (tailwaterlaw06_KindsPlaces.j0 k l0 a1 a2 true) else (tailwaterlaw06_KindsPlaces.j0 k l0 a1 a2 (decide (a2 > 4)))))) else (tailwaterlaw06_KindsPlaces.j0 k l0 a1 a2 true)))) = some r := H
    have A5 := Aside0.mk A50
    clear A50
    by_cases c6 : t227 = true
    · subst c6
      have H1 : (tailwaterlaw06_KindsPlaces.j0 k l0 a1 a2 true) = some r := by rw [if_pos rfl] at H; exact H
      clear H
      have H := H1
      clear H1
      have H' := Aside0.mk H
      clear H
      go_wp2_with (first | ((with_reducible refine gate_callee (f := 15) rfl ?_); refine goesL_ (some 16) rfl rfl Try.func15 (by kernel_rfl) rfl #[.slice A0 l0.length c0] rfl (by (try simp only [List.map_toArray, List.map_cons, List.map_nil]); first | done | rfl | (simp only [List.length_drop, List.length_take]; rfl)) ?_; (with_reducible refine (tailwaterref04_Great.calls _ _ l0 true _ ?side1 ?side2 A5.out).mono ?_); (case side1 => repeat (first | exact (Kd.C_below HR0.out HB.out) | (with_reducible refine Kd.C_alloc ?_ _) | (with_reducible refine Kd.C_drewN ?_ _) | (with_reducible refine Kd.C_drew ?_))); (case side2 => exact HC0.out); rintro e w' ⟨rfl, ⟨nd, rfl⟩⟩; refine ⟨_, rfl, ?_⟩))
      go_meet
      case rel => exact ⟨_, (true), (by first | rfl | (simp; done) | (simp [*]; done)), H', ⟨by first | omega | exact Nat.le_refl _⟩, ⟨by repeat (first | (with_reducible first | exact HB.out | apply below_alloc | apply pw_below_drewN | apply below_drew1) | exact HB.out)⟩⟩
    · replace c6 := Bool.eq_false_iff.mpr c6
      subst c6
      have H1 : ((tailwaterref04_Check.f k l0).bind fun t228 => (if t228 = 0 then (if a1 < 0 then (tailwaterlaw06_KindsPlaces.j0 k l0 a1 a2 true) else (if a1 > 400 then (tailwaterlaw06_KindsPlaces.j0 k l0 a1 a2 true) else (if a2 < 1 then (tailwaterlaw06_KindsPlaces.j0 k l0 a1 a2 true) else (tailwaterlaw06_KindsPlaces.j0 k l0 a1 a2 (decide (a2 > 4)))))) else (tailwaterlaw06_KindsPlaces.j0 k l0 a1 a2 true))) = some r := by rw [if_neg (show ¬ (false = true) by decide)] at H; exact H
      clear H
      have H := H1
      clear H1
      replace H := Option.bind_eq_some_iff.mp H
      obtain ⟨t228, A70, H⟩ := H
      replace H : (if t228 = 0 then (if a1 < 0 then (tailwaterlaw06_KindsPlaces.j0 k l0 a1 a2 true) else (if a1 > 400 then (tailwaterlaw06_KindsPlaces.j0 k l0 a1 a2 true) else (if a2 < 1 then (tailwaterlaw06_KindsPlaces.j0 k l0 a1 a2 true) else (tailwaterlaw06_KindsPlaces.j0 k l0 a1 a2 (decide (a2 > 4)))))) else (tailwaterlaw06_KindsPlaces.j0 k l0 a1 a2 true)) = some r := H
      have A7 := Aside0.mk A70
      clear A70
      by_cases c8 : t228 = 0
      · rw [if_pos c8] at H
        have c8b0 : (t228 == 0) = true := beq_iff_eq.mpr c8
        have c8b1 : (t228 != 0) = false := bne_eq_false_iff_eq.mpr c8
        clear c8
        (first | rw [c8b0] | (simp only [i64_w, i32_w]; rw [c8b0]) | skip)
        by_cases c9 : a1 < 0
        · rw [if_pos c9] at H
          have c9b0 : decide (a1 < 0) = true := decide_eq_true c9
          clear c9
          have H' := Aside0.mk H
          clear H
          go_wp2_with (first | ((with_reducible refine gate_callee (f := 15) rfl ?_); refine goesL_ (some 16) rfl rfl Try.func15 (by kernel_rfl) rfl #[.slice A0 l0.length c0] rfl (by (try simp only [List.map_toArray, List.map_cons, List.map_nil]); first | done | rfl | (simp only [List.length_drop, List.length_take]; rfl)) ?_; (with_reducible refine (tailwaterref04_Great.calls _ _ l0 false _ ?side1 ?side2 A5.out).mono ?_); (case side1 => repeat (first | exact (Kd.C_below HR0.out HB.out) | (with_reducible refine Kd.C_alloc ?_ _) | (with_reducible refine Kd.C_drewN ?_ _) | (with_reducible refine Kd.C_drew ?_))); (case side2 => exact HC0.out); rintro e w' ⟨rfl, ⟨nd, rfl⟩⟩; refine ⟨_, rfl, ?_⟩) | (go_at_call 16; (with_reducible refine (tailwaterref04_Check.calls k _ _ l0 t228 _ ?side1 ?side2 A7.out).mono ?_); (case side1 => repeat (first | exact (Kd.C_below HR0.out (by repeat (first | (with_reducible first | exact HB.out | apply below_alloc | apply pw_below_drewN | apply below_drew1) | exact HB.out))) | (with_reducible refine Kd.C_alloc ?_ _) | (with_reducible refine Kd.C_drewN ?_ _) | (with_reducible refine Kd.C_drew ?_))); (case side2 => exact HC0.out); rintro e w10 ⟨rfl, hb⟩; have n0_ := Aside0.mk (below_step (by repeat (first | (with_reducible first | exact HB.out | apply below_alloc | apply pw_below_drewN | apply below_drew1) | exact HB.out)) hb); clear HB; have HB := n0_; clear n0_; (try clear hb); (try clear hb2); (try clear hk); (try clear hi)))
          go_meet
          case rel => exact ⟨_, (true), (by first | rfl | (simp; done) | (simp [*]; done)), H', ⟨by first | omega | exact Nat.le_refl _⟩, ⟨by repeat (first | (with_reducible first | exact HB.out | apply below_alloc | apply pw_below_drewN | apply below_drew1) | exact HB.out)⟩⟩
        · rw [if_neg c9] at H
          have c9b0 : decide (a1 < 0) = false := decide_eq_false c9
          clear c9
          by_cases c11 : a1 > 400
          · rw [if_pos c11] at H
            have c11b0 : decide (400 < a1) = true := decide_eq_true c11
            clear c11
            have H' := Aside0.mk H
            clear H
            go_wp2_with (first | ((with_reducible refine gate_callee (f := 15) rfl ?_); refine goesL_ (some 16) rfl rfl Try.func15 (by kernel_rfl) rfl #[.slice A0 l0.length c0] rfl (by (try simp only [List.map_toArray, List.map_cons, List.map_nil]); first | done | rfl | (simp only [List.length_drop, List.length_take]; rfl)) ?_; (with_reducible refine (tailwaterref04_Great.calls _ _ l0 false _ ?side1 ?side2 A5.out).mono ?_); (case side1 => repeat (first | exact (Kd.C_below HR0.out HB.out) | (with_reducible refine Kd.C_alloc ?_ _) | (with_reducible refine Kd.C_drewN ?_ _) | (with_reducible refine Kd.C_drew ?_))); (case side2 => exact HC0.out); rintro e w' ⟨rfl, ⟨nd, rfl⟩⟩; refine ⟨_, rfl, ?_⟩) | (go_at_call 16; (with_reducible refine (tailwaterref04_Check.calls k _ _ l0 t228 _ ?side1 ?side2 A7.out).mono ?_); (case side1 => repeat (first | exact (Kd.C_below HR0.out (by repeat (first | (with_reducible first | exact HB.out | apply below_alloc | apply pw_below_drewN | apply below_drew1) | exact HB.out))) | (with_reducible refine Kd.C_alloc ?_ _) | (with_reducible refine Kd.C_drewN ?_ _) | (with_reducible refine Kd.C_drew ?_))); (case side2 => exact HC0.out); rintro e w12 ⟨rfl, hb⟩; have n0_ := Aside0.mk (below_step (by repeat (first | (with_reducible first | exact HB.out | apply below_alloc | apply pw_below_drewN | apply below_drew1) | exact HB.out)) hb); clear HB; have HB := n0_; clear n0_; (try clear hb); (try clear hb2); (try clear hk); (try clear hi)))
            go_meet
            case rel => exact ⟨_, (true), (by first | rfl | (simp; done) | (simp [*]; done)), H', ⟨by first | omega | exact Nat.le_refl _⟩, ⟨by repeat (first | (with_reducible first | exact HB.out | apply below_alloc | apply pw_below_drewN | apply below_drew1) | exact HB.out)⟩⟩
          · rw [if_neg c11] at H
            have c11b0 : decide (400 < a1) = false := decide_eq_false c11
            clear c11
            by_cases c13 : a2 < 1
            · rw [if_pos c13] at H
              have c13b0 : decide (a2 < 1) = true := decide_eq_true c13
              clear c13
              have H' := Aside0.mk H
              clear H
              go_wp2_with (first | ((with_reducible refine gate_callee (f := 15) rfl ?_); refine goesL_ (some 16) rfl rfl Try.func15 (by kernel_rfl) rfl #[.slice A0 l0.length c0] rfl (by (try simp only [List.map_toArray, List.map_cons, List.map_nil]); first | done | rfl | (simp only [List.length_drop, List.length_take]; rfl)) ?_; (with_reducible refine (tailwaterref04_Great.calls _ _ l0 false _ ?side1 ?side2 A5.out).mono ?_); (case side1 => repeat (first | exact (Kd.C_below HR0.out HB.out) | (with_reducible refine Kd.C_alloc ?_ _) | (with_reducible refine Kd.C_drewN ?_ _) | (with_reducible refine Kd.C_drew ?_))); (case side2 => exact HC0.out); rintro e w' ⟨rfl, ⟨nd, rfl⟩⟩; refine ⟨_, rfl, ?_⟩) | (go_at_call 16; (with_reducible refine (tailwaterref04_Check.calls k _ _ l0 t228 _ ?side1 ?side2 A7.out).mono ?_); (case side1 => repeat (first | exact (Kd.C_below HR0.out (by repeat (first | (with_reducible first | exact HB.out | apply below_alloc | apply pw_below_drewN | apply below_drew1) | exact HB.out))) | (with_reducible refine Kd.C_alloc ?_ _) | (with_reducible refine Kd.C_drewN ?_ _) | (with_reducible refine Kd.C_drew ?_))); (case side2 => exact HC0.out); rintro e w14 ⟨rfl, hb⟩; have n0_ := Aside0.mk (below_step (by repeat (first | (with_reducible first | exact HB.out | apply below_alloc | apply pw_below_drewN | apply below_drew1) | exact HB.out)) hb); clear HB; have HB := n0_; clear n0_; (try clear hb); (try clear hb2); (try clear hk); (try clear hi)))
              go_meet
              case rel => exact ⟨_, (true), (by first | rfl | (simp; done) | (simp [*]; done)), H', ⟨by first | omega | exact Nat.le_refl _⟩, ⟨by repeat (first | (with_reducible first | exact HB.out | apply below_alloc | apply pw_below_drewN | apply below_drew1) | exact HB.out)⟩⟩
            · rw [if_neg c13] at H
              have c13b0 : decide (a2 < 1) = false := decide_eq_false c13
              clear c13
              have H' := Aside0.mk H
              clear H
              go_wp2_with (first | ((with_reducible refine gate_callee (f := 15) rfl ?_); refine goesL_ (some 16) rfl rfl Try.func15 (by kernel_rfl) rfl #[.slice A0 l0.length c0] rfl (by (try simp only [List.map_toArray, List.map_cons, List.map_nil]); first | done | rfl | (simp only [List.length_drop, List.length_take]; rfl)) ?_; (with_reducible refine (tailwaterref04_Great.calls _ _ l0 false _ ?side1 ?side2 A5.out).mono ?_); (case side1 => repeat (first | exact (Kd.C_below HR0.out HB.out) | (with_reducible refine Kd.C_alloc ?_ _) | (with_reducible refine Kd.C_drewN ?_ _) | (with_reducible refine Kd.C_drew ?_))); (case side2 => exact HC0.out); rintro e w' ⟨rfl, ⟨nd, rfl⟩⟩; refine ⟨_, rfl, ?_⟩) | (go_at_call 16; (with_reducible refine (tailwaterref04_Check.calls k _ _ l0 t228 _ ?side1 ?side2 A7.out).mono ?_); (case side1 => repeat (first | exact (Kd.C_below HR0.out (by repeat (first | (with_reducible first | exact HB.out | apply below_alloc | apply pw_below_drewN | apply below_drew1) | exact HB.out))) | (with_reducible refine Kd.C_alloc ?_ _) | (with_reducible refine Kd.C_drewN ?_ _) | (with_reducible refine Kd.C_drew ?_))); (case side2 => exact HC0.out); rintro e w15 ⟨rfl, hb⟩; have n0_ := Aside0.mk (below_step (by repeat (first | (with_reducible first | exact HB.out | apply below_alloc | apply pw_below_drewN | apply below_drew1) | exact HB.out)) hb); clear HB; have HB := n0_; clear n0_; (try clear hb); (try clear hb2); (try clear hk); (try clear hi)))
              go_meet
              case rel => exact ⟨_, (decide (a2 > 4)), (by first | rfl | (simp; done) | (simp [*]; done)), H', ⟨by first | omega | exact Nat.le_refl _⟩, ⟨by repeat (first | (with_reducible first | exact HB.out | apply below_alloc | apply pw_below_drewN | apply below_drew1) | exact HB.out)⟩⟩
      · rw [if_neg c8] at H
        have c8b0 : (t228 == 0) = false := beq_eq_false_iff_ne.mpr c8
        have c8b1 : (t228 != 0) = true := bne_iff_ne.mpr c8
        (first | rw [c8b0] | (simp only [i64_w, i32_w]; rw [c8b0]) | skip)
        have H' := Aside0.mk H
        clear H
        go_wp2_with (first | ((with_reducible refine gate_callee (f := 15) rfl ?_); refine goesL_ (some 16) rfl rfl Try.func15 (by kernel_rfl) rfl #[.slice A0 l0.length c0] rfl (by (try simp only [List.map_toArray, List.map_cons, List.map_nil]); first | done | rfl | (simp only [List.length_drop, List.length_take]; rfl)) ?_; (with_reducible refine (tailwaterref04_Great.calls _ _ l0 false _ ?side1 ?side2 A5.out).mono ?_); (case side1 => repeat (first | exact (Kd.C_below HR0.out HB.out) | (with_reducible refine Kd.C_alloc ?_ _) | (with_reducible refine Kd.C_drewN ?_ _) | (with_reducible refine Kd.C_drew ?_))); (case side2 => exact HC0.out); rintro e w' ⟨rfl, ⟨nd, rfl⟩⟩; refine ⟨_, rfl, ?_⟩) | (go_at_call 16; (with_reducible refine (tailwaterref04_Check.calls k _ _ l0 t228 _ ?side1 ?side2 A7.out).mono ?_); (case side1 => repeat (first | exact (Kd.C_below HR0.out (by repeat (first | (with_reducible first | exact HB.out | apply below_alloc | apply pw_below_drewN | apply below_drew1) | exact HB.out))) | (with_reducible refine Kd.C_alloc ?_ _) | (with_reducible refine Kd.C_drewN ?_ _) | (with_reducible refine Kd.C_drew ?_))); (case side2 => exact HC0.out); rintro e w16 ⟨rfl, hb⟩; have n0_ := Aside0.mk (below_step (by repeat (first | (with_reducible first | exact HB.out | apply below_alloc | apply pw_below_drewN | apply below_drew1) | exact HB.out)) hb); clear HB; have HB := n0_; clear n0_; (try clear hb); (try clear hb2); (try clear hk); (try clear hi)))
        go_meet
        case rel => exact ⟨_, (true), (by first | rfl | (simp; done) | (simp [*]; done)), H', ⟨by first | omega | exact Nat.le_refl _⟩, ⟨by repeat (first | (with_reducible first | exact HB.out | apply below_alloc | apply pw_below_drewN | apply below_drew1) | exact HB.out)⟩⟩
  case rest =>
    clear HC4
    try clear c1
    try clear p2
    try clear c3
    try clear c6
    try clear c8
    try clear c8b0
    try clear c8b1
    try clear c9
    try clear c9b0
    try clear c11
    try clear c11b0
    try clear c13
    try clear c13b0
    try clear c15
    obtain ⟨kq, x37_3, rfl, HA, HJ3, HB⟩ := hcut
    cases kq with
    | zero => exact absurd HA.out (by simp [tailwaterlaw06_KindsPlaces.j0])
    | succ kj3 =>
      have H := HA.out
      clear HA
      simp only [tailwaterlaw06_KindsPlaces.j0] at H
      by_cases c17 : x37_3 = true
      · subst c17
        have H1 : ((tailwaterlaw06_alive.f).bind fun t229 => (some t229)) = some r := by rw [if_pos rfl] at H; exact H
        clear H
        have H := H1
        clear H1
        replace H := Option.bind_eq_some_iff.mp H
        obtain ⟨t229, A180, H⟩ := H
        replace H : (some t229) = some r := H
        have A18 := Aside0.mk A180
        clear A180
        obtain rfl := Option.some.inj H
        go_wp2_with (first | ((with_reducible refine gate_callee (f := 17) rfl ?_); refine goesL_ (some 38) rfl rfl Try.func17 (by kernel_rfl) rfl #[] rfl (by (try simp only [List.map_toArray, List.map_cons, List.map_nil]); first | done | rfl | (simp only [List.length_drop, List.length_take]; rfl)) ?_; (with_reducible refine (tailwaterlaw06_alive.calls  t229 _ A18.out).mono ?_); rintro e w19 ⟨rfl, hb⟩; refine ⟨_, rfl, ?_⟩; have n0_ := Aside0.mk (below_step (by repeat (first | (with_reducible first | exact HB.out | apply below_alloc | apply pw_below_drewN | apply below_drew1) | exact HB.out)) hb); clear HB; have HB := n0_; clear n0_; (try clear hb); (try clear hb2); (try clear hk); (try clear hi)))
        go_ret
        exact ⟨by first | rfl | (simp [errW_none, errW_some] <;> rfl) | (simp [*, errW_none, errW_some] <;> rfl), by repeat (first | (with_reducible first | exact HB.out | apply below_alloc | apply pw_below_drewN | apply below_drew1) | exact HB.out)⟩
      · replace c17 := Bool.eq_false_iff.mpr c17
        subst c17
        have H1 : ((some (([] : List (S27)) : List (S27))).bind fun y230 => (if y230.length + l0.length < 3518437208883 then (tailwaterlaw06_KindsPlaces.l0 kj3 l0 a1 a2 (y230 ++ l0) 0) else (none))) = some r := by rw [if_neg (show ¬ (false = true) by decide)] at H; exact H
        clear H
        have H := H1
        clear H1
        obtain ⟨y230, hy230⟩ : ∃ y_ : List (S27), y_ = (([] : List (S27))) := ⟨_, rfl⟩
        replace H : (if y230.length + l0.length < 3518437208883 then (tailwaterlaw06_KindsPlaces.l0 kj3 l0 a1 a2 (y230 ++ l0) 0) else (none)) = some r := by first | (rw [hy230]; with_reducible exact H) | (have H2_ := (Option.bind_some _ _).symm.trans H; rw [hy230]; with_reducible exact H2_) | (have H2_ := (Option.bind_some _ _).symm.trans H; with_reducible exact H2_) | with_reducible exact H | (rw [hy230]; exact H) | exact H
        have Ny230 := Aside0.mk hy230
        clear hy230
        by_cases c20 : y230.length + l0.length < 3518437208883
        · rw [if_pos c20] at H
          have LMc20 := Aside0.mk c20
          clear c20
          obtain ⟨y233, hy233⟩ : ∃ y_ : List (S27), y_ = (y230 ++ l0) := ⟨_, rfl⟩
          replace H : (tailwaterlaw06_KindsPlaces.l0 kj3 l0 a1 a2 y233 0) = some r := by first | (rw [hy233]; with_reducible exact H) | (have H2_ := (Option.bind_some _ _).symm.trans H; rw [hy233]; with_reducible exact H2_) | (have H2_ := (Option.bind_some _ _).symm.trans H; with_reducible exact H2_) | with_reducible exact H | (rw [hy233]; exact H) | exact H
          have Ny233 := Aside0.mk hy233
          clear hy233
          have H' := Aside0.mk H
          clear H
          go_wp2_with (first | ((with_reducible refine gate_dst (N := 39) rfl ?_); refine Kd.R_lit k27 _ 27 ?hg (N := 39) ?hd (xs := ([] : List (S27))) (inner := []) (ok := fun _ => True) (okp := fun _ => True) ?hr ?hp (fun _ hk => hk) trivial (Below.refl _ _) (Nat.le_refl _) (by simp) ?_; (case hd => rfl); (case hg => rfl); (case hr => first | (go_simp; done) | (go_simp; rfl)); (case hp => exact (Reps.none _ _)); intro v231 w21 ho22 hb hg_ hnew_; clear hg_ hnew_; (first | rw [← Ny230.out] at ho22 | (simp only [Int.reduceToNat] at ho22; rw [← Ny230.out] at ho22)); have n0_ := Aside0.mk (Kd.R_lower ho22 (below_size (by repeat (first | (with_reducible first | exact HB.out | apply below_alloc | apply pw_below_drewN | apply below_drew1) | exact HB.out)))); have n1_ := Aside0.mk (below_step (by repeat (first | (with_reducible first | exact HB.out | apply below_alloc | apply pw_below_drewN | apply below_drew1) | exact HB.out)) hb); clear HB; have HO232 := n0_; have HB := n1_; clear n0_ n1_; clear hb ho22) | ((with_reducible refine gate_builtin (b := .append) (xs := #[.tmp 39, .tmp 40]) rfl ?_); at_builtin; refine Kd.R_append_rows k27 (w0 := w) w.heap.size rfl (.tmp 39) (.tmp 40) 22 27 (.agg #[(.int .u8 0), (.int .i64 0), (.int .i64 0), (.int .i64 0), (.int .i64 0)]) 40 rfl Try.underlying22 info27 rfl (by decide) (by omega) v231 y230 l0 _ _ _ (fun _ => True) (fun _ => False) rfl rfl ?aO ?aR (fun _ _ h => h) (fun _ h => h.elim) ?aF ?aB ?aS ?aL ?_; (case aR => repeat (first | exact (Kd.C_below HR0.out HB.out) | (with_reducible refine Kd.C_alloc ?_ _) | (with_reducible refine Kd.C_drewN ?_ _) | (with_reducible refine Kd.C_drew ?_))); (case aB => exact (by repeat (first | (with_reducible first | exact HB.out | apply below_alloc | apply pw_below_drewN | apply below_drew1) | exact HB.out))); (case aF => exact (fun _ _ => trivial)); (case aO => exact (by (with_reducible repeat (first | apply Kd.R_alloc | apply Kd.R_drewN | apply Kd.R_drew)); exact HO232.out)); (case aS => exact (below_size (by repeat (first | (with_reducible first | exact HB.out | apply below_alloc | apply pw_below_drewN | apply below_drew1) | exact HB.out)))); (case aL => have := LMc20.out; omega); intro v234 w23 ho hb hg hat; rw [← Ny233.out] at ho; have n0_ := Aside0.mk (hb); have n1_ := Aside0.mk (ho); clear HB; clear HO232; have HB := n0_; have HO235 := n1_; clear n0_ n1_; clear ho hb hg hat))
          go_loopg [8] kj3 (fun kq v8 w' => ∃ (x7_2 : List (S27)) (x8_2 : Int), v8 = .int .i64 x8_2 ∧ Aside0 (tailwaterlaw06_KindsPlaces.l0 kq l0 a1 a2 x7_2 x8_2 = some r) ∧ Aside0 (kq ≤ kj3) ∧ Aside0 (Kd.R k27 27 w' w.heap.size (fun _ => True) v234 x7_2) ∧ Aside0 (Below w.heap.size w w'))
          case atStart => exact ⟨(y233), (0), (by first | rfl | (simp; done) | (simp [*]; done)), H', ⟨Nat.le_refl _⟩, ⟨by (with_reducible repeat (first | apply Kd.R_alloc | apply Kd.R_drewN | apply Kd.R_drew)); exact HO235.out⟩, ⟨by repeat (first | (with_reducible first | exact HB.out | apply below_alloc | apply pw_below_drewN | apply below_drew1) | exact HB.out)⟩⟩
          case round =>
            clear H'
            try clear c1
            try clear c2
            try clear p2
            try clear c3
            try clear c6
            try clear c8
            try clear c8b0
            try clear c8b1
            try clear c9
            try clear c9b0
            try clear c11
            try clear c11b0
            try clear c13
            try clear c13b0
            try clear c15
            try clear c17
            try clear c20
            try clear p2
            obtain ⟨x7_2, x8_2, rfl, HA, HK2, HO_7, HB⟩ := hrel
            cases gk with
            | zero => exact absurd HA.out (by simp [tailwaterlaw06_KindsPlaces.l0])
            | succ k2 =>
              have H := HA.out
              clear HA
              simp only [tailwaterlaw06_KindsPlaces.l0] at H
              by_cases c24 : x8_2 < (x7_2.length : Int)
              · rw [if_pos c24] at H
                have c24b0 : decide (x8_2 < (x7_2.length : Int)) = true := decide_eq_true c24
                clear c24
                by_cases c25 : 0 ≤ x8_2
                · rw [if_pos c25] at H
                  have c25b0 : decide (0 ≤ x8_2) = true := decide_eq_true c25
                  clear c25
                  obtain ⟨y236, hy236⟩ : ∃ y_ : List (S27), y_ = (x7_2.set (x8_2 : Int).toNat (⟨(rd_T27 x7_2 x8_2).f0, (rd_T27 x7_2 x8_2).f1, (rd_T27 x7_2 x8_2).f2, (rd_T27 x7_2 x8_2).f3, a1⟩ : S27)) := ⟨_, rfl⟩
                  replace H : (if ((rd_T27 y236 x8_2).f0) ≤ 4 then ((some (y236.set (x8_2 : Int).toNat (⟨a2, (rd_T27 y236 x8_2).f1, (rd_T27 y236 x8_2).f2, (rd_T27 y236 x8_2).f3, (rd_T27 y236 x8_2).f4⟩ : S27) : List (S27))).bind fun y238 => (tailwaterlaw06_KindsPlaces.l0 k2 l0 a1 a2 (y238.set (x8_2 : Int).toNat (⟨(rd_T27 y238 x8_2).f0, 0, (rd_T27 y238 x8_2).f2, (rd_T27 y238 x8_2).f3, (rd_T27 y238 x8_2).f4⟩ : S27)) (wrap64 (x8_2 + 1)))) else (tailwaterlaw06_KindsPlaces.l0 k2 l0 a1 a2 y236 (wrap64 (x8_2 + 1)))) = some r := by first | (rw [hy236]; with_reducible exact H) | (have H2_ := (Option.bind_some _ _).symm.trans H; rw [hy236]; with_reducible exact H2_) | (have H2_ := (Option.bind_some _ _).symm.trans H; with_reducible exact H2_) | with_reducible exact H | (rw [hy236]; exact H) | exact H
                  have Ny236 := Aside0.mk hy236
                  clear hy236
                  by_cases c27 : ((rd_T27 y236 x8_2).f0) ≤ 4
                  · rw [if_pos c27] at H
                    have c27b0 : decide (((rd_T27 y236 x8_2).f0) ≤ 4) = true := decide_eq_true c27
                    clear c27
                    obtain ⟨y238, hy238⟩ : ∃ y_ : List (S27), y_ = (y236.set (x8_2 : Int).toNat (⟨a2, (rd_T27 y236 x8_2).f1, (rd_T27 y236 x8_2).f2, (rd_T27 y236 x8_2).f3, (rd_T27 y236 x8_2).f4⟩ : S27)) := ⟨_, rfl⟩
                    replace H : (tailwaterlaw06_KindsPlaces.l0 k2 l0 a1 a2 (y238.set (x8_2 : Int).toNat (⟨(rd_T27 y238 x8_2).f0, 0, (rd_T27 y238 x8_2).f2, (rd_T27 y238 x8_2).f3, (rd_T27 y238 x8_2).f4⟩ : S27)) (wrap64 (x8_2 + 1))) = some r := by first | (rw [hy238]; with_reducible exact H) | (have H2_ := (Option.bind_some _ _).symm.trans H; rw [hy238]; with_reducible exact H2_) | (have H2_ := (Option.bind_some _ _).symm.trans H; with_reducible exact H2_) | with_reducible exact H | (rw [hy238]; exact H) | exact H
                    have Ny238 := Aside0.mk hy238
                    clear hy238
                    obtain ⟨y239, hy239⟩ : ∃ y_ : List (S27), y_ = (y238.set (x8_2 : Int).toNat (⟨(rd_T27 y238 x8_2).f0, 0, (rd_T27 y238 x8_2).f2, (rd_T27 y238 x8_2).f3, (rd_T27 y238 x8_2).f4⟩ : S27)) := ⟨_, rfl⟩
                    replace H : (tailwaterlaw06_KindsPlaces.l0 k2 l0 a1 a2 y239 (wrap64 (x8_2 + 1))) = some r := by first | (rw [hy239]; with_reducible exact H) | (have H2_ := (Option.bind_some _ _).symm.trans H; rw [hy239]; with_reducible exact H2_) | (have H2_ := (Option.bind_some _ _).symm.trans H; with_reducible exact H2_) | with_reducible exact H | (rw [hy239]; exact H) | exact H
                    have Ny239 := Aside0.mk hy239
                    clear hy239
                    have H' := Aside0.mk H
                    clear H
                    obtain ⟨Ao30, co30, eo30⟩ := Kd.R_slice HO_7.out
                    subst eo30
                    have p26 : 0 ≤ (x8_2 : Int) := of_decide_eq_true (by first | (with_reducible assumption) | assumption)
                    have q26 : (x8_2 : Int) < ((x7_2.length : Int) : Int) := of_decide_eq_true (by first | (with_reducible assumption) | assumption)
                    obtain ⟨go26, co26, eo26, gb26, gl26, cl26, HG26⟩ := Kd.R_form HO_7.out (by omega)
                    (first | cases eo26 | (injection eo26 with ea_ en_ ec_; (first | subst ea_ | (injection ea_ with ea_; subst ea_)); subst ec_; clear en_))
                    have GB26 := Aside0.mk gb26
                    have GG26 := Aside0.mk HG26
                    clear gb26 gl26 HG26
                    obtain ⟨ce26, hcl26, hM26, hcc26, hfr26⟩ := Kd.R_elem HO_7.out z27 (x8_2 : Int) p26 q26
                    obtain rfl := k27_openM hM26
                    have hx26_0 : wr.cell? ⟨go26, (x8_2 : Int).toNat * 5, none⟩ = some (.int .u8 ((rd_T27 x7_2 x8_2).f0)) := hcc26 0 _ rfl
                    have hx26_1 : wr.cell? ⟨go26, (x8_2 : Int).toNat * 5 + 1, none⟩ = some (.int .i64 ((rd_T27 x7_2 x8_2).f1)) := hcc26 1 _ rfl
                    have hx26_2 : wr.cell? ⟨go26, (x8_2 : Int).toNat * 5 + 2, none⟩ = some (.int .i64 ((rd_T27 x7_2 x8_2).f2)) := hcc26 2 _ rfl
                    have hx26_3 : wr.cell? ⟨go26, (x8_2 : Int).toNat * 5 + 3, none⟩ = some (.int .i64 ((rd_T27 x7_2 x8_2).f3)) := hcc26 3 _ rfl
                    have hx26_4 : wr.cell? ⟨go26, (x8_2 : Int).toNat * 5 + 4, none⟩ = some (.int .i64 ((rd_T27 x7_2 x8_2).f4)) := hcc26 4 _ rfl
                    have hf26_0 : wr.frozen? ⟨go26, (x8_2 : Int).toNat * 5, none⟩ = false := hfr26 0
                    have hf26_1 : wr.frozen? ⟨go26, (x8_2 : Int).toNat * 5 + 1, none⟩ = false := hfr26 1
                    have hf26_2 : wr.frozen? ⟨go26, (x8_2 : Int).toNat * 5 + 2, none⟩ = false := hfr26 2
                    have hf26_3 : wr.frozen? ⟨go26, (x8_2 : Int).toNat * 5 + 3, none⟩ = false := hfr26 3
                    have hf26_4 : wr.frozen? ⟨go26, (x8_2 : Int).toNat * 5 + 4, none⟩ = false := hfr26 4
                    clear hcl26 hcc26 hfr26 hM26
                    replace p26 := eq_true p26
                    replace q26 := eq_true q26
                    have HX31 := Aside0.mk (show Kd.R k27 27 wr w.heap.size (fun _ => True) (.slice (some ⟨go26, 0, none⟩) x7_2.length co30) x7_2 from (by (with_reducible repeat (first | apply Kd.R_alloc | apply Kd.R_drewN | apply Kd.R_drew)); exact HO_7.out))
                    obtain ⟨ce31, hcl31, hM31, hcc31, hfr31⟩ := Kd.R_elem HX31.out z27 (x8_2 : Int) (of_decide_eq_true (by first | (with_reducible assumption) | assumption)) (by have h_ : (x8_2 : Int) < ((x7_2.length : Int) : Int) := of_decide_eq_true (by first | (with_reducible assumption) | assumption); first | exact h_ | (have e_ := (Kd.R_reads' HO_7.out).1; omega) | simpa using h_)
                    obtain rfl := k27_openM hM31
                    have HP31 := Kd.R_seg HX31.out (x8_2 : Int) (of_decide_eq_true (by first | (with_reducible assumption) | assumption)) (by have h_ : (x8_2 : Int) < ((x7_2.length : Int) : Int) := of_decide_eq_true (by first | (with_reducible assumption) | assumption); first | exact h_ | (have e_ := (Kd.R_reads' HO_7.out).1; omega) | simpa using h_) (seg := [.int .i64 a1]) (j := 4) hcl31 hcc31 (show 5 ≤ 5 from by decide) (x' := (⟨(rd_T27 x7_2 x8_2).f0, (rd_T27 x7_2 x8_2).f1, (rd_T27 x7_2 x8_2).f2, (rd_T27 x7_2 x8_2).f3, a1⟩ : S27)) (k27_mkM _ _ _ (⟨(rd_T27 x7_2 x8_2).f0, (rd_T27 x7_2 x8_2).f1, (rd_T27 x7_2 x8_2).f2, (rd_T27 x7_2 x8_2).f3, a1⟩ : S27) ) (fun _ hk => hk)
                    have hx31_4 := hcc31 4 _ rfl
                    (try simp only [show (k27).sz = 5 from rfl, Nat.mul_one, Nat.add_zero] at hx31_4)
                    have hf31_4 := hfr31 4
                    (try simp only [show (k27).sz = 5 from rfl, Nat.mul_one, Nat.add_zero] at hf31_4)
                    clear hcl31 hcc31 hfr31 hM31
                    go_wp2_with (first | ((with_reducible refine gate_store (t := 3) (p := 52) rfl ?_); refine store_event (t := 3) (p := 52) (v := ?vo_w32) (w1 := (wr.setCell ⟨go26, (x8_2 : Int).toNat * 5 + 4, none⟩ (.int .i64 a1))) ?hg ?ho ?hn ?hr ?_; (case ho => rfl); (case hg => rfl); (case hn => rfl); (case hr => first | (go_simp; done) | (go_simp; rfl)); intro w32 hw; have hg : wr.grownBy w32 (some go26) := (by rw [hw]; exact HP31.2); have hp_ : Kd.R k27 27 w32 w.heap.size (fun _ => True) (.slice (some ⟨go26, 0, none⟩) x7_2.length co30) y236 := (by rw [hw, Ny236.out]; exact HP31.1); clear HP31; have n0_ := Aside0.mk (hp_); have n1_ := Aside0.mk ((by rw [hw]; exact below_set (HB.out) GB26.out : Below w.heap.size w w32)); clear HO_7; clear HB; have HO_7 := n0_; have HB := n1_; clear n0_ n1_; clear hg hw hp_; have p237 : 0 ≤ (x8_2 : Int) := of_decide_eq_true (by first | (with_reducible assumption) | assumption); have q237 : x8_2 < (y236.length : Int) := (by have h_ : (x8_2 : Int) < ((x7_2.length : Int) : Int) := of_decide_eq_true (by first | (with_reducible assumption) | assumption); first | (have e_ := (Kd.R_reads' HO_7.out).1; omega) | simpa only [Ny236.out, List.length_set] using h_); have ql237 : ((x8_2 : Int) < ((x7_2.length : Int) : Int)) = True := eq_true (of_decide_eq_true (by first | (with_reducible assumption) | assumption)); obtain ⟨ad237, e237, hx237_0, hx237_1, hx237_2, hx237_3, hx237_4⟩ := at_T27 (Kd.R_reads' HO_7.out).2.2 x8_2 p237 q237; obtain rfl : (⟨go26, 0, none⟩ : Addr) = ad237 := (by injection e237); (first | simp only [add_plain] at hx237_0 | simp only [add_at] at hx237_0 | simp only [Addr.add, Nat.zero_add] at hx237_0 | skip); (first | simp only [add_plain] at hx237_1 | simp only [add_at] at hx237_1 | simp only [Addr.add, Nat.zero_add] at hx237_1 | skip); (first | simp only [add_plain] at hx237_2 | simp only [add_at] at hx237_2 | simp only [Addr.add, Nat.zero_add] at hx237_2 | skip); (first | simp only [add_plain] at hx237_3 | simp only [add_at] at hx237_3 | simp only [Addr.add, Nat.zero_add] at hx237_3 | skip); (first | simp only [add_plain] at hx237_4 | simp only [add_at] at hx237_4 | simp only [Addr.add, Nat.zero_add] at hx237_4 | skip); replace p237 := eq_true p237; replace q237 := eq_true q237; have p28 : 0 ≤ (x8_2 : Int) := of_decide_eq_true (by first | (with_reducible assumption) | assumption); have q28 : (x8_2 : Int) < ((x7_2.length : Int) : Int) := of_decide_eq_true (by first | (with_reducible assumption) | assumption); obtain ⟨ce28, hcl28, hM28, hcc28, hfr28⟩ := Kd.R_elem HO_7.out z27 (x8_2 : Int) p28 q28; obtain rfl := k27_openM hM28; have hx28_0 : w32.cell? ⟨go26, (x8_2 : Int).toNat * 5, none⟩ = some (.int .u8 ((rd_T27 y236 x8_2).f0)) := hcc28 0 _ rfl; have hx28_1 : w32.cell? ⟨go26, (x8_2 : Int).toNat * 5 + 1, none⟩ = some (.int .i64 ((rd_T27 y236 x8_2).f1)) := hcc28 1 _ rfl; have hx28_2 : w32.cell? ⟨go26, (x8_2 : Int).toNat * 5 + 2, none⟩ = some (.int .i64 ((rd_T27 y236 x8_2).f2)) := hcc28 2 _ rfl; have hx28_3 : w32.cell? ⟨go26, (x8_2 : Int).toNat * 5 + 3, none⟩ = some (.int .i64 ((rd_T27 y236 x8_2).f3)) := hcc28 3 _ rfl; have hx28_4 : w32.cell? ⟨go26, (x8_2 : Int).toNat * 5 + 4, none⟩ = some (.int .i64 ((rd_T27 y236 x8_2).f4)) := hcc28 4 _ rfl; have hf28_0 : w32.frozen? ⟨go26, (x8_2 : Int).toNat * 5, none⟩ = false := hfr28 0; have hf28_1 : w32.frozen? ⟨go26, (x8_2 : Int).toNat * 5 + 1, none⟩ = false := hfr28 1; have hf28_2 : w32.frozen? ⟨go26, (x8_2 : Int).toNat * 5 + 2, none⟩ = false := hfr28 2; have hf28_3 : w32.frozen? ⟨go26, (x8_2 : Int).toNat * 5 + 3, none⟩ = false := hfr28 3; have hf28_4 : w32.frozen? ⟨go26, (x8_2 : Int).toNat * 5 + 4, none⟩ = false := hfr28 4; clear hcl28 hcc28 hfr28 hM28; replace p28 := eq_true p28; replace q28 := eq_true q28; have HX33 := Aside0.mk (show Kd.R k27 27 w32 w.heap.size (fun _ => True) (.slice (some ⟨go26, 0, none⟩) x7_2.length co30) y236 from (by (with_reducible repeat (first | apply Kd.R_alloc | apply Kd.R_drewN | apply Kd.R_drew)); exact HO_7.out)); obtain ⟨ce33, hcl33, hM33, hcc33, hfr33⟩ := Kd.R_elem HX33.out z27 (x8_2 : Int) (of_decide_eq_true (by first | (with_reducible assumption) | assumption)) (by have h_ : (x8_2 : Int) < ((x7_2.length : Int) : Int) := of_decide_eq_true (by first | (with_reducible assumption) | assumption); first | exact h_ | (have e_ := (Kd.R_reads' HO_7.out).1; omega) | simpa using h_); obtain rfl := k27_openM hM33; have HP33 := Kd.R_seg HX33.out (x8_2 : Int) (of_decide_eq_true (by first | (with_reducible assumption) | assumption)) (by have h_ : (x8_2 : Int) < ((x7_2.length : Int) : Int) := of_decide_eq_true (by first | (with_reducible assumption) | assumption); first | exact h_ | (have e_ := (Kd.R_reads' HO_7.out).1; omega) | simpa using h_) (seg := [.int .u8 a2]) (j := 0) hcl33 hcc33 (show 1 ≤ 5 from by decide) (x' := (⟨a2, (rd_T27 y236 x8_2).f1, (rd_T27 y236 x8_2).f2, (rd_T27 y236 x8_2).f3, (rd_T27 y236 x8_2).f4⟩ : S27)) (k27_mkM _ _ _ (⟨a2, (rd_T27 y236 x8_2).f1, (rd_T27 y236 x8_2).f2, (rd_T27 y236 x8_2).f3, (rd_T27 y236 x8_2).f4⟩ : S27) ) (fun _ hk => hk); have hx33_0 := hcc33 0 _ rfl; (try simp only [show (k27).sz = 5 from rfl, Nat.mul_one, Nat.add_zero] at hx33_0); have hf33_0 := hfr33 0; (try simp only [show (k27).sz = 5 from rfl, Nat.mul_one, Nat.add_zero] at hf33_0); clear hcl33 hcc33 hfr33 hM33) | ((with_reducible refine gate_store (t := 5) (p := 65) rfl ?_); refine store_event (t := 5) (p := 65) (v := ?vo_w34) (w1 := (w32.setCell ⟨go26, (x8_2 : Int).toNat * 5, none⟩ (.int .u8 a2))) ?hg ?ho ?hn ?hr ?_; (case ho => rfl); (case hg => rfl); (case hn => rfl); (case hr => first | (go_simp; done) | (go_simp; rfl)); intro w34 hw; have hg : w32.grownBy w34 (some go26) := (by rw [hw]; exact HP33.2); have hp_ : Kd.R k27 27 w34 w.heap.size (fun _ => True) (.slice (some ⟨go26, 0, none⟩) x7_2.length co30) y238 := (by rw [hw, Ny238.out]; exact HP33.1); clear HP33; have n0_ := Aside0.mk (hp_); have n1_ := Aside0.mk ((by rw [hw]; exact below_set (HB.out) GB26.out : Below w.heap.size w w34)); clear HO_7; clear HB; have HO_7 := n0_; have HB := n1_; clear n0_ n1_; clear hg hw hp_; have p29 : 0 ≤ (x8_2 : Int) := of_decide_eq_true (by first | (with_reducible assumption) | assumption); have q29 : (x8_2 : Int) < ((x7_2.length : Int) : Int) := of_decide_eq_true (by first | (with_reducible assumption) | assumption); obtain ⟨ce29, hcl29, hM29, hcc29, hfr29⟩ := Kd.R_elem HO_7.out z27 (x8_2 : Int) p29 q29; obtain rfl := k27_openM hM29; have hx29_0 : w34.cell? ⟨go26, (x8_2 : Int).toNat * 5, none⟩ = some (.int .u8 ((rd_T27 y238 x8_2).f0)) := hcc29 0 _ rfl; have hx29_1 : w34.cell? ⟨go26, (x8_2 : Int).toNat * 5 + 1, none⟩ = some (.int .i64 ((rd_T27 y238 x8_2).f1)) := hcc29 1 _ rfl; have hx29_2 : w34.cell? ⟨go26, (x8_2 : Int).toNat * 5 + 2, none⟩ = some (.int .i64 ((rd_T27 y238 x8_2).f2)) := hcc29 2 _ rfl; have hx29_3 : w34.cell? ⟨go26, (x8_2 : Int).toNat * 5 + 3, none⟩ = some (.int .i64 ((rd_T27 y238 x8_2).f3)) := hcc29 3 _ rfl; have hx29_4 : w34.cell? ⟨go26, (x8_2 : Int).toNat * 5 + 4, none⟩ = some (.int .i64 ((rd_T27 y238 x8_2).f4)) := hcc29 4 _ rfl; have hf29_0 : w34.frozen? ⟨go26, (x8_2 : Int).toNat * 5, none⟩ = false := hfr29 0; have hf29_1 : w34.frozen? ⟨go26, (x8_2 : Int).toNat * 5 + 1, none⟩ = false := hfr29 1; have hf29_2 : w34.frozen? ⟨go26, (x8_2 : Int).toNat * 5 + 2, none⟩ = false := hfr29 2; have hf29_3 : w34.frozen? ⟨go26, (x8_2 : Int).toNat * 5 + 3, none⟩ = false := hfr29 3; have hf29_4 : w34.frozen? ⟨go26, (x8_2 : Int).toNat * 5 + 4, none⟩ = false := hfr29 4; clear hcl29 hcc29 hfr29 hM29; replace p29 := eq_true p29; replace q29 := eq_true q29; have HX35 := Aside0.mk (show Kd.R k27 27 w34 w.heap.size (fun _ => True) (.slice (some ⟨go26, 0, none⟩) x7_2.length co30) y238 from (by (with_reducible repeat (first | apply Kd.R_alloc | apply Kd.R_drewN | apply Kd.R_drew)); exact HO_7.out)); obtain ⟨ce35, hcl35, hM35, hcc35, hfr35⟩ := Kd.R_elem HX35.out z27 (x8_2 : Int) (of_decide_eq_true (by first | (with_reducible assumption) | assumption)) (by have h_ : (x8_2 : Int) < ((x7_2.length : Int) : Int) := of_decide_eq_true (by first | (with_reducible assumption) | assumption); first | exact h_ | (have e_ := (Kd.R_reads' HO_7.out).1; omega) | simpa using h_); obtain rfl := k27_openM hM35; have HP35 := Kd.R_seg HX35.out (x8_2 : Int) (of_decide_eq_true (by first | (with_reducible assumption) | assumption)) (by have h_ : (x8_2 : Int) < ((x7_2.length : Int) : Int) := of_decide_eq_true (by first | (with_reducible assumption) | assumption); first | exact h_ | (have e_ := (Kd.R_reads' HO_7.out).1; omega) | simpa using h_) (seg := [.int .i64 0]) (j := 1) hcl35 hcc35 (show 2 ≤ 5 from by decide) (x' := (⟨(rd_T27 y238 x8_2).f0, 0, (rd_T27 y238 x8_2).f2, (rd_T27 y238 x8_2).f3, (rd_T27 y238 x8_2).f4⟩ : S27)) (k27_mkM _ _ _ (⟨(rd_T27 y238 x8_2).f0, 0, (rd_T27 y238 x8_2).f2, (rd_T27 y238 x8_2).f3, (rd_T27 y238 x8_2).f4⟩ : S27) ) (fun _ hk => hk); have hx35_1 := hcc35 1 _ rfl; (try simp only [show (k27).sz = 5 from rfl, Nat.mul_one, Nat.add_zero] at hx35_1); have hf35_1 := hfr35 1; (try simp only [show (k27).sz = 5 from rfl, Nat.mul_one, Nat.add_zero] at hf35_1); clear hcl35 hcc35 hfr35 hM35) | ((with_reducible refine gate_store (t := 2) (p := 67) rfl ?_); refine store_event (t := 2) (p := 67) (v := ?vo_w36) (w1 := (w34.setCell ⟨go26, (x8_2 : Int).toNat * 5 + 1, none⟩ (.int .i64 0))) ?hg ?ho ?hn ?hr ?_; (case ho => rfl); (case hg => rfl); (case hn => rfl); (case hr => first | (go_simp; done) | (go_simp; rfl)); intro w36 hw; have hg : w34.grownBy w36 (some go26) := (by rw [hw]; exact HP35.2); have hp_ : Kd.R k27 27 w36 w.heap.size (fun _ => True) (.slice (some ⟨go26, 0, none⟩) x7_2.length co30) y239 := (by rw [hw, Ny239.out]; exact HP35.1); clear HP35; have n0_ := Aside0.mk (hp_); have n1_ := Aside0.mk ((by rw [hw]; exact below_set (HB.out) GB26.out : Below w.heap.size w w36)); clear HO_7; clear HB; have HO_7 := n0_; have HB := n1_; clear n0_ n1_; clear hg hw hp_))
                    go_roundg k2
                    case measure => have := HJ3.out; have := HK2.out; omega
                    case rel => exact ⟨(y239), (wrap64 (x8_2 + 1)), (by first | rfl | (simp; done) | (simp [*]; done)), H', ⟨by have := HJ3.out; have := HK2.out; omega⟩, ⟨by (with_reducible repeat (first | apply Kd.R_alloc | apply Kd.R_drewN | apply Kd.R_drew)); exact HO_7.out⟩, ⟨by repeat (first | (with_reducible first | exact HB.out | apply below_alloc | apply pw_below_drewN | apply below_drew1) | exact HB.out)⟩⟩
                  · rw [if_neg c27] at H
                    have c27b0 : decide (((rd_T27 y236 x8_2).f0) ≤ 4) = false := decide_eq_false c27
                    clear c27
                    have H' := Aside0.mk H
                    clear H
                    obtain ⟨Ao37, co37, eo37⟩ := Kd.R_slice HO_7.out
                    subst eo37
                    have p26 : 0 ≤ (x8_2 : Int) := of_decide_eq_true (by first | (with_reducible assumption) | assumption)
                    have q26 : (x8_2 : Int) < ((x7_2.length : Int) : Int) := of_decide_eq_true (by first | (with_reducible assumption) | assumption)
                    obtain ⟨go26, co26, eo26, gb26, gl26, cl26, HG26⟩ := Kd.R_form HO_7.out (by omega)
                    (first | cases eo26 | (injection eo26 with ea_ en_ ec_; (first | subst ea_ | (injection ea_ with ea_; subst ea_)); subst ec_; clear en_))
                    have GB26 := Aside0.mk gb26
                    have GG26 := Aside0.mk HG26
                    clear gb26 gl26 HG26
                    obtain ⟨ce26, hcl26, hM26, hcc26, hfr26⟩ := Kd.R_elem HO_7.out z27 (x8_2 : Int) p26 q26
                    obtain rfl := k27_openM hM26
                    have hx26_0 : wr.cell? ⟨go26, (x8_2 : Int).toNat * 5, none⟩ = some (.int .u8 ((rd_T27 x7_2 x8_2).f0)) := hcc26 0 _ rfl
                    have hx26_1 : wr.cell? ⟨go26, (x8_2 : Int).toNat * 5 + 1, none⟩ = some (.int .i64 ((rd_T27 x7_2 x8_2).f1)) := hcc26 1 _ rfl
                    have hx26_2 : wr.cell? ⟨go26, (x8_2 : Int).toNat * 5 + 2, none⟩ = some (.int .i64 ((rd_T27 x7_2 x8_2).f2)) := hcc26 2 _ rfl
                    have hx26_3 : wr.cell? ⟨go26, (x8_2 : Int).toNat * 5 + 3, none⟩ = some (.int .i64 ((rd_T27 x7_2 x8_2).f3)) := hcc26 3 _ rfl
                    have hx26_4 : wr.cell? ⟨go26, (x8_2 : Int).toNat * 5 + 4, none⟩ = some (.int .i64 ((rd_T27 x7_2 x8_2).f4)) := hcc26 4 _ rfl
                    have hf26_0 : wr.frozen? ⟨go26, (x8_2 : Int).toNat * 5, none⟩ = false := hfr26 0
                    have hf26_1 : wr.frozen? ⟨go26, (x8_2 : Int).toNat * 5 + 1, none⟩ = false := hfr26 1
                    have hf26_2 : wr.frozen? ⟨go26, (x8_2 : Int).toNat * 5 + 2, none⟩ = false := hfr26 2
                    have hf26_3 : wr.frozen? ⟨go26, (x8_2 : Int).toNat * 5 + 3, none⟩ = false := hfr26 3
                    have hf26_4 : wr.frozen? ⟨go26, (x8_2 : Int).toNat * 5 + 4, none⟩ = false := hfr26 4
                    clear hcl26 hcc26 hfr26 hM26
                    replace p26 := eq_true p26
                    replace q26 := eq_true q26
                    have HX38 := Aside0.mk (show Kd.R k27 27 wr w.heap.size (fun _ => True) (.slice (some ⟨go26, 0, none⟩) x7_2.length co37) x7_2 from (by (with_reducible repeat (first | apply Kd.R_alloc | apply Kd.R_drewN | apply Kd.R_drew)); exact HO_7.out))
                    obtain ⟨ce38, hcl38, hM38, hcc38, hfr38⟩ := Kd.R_elem HX38.out z27 (x8_2 : Int) (of_decide_eq_true (by first | (with_reducible assumption) | assumption)) (by have h_ : (x8_2 : Int) < ((x7_2.length : Int) : Int) := of_decide_eq_true (by first | (with_reducible assumption) | assumption); first | exact h_ | (have e_ := (Kd.R_reads' HO_7.out).1; omega) | simpa using h_)
                    obtain rfl := k27_openM hM38
                    have HP38 := Kd.R_seg HX38.out (x8_2 : Int) (of_decide_eq_true (by first | (with_reducible assumption) | assumption)) (by have h_ : (x8_2 : Int) < ((x7_2.length : Int) : Int) := of_decide_eq_true (by first | (with_reducible assumption) | assumption); first | exact h_ | (have e_ := (Kd.R_reads' HO_7.out).1; omega) | simpa using h_) (seg := [.int .i64 a1]) (j := 4) hcl38 hcc38 (show 5 ≤ 5 from by decide) (x' := (⟨(rd_T27 x7_2 x8_2).f0, (rd_T27 x7_2 x8_2).f1, (rd_T27 x7_2 x8_2).f2, (rd_T27 x7_2 x8_2).f3, a1⟩ : S27)) (k27_mkM _ _ _ (⟨(rd_T27 x7_2 x8_2).f0, (rd_T27 x7_2 x8_2).f1, (rd_T27 x7_2 x8_2).f2, (rd_T27 x7_2 x8_2).f3, a1⟩ : S27) ) (fun _ hk => hk)
                    have hx38_4 := hcc38 4 _ rfl
                    (try simp only [show (k27).sz = 5 from rfl, Nat.mul_one, Nat.add_zero] at hx38_4)
                    have hf38_4 := hfr38 4
                    (try simp only [show (k27).sz = 5 from rfl, Nat.mul_one, Nat.add_zero] at hf38_4)
                    clear hcl38 hcc38 hfr38 hM38
                    go_wp2_with (first | ((with_reducible refine gate_store (t := 3) (p := 52) rfl ?_); refine store_event (t := 3) (p := 52) (v := ?vo_w39) (w1 := (wr.setCell ⟨go26, (x8_2 : Int).toNat * 5 + 4, none⟩ (.int .i64 a1))) ?hg ?ho ?hn ?hr ?_; (case ho => rfl); (case hg => rfl); (case hn => rfl); (case hr => first | (go_simp; done) | (go_simp; rfl)); intro w39 hw; have hg : wr.grownBy w39 (some go26) := (by rw [hw]; exact HP38.2); have hp_ : Kd.R k27 27 w39 w.heap.size (fun _ => True) (.slice (some ⟨go26, 0, none⟩) x7_2.length co37) y236 := (by rw [hw, Ny236.out]; exact HP38.1); clear HP38; have n0_ := Aside0.mk (hp_); have n1_ := Aside0.mk ((by rw [hw]; exact below_set (HB.out) GB26.out : Below w.heap.size w w39)); clear HO_7; clear HB; have HO_7 := n0_; have HB := n1_; clear n0_ n1_; clear hg hw hp_; have p237 : 0 ≤ (x8_2 : Int) := of_decide_eq_true (by first | (with_reducible assumption) | assumption); have q237 : x8_2 < (y236.length : Int) := (by have h_ : (x8_2 : Int) < ((x7_2.length : Int) : Int) := of_decide_eq_true (by first | (with_reducible assumption) | assumption); first | (have e_ := (Kd.R_reads' HO_7.out).1; omega) | simpa only [Ny236.out, List.length_set] using h_); have ql237 : ((x8_2 : Int) < ((x7_2.length : Int) : Int)) = True := eq_true (of_decide_eq_true (by first | (with_reducible assumption) | assumption)); obtain ⟨ad237, e237, hx237_0, hx237_1, hx237_2, hx237_3, hx237_4⟩ := at_T27 (Kd.R_reads' HO_7.out).2.2 x8_2 p237 q237; obtain rfl : (⟨go26, 0, none⟩ : Addr) = ad237 := (by injection e237); (first | simp only [add_plain] at hx237_0 | simp only [add_at] at hx237_0 | simp only [Addr.add, Nat.zero_add] at hx237_0 | skip); (first | simp only [add_plain] at hx237_1 | simp only [add_at] at hx237_1 | simp only [Addr.add, Nat.zero_add] at hx237_1 | skip); (first | simp only [add_plain] at hx237_2 | simp only [add_at] at hx237_2 | simp only [Addr.add, Nat.zero_add] at hx237_2 | skip); (first | simp only [add_plain] at hx237_3 | simp only [add_at] at hx237_3 | simp only [Addr.add, Nat.zero_add] at hx237_3 | skip); (first | simp only [add_plain] at hx237_4 | simp only [add_at] at hx237_4 | simp only [Addr.add, Nat.zero_add] at hx237_4 | skip); replace p237 := eq_true p237; replace q237 := eq_true q237))
                    go_roundg k2
                    case measure => have := HJ3.out; have := HK2.out; omega
                    case rel => exact ⟨(y236), (wrap64 (x8_2 + 1)), (by first | rfl | (simp; done) | (simp [*]; done)), H', ⟨by have := HJ3.out; have := HK2.out; omega⟩, ⟨by (with_reducible repeat (first | apply Kd.R_alloc | apply Kd.R_drewN | apply Kd.R_drew)); exact HO_7.out⟩, ⟨by repeat (first | (with_reducible first | exact HB.out | apply below_alloc | apply pw_below_drewN | apply below_drew1) | exact HB.out)⟩⟩
                · rw [if_neg c25] at H
                  exact absurd H (by simp)
              · rw [if_neg c24] at H
                have c24b0 : decide (x8_2 < (x7_2.length : Int)) = false := decide_eq_false c24
                clear c24
                replace H := Option.bind_eq_some_iff.mp H
                obtain ⟨⟨t240, t241, t242⟩, A400, H⟩ := H
                replace H : ((kinds_Of.f x7_2).bind fun bt243 => (if (t240 == bt243.1) = true then (if t241 = bt243.2.1 then (if t242 = bt243.2.2 then ((tailwaterlaw06_alive.f).bind fun t246 => (some t246)) else (some false)) else (some false)) else (some false))) = some r := H
                have A40 := Aside0.mk A400
                clear A400
                replace H := Option.bind_eq_some_iff.mp H
                obtain ⟨⟨t243, t244, t245⟩, A410, H⟩ := H
                replace H : (if (t240 == t243) = true then (if t241 = t244 then (if t242 = t245 then ((tailwaterlaw06_alive.f).bind fun t246 => (some t246)) else (some false)) else (some false)) else (some false)) = some r := H
                have A41 := Aside0.mk A410
                clear A410
                by_cases c42 : (t240 == t243) = true
                · rw [if_pos c42] at H
                  have c42b0 : (t240 == t243) = true := c42
                  (try (have c42b1 : decide (t240 = t243) = true := by simpa using c42))
                  (try (have c42b2 : (t240 == t243) = true := by simpa using c42))
                  clear c42
                  by_cases c43 : t241 = t244
                  · rw [if_pos c43] at H
                    have c43b0 : (t241 == t244) = true := beq_iff_eq.mpr c43
                    have c43b1 : (t241 != t244) = false := bne_eq_false_iff_eq.mpr c43
                    clear c43
                    by_cases c44 : t242 = t245
                    · rw [if_pos c44] at H
                      have c44b0 : (t242 == t245) = true := beq_iff_eq.mpr c44
                      have c44b1 : (t242 != t245) = false := bne_eq_false_iff_eq.mpr c44
                      clear c44
                      replace H := Option.bind_eq_some_iff.mp H
                      obtain ⟨t246, A450, H⟩ := H
                      replace H : (some t246) = some r := H
                      have A45 := Aside0.mk A450
                      clear A450
                      obtain rfl := Option.some.inj H
                      obtain ⟨Ao46, co46, eo46⟩ := Kd.R_slice HO_7.out
                      subst eo46
                      go_wp2_with (first | ((with_reducible refine gate_callee (f := 18) rfl ?_); refine goesL_ (some 70) rfl rfl Try.func18 (by kernel_rfl) rfl #[.slice A0 l0.length c0] rfl (by (try simp only [List.map_toArray, List.map_cons, List.map_nil]); first | done | rfl | (simp only [List.length_drop, List.length_take]; rfl)) ?_; (with_reducible refine (kinds_Of.calls _ _ l0 t240 t241 t242 _ ?side1 ?side2 A40.out).mono ?_); (case side1 => repeat (first | exact (Kd.C_below HR0.out HB.out) | (with_reducible refine Kd.C_alloc ?_ _) | (with_reducible refine Kd.C_drewN ?_ _) | (with_reducible refine Kd.C_drew ?_))); (case side2 => exact HC0.out); rintro e w47 ⟨rfl, hb⟩; refine ⟨_, rfl, ?_⟩; have n0_ := Aside0.mk (Kd.R_below (by (with_reducible repeat (first | apply Kd.R_alloc | apply Kd.R_drewN | apply Kd.R_drew)); exact HO_7.out) hb); have n1_ := Aside0.mk (below_step (by repeat (first | (with_reducible first | exact HB.out | apply below_alloc | apply pw_below_drewN | apply below_drew1) | exact HB.out)) hb); clear HO_7; clear HB; have HO_7 := n0_; have HB := n1_; clear n0_ n1_; (try clear hb); (try clear hb2); (try clear hk); (try clear hi)) | ((with_reducible refine gate_callee (f := 18) rfl ?_); refine goesL_ (some 76) rfl rfl Try.func18 (by kernel_rfl) rfl #[.slice Ao46 x7_2.length co46] rfl (by (try simp only [List.map_toArray, List.map_cons, List.map_nil]); first | done | rfl | (simp only [List.length_drop, List.length_take]; rfl)) ?_; (with_reducible refine (kinds_Of.calls _ _ x7_2 t243 t244 t245 _ ?side1 ?side2 A41.out).mono ?_); (case side1 => repeat (first | exact (Kd.R_reads' HO_7.out).2.2 | (with_reducible refine Kd.C_alloc ?_ _) | (with_reducible refine Kd.C_drewN ?_ _) | (with_reducible refine Kd.C_drew ?_))); (case side2 => exact (Kd.R_reads' HO_7.out).2.1); rintro e w48 ⟨rfl, hb⟩; refine ⟨_, rfl, ?_⟩; have n0_ := Aside0.mk (Kd.R_below (by (with_reducible repeat (first | apply Kd.R_alloc | apply Kd.R_drewN | apply Kd.R_drew)); exact HO_7.out) hb); have n1_ := Aside0.mk (below_step (by repeat (first | (with_reducible first | exact HB.out | apply below_alloc | apply pw_below_drewN | apply below_drew1) | exact HB.out)) hb); clear HO_7; clear HB; have HO_7 := n0_; have HB := n1_; clear n0_ n1_; (try clear hb); (try clear hb2); (try clear hk); (try clear hi)) | (go_at_call 17; (with_reducible refine (tailwaterlaw06_alive.calls  t246 _ A45.out).mono ?_); rintro e w49 ⟨rfl, hb⟩; have n0_ := Aside0.mk (Kd.R_below (by (with_reducible repeat (first | apply Kd.R_alloc | apply Kd.R_drewN | apply Kd.R_drew)); exact HO_7.out) hb); have n1_ := Aside0.mk (below_step (by repeat (first | (with_reducible first | exact HB.out | apply below_alloc | apply pw_below_drewN | apply below_drew1) | exact HB.out)) hb); clear HO_7; clear HB; have HO_7 := n0_; have HB := n1_; clear n0_ n1_; (try clear hb); (try clear hb2); (try clear hk); (try clear hi)))
                      go_ret
                      exact ⟨by first | rfl | (simp [errW_none, errW_some] <;> rfl) | (simp [*, errW_none, errW_some] <;> rfl), by repeat (first | (with_reducible first | exact HB.out | apply below_alloc | apply pw_below_drewN | apply below_drew1) | exact HB.out)⟩
                    · rw [if_neg c44] at H
                      have c44b0 : (t242 == t245) = false := beq_eq_false_iff_ne.mpr c44
                      have c44b1 : (t242 != t245) = true := bne_iff_ne.mpr c44
                      obtain rfl := Option.some.inj H
                      obtain ⟨Ao50, co50, eo50⟩ := Kd.R_slice HO_7.out
                      subst eo50
                      go_wp2_with (first | ((with_reducible refine gate_callee (f := 18) rfl ?_); refine goesL_ (some 70) rfl rfl Try.func18 (by kernel_rfl) rfl #[.slice A0 l0.length c0] rfl (by (try simp only [List.map_toArray, List.map_cons, List.map_nil]); first | done | rfl | (simp only [List.length_drop, List.length_take]; rfl)) ?_; (with_reducible refine (kinds_Of.calls _ _ l0 t240 t241 t242 _ ?side1 ?side2 A40.out).mono ?_); (case side1 => repeat (first | exact (Kd.C_below HR0.out HB.out) | (with_reducible refine Kd.C_alloc ?_ _) | (with_reducible refine Kd.C_drewN ?_ _) | (with_reducible refine Kd.C_drew ?_))); (case side2 => exact HC0.out); rintro e w51 ⟨rfl, hb⟩; refine ⟨_, rfl, ?_⟩; have n0_ := Aside0.mk (Kd.R_below (by (with_reducible repeat (first | apply Kd.R_alloc | apply Kd.R_drewN | apply Kd.R_drew)); exact HO_7.out) hb); have n1_ := Aside0.mk (below_step (by repeat (first | (with_reducible first | exact HB.out | apply below_alloc | apply pw_below_drewN | apply below_drew1) | exact HB.out)) hb); clear HO_7; clear HB; have HO_7 := n0_; have HB := n1_; clear n0_ n1_; (try clear hb); (try clear hb2); (try clear hk); (try clear hi)) | ((with_reducible refine gate_callee (f := 18) rfl ?_); refine goesL_ (some 76) rfl rfl Try.func18 (by kernel_rfl) rfl #[.slice Ao50 x7_2.length co50] rfl (by (try simp only [List.map_toArray, List.map_cons, List.map_nil]); first | done | rfl | (simp only [List.length_drop, List.length_take]; rfl)) ?_; (with_reducible refine (kinds_Of.calls _ _ x7_2 t243 t244 t245 _ ?side1 ?side2 A41.out).mono ?_); (case side1 => repeat (first | exact (Kd.R_reads' HO_7.out).2.2 | (with_reducible refine Kd.C_alloc ?_ _) | (with_reducible refine Kd.C_drewN ?_ _) | (with_reducible refine Kd.C_drew ?_))); (case side2 => exact (Kd.R_reads' HO_7.out).2.1); rintro e w52 ⟨rfl, hb⟩; refine ⟨_, rfl, ?_⟩; have n0_ := Aside0.mk (Kd.R_below (by (with_reducible repeat (first | apply Kd.R_alloc | apply Kd.R_drewN | apply Kd.R_drew)); exact HO_7.out) hb); have n1_ := Aside0.mk (below_step (by repeat (first | (with_reducible first | exact HB.out | apply below_alloc | apply pw_below_drewN | apply below_drew1) | exact HB.out)) hb); clear HO_7; clear HB; have HO_7 := n0_; have HB := n1_; clear n0_ n1_; (try clear hb); (try clear hb2); (try clear hk); (try clear hi)))
                      go_ret
                      exact ⟨by first | rfl | (simp [errW_none, errW_some] <;> rfl) | (simp [*, errW_none, errW_some] <;> rfl), by repeat (first | (with_reducible first | exact HB.out | apply below_alloc | apply pw_below_drewN | apply below_drew1) | exact HB.out)⟩
                  · rw [if_neg c43] at H
                    have c43b0 : (t241 == t244) = false := beq_eq_false_iff_ne.mpr c43
                    have c43b1 : (t241 != t244) = true := bne_iff_ne.mpr c43
                    obtain rfl := Option.some.inj H
                    obtain ⟨Ao53, co53, eo53⟩ := Kd.R_slice HO_7.out
                    subst eo53
                    go_wp2_with (first | ((with_reducible refine gate_callee (f := 18) rfl ?_); refine goesL_ (some 70) rfl rfl Try.func18 (by kernel_rfl) rfl #[.slice A0 l0.length c0] rfl (by (try simp only [List.map_toArray, List.map_cons, List.map_nil]); first | done | rfl | (simp only [List.length_drop, List.length_take]; rfl)) ?_; (with_reducible refine (kinds_Of.calls _ _ l0 t240 t241 t242 _ ?side1 ?side2 A40.out).mono ?_); (case side1 => repeat (first | exact (Kd.C_below HR0.out HB.out) | (with_reducible refine Kd.C_alloc ?_ _) | (with_reducible refine Kd.C_drewN ?_ _) | (with_reducible refine Kd.C_drew ?_))); (case side2 => exact HC0.out); rintro e w54 ⟨rfl, hb⟩; refine ⟨_, rfl, ?_⟩; have n0_ := Aside0.mk (Kd.R_below (by (with_reducible repeat (first | apply Kd.R_alloc | apply Kd.R_drewN | apply Kd.R_drew)); exact HO_7.out) hb); have n1_ := Aside0.mk (below_step (by repeat (first | (with_reducible first | exact HB.out | apply below_alloc | apply pw_below_drewN | apply below_drew1) | exact HB.out)) hb); clear HO_7; clear HB; have HO_7 := n0_; have HB := n1_; clear n0_ n1_; (try clear hb); (try clear hb2); (try clear hk); (try clear hi)) | ((with_reducible refine gate_callee (f := 18) rfl ?_); refine goesL_ (some 76) rfl rfl Try.func18 (by kernel_rfl) rfl #[.slice Ao53 x7_2.length co53] rfl (by (try simp only [List.map_toArray, List.map_cons, List.map_nil]); first | done | rfl | (simp only [List.length_drop, List.length_take]; rfl)) ?_; (with_reducible refine (kinds_Of.calls _ _ x7_2 t243 t244 t245 _ ?side1 ?side2 A41.out).mono ?_); (case side1 => repeat (first | exact (Kd.R_reads' HO_7.out).2.2 | (with_reducible refine Kd.C_alloc ?_ _) | (with_reducible refine Kd.C_drewN ?_ _) | (with_reducible refine Kd.C_drew ?_))); (case side2 => exact (Kd.R_reads' HO_7.out).2.1); rintro e w55 ⟨rfl, hb⟩; refine ⟨_, rfl, ?_⟩; have n0_ := Aside0.mk (Kd.R_below (by (with_reducible repeat (first | apply Kd.R_alloc | apply Kd.R_drewN | apply Kd.R_drew)); exact HO_7.out) hb); have n1_ := Aside0.mk (below_step (by repeat (first | (with_reducible first | exact HB.out | apply below_alloc | apply pw_below_drewN | apply below_drew1) | exact HB.out)) hb); clear HO_7; clear HB; have HO_7 := n0_; have HB := n1_; clear n0_ n1_; (try clear hb); (try clear hb2); (try clear hk); (try clear hi)))
                    go_ret
                    exact ⟨by first | rfl | (simp [errW_none, errW_some] <;> rfl) | (simp [*, errW_none, errW_some] <;> rfl), by repeat (first | (with_reducible first | exact HB.out | apply below_alloc | apply pw_below_drewN | apply below_drew1) | exact HB.out)⟩
                · rw [if_neg c42] at H
                  have c42b0 : (t240 == t243) = false := by simpa using c42
                  (try (have c42b1 : decide (t240 = t243) = false := by simpa using c42))
                  (try (have c42b2 : (t240 == t243) = false := by simpa using c42))
                  (try (have c42b3 : ¬ (t240 = t243) := by simpa using c42))
                  clear c42
                  obtain rfl := Option.some.inj H
                  obtain ⟨Ao56, co56, eo56⟩ := Kd.R_slice HO_7.out
                  subst eo56
                  go_wp2_with (first | ((with_reducible refine gate_callee (f := 18) rfl ?_); refine goesL_ (some 70) rfl rfl Try.func18 (by kernel_rfl) rfl #[.slice A0 l0.length c0] rfl (by (try simp only [List.map_toArray, List.map_cons, List.map_nil]); first | done | rfl | (simp only [List.length_drop, List.length_take]; rfl)) ?_; (with_reducible refine (kinds_Of.calls _ _ l0 t240 t241 t242 _ ?side1 ?side2 A40.out).mono ?_); (case side1 => repeat (first | exact (Kd.C_below HR0.out HB.out) | (with_reducible refine Kd.C_alloc ?_ _) | (with_reducible refine Kd.C_drewN ?_ _) | (with_reducible refine Kd.C_drew ?_))); (case side2 => exact HC0.out); rintro e w57 ⟨rfl, hb⟩; refine ⟨_, rfl, ?_⟩; have n0_ := Aside0.mk (Kd.R_below (by (with_reducible repeat (first | apply Kd.R_alloc | apply Kd.R_drewN | apply Kd.R_drew)); exact HO_7.out) hb); have n1_ := Aside0.mk (below_step (by repeat (first | (with_reducible first | exact HB.out | apply below_alloc | apply pw_below_drewN | apply below_drew1) | exact HB.out)) hb); clear HO_7; clear HB; have HO_7 := n0_; have HB := n1_; clear n0_ n1_; (try clear hb); (try clear hb2); (try clear hk); (try clear hi)) | ((with_reducible refine gate_callee (f := 18) rfl ?_); refine goesL_ (some 76) rfl rfl Try.func18 (by kernel_rfl) rfl #[.slice Ao56 x7_2.length co56] rfl (by (try simp only [List.map_toArray, List.map_cons, List.map_nil]); first | done | rfl | (simp only [List.length_drop, List.length_take]; rfl)) ?_; (with_reducible refine (kinds_Of.calls _ _ x7_2 t243 t244 t245 _ ?side1 ?side2 A41.out).mono ?_); (case side1 => repeat (first | exact (Kd.R_reads' HO_7.out).2.2 | (with_reducible refine Kd.C_alloc ?_ _) | (with_reducible refine Kd.C_drewN ?_ _) | (with_reducible refine Kd.C_drew ?_))); (case side2 => exact (Kd.R_reads' HO_7.out).2.1); rintro e w58 ⟨rfl, hb⟩; refine ⟨_, rfl, ?_⟩; have n0_ := Aside0.mk (Kd.R_below (by (with_reducible repeat (first | apply Kd.R_alloc | apply Kd.R_drewN | apply Kd.R_drew)); exact HO_7.out) hb); have n1_ := Aside0.mk (below_step (by repeat (first | (with_reducible first | exact HB.out | apply below_alloc | apply pw_below_drewN | apply below_drew1) | exact HB.out)) hb); clear HO_7; clear HB; have HO_7 := n0_; have HB := n1_; clear n0_ n1_; (try clear hb); (try clear hb2); (try clear hk); (try clear hi)))
                  go_ret
                  exact ⟨by first | rfl | (simp [errW_none, errW_some] <;> rfl) | (simp [*, errW_none, errW_some] <;> rfl), by repeat (first | (with_reducible first | exact HB.out | apply below_alloc | apply pw_below_drewN | apply below_drew1) | exact HB.out)⟩
        · rw [if_neg c20] at H
          exact absurd H (by simp)

end Go.Proofs.Ytijdckamblaflaa.M
