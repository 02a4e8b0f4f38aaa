-- PRINTED by print.py (a twelfth state) out of the translation. Not trusted: Lean checks it.
import Derived.Test.YtijdckamblaflaaMTypes
import Derived.Test.YtijdckamblaflaaMEvalsOf
import Derived.Test.YtijdckamblaflaaMEvalsUses
import Derived.Test.YtijdckamblaflaaMLaw07Alive
import Derived.Test.YtijdckamblaflaaMRef04Count
import Derived.Test.YtijdckamblaflaaMRef06All
namespace Go.Proofs.Ytijdckamblaflaa.M
open Go.RowKit Go.Proofs.YtijdckamblaflaaW.PrintWords Go.Proofs.YtijdckamblaflaaW.PrintLast Go.Proofs.YtijdckamblaflaaW.PrintMore
attribute [local go_sem] max2_int min2_int max_two min_two max_three min_three max_four min_four   -- for this text's walks alone
set_option linter.unusedVariables false
set_option linter.unusedSimpArgs false

/-! ### tailwaterlaw07_EvalsUses: function 12 -/
mutual
def tailwaterlaw07_EvalsUses.j0 : Nat → List (S27) → Bool → Bool → Int → Int → Int → Int → Int → Int → Int → Option (Bool)
  | 0, _, _, _, _, _, _, _, _, _, _ => none
  | k + 1, x0, x11, x12, x13, x741000, x741001, x741002, x742000, x742001, x742002 => if x11 = true then (tailwaterlaw07_EvalsUses.j1 k x0 x12 x13 x741000 x741001 x741002 x742000 x741001 x742002) else (tailwaterlaw07_EvalsUses.j1 k x0 x12 x13 x741000 x741001 x741002 x742000 x742001 x742002)
def tailwaterlaw07_EvalsUses.j1 : Nat → List (S27) → Bool → Int → Int → Int → Int → Int → Int → Int → Option (Bool)
  | 0, _, _, _, _, _, _, _, _, _ => none
  | k + 1, x0, x12, x13, x741000, x741001, x741002, x742000, x742001, x742002 => if x12 = true then ((evals_Of.f x0 x741000 x741001 x741002).bind fun bt752 => ((evals_Of.f x0 x742000 x742001 x741002).bind fun bt754 => (if x13 = 0 then (if bt752.2 = 0 then (if bt754.2 = 0 then (if bt752.1 = bt754.1 then ((tailwaterlaw07_alive.f).bind fun t756 => (some t756)) else (some false)) else (some false)) else (some false)) else (some false)))) else ((evals_Of.f x0 x741000 x741001 x741002).bind fun bt757 => ((evals_Of.f x0 x742000 x742001 x742002).bind fun bt759 => (if x13 = 0 then (if bt757.2 = 0 then (if bt759.2 = 0 then (if bt757.1 = bt759.1 then ((tailwaterlaw07_alive.f).bind fun t761 => (some t761)) else (some false)) else (some false)) else (some false)) else (some false))))
end
def tailwaterlaw07_EvalsUses.f (k : Nat) (l0 : List (S27)) (a1_0 : Int) (a1_1 : Int) (a1_2 : Int) (a2_0 : Int) (a2_1 : Int) (a2_2 : Int) : Option (Bool) := (tailwaterref04_Great.f l0).bind fun t742 => (if t742 = true then ((tailwaterlaw07_alive.f).bind fun t743 => (some t743)) else ((tailwaterref06_Of.f k l0).bind fun bt744 => (if bt744.2.2 = 0 then ((evals_Uses.f k l0).bind fun bt748 => (if bt748.1 = true then (tailwaterlaw07_EvalsUses.j0 k l0 bt748.2.1 bt748.2.2.1 bt748.2.2.2 a1_0 a1_1 a1_2 a1_0 a2_1 a2_2) else (tailwaterlaw07_EvalsUses.j0 k l0 bt748.2.1 bt748.2.2.1 bt748.2.2.2 a1_0 a1_1 a1_2 a2_0 a2_1 a2_2))) else ((tailwaterlaw07_alive.f).bind fun t747 => (some t747)))))
theorem tailwaterlaw07_EvalsUses.mono_l : ∀ k, (∀ y0 y1 y2 y3 y4 y5 y6 y7 y8 y9, LeO (tailwaterlaw07_EvalsUses.j0 k y0 y1 y2 y3 y4 y5 y6 y7 y8 y9) (tailwaterlaw07_EvalsUses.j0 (k + 1) y0 y1 y2 y3 y4 y5 y6 y7 y8 y9)) ∧ (∀ y0 y1 y2 y3 y4 y5 y6 y7 y8, LeO (tailwaterlaw07_EvalsUses.j1 k y0 y1 y2 y3 y4 y5 y6 y7 y8) (tailwaterlaw07_EvalsUses.j1 (k + 1) y0 y1 y2 y3 y4 y5 y6 y7 y8))
  | 0 => ⟨fun _ _ _ _ _ _ _ _ _ _ r h => by simp [tailwaterlaw07_EvalsUses.j0] at h, fun _ _ _ _ _ _ _ _ _ r h => by simp [tailwaterlaw07_EvalsUses.j1] at h⟩
  | k + 1 => by
    obtain ⟨ih0, ih1⟩ := tailwaterlaw07_EvalsUses.mono_l k
    refine ⟨?_, ?_⟩
    · intro y0 y1 y2 y3 y4 y5 y6 y7 y8 y9
      unfold tailwaterlaw07_EvalsUses.j0
      repeat' first
      | (with_reducible exact ih0 _ _ _ _ _ _ _ _ _ _)
      | (with_reducible exact ih1 _ _ _ _ _ _ _ _ _)
      | (with_reducible exact evals_Uses.mono _ _)
      | (with_reducible exact tailwaterref06_Of.mono _ _)
      | (with_reducible exact LeO.refl _)
      | (with_reducible exact LeO.none _)
      | (with_reducible refine LeO.ite ?_ ?_)
      | (with_reducible refine LeO.bind ?_ (fun _ => ?_))
      | exact ih0 _ _ _ _ _ _ _ _ _ _
      | exact ih1 _ _ _ _ _ _ _ _ _
      | exact evals_Uses.mono _ _
      | exact tailwaterref06_Of.mono _ _
      | exact LeO.none _
      | refine LeO.ite ?_ ?_
      | refine LeO.bind ?_ (fun _ => ?_)
    · intro y0 y1 y2 y3 y4 y5 y6 y7 y8
      unfold tailwaterlaw07_EvalsUses.j1
      repeat' first
      | (with_reducible exact ih0 _ _ _ _ _ _ _ _ _ _)
      | (with_reducible exact ih1 _ _ _ _ _ _ _ _ _)
      | (with_reducible exact evals_Uses.mono _ _)
      | (with_reducible exact tailwaterref06_Of.mono _ _)
      | (with_reducible exact LeO.refl _)
      | (with_reducible exact LeO.none _)
      | (with_reducible refine LeO.ite ?_ ?_)
      | (with_reducible refine LeO.bind ?_ (fun _ => ?_))
      | exact ih0 _ _ _ _ _ _ _ _ _ _
      | exact ih1 _ _ _ _ _ _ _ _ _
      | exact evals_Uses.mono _ _
      | exact tailwaterref06_Of.mono _ _
      | exact LeO.none _
      | refine LeO.ite ?_ ?_
      | refine LeO.bind ?_ (fun _ => ?_)
theorem tailwaterlaw07_EvalsUses.mono : ∀ a0 a1 a2 a3 a4 a5 a6 k, LeO (tailwaterlaw07_EvalsUses.f k a0 a1 a2 a3 a4 a5 a6) (tailwaterlaw07_EvalsUses.f (k + 1) a0 a1 a2 a3 a4 a5 a6) := by
  intro a0 a1 a2 a3 a4 a5 a6 k
  obtain ⟨ih0, ih1⟩ := tailwaterlaw07_EvalsUses.mono_l k
  unfold tailwaterlaw07_EvalsUses.f
  repeat' first
      | (with_reducible exact ih0 _ _ _ _ _ _ _ _ _ _)
      | (with_reducible exact ih1 _ _ _ _ _ _ _ _ _)
      | (with_reducible exact evals_Uses.mono _ _)
      | (with_reducible exact tailwaterref06_Of.mono _ _)
      | (with_reducible exact LeO.refl _)
      | (with_reducible exact LeO.none _)
      | (with_reducible refine LeO.ite ?_ ?_)
      | (with_reducible refine LeO.bind ?_ (fun _ => ?_))
      | exact ih0 _ _ _ _ _ _ _ _ _ _
      | exact ih1 _ _ _ _ _ _ _ _ _
      | exact evals_Uses.mono _ _
      | exact tailwaterref06_Of.mono _ _
      | exact LeO.none _
      | refine LeO.ite ?_ ?_
      | refine LeO.bind ?_ (fun _ => ?_)
set_option maxHeartbeats 8000000 in
set_option maxRecDepth 100000 in
theorem tailwaterlaw07_EvalsUses.calls (k : Nat) (A0 : Option Addr) (c0 : Nat) (l0 : List (S27)) (a1_0 : Int) (a1_1 : Int) (a1_2 : Int) (a2_0 : Int) (a2_1 : Int) (a2_2 : Int) (r : Bool) (w : World) (hr0 : Kd.C k27 w A0 l0.length l0) (hc0 : l0.length ≤ c0) (h : tailwaterlaw07_EvalsUses.f k l0 a1_0 a1_1 a1_2 a2_0 a2_1 a2_2 = some r) :
    Calls Try.prog 12 #[.slice A0 l0.length c0, .agg #[.int .i64 a1_0, .int .i64 a1_1, .int .i64 a1_2], .agg #[.int .i64 a2_0, .int .i64 a2_1, .int .i64 a2_2]] w fun e w' => e = .returned (.bool r) ∧ Below w.heap.size w w' := by
  have hu56 := Try.underlying56
  have HR0 := Aside0.mk hr0
  have HC0 := Aside0.mk hc0
  clear hr0 hc0
  have HB := Aside0.mk (Below.refl w.heap.size w)
  have H : ((tailwaterref04_Great.f l0).bind fun t742 => (if t742 = true then ((tailwaterlaw07_alive.f).bind fun t743 => (some t743)) else ((tailwaterref06_Of.f k l0).bind fun bt744 => (if bt744.2.2 = 0 then ((evals_Uses.f k l0).bind fun bt748 => (if bt748.1 = true then (tailwaterlaw07_EvalsUses.j0 k l0 bt748.2.1 bt748.2.2.1 bt748.2.2.2 a1_0 a1_1 a1_2 a1_0 a2_1 a2_2) else (tailwaterlaw07_EvalsUses.j0 k l0 bt748.2.1 bt748.2.2.1 bt748.2.2.2 a1_0 a1_1 a1_2 a2_0 a2_1 a2_2))) else ((tailwaterlaw07_alive.f).bind fun t747 => (some t747)))))) = some r := h
  clear h
  replace H := Option.bind_eq_some_iff.mp H
  obtain ⟨t742, A40, H⟩ := H
  replace H : (if t742 = true then ((tailwaterlaw07_alive.f).bind fun t743 => (some t743)) else ((tailwaterref06_Of.f k l0).bind fun bt744 => (if bt744.2.2 = 0 then ((evals_Uses.f k l0).bind fun bt748 => (if bt748.1 = true then (tailwaterlaw07_EvalsUses.j0 k l0 bt748.2.1 bt748.2.2.1 bt748.2.2.2 a1_0 a1_1 a1_2 a1_0 a2_1 a2_2) else (tailwaterlaw07_EvalsUses.j0 k l0 bt748.2.1 bt748.2.2.1 bt748.2.2.2 a1_0 a1_1 a1_2 a2_0 a2_1 a2_2))) else ((tailwaterlaw07_alive.f).bind fun t747 => (some t747))))) = some r := H
  have A4 := Aside0.mk A40
  clear A40
  by_cases c5 : t742 = true
  · subst c5
    have H1 : ((tailwaterlaw07_alive.f).bind fun t743 => (some t743)) = some r := by rw [if_pos rfl] at H; exact H
    clear H
    have H := H1
    clear H1
    replace H := Option.bind_eq_some_iff.mp H
    obtain ⟨t743, A60, H⟩ := H
    replace H : (some t743) = some r := H
    have A6 := Aside0.mk A60
    clear A60
    obtain rfl := Option.some.inj H
    go_enter Try.func12, Try.ntmps12
    go_wp2_with (first | ((with_reducible refine gate_dst (N := 4) rfl ?_); refine box_event ?hg (N := 4) ?hd (cs := #[.int .i64 a1_0, .int .i64 a1_1, .int .i64 a1_2]) (t := 56) ?hr ?_; (case hd => rfl); (case hg => rfl); (case hr => first | (go_simp; done) | (go_simp; rfl)); intro gb740 hg w7 hbox hb; have n0_ := Aside0.mk (below_step (by repeat (first | (with_reducible first | exact HB.out | apply below_alloc | apply pw_below_drewN | apply below_drew1) | exact HB.out)) hb); have n1_ := Aside0.mk (hbox); have n2_ := Aside0.mk ((by rw [hg]; exact (below_size (by repeat (first | (with_reducible first | exact HB.out | apply below_alloc | apply pw_below_drewN | apply below_drew1) | exact HB.out))) : w.heap.size ≤ gb740)); have n3_ := Aside0.mk ((by rw [hg]; exact (below_size (by repeat (first | (with_reducible first | exact HB.out | apply below_alloc | apply pw_below_drewN | apply below_drew1) | exact HB.out))) : w.heap.size ≤ gb740)); clear HB; have HB := n0_; have BK740 := n1_; have GW740 := n2_; have GE740 := n3_; clear n0_ n1_ n2_ n3_; clear hb hbox hg) | ((with_reducible refine gate_dst (N := 5) rfl ?_); refine box_event ?hg (N := 5) ?hd (cs := #[.int .i64 a2_0, .int .i64 a2_1, .int .i64 a2_2]) (t := 56) ?hr ?_; (case hd => rfl); (case hg => rfl); (case hr => first | (go_simp; done) | (go_simp; rfl)); intro gb741 hg w8 hbox hb; have n0_ := Aside0.mk (blk_below (g := gb740) (o := .cells #[.int .i64 a1_0, .int .i64 a1_1, .int .i64 a1_2] 56 (0, 0)) (by (with_reducible repeat (first | refine blk_drewN ?_ _ | refine blk_drew ?_ | refine blk_alloc ?_ _)); exact BK740.out) hb); have n1_ := Aside0.mk (below_step (by repeat (first | (with_reducible first | exact HB.out | apply below_alloc | apply pw_below_drewN | apply below_drew1 | refine below_set ?_ GE740.out) | exact HB.out)) hb); have n2_ := Aside0.mk (hbox); have n3_ := Aside0.mk ((by rw [hg]; exact (below_size (by repeat (first | (with_reducible first | exact HB.out | apply below_alloc | apply pw_below_drewN | apply below_drew1 | refine below_set ?_ GE740.out) | exact HB.out))) : w.heap.size ≤ gb741)); have n4_ := Aside0.mk ((by rw [hg]; exact (below_size (by repeat (first | (with_reducible first | exact HB.out | apply below_alloc | apply pw_below_drewN | apply below_drew1 | refine below_set ?_ GE740.out) | exact HB.out))) : w.heap.size ≤ gb741)); have n5_ := Aside0.mk ((by rw [hg]; exact Nat.ne_of_lt (blk_lt (g := gb740) (o := .cells #[.int .i64 a1_0, .int .i64 a1_1, .int .i64 a1_2] 56 (0, 0)) (by (with_reducible repeat (first | refine blk_drewN ?_ _ | refine blk_drew ?_ | refine blk_alloc ?_ _)); exact BK740.out)) : gb740 ≠ gb741)); have n6_ := Aside0.mk ((by rw [hg]; exact Nat.ne_of_gt (blk_lt (g := gb740) (o := .cells #[.int .i64 a1_0, .int .i64 a1_1, .int .i64 a1_2] 56 (0, 0)) (by (with_reducible repeat (first | refine blk_drewN ?_ _ | refine blk_drew ?_ | refine blk_alloc ?_ _)); exact BK740.out)) : gb741 ≠ gb740)); clear BK740; clear HB; have BK740 := n0_; have HB := n1_; have BK741 := n2_; have GW741 := n3_; have GE741 := n4_; have NB740_741 := n5_; have NB741_740 := n6_; clear n0_ n1_ n2_ n3_ n4_ n5_ n6_; clear hb hbox hg) | ((with_reducible refine gate_callee (f := 15) rfl ?_); refine goesL_ (some 19) rfl rfl Try.func15 (by kernel_rfl) rfl #[.slice A0 l0.length c0] rfl (by (try simp only [List.map_toArray, List.map_cons, List.map_nil]); first | done | rfl | (simp only [List.length_drop, List.length_take]; rfl)) ?_; (with_reducible refine (tailwaterref04_Great.calls _ _ l0 true _ ?side1 ?side2 A4.out).mono ?_); (case side1 => repeat (first | exact (Kd.C_below HR0.out HB.out) | (with_reducible refine Kd.C_alloc ?_ _) | (with_reducible refine Kd.C_drewN ?_ _) | (with_reducible refine Kd.C_drew ?_))); (case side2 => exact HC0.out); rintro e w' ⟨rfl, ⟨nd, rfl⟩⟩; refine ⟨_, rfl, ?_⟩) | ((with_reducible refine gate_callee (f := 33) rfl ?_); refine goesL_ (some 20) rfl rfl Try.func33 (by kernel_rfl) rfl #[] rfl (by (try simp only [List.map_toArray, List.map_cons, List.map_nil]); first | done | rfl | (simp only [List.length_drop, List.length_take]; rfl)) ?_; (with_reducible refine (tailwaterlaw07_alive.calls  t743 _ A6.out).mono ?_); rintro e w9 ⟨rfl, hb⟩; refine ⟨_, rfl, ?_⟩; have n0_ := Aside0.mk (blk_below (g := gb740) (o := .cells #[.int .i64 a1_0, .int .i64 a1_1, .int .i64 a1_2] 56 (0, 0)) (by (with_reducible repeat (first | refine blk_drewN ?_ _ | refine blk_drew ?_ | refine blk_alloc ?_ _)); exact BK740.out) hb); have n1_ := Aside0.mk (blk_below (g := gb741) (o := .cells #[.int .i64 a2_0, .int .i64 a2_1, .int .i64 a2_2] 56 (0, 0)) (by (with_reducible repeat (first | refine blk_drewN ?_ _ | refine blk_drew ?_ | refine blk_alloc ?_ _)); exact BK741.out) hb); have n2_ := Aside0.mk (below_step (by repeat (first | (with_reducible first | exact HB.out | apply below_alloc | apply pw_below_drewN | apply below_drew1 | refine below_set ?_ GE740.out | refine below_set ?_ GE741.out) | exact HB.out)) hb); clear BK740; clear BK741; clear HB; have BK740 := n0_; have BK741 := n1_; have HB := n2_; clear n0_ n1_ n2_; (try clear hb); (try clear hb2); (try clear hk); (try clear hi)))
    go_ret
    exact ⟨by first | rfl | (simp [errW_none, errW_some] <;> rfl) | (simp [*, errW_none, errW_some] <;> rfl), by repeat (first | (with_reducible first | exact HB.out | apply below_alloc | apply pw_below_drewN | apply below_drew1 | refine below_set ?_ GE740.out | refine below_set ?_ GE741.out) | exact HB.out)⟩
  · replace c5 := Bool.eq_false_iff.mpr c5
    subst c5
    have H1 : ((tailwaterref06_Of.f k l0).bind fun bt744 => (if bt744.2.2 = 0 then ((evals_Uses.f k l0).bind fun bt748 => (if bt748.1 = true then (tailwaterlaw07_EvalsUses.j0 k l0 bt748.2.1 bt748.2.2.1 bt748.2.2.2 a1_0 a1_1 a1_2 a1_0 a2_1 a2_2) else (tailwaterlaw07_EvalsUses.j0 k l0 bt748.2.1 bt748.2.2.1 bt748.2.2.2 a1_0 a1_1 a1_2 a2_0 a2_1 a2_2))) else ((tailwaterlaw07_alive.f).bind fun t747 => (some t747)))) = some r := by rw [if_neg (show ¬ (false = true) by decide)] at H; exact H
    clear H
    have H := H1
    clear H1
    replace H := Option.bind_eq_some_iff.mp H
    obtain ⟨⟨t744, t745, t746⟩, A100, H⟩ := H
    replace H : (if t746 = 0 then ((evals_Uses.f k l0).bind fun bt748 => (if bt748.1 = true then (tailwaterlaw07_EvalsUses.j0 k l0 bt748.2.1 bt748.2.2.1 bt748.2.2.2 a1_0 a1_1 a1_2 a1_0 a2_1 a2_2) else (tailwaterlaw07_EvalsUses.j0 k l0 bt748.2.1 bt748.2.2.1 bt748.2.2.2 a1_0 a1_1 a1_2 a2_0 a2_1 a2_2))) else ((tailwaterlaw07_alive.f).bind fun t747 => (some t747))) = some r := H
    have A10 := Aside0.mk A100
    clear A100
    by_cases c11 : t746 = 0
    · rw [if_pos c11] at H
      have c11b0 : (t746 == 0) = true := beq_iff_eq.mpr c11
      have c11b1 : (t746 != 0) = false := bne_eq_false_iff_eq.mpr c11
      clear c11
      replace H := Option.bind_eq_some_iff.mp H
      obtain ⟨⟨t748, t749, t750, t751⟩, A120, H⟩ := H
      replace H : (if t748 = true then (tailwaterlaw07_EvalsUses.j0 k l0 t749 t750 t751 a1_0 a1_1 a1_2 a1_0 a2_1 a2_2) else (tailwaterlaw07_EvalsUses.j0 k l0 t749 t750 t751 a1_0 a1_1 a1_2 a2_0 a2_1 a2_2)) = some r := H
      have A12 := Aside0.mk A120
      clear A120
      have HC13 := Aside0.mk H
      clear H
      go_enter Try.func12, Try.ntmps12
      go_upto_if 37 with (first | ((with_reducible refine gate_dst (N := 4) rfl ?_); refine box_event ?hg (N := 4) ?hd (cs := #[.int .i64 a1_0, .int .i64 a1_1, .int .i64 a1_2]) (t := 56) ?hr ?_; (case hd => rfl); (case hg => rfl); (case hr => first | (go_simp; done) | (go_simp; rfl)); intro gb740 hg w14 hbox hb; have n0_ := Aside0.mk (below_step (by repeat (first | (with_reducible first | exact HB.out | apply below_alloc | apply pw_below_drewN | apply below_drew1) | exact HB.out)) hb); have n1_ := Aside0.mk (hbox); have n2_ := Aside0.mk ((by rw [hg]; exact (below_size (by repeat (first | (with_reducible first | exact HB.out | apply below_alloc | apply pw_below_drewN | apply below_drew1) | exact HB.out))) : w.heap.size ≤ gb740)); have n3_ := Aside0.mk ((by rw [hg]; exact (below_size (by repeat (first | (with_reducible first | exact HB.out | apply below_alloc | apply pw_below_drewN | apply below_drew1) | exact HB.out))) : w.heap.size ≤ gb740)); clear HB; have HB := n0_; have BK740 := n1_; have GW740 := n2_; have GE740 := n3_; clear n0_ n1_ n2_ n3_; clear hb hbox hg) | ((with_reducible refine gate_dst (N := 5) rfl ?_); refine box_event ?hg (N := 5) ?hd (cs := #[.int .i64 a2_0, .int .i64 a2_1, .int .i64 a2_2]) (t := 56) ?hr ?_; (case hd => rfl); (case hg => rfl); (case hr => first | (go_simp; done) | (go_simp; rfl)); intro gb741 hg w15 hbox hb; have n0_ := Aside0.mk (blk_below (g := gb740) (o := .cells #[.int .i64 a1_0, .int .i64 a1_1, .int .i64 a1_2] 56 (0, 0)) (by (with_reducible repeat (first | refine blk_drewN ?_ _ | refine blk_drew ?_ | refine blk_alloc ?_ _)); exact BK740.out) hb); have n1_ := Aside0.mk (below_step (by repeat (first | (with_reducible first | exact HB.out | apply below_alloc | apply pw_below_drewN | apply below_drew1 | refine below_set ?_ GE740.out) | exact HB.out)) hb); have n2_ := Aside0.mk (hbox); have n3_ := Aside0.mk ((by rw [hg]; exact (below_size (by repeat (first | (with_reducible first | exact HB.out | apply below_alloc | apply pw_below_drewN | apply below_drew1 | refine below_set ?_ GE740.out) | exact HB.out))) : w.heap.size ≤ gb741)); have n4_ := Aside0.mk ((by rw [hg]; exact (below_size (by repeat (first | (with_reducible first | exact HB.out | apply below_alloc | apply pw_below_drewN | apply below_drew1 | refine below_set ?_ GE740.out) | exact HB.out))) : w.heap.size ≤ gb741)); have n5_ := Aside0.mk ((by rw [hg]; exact Nat.ne_of_lt (blk_lt (g := gb740) (o := .cells #[.int .i64 a1_0, .int .i64 a1_1, .int .i64 a1_2] 56 (0, 0)) (by (with_reducible repeat (first | refine blk_drewN ?_ _ | refine blk_drew ?_ | refine blk_alloc ?_ _)); exact BK740.out)) : gb740 ≠ gb741)); have n6_ := Aside0.mk ((by rw [hg]; exact Nat.ne_of_gt (blk_lt (g := gb740) (o := .cells #[.int .i64 a1_0, .int .i64 a1_1, .int .i64 a1_2] 56 (0, 0)) (by (with_reducible repeat (first | refine blk_drewN ?_ _ | refine blk_drew ?_ | refine blk_alloc ?_ _)); exact BK740.out)) : gb741 ≠ gb740)); clear BK740; clear HB; have BK740 := n0_; have HB := n1_; have BK741 := n2_; have GW741 := n3_; have GE741 := n4_; have NB740_741 := n5_; have NB741_740 := n6_; clear n0_ n1_ n2_ n3_ n4_ n5_ n6_; clear hb hbox hg) | ((with_reducible refine gate_callee (f := 15) rfl ?_); refine goesL_ (some 19) rfl rfl Try.func15 (by kernel_rfl) rfl #[.slice A0 l0.length c0] rfl (by (try simp only [List.map_toArray, List.map_cons, List.map_nil]); first | done | rfl | (simp only [List.length_drop, List.length_take]; rfl)) ?_; (with_reducible refine (tailwaterref04_Great.calls _ _ l0 false _ ?side1 ?side2 A4.out).mono ?_); (case side1 => repeat (first | exact (Kd.C_below HR0.out HB.out) | (with_reducible refine Kd.C_alloc ?_ _) | (with_reducible refine Kd.C_drewN ?_ _) | (with_reducible refine Kd.C_drew ?_))); (case side2 => exact HC0.out); rintro e w' ⟨rfl, ⟨nd, rfl⟩⟩; refine ⟨_, rfl, ?_⟩) | ((with_reducible refine gate_callee (f := 25) rfl ?_); refine goesL_ (some 23) rfl rfl Try.func25 (by kernel_rfl) rfl #[.slice A0 l0.length c0] rfl (by (try simp only [List.map_toArray, List.map_cons, List.map_nil]); first | done | rfl | (simp only [List.length_drop, List.length_take]; rfl)) ?_; (with_reducible refine (tailwaterref06_Of.calls k _ _ l0 t744 t745 t746 _ ?side1 ?side2 A10.out).mono ?_); (case side1 => repeat (first | exact (Kd.C_below HR0.out (by repeat (first | (with_reducible first | exact HB.out | apply below_alloc | apply pw_below_drewN | apply below_drew1 | refine below_set ?_ GE740.out | refine below_set ?_ GE741.out) | exact HB.out))) | (with_reducible refine Kd.C_alloc ?_ _) | (with_reducible refine Kd.C_drewN ?_ _) | (with_reducible refine Kd.C_drew ?_))); (case side2 => exact HC0.out); rintro e w16 ⟨rfl, hb⟩; refine ⟨_, rfl, ?_⟩; have n0_ := Aside0.mk (blk_below (g := gb740) (o := .cells #[.int .i64 a1_0, .int .i64 a1_1, .int .i64 a1_2] 56 (0, 0)) (by (with_reducible repeat (first | refine blk_drewN ?_ _ | refine blk_drew ?_ | refine blk_alloc ?_ _)); exact BK740.out) hb); have n1_ := Aside0.mk (blk_below (g := gb741) (o := .cells #[.int .i64 a2_0, .int .i64 a2_1, .int .i64 a2_2] 56 (0, 0)) (by (with_reducible repeat (first | refine blk_drewN ?_ _ | refine blk_drew ?_ | refine blk_alloc ?_ _)); exact BK741.out) hb); have n2_ := Aside0.mk (below_step (by repeat (first | (with_reducible first | exact HB.out | apply below_alloc | apply pw_below_drewN | apply below_drew1 | refine below_set ?_ GE740.out | refine below_set ?_ GE741.out) | exact HB.out)) hb); clear BK740; clear BK741; clear HB; have BK740 := n0_; have BK741 := n1_; have HB := n2_; clear n0_ n1_ n2_; (try clear hb); (try clear hb2); (try clear hk); (try clear hi)) | ((with_reducible refine gate_callee (f := 36) rfl ?_); refine goesL_ (some 32) rfl rfl Try.func36 (by kernel_rfl) rfl #[.slice A0 l0.length c0] rfl (by (try simp only [List.map_toArray, List.map_cons, List.map_nil]); first | done | rfl | (simp only [List.length_drop, List.length_take]; rfl)) ?_; (with_reducible refine (evals_Uses.calls k _ _ l0 t748 t749 t750 t751 _ ?side1 ?side2 A12.out).mono ?_); (case side1 => repeat (first | exact (Kd.C_below HR0.out HB.out) | (with_reducible refine Kd.C_alloc ?_ _) | (with_reducible refine Kd.C_drewN ?_ _) | (with_reducible refine Kd.C_drew ?_))); (case side2 => exact HC0.out); rintro e w17 ⟨rfl, hb⟩; refine ⟨_, rfl, ?_⟩; have n0_ := Aside0.mk (blk_below (g := gb740) (o := .cells #[.int .i64 a1_0, .int .i64 a1_1, .int .i64 a1_2] 56 (0, 0)) (by (with_reducible repeat (first | refine blk_drewN ?_ _ | refine blk_drew ?_ | refine blk_alloc ?_ _)); exact BK740.out) hb); have n1_ := Aside0.mk (blk_below (g := gb741) (o := .cells #[.int .i64 a2_0, .int .i64 a2_1, .int .i64 a2_2] 56 (0, 0)) (by (with_reducible repeat (first | refine blk_drewN ?_ _ | refine blk_drew ?_ | refine blk_alloc ?_ _)); exact BK741.out) hb); have n2_ := Aside0.mk (below_step (by repeat (first | (with_reducible first | exact HB.out | apply below_alloc | apply pw_below_drewN | apply below_drew1 | refine below_set ?_ GE740.out | refine below_set ?_ GE741.out) | exact HB.out)) hb); clear BK740; clear BK741; clear HB; have BK740 := n0_; have BK741 := n1_; have HB := n2_; clear n0_ n1_ n2_; (try clear hb); (try clear hb2); (try clear hk); (try clear hi)))
      (try simp only [Act.put, List.setIfInBounds_toArray, List.set_cons_zero, List.set_cons_succ])
      go_cut [] (fun wc => ∃ (kq : Nat) (x742000_12 : Int), Aside0 (tailwaterlaw07_EvalsUses.j0 kq l0 t749 t750 t751 a1_0 a1_1 a1_2 x742000_12 a2_1 a2_2 = some r) ∧ Aside0 (kq ≤ k) ∧ Aside0 (wc.heap[gb740]? = some (.cells #[.int .i64 a1_0, .int .i64 a1_1, .int .i64 a1_2] 56 (0, 0))) ∧ Aside0 (wc.heap[gb741]? = some (.cells #[.int .i64 x742000_12, .int .i64 a2_1, .int .i64 a2_2] 56 (0, 0))) ∧ Aside0 (Below w.heap.size w wc))
      case first =>
        have H := HC13.out
        clear HC13
        by_cases c18 : t748 = true
        · subst c18
          have H1 : (tailwaterlaw07_EvalsUses.j0 k l0 t749 t750 t751 a1_0 a1_1 a1_2 a1_0 a2_1 a2_2) = some r := by rw [if_pos rfl] at H; exact H
          clear H
          have H := H1
          clear H1
          have H' := Aside0.mk H
          clear H
          have hnb19 := NB740_741.out
          have hnc19 := NB741_740.out
          have hcz20_0 : w17.cell? ⟨gb740, 0, none⟩ = some (.int .i64 a1_0) := (blk_cell BK740.out 0).trans rfl
          have hcz20_1 : w17.cell? ⟨gb740, 1, none⟩ = some (.int .i64 a1_1) := (blk_cell BK740.out 1).trans rfl
          have hcz20_2 : w17.cell? ⟨gb740, 2, none⟩ = some (.int .i64 a1_2) := (blk_cell BK740.out 2).trans rfl
          have hfz20_0 := blk_frozen BK740.out 0
          have hfz20_1 := blk_frozen BK740.out 1
          have hfz20_2 := blk_frozen BK740.out 2
          have hcz21_0 : w17.cell? ⟨gb741, 0, none⟩ = some (.int .i64 a2_0) := (blk_cell BK741.out 0).trans rfl
          have hcz21_1 : w17.cell? ⟨gb741, 1, none⟩ = some (.int .i64 a2_1) := (blk_cell BK741.out 1).trans rfl
          have hcz21_2 : w17.cell? ⟨gb741, 2, none⟩ = some (.int .i64 a2_2) := (blk_cell BK741.out 2).trans rfl
          have hfz21_0 := blk_frozen BK741.out 0
          have hfz21_1 := blk_frozen BK741.out 1
          have hfz21_2 := blk_frozen BK741.out 2
          go_wp2
          go_meet
          case rel => exact ⟨_, (a1_0), H', ⟨by first | omega | exact Nat.le_refl _⟩, ⟨by (with_reducible repeat (first | refine blk_drewN ?_ _ | refine blk_drew ?_ | refine blk_alloc ?_ _)); refine blk_far ?_ NB740_741.out _; (with_reducible repeat (first | refine blk_drewN ?_ _ | refine blk_drew ?_ | refine blk_alloc ?_ _)); exact BK740.out⟩, ⟨by (with_reducible repeat (first | refine blk_drewN ?_ _ | refine blk_drew ?_ | refine blk_alloc ?_ _)); refine blk_put (cs := #[.int .i64 a2_0, .int .i64 a2_1, .int .i64 a2_2]) ?_ 0 _ rfl; (with_reducible repeat (first | refine blk_drewN ?_ _ | refine blk_drew ?_ | refine blk_alloc ?_ _)); exact BK741.out⟩, ⟨by repeat (first | (with_reducible first | exact HB.out | apply below_alloc | apply pw_below_drewN | apply below_drew1 | refine below_set ?_ GE740.out | refine below_set ?_ GE741.out) | exact HB.out)⟩⟩
        · replace c18 := Bool.eq_false_iff.mpr c18
          subst c18
          have H1 : (tailwaterlaw07_EvalsUses.j0 k l0 t749 t750 t751 a1_0 a1_1 a1_2 a2_0 a2_1 a2_2) = some r := by rw [if_neg (show ¬ (false = true) by decide)] at H; exact H
          clear H
          have H := H1
          clear H1
          have H' := Aside0.mk H
          clear H
          go_wp2
          go_meet
          case rel => exact ⟨_, (a2_0), H', ⟨by first | omega | exact Nat.le_refl _⟩, ⟨by (with_reducible repeat (first | refine blk_drewN ?_ _ | refine blk_drew ?_ | refine blk_alloc ?_ _)); exact BK740.out⟩, ⟨by (with_reducible repeat (first | refine blk_drewN ?_ _ | refine blk_drew ?_ | refine blk_alloc ?_ _)); exact BK741.out⟩, ⟨by repeat (first | (with_reducible first | exact HB.out | apply below_alloc | apply pw_below_drewN | apply below_drew1 | refine below_set ?_ GE740.out | refine below_set ?_ GE741.out) | exact HB.out)⟩⟩
      case rest =>
        clear HC13
        try clear c1
        try clear c2
        try clear p2
        try clear c3
        try clear c5
        try clear c11
        try clear c11b0
        try clear c11b1
        try clear c12
        try clear c15
        try clear c18
        try clear c19
        try clear hcz20_0
        try clear hcz20_1
        try clear hcz20_2
        try clear hcz21_0
        try clear hcz21_1
        try clear hcz21_2
        try clear hfz20_0
        try clear hfz20_1
        try clear hfz20_2
        try clear hfz21_0
        try clear hfz21_1
        try clear hfz21_2
        obtain ⟨kq, x742000_12, HA, HJ12, BK740, BK741, HB⟩ := hcut
        cases kq with
        | zero => exact absurd HA.out (by simp [tailwaterlaw07_EvalsUses.j0])
        | succ kj12 =>
          have H := HA.out
          clear HA
          simp only [tailwaterlaw07_EvalsUses.j0] at H
          have HC22 := Aside0.mk H
          clear H
          go_upto_if 41 with (fail)
          go_cut [] (fun wc => ∃ (kq : Nat) (x742001_21 : Int), Aside0 (tailwaterlaw07_EvalsUses.j1 kq l0 t750 t751 a1_0 a1_1 a1_2 x742000_12 x742001_21 a2_2 = some r) ∧ Aside0 (kq ≤ kj12) ∧ Aside0 (wc.heap[gb740]? = some (.cells #[.int .i64 a1_0, .int .i64 a1_1, .int .i64 a1_2] 56 (0, 0))) ∧ Aside0 (wc.heap[gb741]? = some (.cells #[.int .i64 x742000_12, .int .i64 x742001_21, .int .i64 a2_2] 56 (0, 0))) ∧ Aside0 (Below w.heap.size w wc))
          case first =>
            have H := HC22.out
            clear HC22
            by_cases c23 : t749 = true
            · subst c23
              have H1 : (tailwaterlaw07_EvalsUses.j1 kj12 l0 t750 t751 a1_0 a1_1 a1_2 x742000_12 a1_1 a2_2) = some r := by rw [if_pos rfl] at H; exact H
              clear H
              have H := H1
              clear H1
              have H' := Aside0.mk H
              clear H
              have hnb24 := NB740_741.out
              have hnc24 := NB741_740.out
              have hcz25_0 : wc.cell? ⟨gb740, 0, none⟩ = some (.int .i64 a1_0) := (blk_cell BK740.out 0).trans rfl
              have hcz25_1 : wc.cell? ⟨gb740, 1, none⟩ = some (.int .i64 a1_1) := (blk_cell BK740.out 1).trans rfl
              have hcz25_2 : wc.cell? ⟨gb740, 2, none⟩ = some (.int .i64 a1_2) := (blk_cell BK740.out 2).trans rfl
              have hfz25_0 := blk_frozen BK740.out 0
              have hfz25_1 := blk_frozen BK740.out 1
              have hfz25_2 := blk_frozen BK740.out 2
              have hcz26_0 : wc.cell? ⟨gb741, 0, none⟩ = some (.int .i64 x742000_12) := (blk_cell BK741.out 0).trans rfl
              have hcz26_1 : wc.cell? ⟨gb741, 1, none⟩ = some (.int .i64 a2_1) := (blk_cell BK741.out 1).trans rfl
              have hcz26_2 : wc.cell? ⟨gb741, 2, none⟩ = some (.int .i64 a2_2) := (blk_cell BK741.out 2).trans rfl
              have hfz26_0 := blk_frozen BK741.out 0
              have hfz26_1 := blk_frozen BK741.out 1
              have hfz26_2 := blk_frozen BK741.out 2
              go_wp2
              go_meet
              case rel => exact ⟨_, (a1_1), H', ⟨by have := HJ12.out; first | omega | exact Nat.le_refl _⟩, ⟨by (with_reducible repeat (first | refine blk_drewN ?_ _ | refine blk_drew ?_ | refine blk_alloc ?_ _)); refine blk_far ?_ NB740_741.out _; (with_reducible repeat (first | refine blk_drewN ?_ _ | refine blk_drew ?_ | refine blk_alloc ?_ _)); exact BK740.out⟩, ⟨by (with_reducible repeat (first | refine blk_drewN ?_ _ | refine blk_drew ?_ | refine blk_alloc ?_ _)); refine blk_put (cs := #[.int .i64 x742000_12, .int .i64 a2_1, .int .i64 a2_2]) ?_ 1 _ rfl; (with_reducible repeat (first | refine blk_drewN ?_ _ | refine blk_drew ?_ | refine blk_alloc ?_ _)); exact BK741.out⟩, ⟨by repeat (first | (with_reducible first | exact HB.out | apply below_alloc | apply pw_below_drewN | apply below_drew1 | refine below_set ?_ GE740.out | refine below_set ?_ GE741.out) | exact HB.out)⟩⟩
            · replace c23 := Bool.eq_false_iff.mpr c23
              subst c23
              have H1 : (tailwaterlaw07_EvalsUses.j1 kj12 l0 t750 t751 a1_0 a1_1 a1_2 x742000_12 a2_1 a2_2) = some r := by rw [if_neg (show ¬ (false = true) by decide)] at H; exact H
              clear H
              have H := H1
              clear H1
              have H' := Aside0.mk H
              clear H
              go_wp2
              go_meet
              case rel => exact ⟨_, (a2_1), H', ⟨by have := HJ12.out; first | omega | exact Nat.le_refl _⟩, ⟨by (with_reducible repeat (first | refine blk_drewN ?_ _ | refine blk_drew ?_ | refine blk_alloc ?_ _)); exact BK740.out⟩, ⟨by (with_reducible repeat (first | refine blk_drewN ?_ _ | refine blk_drew ?_ | refine blk_alloc ?_ _)); exact BK741.out⟩, ⟨by repeat (first | (with_reducible first | exact HB.out | apply below_alloc | apply pw_below_drewN | apply below_drew1 | refine below_set ?_ GE740.out | refine below_set ?_ GE741.out) | exact HB.out)⟩⟩
          case rest =>
            clear HC22
            try clear c1
            try clear c2
            try clear p2
            try clear c3
            try clear c5
            try clear c11
            try clear c11b0
            try clear c11b1
            try clear c12
            try clear c15
            try clear c18
            try clear c19
            try clear c23
            try clear c24
            try clear c25
            try clear hcz20_0
            try clear hcz20_1
            try clear hcz20_2
            try clear hcz21_0
            try clear hcz21_1
            try clear hcz21_2
            try clear hcz25_0
            try clear hcz25_1
            try clear hcz25_2
            try clear hcz26_0
            try clear hcz26_1
            try clear hcz26_2
            try clear hfz20_0
            try clear hfz20_1
            try clear hfz20_2
            try clear hfz21_0
            try clear hfz21_1
            try clear hfz21_2
            try clear hfz25_0
            try clear hfz25_1
            try clear hfz25_2
            try clear hfz26_0
            try clear hfz26_1
            try clear hfz26_2
            try clear p2
            obtain ⟨kq, x742001_21, HA, HJ21, BK740, BK741, HB⟩ := hcut
            cases kq with
            | zero => exact absurd HA.out (by simp [tailwaterlaw07_EvalsUses.j1])
            | succ kj21 =>
              have H := HA.out
              clear HA
              simp only [tailwaterlaw07_EvalsUses.j1] at H
              by_cases c27 : t750 = true
              · subst c27
                have H1 : ((evals_Of.f l0 a1_0 a1_1 a1_2).bind fun bt752 => ((evals_Of.f l0 x742000_12 x742001_21 a1_2).bind fun bt754 => (if t751 = 0 then (if bt752.2 = 0 then (if bt754.2 = 0 then (if bt752.1 = bt754.1 then ((tailwaterlaw07_alive.f).bind fun t756 => (some t756)) else (some false)) else (some false)) else (some false)) else (some false)))) = some r := by rw [if_pos rfl] at H; exact H
                clear H
                have H := H1
                clear H1
                replace H := Option.bind_eq_some_iff.mp H
                obtain ⟨⟨t752, t753⟩, A280, H⟩ := H
                replace H : ((evals_Of.f l0 x742000_12 x742001_21 a1_2).bind fun bt754 => (if t751 = 0 then (if t753 = 0 then (if bt754.2 = 0 then (if t752 = bt754.1 then ((tailwaterlaw07_alive.f).bind fun t756 => (some t756)) else (some false)) else (some false)) else (some false)) else (some false))) = some r := H
                have A28 := Aside0.mk A280
                clear A280
                replace H := Option.bind_eq_some_iff.mp H
                obtain ⟨⟨t754, t755⟩, A290, H⟩ := H
                replace H : (if t751 = 0 then (if t753 = 0 then (if t755 = 0 then (if t752 = t754 then ((tailwaterlaw07_alive.f).bind fun t756 => (some t756)) else (some false)) else (some false)) else (some false)) else (some false)) = some r := H
                have A29 := Aside0.mk A290
                clear A290
                by_cases c30 : t751 = 0
                · rw [if_pos c30] at H
                  have c30b0 : (t751 == 0) = true := beq_iff_eq.mpr c30
                  have c30b1 : (t751 != 0) = false := bne_eq_false_iff_eq.mpr c30
                  clear c30
                  by_cases c31 : t753 = 0
                  · rw [if_pos c31] at H
                    have c31b0 : (t753 == 0) = true := beq_iff_eq.mpr c31
                    have c31b1 : (t753 != 0) = false := bne_eq_false_iff_eq.mpr c31
                    clear c31
                    by_cases c32 : t755 = 0
                    · rw [if_pos c32] at H
                      have c32b0 : (t755 == 0) = true := beq_iff_eq.mpr c32
                      have c32b1 : (t755 != 0) = false := bne_eq_false_iff_eq.mpr c32
                      clear c32
                      by_cases c33 : t752 = t754
                      · rw [if_pos c33] at H
                        have c33b0 : (t752 == t754) = true := beq_iff_eq.mpr c33
                        have c33b1 : (t752 != t754) = false := bne_eq_false_iff_eq.mpr c33
                        clear c33
                        replace H := Option.bind_eq_some_iff.mp H
                        obtain ⟨t756, A340, H⟩ := H
                        replace H : (some t756) = some r := H
                        have A34 := Aside0.mk A340
                        clear A340
                        obtain rfl := Option.some.inj H
                        have hnb35 := NB740_741.out
                        have hnc35 := NB741_740.out
                        have hcz36_0 : wc.cell? ⟨gb740, 0, none⟩ = some (.int .i64 a1_0) := (blk_cell BK740.out 0).trans rfl
                        have hcz36_1 : wc.cell? ⟨gb740, 1, none⟩ = some (.int .i64 a1_1) := (blk_cell BK740.out 1).trans rfl
                        have hcz36_2 : wc.cell? ⟨gb740, 2, none⟩ = some (.int .i64 a1_2) := (blk_cell BK740.out 2).trans rfl
                        have hfz36_0 := blk_frozen BK740.out 0
                        have hfz36_1 := blk_frozen BK740.out 1
                        have hfz36_2 := blk_frozen BK740.out 2
                        have hcz37_0 : wc.cell? ⟨gb741, 0, none⟩ = some (.int .i64 x742000_12) := (blk_cell BK741.out 0).trans rfl
                        have hcz37_1 : wc.cell? ⟨gb741, 1, none⟩ = some (.int .i64 x742001_21) := (blk_cell BK741.out 1).trans rfl
                        have hcz37_2 : wc.cell? ⟨gb741, 2, none⟩ = some (.int .i64 a2_2) := (blk_cell BK741.out 2).trans rfl
                        have hfz37_0 := blk_frozen BK741.out 0
                        have hfz37_1 := blk_frozen BK741.out 1
                        have hfz37_2 := blk_frozen BK741.out 2
                        go_wp2_with (first | ((with_reducible refine gate_callee (f := 35) rfl ?_); refine goesL_ (some 52) rfl rfl Try.func35 (by kernel_rfl) rfl #[.slice A0 l0.length c0, .agg #[.int .i64 a1_0, .int .i64 a1_1, .int .i64 a1_2]] rfl (by (try simp only [List.map_toArray, List.map_cons, List.map_nil]); first | done | rfl | (simp only [List.length_drop, List.length_take]; rfl)) ?_; (with_reducible refine (evals_Of.calls _ _ l0 a1_0 a1_1 a1_2 t752 t753 _ ?side1 ?side2 A28.out).mono ?_); (case side1 => exact Kd.C_below HR0.out (by repeat (first | (with_reducible first | exact HB.out | apply below_alloc | apply pw_below_drewN | apply below_drew1 | refine below_set ?_ GE740.out | refine below_set ?_ GE741.out) | exact HB.out))); (case side2 => exact HC0.out); rintro e w38 ⟨rfl, hb⟩; refine ⟨_, rfl, ?_⟩; have n0_ := Aside0.mk (blk_below (g := gb740) (o := .cells #[.int .i64 a1_0, .int .i64 a1_1, .int .i64 a1_2] 56 (0, 0)) (by (with_reducible repeat (first | refine blk_drewN ?_ _ | refine blk_drew ?_ | refine blk_alloc ?_ _)); refine blk_far ?_ NB740_741.out _; (with_reducible repeat (first | refine blk_drewN ?_ _ | refine blk_drew ?_ | refine blk_alloc ?_ _)); exact BK740.out) hb); have n1_ := Aside0.mk (blk_below (g := gb741) (o := .cells #[.int .i64 x742000_12, .int .i64 x742001_21, .int .i64 a1_2] 56 (0, 0)) (by (with_reducible repeat (first | refine blk_drewN ?_ _ | refine blk_drew ?_ | refine blk_alloc ?_ _)); refine blk_put (cs := #[.int .i64 x742000_12, .int .i64 x742001_21, .int .i64 a2_2]) ?_ 2 _ rfl; (with_reducible repeat (first | refine blk_drewN ?_ _ | refine blk_drew ?_ | refine blk_alloc ?_ _)); exact BK741.out) hb); have n2_ := Aside0.mk (below_step (by repeat (first | (with_reducible first | exact HB.out | apply below_alloc | apply pw_below_drewN | apply below_drew1 | refine below_set ?_ GE740.out | refine below_set ?_ GE741.out) | exact HB.out)) hb); clear BK740; clear BK741; clear HB; have BK740 := n0_; have BK741 := n1_; have HB := n2_; clear n0_ n1_ n2_; (try clear hb); (try clear hb2); (try clear hk); (try clear hi); have hcz39_0 : w38.cell? ⟨gb741, 0, none⟩ = some (.int .i64 x742000_12) := (blk_cell BK741.out 0).trans rfl; have hcz39_1 : w38.cell? ⟨gb741, 1, none⟩ = some (.int .i64 x742001_21) := (blk_cell BK741.out 1).trans rfl; have hcz39_2 : w38.cell? ⟨gb741, 2, none⟩ = some (.int .i64 a1_2) := (blk_cell BK741.out 2).trans rfl; have hfz39_0 := blk_frozen BK741.out 0; have hfz39_1 := blk_frozen BK741.out 1; have hfz39_2 := blk_frozen BK741.out 2) | ((with_reducible refine gate_callee (f := 35) rfl ?_); refine goesL_ (some 58) rfl rfl Try.func35 (by kernel_rfl) rfl #[.slice A0 l0.length c0, .agg #[.int .i64 x742000_12, .int .i64 x742001_21, .int .i64 a1_2]] rfl (by (try simp only [List.map_toArray, List.map_cons, List.map_nil]); first | done | rfl | (simp only [List.length_drop, List.length_take]; rfl)) ?_; (with_reducible refine (evals_Of.calls _ _ l0 x742000_12 x742001_21 a1_2 t754 t755 _ ?side1 ?side2 A29.out).mono ?_); (case side1 => repeat (first | exact (Kd.C_below HR0.out HB.out) | (with_reducible refine Kd.C_alloc ?_ _) | (with_reducible refine Kd.C_drewN ?_ _) | (with_reducible refine Kd.C_drew ?_))); (case side2 => exact HC0.out); rintro e w40 ⟨rfl, hb⟩; refine ⟨_, rfl, ?_⟩; have n0_ := Aside0.mk (blk_below (g := gb740) (o := .cells #[.int .i64 a1_0, .int .i64 a1_1, .int .i64 a1_2] 56 (0, 0)) (by (with_reducible repeat (first | refine blk_drewN ?_ _ | refine blk_drew ?_ | refine blk_alloc ?_ _)); exact BK740.out) hb); have n1_ := Aside0.mk (blk_below (g := gb741) (o := .cells #[.int .i64 x742000_12, .int .i64 x742001_21, .int .i64 a1_2] 56 (0, 0)) (by (with_reducible repeat (first | refine blk_drewN ?_ _ | refine blk_drew ?_ | refine blk_alloc ?_ _)); exact BK741.out) hb); have n2_ := Aside0.mk (below_step (by repeat (first | (with_reducible first | exact HB.out | apply below_alloc | apply pw_below_drewN | apply below_drew1 | refine below_set ?_ GE740.out | refine below_set ?_ GE741.out) | exact HB.out)) hb); clear BK740; clear BK741; clear HB; have BK740 := n0_; have BK741 := n1_; have HB := n2_; clear n0_ n1_ n2_; (try clear hb); (try clear hb2); (try clear hk); (try clear hi)) | (go_at_call 33; (with_reducible refine (tailwaterlaw07_alive.calls  t756 _ A34.out).mono ?_); rintro e w41 ⟨rfl, hb⟩; have n0_ := Aside0.mk (blk_below (g := gb740) (o := .cells #[.int .i64 a1_0, .int .i64 a1_1, .int .i64 a1_2] 56 (0, 0)) (by (with_reducible repeat (first | refine blk_drewN ?_ _ | refine blk_drew ?_ | refine blk_alloc ?_ _)); exact BK740.out) hb); have n1_ := Aside0.mk (blk_below (g := gb741) (o := .cells #[.int .i64 x742000_12, .int .i64 x742001_21, .int .i64 a1_2] 56 (0, 0)) (by (with_reducible repeat (first | refine blk_drewN ?_ _ | refine blk_drew ?_ | refine blk_alloc ?_ _)); exact BK741.out) hb); have n2_ := Aside0.mk (below_step (by repeat (first | (with_reducible first | exact HB.out | apply below_alloc | apply pw_below_drewN | apply below_drew1 | refine below_set ?_ GE740.out | refine below_set ?_ GE741.out) | exact HB.out)) hb); clear BK740; clear BK741; clear HB; have BK740 := n0_; have BK741 := n1_; have HB := n2_; clear n0_ n1_ n2_; (try clear hb); (try clear hb2); (try clear hk); (try clear hi)))
                        go_ret
                        exact ⟨by first | rfl | (simp [errW_none, errW_some] <;> rfl) | (simp [*, errW_none, errW_some] <;> rfl), by repeat (first | (with_reducible first | exact HB.out | apply below_alloc | apply pw_below_drewN | apply below_drew1 | refine below_set ?_ GE740.out | refine below_set ?_ GE741.out) | exact HB.out)⟩
                      · rw [if_neg c33] at H
                        have c33b0 : (t752 == t754) = false := beq_eq_false_iff_ne.mpr c33
                        have c33b1 : (t752 != t754) = true := bne_iff_ne.mpr c33
                        obtain rfl := Option.some.inj H
                        have hnb42 := NB740_741.out
                        have hnc42 := NB741_740.out
                        have hcz43_0 : wc.cell? ⟨gb740, 0, none⟩ = some (.int .i64 a1_0) := (blk_cell BK740.out 0).trans rfl
                        have hcz43_1 : wc.cell? ⟨gb740, 1, none⟩ = some (.int .i64 a1_1) := (blk_cell BK740.out 1).trans rfl
                        have hcz43_2 : wc.cell? ⟨gb740, 2, none⟩ = some (.int .i64 a1_2) := (blk_cell BK740.out 2).trans rfl
                        have hfz43_0 := blk_frozen BK740.out 0
                        have hfz43_1 := blk_frozen BK740.out 1
                        have hfz43_2 := blk_frozen BK740.out 2
                        have hcz44_0 : wc.cell? ⟨gb741, 0, none⟩ = some (.int .i64 x742000_12) := (blk_cell BK741.out 0).trans rfl
                        have hcz44_1 : wc.cell? ⟨gb741, 1, none⟩ = some (.int .i64 x742001_21) := (blk_cell BK741.out 1).trans rfl
                        have hcz44_2 : wc.cell? ⟨gb741, 2, none⟩ = some (.int .i64 a2_2) := (blk_cell BK741.out 2).trans rfl
                        have hfz44_0 := blk_frozen BK741.out 0
                        have hfz44_1 := blk_frozen BK741.out 1
                        have hfz44_2 := blk_frozen BK741.out 2
                        go_wp2_with (first | ((with_reducible refine gate_callee (f := 35) rfl ?_); refine goesL_ (some 52) rfl rfl Try.func35 (by kernel_rfl) rfl #[.slice A0 l0.length c0, .agg #[.int .i64 a1_0, .int .i64 a1_1, .int .i64 a1_2]] rfl (by (try simp only [List.map_toArray, List.map_cons, List.map_nil]); first | done | rfl | (simp only [List.length_drop, List.length_take]; rfl)) ?_; (with_reducible refine (evals_Of.calls _ _ l0 a1_0 a1_1 a1_2 t752 t753 _ ?side1 ?side2 A28.out).mono ?_); (case side1 => exact Kd.C_below HR0.out (by repeat (first | (with_reducible first | exact HB.out | apply below_alloc | apply pw_below_drewN | apply below_drew1 | refine below_set ?_ GE740.out | refine below_set ?_ GE741.out) | exact HB.out))); (case side2 => exact HC0.out); rintro e w45 ⟨rfl, hb⟩; refine ⟨_, rfl, ?_⟩; have n0_ := Aside0.mk (blk_below (g := gb740) (o := .cells #[.int .i64 a1_0, .int .i64 a1_1, .int .i64 a1_2] 56 (0, 0)) (by (with_reducible repeat (first | refine blk_drewN ?_ _ | refine blk_drew ?_ | refine blk_alloc ?_ _)); refine blk_far ?_ NB740_741.out _; (with_reducible repeat (first | refine blk_drewN ?_ _ | refine blk_drew ?_ | refine blk_alloc ?_ _)); exact BK740.out) hb); have n1_ := Aside0.mk (blk_below (g := gb741) (o := .cells #[.int .i64 x742000_12, .int .i64 x742001_21, .int .i64 a1_2] 56 (0, 0)) (by (with_reducible repeat (first | refine blk_drewN ?_ _ | refine blk_drew ?_ | refine blk_alloc ?_ _)); refine blk_put (cs := #[.int .i64 x742000_12, .int .i64 x742001_21, .int .i64 a2_2]) ?_ 2 _ rfl; (with_reducible repeat (first | refine blk_drewN ?_ _ | refine blk_drew ?_ | refine blk_alloc ?_ _)); exact BK741.out) hb); have n2_ := Aside0.mk (below_step (by repeat (first | (with_reducible first | exact HB.out | apply below_alloc | apply pw_below_drewN | apply below_drew1 | refine below_set ?_ GE740.out | refine below_set ?_ GE741.out) | exact HB.out)) hb); clear BK740; clear BK741; clear HB; have BK740 := n0_; have BK741 := n1_; have HB := n2_; clear n0_ n1_ n2_; (try clear hb); (try clear hb2); (try clear hk); (try clear hi); have hcz46_0 : w45.cell? ⟨gb741, 0, none⟩ = some (.int .i64 x742000_12) := (blk_cell BK741.out 0).trans rfl; have hcz46_1 : w45.cell? ⟨gb741, 1, none⟩ = some (.int .i64 x742001_21) := (blk_cell BK741.out 1).trans rfl; have hcz46_2 : w45.cell? ⟨gb741, 2, none⟩ = some (.int .i64 a1_2) := (blk_cell BK741.out 2).trans rfl; have hfz46_0 := blk_frozen BK741.out 0; have hfz46_1 := blk_frozen BK741.out 1; have hfz46_2 := blk_frozen BK741.out 2) | ((with_reducible refine gate_callee (f := 35) rfl ?_); refine goesL_ (some 58) rfl rfl Try.func35 (by kernel_rfl) rfl #[.slice A0 l0.length c0, .agg #[.int .i64 x742000_12, .int .i64 x742001_21, .int .i64 a1_2]] rfl (by (try simp only [List.map_toArray, List.map_cons, List.map_nil]); first | done | rfl | (simp only [List.length_drop, List.length_take]; rfl)) ?_; (with_reducible refine (evals_Of.calls _ _ l0 x742000_12 x742001_21 a1_2 t754 t755 _ ?side1 ?side2 A29.out).mono ?_); (case side1 => repeat (first | exact (Kd.C_below HR0.out HB.out) | (with_reducible refine Kd.C_alloc ?_ _) | (with_reducible refine Kd.C_drewN ?_ _) | (with_reducible refine Kd.C_drew ?_))); (case side2 => exact HC0.out); rintro e w47 ⟨rfl, hb⟩; refine ⟨_, rfl, ?_⟩; have n0_ := Aside0.mk (blk_below (g := gb740) (o := .cells #[.int .i64 a1_0, .int .i64 a1_1, .int .i64 a1_2] 56 (0, 0)) (by (with_reducible repeat (first | refine blk_drewN ?_ _ | refine blk_drew ?_ | refine blk_alloc ?_ _)); exact BK740.out) hb); have n1_ := Aside0.mk (blk_below (g := gb741) (o := .cells #[.int .i64 x742000_12, .int .i64 x742001_21, .int .i64 a1_2] 56 (0, 0)) (by (with_reducible repeat (first | refine blk_drewN ?_ _ | refine blk_drew ?_ | refine blk_alloc ?_ _)); exact BK741.out) hb); have n2_ := Aside0.mk (below_step (by repeat (first | (with_reducible first | exact HB.out | apply below_alloc | apply pw_below_drewN | apply below_drew1 | refine below_set ?_ GE740.out | refine below_set ?_ GE741.out) | exact HB.out)) hb); clear BK740; clear BK741; clear HB; have BK740 := n0_; have BK741 := n1_; have HB := n2_; clear n0_ n1_ n2_; (try clear hb); (try clear hb2); (try clear hk); (try clear hi)))
                        go_ret
                        exact ⟨by first | rfl | (simp [errW_none, errW_some] <;> rfl) | (simp [*, errW_none, errW_some] <;> rfl), by repeat (first | (with_reducible first | exact HB.out | apply below_alloc | apply pw_below_drewN | apply below_drew1 | refine below_set ?_ GE740.out | refine below_set ?_ GE741.out) | exact HB.out)⟩
                    · rw [if_neg c32] at H
                      have c32b0 : (t755 == 0) = false := beq_eq_false_iff_ne.mpr c32
                      have c32b1 : (t755 != 0) = true := bne_iff_ne.mpr c32
                      obtain rfl := Option.some.inj H
                      have hnb48 := NB740_741.out
                      have hnc48 := NB741_740.out
                      have hcz49_0 : wc.cell? ⟨gb740, 0, none⟩ = some (.int .i64 a1_0) := (blk_cell BK740.out 0).trans rfl
                      have hcz49_1 : wc.cell? ⟨gb740, 1, none⟩ = some (.int .i64 a1_1) := (blk_cell BK740.out 1).trans rfl
                      have hcz49_2 : wc.cell? ⟨gb740, 2, none⟩ = some (.int .i64 a1_2) := (blk_cell BK740.out 2).trans rfl
                      have hfz49_0 := blk_frozen BK740.out 0
                      have hfz49_1 := blk_frozen BK740.out 1
                      have hfz49_2 := blk_frozen BK740.out 2
                      have hcz50_0 : wc.cell? ⟨gb741, 0, none⟩ = some (.int .i64 x742000_12) := (blk_cell BK741.out 0).trans rfl
                      have hcz50_1 : wc.cell? ⟨gb741, 1, none⟩ = some (.int .i64 x742001_21) := (blk_cell BK741.out 1).trans rfl
                      have hcz50_2 : wc.cell? ⟨gb741, 2, none⟩ = some (.int .i64 a2_2) := (blk_cell BK741.out 2).trans rfl
                      have hfz50_0 := blk_frozen BK741.out 0
                      have hfz50_1 := blk_frozen BK741.out 1
                      have hfz50_2 := blk_frozen BK741.out 2
                      go_wp2_with (first | ((with_reducible refine gate_callee (f := 35) rfl ?_); refine goesL_ (some 52) rfl rfl Try.func35 (by kernel_rfl) rfl #[.slice A0 l0.length c0, .agg #[.int .i64 a1_0, .int .i64 a1_1, .int .i64 a1_2]] rfl (by (try simp only [List.map_toArray, List.map_cons, List.map_nil]); first | done | rfl | (simp only [List.length_drop, List.length_take]; rfl)) ?_; (with_reducible refine (evals_Of.calls _ _ l0 a1_0 a1_1 a1_2 t752 t753 _ ?side1 ?side2 A28.out).mono ?_); (case side1 => exact Kd.C_below HR0.out (by repeat (first | (with_reducible first | exact HB.out | apply below_alloc | apply pw_below_drewN | apply below_drew1 | refine below_set ?_ GE740.out | refine below_set ?_ GE741.out) | exact HB.out))); (case side2 => exact HC0.out); rintro e w51 ⟨rfl, hb⟩; refine ⟨_, rfl, ?_⟩; have n0_ := Aside0.mk (blk_below (g := gb740) (o := .cells #[.int .i64 a1_0, .int .i64 a1_1, .int .i64 a1_2] 56 (0, 0)) (by (with_reducible repeat (first | refine blk_drewN ?_ _ | refine blk_drew ?_ | refine blk_alloc ?_ _)); refine blk_far ?_ NB740_741.out _; (with_reducible repeat (first | refine blk_drewN ?_ _ | refine blk_drew ?_ | refine blk_alloc ?_ _)); exact BK740.out) hb); have n1_ := Aside0.mk (blk_below (g := gb741) (o := .cells #[.int .i64 x742000_12, .int .i64 x742001_21, .int .i64 a1_2] 56 (0, 0)) (by (with_reducible repeat (first | refine blk_drewN ?_ _ | refine blk_drew ?_ | refine blk_alloc ?_ _)); refine blk_put (cs := #[.int .i64 x742000_12, .int .i64 x742001_21, .int .i64 a2_2]) ?_ 2 _ rfl; (with_reducible repeat (first | refine blk_drewN ?_ _ | refine blk_drew ?_ | refine blk_alloc ?_ _)); exact BK741.out) hb); have n2_ := Aside0.mk (below_step (by repeat (first | (with_reducible first | exact HB.out | apply below_alloc | apply pw_below_drewN | apply below_drew1 | refine below_set ?_ GE740.out | refine below_set ?_ GE741.out) | exact HB.out)) hb); clear BK740; clear BK741; clear HB; have BK740 := n0_; have BK741 := n1_; have HB := n2_; clear n0_ n1_ n2_; (try clear hb); (try clear hb2); (try clear hk); (try clear hi); have hcz52_0 : w51.cell? ⟨gb741, 0, none⟩ = some (.int .i64 x742000_12) := (blk_cell BK741.out 0).trans rfl; have hcz52_1 : w51.cell? ⟨gb741, 1, none⟩ = some (.int .i64 x742001_21) := (blk_cell BK741.out 1).trans rfl; have hcz52_2 : w51.cell? ⟨gb741, 2, none⟩ = some (.int .i64 a1_2) := (blk_cell BK741.out 2).trans rfl; have hfz52_0 := blk_frozen BK741.out 0; have hfz52_1 := blk_frozen BK741.out 1; have hfz52_2 := blk_frozen BK741.out 2) | ((with_reducible refine gate_callee (f := 35) rfl ?_); refine goesL_ (some 58) rfl rfl Try.func35 (by kernel_rfl) rfl #[.slice A0 l0.length c0, .agg #[.int .i64 x742000_12, .int .i64 x742001_21, .int .i64 a1_2]] rfl (by (try simp only [List.map_toArray, List.map_cons, List.map_nil]); first | done | rfl | (simp only [List.length_drop, List.length_take]; rfl)) ?_; (with_reducible refine (evals_Of.calls _ _ l0 x742000_12 x742001_21 a1_2 t754 t755 _ ?side1 ?side2 A29.out).mono ?_); (case side1 => repeat (first | exact (Kd.C_below HR0.out HB.out) | (with_reducible refine Kd.C_alloc ?_ _) | (with_reducible refine Kd.C_drewN ?_ _) | (with_reducible refine Kd.C_drew ?_))); (case side2 => exact HC0.out); rintro e w53 ⟨rfl, hb⟩; refine ⟨_, rfl, ?_⟩; have n0_ := Aside0.mk (blk_below (g := gb740) (o := .cells #[.int .i64 a1_0, .int .i64 a1_1, .int .i64 a1_2] 56 (0, 0)) (by (with_reducible repeat (first | refine blk_drewN ?_ _ | refine blk_drew ?_ | refine blk_alloc ?_ _)); exact BK740.out) hb); have n1_ := Aside0.mk (blk_below (g := gb741) (o := .cells #[.int .i64 x742000_12, .int .i64 x742001_21, .int .i64 a1_2] 56 (0, 0)) (by (with_reducible repeat (first | refine blk_drewN ?_ _ | refine blk_drew ?_ | refine blk_alloc ?_ _)); exact BK741.out) hb); have n2_ := Aside0.mk (below_step (by repeat (first | (with_reducible first | exact HB.out | apply below_alloc | apply pw_below_drewN | apply below_drew1 | refine below_set ?_ GE740.out | refine below_set ?_ GE741.out) | exact HB.out)) hb); clear BK740; clear BK741; clear HB; have BK740 := n0_; have BK741 := n1_; have HB := n2_; clear n0_ n1_ n2_; (try clear hb); (try clear hb2); (try clear hk); (try clear hi)))
                      go_ret
                      exact ⟨by first | rfl | (simp [errW_none, errW_some] <;> rfl) | (simp [*, errW_none, errW_some] <;> rfl), by repeat (first | (with_reducible first | exact HB.out | apply below_alloc | apply pw_below_drewN | apply below_drew1 | refine below_set ?_ GE740.out | refine below_set ?_ GE741.out) | exact HB.out)⟩
                  · rw [if_neg c31] at H
                    have c31b0 : (t753 == 0) = false := beq_eq_false_iff_ne.mpr c31
                    have c31b1 : (t753 != 0) = true := bne_iff_ne.mpr c31
                    obtain rfl := Option.some.inj H
                    have hnb54 := NB740_741.out
                    have hnc54 := NB741_740.out
                    have hcz55_0 : wc.cell? ⟨gb740, 0, none⟩ = some (.int .i64 a1_0) := (blk_cell BK740.out 0).trans rfl
                    have hcz55_1 : wc.cell? ⟨gb740, 1, none⟩ = some (.int .i64 a1_1) := (blk_cell BK740.out 1).trans rfl
                    have hcz55_2 : wc.cell? ⟨gb740, 2, none⟩ = some (.int .i64 a1_2) := (blk_cell BK740.out 2).trans rfl
                    have hfz55_0 := blk_frozen BK740.out 0
                    have hfz55_1 := blk_frozen BK740.out 1
                    have hfz55_2 := blk_frozen BK740.out 2
                    have hcz56_0 : wc.cell? ⟨gb741, 0, none⟩ = some (.int .i64 x742000_12) := (blk_cell BK741.out 0).trans rfl
                    have hcz56_1 : wc.cell? ⟨gb741, 1, none⟩ = some (.int .i64 x742001_21) := (blk_cell BK741.out 1).trans rfl
                    have hcz56_2 : wc.cell? ⟨gb741, 2, none⟩ = some (.int .i64 a2_2) := (blk_cell BK741.out 2).trans rfl
                    have hfz56_0 := blk_frozen BK741.out 0
                    have hfz56_1 := blk_frozen BK741.out 1
                    have hfz56_2 := blk_frozen BK741.out 2
                    go_wp2_with (first | ((with_reducible refine gate_callee (f := 35) rfl ?_); refine goesL_ (some 52) rfl rfl Try.func35 (by kernel_rfl) rfl #[.slice A0 l0.length c0, .agg #[.int .i64 a1_0, .int .i64 a1_1, .int .i64 a1_2]] rfl (by (try simp only [List.map_toArray, List.map_cons, List.map_nil]); first | done | rfl | (simp only [List.length_drop, List.length_take]; rfl)) ?_; (with_reducible refine (evals_Of.calls _ _ l0 a1_0 a1_1 a1_2 t752 t753 _ ?side1 ?side2 A28.out).mono ?_); (case side1 => exact Kd.C_below HR0.out (by repeat (first | (with_reducible first | exact HB.out | apply below_alloc | apply pw_below_drewN | apply below_drew1 | refine below_set ?_ GE740.out | refine below_set ?_ GE741.out) | exact HB.out))); (case side2 => exact HC0.out); rintro e w57 ⟨rfl, hb⟩; refine ⟨_, rfl, ?_⟩; have n0_ := Aside0.mk (blk_below (g := gb740) (o := .cells #[.int .i64 a1_0, .int .i64 a1_1, .int .i64 a1_2] 56 (0, 0)) (by (with_reducible repeat (first | refine blk_drewN ?_ _ | refine blk_drew ?_ | refine blk_alloc ?_ _)); refine blk_far ?_ NB740_741.out _; (with_reducible repeat (first | refine blk_drewN ?_ _ | refine blk_drew ?_ | refine blk_alloc ?_ _)); exact BK740.out) hb); have n1_ := Aside0.mk (blk_below (g := gb741) (o := .cells #[.int .i64 x742000_12, .int .i64 x742001_21, .int .i64 a1_2] 56 (0, 0)) (by (with_reducible repeat (first | refine blk_drewN ?_ _ | refine blk_drew ?_ | refine blk_alloc ?_ _)); refine blk_put (cs := #[.int .i64 x742000_12, .int .i64 x742001_21, .int .i64 a2_2]) ?_ 2 _ rfl; (with_reducible repeat (first | refine blk_drewN ?_ _ | refine blk_drew ?_ | refine blk_alloc ?_ _)); exact BK741.out) hb); have n2_ := Aside0.mk (below_step (by repeat (first | (with_reducible first | exact HB.out | apply below_alloc | apply pw_below_drewN | apply below_drew1 | refine below_set ?_ GE740.out | refine below_set ?_ GE741.out) | exact HB.out)) hb); clear BK740; clear BK741; clear HB; have BK740 := n0_; have BK741 := n1_; have HB := n2_; clear n0_ n1_ n2_; (try clear hb); (try clear hb2); (try clear hk); (try clear hi); have hcz58_0 : w57.cell? ⟨gb741, 0, none⟩ = some (.int .i64 x742000_12) := (blk_cell BK741.out 0).trans rfl; have hcz58_1 : w57.cell? ⟨gb741, 1, none⟩ = some (.int .i64 x742001_21) := (blk_cell BK741.out 1).trans rfl; have hcz58_2 : w57.cell? ⟨gb741, 2, none⟩ = some (.int .i64 a1_2) := (blk_cell BK741.out 2).trans rfl; have hfz58_0 := blk_frozen BK741.out 0; have hfz58_1 := blk_frozen BK741.out 1; have hfz58_2 := blk_frozen BK741.out 2) | ((with_reducible refine gate_callee (f := 35) rfl ?_); refine goesL_ (some 58) rfl rfl Try.func35 (by kernel_rfl) rfl #[.slice A0 l0.length c0, .agg #[.int .i64 x742000_12, .int .i64 x742001_21, .int .i64 a1_2]] rfl (by (try simp only [List.map_toArray, List.map_cons, List.map_nil]); first | done | rfl | (simp only [List.length_drop, List.length_take]; rfl)) ?_; (with_reducible refine (evals_Of.calls _ _ l0 x742000_12 x742001_21 a1_2 t754 t755 _ ?side1 ?side2 A29.out).mono ?_); (case side1 => repeat (first | exact (Kd.C_below HR0.out HB.out) | (with_reducible refine Kd.C_alloc ?_ _) | (with_reducible refine Kd.C_drewN ?_ _) | (with_reducible refine Kd.C_drew ?_))); (case side2 => exact HC0.out); rintro e w59 ⟨rfl, hb⟩; refine ⟨_, rfl, ?_⟩; have n0_ := Aside0.mk (blk_below (g := gb740) (o := .cells #[.int .i64 a1_0, .int .i64 a1_1, .int .i64 a1_2] 56 (0, 0)) (by (with_reducible repeat (first | refine blk_drewN ?_ _ | refine blk_drew ?_ | refine blk_alloc ?_ _)); exact BK740.out) hb); have n1_ := Aside0.mk (blk_below (g := gb741) (o := .cells #[.int .i64 x742000_12, .int .i64 x742001_21, .int .i64 a1_2] 56 (0, 0)) (by (with_reducible repeat (first | refine blk_drewN ?_ _ | refine blk_drew ?_ | refine blk_alloc ?_ _)); exact BK741.out) hb); have n2_ := Aside0.mk (below_step (by repeat (first | (with_reducible first | exact HB.out | apply below_alloc | apply pw_below_drewN | apply below_drew1 | refine below_set ?_ GE740.out | refine below_set ?_ GE741.out) | exact HB.out)) hb); clear BK740; clear BK741; clear HB; have BK740 := n0_; have BK741 := n1_; have HB := n2_; clear n0_ n1_ n2_; (try clear hb); (try clear hb2); (try clear hk); (try clear hi)))
                    go_ret
                    exact ⟨by first | rfl | (simp [errW_none, errW_some] <;> rfl) | (simp [*, errW_none, errW_some] <;> rfl), by repeat (first | (with_reducible first | exact HB.out | apply below_alloc | apply pw_below_drewN | apply below_drew1 | refine below_set ?_ GE740.out | refine below_set ?_ GE741.out) | exact HB.out)⟩
                · rw [if_neg c30] at H
                  have c30b0 : (t751 == 0) = false := beq_eq_false_iff_ne.mpr c30
                  have c30b1 : (t751 != 0) = true := bne_iff_ne.mpr c30
                  obtain rfl := Option.some.inj H
                  have hnb60 := NB740_741.out
                  have hnc60 := NB741_740.out
                  have hcz61_0 : wc.cell? ⟨gb740, 0, none⟩ = some (.int .i64 a1_0) := (blk_cell BK740.out 0).trans rfl
                  have hcz61_1 : wc.cell? ⟨gb740, 1, none⟩ = some (.int .i64 a1_1) := (blk_cell BK740.out 1).trans rfl
                  have hcz61_2 : wc.cell? ⟨gb740, 2, none⟩ = some (.int .i64 a1_2) := (blk_cell BK740.out 2).trans rfl
                  have hfz61_0 := blk_frozen BK740.out 0
                  have hfz61_1 := blk_frozen BK740.out 1
                  have hfz61_2 := blk_frozen BK740.out 2
                  have hcz62_0 : wc.cell? ⟨gb741, 0, none⟩ = some (.int .i64 x742000_12) := (blk_cell BK741.out 0).trans rfl
                  have hcz62_1 : wc.cell? ⟨gb741, 1, none⟩ = some (.int .i64 x742001_21) := (blk_cell BK741.out 1).trans rfl
                  have hcz62_2 : wc.cell? ⟨gb741, 2, none⟩ = some (.int .i64 a2_2) := (blk_cell BK741.out 2).trans rfl
                  have hfz62_0 := blk_frozen BK741.out 0
                  have hfz62_1 := blk_frozen BK741.out 1
                  have hfz62_2 := blk_frozen BK741.out 2
                  go_wp2_with (first | ((with_reducible refine gate_callee (f := 35) rfl ?_); refine goesL_ (some 52) rfl rfl Try.func35 (by kernel_rfl) rfl #[.slice A0 l0.length c0, .agg #[.int .i64 a1_0, .int .i64 a1_1, .int .i64 a1_2]] rfl (by (try simp only [List.map_toArray, List.map_cons, List.map_nil]); first | done | rfl | (simp only [List.length_drop, List.length_take]; rfl)) ?_; (with_reducible refine (evals_Of.calls _ _ l0 a1_0 a1_1 a1_2 t752 t753 _ ?side1 ?side2 A28.out).mono ?_); (case side1 => exact Kd.C_below HR0.out (by repeat (first | (with_reducible first | exact HB.out | apply below_alloc | apply pw_below_drewN | apply below_drew1 | refine below_set ?_ GE740.out | refine below_set ?_ GE741.out) | exact HB.out))); (case side2 => exact HC0.out); rintro e w63 ⟨rfl, hb⟩; refine ⟨_, rfl, ?_⟩; have n0_ := Aside0.mk (blk_below (g := gb740) (o := .cells #[.int .i64 a1_0, .int .i64 a1_1, .int .i64 a1_2] 56 (0, 0)) (by (with_reducible repeat (first | refine blk_drewN ?_ _ | refine blk_drew ?_ | refine blk_alloc ?_ _)); refine blk_far ?_ NB740_741.out _; (with_reducible repeat (first | refine blk_drewN ?_ _ | refine blk_drew ?_ | refine blk_alloc ?_ _)); exact BK740.out) hb); have n1_ := Aside0.mk (blk_below (g := gb741) (o := .cells #[.int .i64 x742000_12, .int .i64 x742001_21, .int .i64 a1_2] 56 (0, 0)) (by (with_reducible repeat (first | refine blk_drewN ?_ _ | refine blk_drew ?_ | refine blk_alloc ?_ _)); refine blk_put (cs := #[.int .i64 x742000_12, .int .i64 x742001_21, .int .i64 a2_2]) ?_ 2 _ rfl; (with_reducible repeat (first | refine blk_drewN ?_ _ | refine blk_drew ?_ | refine blk_alloc ?_ _)); exact BK741.out) hb); have n2_ := Aside0.mk (below_step (by repeat (first | (with_reducible first | exact HB.out | apply below_alloc | apply pw_below_drewN | apply below_drew1 | refine below_set ?_ GE740.out | refine below_set ?_ GE741.out) | exact HB.out)) hb); clear BK740; clear BK741; clear HB; have BK740 := n0_; have BK741 := n1_; have HB := n2_; clear n0_ n1_ n2_; (try clear hb); (try clear hb2); (try clear hk); (try clear hi); have hcz64_0 : w63.cell? ⟨gb741, 0, none⟩ = some (.int .i64 x742000_12) := (blk_cell BK741.out 0).trans rfl; have hcz64_1 : w63.cell? ⟨gb741, 1, none⟩ = some (.int .i64 x742001_21) := (blk_cell BK741.out 1).trans rfl; have hcz64_2 : w63.cell? ⟨gb741, 2, none⟩ = some (.int .i64 a1_2) := (blk_cell BK741.out 2).trans rfl; have hfz64_0 := blk_frozen BK741.out 0; have hfz64_1 := blk_frozen BK741.out 1; have hfz64_2 := blk_frozen BK741.out 2) | ((with_reducible refine gate_callee (f := 35) rfl ?_); refine goesL_ (some 58) rfl rfl Try.func35 (by kernel_rfl) rfl #[.slice A0 l0.length c0, .agg #[.int .i64 x742000_12, .int .i64 x742001_21, .int .i64 a1_2]] rfl (by (try simp only [List.map_toArray, List.map_cons, List.map_nil]); first | done | rfl | (simp only [List.length_drop, List.length_take]; rfl)) ?_; (with_reducible refine (evals_Of.calls _ _ l0 x742000_12 x742001_21 a1_2 t754 t755 _ ?side1 ?side2 A29.out).mono ?_); (case side1 => repeat (first | exact (Kd.C_below HR0.out HB.out) | (with_reducible refine Kd.C_alloc ?_ _) | (with_reducible refine Kd.C_drewN ?_ _) | (with_reducible refine Kd.C_drew ?_))); (case side2 => exact HC0.out); rintro e w65 ⟨rfl, hb⟩; refine ⟨_, rfl, ?_⟩; have n0_ := Aside0.mk (blk_below (g := gb740) (o := .cells #[.int .i64 a1_0, .int .i64 a1_1, .int .i64 a1_2] 56 (0, 0)) (by (with_reducible repeat (first | refine blk_drewN ?_ _ | refine blk_drew ?_ | refine blk_alloc ?_ _)); exact BK740.out) hb); have n1_ := Aside0.mk (blk_below (g := gb741) (o := .cells #[.int .i64 x742000_12, .int .i64 x742001_21, .int .i64 a1_2] 56 (0, 0)) (by (with_reducible repeat (first | refine blk_drewN ?_ _ | refine blk_drew ?_ | refine blk_alloc ?_ _)); exact BK741.out) hb); have n2_ := Aside0.mk (below_step (by repeat (first | (with_reducible first | exact HB.out | apply below_alloc | apply pw_below_drewN | apply below_drew1 | refine below_set ?_ GE740.out | refine below_set ?_ GE741.out) | exact HB.out)) hb); clear BK740; clear BK741; clear HB; have BK740 := n0_; have BK741 := n1_; have HB := n2_; clear n0_ n1_ n2_; (try clear hb); (try clear hb2); (try clear hk); (try clear hi)))
                  go_ret
                  exact ⟨by first | rfl | (simp [errW_none, errW_some] <;> rfl) | (simp [*, errW_none, errW_some] <;> rfl), by repeat (first | (with_reducible first | exact HB.out | apply below_alloc | apply pw_below_drewN | apply below_drew1 | refine below_set ?_ GE740.out | refine below_set ?_ GE741.out) | exact HB.out)⟩
              · replace c27 := Bool.eq_false_iff.mpr c27
                subst c27
                have H1 : ((evals_Of.f l0 a1_0 a1_1 a1_2).bind fun bt757 => ((evals_Of.f l0 x742000_12 x742001_21 a2_2).bind fun bt759 => (if t751 = 0 then (if bt757.2 = 0 then (if bt759.2 = 0 then (if bt757.1 = bt759.1 then ((tailwaterlaw07_alive.f).bind fun t761 => (some t761)) else (some false)) else (some false)) else (some false)) else (some false)))) = some r := by rw [if_neg (show ¬ (false = true) by decide)] at H; exact H
                clear H
                have H := H1
                clear H1
                replace H := Option.bind_eq_some_iff.mp H
                obtain ⟨⟨t757, t758⟩, A660, H⟩ := H
                replace H : ((evals_Of.f l0 x742000_12 x742001_21 a2_2).bind fun bt759 => (if t751 = 0 then (if t758 = 0 then (if bt759.2 = 0 then (if t757 = bt759.1 then ((tailwaterlaw07_alive.f).bind fun t761 => (some t761)) else (some false)) else (some false)) else (some false)) else (some false))) = some r := H
                have A66 := Aside0.mk A660
                clear A660
                replace H := Option.bind_eq_some_iff.mp H
                obtain ⟨⟨t759, t760⟩, A670, H⟩ := H
                replace H : (if t751 = 0 then (if t758 = 0 then (if t760 = 0 then (if t757 = t759 then ((tailwaterlaw07_alive.f).bind fun t761 => (some t761)) else (some false)) else (some false)) else (some false)) else (some false)) = some r := H
                have A67 := Aside0.mk A670
                clear A670
                by_cases c68 : t751 = 0
                · rw [if_pos c68] at H
                  have c68b0 : (t751 == 0) = true := beq_iff_eq.mpr c68
                  have c68b1 : (t751 != 0) = false := bne_eq_false_iff_eq.mpr c68
                  clear c68
                  by_cases c69 : t758 = 0
                  · rw [if_pos c69] at H
                    have c69b0 : (t758 == 0) = true := beq_iff_eq.mpr c69
                    have c69b1 : (t758 != 0) = false := bne_eq_false_iff_eq.mpr c69
                    clear c69
                    by_cases c70 : t760 = 0
                    · rw [if_pos c70] at H
                      have c70b0 : (t760 == 0) = true := beq_iff_eq.mpr c70
                      have c70b1 : (t760 != 0) = false := bne_eq_false_iff_eq.mpr c70
                      clear c70
                      by_cases c71 : t757 = t759
                      · rw [if_pos c71] at H
                        have c71b0 : (t757 == t759) = true := beq_iff_eq.mpr c71
                        have c71b1 : (t757 != t759) = false := bne_eq_false_iff_eq.mpr c71
                        clear c71
                        replace H := Option.bind_eq_some_iff.mp H
                        obtain ⟨t761, A720, H⟩ := H
                        replace H : (some t761) = some r := H
                        have A72 := Aside0.mk A720
                        clear A720
                        obtain rfl := Option.some.inj H
                        have hnb73 := NB740_741.out
                        have hnc73 := NB741_740.out
                        have hcz74_0 : wc.cell? ⟨gb740, 0, none⟩ = some (.int .i64 a1_0) := (blk_cell BK740.out 0).trans rfl
                        have hcz74_1 : wc.cell? ⟨gb740, 1, none⟩ = some (.int .i64 a1_1) := (blk_cell BK740.out 1).trans rfl
                        have hcz74_2 : wc.cell? ⟨gb740, 2, none⟩ = some (.int .i64 a1_2) := (blk_cell BK740.out 2).trans rfl
                        have hfz74_0 := blk_frozen BK740.out 0
                        have hfz74_1 := blk_frozen BK740.out 1
                        have hfz74_2 := blk_frozen BK740.out 2
                        go_wp2_with (first | ((with_reducible refine gate_callee (f := 35) rfl ?_); refine goesL_ (some 52) rfl rfl Try.func35 (by kernel_rfl) rfl #[.slice A0 l0.length c0, .agg #[.int .i64 a1_0, .int .i64 a1_1, .int .i64 a1_2]] rfl (by (try simp only [List.map_toArray, List.map_cons, List.map_nil]); first | done | rfl | (simp only [List.length_drop, List.length_take]; rfl)) ?_; (with_reducible refine (evals_Of.calls _ _ l0 a1_0 a1_1 a1_2 t757 t758 _ ?side1 ?side2 A66.out).mono ?_); (case side1 => repeat (first | exact (Kd.C_below HR0.out HB.out) | (with_reducible refine Kd.C_alloc ?_ _) | (with_reducible refine Kd.C_drewN ?_ _) | (with_reducible refine Kd.C_drew ?_))); (case side2 => exact HC0.out); rintro e w75 ⟨rfl, hb⟩; refine ⟨_, rfl, ?_⟩; have n0_ := Aside0.mk (blk_below (g := gb740) (o := .cells #[.int .i64 a1_0, .int .i64 a1_1, .int .i64 a1_2] 56 (0, 0)) (by (with_reducible repeat (first | refine blk_drewN ?_ _ | refine blk_drew ?_ | refine blk_alloc ?_ _)); exact BK740.out) hb); have n1_ := Aside0.mk (blk_below (g := gb741) (o := .cells #[.int .i64 x742000_12, .int .i64 x742001_21, .int .i64 a2_2] 56 (0, 0)) (by (with_reducible repeat (first | refine blk_drewN ?_ _ | refine blk_drew ?_ | refine blk_alloc ?_ _)); exact BK741.out) hb); have n2_ := Aside0.mk (below_step (by repeat (first | (with_reducible first | exact HB.out | apply below_alloc | apply pw_below_drewN | apply below_drew1 | refine below_set ?_ GE740.out | refine below_set ?_ GE741.out) | exact HB.out)) hb); clear BK740; clear BK741; clear HB; have BK740 := n0_; have BK741 := n1_; have HB := n2_; clear n0_ n1_ n2_; (try clear hb); (try clear hb2); (try clear hk); (try clear hi); have hcz76_0 : w75.cell? ⟨gb741, 0, none⟩ = some (.int .i64 x742000_12) := (blk_cell BK741.out 0).trans rfl; have hcz76_1 : w75.cell? ⟨gb741, 1, none⟩ = some (.int .i64 x742001_21) := (blk_cell BK741.out 1).trans rfl; have hcz76_2 : w75.cell? ⟨gb741, 2, none⟩ = some (.int .i64 a2_2) := (blk_cell BK741.out 2).trans rfl; have hfz76_0 := blk_frozen BK741.out 0; have hfz76_1 := blk_frozen BK741.out 1; have hfz76_2 := blk_frozen BK741.out 2) | ((with_reducible refine gate_callee (f := 35) rfl ?_); refine goesL_ (some 58) rfl rfl Try.func35 (by kernel_rfl) rfl #[.slice A0 l0.length c0, .agg #[.int .i64 x742000_12, .int .i64 x742001_21, .int .i64 a2_2]] rfl (by (try simp only [List.map_toArray, List.map_cons, List.map_nil]); first | done | rfl | (simp only [List.length_drop, List.length_take]; rfl)) ?_; (with_reducible refine (evals_Of.calls _ _ l0 x742000_12 x742001_21 a2_2 t759 t760 _ ?side1 ?side2 A67.out).mono ?_); (case side1 => repeat (first | exact (Kd.C_below HR0.out HB.out) | (with_reducible refine Kd.C_alloc ?_ _) | (with_reducible refine Kd.C_drewN ?_ _) | (with_reducible refine Kd.C_drew ?_))); (case side2 => exact HC0.out); rintro e w77 ⟨rfl, hb⟩; refine ⟨_, rfl, ?_⟩; have n0_ := Aside0.mk (blk_below (g := gb740) (o := .cells #[.int .i64 a1_0, .int .i64 a1_1, .int .i64 a1_2] 56 (0, 0)) (by (with_reducible repeat (first | refine blk_drewN ?_ _ | refine blk_drew ?_ | refine blk_alloc ?_ _)); exact BK740.out) hb); have n1_ := Aside0.mk (blk_below (g := gb741) (o := .cells #[.int .i64 x742000_12, .int .i64 x742001_21, .int .i64 a2_2] 56 (0, 0)) (by (with_reducible repeat (first | refine blk_drewN ?_ _ | refine blk_drew ?_ | refine blk_alloc ?_ _)); exact BK741.out) hb); have n2_ := Aside0.mk (below_step (by repeat (first | (with_reducible first | exact HB.out | apply below_alloc | apply pw_below_drewN | apply below_drew1 | refine below_set ?_ GE740.out | refine below_set ?_ GE741.out) | exact HB.out)) hb); clear BK740; clear BK741; clear HB; have BK740 := n0_; have BK741 := n1_; have HB := n2_; clear n0_ n1_ n2_; (try clear hb); (try clear hb2); (try clear hk); (try clear hi)) | (go_at_call 33; (with_reducible refine (tailwaterlaw07_alive.calls  t761 _ A72.out).mono ?_); rintro e w78 ⟨rfl, hb⟩; have n0_ := Aside0.mk (blk_below (g := gb740) (o := .cells #[.int .i64 a1_0, .int .i64 a1_1, .int .i64 a1_2] 56 (0, 0)) (by (with_reducible repeat (first | refine blk_drewN ?_ _ | refine blk_drew ?_ | refine blk_alloc ?_ _)); exact BK740.out) hb); have n1_ := Aside0.mk (blk_below (g := gb741) (o := .cells #[.int .i64 x742000_12, .int .i64 x742001_21, .int .i64 a2_2] 56 (0, 0)) (by (with_reducible repeat (first | refine blk_drewN ?_ _ | refine blk_drew ?_ | refine blk_alloc ?_ _)); exact BK741.out) hb); have n2_ := Aside0.mk (below_step (by repeat (first | (with_reducible first | exact HB.out | apply below_alloc | apply pw_below_drewN | apply below_drew1 | refine below_set ?_ GE740.out | refine below_set ?_ GE741.out) | exact HB.out)) hb); clear BK740; clear BK741; clear HB; have BK740 := n0_; have BK741 := n1_; have HB := n2_; clear n0_ n1_ n2_; (try clear hb); (try clear hb2); (try clear hk); (try clear hi)))
                        go_ret
                        exact ⟨by first | rfl | (simp [errW_none, errW_some] <;> rfl) | (simp [*, errW_none, errW_some] <;> rfl), by repeat (first | (with_reducible first | exact HB.out | apply below_alloc | apply pw_below_drewN | apply below_drew1 | refine below_set ?_ GE740.out | refine below_set ?_ GE741.out) | exact HB.out)⟩
                      · rw [if_neg c71] at H
                        have c71b0 : (t757 == t759) = false := beq_eq_false_iff_ne.mpr c71
                        have c71b1 : (t757 != t759) = true := bne_iff_ne.mpr c71
                        obtain rfl := Option.some.inj H
                        have hnb79 := NB740_741.out
                        have hnc79 := NB741_740.out
                        have hcz80_0 : wc.cell? ⟨gb740, 0, none⟩ = some (.int .i64 a1_0) := (blk_cell BK740.out 0).trans rfl
                        have hcz80_1 : wc.cell? ⟨gb740, 1, none⟩ = some (.int .i64 a1_1) := (blk_cell BK740.out 1).trans rfl
                        have hcz80_2 : wc.cell? ⟨gb740, 2, none⟩ = some (.int .i64 a1_2) := (blk_cell BK740.out 2).trans rfl
                        have hfz80_0 := blk_frozen BK740.out 0
                        have hfz80_1 := blk_frozen BK740.out 1
                        have hfz80_2 := blk_frozen BK740.out 2
                        go_wp2_with (first | ((with_reducible refine gate_callee (f := 35) rfl ?_); refine goesL_ (some 52) rfl rfl Try.func35 (by kernel_rfl) rfl #[.slice A0 l0.length c0, .agg #[.int .i64 a1_0, .int .i64 a1_1, .int .i64 a1_2]] rfl (by (try simp only [List.map_toArray, List.map_cons, List.map_nil]); first | done | rfl | (simp only [List.length_drop, List.length_take]; rfl)) ?_; (with_reducible refine (evals_Of.calls _ _ l0 a1_0 a1_1 a1_2 t757 t758 _ ?side1 ?side2 A66.out).mono ?_); (case side1 => repeat (first | exact (Kd.C_below HR0.out HB.out) | (with_reducible refine Kd.C_alloc ?_ _) | (with_reducible refine Kd.C_drewN ?_ _) | (with_reducible refine Kd.C_drew ?_))); (case side2 => exact HC0.out); rintro e w81 ⟨rfl, hb⟩; refine ⟨_, rfl, ?_⟩; have n0_ := Aside0.mk (blk_below (g := gb740) (o := .cells #[.int .i64 a1_0, .int .i64 a1_1, .int .i64 a1_2] 56 (0, 0)) (by (with_reducible repeat (first | refine blk_drewN ?_ _ | refine blk_drew ?_ | refine blk_alloc ?_ _)); exact BK740.out) hb); have n1_ := Aside0.mk (blk_below (g := gb741) (o := .cells #[.int .i64 x742000_12, .int .i64 x742001_21, .int .i64 a2_2] 56 (0, 0)) (by (with_reducible repeat (first | refine blk_drewN ?_ _ | refine blk_drew ?_ | refine blk_alloc ?_ _)); exact BK741.out) hb); have n2_ := Aside0.mk (below_step (by repeat (first | (with_reducible first | exact HB.out | apply below_alloc | apply pw_below_drewN | apply below_drew1 | refine below_set ?_ GE740.out | refine below_set ?_ GE741.out) | exact HB.out)) hb); clear BK740; clear BK741; clear HB; have BK740 := n0_; have BK741 := n1_; have HB := n2_; clear n0_ n1_ n2_; (try clear hb); (try clear hb2); (try clear hk); (try clear hi); have hcz82_0 : w81.cell? ⟨gb741, 0, none⟩ = some (.int .i64 x742000_12) := (blk_cell BK741.out 0).trans rfl; have hcz82_1 : w81.cell? ⟨gb741, 1, none⟩ = some (.int .i64 x742001_21) := (blk_cell BK741.out 1).trans rfl; have hcz82_2 : w81.cell? ⟨gb741, 2, none⟩ = some (.int .i64 a2_2) := (blk_cell BK741.out 2).trans rfl; have hfz82_0 := blk_frozen BK741.out 0; have hfz82_1 := blk_frozen BK741.out 1; have hfz82_2 := blk_frozen BK741.out 2) | ((with_reducible refine gate_callee (f := 35) rfl ?_); refine goesL_ (some 58) rfl rfl Try.func35 (by kernel_rfl) rfl #[.slice A0 l0.length c0, .agg #[.int .i64 x742000_12, .int .i64 x742001_21, .int .i64 a2_2]] rfl (by (try simp only [List.map_toArray, List.map_cons, List.map_nil]); first | done | rfl | (simp only [List.length_drop, List.length_take]; rfl)) ?_; (with_reducible refine (evals_Of.calls _ _ l0 x742000_12 x742001_21 a2_2 t759 t760 _ ?side1 ?side2 A67.out).mono ?_); (case side1 => repeat (first | exact (Kd.C_below HR0.out HB.out) | (with_reducible refine Kd.C_alloc ?_ _) | (with_reducible refine Kd.C_drewN ?_ _) | (with_reducible refine Kd.C_drew ?_))); (case side2 => exact HC0.out); rintro e w83 ⟨rfl, hb⟩; refine ⟨_, rfl, ?_⟩; have n0_ := Aside0.mk (blk_below (g := gb740) (o := .cells #[.int .i64 a1_0, .int .i64 a1_1, .int .i64 a1_2] 56 (0, 0)) (by (with_reducible repeat (first | refine blk_drewN ?_ _ | refine blk_drew ?_ | refine blk_alloc ?_ _)); exact BK740.out) hb); have n1_ := Aside0.mk (blk_below (g := gb741) (o := .cells #[.int .i64 x742000_12, .int .i64 x742001_21, .int .i64 a2_2] 56 (0, 0)) (by (with_reducible repeat (first | refine blk_drewN ?_ _ | refine blk_drew ?_ | refine blk_alloc ?_ _)); exact BK741.out) hb); have n2_ := Aside0.mk (below_step (by repeat (first | (with_reducible first | exact HB.out | apply below_alloc | apply pw_below_drewN | apply below_drew1 | refine below_set ?_ GE740.out | refine below_set ?_ GE741.out) | exact HB.out)) hb); clear BK740; clear BK741; clear HB; have BK740 := n0_; have BK741 := n1_; have HB := n2_; clear n0_ n1_ n2_; (try clear hb); (try clear hb2); (try clear hk); (try clear hi)))
                        go_ret
                        exact ⟨by first | rfl | (simp [errW_none, errW_some] <;> rfl) | (simp [*, errW_none, errW_some] <;> rfl), by repeat (first | (with_reducible first | exact HB.out | apply below_alloc | apply pw_below_drewN | apply below_drew1 | refine below_set ?_ GE740.out | refine below_set ?_ GE741.out) | exact HB.out)⟩
                    · rw [if_neg c70] at H
                      have c70b0 : (t760 == 0) = false := beq_eq_false_iff_ne.mpr c70
                      have c70b1 : (t760 != 0) = true := bne_iff_ne.mpr c70
                      obtain rfl := Option.some.inj H
                      have hnb84 := NB740_741.out
                      have hnc84 := NB741_740.out
                      have hcz85_0 : wc.cell? ⟨gb740, 0, none⟩ = some (.int .i64 a1_0) := (blk_cell BK740.out 0).trans rfl
                      have hcz85_1 : wc.cell? ⟨gb740, 1, none⟩ = some (.int .i64 a1_1) := (blk_cell BK740.out 1).trans rfl
                      have hcz85_2 : wc.cell? ⟨gb740, 2, none⟩ = some (.int .i64 a1_2) := (blk_cell BK740.out 2).trans rfl
                      have hfz85_0 := blk_frozen BK740.out 0
                      have hfz85_1 := blk_frozen BK740.out 1
                      have hfz85_2 := blk_frozen BK740.out 2
                      go_wp2_with (first | ((with_reducible refine gate_callee (f := 35) rfl ?_); refine goesL_ (some 52) rfl rfl Try.func35 (by kernel_rfl) rfl #[.slice A0 l0.length c0, .agg #[.int .i64 a1_0, .int .i64 a1_1, .int .i64 a1_2]] rfl (by (try simp only [List.map_toArray, List.map_cons, List.map_nil]); first | done | rfl | (simp only [List.length_drop, List.length_take]; rfl)) ?_; (with_reducible refine (evals_Of.calls _ _ l0 a1_0 a1_1 a1_2 t757 t758 _ ?side1 ?side2 A66.out).mono ?_); (case side1 => repeat (first | exact (Kd.C_below HR0.out HB.out) | (with_reducible refine Kd.C_alloc ?_ _) | (with_reducible refine Kd.C_drewN ?_ _) | (with_reducible refine Kd.C_drew ?_))); (case side2 => exact HC0.out); rintro e w86 ⟨rfl, hb⟩; refine ⟨_, rfl, ?_⟩; have n0_ := Aside0.mk (blk_below (g := gb740) (o := .cells #[.int .i64 a1_0, .int .i64 a1_1, .int .i64 a1_2] 56 (0, 0)) (by (with_reducible repeat (first | refine blk_drewN ?_ _ | refine blk_drew ?_ | refine blk_alloc ?_ _)); exact BK740.out) hb); have n1_ := Aside0.mk (blk_below (g := gb741) (o := .cells #[.int .i64 x742000_12, .int .i64 x742001_21, .int .i64 a2_2] 56 (0, 0)) (by (with_reducible repeat (first | refine blk_drewN ?_ _ | refine blk_drew ?_ | refine blk_alloc ?_ _)); exact BK741.out) hb); have n2_ := Aside0.mk (below_step (by repeat (first | (with_reducible first | exact HB.out | apply below_alloc | apply pw_below_drewN | apply below_drew1 | refine below_set ?_ GE740.out | refine below_set ?_ GE741.out) | exact HB.out)) hb); clear BK740; clear BK741; clear HB; have BK740 := n0_; have BK741 := n1_; have HB := n2_; clear n0_ n1_ n2_; (try clear hb); (try clear hb2); (try clear hk); (try clear hi); have hcz87_0 : w86.cell? ⟨gb741, 0, none⟩ = some (.int .i64 x742000_12) := (blk_cell BK741.out 0).trans rfl; have hcz87_1 : w86.cell? ⟨gb741, 1, none⟩ = some (.int .i64 x742001_21) := (blk_cell BK741.out 1).trans rfl; have hcz87_2 : w86.cell? ⟨gb741, 2, none⟩ = some (.int .i64 a2_2) := (blk_cell BK741.out 2).trans rfl; have hfz87_0 := blk_frozen BK741.out 0; have hfz87_1 := blk_frozen BK741.out 1; have hfz87_2 := blk_frozen BK741.out 2) | ((with_reducible refine gate_callee (f := 35) rfl ?_); refine goesL_ (some 58) rfl rfl Try.func35 (by kernel_rfl) rfl #[.slice A0 l0.length c0, .agg #[.int .i64 x742000_12, .int .i64 x742001_21, .int .i64 a2_2]] rfl (by (try simp only [List.map_toArray, List.map_cons, List.map_nil]); first | done | rfl | (simp only [List.length_drop, List.length_take]; rfl)) ?_; (with_reducible refine (evals_Of.calls _ _ l0 x742000_12 x742001_21 a2_2 t759 t760 _ ?side1 ?side2 A67.out).mono ?_); (case side1 => repeat (first | exact (Kd.C_below HR0.out HB.out) | (with_reducible refine Kd.C_alloc ?_ _) | (with_reducible refine Kd.C_drewN ?_ _) | (with_reducible refine Kd.C_drew ?_))); (case side2 => exact HC0.out); rintro e w88 ⟨rfl, hb⟩; refine ⟨_, rfl, ?_⟩; have n0_ := Aside0.mk (blk_below (g := gb740) (o := .cells #[.int .i64 a1_0, .int .i64 a1_1, .int .i64 a1_2] 56 (0, 0)) (by (with_reducible repeat (first | refine blk_drewN ?_ _ | refine blk_drew ?_ | refine blk_alloc ?_ _)); exact BK740.out) hb); have n1_ := Aside0.mk (blk_below (g := gb741) (o := .cells #[.int .i64 x742000_12, .int .i64 x742001_21, .int .i64 a2_2] 56 (0, 0)) (by (with_reducible repeat (first | refine blk_drewN ?_ _ | refine blk_drew ?_ | refine blk_alloc ?_ _)); exact BK741.out) hb); have n2_ := Aside0.mk (below_step (by repeat (first | (with_reducible first | exact HB.out | apply below_alloc | apply pw_below_drewN | apply below_drew1 | refine below_set ?_ GE740.out | refine below_set ?_ GE741.out) | exact HB.out)) hb); clear BK740; clear BK741; clear HB; have BK740 := n0_; have BK741 := n1_; have HB := n2_; clear n0_ n1_ n2_; (try clear hb); (try clear hb2); (try clear hk); (try clear hi)))
                      go_ret
                      exact ⟨by first | rfl | (simp [errW_none, errW_some] <;> rfl) | (simp [*, errW_none, errW_some] <;> rfl), by repeat (first | (with_reducible first | exact HB.out | apply below_alloc | apply pw_below_drewN | apply below_drew1 | refine below_set ?_ GE740.out | refine below_set ?_ GE741.out) | exact HB.out)⟩
                  · rw [if_neg c69] at H
                    have c69b0 : (t758 == 0) = false := beq_eq_false_iff_ne.mpr c69
                    have c69b1 : (t758 != 0) = true := bne_iff_ne.mpr c69
                    obtain rfl := Option.some.inj H
                    have hnb89 := NB740_741.out
                    have hnc89 := NB741_740.out
                    have hcz90_0 : wc.cell? ⟨gb740, 0, none⟩ = some (.int .i64 a1_0) := (blk_cell BK740.out 0).trans rfl
                    have hcz90_1 : wc.cell? ⟨gb740, 1, none⟩ = some (.int .i64 a1_1) := (blk_cell BK740.out 1).trans rfl
                    have hcz90_2 : wc.cell? ⟨gb740, 2, none⟩ = some (.int .i64 a1_2) := (blk_cell BK740.out 2).trans rfl
                    have hfz90_0 := blk_frozen BK740.out 0
                    have hfz90_1 := blk_frozen BK740.out 1
                    have hfz90_2 := blk_frozen BK740.out 2
                    go_wp2_with (first | ((with_reducible refine gate_callee (f := 35) rfl ?_); refine goesL_ (some 52) rfl rfl Try.func35 (by kernel_rfl) rfl #[.slice A0 l0.length c0, .agg #[.int .i64 a1_0, .int .i64 a1_1, .int .i64 a1_2]] rfl (by (try simp only [List.map_toArray, List.map_cons, List.map_nil]); first | done | rfl | (simp only [List.length_drop, List.length_take]; rfl)) ?_; (with_reducible refine (evals_Of.calls _ _ l0 a1_0 a1_1 a1_2 t757 t758 _ ?side1 ?side2 A66.out).mono ?_); (case side1 => repeat (first | exact (Kd.C_below HR0.out HB.out) | (with_reducible refine Kd.C_alloc ?_ _) | (with_reducible refine Kd.C_drewN ?_ _) | (with_reducible refine Kd.C_drew ?_))); (case side2 => exact HC0.out); rintro e w91 ⟨rfl, hb⟩; refine ⟨_, rfl, ?_⟩; have n0_ := Aside0.mk (blk_below (g := gb740) (o := .cells #[.int .i64 a1_0, .int .i64 a1_1, .int .i64 a1_2] 56 (0, 0)) (by (with_reducible repeat (first | refine blk_drewN ?_ _ | refine blk_drew ?_ | refine blk_alloc ?_ _)); exact BK740.out) hb); have n1_ := Aside0.mk (blk_below (g := gb741) (o := .cells #[.int .i64 x742000_12, .int .i64 x742001_21, .int .i64 a2_2] 56 (0, 0)) (by (with_reducible repeat (first | refine blk_drewN ?_ _ | refine blk_drew ?_ | refine blk_alloc ?_ _)); exact BK741.out) hb); have n2_ := Aside0.mk (below_step (by repeat (first | (with_reducible first | exact HB.out | apply below_alloc | apply pw_below_drewN | apply below_drew1 | refine below_set ?_ GE740.out | refine below_set ?_ GE741.out) | exact HB.out)) hb); clear BK740; clear BK741; clear HB; have BK740 := n0_; have BK741 := n1_; have HB := n2_; clear n0_ n1_ n2_; (try clear hb); (try clear hb2); (try clear hk); (try clear hi); have hcz92_0 : w91.cell? ⟨gb741, 0, none⟩ = some (.int .i64 x742000_12) := (blk_cell BK741.out 0).trans rfl; have hcz92_1 : w91.cell? ⟨gb741, 1, none⟩ = some (.int .i64 x742001_21) := (blk_cell BK741.out 1).trans rfl; have hcz92_2 : w91.cell? ⟨gb741, 2, none⟩ = some (.int .i64 a2_2) := (blk_cell BK741.out 2).trans rfl; have hfz92_0 := blk_frozen BK741.out 0; have hfz92_1 := blk_frozen BK741.out 1; have hfz92_2 := blk_frozen BK741.out 2) | ((with_reducible refine gate_callee (f := 35) rfl ?_); refine goesL_ (some 58) rfl rfl Try.func35 (by kernel_rfl) rfl #[.slice A0 l0.length c0, .agg #[.int .i64 x742000_12, .int .i64 x742001_21, .int .i64 a2_2]] rfl (by (try simp only [List.map_toArray, List.map_cons, List.map_nil]); first | done | rfl | (simp only [List.length_drop, List.length_take]; rfl)) ?_; (with_reducible refine (evals_Of.calls _ _ l0 x742000_12 x742001_21 a2_2 t759 t760 _ ?side1 ?side2 A67.out).mono ?_); (case side1 => repeat (first | exact (Kd.C_below HR0.out HB.out) | (with_reducible refine Kd.C_alloc ?_ _) | (with_reducible refine Kd.C_drewN ?_ _) | (with_reducible refine Kd.C_drew ?_))); (case side2 => exact HC0.out); rintro e w93 ⟨rfl, hb⟩; refine ⟨_, rfl, ?_⟩; have n0_ := Aside0.mk (blk_below (g := gb740) (o := .cells #[.int .i64 a1_0, .int .i64 a1_1, .int .i64 a1_2] 56 (0, 0)) (by (with_reducible repeat (first | refine blk_drewN ?_ _ | refine blk_drew ?_ | refine blk_alloc ?_ _)); exact BK740.out) hb); have n1_ := Aside0.mk (blk_below (g := gb741) (o := .cells #[.int .i64 x742000_12, .int .i64 x742001_21, .int .i64 a2_2] 56 (0, 0)) (by (with_reducible repeat (first | refine blk_drewN ?_ _ | refine blk_drew ?_ | refine blk_alloc ?_ _)); exact BK741.out) hb); have n2_ := Aside0.mk (below_step (by repeat (first | (with_reducible first | exact HB.out | apply below_alloc | apply pw_below_drewN | apply below_drew1 | refine below_set ?_ GE740.out | refine below_set ?_ GE741.out) | exact HB.out)) hb); clear BK740; clear BK741; clear HB; have BK740 := n0_; have BK741 := n1_; have HB := n2_; clear n0_ n1_ n2_; (try clear hb); (try clear hb2); (try clear hk); (try clear hi)))
                    go_ret
                    exact ⟨by first | rfl | (simp [errW_none, errW_some] <;> rfl) | (simp [*, errW_none, errW_some] <;> rfl), by repeat (first | (with_reducible first | exact HB.out | apply below_alloc | apply pw_below_drewN | apply below_drew1 | refine below_set ?_ GE740.out | refine below_set ?_ GE741.out) | exact HB.out)⟩
                · rw [if_neg c68] at H
                  have c68b0 : (t751 == 0) = false := beq_eq_false_iff_ne.mpr c68
                  have c68b1 : (t751 != 0) = true := bne_iff_ne.mpr c68
                  obtain rfl := Option.some.inj H
                  have hnb94 := NB740_741.out
                  have hnc94 := NB741_740.out
                  have hcz95_0 : wc.cell? ⟨gb740, 0, none⟩ = some (.int .i64 a1_0) := (blk_cell BK740.out 0).trans rfl
                  have hcz95_1 : wc.cell? ⟨gb740, 1, none⟩ = some (.int .i64 a1_1) := (blk_cell BK740.out 1).trans rfl
                  have hcz95_2 : wc.cell? ⟨gb740, 2, none⟩ = some (.int .i64 a1_2) := (blk_cell BK740.out 2).trans rfl
                  have hfz95_0 := blk_frozen BK740.out 0
                  have hfz95_1 := blk_frozen BK740.out 1
                  have hfz95_2 := blk_frozen BK740.out 2
                  go_wp2_with (first | ((with_reducible refine gate_callee (f := 35) rfl ?_); refine goesL_ (some 52) rfl rfl Try.func35 (by kernel_rfl) rfl #[.slice A0 l0.length c0, .agg #[.int .i64 a1_0, .int .i64 a1_1, .int .i64 a1_2]] rfl (by (try simp only [List.map_toArray, List.map_cons, List.map_nil]); first | done | rfl | (simp only [List.length_drop, List.length_take]; rfl)) ?_; (with_reducible refine (evals_Of.calls _ _ l0 a1_0 a1_1 a1_2 t757 t758 _ ?side1 ?side2 A66.out).mono ?_); (case side1 => repeat (first | exact (Kd.C_below HR0.out HB.out) | (with_reducible refine Kd.C_alloc ?_ _) | (with_reducible refine Kd.C_drewN ?_ _) | (with_reducible refine Kd.C_drew ?_))); (case side2 => exact HC0.out); rintro e w96 ⟨rfl, hb⟩; refine ⟨_, rfl, ?_⟩; have n0_ := Aside0.mk (blk_below (g := gb740) (o := .cells #[.int .i64 a1_0, .int .i64 a1_1, .int .i64 a1_2] 56 (0, 0)) (by (with_reducible repeat (first | refine blk_drewN ?_ _ | refine blk_drew ?_ | refine blk_alloc ?_ _)); exact BK740.out) hb); have n1_ := Aside0.mk (blk_below (g := gb741) (o := .cells #[.int .i64 x742000_12, .int .i64 x742001_21, .int .i64 a2_2] 56 (0, 0)) (by (with_reducible repeat (first | refine blk_drewN ?_ _ | refine blk_drew ?_ | refine blk_alloc ?_ _)); exact BK741.out) hb); have n2_ := Aside0.mk (below_step (by repeat (first | (with_reducible first | exact HB.out | apply below_alloc | apply pw_below_drewN | apply below_drew1 | refine below_set ?_ GE740.out | refine below_set ?_ GE741.out) | exact HB.out)) hb); clear BK740; clear BK741; clear HB; have BK740 := n0_; have BK741 := n1_; have HB := n2_; clear n0_ n1_ n2_; (try clear hb); (try clear hb2); (try clear hk); (try clear hi); have hcz97_0 : w96.cell? ⟨gb741, 0, none⟩ = some (.int .i64 x742000_12) := (blk_cell BK741.out 0).trans rfl; have hcz97_1 : w96.cell? ⟨gb741, 1, none⟩ = some (.int .i64 x742001_21) := (blk_cell BK741.out 1).trans rfl; have hcz97_2 : w96.cell? ⟨gb741, 2, none⟩ = some (.int .i64 a2_2) := (blk_cell BK741.out 2).trans rfl; have hfz97_0 := blk_frozen BK741.out 0; have hfz97_1 := blk_frozen BK741.out 1; have hfz97_2 := blk_frozen BK741.out 2) | ((with_reducible refine gate_callee (f := 35) rfl ?_); refine goesL_ (some 58) rfl rfl Try.func35 (by kernel_rfl) rfl #[.slice A0 l0.length c0, .agg #[.int .i64 x742000_12, .int .i64 x742001_21, .int .i64 a2_2]] rfl (by (try simp only [List.map_toArray, List.map_cons, List.map_nil]); first | done | rfl | (simp only [List.length_drop, List.length_take]; rfl)) ?_; (with_reducible refine (evals_Of.calls _ _ l0 x742000_12 x742001_21 a2_2 t759 t760 _ ?side1 ?side2 A67.out).mono ?_); (case side1 => repeat (first | exact (Kd.C_below HR0.out HB.out) | (with_reducible refine Kd.C_alloc ?_ _) | (with_reducible refine Kd.C_drewN ?_ _) | (with_reducible refine Kd.C_drew ?_))); (case side2 => exact HC0.out); rintro e w98 ⟨rfl, hb⟩; refine ⟨_, rfl, ?_⟩; have n0_ := Aside0.mk (blk_below (g := gb740) (o := .cells #[.int .i64 a1_0, .int .i64 a1_1, .int .i64 a1_2] 56 (0, 0)) (by (with_reducible repeat (first | refine blk_drewN ?_ _ | refine blk_drew ?_ | refine blk_alloc ?_ _)); exact BK740.out) hb); have n1_ := Aside0.mk (blk_below (g := gb741) (o := .cells #[.int .i64 x742000_12, .int .i64 x742001_21, .int .i64 a2_2] 56 (0, 0)) (by (with_reducible repeat (first | refine blk_drewN ?_ _ | refine blk_drew ?_ | refine blk_alloc ?_ _)); exact BK741.out) hb); have n2_ := Aside0.mk (below_step (by repeat (first | (with_reducible first | exact HB.out | apply below_alloc | apply pw_below_drewN | apply below_drew1 | refine below_set ?_ GE740.out | refine below_set ?_ GE741.out) | exact HB.out)) hb); clear BK740; clear BK741; clear HB; have BK740 := n0_; have BK741 := n1_; have HB := n2_; clear n0_ n1_ n2_; (try clear hb); (try clear hb2); (try clear hk); (try clear hi)))
                  go_ret
                  exact ⟨by first | rfl | (simp [errW_none, errW_some] <;> rfl) | (simp [*, errW_none, errW_some] <;> rfl), by repeat (first | (with_reducible first | exact HB.out | apply below_alloc | apply pw_below_drewN | apply below_drew1 | refine below_set ?_ GE740.out | refine below_set ?_ GE741.out) | exact HB.out)⟩
    · rw [if_neg c11] at H
      have c11b0 : (t746 == 0) = false := beq_eq_false_iff_ne.mpr c11
      have c11b1 : (t746 != 0) = true := bne_iff_ne.mpr c11
      replace H := Option.bind_eq_some_iff.mp H
      obtain ⟨t747, A990, H⟩ := H
      replace H : (some t747) = some r := H
      have A99 := Aside0.mk A990
      clear A990
      obtain rfl := Option.some.inj H
      go_enter Try.func12, Try.ntmps12
      go_wp2_with (first | ((with_reducible refine gate_dst (N := 4) rfl ?_); refine box_event ?hg (N := 4) ?hd (cs := #[.int .i64 a1_0, .int .i64 a1_1, .int .i64 a1_2]) (t := 56) ?hr ?_; (case hd => rfl); (case hg => rfl); (case hr => first | (go_simp; done) | (go_simp; rfl)); intro gb740 hg w100 hbox hb; have n0_ := Aside0.mk (below_step (by repeat (first | (with_reducible first | exact HB.out | apply below_alloc | apply pw_below_drewN | apply below_drew1) | exact HB.out)) hb); have n1_ := Aside0.mk (hbox); have n2_ := Aside0.mk ((by rw [hg]; exact (below_size (by repeat (first | (with_reducible first | exact HB.out | apply below_alloc | apply pw_below_drewN | apply below_drew1) | exact HB.out))) : w.heap.size ≤ gb740)); have n3_ := Aside0.mk ((by rw [hg]; exact (below_size (by repeat (first | (with_reducible first | exact HB.out | apply below_alloc | apply pw_below_drewN | apply below_drew1) | exact HB.out))) : w.heap.size ≤ gb740)); clear HB; have HB := n0_; have BK740 := n1_; have GW740 := n2_; have GE740 := n3_; clear n0_ n1_ n2_ n3_; clear hb hbox hg) | ((with_reducible refine gate_dst (N := 5) rfl ?_); refine box_event ?hg (N := 5) ?hd (cs := #[.int .i64 a2_0, .int .i64 a2_1, .int .i64 a2_2]) (t := 56) ?hr ?_; (case hd => rfl); (case hg => rfl); (case hr => first | (go_simp; done) | (go_simp; rfl)); intro gb741 hg w101 hbox hb; have n0_ := Aside0.mk (blk_below (g := gb740) (o := .cells #[.int .i64 a1_0, .int .i64 a1_1, .int .i64 a1_2] 56 (0, 0)) (by (with_reducible repeat (first | refine blk_drewN ?_ _ | refine blk_drew ?_ | refine blk_alloc ?_ _)); exact BK740.out) hb); have n1_ := Aside0.mk (below_step (by repeat (first | (with_reducible first | exact HB.out | apply below_alloc | apply pw_below_drewN | apply below_drew1 | refine below_set ?_ GE740.out) | exact HB.out)) hb); have n2_ := Aside0.mk (hbox); have n3_ := Aside0.mk ((by rw [hg]; exact (below_size (by repeat (first | (with_reducible first | exact HB.out | apply below_alloc | apply pw_below_drewN | apply below_drew1 | refine below_set ?_ GE740.out) | exact HB.out))) : w.heap.size ≤ gb741)); have n4_ := Aside0.mk ((by rw [hg]; exact (below_size (by repeat (first | (with_reducible first | exact HB.out | apply below_alloc | apply pw_below_drewN | apply below_drew1 | refine below_set ?_ GE740.out) | exact HB.out))) : w.heap.size ≤ gb741)); have n5_ := Aside0.mk ((by rw [hg]; exact Nat.ne_of_lt (blk_lt (g := gb740) (o := .cells #[.int .i64 a1_0, .int .i64 a1_1, .int .i64 a1_2] 56 (0, 0)) (by (with_reducible repeat (first | refine blk_drewN ?_ _ | refine blk_drew ?_ | refine blk_alloc ?_ _)); exact BK740.out)) : gb740 ≠ gb741)); have n6_ := Aside0.mk ((by rw [hg]; exact Nat.ne_of_gt (blk_lt (g := gb740) (o := .cells #[.int .i64 a1_0, .int .i64 a1_1, .int .i64 a1_2] 56 (0, 0)) (by (with_reducible repeat (first | refine blk_drewN ?_ _ | refine blk_drew ?_ | refine blk_alloc ?_ _)); exact BK740.out)) : gb741 ≠ gb740)); clear BK740; clear HB; have BK740 := n0_; have HB := n1_; have BK741 := n2_; have GW741 := n3_; have GE741 := n4_; have NB740_741 := n5_; have NB741_740 := n6_; clear n0_ n1_ n2_ n3_ n4_ n5_ n6_; clear hb hbox hg) | ((with_reducible refine gate_callee (f := 15) rfl ?_); refine goesL_ (some 19) rfl rfl Try.func15 (by kernel_rfl) rfl #[.slice A0 l0.length c0] rfl (by (try simp only [List.map_toArray, List.map_cons, List.map_nil]); first | done | rfl | (simp only [List.length_drop, List.length_take]; rfl)) ?_; (with_reducible refine (tailwaterref04_Great.calls _ _ l0 false _ ?side1 ?side2 A4.out).mono ?_); (case side1 => repeat (first | exact (Kd.C_below HR0.out HB.out) | (with_reducible refine Kd.C_alloc ?_ _) | (with_reducible refine Kd.C_drewN ?_ _) | (with_reducible refine Kd.C_drew ?_))); (case side2 => exact HC0.out); rintro e w' ⟨rfl, ⟨nd, rfl⟩⟩; refine ⟨_, rfl, ?_⟩) | ((with_reducible refine gate_callee (f := 25) rfl ?_); refine goesL_ (some 23) rfl rfl Try.func25 (by kernel_rfl) rfl #[.slice A0 l0.length c0] rfl (by (try simp only [List.map_toArray, List.map_cons, List.map_nil]); first | done | rfl | (simp only [List.length_drop, List.length_take]; rfl)) ?_; (with_reducible refine (tailwaterref06_Of.calls k _ _ l0 t744 t745 t746 _ ?side1 ?side2 A10.out).mono ?_); (case side1 => repeat (first | exact (Kd.C_below HR0.out (by repeat (first | (with_reducible first | exact HB.out | apply below_alloc | apply pw_below_drewN | apply below_drew1 | refine below_set ?_ GE740.out | refine below_set ?_ GE741.out) | exact HB.out))) | (with_reducible refine Kd.C_alloc ?_ _) | (with_reducible refine Kd.C_drewN ?_ _) | (with_reducible refine Kd.C_drew ?_))); (case side2 => exact HC0.out); rintro e w102 ⟨rfl, hb⟩; refine ⟨_, rfl, ?_⟩; have n0_ := Aside0.mk (blk_below (g := gb740) (o := .cells #[.int .i64 a1_0, .int .i64 a1_1, .int .i64 a1_2] 56 (0, 0)) (by (with_reducible repeat (first | refine blk_drewN ?_ _ | refine blk_drew ?_ | refine blk_alloc ?_ _)); exact BK740.out) hb); have n1_ := Aside0.mk (blk_below (g := gb741) (o := .cells #[.int .i64 a2_0, .int .i64 a2_1, .int .i64 a2_2] 56 (0, 0)) (by (with_reducible repeat (first | refine blk_drewN ?_ _ | refine blk_drew ?_ | refine blk_alloc ?_ _)); exact BK741.out) hb); have n2_ := Aside0.mk (below_step (by repeat (first | (with_reducible first | exact HB.out | apply below_alloc | apply pw_below_drewN | apply below_drew1 | refine below_set ?_ GE740.out | refine below_set ?_ GE741.out) | exact HB.out)) hb); clear BK740; clear BK741; clear HB; have BK740 := n0_; have BK741 := n1_; have HB := n2_; clear n0_ n1_ n2_; (try clear hb); (try clear hb2); (try clear hk); (try clear hi)) | ((with_reducible refine gate_callee (f := 33) rfl ?_); refine goesL_ (some 29) rfl rfl Try.func33 (by kernel_rfl) rfl #[] rfl (by (try simp only [List.map_toArray, List.map_cons, List.map_nil]); first | done | rfl | (simp only [List.length_drop, List.length_take]; rfl)) ?_; (with_reducible refine (tailwaterlaw07_alive.calls  t747 _ A99.out).mono ?_); rintro e w103 ⟨rfl, hb⟩; refine ⟨_, rfl, ?_⟩; have n0_ := Aside0.mk (blk_below (g := gb740) (o := .cells #[.int .i64 a1_0, .int .i64 a1_1, .int .i64 a1_2] 56 (0, 0)) (by (with_reducible repeat (first | refine blk_drewN ?_ _ | refine blk_drew ?_ | refine blk_alloc ?_ _)); exact BK740.out) hb); have n1_ := Aside0.mk (blk_below (g := gb741) (o := .cells #[.int .i64 a2_0, .int .i64 a2_1, .int .i64 a2_2] 56 (0, 0)) (by (with_reducible repeat (first | refine blk_drewN ?_ _ | refine blk_drew ?_ | refine blk_alloc ?_ _)); exact BK741.out) hb); have n2_ := Aside0.mk (below_step (by repeat (first | (with_reducible first | exact HB.out | apply below_alloc | apply pw_below_drewN | apply below_drew1 | refine below_set ?_ GE740.out | refine below_set ?_ GE741.out) | exact HB.out)) hb); clear BK740; clear BK741; clear HB; have BK740 := n0_; have BK741 := n1_; have HB := n2_; clear n0_ n1_ n2_; (try clear hb); (try clear hb2); (try clear hk); (try clear hi)))
      go_ret
      exact ⟨by first | rfl | (simp [errW_none, errW_some] <;> rfl) | (simp [*, errW_none, errW_some] <;> rfl), by repeat (first | (with_reducible first | exact HB.out | apply below_alloc | apply pw_below_drewN | apply below_drew1 | refine below_set ?_ GE740.out | refine below_set ?_ GE741.out) | exact HB.out)⟩

end Go.Proofs.Ytijdckamblaflaa.M
