-- PRINTED by print.py (a twelfth state) out of the translation. Not trusted: Lean checks it.
import Derived.Test.YtijdckamblaflaaMTypes
import Derived.Test.YtijdckamblaflaaGLater
import Derived.Test.YtijdckamblaflaaGCheck
import Derived.Test.YtijdckamblaflaaGClone
import Derived.Test.YtijdckamblaflaaMNodesParts
namespace Go.Proofs.Ytijdckamblaflaa.M
open Go.RowKit Go.Proofs.YtijdckamblaflaaW.PrintWords Go.Proofs.YtijdckamblaflaaW.PrintLast Go.Proofs.YtijdckamblaflaaW.PrintMore
attribute [local go_sem] max2_int min2_int max_two min_two max_three min_three max_four min_four   -- for this text's walks alone
set_option linter.unusedVariables false
set_option linter.unusedSimpArgs false

/-! ### nodes_Size: function 52 -/
def nodes_Size.f (l0 : List (S27)) (a1 : Int) : Option (Int × Int) := (nodes_check.f l0).bind fun bt379 => (if bt379.2 = 0 then (if a1 < 0 then (some (0, 2)) else (if a1 ≥ (bt379.1.length : Int) then (some (0, 2)) else (if 0 ≤ a1 then (if a1 < (bt379.1.length : Int) then (some ((rd_T99 bt379.1 a1).f1, 0)) else (none)) else (none)))) else (some (0, bt379.2)))
set_option maxHeartbeats 8000000 in
set_option maxRecDepth 100000 in
theorem nodes_Size.calls (A0 : Option Addr) (c0 : Nat) (l0 : List (S27)) (a1 : Int) (r1 : Int) (r2 : Int) (w : World) (hr0 : Kd.C k27 w A0 l0.length l0) (hc0 : l0.length ≤ c0) (h : nodes_Size.f l0 a1 = some (r1, r2)) :
    Calls Try.prog 52 #[.slice A0 l0.length c0, .int .i64 a1] w fun e w' => e = .returned (.tuple #[.int .i64 r1, .int .i64 r2]) ∧ Below w.heap.size w w' := by
  have HR0 := Aside0.mk hr0
  have HC0 := Aside0.mk hc0
  clear hr0 hc0
  have HB := Aside0.mk (Below.refl w.heap.size w)
  have H : ((nodes_check.f l0).bind fun bt379 => (if bt379.2 = 0 then (if a1 < 0 then (some (0, 2)) else (if a1 ≥ (bt379.1.length : Int) then (some (0, 2)) else (if 0 ≤ a1 then (if a1 < (bt379.1.length : Int) then (some ((rd_T99 bt379.1 a1).f1, 0)) else (none)) else (none)))) else (some (0, bt379.2)))) = some (r1, r2) := h
  clear h
  replace H := Option.bind_eq_some_iff.mp H
  obtain ⟨⟨t379, t380⟩, A30, H⟩ := H
  replace H : (if t380 = 0 then (if a1 < 0 then (some (0, 2)) else (if a1 ≥ (t379.length : Int) then (some (0, 2)) else (if 0 ≤ a1 then (if a1 < (t379.length : Int) then (some ((rd_T99 t379 a1).f1, 0)) else (none)) else (none)))) else (some (0, t380))) = some (r1, r2) := H
  have A3 := Aside0.mk A30
  clear A30
  by_cases c4 : t380 = 0
  · rw [if_pos c4] at H
    have c4b0 : (t380 == 0) = true := beq_iff_eq.mpr c4
    have c4b1 : (t380 != 0) = false := bne_eq_false_iff_eq.mpr c4
    clear c4
    by_cases c5 : a1 < 0
    · rw [if_pos c5] at H
      have c5b0 : decide (a1 < 0) = true := decide_eq_true c5
      clear c5
      simp only [Option.some.injEq, Prod.mk.injEq] at H
      obtain ⟨rfl, rfl⟩ := H
      go_enter Try.func52, Try.ntmps52
      go_wp2_with (first | ((with_reducible refine gate_callee (f := 59) rfl ?_); refine goesL_ (some 10) rfl rfl Try.func59 (by kernel_rfl) rfl #[.slice A0 l0.length c0] rfl (by (try simp only [List.map_toArray, List.map_cons, List.map_nil]); first | done | rfl | (simp only [List.length_drop, List.length_take]; rfl)) ?_; (with_reducible refine (nodes_check.calls _ _ l0 t379 t380 _ ?side1 ?side2 A3.out).mono ?_); (case side1 => repeat (first | exact HR0.out | (with_reducible refine Kd.C_alloc ?_ _) | (with_reducible refine Kd.C_drewN ?_ _) | (with_reducible refine Kd.C_drew ?_))); (case side2 => exact HC0.out); rintro e w6 ⟨v381, rfl, ho0, hb⟩; refine ⟨_, rfl, ?_⟩; have n0_ := Aside0.mk (Kd.R_lower ho0 (below_size (by exact belL HB.out))); have n1_ := Aside0.mk (below_step (by exact belL HB.out) hb); clear HB; have HO382 := n0_; have HB := n1_; clear n0_ n1_; (try clear hb); (try clear hb2); (try clear hk); (try clear hi); (try clear ho0)))
      go_ret2
      exact ⟨by first | rfl | (simp [errW_none, errW_some] <;> rfl) | (simp [*, errW_none, errW_some] <;> rfl), by repeat (first | (with_reducible first | exact HB.out | apply below_alloc | apply pw_below_drewN | apply below_drew1) | exact HB.out)⟩
    · rw [if_neg c5] at H
      have c5b0 : decide (a1 < 0) = false := decide_eq_false c5
      clear c5
      by_cases c7 : a1 ≥ (t379.length : Int)
      · rw [if_pos c7] at H
        have c7b0 : decide ((t379.length : Int) ≤ a1) = true := decide_eq_true c7
        clear c7
        simp only [Option.some.injEq, Prod.mk.injEq] at H
        obtain ⟨rfl, rfl⟩ := H
        go_enter Try.func52, Try.ntmps52
        go_wp2_with (first | ((with_reducible refine gate_callee (f := 59) rfl ?_); refine goesL_ (some 10) rfl rfl Try.func59 (by kernel_rfl) rfl #[.slice A0 l0.length c0] rfl (by (try simp only [List.map_toArray, List.map_cons, List.map_nil]); first | done | rfl | (simp only [List.length_drop, List.length_take]; rfl)) ?_; (with_reducible refine (nodes_check.calls _ _ l0 t379 t380 _ ?side1 ?side2 A3.out).mono ?_); (case side1 => repeat (first | exact HR0.out | (with_reducible refine Kd.C_alloc ?_ _) | (with_reducible refine Kd.C_drewN ?_ _) | (with_reducible refine Kd.C_drew ?_))); (case side2 => exact HC0.out); rintro e w8 ⟨v381, rfl, ho0, hb⟩; refine ⟨_, rfl, ?_⟩; have n0_ := Aside0.mk (Kd.R_lower ho0 (below_size (by exact belL HB.out))); have n1_ := Aside0.mk (below_step (by exact belL HB.out) hb); clear HB; have HO382 := n0_; have HB := n1_; clear n0_ n1_; (try clear hb); (try clear hb2); (try clear hk); (try clear hi); (try clear ho0); obtain ⟨Ao9, co9, eo9⟩ := Kd.R_slice HO382.out; subst eo9))
        go_ret2
        exact ⟨by first | rfl | (simp [errW_none, errW_some] <;> rfl) | (simp [*, errW_none, errW_some] <;> rfl), by repeat (first | (with_reducible first | exact HB.out | apply below_alloc | apply pw_below_drewN | apply below_drew1) | exact HB.out)⟩
      · rw [if_neg c7] at H
        have c7b0 : decide ((t379.length : Int) ≤ a1) = false := decide_eq_false c7
        clear c7
        by_cases c10 : 0 ≤ a1
        · rw [if_pos c10] at H
          have c10b0 : decide (0 ≤ a1) = true := decide_eq_true c10
          clear c10
          by_cases c11 : a1 < (t379.length : Int)
          · rw [if_pos c11] at H
            have c11b0 : decide (a1 < (t379.length : Int)) = true := decide_eq_true c11
            clear c11
            simp only [Option.some.injEq, Prod.mk.injEq] at H
            obtain ⟨rfl, rfl⟩ := H
            go_enter Try.func52, Try.ntmps52
            go_wp2_with (first | ((with_reducible refine gate_callee (f := 59) rfl ?_); refine goesL_ (some 10) rfl rfl Try.func59 (by kernel_rfl) rfl #[.slice A0 l0.length c0] rfl (by (try simp only [List.map_toArray, List.map_cons, List.map_nil]); first | done | rfl | (simp only [List.length_drop, List.length_take]; rfl)) ?_; (with_reducible refine (nodes_check.calls _ _ l0 t379 t380 _ ?side1 ?side2 A3.out).mono ?_); (case side1 => repeat (first | exact HR0.out | (with_reducible refine Kd.C_alloc ?_ _) | (with_reducible refine Kd.C_drewN ?_ _) | (with_reducible refine Kd.C_drew ?_))); (case side2 => exact HC0.out); rintro e w12 ⟨v381, rfl, ho0, hb⟩; refine ⟨_, rfl, ?_⟩; have n0_ := Aside0.mk (Kd.R_lower ho0 (below_size (by exact belL HB.out))); have n1_ := Aside0.mk (below_step (by exact belL HB.out) hb); clear HB; have HO382 := n0_; have HB := n1_; clear n0_ n1_; (try clear hb); (try clear hb2); (try clear hk); (try clear hi); (try clear ho0); obtain ⟨Ao13, co13, eo13⟩ := Kd.R_slice HO382.out; subst eo13; have p383 : 0 ≤ (a1 : Int) := of_decide_eq_true (by first | (with_reducible assumption) | assumption); have q383 : a1 < (t379.length : Int) := of_decide_eq_true (by first | (with_reducible assumption) | assumption); obtain ⟨ad383, e383, hx383_0, hx383_1, hx383_2⟩ := at_T99 (Kd.R_reads' HO382.out).2.2 a1 p383 q383; cases e383; replace p383 := eq_true p383; replace q383 := eq_true q383))
            go_ret2
            exact ⟨by first | rfl | (simp [errW_none, errW_some] <;> rfl) | (simp [*, errW_none, errW_some] <;> rfl), by repeat (first | (with_reducible first | exact HB.out | apply below_alloc | apply pw_below_drewN | apply below_drew1) | exact HB.out)⟩
          · rw [if_neg c11] at H
            exact absurd H (by simp)
        · rw [if_neg c10] at H
          exact absurd H (by simp)
  · rw [if_neg c4] at H
    have c4b0 : (t380 == 0) = false := beq_eq_false_iff_ne.mpr c4
    have c4b1 : (t380 != 0) = true := bne_iff_ne.mpr c4
    simp only [Option.some.injEq, Prod.mk.injEq] at H
    obtain ⟨rfl, rfl⟩ := H
    go_enter Try.func52, Try.ntmps52
    go_wp2_with (first | ((with_reducible refine gate_callee (f := 59) rfl ?_); refine goesL_ (some 10) rfl rfl Try.func59 (by kernel_rfl) rfl #[.slice A0 l0.length c0] rfl (by (try simp only [List.map_toArray, List.map_cons, List.map_nil]); first | done | rfl | (simp only [List.length_drop, List.length_take]; rfl)) ?_; (with_reducible refine (nodes_check.calls _ _ l0 t379 t380 _ ?side1 ?side2 A3.out).mono ?_); (case side1 => repeat (first | exact HR0.out | (with_reducible refine Kd.C_alloc ?_ _) | (with_reducible refine Kd.C_drewN ?_ _) | (with_reducible refine Kd.C_drew ?_))); (case side2 => exact HC0.out); rintro e w14 ⟨v381, rfl, ho0, hb⟩; refine ⟨_, rfl, ?_⟩; have n0_ := Aside0.mk (Kd.R_lower ho0 (below_size (by exact belL HB.out))); have n1_ := Aside0.mk (below_step (by exact belL HB.out) hb); clear HB; have HO382 := n0_; have HB := n1_; clear n0_ n1_; (try clear hb); (try clear hb2); (try clear hk); (try clear hi); (try clear ho0)))
    go_ret2
    exact ⟨by first | rfl | (simp [errW_none, errW_some] <;> rfl) | (simp [*, errW_none, errW_some] <;> rfl), by repeat (first | (with_reducible first | exact HB.out | apply below_alloc | apply pw_below_drewN | apply below_drew1) | exact HB.out)⟩

/-! ### nodes_moved: function 53 -/
def nodes_moved.l0 : Nat → Int → List (S27) → Int → Int → Option ((List (S27)))
  | 0, _, _, _, _ => none
  | k + 1, x1, x5, x12, x13 => if x13 < x12 then (if 0 ≤ x13 then (if x13 < (x5.length : Int) then ((nodes_Parts.f k ((rd_T27 x5 x13).f0)).bind fun bt388 => (if bt388.1 > 0 then ((some (x5.set (x13 : Int).toNat (⟨(rd_T27 x5 x13).f0, (rd_T27 x5 x13).f1, wrap64 (((rd_T27 x5 x13).f2) + x1), (rd_T27 x5 x13).f3, (rd_T27 x5 x13).f4⟩ : S27) : List (S27))).bind fun y391 => (if bt388.1 > 1 then (nodes_moved.l0 k x1 (y391.set (x13 : Int).toNat (⟨(rd_T27 y391 x13).f0, (rd_T27 y391 x13).f1, (rd_T27 y391 x13).f2, wrap64 (((rd_T27 y391 x13).f3) + x1), (rd_T27 y391 x13).f4⟩ : S27)) x12 (wrap64 (x13 + 1))) else (nodes_moved.l0 k x1 y391 x12 (wrap64 (x13 + 1))))) else (if bt388.1 > 1 then (nodes_moved.l0 k x1 (x5.set (x13 : Int).toNat (⟨(rd_T27 x5 x13).f0, (rd_T27 x5 x13).f1, (rd_T27 x5 x13).f2, wrap64 (((rd_T27 x5 x13).f3) + x1), (rd_T27 x5 x13).f4⟩ : S27)) x12 (wrap64 (x13 + 1))) else (nodes_moved.l0 k x1 x5 x12 (wrap64 (x13 + 1)))))) else (none)) else (none)) else (some x5)
def nodes_moved.f (k : Nat) (l0 : List (S27)) (a1 : Int) : Option ((List (S27))) := (api_Node.f l0).bind fun t384 => (nodes_moved.l0 k a1 t384 (t384.length : Int) 0)
theorem nodes_moved.mono_l : ∀ k, (∀ y0 y1 y2 y3, LeO (nodes_moved.l0 k y0 y1 y2 y3) (nodes_moved.l0 (k + 1) y0 y1 y2 y3))
  | 0 => fun _ _ _ _ r h => by simp [nodes_moved.l0] at h
  | k + 1 => by
    have ih0 := nodes_moved.mono_l k
    · intro y0 y1 y2 y3
      unfold nodes_moved.l0
      repeat' first
      | (with_reducible exact ih0 _ _ _ _)
      | (with_reducible exact nodes_Parts.mono _ _)
      | (with_reducible exact LeO.refl _)
      | (with_reducible exact LeO.none _)
      | (with_reducible refine LeO.ite ?_ ?_)
      | (with_reducible refine LeO.bind ?_ (fun _ => ?_))
      | exact ih0 _ _ _ _
      | exact nodes_Parts.mono _ _
      | exact LeO.none _
      | refine LeO.ite ?_ ?_
      | refine LeO.bind ?_ (fun _ => ?_)
theorem nodes_moved.mono : ∀ a0 a1 k, LeO (nodes_moved.f k a0 a1) (nodes_moved.f (k + 1) a0 a1) := by
  intro a0 a1 k
  have ih0 := nodes_moved.mono_l k
  unfold nodes_moved.f
  repeat' first
      | (with_reducible exact ih0 _ _ _ _)
      | (with_reducible exact nodes_Parts.mono _ _)
      | (with_reducible exact LeO.refl _)
      | (with_reducible exact LeO.none _)
      | (with_reducible refine LeO.ite ?_ ?_)
      | (with_reducible refine LeO.bind ?_ (fun _ => ?_))
      | exact ih0 _ _ _ _
      | exact nodes_Parts.mono _ _
      | exact LeO.none _
      | refine LeO.ite ?_ ?_
      | refine LeO.bind ?_ (fun _ => ?_)
set_option maxHeartbeats 8000000 in
set_option maxRecDepth 100000 in
theorem nodes_moved.calls (k : Nat) (A0 : Option Addr) (c0 : Nat) (l0 : List (S27)) (a1 : Int) (r : List (S27)) (w : World) (hr0 : Kd.C k27 w A0 l0.length l0) (hc0 : l0.length ≤ c0) (h : nodes_moved.f k l0 a1 = some r) :
    Calls Try.prog 53 #[.slice A0 l0.length c0, .int .i64 a1] w fun e w' => ∃ v0_ : Value, e = .returned (v0_) ∧ Kd.R k27 27 w' w.heap.size (fun _ => True) v0_ r ∧ Below w.heap.size w w' := by
  have HR0 := Aside0.mk hr0
  have HC0 := Aside0.mk hc0
  clear hr0 hc0
  have HB := Aside0.mk (Below.refl w.heap.size w)
  have H : ((api_Node.f l0).bind fun t384 => (nodes_moved.l0 k a1 t384 (t384.length : Int) 0)) = some r := h
  clear h
  replace H := Option.bind_eq_some_iff.mp H
  obtain ⟨t384, A30, H⟩ := H
  replace H : (nodes_moved.l0 k a1 t384 (t384.length : Int) 0) = some r := H
  have A3 := Aside0.mk A30
  clear A30
  have H' := Aside0.mk H
  clear H
  go_enter Try.func53, Try.ntmps53
  go_wp2_with (first | ((with_reducible refine gate_callee (f := 62) rfl ?_); refine goesL_ (some 10) rfl rfl Try.func62 (by kernel_rfl) rfl #[.slice A0 l0.length c0] rfl (by (try simp only [List.map_toArray, List.map_cons, List.map_nil]); first | done | rfl | (simp only [List.length_drop, List.length_take]; rfl)) ?_; (with_reducible refine (api_Node.calls _ _ l0 t384 _ ?side1 ?side2 A3.out).mono ?_); (case side1 => repeat (first | exact HR0.out | (with_reducible refine Kd.C_alloc ?_ _) | (with_reducible refine Kd.C_drewN ?_ _) | (with_reducible refine Kd.C_drew ?_))); (case side2 => exact HC0.out); rintro e w4 ⟨v385, rfl, ho0, hb⟩; refine ⟨_, rfl, ?_⟩; have n0_ := Aside0.mk (Kd.R_lower ho0 (below_size (by exact belL HB.out))); have n1_ := Aside0.mk (below_step (by exact belL HB.out) hb); clear HB; have HO386 := n0_; have HB := n1_; clear n0_ n1_; (try clear hb); (try clear hb2); (try clear hk); (try clear hi); (try clear ho0); obtain ⟨Ao5, co5, eo5⟩ := Kd.R_slice HO386.out; subst eo5))
  go_loopg [13] k (fun kq v13 w' => ∃ (x5_1 : List (S27)) (x13_1 : Int), v13 = .int .i64 x13_1 ∧ Aside0 (nodes_moved.l0 kq a1 x5_1 (t384.length : Int) x13_1 = some r) ∧ Aside0 (kq ≤ k) ∧ Aside0 (Kd.R k27 27 w' w.heap.size (fun _ => True) (.slice Ao5 t384.length co5) x5_1) ∧ Aside0 (Below w.heap.size w w'))
  case atStart => exact ⟨(t384), (0), (by first | rfl | (simp; done) | (simp [*]; done)), H', ⟨Nat.le_refl _⟩, ⟨by (with_reducible repeat (first | apply Kd.R_alloc | apply Kd.R_drewN | apply Kd.R_drew)); exact HO386.out⟩, ⟨by repeat (first | (with_reducible first | exact HB.out | apply below_alloc | apply pw_below_drewN | apply below_drew1) | exact HB.out)⟩⟩
  case round =>
    clear H'
    try clear p2
    try clear c5
    obtain ⟨x5_1, x13_1, rfl, HA, HK1, HO_5, HB⟩ := hrel
    have hl5_1 := (Kd.R_reads' HO_5.out).1
    rw [hl5_1] at HO_5
    (try simp only [hl5_1])
    cases gk with
    | zero => exact absurd HA.out (by simp [nodes_moved.l0])
    | succ k1 =>
      have H := HA.out
      clear HA
      simp only [nodes_moved.l0] at H
      by_cases c6 : x13_1 < (t384.length : Int)
      · rw [if_pos c6] at H
        have c6b0 : decide (x13_1 < (t384.length : Int)) = true := decide_eq_true c6
        clear c6
        by_cases c7 : 0 ≤ x13_1
        · rw [if_pos c7] at H
          have c7b0 : decide (0 ≤ x13_1) = true := decide_eq_true c7
          clear c7
          by_cases c8 : x13_1 < (x5_1.length : Int)
          · rw [if_pos c8] at H
            have c8b0 : decide (x13_1 < (x5_1.length : Int)) = true := decide_eq_true c8
            clear c8
            replace H := Option.bind_eq_some_iff.mp H
            obtain ⟨⟨t388, t389⟩, A90, H⟩ := H
            replace H : (if t388 > 0 then ((some (x5_1.set (x13_1 : Int).toNat (⟨(rd_T27 x5_1 x13_1).f0, (rd_T27 x5_1 x13_1).f1, wrap64 (((rd_T27 x5_1 x13_1).f2) + a1), (rd_T27 x5_1 x13_1).f3, (rd_T27 x5_1 x13_1).f4⟩ : S27) : List (S27))).bind fun y391 => (if t388 > 1 then (nodes_moved.l0 k1 a1 (y391.set (x13_1 : Int).toNat (⟨(rd_T27 y391 x13_1).f0, (rd_T27 y391 x13_1).f1, (rd_T27 y391 x13_1).f2, wrap64 (((rd_T27 y391 x13_1).f3) + a1), (rd_T27 y391 x13_1).f4⟩ : S27)) (t384.length : Int) (wrap64 (x13_1 + 1))) else (nodes_moved.l0 k1 a1 y391 (t384.length : Int) (wrap64 (x13_1 + 1))))) else (if t388 > 1 then (nodes_moved.l0 k1 a1 (x5_1.set (x13_1 : Int).toNat (⟨(rd_T27 x5_1 x13_1).f0, (rd_T27 x5_1 x13_1).f1, (rd_T27 x5_1 x13_1).f2, wrap64 (((rd_T27 x5_1 x13_1).f3) + a1), (rd_T27 x5_1 x13_1).f4⟩ : S27)) (t384.length : Int) (wrap64 (x13_1 + 1))) else (nodes_moved.l0 k1 a1 x5_1 (t384.length : Int) (wrap64 (x13_1 + 1))))) = some r := H
            have A9 := Aside0.mk A90
            clear A90
            by_cases c10 : t388 > 0
            · rw [if_pos c10] at H
              have c10b0 : decide (0 < t388) = true := decide_eq_true c10
              clear c10
              obtain ⟨y391, hy391⟩ : ∃ y_ : List (S27), y_ = (x5_1.set (x13_1 : Int).toNat (⟨(rd_T27 x5_1 x13_1).f0, (rd_T27 x5_1 x13_1).f1, wrap64 (((rd_T27 x5_1 x13_1).f2) + a1), (rd_T27 x5_1 x13_1).f3, (rd_T27 x5_1 x13_1).f4⟩ : S27)) := ⟨_, rfl⟩
              replace H : (if t388 > 1 then (nodes_moved.l0 k1 a1 (y391.set (x13_1 : Int).toNat (⟨(rd_T27 y391 x13_1).f0, (rd_T27 y391 x13_1).f1, (rd_T27 y391 x13_1).f2, wrap64 (((rd_T27 y391 x13_1).f3) + a1), (rd_T27 y391 x13_1).f4⟩ : S27)) (t384.length : Int) (wrap64 (x13_1 + 1))) else (nodes_moved.l0 k1 a1 y391 (t384.length : Int) (wrap64 (x13_1 + 1)))) = some r := by first | (rw [hy391]; with_reducible exact H) | (have H2_ := (Option.bind_some _ _).symm.trans H; rw [hy391]; with_reducible exact H2_) | (have H2_ := (Option.bind_some _ _).symm.trans H; with_reducible exact H2_) | with_reducible exact H | (rw [hy391]; exact H) | exact H
              have Ny391 := Aside0.mk hy391
              clear hy391
              by_cases c12 : t388 > 1
              · rw [if_pos c12] at H
                have c12b0 : decide (1 < t388) = true := decide_eq_true c12
                clear c12
                obtain ⟨y393, hy393⟩ : ∃ y_ : List (S27), y_ = (y391.set (x13_1 : Int).toNat (⟨(rd_T27 y391 x13_1).f0, (rd_T27 y391 x13_1).f1, (rd_T27 y391 x13_1).f2, wrap64 (((rd_T27 y391 x13_1).f3) + a1), (rd_T27 y391 x13_1).f4⟩ : S27)) := ⟨_, rfl⟩
                replace H : (nodes_moved.l0 k1 a1 y393 (t384.length : Int) (wrap64 (x13_1 + 1))) = some r := by first | (rw [hy393]; with_reducible exact H) | (have H2_ := (Option.bind_some _ _).symm.trans H; rw [hy393]; with_reducible exact H2_) | (have H2_ := (Option.bind_some _ _).symm.trans H; with_reducible exact H2_) | with_reducible exact H | (rw [hy393]; exact H) | exact H
                have Ny393 := Aside0.mk hy393
                clear hy393
                have H' := Aside0.mk H
                clear H
                have p387 : 0 ≤ (x13_1 : Int) := of_decide_eq_true (by first | (with_reducible assumption) | assumption)
                have q387 : x13_1 < (x5_1.length : Int) := of_decide_eq_true (by first | (with_reducible assumption) | assumption)
                obtain ⟨ad387, e387, hx387_0, hx387_1, hx387_2, hx387_3, hx387_4⟩ := at_T27 (Kd.R_reads' HO_5.out).2.2 x13_1 p387 q387
                cases e387
                replace p387 := eq_true p387
                replace q387 := eq_true q387
                go_wp2_with (first | ((with_reducible refine gate_callee (f := 31) rfl ?_); refine goesL_ (some 22) rfl rfl Try.func31 (by kernel_rfl) rfl #[.int .u8 ((rd_T27 x5_1 x13_1).f0)] rfl (by (try simp only [List.map_toArray, List.map_cons, List.map_nil]); first | done | rfl | (simp only [List.length_drop, List.length_take]; rfl)) ?_; (with_reducible refine (nodes_Parts.calls k1 ((rd_T27 x5_1 x13_1).f0) t388 t389 _ A9.out).mono ?_); rintro e w' ⟨rfl, ⟨nd, rfl⟩⟩; refine ⟨_, rfl, ?_⟩; (try (rw [drewN_self wr]; generalize hq_ : World.drewN wr _ = wr; have n0_ : Aside0 (Kd.R k27 27 wr w.heap.size (fun _ => True) (.slice (some ad387) x5_1.length co5) x5_1) := ⟨by rw [← hq_]; exact (by exact RL HO_5.out)⟩; have n1_ : Aside0 (Below w.heap.size w wr) := ⟨by rw [← hq_]; exact (by exact belL HB.out)⟩; clear HO_5 HB hq_; have HO_5 := n0_; have HB := n1_; clear n0_ n1_)); have p390 : 0 ≤ (x13_1 : Int) := of_decide_eq_true (by first | (with_reducible assumption) | assumption); have q390 : x13_1 < (x5_1.length : Int) := of_decide_eq_true (by first | (with_reducible assumption) | assumption); obtain ⟨ad390, e390, hx390_0, hx390_1, hx390_2, hx390_3, hx390_4⟩ := at_T27 (Kd.R_reads' HO_5.out).2.2 x13_1 p390 q390; obtain rfl : ad387 = ad390 := (by injection e390); replace p390 := eq_true p390; replace q390 := eq_true q390; have p11 : 0 ≤ (x13_1 : Int) := of_decide_eq_true (by first | (with_reducible assumption) | assumption); have q11 : (x13_1 : Int) < ((x5_1.length : Int) : Int) := of_decide_eq_true (by first | (with_reducible assumption) | assumption); obtain ⟨go11, co11, eo11, gb11, gl11, cl11, HG11⟩ := Kd.R_form HO_5.out (by omega); (first | cases eo11 | (injection eo11 with ea_ en_ ec_; (first | subst ea_ | (injection ea_ with ea_; subst ea_)); subst ec_; clear en_)); have GB11 := Aside0.mk gb11; have GG11 := Aside0.mk HG11; clear gb11 gl11 HG11; (first | simp only [add_plain] at hx387_0 | skip); (first | simp only [add_plain] at hx387_1 | skip); (first | simp only [add_plain] at hx387_2 | skip); (first | simp only [add_plain] at hx387_3 | skip); (first | simp only [add_plain] at hx387_4 | skip); (first | simp only [add_plain] at hx390_0 | skip); (first | simp only [add_plain] at hx390_1 | skip); (first | simp only [add_plain] at hx390_2 | skip); (first | simp only [add_plain] at hx390_3 | skip); (first | simp only [add_plain] at hx390_4 | skip); obtain ⟨ce11, hcl11, hM11, hcc11, hfr11⟩ := Kd.R_elem HO_5.out z27 (x13_1 : Int) p11 q11; obtain rfl := k27_openM hM11; have hx11_0 : wr.cell? ⟨go11, (x13_1 : Int).toNat * 5, none⟩ = some (.int .u8 ((rd_T27 x5_1 x13_1).f0)) := hcc11 0 _ rfl; have hx11_1 : wr.cell? ⟨go11, (x13_1 : Int).toNat * 5 + 1, none⟩ = some (.int .i64 ((rd_T27 x5_1 x13_1).f1)) := hcc11 1 _ rfl; have hx11_2 : wr.cell? ⟨go11, (x13_1 : Int).toNat * 5 + 2, none⟩ = some (.int .i64 ((rd_T27 x5_1 x13_1).f2)) := hcc11 2 _ rfl; have hx11_3 : wr.cell? ⟨go11, (x13_1 : Int).toNat * 5 + 3, none⟩ = some (.int .i64 ((rd_T27 x5_1 x13_1).f3)) := hcc11 3 _ rfl; have hx11_4 : wr.cell? ⟨go11, (x13_1 : Int).toNat * 5 + 4, none⟩ = some (.int .i64 ((rd_T27 x5_1 x13_1).f4)) := hcc11 4 _ rfl; have hf11_0 : wr.frozen? ⟨go11, (x13_1 : Int).toNat * 5, none⟩ = false := hfr11 0; have hf11_1 : wr.frozen? ⟨go11, (x13_1 : Int).toNat * 5 + 1, none⟩ = false := hfr11 1; have hf11_2 : wr.frozen? ⟨go11, (x13_1 : Int).toNat * 5 + 2, none⟩ = false := hfr11 2; have hf11_3 : wr.frozen? ⟨go11, (x13_1 : Int).toNat * 5 + 3, none⟩ = false := hfr11 3; have hf11_4 : wr.frozen? ⟨go11, (x13_1 : Int).toNat * 5 + 4, none⟩ = false := hfr11 4; clear hcl11 hcc11 hfr11 hM11; replace p11 := eq_true p11; replace q11 := eq_true q11; have HX14 := Aside0.mk (show Kd.R k27 27 wr w.heap.size (fun _ => True) (.slice (some ⟨go11, 0, none⟩) x5_1.length co5) x5_1 from (by exact RL HO_5.out)); obtain ⟨ce14, hcl14, hM14, hcc14, hfr14⟩ := Kd.R_elem HX14.out z27 (x13_1 : Int) (of_decide_eq_true (by first | (with_reducible assumption) | assumption)) (by have h_ : (x13_1 : Int) < ((x5_1.length : Int) : Int) := of_decide_eq_true (by first | (with_reducible assumption) | assumption); first | exact h_ | (have e_ := (Kd.R_reads' HO_5.out).1; omega) | simpa using h_); obtain rfl := k27_openM hM14; have HP14 := Kd.R_seg HX14.out (x13_1 : Int) (of_decide_eq_true (by first | (with_reducible assumption) | assumption)) (by have h_ : (x13_1 : Int) < ((x5_1.length : Int) : Int) := of_decide_eq_true (by first | (with_reducible assumption) | assumption); first | exact h_ | (have e_ := (Kd.R_reads' HO_5.out).1; omega) | simpa using h_) (seg := [.int .i64 (wrap64 (((rd_T27 x5_1 x13_1).f2) + a1))]) (j := 2) hcl14 hcc14 (show 3 ≤ 5 from by decide) (x' := (⟨(rd_T27 x5_1 x13_1).f0, (rd_T27 x5_1 x13_1).f1, wrap64 (((rd_T27 x5_1 x13_1).f2) + a1), (rd_T27 x5_1 x13_1).f3, (rd_T27 x5_1 x13_1).f4⟩ : S27)) (k27_mkM _ _ _ (⟨(rd_T27 x5_1 x13_1).f0, (rd_T27 x5_1 x13_1).f1, wrap64 (((rd_T27 x5_1 x13_1).f2) + a1), (rd_T27 x5_1 x13_1).f3, (rd_T27 x5_1 x13_1).f4⟩ : S27) ) (fun _ hk => hk); have hx14_2 := hcc14 2 _ rfl; (try simp only [show (k27).sz = 5 from rfl, Nat.mul_one, Nat.add_zero] at hx14_2); have hf14_2 := hfr14 2; (try simp only [show (k27).sz = 5 from rfl, Nat.mul_one, Nat.add_zero] at hf14_2); clear hcl14 hcc14 hfr14 hM14) | ((with_reducible refine gate_store (t := 3) (p := 35) rfl ?_); refine store_event (t := 3) (p := 35) (v := ?vo_w15) (w1 := (wr.setCell ⟨go11, (x13_1 : Int).toNat * 5 + 2, none⟩ (.int .i64 (wrap64 (((rd_T27 x5_1 x13_1).f2) + a1))))) ?hg ?ho ?hn ?hr ?_; (case ho => rfl); (case hg => rfl); (case hn => rfl); (case hr => first | (go_simp; done) | (go_simp; rfl)); intro w15 hw; have hg : wr.grownBy w15 (some go11) := (by rw [hw]; exact HP14.2); have hp_ : Kd.R k27 27 w15 w.heap.size (fun _ => True) (.slice (some ⟨go11, 0, none⟩) x5_1.length co5) y391 := (by rw [hw, Ny391.out]; exact HP14.1); clear HP14; have n0_ := Aside0.mk (hp_); have n1_ := Aside0.mk ((by rw [hw]; exact below_set (HB.out) GB11.out : Below w.heap.size w w15)); clear HO_5; clear HB; have HO_5 := n0_; have HB := n1_; clear n0_ n1_; clear hg hw hp_; have p392 : 0 ≤ (x13_1 : Int) := of_decide_eq_true (by first | (with_reducible assumption) | assumption); have q392 : x13_1 < (y391.length : Int) := (by have h_ : (x13_1 : Int) < ((x5_1.length : Int) : Int) := of_decide_eq_true (by first | (with_reducible assumption) | assumption); first | (have e_ := (Kd.R_reads' HO_5.out).1; omega) | simpa only [Ny391.out, List.length_set] using h_); have ql392 : ((x13_1 : Int) < ((x5_1.length : Int) : Int)) = True := eq_true (of_decide_eq_true (by first | (with_reducible assumption) | assumption)); obtain ⟨ad392, e392, hx392_0, hx392_1, hx392_2, hx392_3, hx392_4⟩ := at_T27 (Kd.R_reads' HO_5.out).2.2 x13_1 p392 q392; obtain rfl : (⟨go11, 0, none⟩ : Addr) = ad392 := (by injection e392); (first | simp only [add_plain] at hx392_0 | simp only [add_at] at hx392_0 | simp only [Addr.add, Nat.zero_add] at hx392_0 | skip); (first | simp only [add_plain] at hx392_1 | simp only [add_at] at hx392_1 | simp only [Addr.add, Nat.zero_add] at hx392_1 | skip); (first | simp only [add_plain] at hx392_2 | simp only [add_at] at hx392_2 | simp only [Addr.add, Nat.zero_add] at hx392_2 | skip); (first | simp only [add_plain] at hx392_3 | simp only [add_at] at hx392_3 | simp only [Addr.add, Nat.zero_add] at hx392_3 | skip); (first | simp only [add_plain] at hx392_4 | simp only [add_at] at hx392_4 | simp only [Addr.add, Nat.zero_add] at hx392_4 | skip); replace p392 := eq_true p392; replace q392 := eq_true q392; have p13 : 0 ≤ (x13_1 : Int) := of_decide_eq_true (by first | (with_reducible assumption) | assumption); have q13 : (x13_1 : Int) < ((x5_1.length : Int) : Int) := of_decide_eq_true (by first | (with_reducible assumption) | assumption); obtain ⟨ce13, hcl13, hM13, hcc13, hfr13⟩ := Kd.R_elem HO_5.out z27 (x13_1 : Int) p13 q13; obtain rfl := k27_openM hM13; have hx13_0 : w15.cell? ⟨go11, (x13_1 : Int).toNat * 5, none⟩ = some (.int .u8 ((rd_T27 y391 x13_1).f0)) := hcc13 0 _ rfl; have hx13_1 : w15.cell? ⟨go11, (x13_1 : Int).toNat * 5 + 1, none⟩ = some (.int .i64 ((rd_T27 y391 x13_1).f1)) := hcc13 1 _ rfl; have hx13_2 : w15.cell? ⟨go11, (x13_1 : Int).toNat * 5 + 2, none⟩ = some (.int .i64 ((rd_T27 y391 x13_1).f2)) := hcc13 2 _ rfl; have hx13_3 : w15.cell? ⟨go11, (x13_1 : Int).toNat * 5 + 3, none⟩ = some (.int .i64 ((rd_T27 y391 x13_1).f3)) := hcc13 3 _ rfl; have hx13_4 : w15.cell? ⟨go11, (x13_1 : Int).toNat * 5 + 4, none⟩ = some (.int .i64 ((rd_T27 y391 x13_1).f4)) := hcc13 4 _ rfl; have hf13_0 : w15.frozen? ⟨go11, (x13_1 : Int).toNat * 5, none⟩ = false := hfr13 0; have hf13_1 : w15.frozen? ⟨go11, (x13_1 : Int).toNat * 5 + 1, none⟩ = false := hfr13 1; have hf13_2 : w15.frozen? ⟨go11, (x13_1 : Int).toNat * 5 + 2, none⟩ = false := hfr13 2; have hf13_3 : w15.frozen? ⟨go11, (x13_1 : Int).toNat * 5 + 3, none⟩ = false := hfr13 3; have hf13_4 : w15.frozen? ⟨go11, (x13_1 : Int).toNat * 5 + 4, none⟩ = false := hfr13 4; clear hcl13 hcc13 hfr13 hM13; replace p13 := eq_true p13; replace q13 := eq_true q13; have HX16 := Aside0.mk (show Kd.R k27 27 w15 w.heap.size (fun _ => True) (.slice (some ⟨go11, 0, none⟩) x5_1.length co5) y391 from (by exact RL HO_5.out)); obtain ⟨ce16, hcl16, hM16, hcc16, hfr16⟩ := Kd.R_elem HX16.out z27 (x13_1 : Int) (of_decide_eq_true (by first | (with_reducible assumption) | assumption)) (by have h_ : (x13_1 : Int) < ((x5_1.length : Int) : Int) := of_decide_eq_true (by first | (with_reducible assumption) | assumption); first | exact h_ | (have e_ := (Kd.R_reads' HO_5.out).1; omega) | simpa using h_); obtain rfl := k27_openM hM16; have HP16 := Kd.R_seg HX16.out (x13_1 : Int) (of_decide_eq_true (by first | (with_reducible assumption) | assumption)) (by have h_ : (x13_1 : Int) < ((x5_1.length : Int) : Int) := of_decide_eq_true (by first | (with_reducible assumption) | assumption); first | exact h_ | (have e_ := (Kd.R_reads' HO_5.out).1; omega) | simpa using h_) (seg := [.int .i64 (wrap64 (((rd_T27 y391 x13_1).f3) + a1))]) (j := 3) hcl16 hcc16 (show 4 ≤ 5 from by decide) (x' := (⟨(rd_T27 y391 x13_1).f0, (rd_T27 y391 x13_1).f1, (rd_T27 y391 x13_1).f2, wrap64 (((rd_T27 y391 x13_1).f3) + a1), (rd_T27 y391 x13_1).f4⟩ : S27)) (k27_mkM _ _ _ (⟨(rd_T27 y391 x13_1).f0, (rd_T27 y391 x13_1).f1, (rd_T27 y391 x13_1).f2, wrap64 (((rd_T27 y391 x13_1).f3) + a1), (rd_T27 y391 x13_1).f4⟩ : S27) ) (fun _ hk => hk); have hx16_3 := hcc16 3 _ rfl; (try simp only [show (k27).sz = 5 from rfl, Nat.mul_one, Nat.add_zero] at hx16_3); have hf16_3 := hfr16 3; (try simp only [show (k27).sz = 5 from rfl, Nat.mul_one, Nat.add_zero] at hf16_3); clear hcl16 hcc16 hfr16 hM16) | ((with_reducible refine gate_store (t := 3) (p := 46) rfl ?_); refine store_event (t := 3) (p := 46) (v := ?vo_w17) (w1 := (w15.setCell ⟨go11, (x13_1 : Int).toNat * 5 + 3, none⟩ (.int .i64 (wrap64 (((rd_T27 y391 x13_1).f3) + a1))))) ?hg ?ho ?hn ?hr ?_; (case ho => rfl); (case hg => rfl); (case hn => rfl); (case hr => first | (go_simp; done) | (go_simp; rfl)); intro w17 hw; have hg : w15.grownBy w17 (some go11) := (by rw [hw]; exact HP16.2); have hp_ : Kd.R k27 27 w17 w.heap.size (fun _ => True) (.slice (some ⟨go11, 0, none⟩) x5_1.length co5) y393 := (by rw [hw, Ny393.out]; exact HP16.1); clear HP16; have n0_ := Aside0.mk (hp_); have n1_ := Aside0.mk ((by rw [hw]; exact below_set (HB.out) GB11.out : Below w.heap.size w w17)); clear HO_5; clear HB; have HO_5 := n0_; have HB := n1_; clear n0_ n1_; clear hg hw hp_))
                (try simp only [← hl5_1])
                go_roundg k1
                case measure => have := HK1.out; omega
                case rel => exact ⟨(y393), (wrap64 (x13_1 + 1)), (by first | rfl | (simp; done) | (simp [*]; done)), H', ⟨by have := HK1.out; omega⟩, ⟨by (try simp only [hl5_1]); (with_reducible repeat (first | apply Kd.R_alloc | apply Kd.R_drewN | apply Kd.R_drew)); exact HO_5.out⟩, ⟨by repeat (first | (with_reducible first | exact HB.out | apply below_alloc | apply pw_below_drewN | apply below_drew1) | exact HB.out)⟩⟩
              · rw [if_neg c12] at H
                have c12b0 : decide (1 < t388) = false := decide_eq_false c12
                (try rw [hl5_1] at c12b0)
                clear c12
                have H' := Aside0.mk H
                clear H
                have p387 : 0 ≤ (x13_1 : Int) := of_decide_eq_true (by first | (with_reducible assumption) | assumption)
                have q387 : x13_1 < (x5_1.length : Int) := of_decide_eq_true (by first | (with_reducible assumption) | assumption)
                obtain ⟨ad387, e387, hx387_0, hx387_1, hx387_2, hx387_3, hx387_4⟩ := at_T27 (Kd.R_reads' HO_5.out).2.2 x13_1 p387 q387
                cases e387
                replace p387 := eq_true p387
                replace q387 := eq_true q387
                go_wp2_with (first | ((with_reducible refine gate_callee (f := 31) rfl ?_); refine goesL_ (some 22) rfl rfl Try.func31 (by kernel_rfl) rfl #[.int .u8 ((rd_T27 x5_1 x13_1).f0)] rfl (by (try simp only [List.map_toArray, List.map_cons, List.map_nil]); first | done | rfl | (simp only [List.length_drop, List.length_take]; rfl)) ?_; (with_reducible refine (nodes_Parts.calls k1 ((rd_T27 x5_1 x13_1).f0) t388 t389 _ A9.out).mono ?_); rintro e w' ⟨rfl, ⟨nd, rfl⟩⟩; refine ⟨_, rfl, ?_⟩; (try (rw [drewN_self wr]; generalize hq_ : World.drewN wr _ = wr; have n0_ : Aside0 (Kd.R k27 27 wr w.heap.size (fun _ => True) (.slice (some ad387) x5_1.length co5) x5_1) := ⟨by rw [← hq_]; exact (by exact RL HO_5.out)⟩; have n1_ : Aside0 (Below w.heap.size w wr) := ⟨by rw [← hq_]; exact (by exact belL HB.out)⟩; clear HO_5 HB hq_; have HO_5 := n0_; have HB := n1_; clear n0_ n1_)); have p390 : 0 ≤ (x13_1 : Int) := of_decide_eq_true (by first | (with_reducible assumption) | assumption); have q390 : x13_1 < (x5_1.length : Int) := of_decide_eq_true (by first | (with_reducible assumption) | assumption); obtain ⟨ad390, e390, hx390_0, hx390_1, hx390_2, hx390_3, hx390_4⟩ := at_T27 (Kd.R_reads' HO_5.out).2.2 x13_1 p390 q390; obtain rfl : ad387 = ad390 := (by injection e390); replace p390 := eq_true p390; replace q390 := eq_true q390; have p11 : 0 ≤ (x13_1 : Int) := of_decide_eq_true (by first | (with_reducible assumption) | assumption); have q11 : (x13_1 : Int) < ((x5_1.length : Int) : Int) := of_decide_eq_true (by first | (with_reducible assumption) | assumption); obtain ⟨go11, co11, eo11, gb11, gl11, cl11, HG11⟩ := Kd.R_form HO_5.out (by omega); (first | cases eo11 | (injection eo11 with ea_ en_ ec_; (first | subst ea_ | (injection ea_ with ea_; subst ea_)); subst ec_; clear en_)); have GB11 := Aside0.mk gb11; have GG11 := Aside0.mk HG11; clear gb11 gl11 HG11; (first | simp only [add_plain] at hx387_0 | skip); (first | simp only [add_plain] at hx387_1 | skip); (first | simp only [add_plain] at hx387_2 | skip); (first | simp only [add_plain] at hx387_3 | skip); (first | simp only [add_plain] at hx387_4 | skip); (first | simp only [add_plain] at hx390_0 | skip); (first | simp only [add_plain] at hx390_1 | skip); (first | simp only [add_plain] at hx390_2 | skip); (first | simp only [add_plain] at hx390_3 | skip); (first | simp only [add_plain] at hx390_4 | skip); obtain ⟨ce11, hcl11, hM11, hcc11, hfr11⟩ := Kd.R_elem HO_5.out z27 (x13_1 : Int) p11 q11; obtain rfl := k27_openM hM11; have hx11_0 : wr.cell? ⟨go11, (x13_1 : Int).toNat * 5, none⟩ = some (.int .u8 ((rd_T27 x5_1 x13_1).f0)) := hcc11 0 _ rfl; have hx11_1 : wr.cell? ⟨go11, (x13_1 : Int).toNat * 5 + 1, none⟩ = some (.int .i64 ((rd_T27 x5_1 x13_1).f1)) := hcc11 1 _ rfl; have hx11_2 : wr.cell? ⟨go11, (x13_1 : Int).toNat * 5 + 2, none⟩ = some (.int .i64 ((rd_T27 x5_1 x13_1).f2)) := hcc11 2 _ rfl; have hx11_3 : wr.cell? ⟨go11, (x13_1 : Int).toNat * 5 + 3, none⟩ = some (.int .i64 ((rd_T27 x5_1 x13_1).f3)) := hcc11 3 _ rfl; have hx11_4 : wr.cell? ⟨go11, (x13_1 : Int).toNat * 5 + 4, none⟩ = some (.int .i64 ((rd_T27 x5_1 x13_1).f4)) := hcc11 4 _ rfl; have hf11_0 : wr.frozen? ⟨go11, (x13_1 : Int).toNat * 5, none⟩ = false := hfr11 0; have hf11_1 : wr.frozen? ⟨go11, (x13_1 : Int).toNat * 5 + 1, none⟩ = false := hfr11 1; have hf11_2 : wr.frozen? ⟨go11, (x13_1 : Int).toNat * 5 + 2, none⟩ = false := hfr11 2; have hf11_3 : wr.frozen? ⟨go11, (x13_1 : Int).toNat * 5 + 3, none⟩ = false := hfr11 3; have hf11_4 : wr.frozen? ⟨go11, (x13_1 : Int).toNat * 5 + 4, none⟩ = false := hfr11 4; clear hcl11 hcc11 hfr11 hM11; replace p11 := eq_true p11; replace q11 := eq_true q11; have HX18 := Aside0.mk (show Kd.R k27 27 wr w.heap.size (fun _ => True) (.slice (some ⟨go11, 0, none⟩) x5_1.length co5) x5_1 from (by exact RL HO_5.out)); obtain ⟨ce18, hcl18, hM18, hcc18, hfr18⟩ := Kd.R_elem HX18.out z27 (x13_1 : Int) (of_decide_eq_true (by first | (with_reducible assumption) | assumption)) (by have h_ : (x13_1 : Int) < ((x5_1.length : Int) : Int) := of_decide_eq_true (by first | (with_reducible assumption) | assumption); first | exact h_ | (have e_ := (Kd.R_reads' HO_5.out).1; omega) | simpa using h_); obtain rfl := k27_openM hM18; have HP18 := Kd.R_seg HX18.out (x13_1 : Int) (of_decide_eq_true (by first | (with_reducible assumption) | assumption)) (by have h_ : (x13_1 : Int) < ((x5_1.length : Int) : Int) := of_decide_eq_true (by first | (with_reducible assumption) | assumption); first | exact h_ | (have e_ := (Kd.R_reads' HO_5.out).1; omega) | simpa using h_) (seg := [.int .i64 (wrap64 (((rd_T27 x5_1 x13_1).f2) + a1))]) (j := 2) hcl18 hcc18 (show 3 ≤ 5 from by decide) (x' := (⟨(rd_T27 x5_1 x13_1).f0, (rd_T27 x5_1 x13_1).f1, wrap64 (((rd_T27 x5_1 x13_1).f2) + a1), (rd_T27 x5_1 x13_1).f3, (rd_T27 x5_1 x13_1).f4⟩ : S27)) (k27_mkM _ _ _ (⟨(rd_T27 x5_1 x13_1).f0, (rd_T27 x5_1 x13_1).f1, wrap64 (((rd_T27 x5_1 x13_1).f2) + a1), (rd_T27 x5_1 x13_1).f3, (rd_T27 x5_1 x13_1).f4⟩ : S27) ) (fun _ hk => hk); have hx18_2 := hcc18 2 _ rfl; (try simp only [show (k27).sz = 5 from rfl, Nat.mul_one, Nat.add_zero] at hx18_2); have hf18_2 := hfr18 2; (try simp only [show (k27).sz = 5 from rfl, Nat.mul_one, Nat.add_zero] at hf18_2); clear hcl18 hcc18 hfr18 hM18) | ((with_reducible refine gate_store (t := 3) (p := 35) rfl ?_); refine store_event (t := 3) (p := 35) (v := ?vo_w19) (w1 := (wr.setCell ⟨go11, (x13_1 : Int).toNat * 5 + 2, none⟩ (.int .i64 (wrap64 (((rd_T27 x5_1 x13_1).f2) + a1))))) ?hg ?ho ?hn ?hr ?_; (case ho => rfl); (case hg => rfl); (case hn => rfl); (case hr => first | (go_simp; done) | (go_simp; rfl)); intro w19 hw; have hg : wr.grownBy w19 (some go11) := (by rw [hw]; exact HP18.2); have hp_ : Kd.R k27 27 w19 w.heap.size (fun _ => True) (.slice (some ⟨go11, 0, none⟩) x5_1.length co5) y391 := (by rw [hw, Ny391.out]; exact HP18.1); clear HP18; have n0_ := Aside0.mk (hp_); have n1_ := Aside0.mk ((by rw [hw]; exact below_set (HB.out) GB11.out : Below w.heap.size w w19)); clear HO_5; clear HB; have HO_5 := n0_; have HB := n1_; clear n0_ n1_; clear hg hw hp_))
                (try simp only [← hl5_1])
                go_roundg k1
                case measure => have := HK1.out; omega
                case rel => exact ⟨(y391), (wrap64 (x13_1 + 1)), (by first | rfl | (simp; done) | (simp [*]; done)), H', ⟨by have := HK1.out; omega⟩, ⟨by (try simp only [hl5_1]); (with_reducible repeat (first | apply Kd.R_alloc | apply Kd.R_drewN | apply Kd.R_drew)); exact HO_5.out⟩, ⟨by repeat (first | (with_reducible first | exact HB.out | apply below_alloc | apply pw_below_drewN | apply below_drew1) | exact HB.out)⟩⟩
            · rw [if_neg c10] at H
              have c10b0 : decide (0 < t388) = false := decide_eq_false c10
              (try rw [hl5_1] at c10b0)
              clear c10
              by_cases c20 : t388 > 1
              · rw [if_pos c20] at H
                have c20b0 : decide (1 < t388) = true := decide_eq_true c20
                clear c20
                obtain ⟨y395, hy395⟩ : ∃ y_ : List (S27), y_ = (x5_1.set (x13_1 : Int).toNat (⟨(rd_T27 x5_1 x13_1).f0, (rd_T27 x5_1 x13_1).f1, (rd_T27 x5_1 x13_1).f2, wrap64 (((rd_T27 x5_1 x13_1).f3) + a1), (rd_T27 x5_1 x13_1).f4⟩ : S27)) := ⟨_, rfl⟩
                replace H : (nodes_moved.l0 k1 a1 y395 (t384.length : Int) (wrap64 (x13_1 + 1))) = some r := by first | (rw [hy395]; with_reducible exact H) | (have H2_ := (Option.bind_some _ _).symm.trans H; rw [hy395]; with_reducible exact H2_) | (have H2_ := (Option.bind_some _ _).symm.trans H; with_reducible exact H2_) | with_reducible exact H | (rw [hy395]; exact H) | exact H
                have Ny395 := Aside0.mk hy395
                clear hy395
                have H' := Aside0.mk H
                clear H
                have p387 : 0 ≤ (x13_1 : Int) := of_decide_eq_true (by first | (with_reducible assumption) | assumption)
                have q387 : x13_1 < (x5_1.length : Int) := of_decide_eq_true (by first | (with_reducible assumption) | assumption)
                obtain ⟨ad387, e387, hx387_0, hx387_1, hx387_2, hx387_3, hx387_4⟩ := at_T27 (Kd.R_reads' HO_5.out).2.2 x13_1 p387 q387
                cases e387
                replace p387 := eq_true p387
                replace q387 := eq_true q387
                go_wp2_with (first | ((with_reducible refine gate_callee (f := 31) rfl ?_); refine goesL_ (some 22) rfl rfl Try.func31 (by kernel_rfl) rfl #[.int .u8 ((rd_T27 x5_1 x13_1).f0)] rfl (by (try simp only [List.map_toArray, List.map_cons, List.map_nil]); first | done | rfl | (simp only [List.length_drop, List.length_take]; rfl)) ?_; (with_reducible refine (nodes_Parts.calls k1 ((rd_T27 x5_1 x13_1).f0) t388 t389 _ A9.out).mono ?_); rintro e w' ⟨rfl, ⟨nd, rfl⟩⟩; refine ⟨_, rfl, ?_⟩; (try (rw [drewN_self wr]; generalize hq_ : World.drewN wr _ = wr; have n0_ : Aside0 (Kd.R k27 27 wr w.heap.size (fun _ => True) (.slice (some ad387) x5_1.length co5) x5_1) := ⟨by rw [← hq_]; exact (by exact RL HO_5.out)⟩; have n1_ : Aside0 (Below w.heap.size w wr) := ⟨by rw [← hq_]; exact (by exact belL HB.out)⟩; clear HO_5 HB hq_; have HO_5 := n0_; have HB := n1_; clear n0_ n1_)); have p394 : 0 ≤ (x13_1 : Int) := of_decide_eq_true (by first | (with_reducible assumption) | assumption); have q394 : x13_1 < (x5_1.length : Int) := of_decide_eq_true (by first | (with_reducible assumption) | assumption); obtain ⟨ad394, e394, hx394_0, hx394_1, hx394_2, hx394_3, hx394_4⟩ := at_T27 (Kd.R_reads' HO_5.out).2.2 x13_1 p394 q394; obtain rfl : ad387 = ad394 := (by injection e394); replace p394 := eq_true p394; replace q394 := eq_true q394; have p21 : 0 ≤ (x13_1 : Int) := of_decide_eq_true (by first | (with_reducible assumption) | assumption); have q21 : (x13_1 : Int) < ((x5_1.length : Int) : Int) := of_decide_eq_true (by first | (with_reducible assumption) | assumption); obtain ⟨go21, co21, eo21, gb21, gl21, cl21, HG21⟩ := Kd.R_form HO_5.out (by omega); (first | cases eo21 | (injection eo21 with ea_ en_ ec_; (first | subst ea_ | (injection ea_ with ea_; subst ea_)); subst ec_; clear en_)); have GB21 := Aside0.mk gb21; have GG21 := Aside0.mk HG21; clear gb21 gl21 HG21; (first | simp only [add_plain] at hx387_0 | skip); (first | simp only [add_plain] at hx387_1 | skip); (first | simp only [add_plain] at hx387_2 | skip); (first | simp only [add_plain] at hx387_3 | skip); (first | simp only [add_plain] at hx387_4 | skip); (first | simp only [add_plain] at hx394_0 | skip); (first | simp only [add_plain] at hx394_1 | skip); (first | simp only [add_plain] at hx394_2 | skip); (first | simp only [add_plain] at hx394_3 | skip); (first | simp only [add_plain] at hx394_4 | skip); obtain ⟨ce21, hcl21, hM21, hcc21, hfr21⟩ := Kd.R_elem HO_5.out z27 (x13_1 : Int) p21 q21; obtain rfl := k27_openM hM21; have hx21_0 : wr.cell? ⟨go21, (x13_1 : Int).toNat * 5, none⟩ = some (.int .u8 ((rd_T27 x5_1 x13_1).f0)) := hcc21 0 _ rfl; have hx21_1 : wr.cell? ⟨go21, (x13_1 : Int).toNat * 5 + 1, none⟩ = some (.int .i64 ((rd_T27 x5_1 x13_1).f1)) := hcc21 1 _ rfl; have hx21_2 : wr.cell? ⟨go21, (x13_1 : Int).toNat * 5 + 2, none⟩ = some (.int .i64 ((rd_T27 x5_1 x13_1).f2)) := hcc21 2 _ rfl; have hx21_3 : wr.cell? ⟨go21, (x13_1 : Int).toNat * 5 + 3, none⟩ = some (.int .i64 ((rd_T27 x5_1 x13_1).f3)) := hcc21 3 _ rfl; have hx21_4 : wr.cell? ⟨go21, (x13_1 : Int).toNat * 5 + 4, none⟩ = some (.int .i64 ((rd_T27 x5_1 x13_1).f4)) := hcc21 4 _ rfl; have hf21_0 : wr.frozen? ⟨go21, (x13_1 : Int).toNat * 5, none⟩ = false := hfr21 0; have hf21_1 : wr.frozen? ⟨go21, (x13_1 : Int).toNat * 5 + 1, none⟩ = false := hfr21 1; have hf21_2 : wr.frozen? ⟨go21, (x13_1 : Int).toNat * 5 + 2, none⟩ = false := hfr21 2; have hf21_3 : wr.frozen? ⟨go21, (x13_1 : Int).toNat * 5 + 3, none⟩ = false := hfr21 3; have hf21_4 : wr.frozen? ⟨go21, (x13_1 : Int).toNat * 5 + 4, none⟩ = false := hfr21 4; clear hcl21 hcc21 hfr21 hM21; replace p21 := eq_true p21; replace q21 := eq_true q21; have HX22 := Aside0.mk (show Kd.R k27 27 wr w.heap.size (fun _ => True) (.slice (some ⟨go21, 0, none⟩) x5_1.length co5) x5_1 from (by exact RL HO_5.out)); obtain ⟨ce22, hcl22, hM22, hcc22, hfr22⟩ := Kd.R_elem HX22.out z27 (x13_1 : Int) (of_decide_eq_true (by first | (with_reducible assumption) | assumption)) (by have h_ : (x13_1 : Int) < ((x5_1.length : Int) : Int) := of_decide_eq_true (by first | (with_reducible assumption) | assumption); first | exact h_ | (have e_ := (Kd.R_reads' HO_5.out).1; omega) | simpa using h_); obtain rfl := k27_openM hM22; have HP22 := Kd.R_seg HX22.out (x13_1 : Int) (of_decide_eq_true (by first | (with_reducible assumption) | assumption)) (by have h_ : (x13_1 : Int) < ((x5_1.length : Int) : Int) := of_decide_eq_true (by first | (with_reducible assumption) | assumption); first | exact h_ | (have e_ := (Kd.R_reads' HO_5.out).1; omega) | simpa using h_) (seg := [.int .i64 (wrap64 (((rd_T27 x5_1 x13_1).f3) + a1))]) (j := 3) hcl22 hcc22 (show 4 ≤ 5 from by decide) (x' := (⟨(rd_T27 x5_1 x13_1).f0, (rd_T27 x5_1 x13_1).f1, (rd_T27 x5_1 x13_1).f2, wrap64 (((rd_T27 x5_1 x13_1).f3) + a1), (rd_T27 x5_1 x13_1).f4⟩ : S27)) (k27_mkM _ _ _ (⟨(rd_T27 x5_1 x13_1).f0, (rd_T27 x5_1 x13_1).f1, (rd_T27 x5_1 x13_1).f2, wrap64 (((rd_T27 x5_1 x13_1).f3) + a1), (rd_T27 x5_1 x13_1).f4⟩ : S27) ) (fun _ hk => hk); have hx22_3 := hcc22 3 _ rfl; (try simp only [show (k27).sz = 5 from rfl, Nat.mul_one, Nat.add_zero] at hx22_3); have hf22_3 := hfr22 3; (try simp only [show (k27).sz = 5 from rfl, Nat.mul_one, Nat.add_zero] at hf22_3); clear hcl22 hcc22 hfr22 hM22) | ((with_reducible refine gate_store (t := 3) (p := 46) rfl ?_); refine store_event (t := 3) (p := 46) (v := ?vo_w23) (w1 := (wr.setCell ⟨go21, (x13_1 : Int).toNat * 5 + 3, none⟩ (.int .i64 (wrap64 (((rd_T27 x5_1 x13_1).f3) + a1))))) ?hg ?ho ?hn ?hr ?_; (case ho => rfl); (case hg => rfl); (case hn => rfl); (case hr => first | (go_simp; done) | (go_simp; rfl)); intro w23 hw; have hg : wr.grownBy w23 (some go21) := (by rw [hw]; exact HP22.2); have hp_ : Kd.R k27 27 w23 w.heap.size (fun _ => True) (.slice (some ⟨go21, 0, none⟩) x5_1.length co5) y395 := (by rw [hw, Ny395.out]; exact HP22.1); clear HP22; have n0_ := Aside0.mk (hp_); have n1_ := Aside0.mk ((by rw [hw]; exact below_set (HB.out) GB21.out : Below w.heap.size w w23)); clear HO_5; clear HB; have HO_5 := n0_; have HB := n1_; clear n0_ n1_; clear hg hw hp_))
                (try simp only [← hl5_1])
                go_roundg k1
                case measure => have := HK1.out; omega
                case rel => exact ⟨(y395), (wrap64 (x13_1 + 1)), (by first | rfl | (simp; done) | (simp [*]; done)), H', ⟨by have := HK1.out; omega⟩, ⟨by (try simp only [hl5_1]); (with_reducible repeat (first | apply Kd.R_alloc | apply Kd.R_drewN | apply Kd.R_drew)); exact HO_5.out⟩, ⟨by repeat (first | (with_reducible first | exact HB.out | apply below_alloc | apply pw_below_drewN | apply below_drew1) | exact HB.out)⟩⟩
              · rw [if_neg c20] at H
                have c20b0 : decide (1 < t388) = false := decide_eq_false c20
                (try rw [hl5_1] at c20b0)
                clear c20
                have H' := Aside0.mk H
                clear H
                have p387 : 0 ≤ (x13_1 : Int) := of_decide_eq_true (by first | (with_reducible assumption) | assumption)
                have q387 : x13_1 < (x5_1.length : Int) := of_decide_eq_true (by first | (with_reducible assumption) | assumption)
                obtain ⟨ad387, e387, hx387_0, hx387_1, hx387_2, hx387_3, hx387_4⟩ := at_T27 (Kd.R_reads' HO_5.out).2.2 x13_1 p387 q387
                cases e387
                replace p387 := eq_true p387
                replace q387 := eq_true q387
                go_wp2_with (first | ((with_reducible refine gate_callee (f := 31) rfl ?_); refine goesL_ (some 22) rfl rfl Try.func31 (by kernel_rfl) rfl #[.int .u8 ((rd_T27 x5_1 x13_1).f0)] rfl (by (try simp only [List.map_toArray, List.map_cons, List.map_nil]); first | done | rfl | (simp only [List.length_drop, List.length_take]; rfl)) ?_; (with_reducible refine (nodes_Parts.calls k1 ((rd_T27 x5_1 x13_1).f0) t388 t389 _ A9.out).mono ?_); rintro e w' ⟨rfl, ⟨nd, rfl⟩⟩; refine ⟨_, rfl, ?_⟩))
                (try simp only [← hl5_1])
                go_roundg k1
                case measure => have := HK1.out; omega
                case rel => exact ⟨(x5_1), (wrap64 (x13_1 + 1)), (by first | rfl | (simp; done) | (simp [*]; done)), H', ⟨by have := HK1.out; omega⟩, ⟨by (try simp only [hl5_1]); (with_reducible repeat (first | apply Kd.R_alloc | apply Kd.R_drewN | apply Kd.R_drew)); exact HO_5.out⟩, ⟨by repeat (first | (with_reducible first | exact HB.out | apply below_alloc | apply pw_below_drewN | apply below_drew1) | exact HB.out)⟩⟩
          · rw [if_neg c8] at H
            exact absurd H (by simp)
        · rw [if_neg c7] at H
          exact absurd H (by simp)
      · rw [if_neg c6] at H
        have c6b0 : decide (x13_1 < (t384.length : Int)) = false := decide_eq_false c6
        (try rw [hl5_1] at c6b0)
        clear c6
        obtain rfl := Option.some.inj H
        go_wp2
        go_ret
        exact ⟨_, by first | rfl | (simp [errW_none, errW_some] <;> rfl) | (simp [*, errW_none, errW_some] <;> rfl), by (with_reducible repeat (first | apply Kd.R_alloc | apply Kd.R_drewN | apply Kd.R_drew)); exact HO_5.out, by repeat (first | (with_reducible first | exact HB.out | apply below_alloc | apply pw_below_drewN | apply below_drew1) | exact HB.out)⟩

/-! ### nodes_Part: function 30 -/
def nodes_Part.f (k : Nat) (l0 : List (S27)) (a1 : Int) : Option ((List (S27)) × Int) := (nodes_Size.f l0 a1).bind fun bt396 => (if bt396.2 = 0 then (if 0 ≤ (wrap64 ((wrap64 (a1 + 1)) - bt396.1)) then (if (wrap64 ((wrap64 (a1 + 1)) - bt396.1)) ≤ (wrap64 (a1 + 1)) then (if (wrap64 (a1 + 1)) ≤ (l0.length : Int) then ((nodes_moved.f k ((l0.take ((wrap64 (a1 + 1)) : Int).toNat).drop ((wrap64 ((wrap64 (a1 + 1)) - bt396.1)) : Int).toNat) (wrap64 (-(wrap64 ((wrap64 (a1 + 1)) - bt396.1))))).bind fun t402 => (some (t402, 0))) else (none)) else (none)) else (none)) else (some (([] : List (S27)), bt396.2)))
theorem nodes_Part.mono : ∀ a0 a1 k, LeO (nodes_Part.f k a0 a1) (nodes_Part.f (k + 1) a0 a1) := by
  intro a0 a1 k
  unfold nodes_Part.f
  repeat' first
      | (with_reducible exact nodes_moved.mono _ _ _)
      | (with_reducible exact LeO.refl _)
      | (with_reducible exact LeO.none _)
      | (with_reducible refine LeO.ite ?_ ?_)
      | (with_reducible refine LeO.bind ?_ (fun _ => ?_))
      | exact nodes_moved.mono _ _ _
      | exact LeO.none _
      | refine LeO.ite ?_ ?_
      | refine LeO.bind ?_ (fun _ => ?_)
set_option maxHeartbeats 8000000 in
set_option maxRecDepth 100000 in
theorem nodes_Part.calls (k : Nat) (A0 : Option Addr) (c0 : Nat) (l0 : List (S27)) (a1 : Int) (r1 : List (S27)) (r2 : Int) (w : World) (hr0 : Kd.C k27 w A0 l0.length l0) (hc0 : l0.length ≤ c0) (h : nodes_Part.f k l0 a1 = some (r1, r2)) :
    Calls Try.prog 30 #[.slice A0 l0.length c0, .int .i64 a1] w fun e w' => ∃ v0_ : Value, e = .returned (.tuple #[v0_, .int .i64 r2]) ∧ Kd.R k27 27 w' w.heap.size (fun _ => True) v0_ r1 ∧ Below w.heap.size w w' := by
  have HR0 := Aside0.mk hr0
  have HC0 := Aside0.mk hc0
  clear hr0 hc0
  have HB := Aside0.mk (Below.refl w.heap.size w)
  have H : ((nodes_Size.f l0 a1).bind fun bt396 => (if bt396.2 = 0 then (if 0 ≤ (wrap64 ((wrap64 (a1 + 1)) - bt396.1)) then (if (wrap64 ((wrap64 (a1 + 1)) - bt396.1)) ≤ (wrap64 (a1 + 1)) then (if (wrap64 (a1 + 1)) ≤ (l0.length : Int) then ((nodes_moved.f k ((l0.take ((wrap64 (a1 + 1)) : Int).toNat).drop ((wrap64 ((wrap64 (a1 + 1)) - bt396.1)) : Int).toNat) (wrap64 (-(wrap64 ((wrap64 (a1 + 1)) - bt396.1))))).bind fun t402 => (some (t402, 0))) else (none)) else (none)) else (none)) else (some (([] : List (S27)), bt396.2)))) = some (r1, r2) := h
  clear h
  replace H := Option.bind_eq_some_iff.mp H
  obtain ⟨⟨t396, t397⟩, A30, H⟩ := H
  replace H : (if t397 = 0 then (if 0 ≤ (wrap64 ((wrap64 (a1 + 1)) - t396)) then (if (wrap64 ((wrap64 (a1 + 1)) - t396)) ≤ (wrap64 (a1 + 1)) then (if (wrap64 (a1 + 1)) ≤ (l0.length : Int) then ((nodes_moved.f k ((l0.take ((wrap64 (a1 + 1)) : Int).toNat).drop ((wrap64 ((wrap64 (a1 + 1)) - t396)) : Int).toNat) (wrap64 (-(wrap64 ((wrap64 (a1 + 1)) - t396))))).bind fun t402 => (some (t402, 0))) else (none)) else (none)) else (none)) else (some (([] : List (S27)), t397))) = some (r1, r2) := H
  have A3 := Aside0.mk A30
  clear A30
  by_cases c4 : t397 = 0
  · rw [if_pos c4] at H
    have c4b0 : (t397 == 0) = true := beq_iff_eq.mpr c4
    have c4b1 : (t397 != 0) = false := bne_eq_false_iff_eq.mpr c4
    clear c4
    obtain ⟨ji5, hji5⟩ : ∃ j_ : Int, (wrap64 ((wrap64 (a1 + 1)) - t396)) = j_ := ⟨_, rfl⟩
    replace H : (if 0 ≤ (ji5) then (if (ji5) ≤ (wrap64 (a1 + 1)) then (if (wrap64 (a1 + 1)) ≤ (l0.length : Int) then ((nodes_moved.f k ((l0.take ((wrap64 (a1 + 1)) : Int).toNat).drop ((ji5) : Int).toNat) (wrap64 (-(ji5)))).bind fun t402 => (some (t402, 0))) else (none)) else (none)) else (none)) = some (r1, r2) := by first | (rw [hji5] at H; exact H) | (simp only [hji5] at H ⊢; exact H)
    (try rw [hji5] at A3)
    have hji5w : (IntKind.i64.wrap ((wrap64 (a1 + 1)) - t396)) = ji5 := (i64_w _).trans hji5
    by_cases c6 : 0 ≤ (ji5)
    · rw [if_pos c6] at H
      have c6b0 := eq_true c6
      have c6b1 : decide (0 ≤ (ji5)) = true := decide_eq_true c6
      clear c6
      by_cases c7 : (ji5) ≤ (wrap64 (a1 + 1))
      · rw [if_pos c7] at H
        have c7b0 := eq_true c7
        have c7b1 : decide ((ji5) ≤ (wrap64 (a1 + 1))) = true := decide_eq_true c7
        by_cases c8 : (wrap64 (a1 + 1)) ≤ (l0.length : Int)
        · rw [if_pos c8] at H
          have c8b0 := eq_true c8
          have c8b1 : decide ((wrap64 (a1 + 1)) ≤ (l0.length : Int)) = true := decide_eq_true c8
          obtain ⟨y398, hy398⟩ : ∃ y_ : List (S27), y_ = ((l0.take ((wrap64 (a1 + 1)) : Int).toNat).drop ((ji5) : Int).toNat) := ⟨_, rfl⟩
          replace H : ((nodes_moved.f k y398 (wrap64 (-(ji5)))).bind fun t402 => (some (t402, 0))) = some (r1, r2) := by first | (rw [hy398]; with_reducible exact H) | (have H2_ := (Option.bind_some _ _).symm.trans H; rw [hy398]; with_reducible exact H2_) | (have H2_ := (Option.bind_some _ _).symm.trans H; with_reducible exact H2_) | with_reducible exact H | (rw [hy398]; exact H) | exact H
          have Ny398 := Aside0.mk hy398
          clear hy398
          replace H := Option.bind_eq_some_iff.mp H
          obtain ⟨t402, A90, H⟩ := H
          replace H : (some (t402, 0)) = some (r1, r2) := H
          have A9 := Aside0.mk A90
          clear A90
          simp only [Option.some.injEq, Prod.mk.injEq] at H
          obtain ⟨rfl, rfl⟩ := H
          go_enter Try.func30, Try.ntmps30
          go_wp2_with (first | ((with_reducible refine gate_callee (f := 52) rfl ?_); refine goesL_ (some 12) rfl rfl Try.func52 (by kernel_rfl) rfl #[.slice A0 l0.length c0, .int .i64 a1] rfl (by (try simp only [List.map_toArray, List.map_cons, List.map_nil]); first | done | rfl | (simp only [List.length_drop, List.length_take]; rfl)) ?_; (with_reducible refine (nodes_Size.calls _ _ l0 a1 t396 t397 _ ?side1 ?side2 A3.out).mono ?_); (case side1 => repeat (first | exact HR0.out | (with_reducible refine Kd.C_alloc ?_ _) | (with_reducible refine Kd.C_drewN ?_ _) | (with_reducible refine Kd.C_drew ?_))); (case side2 => exact HC0.out); rintro e w10 ⟨rfl, hb⟩; refine ⟨_, rfl, ?_⟩; have n0_ := Aside0.mk (below_step (by exact belL HB.out) hb); clear HB; have HB := n0_; clear n0_; (try clear hb); (try clear hb2); (try clear hk); (try clear hi); have q11 : ((wrap64 (a1 + 1)) : Int) ≤ ((l0.length : Int) : Int) := of_decide_eq_true (by first | (with_reducible assumption) | assumption); obtain ⟨i011, hi011, _, hsz11, _⟩ := info_parts info27; have hroom11 : l0.length ≤ c0 := HC0.out; have hC11 : Kd.C k27 _ A0 l0.length l0 := HR0.out; have ql11 : ((ji5) : Int) ≤ ((wrap64 (a1 + 1)) : Int) := of_decide_eq_true (by first | (with_reducible assumption) | assumption); have q011 : (0 : Int) ≤ ((ji5) : Int) := of_decide_eq_true (by first | (with_reducible assumption) | assumption); have hcut11 := cut_mid (P := Try.prog) 22 27 .i64 .i64 Try.underlying22 hi011 5 hsz11 A0 l0.length c0 (ji5) (wrap64 (a1 + 1)) q011 ql11 q11 hroom11; have hr11 := Kd.C_mid (lo := ((ji5) : Int).toNat) (hi := ((wrap64 (a1 + 1)) : Int).toNat) (c := c0) hC11 (by omega) (by omega) hroom11; obtain ⟨A11, hA11⟩ : ∃ A1, A1 = (if c0 = ((ji5) : Int).toNat then A0 else (A0 : Option Addr).map (·.add (((ji5) : Int).toNat * 5))) := ⟨_, rfl⟩; obtain ⟨c11, hc11⟩ : ∃ c1, c1 = c0 - ((ji5) : Int).toNat := ⟨_, rfl⟩; have hy11 : y398.length = ((wrap64 (a1 + 1)) : Int).toNat - ((ji5) : Int).toNat := (by rw [Ny398.out, List.length_drop, List.length_take] <;> omega); rw [show ((l0).take ((wrap64 (a1 + 1)) : Int).toNat).drop ((ji5) : Int).toNat = y398 from Ny398.out.symm] at hr11; replace hr11 : Kd.C k27 _ A11 y398.length y398 := (by rw [hA11]; exact hr11); rw [← hy11, ← hA11, ← hc11] at hcut11; have HR401 := Aside0.mk hr11; have HC401 := Aside0.mk (show y398.length ≤ c11 from by rw [hy11, hc11]; exact Nat.sub_le_sub_right (Nat.le_trans (by omega) hroom11) _); clear hr11 hC11 hroom11 hi011 hsz11 hc11; have KY11 := Aside0.mk hy11; have KA11 := Aside0.mk hA11; clear hy11 hA11; replace q11 := eq_true q11) | ((with_reducible refine gate_callee (f := 53) rfl ?_); refine goesL_ (some 29) rfl rfl Try.func53 (by kernel_rfl) rfl #[.slice A11 y398.length c11, .int .i64 (wrap64 (-(ji5)))] rfl (by (try simp only [List.map_toArray, List.map_cons, List.map_nil]); first | done | (simp only [hji5]; rfl) | rfl | (simp only [List.length_drop, List.length_take]; rfl)) ?_; (with_reducible refine (nodes_moved.calls k _ _ y398 (wrap64 (-(ji5))) t402 _ ?side1 ?side2 A9.out).mono ?_); (case side1 => repeat (first | exact (Kd.C_below HR401.out HB.out) | (with_reducible refine Kd.C_alloc ?_ _) | (with_reducible refine Kd.C_drewN ?_ _) | (with_reducible refine Kd.C_drew ?_))); (case side2 => exact HC401.out); rintro e w12 ⟨v403, rfl, ho0, hb⟩; refine ⟨_, rfl, ?_⟩; have n0_ := Aside0.mk (Kd.R_lower ho0 (below_size (by exact belL HB.out))); have n1_ := Aside0.mk (below_step (by exact belL HB.out) hb); clear HB; have HO404 := n0_; have HB := n1_; clear n0_ n1_; (try clear hb); (try clear hb2); (try clear hk); (try clear hi); (try clear ho0)))
          go_ret2
          exact ⟨_, by first | rfl | (simp [errW_none, errW_some] <;> rfl) | (simp only [← hji5]; first | rfl | (simp [errW_none, errW_some] <;> rfl)) | (simp [*, errW_none, errW_some] <;> rfl), by (with_reducible repeat (first | apply Kd.R_alloc | apply Kd.R_drewN | apply Kd.R_drew)); exact HO404.out, by repeat (first | (with_reducible first | exact HB.out | apply below_alloc | apply pw_below_drewN | apply below_drew1) | exact HB.out)⟩
        · rw [if_neg c8] at H
          exact absurd H (by simp)
      · rw [if_neg c7] at H
        exact absurd H (by simp)
    · rw [if_neg c6] at H
      exact absurd H (by simp)
  · rw [if_neg c4] at H
    have c4b0 : (t397 == 0) = false := beq_eq_false_iff_ne.mpr c4
    have c4b1 : (t397 != 0) = true := bne_iff_ne.mpr c4
    simp only [Option.some.injEq, Prod.mk.injEq] at H
    obtain ⟨rfl, rfl⟩ := H
    go_enter Try.func30, Try.ntmps30
    go_wp2_with (first | ((with_reducible refine gate_callee (f := 52) rfl ?_); refine goesL_ (some 12) rfl rfl Try.func52 (by kernel_rfl) rfl #[.slice A0 l0.length c0, .int .i64 a1] rfl (by (try simp only [List.map_toArray, List.map_cons, List.map_nil]); first | done | rfl | (simp only [List.length_drop, List.length_take]; rfl)) ?_; (with_reducible refine (nodes_Size.calls _ _ l0 a1 t396 t397 _ ?side1 ?side2 A3.out).mono ?_); (case side1 => repeat (first | exact HR0.out | (with_reducible refine Kd.C_alloc ?_ _) | (with_reducible refine Kd.C_drewN ?_ _) | (with_reducible refine Kd.C_drew ?_))); (case side2 => exact HC0.out); rintro e w13 ⟨rfl, hb⟩; refine ⟨_, rfl, ?_⟩; have n0_ := Aside0.mk (below_step (by exact belL HB.out) hb); clear HB; have HB := n0_; clear n0_; (try clear hb); (try clear hb2); (try clear hk); (try clear hi)))
    go_ret2
    exact ⟨_, by first | rfl | (simp [errW_none, errW_some] <;> rfl) | (simp [*, errW_none, errW_some] <;> rfl), by first | exact Kd.R_nil _ _ _ _ _ | exact Kd.N_nil _ _ _ _ _ | exact Kd.V_nil _ _ _ _ _ | exact Kd.Q_nil _ _ _ _ _ | exact Kd.S_nil _ _ _ _ _, by repeat (first | (with_reducible first | exact HB.out | apply below_alloc | apply pw_below_drewN | apply below_drew1) | exact HB.out)⟩

end Go.Proofs.Ytijdckamblaflaa.M
