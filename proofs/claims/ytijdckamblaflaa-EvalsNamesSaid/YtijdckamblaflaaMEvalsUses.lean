-- PRINTED by print.py (a twelfth state) out of the translation. Not trusted: Lean checks it.
import Derived.Test.YtijdckamblaflaaMTypes
import Derived.Test.YtijdckamblaflaaMEvalsCheck
namespace Go.Proofs.Ytijdckamblaflaa.M
open Go.RowKit Go.Proofs.YtijdckamblaflaaW.PrintWords Go.Proofs.YtijdckamblaflaaW.PrintLast Go.Proofs.YtijdckamblaflaaW.PrintMore
attribute [local go_sem] max2_int min2_int max_two min_two max_three min_three max_four min_four   -- for this text's walks alone
set_option linter.unusedVariables false
set_option linter.unusedSimpArgs false

/-! ### evals_Uses: function 36 -/
def evals_Uses.l0 : Nat → Bool → Bool → Bool → List (S27) → Int → Int → Option (Bool × Bool × Bool × Int)
  | 0, _, _, _, _, _, _ => none
  | k + 1, x2, x3, x4, x14, x15, x16 => if x16 < x15 then (if 0 ≤ x16 then (if x16 < (x14.length : Int) then (if x2 = true then (if x3 = true then (if x4 = true then (evals_Uses.l0 k true true true x14 x15 (wrap64 (x16 + 1))) else (evals_Uses.l0 k true true (((rd_T27 x14 x16).f0) == 4) x14 x15 (wrap64 (x16 + 1)))) else (if x4 = true then (evals_Uses.l0 k true (((rd_T27 x14 x16).f0) == 3) true x14 x15 (wrap64 (x16 + 1))) else (evals_Uses.l0 k true (((rd_T27 x14 x16).f0) == 3) (((rd_T27 x14 x16).f0) == 4) x14 x15 (wrap64 (x16 + 1))))) else (if x3 = true then (if x4 = true then (evals_Uses.l0 k (((rd_T27 x14 x16).f0) == 2) true true x14 x15 (wrap64 (x16 + 1))) else (evals_Uses.l0 k (((rd_T27 x14 x16).f0) == 2) true (((rd_T27 x14 x16).f0) == 4) x14 x15 (wrap64 (x16 + 1)))) else (if x4 = true then (evals_Uses.l0 k (((rd_T27 x14 x16).f0) == 2) (((rd_T27 x14 x16).f0) == 3) true x14 x15 (wrap64 (x16 + 1))) else (evals_Uses.l0 k (((rd_T27 x14 x16).f0) == 2) (((rd_T27 x14 x16).f0) == 3) (((rd_T27 x14 x16).f0) == 4) x14 x15 (wrap64 (x16 + 1)))))) else (none)) else (none)) else (some (x2, x3, x4, 0))
def evals_Uses.f (k : Nat) (l0 : List (S27)) : Option (Bool × Bool × Bool × Int) := (evals_check.f l0).bind fun t577 => (if t577 = 0 then (evals_Uses.l0 k false false false l0 (l0.length : Int) 0) else (some (false, false, false, t577)))
theorem evals_Uses.mono_l : ∀ k, (∀ y0 y1 y2 y3 y4 y5, LeO (evals_Uses.l0 k y0 y1 y2 y3 y4 y5) (evals_Uses.l0 (k + 1) y0 y1 y2 y3 y4 y5))
  | 0 => fun _ _ _ _ _ _ r h => by simp [evals_Uses.l0] at h
  | k + 1 => by
    have ih0 := evals_Uses.mono_l k
    · intro y0 y1 y2 y3 y4 y5
      unfold evals_Uses.l0
      repeat' first
      | (with_reducible exact ih0 _ _ _ _ _ _)
      | (with_reducible exact LeO.refl _)
      | (with_reducible exact LeO.none _)
      | (with_reducible refine LeO.ite ?_ ?_)
      | (with_reducible refine LeO.bind ?_ (fun _ => ?_))
      | exact ih0 _ _ _ _ _ _
      | exact LeO.none _
      | refine LeO.ite ?_ ?_
      | refine LeO.bind ?_ (fun _ => ?_)
theorem evals_Uses.mono : ∀ a0 k, LeO (evals_Uses.f k a0) (evals_Uses.f (k + 1) a0) := by
  intro a0 k
  have ih0 := evals_Uses.mono_l k
  unfold evals_Uses.f
  repeat' first
      | (with_reducible exact ih0 _ _ _ _ _ _)
      | (with_reducible exact LeO.refl _)
      | (with_reducible exact LeO.none _)
      | (with_reducible refine LeO.ite ?_ ?_)
      | (with_reducible refine LeO.bind ?_ (fun _ => ?_))
      | exact ih0 _ _ _ _ _ _
      | exact LeO.none _
      | refine LeO.ite ?_ ?_
      | refine LeO.bind ?_ (fun _ => ?_)
set_option maxHeartbeats 8000000 in
set_option maxRecDepth 100000 in
theorem evals_Uses.calls (k : Nat) (A0 : Option Addr) (c0 : Nat) (l0 : List (S27)) (r1 : Bool) (r2 : Bool) (r3 : Bool) (r4 : Int) (w : World) (hr0 : Kd.C k27 w A0 l0.length l0) (hc0 : l0.length ≤ c0) (h : evals_Uses.f k l0 = some (r1, r2, r3, r4)) :
    Calls Try.prog 36 #[.slice A0 l0.length c0] w fun e w' => e = .returned (.tuple #[.bool r1, .bool r2, .bool r3, .int .i64 r4]) ∧ Below w.heap.size w w' := by
  have hu27 := Try.underlying27
  have HR0 := Aside0.mk hr0
  have HC0 := Aside0.mk hc0
  clear hr0 hc0
  have HB := Aside0.mk (Below.refl w.heap.size w)
  have H : ((evals_check.f l0).bind fun t577 => (if t577 = 0 then (evals_Uses.l0 k false false false l0 (l0.length : Int) 0) else (some (false, false, false, t577)))) = some (r1, r2, r3, r4) := h
  clear h
  replace H := Option.bind_eq_some_iff.mp H
  obtain ⟨t577, A20, H⟩ := H
  replace H : (if t577 = 0 then (evals_Uses.l0 k false false false l0 (l0.length : Int) 0) else (some (false, false, false, t577))) = some (r1, r2, r3, r4) := H
  have A2 := Aside0.mk A20
  clear A20
  by_cases c3 : t577 = 0
  · rw [if_pos c3] at H
    have c3b0 : (t577 == 0) = true := beq_iff_eq.mpr c3
    have c3b1 : (t577 != 0) = false := bne_eq_false_iff_eq.mpr c3
    clear c3
    have H' := Aside0.mk H
    clear H
    go_enter Try.func36, Try.ntmps36
    go_wp2_with (first | ((with_reducible refine gate_callee (f := 54) rfl ?_); refine goesL_ (some 10) rfl rfl Try.func54 (by kernel_rfl) rfl #[.slice A0 l0.length c0] rfl (by (try simp only [List.map_toArray, List.map_cons, List.map_nil]); first | done | rfl | (simp only [List.length_drop, List.length_take]; rfl)) ?_; (with_reducible refine (evals_check.calls _ _ l0 t577 _ ?side1 ?side2 A2.out).mono ?_); (case side1 => repeat (first | exact HR0.out | (with_reducible refine Kd.C_alloc ?_ _) | (with_reducible refine Kd.C_drewN ?_ _) | (with_reducible refine Kd.C_drew ?_))); (case side2 => exact HC0.out); rintro e w4 ⟨rfl, hb⟩; refine ⟨_, rfl, ?_⟩; have n0_ := Aside0.mk (below_step (by repeat (first | (with_reducible first | exact HB.out | apply below_alloc | apply pw_below_drewN | apply below_drew1) | exact HB.out)) hb); clear HB; have HB := n0_; clear n0_; (try clear hb); (try clear hb2); (try clear hk); (try clear hi)))
    go_loopg [2, 3, 4, 16] k (fun kq v2 v3 v4 v16 w' => ∃ (x2_1 : Bool) (x3_1 : Bool) (x4_1 : Bool) (x16_1 : Int), v2 = .bool x2_1 ∧ v3 = .bool x3_1 ∧ v4 = .bool x4_1 ∧ v16 = .int .i64 x16_1 ∧ Aside0 (evals_Uses.l0 kq x2_1 x3_1 x4_1 l0 (l0.length : Int) x16_1 = some (r1, r2, r3, r4)) ∧ Aside0 (kq ≤ k) ∧ Aside0 (Below w.heap.size w w'))
    case atStart => exact ⟨(false), (false), (false), (0), (by first | rfl | (simp; done) | (simp [*]; done)), (by first | rfl | (simp; done) | (simp [*]; done)), (by first | rfl | (simp; done) | (simp [*]; done)), (by first | rfl | (simp; done) | (simp [*]; done)), H', ⟨Nat.le_refl _⟩, ⟨by repeat (first | (with_reducible first | exact HB.out | apply below_alloc | apply pw_below_drewN | apply below_drew1) | exact HB.out)⟩⟩
    case round =>
      clear H'
      try clear p2
      try clear c3
      try clear c3b0
      try clear c3b1
      obtain ⟨x2_1, x3_1, x4_1, x16_1, rfl, rfl, rfl, rfl, HA, HK1, HB⟩ := hrel
      cases gk with
      | zero => exact absurd HA.out (by simp [evals_Uses.l0])
      | succ k1 =>
        have H := HA.out
        clear HA
        simp only [evals_Uses.l0] at H
        by_cases c5 : x16_1 < (l0.length : Int)
        · rw [if_pos c5] at H
          have c5b0 : decide (x16_1 < (l0.length : Int)) = true := decide_eq_true c5
          clear c5
          by_cases c6 : 0 ≤ x16_1
          · rw [if_pos c6] at H
            have c6b0 : decide (0 ≤ x16_1) = true := decide_eq_true c6
            clear c6
            by_cases c7 : x16_1 < (l0.length : Int)
            · rw [if_pos c7] at H
              have c7b0 : decide (x16_1 < (l0.length : Int)) = true := decide_eq_true c7
              clear c7
              by_cases c8 : x2_1 = true
              · subst c8
                have H1 : (if x3_1 = true then (if x4_1 = true then (evals_Uses.l0 k1 true true true l0 (l0.length : Int) (wrap64 (x16_1 + 1))) else (evals_Uses.l0 k1 true true (((rd_T27 l0 x16_1).f0) == 4) l0 (l0.length : Int) (wrap64 (x16_1 + 1)))) else (if x4_1 = true then (evals_Uses.l0 k1 true (((rd_T27 l0 x16_1).f0) == 3) true l0 (l0.length : Int) (wrap64 (x16_1 + 1))) else (evals_Uses.l0 k1 true (((rd_T27 l0 x16_1).f0) == 3) (((rd_T27 l0 x16_1).f0) == 4) l0 (l0.length : Int) (wrap64 (x16_1 + 1))))) = some (r1, r2, r3, r4) := by rw [if_pos rfl] at H; exact H
                clear H
                have H := H1
                clear H1
                by_cases c9 : x3_1 = true
                · subst c9
                  have H1 : (if x4_1 = true then (evals_Uses.l0 k1 true true true l0 (l0.length : Int) (wrap64 (x16_1 + 1))) else (evals_Uses.l0 k1 true true (((rd_T27 l0 x16_1).f0) == 4) l0 (l0.length : Int) (wrap64 (x16_1 + 1)))) = some (r1, r2, r3, r4) := by rw [if_pos rfl] at H; exact H
                  clear H
                  have H := H1
                  clear H1
                  by_cases c10 : x4_1 = true
                  · subst c10
                    have H1 : (evals_Uses.l0 k1 true true true l0 (l0.length : Int) (wrap64 (x16_1 + 1))) = some (r1, r2, r3, r4) := by rw [if_pos rfl] at H; exact H
                    clear H
                    have H := H1
                    clear H1
                    have H' := Aside0.mk H
                    clear H
                    have p578 : 0 ≤ (x16_1 : Int) := of_decide_eq_true (by first | (with_reducible assumption) | assumption)
                    have q578 : x16_1 < (l0.length : Int) := of_decide_eq_true (by first | (with_reducible assumption) | assumption)
                    obtain ⟨ad578, e578, hx578_0, hx578_1, hx578_2, hx578_3, hx578_4⟩ := at_T27 HR0.out x16_1 p578 q578
                    cases e578
                    replace hx578_0 := (HB.out.cell (World.block_lt_of_cell? w _ hx578_0)).trans hx578_0
                    replace hx578_1 := (HB.out.cell (World.block_lt_of_cell? w _ hx578_1)).trans hx578_1
                    replace hx578_2 := (HB.out.cell (World.block_lt_of_cell? w _ hx578_2)).trans hx578_2
                    replace hx578_3 := (HB.out.cell (World.block_lt_of_cell? w _ hx578_3)).trans hx578_3
                    replace hx578_4 := (HB.out.cell (World.block_lt_of_cell? w _ hx578_4)).trans hx578_4
                    replace p578 := eq_true p578
                    replace q578 := eq_true q578
                    go_wp2_with (first | ((with_reducible refine gate_dst (N := 8) rfl ?_); refine box_event ?hg (N := 8) ?hd (cs := #[.int .u8 0, .int .i64 0, .int .i64 0, .int .i64 0, .int .i64 0]) (t := 27) ?hr ?_; (case hd => rfl); (case hg => rfl); (case hr => first | (go_simp; done) | (go_simp; rfl)); intro gb579 hg w11 hbox hb; have n0_ := Aside0.mk (below_step (by repeat (first | (with_reducible first | exact HB.out | apply below_alloc | apply pw_below_drewN | apply below_drew1) | exact HB.out)) hb); have n1_ := Aside0.mk (hbox); have n2_ := Aside0.mk ((by rw [hg]; exact (below_size (by repeat (first | (with_reducible first | exact HB.out | apply below_alloc | apply pw_below_drewN | apply below_drew1) | exact HB.out))) : w.heap.size ≤ gb579)); have n3_ := Aside0.mk ((by rw [hg]; exact (below_size (by repeat (first | (with_reducible first | exact HB.out | apply below_alloc | apply pw_below_drewN | apply below_drew1) | exact HB.out))) : w.heap.size ≤ gb579)); clear HB; have HB := n0_; have BK579 := n1_; have GW579 := n2_; have GE579 := n3_; clear n0_ n1_ n2_ n3_; clear hb hbox hg; have hcz12_0 : w11.cell? ⟨gb579, 0, none⟩ = some (.int .u8 0) := (blk_cell BK579.out 0).trans rfl; have hcz12_1 : w11.cell? ⟨gb579, 1, none⟩ = some (.int .i64 0) := (blk_cell BK579.out 1).trans rfl; have hcz12_2 : w11.cell? ⟨gb579, 2, none⟩ = some (.int .i64 0) := (blk_cell BK579.out 2).trans rfl; have hcz12_3 : w11.cell? ⟨gb579, 3, none⟩ = some (.int .i64 0) := (blk_cell BK579.out 3).trans rfl; have hcz12_4 : w11.cell? ⟨gb579, 4, none⟩ = some (.int .i64 0) := (blk_cell BK579.out 4).trans rfl; have hfz12_0 := blk_frozen BK579.out 0; have hfz12_1 := blk_frozen BK579.out 1; have hfz12_2 := blk_frozen BK579.out 2; have hfz12_3 := blk_frozen BK579.out 3; have hfz12_4 := blk_frozen BK579.out 4))
                    go_roundg k1
                    case measure => have := HK1.out; omega
                    case rel => exact ⟨(true), (true), (true), (wrap64 (x16_1 + 1)), (by first | rfl | (simp; done) | (simp [*]; done)), (by first | rfl | (simp; done) | (simp [*]; done)), (by first | rfl | (simp; done) | (simp [*]; done)), (by first | rfl | (simp; done) | (simp [*]; done)), H', ⟨by have := HK1.out; omega⟩, ⟨by repeat (first | (with_reducible first | exact HB.out | apply below_alloc | apply pw_below_drewN | apply below_drew1 | refine below_set ?_ GE579.out) | exact HB.out)⟩⟩
                  · replace c10 := Bool.eq_false_iff.mpr c10
                    subst c10
                    have H1 : (evals_Uses.l0 k1 true true (((rd_T27 l0 x16_1).f0) == 4) l0 (l0.length : Int) (wrap64 (x16_1 + 1))) = some (r1, r2, r3, r4) := by rw [if_neg (show ¬ (false = true) by decide)] at H; exact H
                    clear H
                    have H := H1
                    clear H1
                    have H' := Aside0.mk H
                    clear H
                    have p578 : 0 ≤ (x16_1 : Int) := of_decide_eq_true (by first | (with_reducible assumption) | assumption)
                    have q578 : x16_1 < (l0.length : Int) := of_decide_eq_true (by first | (with_reducible assumption) | assumption)
                    obtain ⟨ad578, e578, hx578_0, hx578_1, hx578_2, hx578_3, hx578_4⟩ := at_T27 HR0.out x16_1 p578 q578
                    cases e578
                    replace hx578_0 := (HB.out.cell (World.block_lt_of_cell? w _ hx578_0)).trans hx578_0
                    replace hx578_1 := (HB.out.cell (World.block_lt_of_cell? w _ hx578_1)).trans hx578_1
                    replace hx578_2 := (HB.out.cell (World.block_lt_of_cell? w _ hx578_2)).trans hx578_2
                    replace hx578_3 := (HB.out.cell (World.block_lt_of_cell? w _ hx578_3)).trans hx578_3
                    replace hx578_4 := (HB.out.cell (World.block_lt_of_cell? w _ hx578_4)).trans hx578_4
                    replace p578 := eq_true p578
                    replace q578 := eq_true q578
                    go_wp2_with (first | ((with_reducible refine gate_dst (N := 8) rfl ?_); refine box_event ?hg (N := 8) ?hd (cs := #[.int .u8 0, .int .i64 0, .int .i64 0, .int .i64 0, .int .i64 0]) (t := 27) ?hr ?_; (case hd => rfl); (case hg => rfl); (case hr => first | (go_simp; done) | (go_simp; rfl)); intro gb579 hg w13 hbox hb; have n0_ := Aside0.mk (below_step (by repeat (first | (with_reducible first | exact HB.out | apply below_alloc | apply pw_below_drewN | apply below_drew1) | exact HB.out)) hb); have n1_ := Aside0.mk (hbox); have n2_ := Aside0.mk ((by rw [hg]; exact (below_size (by repeat (first | (with_reducible first | exact HB.out | apply below_alloc | apply pw_below_drewN | apply below_drew1) | exact HB.out))) : w.heap.size ≤ gb579)); have n3_ := Aside0.mk ((by rw [hg]; exact (below_size (by repeat (first | (with_reducible first | exact HB.out | apply below_alloc | apply pw_below_drewN | apply below_drew1) | exact HB.out))) : w.heap.size ≤ gb579)); clear HB; have HB := n0_; have BK579 := n1_; have GW579 := n2_; have GE579 := n3_; clear n0_ n1_ n2_ n3_; clear hb hbox hg; have hcz14_0 : w13.cell? ⟨gb579, 0, none⟩ = some (.int .u8 0) := (blk_cell BK579.out 0).trans rfl; have hcz14_1 : w13.cell? ⟨gb579, 1, none⟩ = some (.int .i64 0) := (blk_cell BK579.out 1).trans rfl; have hcz14_2 : w13.cell? ⟨gb579, 2, none⟩ = some (.int .i64 0) := (blk_cell BK579.out 2).trans rfl; have hcz14_3 : w13.cell? ⟨gb579, 3, none⟩ = some (.int .i64 0) := (blk_cell BK579.out 3).trans rfl; have hcz14_4 : w13.cell? ⟨gb579, 4, none⟩ = some (.int .i64 0) := (blk_cell BK579.out 4).trans rfl; have hfz14_0 := blk_frozen BK579.out 0; have hfz14_1 := blk_frozen BK579.out 1; have hfz14_2 := blk_frozen BK579.out 2; have hfz14_3 := blk_frozen BK579.out 3; have hfz14_4 := blk_frozen BK579.out 4))
                    go_roundg k1
                    case measure => have := HK1.out; omega
                    case rel => exact ⟨(true), (true), ((((rd_T27 l0 x16_1).f0) == 4)), (wrap64 (x16_1 + 1)), (by first | rfl | (simp; done) | (simp [*]; done)), (by first | rfl | (simp; done) | (simp [*]; done)), (by first | rfl | (simp; done) | (simp [*]; done)), (by first | rfl | (simp; done) | (simp [*]; done)), H', ⟨by have := HK1.out; omega⟩, ⟨by repeat (first | (with_reducible first | exact HB.out | apply below_alloc | apply pw_below_drewN | apply below_drew1 | refine below_set ?_ GE579.out) | exact HB.out)⟩⟩
                · replace c9 := Bool.eq_false_iff.mpr c9
                  subst c9
                  have H1 : (if x4_1 = true then (evals_Uses.l0 k1 true (((rd_T27 l0 x16_1).f0) == 3) true l0 (l0.length : Int) (wrap64 (x16_1 + 1))) else (evals_Uses.l0 k1 true (((rd_T27 l0 x16_1).f0) == 3) (((rd_T27 l0 x16_1).f0) == 4) l0 (l0.length : Int) (wrap64 (x16_1 + 1)))) = some (r1, r2, r3, r4) := by rw [if_neg (show ¬ (false = true) by decide)] at H; exact H
                  clear H
                  have H := H1
                  clear H1
                  by_cases c15 : x4_1 = true
                  · subst c15
                    have H1 : (evals_Uses.l0 k1 true (((rd_T27 l0 x16_1).f0) == 3) true l0 (l0.length : Int) (wrap64 (x16_1 + 1))) = some (r1, r2, r3, r4) := by rw [if_pos rfl] at H; exact H
                    clear H
                    have H := H1
                    clear H1
                    have H' := Aside0.mk H
                    clear H
                    have p578 : 0 ≤ (x16_1 : Int) := of_decide_eq_true (by first | (with_reducible assumption) | assumption)
                    have q578 : x16_1 < (l0.length : Int) := of_decide_eq_true (by first | (with_reducible assumption) | assumption)
                    obtain ⟨ad578, e578, hx578_0, hx578_1, hx578_2, hx578_3, hx578_4⟩ := at_T27 HR0.out x16_1 p578 q578
                    cases e578
                    replace hx578_0 := (HB.out.cell (World.block_lt_of_cell? w _ hx578_0)).trans hx578_0
                    replace hx578_1 := (HB.out.cell (World.block_lt_of_cell? w _ hx578_1)).trans hx578_1
                    replace hx578_2 := (HB.out.cell (World.block_lt_of_cell? w _ hx578_2)).trans hx578_2
                    replace hx578_3 := (HB.out.cell (World.block_lt_of_cell? w _ hx578_3)).trans hx578_3
                    replace hx578_4 := (HB.out.cell (World.block_lt_of_cell? w _ hx578_4)).trans hx578_4
                    replace p578 := eq_true p578
                    replace q578 := eq_true q578
                    go_wp2_with (first | ((with_reducible refine gate_dst (N := 8) rfl ?_); refine box_event ?hg (N := 8) ?hd (cs := #[.int .u8 0, .int .i64 0, .int .i64 0, .int .i64 0, .int .i64 0]) (t := 27) ?hr ?_; (case hd => rfl); (case hg => rfl); (case hr => first | (go_simp; done) | (go_simp; rfl)); intro gb579 hg w16 hbox hb; have n0_ := Aside0.mk (below_step (by repeat (first | (with_reducible first | exact HB.out | apply below_alloc | apply pw_below_drewN | apply below_drew1) | exact HB.out)) hb); have n1_ := Aside0.mk (hbox); have n2_ := Aside0.mk ((by rw [hg]; exact (below_size (by repeat (first | (with_reducible first | exact HB.out | apply below_alloc | apply pw_below_drewN | apply below_drew1) | exact HB.out))) : w.heap.size ≤ gb579)); have n3_ := Aside0.mk ((by rw [hg]; exact (below_size (by repeat (first | (with_reducible first | exact HB.out | apply below_alloc | apply pw_below_drewN | apply below_drew1) | exact HB.out))) : w.heap.size ≤ gb579)); clear HB; have HB := n0_; have BK579 := n1_; have GW579 := n2_; have GE579 := n3_; clear n0_ n1_ n2_ n3_; clear hb hbox hg; have hcz17_0 : w16.cell? ⟨gb579, 0, none⟩ = some (.int .u8 0) := (blk_cell BK579.out 0).trans rfl; have hcz17_1 : w16.cell? ⟨gb579, 1, none⟩ = some (.int .i64 0) := (blk_cell BK579.out 1).trans rfl; have hcz17_2 : w16.cell? ⟨gb579, 2, none⟩ = some (.int .i64 0) := (blk_cell BK579.out 2).trans rfl; have hcz17_3 : w16.cell? ⟨gb579, 3, none⟩ = some (.int .i64 0) := (blk_cell BK579.out 3).trans rfl; have hcz17_4 : w16.cell? ⟨gb579, 4, none⟩ = some (.int .i64 0) := (blk_cell BK579.out 4).trans rfl; have hfz17_0 := blk_frozen BK579.out 0; have hfz17_1 := blk_frozen BK579.out 1; have hfz17_2 := blk_frozen BK579.out 2; have hfz17_3 := blk_frozen BK579.out 3; have hfz17_4 := blk_frozen BK579.out 4))
                    go_roundg k1
                    case measure => have := HK1.out; omega
                    case rel => exact ⟨(true), ((((rd_T27 l0 x16_1).f0) == 3)), (true), (wrap64 (x16_1 + 1)), (by first | rfl | (simp; done) | (simp [*]; done)), (by first | rfl | (simp; done) | (simp [*]; done)), (by first | rfl | (simp; done) | (simp [*]; done)), (by first | rfl | (simp; done) | (simp [*]; done)), H', ⟨by have := HK1.out; omega⟩, ⟨by repeat (first | (with_reducible first | exact HB.out | apply below_alloc | apply pw_below_drewN | apply below_drew1 | refine below_set ?_ GE579.out) | exact HB.out)⟩⟩
                  · replace c15 := Bool.eq_false_iff.mpr c15
                    subst c15
                    have H1 : (evals_Uses.l0 k1 true (((rd_T27 l0 x16_1).f0) == 3) (((rd_T27 l0 x16_1).f0) == 4) l0 (l0.length : Int) (wrap64 (x16_1 + 1))) = some (r1, r2, r3, r4) := by rw [if_neg (show ¬ (false = true) by decide)] at H; exact H
                    clear H
                    have H := H1
                    clear H1
                    have H' := Aside0.mk H
                    clear H
                    have p578 : 0 ≤ (x16_1 : Int) := of_decide_eq_true (by first | (with_reducible assumption) | assumption)
                    have q578 : x16_1 < (l0.length : Int) := of_decide_eq_true (by first | (with_reducible assumption) | assumption)
                    obtain ⟨ad578, e578, hx578_0, hx578_1, hx578_2, hx578_3, hx578_4⟩ := at_T27 HR0.out x16_1 p578 q578
                    cases e578
                    replace hx578_0 := (HB.out.cell (World.block_lt_of_cell? w _ hx578_0)).trans hx578_0
                    replace hx578_1 := (HB.out.cell (World.block_lt_of_cell? w _ hx578_1)).trans hx578_1
                    replace hx578_2 := (HB.out.cell (World.block_lt_of_cell? w _ hx578_2)).trans hx578_2
                    replace hx578_3 := (HB.out.cell (World.block_lt_of_cell? w _ hx578_3)).trans hx578_3
                    replace hx578_4 := (HB.out.cell (World.block_lt_of_cell? w _ hx578_4)).trans hx578_4
                    replace p578 := eq_true p578
                    replace q578 := eq_true q578
                    go_wp2_with (first | ((with_reducible refine gate_dst (N := 8) rfl ?_); refine box_event ?hg (N := 8) ?hd (cs := #[.int .u8 0, .int .i64 0, .int .i64 0, .int .i64 0, .int .i64 0]) (t := 27) ?hr ?_; (case hd => rfl); (case hg => rfl); (case hr => first | (go_simp; done) | (go_simp; rfl)); intro gb579 hg w18 hbox hb; have n0_ := Aside0.mk (below_step (by repeat (first | (with_reducible first | exact HB.out | apply below_alloc | apply pw_below_drewN | apply below_drew1) | exact HB.out)) hb); have n1_ := Aside0.mk (hbox); have n2_ := Aside0.mk ((by rw [hg]; exact (below_size (by repeat (first | (with_reducible first | exact HB.out | apply below_alloc | apply pw_below_drewN | apply below_drew1) | exact HB.out))) : w.heap.size ≤ gb579)); have n3_ := Aside0.mk ((by rw [hg]; exact (below_size (by repeat (first | (with_reducible first | exact HB.out | apply below_alloc | apply pw_below_drewN | apply below_drew1) | exact HB.out))) : w.heap.size ≤ gb579)); clear HB; have HB := n0_; have BK579 := n1_; have GW579 := n2_; have GE579 := n3_; clear n0_ n1_ n2_ n3_; clear hb hbox hg; have hcz19_0 : w18.cell? ⟨gb579, 0, none⟩ = some (.int .u8 0) := (blk_cell BK579.out 0).trans rfl; have hcz19_1 : w18.cell? ⟨gb579, 1, none⟩ = some (.int .i64 0) := (blk_cell BK579.out 1).trans rfl; have hcz19_2 : w18.cell? ⟨gb579, 2, none⟩ = some (.int .i64 0) := (blk_cell BK579.out 2).trans rfl; have hcz19_3 : w18.cell? ⟨gb579, 3, none⟩ = some (.int .i64 0) := (blk_cell BK579.out 3).trans rfl; have hcz19_4 : w18.cell? ⟨gb579, 4, none⟩ = some (.int .i64 0) := (blk_cell BK579.out 4).trans rfl; have hfz19_0 := blk_frozen BK579.out 0; have hfz19_1 := blk_frozen BK579.out 1; have hfz19_2 := blk_frozen BK579.out 2; have hfz19_3 := blk_frozen BK579.out 3; have hfz19_4 := blk_frozen BK579.out 4))
                    go_roundg k1
                    case measure => have := HK1.out; omega
                    case rel => exact ⟨(true), ((((rd_T27 l0 x16_1).f0) == 3)), ((((rd_T27 l0 x16_1).f0) == 4)), (wrap64 (x16_1 + 1)), (by first | rfl | (simp; done) | (simp [*]; done)), (by first | rfl | (simp; done) | (simp [*]; done)), (by first | rfl | (simp; done) | (simp [*]; done)), (by first | rfl | (simp; done) | (simp [*]; done)), H', ⟨by have := HK1.out; omega⟩, ⟨by repeat (first | (with_reducible first | exact HB.out | apply below_alloc | apply pw_below_drewN | apply below_drew1 | refine below_set ?_ GE579.out) | exact HB.out)⟩⟩
              · replace c8 := Bool.eq_false_iff.mpr c8
                subst c8
                have H1 : (if x3_1 = true then (if x4_1 = true then (evals_Uses.l0 k1 (((rd_T27 l0 x16_1).f0) == 2) true true l0 (l0.length : Int) (wrap64 (x16_1 + 1))) else (evals_Uses.l0 k1 (((rd_T27 l0 x16_1).f0) == 2) true (((rd_T27 l0 x16_1).f0) == 4) l0 (l0.length : Int) (wrap64 (x16_1 + 1)))) else (if x4_1 = true then (evals_Uses.l0 k1 (((rd_T27 l0 x16_1).f0) == 2) (((rd_T27 l0 x16_1).f0) == 3) true l0 (l0.length : Int) (wrap64 (x16_1 + 1))) else (evals_Uses.l0 k1 (((rd_T27 l0 x16_1).f0) == 2) (((rd_T27 l0 x16_1).f0) == 3) (((rd_T27 l0 x16_1).f0) == 4) l0 (l0.length : Int) (wrap64 (x16_1 + 1))))) = some (r1, r2, r3, r4) := by rw [if_neg (show ¬ (false = true) by decide)] at H; exact H
                clear H
                have H := H1
                clear H1
                by_cases c20 : x3_1 = true
                · subst c20
                  have H1 : (if x4_1 = true then (evals_Uses.l0 k1 (((rd_T27 l0 x16_1).f0) == 2) true true l0 (l0.length : Int) (wrap64 (x16_1 + 1))) else (evals_Uses.l0 k1 (((rd_T27 l0 x16_1).f0) == 2) true (((rd_T27 l0 x16_1).f0) == 4) l0 (l0.length : Int) (wrap64 (x16_1 + 1)))) = some (r1, r2, r3, r4) := by rw [if_pos rfl] at H; exact H
                  clear H
                  have H := H1
                  clear H1
                  by_cases c21 : x4_1 = true
                  · subst c21
                    have H1 : (evals_Uses.l0 k1 (((rd_T27 l0 x16_1).f0) == 2) true true l0 (l0.length : Int) (wrap64 (x16_1 + 1))) = some (r1, r2, r3, r4) := by rw [if_pos rfl] at H; exact H
                    clear H
                    have H := H1
                    clear H1
                    have H' := Aside0.mk H
                    clear H
                    have p578 : 0 ≤ (x16_1 : Int) := of_decide_eq_true (by first | (with_reducible assumption) | assumption)
                    have q578 : x16_1 < (l0.length : Int) := of_decide_eq_true (by first | (with_reducible assumption) | assumption)
                    obtain ⟨ad578, e578, hx578_0, hx578_1, hx578_2, hx578_3, hx578_4⟩ := at_T27 HR0.out x16_1 p578 q578
                    cases e578
                    replace hx578_0 := (HB.out.cell (World.block_lt_of_cell? w _ hx578_0)).trans hx578_0
                    replace hx578_1 := (HB.out.cell (World.block_lt_of_cell? w _ hx578_1)).trans hx578_1
                    replace hx578_2 := (HB.out.cell (World.block_lt_of_cell? w _ hx578_2)).trans hx578_2
                    replace hx578_3 := (HB.out.cell (World.block_lt_of_cell? w _ hx578_3)).trans hx578_3
                    replace hx578_4 := (HB.out.cell (World.block_lt_of_cell? w _ hx578_4)).trans hx578_4
                    replace p578 := eq_true p578
                    replace q578 := eq_true q578
                    go_wp2_with (first | ((with_reducible refine gate_dst (N := 8) rfl ?_); refine box_event ?hg (N := 8) ?hd (cs := #[.int .u8 0, .int .i64 0, .int .i64 0, .int .i64 0, .int .i64 0]) (t := 27) ?hr ?_; (case hd => rfl); (case hg => rfl); (case hr => first | (go_simp; done) | (go_simp; rfl)); intro gb579 hg w22 hbox hb; have n0_ := Aside0.mk (below_step (by repeat (first | (with_reducible first | exact HB.out | apply below_alloc | apply pw_below_drewN | apply below_drew1) | exact HB.out)) hb); have n1_ := Aside0.mk (hbox); have n2_ := Aside0.mk ((by rw [hg]; exact (below_size (by repeat (first | (with_reducible first | exact HB.out | apply below_alloc | apply pw_below_drewN | apply below_drew1) | exact HB.out))) : w.heap.size ≤ gb579)); have n3_ := Aside0.mk ((by rw [hg]; exact (below_size (by repeat (first | (with_reducible first | exact HB.out | apply below_alloc | apply pw_below_drewN | apply below_drew1) | exact HB.out))) : w.heap.size ≤ gb579)); clear HB; have HB := n0_; have BK579 := n1_; have GW579 := n2_; have GE579 := n3_; clear n0_ n1_ n2_ n3_; clear hb hbox hg; have hcz23_0 : w22.cell? ⟨gb579, 0, none⟩ = some (.int .u8 0) := (blk_cell BK579.out 0).trans rfl; have hcz23_1 : w22.cell? ⟨gb579, 1, none⟩ = some (.int .i64 0) := (blk_cell BK579.out 1).trans rfl; have hcz23_2 : w22.cell? ⟨gb579, 2, none⟩ = some (.int .i64 0) := (blk_cell BK579.out 2).trans rfl; have hcz23_3 : w22.cell? ⟨gb579, 3, none⟩ = some (.int .i64 0) := (blk_cell BK579.out 3).trans rfl; have hcz23_4 : w22.cell? ⟨gb579, 4, none⟩ = some (.int .i64 0) := (blk_cell BK579.out 4).trans rfl; have hfz23_0 := blk_frozen BK579.out 0; have hfz23_1 := blk_frozen BK579.out 1; have hfz23_2 := blk_frozen BK579.out 2; have hfz23_3 := blk_frozen BK579.out 3; have hfz23_4 := blk_frozen BK579.out 4))
                    go_roundg k1
                    case measure => have := HK1.out; omega
                    case rel => exact ⟨((((rd_T27 l0 x16_1).f0) == 2)), (true), (true), (wrap64 (x16_1 + 1)), (by first | rfl | (simp; done) | (simp [*]; done)), (by first | rfl | (simp; done) | (simp [*]; done)), (by first | rfl | (simp; done) | (simp [*]; done)), (by first | rfl | (simp; done) | (simp [*]; done)), H', ⟨by have := HK1.out; omega⟩, ⟨by repeat (first | (with_reducible first | exact HB.out | apply below_alloc | apply pw_below_drewN | apply below_drew1 | refine below_set ?_ GE579.out) | exact HB.out)⟩⟩
                  · replace c21 := Bool.eq_false_iff.mpr c21
                    subst c21
                    have H1 : (evals_Uses.l0 k1 (((rd_T27 l0 x16_1).f0) == 2) true (((rd_T27 l0 x16_1).f0) == 4) l0 (l0.length : Int) (wrap64 (x16_1 + 1))) = some (r1, r2, r3, r4) := by rw [if_neg (show ¬ (false = true) by decide)] at H; exact H
                    clear H
                    have H := H1
                    clear H1
                    have H' := Aside0.mk H
                    clear H
                    have p578 : 0 ≤ (x16_1 : Int) := of_decide_eq_true (by first | (with_reducible assumption) | assumption)
                    have q578 : x16_1 < (l0.length : Int) := of_decide_eq_true (by first | (with_reducible assumption) | assumption)
                    obtain ⟨ad578, e578, hx578_0, hx578_1, hx578_2, hx578_3, hx578_4⟩ := at_T27 HR0.out x16_1 p578 q578
                    cases e578
                    replace hx578_0 := (HB.out.cell (World.block_lt_of_cell? w _ hx578_0)).trans hx578_0
                    replace hx578_1 := (HB.out.cell (World.block_lt_of_cell? w _ hx578_1)).trans hx578_1
                    replace hx578_2 := (HB.out.cell (World.block_lt_of_cell? w _ hx578_2)).trans hx578_2
                    replace hx578_3 := (HB.out.cell (World.block_lt_of_cell? w _ hx578_3)).trans hx578_3
                    replace hx578_4 := (HB.out.cell (World.block_lt_of_cell? w _ hx578_4)).trans hx578_4
                    replace p578 := eq_true p578
                    replace q578 := eq_true q578
                    go_wp2_with (first | ((with_reducible refine gate_dst (N := 8) rfl ?_); refine box_event ?hg (N := 8) ?hd (cs := #[.int .u8 0, .int .i64 0, .int .i64 0, .int .i64 0, .int .i64 0]) (t := 27) ?hr ?_; (case hd => rfl); (case hg => rfl); (case hr => first | (go_simp; done) | (go_simp; rfl)); intro gb579 hg w24 hbox hb; have n0_ := Aside0.mk (below_step (by repeat (first | (with_reducible first | exact HB.out | apply below_alloc | apply pw_below_drewN | apply below_drew1) | exact HB.out)) hb); have n1_ := Aside0.mk (hbox); have n2_ := Aside0.mk ((by rw [hg]; exact (below_size (by repeat (first | (with_reducible first | exact HB.out | apply below_alloc | apply pw_below_drewN | apply below_drew1) | exact HB.out))) : w.heap.size ≤ gb579)); have n3_ := Aside0.mk ((by rw [hg]; exact (below_size (by repeat (first | (with_reducible first | exact HB.out | apply below_alloc | apply pw_below_drewN | apply below_drew1) | exact HB.out))) : w.heap.size ≤ gb579)); clear HB; have HB := n0_; have BK579 := n1_; have GW579 := n2_; have GE579 := n3_; clear n0_ n1_ n2_ n3_; clear hb hbox hg; have hcz25_0 : w24.cell? ⟨gb579, 0, none⟩ = some (.int .u8 0) := (blk_cell BK579.out 0).trans rfl; have hcz25_1 : w24.cell? ⟨gb579, 1, none⟩ = some (.int .i64 0) := (blk_cell BK579.out 1).trans rfl; have hcz25_2 : w24.cell? ⟨gb579, 2, none⟩ = some (.int .i64 0) := (blk_cell BK579.out 2).trans rfl; have hcz25_3 : w24.cell? ⟨gb579, 3, none⟩ = some (.int .i64 0) := (blk_cell BK579.out 3).trans rfl; have hcz25_4 : w24.cell? ⟨gb579, 4, none⟩ = some (.int .i64 0) := (blk_cell BK579.out 4).trans rfl; have hfz25_0 := blk_frozen BK579.out 0; have hfz25_1 := blk_frozen BK579.out 1; have hfz25_2 := blk_frozen BK579.out 2; have hfz25_3 := blk_frozen BK579.out 3; have hfz25_4 := blk_frozen BK579.out 4))
                    go_roundg k1
                    case measure => have := HK1.out; omega
                    case rel => exact ⟨((((rd_T27 l0 x16_1).f0) == 2)), (true), ((((rd_T27 l0 x16_1).f0) == 4)), (wrap64 (x16_1 + 1)), (by first | rfl | (simp; done) | (simp [*]; done)), (by first | rfl | (simp; done) | (simp [*]; done)), (by first | rfl | (simp; done) | (simp [*]; done)), (by first | rfl | (simp; done) | (simp [*]; done)), H', ⟨by have := HK1.out; omega⟩, ⟨by repeat (first | (with_reducible first | exact HB.out | apply below_alloc | apply pw_below_drewN | apply below_drew1 | refine below_set ?_ GE579.out) | exact HB.out)⟩⟩
                · replace c20 := Bool.eq_false_iff.mpr c20
                  subst c20
                  have H1 : (if x4_1 = true then (evals_Uses.l0 k1 (((rd_T27 l0 x16_1).f0) == 2) (((rd_T27 l0 x16_1).f0) == 3) true l0 (l0.length : Int) (wrap64 (x16_1 + 1))) else (evals_Uses.l0 k1 (((rd_T27 l0 x16_1).f0) == 2) (((rd_T27 l0 x16_1).f0) == 3) (((rd_T27 l0 x16_1).f0) == 4) l0 (l0.length : Int) (wrap64 (x16_1 + 1)))) = some (r1, r2, r3, r4) := by rw [if_neg (show ¬ (false = true) by decide)] at H; exact H
                  clear H
                  have H := H1
                  clear H1
                  by_cases c26 : x4_1 = true
                  · subst c26
                    have H1 : (evals_Uses.l0 k1 (((rd_T27 l0 x16_1).f0) == 2) (((rd_T27 l0 x16_1).f0) == 3) true l0 (l0.length : Int) (wrap64 (x16_1 + 1))) = some (r1, r2, r3, r4) := by rw [if_pos rfl] at H; exact H
                    clear H
                    have H := H1
                    clear H1
                    have H' := Aside0.mk H
                    clear H
                    have p578 : 0 ≤ (x16_1 : Int) := of_decide_eq_true (by first | (with_reducible assumption) | assumption)
                    have q578 : x16_1 < (l0.length : Int) := of_decide_eq_true (by first | (with_reducible assumption) | assumption)
                    obtain ⟨ad578, e578, hx578_0, hx578_1, hx578_2, hx578_3, hx578_4⟩ := at_T27 HR0.out x16_1 p578 q578
                    cases e578
                    replace hx578_0 := (HB.out.cell (World.block_lt_of_cell? w _ hx578_0)).trans hx578_0
                    replace hx578_1 := (HB.out.cell (World.block_lt_of_cell? w _ hx578_1)).trans hx578_1
                    replace hx578_2 := (HB.out.cell (World.block_lt_of_cell? w _ hx578_2)).trans hx578_2
                    replace hx578_3 := (HB.out.cell (World.block_lt_of_cell? w _ hx578_3)).trans hx578_3
                    replace hx578_4 := (HB.out.cell (World.block_lt_of_cell? w _ hx578_4)).trans hx578_4
                    replace p578 := eq_true p578
                    replace q578 := eq_true q578
                    go_wp2_with (first | ((with_reducible refine gate_dst (N := 8) rfl ?_); refine box_event ?hg (N := 8) ?hd (cs := #[.int .u8 0, .int .i64 0, .int .i64 0, .int .i64 0, .int .i64 0]) (t := 27) ?hr ?_; (case hd => rfl); (case hg => rfl); (case hr => first | (go_simp; done) | (go_simp; rfl)); intro gb579 hg w27 hbox hb; have n0_ := Aside0.mk (below_step (by repeat (first | (with_reducible first | exact HB.out | apply below_alloc | apply pw_below_drewN | apply below_drew1) | exact HB.out)) hb); have n1_ := Aside0.mk (hbox); have n2_ := Aside0.mk ((by rw [hg]; exact (below_size (by repeat (first | (with_reducible first | exact HB.out | apply below_alloc | apply pw_below_drewN | apply below_drew1) | exact HB.out))) : w.heap.size ≤ gb579)); have n3_ := Aside0.mk ((by rw [hg]; exact (below_size (by repeat (first | (with_reducible first | exact HB.out | apply below_alloc | apply pw_below_drewN | apply below_drew1) | exact HB.out))) : w.heap.size ≤ gb579)); clear HB; have HB := n0_; have BK579 := n1_; have GW579 := n2_; have GE579 := n3_; clear n0_ n1_ n2_ n3_; clear hb hbox hg; have hcz28_0 : w27.cell? ⟨gb579, 0, none⟩ = some (.int .u8 0) := (blk_cell BK579.out 0).trans rfl; have hcz28_1 : w27.cell? ⟨gb579, 1, none⟩ = some (.int .i64 0) := (blk_cell BK579.out 1).trans rfl; have hcz28_2 : w27.cell? ⟨gb579, 2, none⟩ = some (.int .i64 0) := (blk_cell BK579.out 2).trans rfl; have hcz28_3 : w27.cell? ⟨gb579, 3, none⟩ = some (.int .i64 0) := (blk_cell BK579.out 3).trans rfl; have hcz28_4 : w27.cell? ⟨gb579, 4, none⟩ = some (.int .i64 0) := (blk_cell BK579.out 4).trans rfl; have hfz28_0 := blk_frozen BK579.out 0; have hfz28_1 := blk_frozen BK579.out 1; have hfz28_2 := blk_frozen BK579.out 2; have hfz28_3 := blk_frozen BK579.out 3; have hfz28_4 := blk_frozen BK579.out 4))
                    go_roundg k1
                    case measure => have := HK1.out; omega
                    case rel => exact ⟨((((rd_T27 l0 x16_1).f0) == 2)), ((((rd_T27 l0 x16_1).f0) == 3)), (true), (wrap64 (x16_1 + 1)), (by first | rfl | (simp; done) | (simp [*]; done)), (by first | rfl | (simp; done) | (simp [*]; done)), (by first | rfl | (simp; done) | (simp [*]; done)), (by first | rfl | (simp; done) | (simp [*]; done)), H', ⟨by have := HK1.out; omega⟩, ⟨by repeat (first | (with_reducible first | exact HB.out | apply below_alloc | apply pw_below_drewN | apply below_drew1 | refine below_set ?_ GE579.out) | exact HB.out)⟩⟩
                  · replace c26 := Bool.eq_false_iff.mpr c26
                    subst c26
                    have H1 : (evals_Uses.l0 k1 (((rd_T27 l0 x16_1).f0) == 2) (((rd_T27 l0 x16_1).f0) == 3) (((rd_T27 l0 x16_1).f0) == 4) l0 (l0.length : Int) (wrap64 (x16_1 + 1))) = some (r1, r2, r3, r4) := by rw [if_neg (show ¬ (false = true) by decide)] at H; exact H
                    clear H
                    have H := H1
                    clear H1
                    have H' := Aside0.mk H
                    clear H
                    have p578 : 0 ≤ (x16_1 : Int) := of_decide_eq_true (by first | (with_reducible assumption) | assumption)
                    have q578 : x16_1 < (l0.length : Int) := of_decide_eq_true (by first | (with_reducible assumption) | assumption)
                    obtain ⟨ad578, e578, hx578_0, hx578_1, hx578_2, hx578_3, hx578_4⟩ := at_T27 HR0.out x16_1 p578 q578
                    cases e578
                    replace hx578_0 := (HB.out.cell (World.block_lt_of_cell? w _ hx578_0)).trans hx578_0
                    replace hx578_1 := (HB.out.cell (World.block_lt_of_cell? w _ hx578_1)).trans hx578_1
                    replace hx578_2 := (HB.out.cell (World.block_lt_of_cell? w _ hx578_2)).trans hx578_2
                    replace hx578_3 := (HB.out.cell (World.block_lt_of_cell? w _ hx578_3)).trans hx578_3
                    replace hx578_4 := (HB.out.cell (World.block_lt_of_cell? w _ hx578_4)).trans hx578_4
                    replace p578 := eq_true p578
                    replace q578 := eq_true q578
                    go_wp2_with (first | ((with_reducible refine gate_dst (N := 8) rfl ?_); refine box_event ?hg (N := 8) ?hd (cs := #[.int .u8 0, .int .i64 0, .int .i64 0, .int .i64 0, .int .i64 0]) (t := 27) ?hr ?_; (case hd => rfl); (case hg => rfl); (case hr => first | (go_simp; done) | (go_simp; rfl)); intro gb579 hg w29 hbox hb; have n0_ := Aside0.mk (below_step (by repeat (first | (with_reducible first | exact HB.out | apply below_alloc | apply pw_below_drewN | apply below_drew1) | exact HB.out)) hb); have n1_ := Aside0.mk (hbox); have n2_ := Aside0.mk ((by rw [hg]; exact (below_size (by repeat (first | (with_reducible first | exact HB.out | apply below_alloc | apply pw_below_drewN | apply below_drew1) | exact HB.out))) : w.heap.size ≤ gb579)); have n3_ := Aside0.mk ((by rw [hg]; exact (below_size (by repeat (first | (with_reducible first | exact HB.out | apply below_alloc | apply pw_below_drewN | apply below_drew1) | exact HB.out))) : w.heap.size ≤ gb579)); clear HB; have HB := n0_; have BK579 := n1_; have GW579 := n2_; have GE579 := n3_; clear n0_ n1_ n2_ n3_; clear hb hbox hg; have hcz30_0 : w29.cell? ⟨gb579, 0, none⟩ = some (.int .u8 0) := (blk_cell BK579.out 0).trans rfl; have hcz30_1 : w29.cell? ⟨gb579, 1, none⟩ = some (.int .i64 0) := (blk_cell BK579.out 1).trans rfl; have hcz30_2 : w29.cell? ⟨gb579, 2, none⟩ = some (.int .i64 0) := (blk_cell BK579.out 2).trans rfl; have hcz30_3 : w29.cell? ⟨gb579, 3, none⟩ = some (.int .i64 0) := (blk_cell BK579.out 3).trans rfl; have hcz30_4 : w29.cell? ⟨gb579, 4, none⟩ = some (.int .i64 0) := (blk_cell BK579.out 4).trans rfl; have hfz30_0 := blk_frozen BK579.out 0; have hfz30_1 := blk_frozen BK579.out 1; have hfz30_2 := blk_frozen BK579.out 2; have hfz30_3 := blk_frozen BK579.out 3; have hfz30_4 := blk_frozen BK579.out 4))
                    go_roundg k1
                    case measure => have := HK1.out; omega
                    case rel => exact ⟨((((rd_T27 l0 x16_1).f0) == 2)), ((((rd_T27 l0 x16_1).f0) == 3)), ((((rd_T27 l0 x16_1).f0) == 4)), (wrap64 (x16_1 + 1)), (by first | rfl | (simp; done) | (simp [*]; done)), (by first | rfl | (simp; done) | (simp [*]; done)), (by first | rfl | (simp; done) | (simp [*]; done)), (by first | rfl | (simp; done) | (simp [*]; done)), H', ⟨by have := HK1.out; omega⟩, ⟨by repeat (first | (with_reducible first | exact HB.out | apply below_alloc | apply pw_below_drewN | apply below_drew1 | refine below_set ?_ GE579.out) | exact HB.out)⟩⟩
            · rw [if_neg c7] at H
              exact absurd H (by simp)
          · rw [if_neg c6] at H
            exact absurd H (by simp)
        · rw [if_neg c5] at H
          have c5b0 : decide (x16_1 < (l0.length : Int)) = false := decide_eq_false c5
          clear c5
          simp only [Option.some.injEq, Prod.mk.injEq] at H
          obtain ⟨rfl, rfl, rfl, rfl⟩ := H
          go_wp2
          refine bodyPost_ret (results_list (rs := [.tmp 2, .tmp 3, .tmp 4, .tmp 5]) rfl (by simp) (.tmp (.tmp (.tmp (.tmp .nil))))) rfl ?_
          exact ⟨by first | rfl | (simp [errW_none, errW_some] <;> rfl) | (simp [*, errW_none, errW_some] <;> rfl), by repeat (first | (with_reducible first | exact HB.out | apply below_alloc | apply pw_below_drewN | apply below_drew1) | exact HB.out)⟩
  · rw [if_neg c3] at H
    have c3b0 : (t577 == 0) = false := beq_eq_false_iff_ne.mpr c3
    have c3b1 : (t577 != 0) = true := bne_iff_ne.mpr c3
    simp only [Option.some.injEq, Prod.mk.injEq] at H
    obtain ⟨rfl, rfl, rfl, rfl⟩ := H
    go_enter Try.func36, Try.ntmps36
    go_wp2_with (first | ((with_reducible refine gate_callee (f := 54) rfl ?_); refine goesL_ (some 10) rfl rfl Try.func54 (by kernel_rfl) rfl #[.slice A0 l0.length c0] rfl (by (try simp only [List.map_toArray, List.map_cons, List.map_nil]); first | done | rfl | (simp only [List.length_drop, List.length_take]; rfl)) ?_; (with_reducible refine (evals_check.calls _ _ l0 t577 _ ?side1 ?side2 A2.out).mono ?_); (case side1 => repeat (first | exact HR0.out | (with_reducible refine Kd.C_alloc ?_ _) | (with_reducible refine Kd.C_drewN ?_ _) | (with_reducible refine Kd.C_drew ?_))); (case side2 => exact HC0.out); rintro e w31 ⟨rfl, hb⟩; refine ⟨_, rfl, ?_⟩; have n0_ := Aside0.mk (below_step (by repeat (first | (with_reducible first | exact HB.out | apply below_alloc | apply pw_below_drewN | apply below_drew1) | exact HB.out)) hb); clear HB; have HB := n0_; clear n0_; (try clear hb); (try clear hb2); (try clear hk); (try clear hi)))
    refine bodyPost_ret (results_list (rs := [.tmp 2, .tmp 3, .tmp 4, .tmp 5]) rfl (by simp) (.tmp (.tmp (.tmp (.tmp .nil))))) rfl ?_
    exact ⟨by first | rfl | (simp [errW_none, errW_some] <;> rfl) | (simp [*, errW_none, errW_some] <;> rfl), by repeat (first | (with_reducible first | exact HB.out | apply below_alloc | apply pw_below_drewN | apply below_drew1) | exact HB.out)⟩

end Go.Proofs.Ytijdckamblaflaa.M
