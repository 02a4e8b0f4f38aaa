import Derived.Test.YtcdgohoinmbpfaaKFilterTwice6
namespace Go.Proofs.Ytcdgohoinmbpfaa.M
open Go.RowKit Go.Proofs.YtcdgohoinmbpfaaW.PrintWords Go.Proofs.YtcdgohoinmbpfaaW.PrintLast Go.Proofs.YtcdgohoinmbpfaaW.PrintMore
attribute [local go_sem] max2_int min2_int max_two min_two
set_option linter.unusedVariables false
set_option linter.unusedSimpArgs false

mutual
def clauses_Window.j0 : Nat → Bool → Int → Int → Int → Option (Int)
 | 0, _, _, _, _ => none
 | k + 1, x10, x138000, x138001, x138002 => if x10 = true then (some 8) else (if x138000 = 2 then (if x138002 ≥ 1 then (if x138002 ≤ x138001 then (clauses_Window.j1 k (decide (x138001 ≤ (wrap64 (16 * x138002))))) else (clauses_Window.j1 k false)) else (clauses_Window.j1 k false)) else (if x138000 = 1 then (if x138002 = 0 then (some 0) else (some 8)) else (if x138000 = 3 then (if x138002 = 0 then (some 0) else (some 8)) else (some 8))))
def clauses_Window.j1 : Nat → Bool → Option (Int)
 | 0, _ => none
 | k + 1, x36 => if x36 = true then (some 0) else (some 8)
end
def clauses_Window.f (k : Nat) (a0_0 : Int) (a0_1 : Int) (a0_2 : Int) : Option (Int) := if a0_1 < 1 then (clauses_Window.j0 k true a0_0 a0_1 a0_2) else (clauses_Window.j0 k (decide (a0_1 > 1073741824)) a0_0 a0_1 a0_2)
set_option maxHeartbeats 8000000 in
set_option maxRecDepth 100000 in
theorem clauses_Window.calls (k : Nat) (a0_0 : Int) (a0_1 : Int) (a0_2 : Int) (r : Int) (w : World) (h : clauses_Window.f k a0_0 a0_1 a0_2 = some r) :
  Calls Try.prog 85 #[.agg #[.int .u8 a0_0, .int .i64 a0_1, .int .i64 a0_2]] w fun e w' => e = .returned (.int .i64 r) ∧ Below w.heap.size w w' := by
 have hu39 := Try.underlying39
 have HB := am (Below.refl w.heap.size w)
 have H : (if a0_1 < 1 then (clauses_Window.j0 k true a0_0 a0_1 a0_2) else (clauses_Window.j0 k (decide (a0_1 > 1073741824)) a0_0 a0_1 a0_2)) = some r := h
 clear h
 have HC2 := am H
 clear H
 go_enter Try.func85, Try.ntmps85
 go_upto_region 1 with (first | ((with_reducible refine gate_dst (N := 1) rfl ?_); refine box_event ?hg (N := 1) ?hd (cs := #[.int .u8 a0_0, .int .i64 a0_1, .int .i64 a0_2]) (t := 39) ?hr ?_; (case hd => rfl); (case hg => rfl); (case hr => first | (go_simp; done) | (go_simp; rfl)); intro gb137 hg w3 hbox hb; have BK137 := am (hbox); have GW137 := am ((by rw [hg]; exact (below_size (by repeat (first | (with_reducible first | exact HB.out | apply below_alloc | apply pw_below_drewN | apply below_drew1) | exact HB.out))) : w.heap.size ≤ gb137)); have GE137 := am ((by rw [hg]; exact (below_size (by repeat (first | (with_reducible first | exact HB.out | apply below_alloc | apply pw_below_drewN | apply below_drew1) | exact HB.out))) : w.heap.size ≤ gb137)); replace HB := am (below_step (by repeat (first | (with_reducible first | exact HB.out | apply below_alloc | apply pw_below_drewN | apply below_drew1) | exact HB.out)) hb); clear hb hbox hg))
 (try simp only [Act.put, List.setIfInBounds_toArray, List.set_cons_zero, List.set_cons_succ])
 go_cut [10] (fun v10 wc => ∃ (kq : Nat) (x10_1 : Bool), v10 = .bool x10_1 ∧ Aside0 (clauses_Window.j0 kq x10_1 a0_0 a0_1 a0_2 = some r) ∧ Aside0 (kq ≤ k) ∧ Aside0 (wc.heap[gb137]? = some (.cells #[.int .u8 a0_0, .int .i64 a0_1, .int .i64 a0_2] 39 (0, 0))) ∧ Aside0 (Below w.heap.size w wc))
 case first =>
  have H := HC2.out
  clear HC2
  by_cases c4 : a0_1 < 1
  ·rw [if_pos c4] at H
   have c4b0 : decide (a0_1 < 1) = true := decide_eq_true c4
   clear c4
   (first | rw [c4b0] | (simp only [i64_w, i32_w]; rw [c4b0]) | skip)
   have H' := am H
   clear H
   have z5_0 : w3.cell? ⟨gb137, 0, none⟩ = some (.int .u8 a0_0) := (blk_cell BK137.out 0).trans rfl
   have z5_1 : w3.cell? ⟨gb137, 1, none⟩ = some (.int .i64 a0_1) := (blk_cell BK137.out 1).trans rfl
   have z5_2 : w3.cell? ⟨gb137, 2, none⟩ = some (.int .i64 a0_2) := (blk_cell BK137.out 2).trans rfl
   have y5_0 := blk_frozen BK137.out 0
   have y5_1 := blk_frozen BK137.out 1
   have y5_2 := blk_frozen BK137.out 2
   go_wp2
   go_meet
   case rel => exact ⟨_, (true), (by first | rfl | (simp; done) | (simp [*]; done)), H', ⟨by first | omega | exact Nat.le_refl _⟩, ⟨by (with_reducible repeat (first | refine blk_drewN ?_ _ | refine blk_drew ?_ | refine blk_alloc ?_ _)); exact BK137.out⟩, ⟨by repeat (first | (with_reducible first | exact HB.out | apply below_alloc | apply pw_below_drewN | apply below_drew1 | refine below_set ?_ GE137.out) | exact HB.out)⟩⟩
  ·rw [if_neg c4] at H
   have c4b0 : decide (a0_1 < 1) = false := decide_eq_false c4
   clear c4
   (first | rw [c4b0] | (simp only [i64_w, i32_w]; rw [c4b0]) | skip)
   have H' := am H
   clear H
   have z6_0 : w3.cell? ⟨gb137, 0, none⟩ = some (.int .u8 a0_0) := (blk_cell BK137.out 0).trans rfl
   have z6_1 : w3.cell? ⟨gb137, 1, none⟩ = some (.int .i64 a0_1) := (blk_cell BK137.out 1).trans rfl
   have z6_2 : w3.cell? ⟨gb137, 2, none⟩ = some (.int .i64 a0_2) := (blk_cell BK137.out 2).trans rfl
   have y6_0 := blk_frozen BK137.out 0
   have y6_1 := blk_frozen BK137.out 1
   have y6_2 := blk_frozen BK137.out 2
   go_wp2
   go_meet
   case rel => exact ⟨_, (decide (a0_1 > 1073741824)), (by first | rfl | (simp; done) | (simp [*]; done)), H', ⟨by first | omega | exact Nat.le_refl _⟩, ⟨by (with_reducible repeat (first | refine blk_drewN ?_ _ | refine blk_drew ?_ | refine blk_alloc ?_ _)); exact BK137.out⟩, ⟨by repeat (first | (with_reducible first | exact HB.out | apply below_alloc | apply pw_below_drewN | apply below_drew1 | refine below_set ?_ GE137.out) | exact HB.out)⟩⟩
 case rest =>
  clear HC2
  try clear p2
  try clear c4
  try clear c4b0
  try clear z5_0 z5_1 z5_2 y5_0 y5_1 y5_2
  try clear z6_0 z6_1 z6_2 y6_0 y6_1 y6_2
  obtain ⟨kq, x10_1, rfl, HA, HJ1, BK137, HB⟩ := hcut
  cases kq with
  | zero => exact absurd HA.out (by simp [clauses_Window.j0])
  | succ kj1 =>
   have H := HA.out
   clear HA
   simp only [clauses_Window.j0] at H
   by_cases c7 : x10_1 = true
   ·subst c7
    rw [if_pos rfl] at H
    obtain rfl := Option.some.inj H
    go_wp2
    go_ret
    exact ⟨by first | rfl | (simp [errW_none, errW_some] <;> rfl) | (simp [*, errW_none, errW_some] <;> rfl), by repeat (first | (with_reducible first | exact HB.out | apply below_alloc | apply pw_below_drewN | apply below_drew1 | refine below_set ?_ GE137.out) | exact HB.out)⟩
   ·replace c7 := Bool.eq_false_iff.mpr c7
    subst c7
    rw [if_neg (show ¬ (false = true) by decide)] at H
    by_cases c8 : a0_0 = 2
    ·rw [if_pos c8] at H
     have c8b0 : (a0_0 == 2) = true := beq_iff_eq.mpr c8
     have c8b1 : (a0_0 != 2) = false := bne_eq_false_iff_eq.mpr c8
     clear c8
     have HC9 := am H
     clear H
     have z10_0 : wc.cell? ⟨gb137, 0, none⟩ = some (.int .u8 a0_0) := (blk_cell BK137.out 0).trans rfl
     have z10_1 : wc.cell? ⟨gb137, 1, none⟩ = some (.int .i64 a0_1) := (blk_cell BK137.out 1).trans rfl
     have z10_2 : wc.cell? ⟨gb137, 2, none⟩ = some (.int .i64 a0_2) := (blk_cell BK137.out 2).trans rfl
     have y10_0 := blk_frozen BK137.out 0
     have y10_1 := blk_frozen BK137.out 1
     have y10_2 := blk_frozen BK137.out 2
     go_upto_region 7 with (fail)
     go_cut [36] (fun v36 wc => ∃ (kq : Nat) (x36_8 : Bool), v36 = .bool x36_8 ∧ Aside0 (clauses_Window.j1 kq x36_8 = some r) ∧ Aside0 (kq ≤ kj1) ∧ Aside0 (wc.heap[gb137]? = some (.cells #[.int .u8 a0_0, .int .i64 a0_1, .int .i64 a0_2] 39 (0, 0))) ∧ Aside0 (Below w.heap.size w wc))
     case first =>
      have H := HC9.out
      clear HC9
      by_cases c11 : a0_2 ≥ 1
      ·rw [if_pos c11] at H
       have c11b0 : decide (1 ≤ a0_2) = true := decide_eq_true c11
       clear c11
       (first | rw [c11b0] | (simp only [i64_w, i32_w]; rw [c11b0]) | skip)
       by_cases c12 : a0_2 ≤ a0_1
       ·rw [if_pos c12] at H
        have c12b0 : decide (a0_2 ≤ a0_1) = true := decide_eq_true c12
        clear c12
        have H' := am H
        clear H
        have z13_0 : wc.cell? ⟨gb137, 0, none⟩ = some (.int .u8 a0_0) := (blk_cell BK137.out 0).trans rfl
        have z13_1 : wc.cell? ⟨gb137, 1, none⟩ = some (.int .i64 a0_1) := (blk_cell BK137.out 1).trans rfl
        have z13_2 : wc.cell? ⟨gb137, 2, none⟩ = some (.int .i64 a0_2) := (blk_cell BK137.out 2).trans rfl
        have y13_0 := blk_frozen BK137.out 0
        have y13_1 := blk_frozen BK137.out 1
        have y13_2 := blk_frozen BK137.out 2
        go_wp2
        go_meet
        case rel => exact ⟨_, (decide (a0_1 ≤ (wrap64 (16 * a0_2)))), (by first | rfl | (simp; done) | (simp [*]; done)), H', ⟨by have := HJ1.out; first | omega | exact Nat.le_refl _⟩, ⟨by (with_reducible repeat (first | refine blk_drewN ?_ _ | refine blk_drew ?_ | refine blk_alloc ?_ _)); exact BK137.out⟩, ⟨by repeat (first | (with_reducible first | exact HB.out | apply below_alloc | apply pw_below_drewN | apply below_drew1 | refine below_set ?_ GE137.out) | exact HB.out)⟩⟩
       ·rw [if_neg c12] at H
        have c12b0 : decide (a0_2 ≤ a0_1) = false := decide_eq_false c12
        clear c12
        have H' := am H
        clear H
        have z14_0 : wc.cell? ⟨gb137, 0, none⟩ = some (.int .u8 a0_0) := (blk_cell BK137.out 0).trans rfl
        have z14_1 : wc.cell? ⟨gb137, 1, none⟩ = some (.int .i64 a0_1) := (blk_cell BK137.out 1).trans rfl
        have z14_2 : wc.cell? ⟨gb137, 2, none⟩ = some (.int .i64 a0_2) := (blk_cell BK137.out 2).trans rfl
        have y14_0 := blk_frozen BK137.out 0
        have y14_1 := blk_frozen BK137.out 1
        have y14_2 := blk_frozen BK137.out 2
        go_wp2
        go_meet
        case rel => exact ⟨_, (false), (by first | rfl | (simp; done) | (simp [*]; done)), H', ⟨by have := HJ1.out; first | omega | exact Nat.le_refl _⟩, ⟨by (with_reducible repeat (first | refine blk_drewN ?_ _ | refine blk_drew ?_ | refine blk_alloc ?_ _)); exact BK137.out⟩, ⟨by repeat (first | (with_reducible first | exact HB.out | apply below_alloc | apply pw_below_drewN | apply below_drew1 | refine below_set ?_ GE137.out) | exact HB.out)⟩⟩
      ·rw [if_neg c11] at H
       have c11b0 : decide (1 ≤ a0_2) = false := decide_eq_false c11
       clear c11
       (first | rw [c11b0] | (simp only [i64_w, i32_w]; rw [c11b0]) | skip)
       have H' := am H
       clear H
       have z15_0 : wc.cell? ⟨gb137, 0, none⟩ = some (.int .u8 a0_0) := (blk_cell BK137.out 0).trans rfl
       have z15_1 : wc.cell? ⟨gb137, 1, none⟩ = some (.int .i64 a0_1) := (blk_cell BK137.out 1).trans rfl
       have z15_2 : wc.cell? ⟨gb137, 2, none⟩ = some (.int .i64 a0_2) := (blk_cell BK137.out 2).trans rfl
       have y15_0 := blk_frozen BK137.out 0
       have y15_1 := blk_frozen BK137.out 1
       have y15_2 := blk_frozen BK137.out 2
       go_wp2
       go_meet
       case rel => exact ⟨_, (false), (by first | rfl | (simp; done) | (simp [*]; done)), H', ⟨by have := HJ1.out; first | omega | exact Nat.le_refl _⟩, ⟨by (with_reducible repeat (first | refine blk_drewN ?_ _ | refine blk_drew ?_ | refine blk_alloc ?_ _)); exact BK137.out⟩, ⟨by repeat (first | (with_reducible first | exact HB.out | apply below_alloc | apply pw_below_drewN | apply below_drew1 | refine below_set ?_ GE137.out) | exact HB.out)⟩⟩
     case rest =>
      clear HC9
      try clear c1
      try clear p2
      try clear c4
      try clear c4b0
      try clear p6
      try clear c7
      try clear c8
      try clear c8b0
      try clear c8b1
      try clear c11
      try clear c11b0
      try clear c12
      try clear c12b0
      try clear z10_0 z10_1 z10_2 y10_0 y10_1 y10_2
      try clear z13_0 z13_1 z13_2 y13_0 y13_1 y13_2
      try clear z14_0 z14_1 z14_2 y14_0 y14_1 y14_2
      try clear z15_0 z15_1 z15_2 y15_0 y15_1 y15_2
      try clear z5_0 z5_1 z5_2 y5_0 y5_1 y5_2
      try clear z6_0 z6_1 z6_2 y6_0 y6_1 y6_2
      try clear p2
      obtain ⟨kq, x36_8, rfl, HA, HJ8, BK137, HB⟩ := hcut
      cases kq with
      | zero => exact absurd HA.out (by simp [clauses_Window.j1])
      | succ kj8 =>
       have H := HA.out
       clear HA
       simp only [clauses_Window.j1] at H
       by_cases c16 : x36_8 = true
       ·subst c16
        rw [if_pos rfl] at H
        obtain rfl := Option.some.inj H
        go_wp2
        go_ret
        exact ⟨by first | rfl | (simp [errW_none, errW_some] <;> rfl) | (simp [*, errW_none, errW_some] <;> rfl), by repeat (first | (with_reducible first | exact HB.out | apply below_alloc | apply pw_below_drewN | apply below_drew1 | refine below_set ?_ GE137.out) | exact HB.out)⟩
       ·replace c16 := Bool.eq_false_iff.mpr c16
        subst c16
        rw [if_neg (show ¬ (false = true) by decide)] at H
        obtain rfl := Option.some.inj H
        go_wp2
        go_ret
        exact ⟨by first | rfl | (simp [errW_none, errW_some] <;> rfl) | (simp [*, errW_none, errW_some] <;> rfl), by repeat (first | (with_reducible first | exact HB.out | apply below_alloc | apply pw_below_drewN | apply below_drew1 | refine below_set ?_ GE137.out) | exact HB.out)⟩
    ·rw [if_neg c8] at H
     have c8b0 : (a0_0 == 2) = false := beq_eq_false_iff_ne.mpr c8
     have c8b1 : (a0_0 != 2) = true := bne_iff_ne.mpr c8
     by_cases c17 : a0_0 = 1
     ·rw [if_pos c17] at H
      have c17b0 : (a0_0 == 1) = true := beq_iff_eq.mpr c17
      have c17b1 : (a0_0 != 1) = false := bne_eq_false_iff_eq.mpr c17
      clear c17
      by_cases c18 : a0_2 = 0
      ·rw [if_pos c18] at H
       have c18b0 : (a0_2 == 0) = true := beq_iff_eq.mpr c18
       have c18b1 : (a0_2 != 0) = false := bne_eq_false_iff_eq.mpr c18
       clear c18
       obtain rfl := Option.some.inj H
       have z19_0 : wc.cell? ⟨gb137, 0, none⟩ = some (.int .u8 a0_0) := (blk_cell BK137.out 0).trans rfl
       have z19_1 : wc.cell? ⟨gb137, 1, none⟩ = some (.int .i64 a0_1) := (blk_cell BK137.out 1).trans rfl
       have z19_2 : wc.cell? ⟨gb137, 2, none⟩ = some (.int .i64 a0_2) := (blk_cell BK137.out 2).trans rfl
       have y19_0 := blk_frozen BK137.out 0
       have y19_1 := blk_frozen BK137.out 1
       have y19_2 := blk_frozen BK137.out 2
       go_wp2
       go_ret
       exact ⟨by first | rfl | (simp [errW_none, errW_some] <;> rfl) | (simp [*, errW_none, errW_some] <;> rfl), by repeat (first | (with_reducible first | exact HB.out | apply below_alloc | apply pw_below_drewN | apply below_drew1 | refine below_set ?_ GE137.out) | exact HB.out)⟩
      ·rw [if_neg c18] at H
       have c18b0 : (a0_2 == 0) = false := beq_eq_false_iff_ne.mpr c18
       have c18b1 : (a0_2 != 0) = true := bne_iff_ne.mpr c18
       obtain rfl := Option.some.inj H
       have z20_0 : wc.cell? ⟨gb137, 0, none⟩ = some (.int .u8 a0_0) := (blk_cell BK137.out 0).trans rfl
       have z20_1 : wc.cell? ⟨gb137, 1, none⟩ = some (.int .i64 a0_1) := (blk_cell BK137.out 1).trans rfl
       have z20_2 : wc.cell? ⟨gb137, 2, none⟩ = some (.int .i64 a0_2) := (blk_cell BK137.out 2).trans rfl
       have y20_0 := blk_frozen BK137.out 0
       have y20_1 := blk_frozen BK137.out 1
       have y20_2 := blk_frozen BK137.out 2
       go_wp2
       go_ret
       exact ⟨by first | rfl | (simp [errW_none, errW_some] <;> rfl) | (simp [*, errW_none, errW_some] <;> rfl), by repeat (first | (with_reducible first | exact HB.out | apply below_alloc | apply pw_below_drewN | apply below_drew1 | refine below_set ?_ GE137.out) | exact HB.out)⟩
     ·rw [if_neg c17] at H
      have c17b0 : (a0_0 == 1) = false := beq_eq_false_iff_ne.mpr c17
      have c17b1 : (a0_0 != 1) = true := bne_iff_ne.mpr c17
      by_cases c21 : a0_0 = 3
      ·rw [if_pos c21] at H
       have c21b0 : (a0_0 == 3) = true := beq_iff_eq.mpr c21
       have c21b1 : (a0_0 != 3) = false := bne_eq_false_iff_eq.mpr c21
       clear c21
       by_cases c22 : a0_2 = 0
       ·rw [if_pos c22] at H
        have c22b0 : (a0_2 == 0) = true := beq_iff_eq.mpr c22
        have c22b1 : (a0_2 != 0) = false := bne_eq_false_iff_eq.mpr c22
        clear c22
        obtain rfl := Option.some.inj H
        have z23_0 : wc.cell? ⟨gb137, 0, none⟩ = some (.int .u8 a0_0) := (blk_cell BK137.out 0).trans rfl
        have z23_1 : wc.cell? ⟨gb137, 1, none⟩ = some (.int .i64 a0_1) := (blk_cell BK137.out 1).trans rfl
        have z23_2 : wc.cell? ⟨gb137, 2, none⟩ = some (.int .i64 a0_2) := (blk_cell BK137.out 2).trans rfl
        have y23_0 := blk_frozen BK137.out 0
        have y23_1 := blk_frozen BK137.out 1
        have y23_2 := blk_frozen BK137.out 2
        go_wp2
        go_ret
        exact ⟨by first | rfl | (simp [errW_none, errW_some] <;> rfl) | (simp [*, errW_none, errW_some] <;> rfl), by repeat (first | (with_reducible first | exact HB.out | apply below_alloc | apply pw_below_drewN | apply below_drew1 | refine below_set ?_ GE137.out) | exact HB.out)⟩
       ·rw [if_neg c22] at H
        have c22b0 : (a0_2 == 0) = false := beq_eq_false_iff_ne.mpr c22
        have c22b1 : (a0_2 != 0) = true := bne_iff_ne.mpr c22
        obtain rfl := Option.some.inj H
        have z24_0 : wc.cell? ⟨gb137, 0, none⟩ = some (.int .u8 a0_0) := (blk_cell BK137.out 0).trans rfl
        have z24_1 : wc.cell? ⟨gb137, 1, none⟩ = some (.int .i64 a0_1) := (blk_cell BK137.out 1).trans rfl
        have z24_2 : wc.cell? ⟨gb137, 2, none⟩ = some (.int .i64 a0_2) := (blk_cell BK137.out 2).trans rfl
        have y24_0 := blk_frozen BK137.out 0
        have y24_1 := blk_frozen BK137.out 1
        have y24_2 := blk_frozen BK137.out 2
        go_wp2
        go_ret
        exact ⟨by first | rfl | (simp [errW_none, errW_some] <;> rfl) | (simp [*, errW_none, errW_some] <;> rfl), by repeat (first | (with_reducible first | exact HB.out | apply below_alloc | apply pw_below_drewN | apply below_drew1 | refine below_set ?_ GE137.out) | exact HB.out)⟩
      ·rw [if_neg c21] at H
       have c21b0 : (a0_0 == 3) = false := beq_eq_false_iff_ne.mpr c21
       have c21b1 : (a0_0 != 3) = true := bne_iff_ne.mpr c21
       obtain rfl := Option.some.inj H
       have z25_0 : wc.cell? ⟨gb137, 0, none⟩ = some (.int .u8 a0_0) := (blk_cell BK137.out 0).trans rfl
       have z25_1 : wc.cell? ⟨gb137, 1, none⟩ = some (.int .i64 a0_1) := (blk_cell BK137.out 1).trans rfl
       have z25_2 : wc.cell? ⟨gb137, 2, none⟩ = some (.int .i64 a0_2) := (blk_cell BK137.out 2).trans rfl
       have y25_0 := blk_frozen BK137.out 0
       have y25_1 := blk_frozen BK137.out 1
       have y25_2 := blk_frozen BK137.out 2
       go_wp2
       go_ret
       exact ⟨by first | rfl | (simp [errW_none, errW_some] <;> rfl) | (simp [*, errW_none, errW_some] <;> rfl), by repeat (first | (with_reducible first | exact HB.out | apply below_alloc | apply pw_below_drewN | apply below_drew1 | refine below_set ?_ GE137.out) | exact HB.out)⟩

end Go.Proofs.Ytcdgohoinmbpfaa.M
namespace Go.Proofs.Ytcdgohoinmbpfaa.M
open Go.RowKit Go.Proofs.YtcdgohoinmbpfaaW.PrintWords Go.Proofs.YtcdgohoinmbpfaaW.PrintLast Go.Proofs.YtcdgohoinmbpfaaW.PrintMore

abbrev Nd := S61
abbrev Tp := S165
def np (k : Int) : Option Nat := if 1 ≤ k ∧ k ≤ 4 then some 0 else if k = 5 ∨ k = 6 then some 1 else if 7 ≤ k ∧ k ≤ 19 then some 2 else none
def offB (x : Nd) (a b : Int) : Bool := !((if x.f0 = 1 then mx x.f1 0 else 0) == x.f1) || (!(a == x.f2) || (!(b == x.f3) || !(mn (mx x.f4 0) 400 == x.f4)))
def tA : List Tp → Int
  | [] => 0
  | p :: _ => p.f0
def tB (ys : List Tp) : Int := if ys.length ≤ 1 then 0 else (ys.getLastD z165).f0
def tS (ys : List Tp) : Int := ys.foldl (fun s p => wrap64 (s + p.f1)) 1
def tD (ys : List Tp) : Int := ys.foldl (fun d p => mx d (wrap64 (p.f2 + 1))) 1
theorem tA_snoc (l : List Tp) (p : Tp) : tA (l ++ [p]) = if l.length = 0 then p.f0 else tA l := by
  cases l <;> simp [tA]
theorem tB_snoc (l : List Tp) (p : Tp) : tB (l ++ [p]) = if l.length = 0 then 0 else p.f0 := by
  unfold tB
  rw [List.getLastD_eq_getLast?, List.getLast?_concat]
  cases l <;> simp
theorem tS_snoc (l : List Tp) (p : Tp) : tS (l ++ [p]) = wrap64 (tS l + p.f1) := by simp [tS]
theorem tD_snoc (l : List Tp) (p : Tp) : tD (l ++ [p]) = mx (tD l) (wrap64 (p.f2 + 1)) := by simp [tD]
def tstep (i : Int) (x : Nd) (stk : List Tp) : Option (List Tp × Tp) :=
  match np x.f0 with
  | none => none
  | some n => if stk.length < n then none else
    if offB x (tA (stk.drop (stk.length - n))) (tB (stk.drop (stk.length - n))) = true then none else
    some (stk.take (stk.length - n) ++ [⟨i, tS (stk.drop (stk.length - n)), tD (stk.drop (stk.length - n))⟩], ⟨i, tS (stk.drop (stk.length - n)), tD (stk.drop (stk.length - n))⟩)
def topsGo : List Nd → Nat → List Tp → List Tp → List Tp × Bool
  | [], _, all, stk => (all, (stk.length : Int) == 1)
  | x :: l, i, all, stk => match tstep i x stk with
    | none => (all, false)
    | some (stk', t) => topsGo l (i + 1) (all ++ [t]) stk'
def nodes_tops.f (l0 : List Nd) : List Tp × Bool := topsGo l0 0 [] []
def nodes_check.f (l0 : List S61) : Option ((List (S165)) × Int) :=
  if l0.length > 60 then some ([], 4) else
  match nodes_tops.f l0 with
  | (_, false) => some ([], 8)
  | (all, true) => match all.getLast? with
    | none => none
    | some t => if t.f2 > 20 then some ([], 34) else some (all, 0)

end Go.Proofs.Ytcdgohoinmbpfaa.M
namespace Go.Proofs.Ytcdgohoinmbpfaa.M
open Go.RowKit Go.Proofs.YtcdgohoinmbpfaaW.PrintWords Go.Proofs.YtcdgohoinmbpfaaW.PrintLast Go.Proofs.YtcdgohoinmbpfaaW.PrintMore
set_option linter.unusedVariables false
set_option linter.unusedSimpArgs false

def nodes_pop.Post (W0 w : World) (base : Nat) (ok : Nat → Prop) (v : Value) (xs ys : List S165) (e : Ending) (w' : World) : Prop :=
  ∃ v1 A c, e = .returned (.tuple #[v1, .slice A ys.length c]) ∧ v1.ownBlock = v.ownBlock ∧ Kd.R k165 165 W0 base ok v1 xs ∧ Kd.C k165 W0 A ys.length ys ∧ Drawn0 w w'
set_option maxHeartbeats 800000 in
set_option maxRecDepth 100000 in
theorem nodes_pop.calls (xs ys : List S165) (v : Value) (base : Nat) (ok : Nat → Prop) (W0 : World) (ho : Kd.R k165 165 W0 base ok v (xs ++ ys)) (w : World) (n : Int) (hn : n = ys.length) :
    Calls Try.prog 101 #[v, .int .i64 n] w (nodes_pop.Post W0 w base ok v xs ys) := by
  obtain ⟨A, c, rfl, hc, hC⟩ := Kd.R_reads ho
  have hl : (xs ++ ys).length = xs.length + ys.length := List.length_append
  have hm : (xs ++ ys).length ≤ 9223372036854775807 := hC.2.1
  obtain ⟨i0, hi0, _, hsz, _⟩ := info_parts info165
  have hto := cut_to (P := Try.prog) 154 165 .i64 Try.underlying154 hi0 A (xs ++ ys).length c (xs.length : Int) (by omega) (by omega) hc
  have hfr := cut_from (P := Try.prog) 154 165 .i64 Try.underlying154 hi0 3 hsz A (xs ++ ys).length c (xs.length : Int) (by omega) (by omega)
  rw [Int.toNat_natCast] at hto hfr
  obtain ⟨A2, hA2⟩ : ∃ A2, A2 = (if c = xs.length then A else A.map (·.add (xs.length * 3))) := ⟨_, rfl⟩
  rw [← hA2] at hfr
  have hT := am (Kd.R_take (m := xs.length) ho (by omega))
  have hD := am (Kd.C_drop (m := xs.length) hC (by omega) hc)
  have hsub : IntKind.i64.wrap (((xs ++ ys).length : Int) - n) = (xs.length : Int) := by
    rw [IntKind.wrap_i64]; omega
  obtain ⟨L, hL⟩ : ∃ L, L = (xs ++ ys).length := ⟨_, rfl⟩
  rw [← hL] at hto hfr hsub ⊢
  have hLL := am hL
  have hNN := am hn
  have hXY := am hl
  have hCC := am hC
  have hO := am ho
  have hAA := am hA2
  clear hL hn ho hC hl hm hc hA2
  go_enter Try.func101, Try.ntmps101
  go_wp2_with fail
  go_quiet (fail)
  go_wp2_with fail
  go_ret2
  refine ⟨.slice A xs.length c, A2, c - xs.length, ?_, by cases A <;> rfl, ?_, ?_, ⟨_, rfl⟩⟩
  · have : L - xs.length = ys.length := by have := hXY.out; have := hLL.out; omega
    rw [this]; rfl
  · have h1 := hT.out
    rwa [List.take_left] at h1
  · have h1 := hD.out
    rw [List.drop_left] at h1
    rw [hAA.out]
    exact h1

end Go.Proofs.Ytcdgohoinmbpfaa.M
namespace Go.Proofs.Ytcdgohoinmbpfaa.M
open Go.RowKit Go.Proofs.YtcdgohoinmbpfaaW.PrintWords Go.Proofs.YtcdgohoinmbpfaaW.PrintLast Go.Proofs.YtcdgohoinmbpfaaW.PrintMore
attribute [local go_sem] max2_int min2_int max_two min_two
set_option linter.unusedVariables false
set_option linter.unusedSimpArgs false

mutual
def nodes_Parts.j0 : Nat → Int → Bool → Option (Int × Int)
 | 0, _, _ => none
 | k + 1, x0, x4 => if x4 = true then (some (0, 0)) else (if x0 = 5 then (nodes_Parts.j1 k x0 true) else (nodes_Parts.j1 k x0 (x0 == 6)))
def nodes_Parts.j1 : Nat → Int → Bool → Option (Int × Int)
 | 0, _, _ => none
 | k + 1, x0, x11 => if x11 = true then (some (1, 0)) else (if x0 ≥ 7 then (if x0 ≤ 19 then (some (2, 0)) else (some (0, 2))) else (some (0, 2)))
end
def nodes_Parts.f (k : Nat) (a0 : Int) : Option (Int × Int) := if a0 ≥ 1 then (nodes_Parts.j0 k a0 (decide (a0 ≤ 4))) else (nodes_Parts.j0 k a0 false)
set_option maxHeartbeats 8000000 in
set_option maxRecDepth 100000 in
theorem nodes_Parts.calls (k : Nat) (a0 : Int) (r1 : Int) (r2 : Int) (w : World) (h : nodes_Parts.f k a0 = some (r1, r2)) :
  Calls Try.prog 100 #[.int .u8 a0] w fun e w' => e = .returned (.tuple #[.int .i64 r1, .int .i64 r2]) ∧ Drawn0 w w' := by
 have H : (if a0 ≥ 1 then (nodes_Parts.j0 k a0 (decide (a0 ≤ 4))) else (nodes_Parts.j0 k a0 false)) = some (r1, r2) := h
 clear h
 have HC2 := am H
 clear H
 go_enter Try.func100, Try.ntmps100
 go_upto_region 1 with (fail)
 go_cut [4] (fun v4 wc => ∃ (kq : Nat) (x4_1 : Bool), v4 = .bool x4_1 ∧ Aside0 (nodes_Parts.j0 kq a0 x4_1 = some (r1, r2)) ∧ Aside0 (kq ≤ k) ∧ Drawn0 w wc)
 case first =>
  have H := HC2.out
  clear HC2
  by_cases c3 : a0 ≥ 1
  ·rw [if_pos c3] at H
   have c3b0 : decide (1 ≤ a0) = true := decide_eq_true c3
   clear c3
   (first | rw [c3b0] | (simp only [i64_w, i32_w]; rw [c3b0]) | skip)
   have H' := am H
   clear H
   go_wp2
   go_meet
   case rel => exact ⟨_, (decide (a0 ≤ 4)), (by first | rfl | (simp; done) | (simp [*]; done)), H', ⟨by first | omega | exact Nat.le_refl _⟩, by repeat (first | exact Drawn0.refl _ | apply Drawn0.step)⟩
  ·rw [if_neg c3] at H
   have c3b0 : decide (1 ≤ a0) = false := decide_eq_false c3
   clear c3
   (first | rw [c3b0] | (simp only [i64_w, i32_w]; rw [c3b0]) | skip)
   have H' := am H
   clear H
   go_wp2
   go_meet
   case rel => exact ⟨_, (false), (by first | rfl | (simp; done) | (simp [*]; done)), H', ⟨by first | omega | exact Nat.le_refl _⟩, by repeat (first | exact Drawn0.refl _ | apply Drawn0.step)⟩
 case rest =>
  clear HC2
  try clear c1
  try clear p2
  try clear c3
  try clear c3b0
  obtain ⟨kq, x4_1, rfl, HA, HJ1, ⟨mc1, rfl⟩⟩ := hcut
  cases kq with
  | zero => exact absurd HA.out (by simp [nodes_Parts.j0])
  | succ kj1 =>
   have H := HA.out
   clear HA
   simp only [nodes_Parts.j0] at H
   by_cases c4 : x4_1 = true
   ·subst c4
    rw [if_pos rfl] at H
    simp only [Option.some.injEq, Prod.mk.injEq] at H
    obtain ⟨rfl, rfl⟩ := H
    go_wp2
    go_ret2
    exact ⟨by first | rfl | (simp; done) | (simp [*]; done), by repeat (first | exact Drawn0.refl _ | apply Drawn0.step)⟩
   ·replace c4 := Bool.eq_false_iff.mpr c4
    subst c4
    rw [if_neg (show ¬ (false = true) by decide)] at H
    have HC5 := am H
    clear H
    go_upto_region 3 with (fail)
    go_cut [11] (fun v11 wc => ∃ (kq : Nat) (x11_4 : Bool), v11 = .bool x11_4 ∧ Aside0 (nodes_Parts.j1 kq a0 x11_4 = some (r1, r2)) ∧ Aside0 (kq ≤ kj1) ∧ Drawn0 w wc)
    case first =>
     have H := HC5.out
     clear HC5
     by_cases c6 : a0 = 5
     ·rw [if_pos c6] at H
      have c6b0 : (a0 == 5) = true := beq_iff_eq.mpr c6
      have c6b1 : (a0 != 5) = false := bne_eq_false_iff_eq.mpr c6
      clear c6
      (first | rw [c6b0] | (simp only [i64_w, i32_w]; rw [c6b0]) | skip)
      have H' := am H
      clear H
      go_wp2
      go_meet
      case rel => exact ⟨_, (true), (by first | rfl | (simp; done) | (simp [*]; done)), H', ⟨by have := HJ1.out; first | omega | exact Nat.le_refl _⟩, by repeat (first | exact Drawn0.refl _ | apply Drawn0.step)⟩
     ·rw [if_neg c6] at H
      have c6b0 : (a0 == 5) = false := beq_eq_false_iff_ne.mpr c6
      have c6b1 : (a0 != 5) = true := bne_iff_ne.mpr c6
      (first | rw [c6b0] | (simp only [i64_w, i32_w]; rw [c6b0]) | skip)
      have H' := am H
      clear H
      go_wp2
      go_meet
      case rel => exact ⟨_, ((a0 == 6)), (by first | rfl | (simp; done) | (simp [*]; done)), H', ⟨by have := HJ1.out; first | omega | exact Nat.le_refl _⟩, by repeat (first | exact Drawn0.refl _ | apply Drawn0.step)⟩
    case rest =>
     clear HC5
     try clear c1
     try clear p2
     try clear c3
     try clear c3b0
     try clear c4
     try clear c6
     try clear c6b0
     try clear c6b1
     try clear p2
     obtain ⟨kq, x11_4, rfl, HA, HJ4, ⟨mc4, rfl⟩⟩ := hcut
     cases kq with
     | zero => exact absurd HA.out (by simp [nodes_Parts.j1])
     | succ kj4 =>
      have H := HA.out
      clear HA
      simp only [nodes_Parts.j1] at H
      by_cases c7 : x11_4 = true
      ·subst c7
       rw [if_pos rfl] at H
       simp only [Option.some.injEq, Prod.mk.injEq] at H
       obtain ⟨rfl, rfl⟩ := H
       go_wp2
       go_ret2
       exact ⟨by first | rfl | (simp; done) | (simp [*]; done), by repeat (first | exact Drawn0.refl _ | apply Drawn0.step)⟩
      ·replace c7 := Bool.eq_false_iff.mpr c7
       subst c7
       rw [if_neg (show ¬ (false = true) by decide)] at H
       by_cases c8 : a0 ≥ 7
       ·rw [if_pos c8] at H
        have c8b0 : decide (7 ≤ a0) = true := decide_eq_true c8
        clear c8
        by_cases c9 : a0 ≤ 19
        ·rw [if_pos c9] at H
         have c9b0 : decide (a0 ≤ 19) = true := decide_eq_true c9
         clear c9
         simp only [Option.some.injEq, Prod.mk.injEq] at H
         obtain ⟨rfl, rfl⟩ := H
         go_wp2
         go_ret2
         exact ⟨by first | rfl | (simp; done) | (simp [*]; done), by repeat (first | exact Drawn0.refl _ | apply Drawn0.step)⟩
        ·rw [if_neg c9] at H
         have c9b0 : decide (a0 ≤ 19) = false := decide_eq_false c9
         clear c9
         simp only [Option.some.injEq, Prod.mk.injEq] at H
         obtain ⟨rfl, rfl⟩ := H
         go_wp2
         go_ret2
         exact ⟨by first | rfl | (simp; done) | (simp [*]; done), by repeat (first | exact Drawn0.refl _ | apply Drawn0.step)⟩
       ·rw [if_neg c8] at H
        have c8b0 : decide (7 ≤ a0) = false := decide_eq_false c8
        clear c8
        simp only [Option.some.injEq, Prod.mk.injEq] at H
        obtain ⟨rfl, rfl⟩ := H
        go_wp2
        go_ret2
        exact ⟨by first | rfl | (simp; done) | (simp [*]; done), by repeat (first | exact Drawn0.refl _ | apply Drawn0.step)⟩

end Go.Proofs.Ytcdgohoinmbpfaa.M
