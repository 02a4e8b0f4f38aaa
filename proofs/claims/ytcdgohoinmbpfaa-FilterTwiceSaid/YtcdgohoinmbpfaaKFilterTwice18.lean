import Derived.Test.YtcdgohoinmbpfaaKFilterTwice6
import Derived.Test.YtcdgohoinmbpfaaKFilterTwice17
namespace Go.Proofs.Ytcdgohoinmbpfaa.M
open Go.RowKit Go.Proofs.YtcdgohoinmbpfaaW.PrintWords Go.Proofs.YtcdgohoinmbpfaaW.PrintLast Go.Proofs.YtcdgohoinmbpfaaW.PrintMore
attribute [local go_sem] max2_int min2_int max_two min_two
set_option linter.unusedVariables false
set_option linter.unusedSimpArgs false

def tailwaterref04_right.f (a0_0 : Int) (a0_1 : Int) (a0_2 : Int) (a0_3 : Int) (a0_4 : Int) (a1 : Int) (a2 : Int) : Option (Bool) := if a0_0 ≥ 1 then (if a0_0 ≤ 19 then (if a0_1 ≥ 0 then (if a0_1 = 0 then (if a0_4 ≥ 0 then (if a0_4 ≤ 400 then (if a0_2 = a1 then (some (a0_3 == a2)) else (some false)) else (some false)) else (some false)) else (if a0_0 = 1 then (if a0_4 ≥ 0 then (if a0_4 ≤ 400 then (if a0_2 = a1 then (some (a0_3 == a2)) else (some false)) else (some false)) else (some false)) else (some false))) else (some false)) else (some false)) else (some false)
set_option maxHeartbeats 8000000 in
set_option maxRecDepth 100000 in
theorem tailwaterref04_right.calls (a0_0 : Int) (a0_1 : Int) (a0_2 : Int) (a0_3 : Int) (a0_4 : Int) (a1 : Int) (a2 : Int) (r : Bool) (w : World) (h : tailwaterref04_right.f a0_0 a0_1 a0_2 a0_3 a0_4 a1 a2 = some r) :
  Calls Try.prog 91 #[.agg #[.int .u8 a0_0, .int .i64 a0_1, .int .i64 a0_2, .int .i64 a0_3, .int .i64 a0_4], .int .i64 a1, .int .i64 a2] w fun e w' => e = .returned (.bool r) ∧ Below w.heap.size w w' := by
 have hu61 := Try.underlying61
 have HB := am (Below.refl w.heap.size w)
 have H : (if a0_0 ≥ 1 then (if a0_0 ≤ 19 then (if a0_1 ≥ 0 then (if a0_1 = 0 then (if a0_4 ≥ 0 then (if a0_4 ≤ 400 then (if a0_2 = a1 then (some (a0_3 == a2)) else (some false)) else (some false)) else (some false)) else (if a0_0 = 1 then (if a0_4 ≥ 0 then (if a0_4 ≤ 400 then (if a0_2 = a1 then (some (a0_3 == a2)) else (some false)) else (some false)) else (some false)) else (some false))) else (some false)) else (some false)) else (some false)) = some r := h
 clear h
 by_cases c4 : a0_0 ≥ 1
 ·rw [if_pos c4] at H
  have c4b0 : decide (1 ≤ a0_0) = true := decide_eq_true c4
  clear c4
  by_cases c5 : a0_0 ≤ 19
  ·rw [if_pos c5] at H
   have c5b0 : decide (a0_0 ≤ 19) = true := decide_eq_true c5
   clear c5
   by_cases c6 : a0_1 ≥ 0
   ·rw [if_pos c6] at H
    have c6b0 : decide (0 ≤ a0_1) = true := decide_eq_true c6
    clear c6
    by_cases c7 : a0_1 = 0
    ·rw [if_pos c7] at H
     have c7b0 : (a0_1 == 0) = true := beq_iff_eq.mpr c7
     have c7b1 : (a0_1 != 0) = false := bne_eq_false_iff_eq.mpr c7
     clear c7
     by_cases c8 : a0_4 ≥ 0
     ·rw [if_pos c8] at H
      have c8b0 : decide (0 ≤ a0_4) = true := decide_eq_true c8
      clear c8
      by_cases c9 : a0_4 ≤ 400
      ·rw [if_pos c9] at H
       have c9b0 : decide (a0_4 ≤ 400) = true := decide_eq_true c9
       clear c9
       by_cases c10 : a0_2 = a1
       ·rw [if_pos c10] at H
        have c10b0 : (a0_2 == a1) = true := beq_iff_eq.mpr c10
        have c10b1 : (a0_2 != a1) = false := bne_eq_false_iff_eq.mpr c10
        clear c10
        obtain rfl := Option.some.inj H
        go_enter Try.func91, Try.ntmps91
        go_wp2_with (first | ((with_reducible refine gate_dst (N := 3) rfl ?_); refine box_event ?hg (N := 3) ?hd (cs := #[.int .u8 a0_0, .int .i64 a0_1, .int .i64 a0_2, .int .i64 a0_3, .int .i64 a0_4]) (t := 61) ?hr ?_; (case hd => rfl); (case hg => rfl); (case hr => first | (go_simp; done) | (go_simp; rfl)); intro gb622 hg w11 hbox hb; have BK622 := am (hbox); have GW622 := am ((by rw [hg]; exact (below_size (by exact belL HB.out)) : w.heap.size ≤ gb622)); have GE622 := am ((by rw [hg]; exact (below_size (by exact belL HB.out)) : w.heap.size ≤ gb622)); replace HB := am (below_step (by exact belL HB.out) hb); clear hb hbox hg; obtain ⟨z12_0, z12_1, z12_2, z12_3, z12_4, y12_0, y12_1, y12_2, y12_3, y12_4⟩ := box5 BK622.out))
        go_ret
        exact ⟨by first | rfl | (simp [errW_none, errW_some] <;> rfl) | (simp [*, errW_none, errW_some] <;> rfl), by repeat (with_reducible first | exact HB.out | refine belS ?_ | refine below_set ?_ GE622.out)⟩
       ·rw [if_neg c10] at H
        have c10b0 : (a0_2 == a1) = false := beq_eq_false_iff_ne.mpr c10
        have c10b1 : (a0_2 != a1) = true := bne_iff_ne.mpr c10
        obtain rfl := Option.some.inj H
        go_enter Try.func91, Try.ntmps91
        go_wp2_with (first | ((with_reducible refine gate_dst (N := 3) rfl ?_); refine box_event ?hg (N := 3) ?hd (cs := #[.int .u8 a0_0, .int .i64 a0_1, .int .i64 a0_2, .int .i64 a0_3, .int .i64 a0_4]) (t := 61) ?hr ?_; (case hd => rfl); (case hg => rfl); (case hr => first | (go_simp; done) | (go_simp; rfl)); intro gb622 hg w13 hbox hb; have BK622 := am (hbox); have GW622 := am ((by rw [hg]; exact (below_size (by exact belL HB.out)) : w.heap.size ≤ gb622)); have GE622 := am ((by rw [hg]; exact (below_size (by exact belL HB.out)) : w.heap.size ≤ gb622)); replace HB := am (below_step (by exact belL HB.out) hb); clear hb hbox hg; obtain ⟨z14_0, z14_1, z14_2, z14_3, z14_4, y14_0, y14_1, y14_2, y14_3, y14_4⟩ := box5 BK622.out))
        go_ret
        exact ⟨by first | rfl | (simp [errW_none, errW_some] <;> rfl) | (simp [*, errW_none, errW_some] <;> rfl), by repeat (with_reducible first | exact HB.out | refine belS ?_ | refine below_set ?_ GE622.out)⟩
      ·rw [if_neg c9] at H
       have c9b0 : decide (a0_4 ≤ 400) = false := decide_eq_false c9
       clear c9
       obtain rfl := Option.some.inj H
       go_enter Try.func91, Try.ntmps91
       go_wp2_with (first | ((with_reducible refine gate_dst (N := 3) rfl ?_); refine box_event ?hg (N := 3) ?hd (cs := #[.int .u8 a0_0, .int .i64 a0_1, .int .i64 a0_2, .int .i64 a0_3, .int .i64 a0_4]) (t := 61) ?hr ?_; (case hd => rfl); (case hg => rfl); (case hr => first | (go_simp; done) | (go_simp; rfl)); intro gb622 hg w15 hbox hb; have BK622 := am (hbox); have GW622 := am ((by rw [hg]; exact (below_size (by exact belL HB.out)) : w.heap.size ≤ gb622)); have GE622 := am ((by rw [hg]; exact (below_size (by exact belL HB.out)) : w.heap.size ≤ gb622)); replace HB := am (below_step (by exact belL HB.out) hb); clear hb hbox hg; obtain ⟨z16_0, z16_1, z16_2, z16_3, z16_4, y16_0, y16_1, y16_2, y16_3, y16_4⟩ := box5 BK622.out))
       go_ret
       exact ⟨by first | rfl | (simp [errW_none, errW_some] <;> rfl) | (simp [*, errW_none, errW_some] <;> rfl), by repeat (with_reducible first | exact HB.out | refine belS ?_ | refine below_set ?_ GE622.out)⟩
     ·rw [if_neg c8] at H
      have c8b0 : decide (0 ≤ a0_4) = false := decide_eq_false c8
      clear c8
      obtain rfl := Option.some.inj H
      go_enter Try.func91, Try.ntmps91
      go_wp2_with (first | ((with_reducible refine gate_dst (N := 3) rfl ?_); refine box_event ?hg (N := 3) ?hd (cs := #[.int .u8 a0_0, .int .i64 a0_1, .int .i64 a0_2, .int .i64 a0_3, .int .i64 a0_4]) (t := 61) ?hr ?_; (case hd => rfl); (case hg => rfl); (case hr => first | (go_simp; done) | (go_simp; rfl)); intro gb622 hg w17 hbox hb; have BK622 := am (hbox); have GW622 := am ((by rw [hg]; exact (below_size (by exact belL HB.out)) : w.heap.size ≤ gb622)); have GE622 := am ((by rw [hg]; exact (below_size (by exact belL HB.out)) : w.heap.size ≤ gb622)); replace HB := am (below_step (by exact belL HB.out) hb); clear hb hbox hg; obtain ⟨z18_0, z18_1, z18_2, z18_3, z18_4, y18_0, y18_1, y18_2, y18_3, y18_4⟩ := box5 BK622.out))
      go_ret
      exact ⟨by first | rfl | (simp [errW_none, errW_some] <;> rfl) | (simp [*, errW_none, errW_some] <;> rfl), by repeat (with_reducible first | exact HB.out | refine belS ?_ | refine below_set ?_ GE622.out)⟩
    ·rw [if_neg c7] at H
     have c7b0 : (a0_1 == 0) = false := beq_eq_false_iff_ne.mpr c7
     have c7b1 : (a0_1 != 0) = true := bne_iff_ne.mpr c7
     by_cases c19 : a0_0 = 1
     ·rw [if_pos c19] at H
      have c19b0 : (a0_0 == 1) = true := beq_iff_eq.mpr c19
      have c19b1 : (a0_0 != 1) = false := bne_eq_false_iff_eq.mpr c19
      clear c19
      by_cases c20 : a0_4 ≥ 0
      ·rw [if_pos c20] at H
       have c20b0 : decide (0 ≤ a0_4) = true := decide_eq_true c20
       clear c20
       by_cases c21 : a0_4 ≤ 400
       ·rw [if_pos c21] at H
        have c21b0 : decide (a0_4 ≤ 400) = true := decide_eq_true c21
        clear c21
        by_cases c22 : a0_2 = a1
        ·rw [if_pos c22] at H
         have c22b0 : (a0_2 == a1) = true := beq_iff_eq.mpr c22
         have c22b1 : (a0_2 != a1) = false := bne_eq_false_iff_eq.mpr c22
         clear c22
         obtain rfl := Option.some.inj H
         go_enter Try.func91, Try.ntmps91
         go_wp2_with (first | ((with_reducible refine gate_dst (N := 3) rfl ?_); refine box_event ?hg (N := 3) ?hd (cs := #[.int .u8 a0_0, .int .i64 a0_1, .int .i64 a0_2, .int .i64 a0_3, .int .i64 a0_4]) (t := 61) ?hr ?_; (case hd => rfl); (case hg => rfl); (case hr => first | (go_simp; done) | (go_simp; rfl)); intro gb622 hg w23 hbox hb; have BK622 := am (hbox); have GW622 := am ((by rw [hg]; exact (below_size (by exact belL HB.out)) : w.heap.size ≤ gb622)); have GE622 := am ((by rw [hg]; exact (below_size (by exact belL HB.out)) : w.heap.size ≤ gb622)); replace HB := am (below_step (by exact belL HB.out) hb); clear hb hbox hg; obtain ⟨z24_0, z24_1, z24_2, z24_3, z24_4, y24_0, y24_1, y24_2, y24_3, y24_4⟩ := box5 BK622.out))
         go_ret
         exact ⟨by first | rfl | (simp [errW_none, errW_some] <;> rfl) | (simp [*, errW_none, errW_some] <;> rfl), by repeat (with_reducible first | exact HB.out | refine belS ?_ | refine below_set ?_ GE622.out)⟩
        ·rw [if_neg c22] at H
         have c22b0 : (a0_2 == a1) = false := beq_eq_false_iff_ne.mpr c22
         have c22b1 : (a0_2 != a1) = true := bne_iff_ne.mpr c22
         obtain rfl := Option.some.inj H
         go_enter Try.func91, Try.ntmps91
         go_wp2_with (first | ((with_reducible refine gate_dst (N := 3) rfl ?_); refine box_event ?hg (N := 3) ?hd (cs := #[.int .u8 a0_0, .int .i64 a0_1, .int .i64 a0_2, .int .i64 a0_3, .int .i64 a0_4]) (t := 61) ?hr ?_; (case hd => rfl); (case hg => rfl); (case hr => first | (go_simp; done) | (go_simp; rfl)); intro gb622 hg w25 hbox hb; have BK622 := am (hbox); have GW622 := am ((by rw [hg]; exact (below_size (by exact belL HB.out)) : w.heap.size ≤ gb622)); have GE622 := am ((by rw [hg]; exact (below_size (by exact belL HB.out)) : w.heap.size ≤ gb622)); replace HB := am (below_step (by exact belL HB.out) hb); clear hb hbox hg; obtain ⟨z26_0, z26_1, z26_2, z26_3, z26_4, y26_0, y26_1, y26_2, y26_3, y26_4⟩ := box5 BK622.out))
         go_ret
         exact ⟨by first | rfl | (simp [errW_none, errW_some] <;> rfl) | (simp [*, errW_none, errW_some] <;> rfl), by repeat (with_reducible first | exact HB.out | refine belS ?_ | refine below_set ?_ GE622.out)⟩
       ·rw [if_neg c21] at H
        have c21b0 : decide (a0_4 ≤ 400) = false := decide_eq_false c21
        clear c21
        obtain rfl := Option.some.inj H
        go_enter Try.func91, Try.ntmps91
        go_wp2_with (first | ((with_reducible refine gate_dst (N := 3) rfl ?_); refine box_event ?hg (N := 3) ?hd (cs := #[.int .u8 a0_0, .int .i64 a0_1, .int .i64 a0_2, .int .i64 a0_3, .int .i64 a0_4]) (t := 61) ?hr ?_; (case hd => rfl); (case hg => rfl); (case hr => first | (go_simp; done) | (go_simp; rfl)); intro gb622 hg w27 hbox hb; have BK622 := am (hbox); have GW622 := am ((by rw [hg]; exact (below_size (by exact belL HB.out)) : w.heap.size ≤ gb622)); have GE622 := am ((by rw [hg]; exact (below_size (by exact belL HB.out)) : w.heap.size ≤ gb622)); replace HB := am (below_step (by exact belL HB.out) hb); clear hb hbox hg; obtain ⟨z28_0, z28_1, z28_2, z28_3, z28_4, y28_0, y28_1, y28_2, y28_3, y28_4⟩ := box5 BK622.out))
        go_ret
        exact ⟨by first | rfl | (simp [errW_none, errW_some] <;> rfl) | (simp [*, errW_none, errW_some] <;> rfl), by repeat (with_reducible first | exact HB.out | refine belS ?_ | refine below_set ?_ GE622.out)⟩
      ·rw [if_neg c20] at H
       have c20b0 : decide (0 ≤ a0_4) = false := decide_eq_false c20
       clear c20
       obtain rfl := Option.some.inj H
       go_enter Try.func91, Try.ntmps91
       go_wp2_with (first | ((with_reducible refine gate_dst (N := 3) rfl ?_); refine box_event ?hg (N := 3) ?hd (cs := #[.int .u8 a0_0, .int .i64 a0_1, .int .i64 a0_2, .int .i64 a0_3, .int .i64 a0_4]) (t := 61) ?hr ?_; (case hd => rfl); (case hg => rfl); (case hr => first | (go_simp; done) | (go_simp; rfl)); intro gb622 hg w29 hbox hb; have BK622 := am (hbox); have GW622 := am ((by rw [hg]; exact (below_size (by exact belL HB.out)) : w.heap.size ≤ gb622)); have GE622 := am ((by rw [hg]; exact (below_size (by exact belL HB.out)) : w.heap.size ≤ gb622)); replace HB := am (below_step (by exact belL HB.out) hb); clear hb hbox hg; obtain ⟨z30_0, z30_1, z30_2, z30_3, z30_4, y30_0, y30_1, y30_2, y30_3, y30_4⟩ := box5 BK622.out))
       go_ret
       exact ⟨by first | rfl | (simp [errW_none, errW_some] <;> rfl) | (simp [*, errW_none, errW_some] <;> rfl), by repeat (with_reducible first | exact HB.out | refine belS ?_ | refine below_set ?_ GE622.out)⟩
     ·rw [if_neg c19] at H
      have c19b0 : (a0_0 == 1) = false := beq_eq_false_iff_ne.mpr c19
      have c19b1 : (a0_0 != 1) = true := bne_iff_ne.mpr c19
      obtain rfl := Option.some.inj H
      go_enter Try.func91, Try.ntmps91
      go_wp2_with (first | ((with_reducible refine gate_dst (N := 3) rfl ?_); refine box_event ?hg (N := 3) ?hd (cs := #[.int .u8 a0_0, .int .i64 a0_1, .int .i64 a0_2, .int .i64 a0_3, .int .i64 a0_4]) (t := 61) ?hr ?_; (case hd => rfl); (case hg => rfl); (case hr => first | (go_simp; done) | (go_simp; rfl)); intro gb622 hg w31 hbox hb; have BK622 := am (hbox); have GW622 := am ((by rw [hg]; exact (below_size (by exact belL HB.out)) : w.heap.size ≤ gb622)); have GE622 := am ((by rw [hg]; exact (below_size (by exact belL HB.out)) : w.heap.size ≤ gb622)); replace HB := am (below_step (by exact belL HB.out) hb); clear hb hbox hg; obtain ⟨z32_0, z32_1, z32_2, z32_3, z32_4, y32_0, y32_1, y32_2, y32_3, y32_4⟩ := box5 BK622.out))
      go_ret
      exact ⟨by first | rfl | (simp [errW_none, errW_some] <;> rfl) | (simp [*, errW_none, errW_some] <;> rfl), by repeat (with_reducible first | exact HB.out | refine belS ?_ | refine below_set ?_ GE622.out)⟩
   ·rw [if_neg c6] at H
    have c6b0 : decide (0 ≤ a0_1) = false := decide_eq_false c6
    clear c6
    obtain rfl := Option.some.inj H
    go_enter Try.func91, Try.ntmps91
    go_wp2_with (first | ((with_reducible refine gate_dst (N := 3) rfl ?_); refine box_event ?hg (N := 3) ?hd (cs := #[.int .u8 a0_0, .int .i64 a0_1, .int .i64 a0_2, .int .i64 a0_3, .int .i64 a0_4]) (t := 61) ?hr ?_; (case hd => rfl); (case hg => rfl); (case hr => first | (go_simp; done) | (go_simp; rfl)); intro gb622 hg w33 hbox hb; have BK622 := am (hbox); have GW622 := am ((by rw [hg]; exact (below_size (by exact belL HB.out)) : w.heap.size ≤ gb622)); have GE622 := am ((by rw [hg]; exact (below_size (by exact belL HB.out)) : w.heap.size ≤ gb622)); replace HB := am (below_step (by exact belL HB.out) hb); clear hb hbox hg; obtain ⟨z34_0, z34_1, z34_2, z34_3, z34_4, y34_0, y34_1, y34_2, y34_3, y34_4⟩ := box5 BK622.out))
    go_ret
    exact ⟨by first | rfl | (simp [errW_none, errW_some] <;> rfl) | (simp [*, errW_none, errW_some] <;> rfl), by repeat (with_reducible first | exact HB.out | refine belS ?_ | refine below_set ?_ GE622.out)⟩
  ·rw [if_neg c5] at H
   have c5b0 : decide (a0_0 ≤ 19) = false := decide_eq_false c5
   clear c5
   obtain rfl := Option.some.inj H
   go_enter Try.func91, Try.ntmps91
   go_wp2_with (first | ((with_reducible refine gate_dst (N := 3) rfl ?_); refine box_event ?hg (N := 3) ?hd (cs := #[.int .u8 a0_0, .int .i64 a0_1, .int .i64 a0_2, .int .i64 a0_3, .int .i64 a0_4]) (t := 61) ?hr ?_; (case hd => rfl); (case hg => rfl); (case hr => first | (go_simp; done) | (go_simp; rfl)); intro gb622 hg w35 hbox hb; have BK622 := am (hbox); have GW622 := am ((by rw [hg]; exact (below_size (by exact belL HB.out)) : w.heap.size ≤ gb622)); have GE622 := am ((by rw [hg]; exact (below_size (by exact belL HB.out)) : w.heap.size ≤ gb622)); replace HB := am (below_step (by exact belL HB.out) hb); clear hb hbox hg; obtain ⟨z36_0, z36_1, z36_2, z36_3, z36_4, y36_0, y36_1, y36_2, y36_3, y36_4⟩ := box5 BK622.out))
   go_ret
   exact ⟨by first | rfl | (simp [errW_none, errW_some] <;> rfl) | (simp [*, errW_none, errW_some] <;> rfl), by repeat (with_reducible first | exact HB.out | refine belS ?_ | refine below_set ?_ GE622.out)⟩
 ·rw [if_neg c4] at H
  have c4b0 : decide (1 ≤ a0_0) = false := decide_eq_false c4
  clear c4
  obtain rfl := Option.some.inj H
  go_enter Try.func91, Try.ntmps91
  go_wp2_with (first | ((with_reducible refine gate_dst (N := 3) rfl ?_); refine box_event ?hg (N := 3) ?hd (cs := #[.int .u8 a0_0, .int .i64 a0_1, .int .i64 a0_2, .int .i64 a0_3, .int .i64 a0_4]) (t := 61) ?hr ?_; (case hd => rfl); (case hg => rfl); (case hr => first | (go_simp; done) | (go_simp; rfl)); intro gb622 hg w37 hbox hb; have BK622 := am (hbox); have GW622 := am ((by rw [hg]; exact (below_size (by exact belL HB.out)) : w.heap.size ≤ gb622)); have GE622 := am ((by rw [hg]; exact (below_size (by exact belL HB.out)) : w.heap.size ≤ gb622)); replace HB := am (below_step (by exact belL HB.out) hb); clear hb hbox hg; obtain ⟨z38_0, z38_1, z38_2, z38_3, z38_4, y38_0, y38_1, y38_2, y38_3, y38_4⟩ := box5 BK622.out))
  go_ret
  exact ⟨by first | rfl | (simp [errW_none, errW_some] <;> rfl) | (simp [*, errW_none, errW_some] <;> rfl), by repeat (with_reducible first | exact HB.out | refine belS ?_ | refine below_set ?_ GE622.out)⟩

def tailwaterref04_Sizes.l0 : Nat → List (S61) → List Int → List Int → Int → Option (List Int × List Int × Bool)
 | 0, _, _, _, _ => none
 | k + 1, x0, x5, x6, x7 => if x7 < (x0.length : Int) then (if 0 ≤ x7 then ((tailwaterref04_Count.f ((rd_T61 x0 x7).f0)).bind fun t625 => (if t625 > 0 then (if (wrap64 (x7 - 1)) < 0 then (some (([] : List Int), ([] : List Int), false)) else (if 0 ≤ (wrap64 (x7 - 1)) then (if (wrap64 (x7 - 1)) < (x5.length : Int) then (if (wrap64 (x7 - 1)) < (x6.length : Int) then (if t625 = 2 then (if (wrap64 ((wrap64 (x7 - 1)) - (rd x5 (wrap64 (x7 - 1))))) < 0 then (some (([] : List Int), ([] : List Int), false)) else (if 0 ≤ (wrap64 ((wrap64 (x7 - 1)) - (rd x5 (wrap64 (x7 - 1))))) then (if (wrap64 ((wrap64 (x7 - 1)) - (rd x5 (wrap64 (x7 - 1))))) < (x5.length : Int) then (if (wrap64 ((wrap64 (x7 - 1)) - (rd x5 (wrap64 (x7 - 1))))) < (x6.length : Int) then ((tailwaterref04_right.f ((rd_T61 x0 x7).f0) ((rd_T61 x0 x7).f1) ((rd_T61 x0 x7).f2) ((rd_T61 x0 x7).f3) ((rd_T61 x0 x7).f4) (wrap64 ((wrap64 (x7 - 1)) - (rd x5 (wrap64 (x7 - 1))))) (wrap64 (x7 - 1))).bind fun t632 => (if t632 = true then (if x5.length < 17592186044416 then (if x6.length < 17592186044416 then (tailwaterref04_Sizes.l0 k x0 (x5 ++ [wrap64 ((wrap64 (1 + (rd x5 (wrap64 (x7 - 1))))) + (rd x5 (wrap64 ((wrap64 (x7 - 1)) - (rd x5 (wrap64 (x7 - 1)))))))]) (x6 ++ [mx (wrap64 (1 + (rd x6 (wrap64 (x7 - 1))))) (wrap64 (1 + (rd x6 (wrap64 ((wrap64 (x7 - 1)) - (rd x5 (wrap64 (x7 - 1))))))))]) (wrap64 (x7 + 1))) else (none)) else (none)) else (some (([] : List Int), ([] : List Int), false)))) else (none)) else (none)) else (none))) else ((tailwaterref04_right.f ((rd_T61 x0 x7).f0) ((rd_T61 x0 x7).f1) ((rd_T61 x0 x7).f2) ((rd_T61 x0 x7).f3) ((rd_T61 x0 x7).f4) (wrap64 (x7 - 1)) 0).bind fun t640 => (if t640 = true then (if x5.length < 17592186044416 then (if x6.length < 17592186044416 then (tailwaterref04_Sizes.l0 k x0 (x5 ++ [wrap64 (1 + (rd x5 (wrap64 (x7 - 1))))]) (x6 ++ [wrap64 (1 + (rd x6 (wrap64 (x7 - 1))))]) (wrap64 (x7 + 1))) else (none)) else (none)) else (some (([] : List Int), ([] : List Int), false))))) else (none)) else (none)) else (none))) else ((tailwaterref04_right.f ((rd_T61 x0 x7).f0) ((rd_T61 x0 x7).f1) ((rd_T61 x0 x7).f2) ((rd_T61 x0 x7).f3) ((rd_T61 x0 x7).f4) 0 0).bind fun t648 => (if t648 = true then (if x5.length < 17592186044416 then (if x6.length < 17592186044416 then (tailwaterref04_Sizes.l0 k x0 (x5 ++ [1]) (x6 ++ [1]) (wrap64 (x7 + 1))) else (none)) else (none)) else (some (([] : List Int), ([] : List Int), false)))))) else (none)) else (if (x0.length : Int) > 0 then (if 0 ≤ (wrap64 ((x0.length : Int) - 1)) then (if (wrap64 ((x0.length : Int) - 1)) < (x5.length : Int) then (some (x5, x6, ((rd x5 (wrap64 ((x0.length : Int) - 1))) == (x0.length : Int)))) else (none)) else (none)) else (some (x5, x6, false)))
def tailwaterref04_Sizes.f (k : Nat) (l0 : List (S61)) : Option (List Int × List Int × Bool) := tailwaterref04_Sizes.l0 k l0 ([] : List Int) ([] : List Int) 0
set_option maxHeartbeats 8000000 in
set_option maxRecDepth 100000 in
theorem tailwaterref04_Sizes.calls (k : Nat) (A0 : Option Addr) (c0 : Nat) (l0 : List (S61)) (r1 : List Int) (r2 : List Int) (r3 : Bool) (w : World) (hr0 : Kd.C k61 w A0 l0.length l0) (hc0 : l0.length ≤ c0) (h : tailwaterref04_Sizes.f k l0 = some (r1, r2, r3)) :
  Calls Try.prog 76 #[.slice A0 l0.length c0] w fun e w' => ∃ v0_ v1_ : Value, e = .returned (.tuple #[v0_, v1_, .bool r3]) ∧ Kd.R (Kd.int .i64) 3 w' w.heap.size (fun k_ => some k_ ≠ (v1_ : Value).ownBlock) v0_ r1 ∧ Kd.R (Kd.int .i64) 3 w' w.heap.size (fun k_ => some k_ ≠ (v0_ : Value).ownBlock) v1_ r2 ∧ Below w.heap.size w w' := by
 have hu61 := Try.underlying61
 have HR0 := am hr0
 have HC0 := am hc0
 clear hr0 hc0
 have HB := am (Below.refl w.heap.size w)
 have H : (tailwaterref04_Sizes.l0 k l0 ([] : List Int) ([] : List Int) 0) = some (r1, r2, r3) := h
 clear h
 have H' := am H
 clear H
 go_enter Try.func76, Try.ntmps76
 go_wp2
 repeat (go_quiet (fail); try go_wp2)
 go_loopg [5, 6, 7] k (fun kq v5 v6 v7 w' => ∃ (x5_1 : List Int) (x6_1 : List Int) (x7_1 : Int), v7 = .int .i64 x7_1 ∧ Aside0 (tailwaterref04_Sizes.l0 kq l0 x5_1 x6_1 x7_1 = some (r1, r2, r3)) ∧ Aside0 (kq ≤ k) ∧ Aside0 (Kd.R (Kd.int .i64) 3 w' w.heap.size (fun k_ => some k_ ≠ (v6 : Value).ownBlock) v5 x5_1) ∧ Aside0 (Kd.R (Kd.int .i64) 3 w' w.heap.size (fun k_ => some k_ ≠ (v5 : Value).ownBlock) v6 x6_1) ∧ Aside0 (Below w.heap.size w w'))
 case atStart => exact ⟨(([] : List Int)), (([] : List Int)), (0), (by first | rfl | (simp; done) | (simp [*]; done)), H', ⟨Nat.le_refl _⟩, ⟨by first | exact Kd.R_nil _ _ _ _ _ | exact Kd.N_nil _ _ _ _ _ | exact Kd.V_nil _ _ _ _ _ | exact Kd.Q_nil _ _ _ _ _ | exact Kd.S_nil _ _ _ _ _⟩, ⟨by first | exact Kd.R_nil _ _ _ _ _ | exact Kd.N_nil _ _ _ _ _ | exact Kd.V_nil _ _ _ _ _ | exact Kd.Q_nil _ _ _ _ _ | exact Kd.S_nil _ _ _ _ _⟩, ⟨by repeat (with_reducible first | exact HB.out | refine belS ?_)⟩⟩
 case round =>
  clear H'
  obtain ⟨x5_1, x6_1, x7_1, rfl, HA, HK1, HO_5, HO_6, HB⟩ := hrel
  cases gk with
  | zero => exact absurd HA.out (by simp [tailwaterref04_Sizes.l0])
  | succ k1 =>
   have H := HA.out
   clear HA
   simp only [tailwaterref04_Sizes.l0] at H
   by_cases c2 : x7_1 < (l0.length : Int)
   ·rw [if_pos c2] at H
    have c2b0 : decide (x7_1 < (l0.length : Int)) = true := decide_eq_true c2
    clear c2
    by_cases c3 : 0 ≤ x7_1
    ·rw [if_pos c3] at H
     have c3b0 : decide (0 ≤ x7_1) = true := decide_eq_true c3
     clear c3
     replace H := Option.bind_eq_some_iff.mp H
     obtain ⟨t625, A40, H⟩ := H
     try dsimp only at H
     have A4 := am A40
     clear A40
     by_cases c5 : t625 > 0
     ·rw [if_pos c5] at H
      have c5b0 : decide (0 < t625) = true := decide_eq_true c5
      clear c5
      by_cases c6 : (wrap64 (x7_1 - 1)) < 0
      ·rw [if_pos c6] at H
       have c6b0 : decide ((wrap64 (x7_1 - 1)) < 0) = true := decide_eq_true c6
       clear c6
       simp only [Option.some.injEq, Prod.mk.injEq] at H
       obtain ⟨rfl, rfl, rfl⟩ := H
       have p624 : 0 ≤ (x7_1 : Int) := of_decide_eq_true (by first | (with_reducible assumption) | assumption)
       have q624 : x7_1 < (l0.length : Int) := of_decide_eq_true (by first | (with_reducible assumption) | assumption)
       obtain ⟨ad624, e624, hx624_0, hx624_1, hx624_2, hx624_3, hx624_4⟩ := at_T61 HR0.out x7_1 p624 q624
       cases e624
       replace hx624_0 := (HB.out.cell (World.block_lt_of_cell? w _ hx624_0)).trans hx624_0
       replace hx624_1 := (HB.out.cell (World.block_lt_of_cell? w _ hx624_1)).trans hx624_1
       replace hx624_2 := (HB.out.cell (World.block_lt_of_cell? w _ hx624_2)).trans hx624_2
       replace hx624_3 := (HB.out.cell (World.block_lt_of_cell? w _ hx624_3)).trans hx624_3
       replace hx624_4 := (HB.out.cell (World.block_lt_of_cell? w _ hx624_4)).trans hx624_4
       replace p624 := eq_true p624
       replace q624 := eq_true q624
       go_wp2_with (first | (go_at_call 57; (with_reducible refine (tailwaterref04_Count.calls ((rd_T61 l0 x7_1).f0) t625 _ A4.out).mono ?_); rintro e w' ⟨rfl, ⟨nd, rfl⟩⟩; (try first | exact ⟨rfl, _, World.drewN_drewN _ _ _⟩ | exact ⟨rfl, _, Eq.trans (World.drewN_drewN _ _ _) (congrArg (World.drewN _) (Nat.add_assoc _ _ _))⟩)))
       go_ret3
       exact ⟨_, _, by first | rfl | (simp [errW_none, errW_some] <;> rfl) | (simp [*, errW_none, errW_some] <;> rfl), by first | exact Kd.R_nil _ _ _ _ _ | exact Kd.N_nil _ _ _ _ _ | exact Kd.V_nil _ _ _ _ _ | exact Kd.Q_nil _ _ _ _ _ | exact Kd.S_nil _ _ _ _ _, by first | exact Kd.R_nil _ _ _ _ _ | exact Kd.N_nil _ _ _ _ _ | exact Kd.V_nil _ _ _ _ _ | exact Kd.Q_nil _ _ _ _ _ | exact Kd.S_nil _ _ _ _ _, by repeat (with_reducible first | exact HB.out | refine belS ?_)⟩
      ·rw [if_neg c6] at H
       have c6b0 : decide ((wrap64 (x7_1 - 1)) < 0) = false := decide_eq_false c6
       clear c6
       obtain ⟨ji7, hji7⟩ : ∃ j_ : Int, (wrap64 (x7_1 - 1)) = j_ := ⟨_, rfl⟩
       replace H : (if 0 ≤ (ji7) then (if (ji7) < (x5_1.length : Int) then (if (ji7) < (x6_1.length : Int) then (if t625 = 2 then (if (wrap64 ((ji7) - (rd x5_1 (ji7)))) < 0 then (some (([] : List Int), ([] : List Int), false)) else (if 0 ≤ (wrap64 ((ji7) - (rd x5_1 (ji7)))) then (if (wrap64 ((ji7) - (rd x5_1 (ji7)))) < (x5_1.length : Int) then (if (wrap64 ((ji7) - (rd x5_1 (ji7)))) < (x6_1.length : Int) then ((tailwaterref04_right.f ((rd_T61 l0 x7_1).f0) ((rd_T61 l0 x7_1).f1) ((rd_T61 l0 x7_1).f2) ((rd_T61 l0 x7_1).f3) ((rd_T61 l0 x7_1).f4) (wrap64 ((ji7) - (rd x5_1 (ji7)))) (ji7)).bind fun t632 => (if t632 = true then (if x5_1.length < 17592186044416 then (if x6_1.length < 17592186044416 then (tailwaterref04_Sizes.l0 k1 l0 (x5_1 ++ [wrap64 ((wrap64 (1 + (rd x5_1 (ji7)))) + (rd x5_1 (wrap64 ((ji7) - (rd x5_1 (ji7))))))]) (x6_1 ++ [mx (wrap64 (1 + (rd x6_1 (ji7)))) (wrap64 (1 + (rd x6_1 (wrap64 ((ji7) - (rd x5_1 (ji7)))))))]) (wrap64 (x7_1 + 1))) else (none)) else (none)) else (some (([] : List Int), ([] : List Int), false)))) else (none)) else (none)) else (none))) else ((tailwaterref04_right.f ((rd_T61 l0 x7_1).f0) ((rd_T61 l0 x7_1).f1) ((rd_T61 l0 x7_1).f2) ((rd_T61 l0 x7_1).f3) ((rd_T61 l0 x7_1).f4) (ji7) 0).bind fun t640 => (if t640 = true then (if x5_1.length < 17592186044416 then (if x6_1.length < 17592186044416 then (tailwaterref04_Sizes.l0 k1 l0 (x5_1 ++ [wrap64 (1 + (rd x5_1 (ji7)))]) (x6_1 ++ [wrap64 (1 + (rd x6_1 (ji7)))]) (wrap64 (x7_1 + 1))) else (none)) else (none)) else (some (([] : List Int), ([] : List Int), false))))) else (none)) else (none)) else (none)) = some (r1, r2, r3) := by first | (rw [hji7] at H; exact H) | (simp only [hji7] at H ⊢; exact H)
       (try rw [hji7] at c6b0)
       (try rw [hji7] at A4)
       have hji7w : (IntKind.i64.wrap (x7_1 - 1)) = ji7 := (i64_w _).trans hji7
       by_cases c8 : 0 ≤ (ji7)
       ·rw [if_pos c8] at H
        have c8b0 : decide (0 ≤ (ji7)) = true := decide_eq_true c8
        clear c8
        by_cases c9 : (ji7) < (x5_1.length : Int)
        ·rw [if_pos c9] at H
         have c9b0 : decide ((ji7) < (x5_1.length : Int)) = true := decide_eq_true c9
         clear c9
         by_cases c10 : (ji7) < (x6_1.length : Int)
         ·rw [if_pos c10] at H
          have c10b0 : decide ((ji7) < (x6_1.length : Int)) = true := decide_eq_true c10
          clear c10
          by_cases c11 : t625 = 2
          ·rw [if_pos c11] at H
           have c11b0 : (t625 == 2) = true := beq_iff_eq.mpr c11
           have c11b1 : (t625 != 2) = false := bne_eq_false_iff_eq.mpr c11
           clear c11
           by_cases c12 : (wrap64 ((ji7) - (rd x5_1 (ji7)))) < 0
           ·rw [if_pos c12] at H
            have c12b0 : decide ((wrap64 ((ji7) - (rd x5_1 (ji7)))) < 0) = true := decide_eq_true c12
            clear c12
            simp only [Option.some.injEq, Prod.mk.injEq] at H
            obtain ⟨rfl, rfl, rfl⟩ := H
            have p624 : 0 ≤ (x7_1 : Int) := of_decide_eq_true (by first | (with_reducible assumption) | assumption)
            have q624 : x7_1 < (l0.length : Int) := of_decide_eq_true (by first | (with_reducible assumption) | assumption)
            obtain ⟨ad624, e624, hx624_0, hx624_1, hx624_2, hx624_3, hx624_4⟩ := at_T61 HR0.out x7_1 p624 q624
            cases e624
            replace hx624_0 := (HB.out.cell (World.block_lt_of_cell? w _ hx624_0)).trans hx624_0
            replace hx624_1 := (HB.out.cell (World.block_lt_of_cell? w _ hx624_1)).trans hx624_1
            replace hx624_2 := (HB.out.cell (World.block_lt_of_cell? w _ hx624_2)).trans hx624_2
            replace hx624_3 := (HB.out.cell (World.block_lt_of_cell? w _ hx624_3)).trans hx624_3
            replace hx624_4 := (HB.out.cell (World.block_lt_of_cell? w _ hx624_4)).trans hx624_4
            replace p624 := eq_true p624
            replace q624 := eq_true q624
            go_wp2_with (first | (go_at_call 57; (with_reducible refine (tailwaterref04_Count.calls ((rd_T61 l0 x7_1).f0) t625 _ A4.out).mono ?_); rintro e w' ⟨rfl, ⟨nd, rfl⟩⟩; (try first | exact ⟨rfl, _, World.drewN_drewN _ _ _⟩ | exact ⟨rfl, _, Eq.trans (World.drewN_drewN _ _ _) (congrArg (World.drewN _) (Nat.add_assoc _ _ _))⟩); obtain ⟨Ao13, co13, eo13⟩ := Kd.R_slice HO_5.out; subst eo13; have p626 : 0 ≤ ((ji7) : Int) := of_decide_eq_true (by first | (with_reducible assumption) | assumption); have q626 : (ji7) < (x5_1.length : Int) := of_decide_eq_true (by first | (with_reducible assumption) | assumption); obtain ⟨ad626, e626, hx626_0⟩ := Kd.at_int (Kd.R_reads' HO_5.out).2.2 (ji7) p626 q626; cases e626; replace p626 := eq_true p626; replace q626 := eq_true q626; have p627 : 0 ≤ ((ji7) : Int) := of_decide_eq_true (by first | (with_reducible assumption) | assumption); have q627 : (ji7) < (x5_1.length : Int) := of_decide_eq_true (by first | (with_reducible assumption) | assumption); obtain ⟨ad627, e627, hx627_0⟩ := Kd.at_int (Kd.R_reads' HO_5.out).2.2 (ji7) p627 q627; obtain rfl : ad626 = ad627 := (by injection e627); replace p627 := eq_true p627; replace q627 := eq_true q627; obtain ⟨Ao14, co14, eo14⟩ := Kd.R_slice HO_6.out; subst eo14; have p628 : 0 ≤ ((ji7) : Int) := of_decide_eq_true (by first | (with_reducible assumption) | assumption); have q628 : (ji7) < (x6_1.length : Int) := of_decide_eq_true (by first | (with_reducible assumption) | assumption); obtain ⟨ad628, e628, hx628_0⟩ := Kd.at_int (Kd.R_reads' HO_6.out).2.2 (ji7) p628 q628; cases e628; replace p628 := eq_true p628; replace q628 := eq_true q628))
            go_ret3
            exact ⟨_, _, by first | rfl | (simp [errW_none, errW_some] <;> rfl) | (simp only [← hji7]; first | rfl | (simp [errW_none, errW_some] <;> rfl)) | (simp [*, errW_none, errW_some] <;> rfl), by first | exact Kd.R_nil _ _ _ _ _ | exact Kd.N_nil _ _ _ _ _ | exact Kd.V_nil _ _ _ _ _ | exact Kd.Q_nil _ _ _ _ _ | exact Kd.S_nil _ _ _ _ _, by first | exact Kd.R_nil _ _ _ _ _ | exact Kd.N_nil _ _ _ _ _ | exact Kd.V_nil _ _ _ _ _ | exact Kd.Q_nil _ _ _ _ _ | exact Kd.S_nil _ _ _ _ _, by repeat (with_reducible first | exact HB.out | refine belS ?_)⟩
           ·rw [if_neg c12] at H
            have c12b0 : decide ((wrap64 ((ji7) - (rd x5_1 (ji7)))) < 0) = false := decide_eq_false c12
            clear c12
            obtain ⟨ji15, hji15⟩ : ∃ j_ : Int, (wrap64 ((ji7) - (rd x5_1 (ji7)))) = j_ := ⟨_, rfl⟩
            replace H : (if 0 ≤ (ji15) then (if (ji15) < (x5_1.length : Int) then (if (ji15) < (x6_1.length : Int) then ((tailwaterref04_right.f ((rd_T61 l0 x7_1).f0) ((rd_T61 l0 x7_1).f1) ((rd_T61 l0 x7_1).f2) ((rd_T61 l0 x7_1).f3) ((rd_T61 l0 x7_1).f4) (ji15) (ji7)).bind fun t632 => (if t632 = true then (if x5_1.length < 17592186044416 then (if x6_1.length < 17592186044416 then (tailwaterref04_Sizes.l0 k1 l0 (x5_1 ++ [wrap64 ((wrap64 (1 + (rd x5_1 (ji7)))) + (rd x5_1 (ji15)))]) (x6_1 ++ [mx (wrap64 (1 + (rd x6_1 (ji7)))) (wrap64 (1 + (rd x6_1 (ji15))))]) (wrap64 (x7_1 + 1))) else (none)) else (none)) else (some (([] : List Int), ([] : List Int), false)))) else (none)) else (none)) else (none)) = some (r1, r2, r3) := by first | (rw [hji15] at H; exact H) | (simp only [hji15] at H ⊢; exact H)
            (try rw [hji15] at c12b0)
            (try rw [hji15] at A4)
            have hji15w : (IntKind.i64.wrap ((ji7) - (rd x5_1 (ji7)))) = ji15 := (i64_w _).trans hji15
            by_cases c16 : 0 ≤ (ji15)
            ·rw [if_pos c16] at H
             have c16b0 : decide (0 ≤ (ji15)) = true := decide_eq_true c16
             clear c16
             by_cases c17 : (ji15) < (x5_1.length : Int)
             ·rw [if_pos c17] at H
              have c17b0 : decide ((ji15) < (x5_1.length : Int)) = true := decide_eq_true c17
              clear c17
              by_cases c18 : (ji15) < (x6_1.length : Int)
              ·rw [if_pos c18] at H
               have c18b0 : decide ((ji15) < (x6_1.length : Int)) = true := decide_eq_true c18
               clear c18
               obtain ⟨ji19, hji19⟩ : ∃ j_ : Int, (mx (wrap64 (1 + (rd x6_1 (ji7)))) (wrap64 (1 + (rd x6_1 (ji15))))) = j_ := ⟨_, rfl⟩
               replace H : ((tailwaterref04_right.f ((rd_T61 l0 x7_1).f0) ((rd_T61 l0 x7_1).f1) ((rd_T61 l0 x7_1).f2) ((rd_T61 l0 x7_1).f3) ((rd_T61 l0 x7_1).f4) (ji15) (ji7)).bind fun t632 => (if t632 = true then (if x5_1.length < 17592186044416 then (if x6_1.length < 17592186044416 then (tailwaterref04_Sizes.l0 k1 l0 (x5_1 ++ [wrap64 ((wrap64 (1 + (rd x5_1 (ji7)))) + (rd x5_1 (ji15)))]) (x6_1 ++ [ji19]) (wrap64 (x7_1 + 1))) else (none)) else (none)) else (some (([] : List Int), ([] : List Int), false)))) = some (r1, r2, r3) := by first | (rw [hji19] at H; exact H) | (simp only [hji19] at H ⊢; exact H)
               (try rw [hji19] at A4)
               have hji19_ : (if (wrap64 (1 + (rd x6_1 (ji7)))) < (wrap64 (1 + (rd x6_1 (ji15)))) then (wrap64 (1 + (rd x6_1 (ji15)))) else (wrap64 (1 + (rd x6_1 (ji7))))) = ji19 := hji19
               replace H := Option.bind_eq_some_iff.mp H
               obtain ⟨t632, A200, H⟩ := H
               try dsimp only at H
               have A20 := am A200
               clear A200
               by_cases c21 : t632 = true
               ·subst c21
                rw [if_pos rfl] at H
                by_cases c22 : x5_1.length < 17592186044416
                ·rw [if_pos c22] at H
                 have LMc22 := am c22
                 clear c22
                 obtain ⟨y633, hy633⟩ : ∃ y_ : List Int, y_ = (x5_1 ++ [wrap64 ((wrap64 (1 + (rd x5_1 (ji7)))) + (rd x5_1 (ji15)))]) := ⟨_, rfl⟩
                 replace H : (if x6_1.length < 17592186044416 then (tailwaterref04_Sizes.l0 k1 l0 y633 (x6_1 ++ [ji19]) (wrap64 (x7_1 + 1))) else (none)) = some (r1, r2, r3) := by first | (rw [hy633]; with_reducible exact H) | (have H2_ := (Option.bind_some _ _).symm.trans H; rw [hy633]; with_reducible exact H2_) | (have H2_ := (Option.bind_some _ _).symm.trans H; with_reducible exact H2_) | with_reducible exact H | (rw [hy633]; exact H) | exact H
                 have Ny633 := am hy633
                 clear hy633
                 by_cases c23 : x6_1.length < 17592186044416
                 ·rw [if_pos c23] at H
                  have LMc23 := am c23
                  clear c23
                  obtain ⟨y636, hy636⟩ : ∃ y_ : List Int, y_ = (x6_1 ++ [ji19]) := ⟨_, rfl⟩
                  replace H : (tailwaterref04_Sizes.l0 k1 l0 y633 y636 (wrap64 (x7_1 + 1))) = some (r1, r2, r3) := by first | (rw [hy636]; with_reducible exact H) | (have H2_ := (Option.bind_some _ _).symm.trans H; rw [hy636]; with_reducible exact H2_) | (have H2_ := (Option.bind_some _ _).symm.trans H; with_reducible exact H2_) | with_reducible exact H | (rw [hy636]; exact H) | exact H
                  have Ny636 := am hy636
                  clear hy636
                  have H' := am H
                  clear H
                  have p624 : 0 ≤ (x7_1 : Int) := of_decide_eq_true (by first | (with_reducible assumption) | assumption)
                  have q624 : x7_1 < (l0.length : Int) := of_decide_eq_true (by first | (with_reducible assumption) | assumption)
                  obtain ⟨ad624, e624, hx624_0, hx624_1, hx624_2, hx624_3, hx624_4⟩ := at_T61 HR0.out x7_1 p624 q624
                  cases e624
                  replace hx624_0 := (HB.out.cell (World.block_lt_of_cell? w _ hx624_0)).trans hx624_0
                  replace hx624_1 := (HB.out.cell (World.block_lt_of_cell? w _ hx624_1)).trans hx624_1
                  replace hx624_2 := (HB.out.cell (World.block_lt_of_cell? w _ hx624_2)).trans hx624_2
                  replace hx624_3 := (HB.out.cell (World.block_lt_of_cell? w _ hx624_3)).trans hx624_3
                  replace hx624_4 := (HB.out.cell (World.block_lt_of_cell? w _ hx624_4)).trans hx624_4
                  replace p624 := eq_true p624
                  replace q624 := eq_true q624
                  go_wp2_with (first | (go_at_call 57; (with_reducible refine (tailwaterref04_Count.calls ((rd_T61 l0 x7_1).f0) t625 _ A4.out).mono ?_); rintro e w' ⟨rfl, ⟨nd, rfl⟩⟩; (try first | exact ⟨rfl, _, World.drewN_drewN _ _ _⟩ | exact ⟨rfl, _, Eq.trans (World.drewN_drewN _ _ _) (congrArg (World.drewN _) (Nat.add_assoc _ _ _))⟩); obtain ⟨Ao24, co24, eo24⟩ := Kd.R_slice HO_5.out; subst eo24; have p626 : 0 ≤ ((ji7) : Int) := of_decide_eq_true (by first | (with_reducible assumption) | assumption); have q626 : (ji7) < (x5_1.length : Int) := of_decide_eq_true (by first | (with_reducible assumption) | assumption); obtain ⟨ad626, e626, hx626_0⟩ := Kd.at_int (Kd.R_reads' HO_5.out).2.2 (ji7) p626 q626; cases e626; replace p626 := eq_true p626; replace q626 := eq_true q626; have p627 : 0 ≤ ((ji7) : Int) := of_decide_eq_true (by first | (with_reducible assumption) | assumption); have q627 : (ji7) < (x5_1.length : Int) := of_decide_eq_true (by first | (with_reducible assumption) | assumption); obtain ⟨ad627, e627, hx627_0⟩ := Kd.at_int (Kd.R_reads' HO_5.out).2.2 (ji7) p627 q627; obtain rfl : ad626 = ad627 := (by injection e627); replace p627 := eq_true p627; replace q627 := eq_true q627; obtain ⟨Ao25, co25, eo25⟩ := Kd.R_slice HO_6.out; subst eo25; have p628 : 0 ≤ ((ji7) : Int) := of_decide_eq_true (by first | (with_reducible assumption) | assumption); have q628 : (ji7) < (x6_1.length : Int) := of_decide_eq_true (by first | (with_reducible assumption) | assumption); obtain ⟨ad628, e628, hx628_0⟩ := Kd.at_int (Kd.R_reads' HO_6.out).2.2 (ji7) p628 q628; cases e628; replace p628 := eq_true p628; replace q628 := eq_true q628; have p629 : 0 ≤ ((ji15) : Int) := of_decide_eq_true (by first | (with_reducible assumption) | assumption); have q629 : (ji15) < (x5_1.length : Int) := of_decide_eq_true (by first | (with_reducible assumption) | assumption); obtain ⟨ad629, e629, hx629_0⟩ := Kd.at_int (Kd.R_reads' HO_5.out).2.2 (ji15) p629 q629; obtain rfl : ad626 = ad629 := (by injection e629); replace p629 := eq_true p629; replace q629 := eq_true q629; have p630 : 0 ≤ ((ji15) : Int) := of_decide_eq_true (by first | (with_reducible assumption) | assumption); have q630 : (ji15) < (x6_1.length : Int) := of_decide_eq_true (by first | (with_reducible assumption) | assumption); obtain ⟨ad630, e630, hx630_0⟩ := Kd.at_int (Kd.R_reads' HO_6.out).2.2 (ji15) p630 q630; obtain rfl : ad628 = ad630 := (by injection e630); replace p630 := eq_true p630; replace q630 := eq_true q630; have p631 : 0 ≤ (x7_1 : Int) := of_decide_eq_true (by first | (with_reducible assumption) | assumption); have q631 : x7_1 < (l0.length : Int) := of_decide_eq_true (by first | (with_reducible assumption) | assumption); obtain ⟨ad631, e631, hx631_0, hx631_1, hx631_2, hx631_3, hx631_4⟩ := at_T61 HR0.out x7_1 p631 q631; obtain rfl : ad624 = ad631 := (by injection e631); replace hx631_0 := (HB.out.cell (World.block_lt_of_cell? w _ hx631_0)).trans hx631_0; replace hx631_1 := (HB.out.cell (World.block_lt_of_cell? w _ hx631_1)).trans hx631_1; replace hx631_2 := (HB.out.cell (World.block_lt_of_cell? w _ hx631_2)).trans hx631_2; replace hx631_3 := (HB.out.cell (World.block_lt_of_cell? w _ hx631_3)).trans hx631_3; replace hx631_4 := (HB.out.cell (World.block_lt_of_cell? w _ hx631_4)).trans hx631_4; replace p631 := eq_true p631; replace q631 := eq_true q631) | (go_at_call 91; (with_reducible refine (tailwaterref04_right.calls ((rd_T61 l0 x7_1).f0) ((rd_T61 l0 x7_1).f1) ((rd_T61 l0 x7_1).f2) ((rd_T61 l0 x7_1).f3) ((rd_T61 l0 x7_1).f4) ji15 ji7 true _ A20.out).mono ?_); rintro e w26 ⟨rfl, hb⟩; replace HO_5 := am (Kd.R_below (by exact RL HO_5.out) hb); replace HO_6 := am (Kd.R_below (by exact RL HO_6.out) hb); replace HB := am (below_step (by exact belL HB.out) hb); (try clear hb); (try clear hb2); (try clear hk); (try clear hi)) | ((with_reducible refine gate_builtin (b := .append) (xs := #[.tmp 78, .tmp 80]) rfl ?_); (try (refine gate_guard (by rfl) ?_; dsimp only)); at_builtin; refine Kd.R_append (Kd.int .i64) (w0 := w) w.heap.size rfl (.tmp 78) (.tmp 80) 37 3 (.int .i64 0) 8 rfl Try.underlying37 info3 rfl (by decide) (by omega) (.slice (some ad626) x5_1.length co24) x5_1 (wrap64 ((wrap64 (1 + (rd x5_1 (ji7)))) + (rd x5_1 (ji15)))) [.int .i64 (wrap64 ((wrap64 (1 + (rd x5_1 (ji7)))) + (rd x5_1 (ji15))))] (fun k_ => some k_ ≠ (.slice (some ad628) x6_1.length co25 : Value).ownBlock) (fun _ => False) rfl rfl ?aP (fun _ hk => hk.elim) ?aF ?aO ?aB ?aS ?aL ?_; (case aP => exact rfl); (case aB => exact (by exact belL HB.out)); (case aF => exact (fun k_ hk => Kd.fresh' (Kd.R_lt (by exact RL HO_6.out)) k_ hk)); (case aO => exact (by exact RL HO_5.out)); (case aS => exact (below_size (by exact belL HB.out))); (case aL => have := LMc22.out; omega); intro v634 w27 ho hb hg hat; rw [← Ny633.out] at ho; have HO635 := am (ho); replace HO_6 := am (Kd.R_after (ok := (fun _ => True)) (by (repeat refine RS ?_); exact Kd.R_mono HO_6.out (fun _ hk => ⟨trivial, hk⟩)) hg hat); replace HB := am (hb); clear HO_5; clear ho hb hg hat) | ((with_reducible refine gate_builtin (b := .append) (xs := #[.tmp 82, .tmp 84]) rfl ?_); (try (refine gate_guard (by rfl) ?_; dsimp only)); at_builtin; refine Kd.R_append (Kd.int .i64) (w0 := w) w.heap.size rfl (.tmp 82) (.tmp 84) 37 3 (.int .i64 0) 8 rfl Try.underlying37 info3 rfl (by decide) (by omega) (.slice (some ad628) x6_1.length co25) x6_1 ji19 [.int .i64 ji19] (fun k_ => some k_ ≠ (v634 : Value).ownBlock) (fun _ => False) rfl rfl ?aP (fun _ hk => hk.elim) ?aF ?aO ?aB ?aS ?aL ?_; (case aP => exact rfl); (case aB => exact (by exact belL HB.out)); (case aF => exact (fun k_ hk => Kd.fresh' (Kd.R_lt (by exact RL HO635.out)) k_ hk)); (case aO => exact (by (repeat refine RS ?_); exact Kd.R_mono HO_6.out (fun _ hk => hk.2))); (case aS => exact (below_size (by exact belL HB.out))); (case aL => have := LMc23.out; omega); intro v637 w28 ho hb hg hat; rw [← Ny636.out] at ho; have HO638 := am (ho); replace HO635 := am (Kd.R_after (ok := (fun _ => True)) (by (repeat refine RS ?_); exact Kd.R_mono HO635.out (fun _ hk => ⟨trivial, hk⟩)) hg hat); replace HB := am (hb); clear HO_6; clear ho hb hg hat))
                  go_roundg k1
                  case measure => have := HK1.out; omega
                  case rel => exact ⟨(y633), (y636), (wrap64 (x7_1 + 1)), (by first | rfl | (simp; done) | (simp [*]; done)), H', ⟨by have := HK1.out; omega⟩, ⟨by (repeat refine RS ?_); exact Kd.R_mono HO635.out (fun _ hk => hk.2)⟩, ⟨by (repeat refine RS ?_); exact HO638.out⟩, ⟨by repeat (with_reducible first | exact HB.out | refine belS ?_)⟩⟩
                 ·rw [if_neg c23] at H
                  exact absurd H (by simp)
                ·rw [if_neg c22] at H
                 exact absurd H (by simp)
               ·replace c21 := Bool.eq_false_iff.mpr c21
                subst c21
                rw [if_neg (show ¬ (false = true) by decide)] at H
                simp only [Option.some.injEq, Prod.mk.injEq] at H
                obtain ⟨rfl, rfl, rfl⟩ := H
                have p624 : 0 ≤ (x7_1 : Int) := of_decide_eq_true (by first | (with_reducible assumption) | assumption)
                have q624 : x7_1 < (l0.length : Int) := of_decide_eq_true (by first | (with_reducible assumption) | assumption)
                obtain ⟨ad624, e624, hx624_0, hx624_1, hx624_2, hx624_3, hx624_4⟩ := at_T61 HR0.out x7_1 p624 q624
                cases e624
                replace hx624_0 := (HB.out.cell (World.block_lt_of_cell? w _ hx624_0)).trans hx624_0
                replace hx624_1 := (HB.out.cell (World.block_lt_of_cell? w _ hx624_1)).trans hx624_1
                replace hx624_2 := (HB.out.cell (World.block_lt_of_cell? w _ hx624_2)).trans hx624_2
                replace hx624_3 := (HB.out.cell (World.block_lt_of_cell? w _ hx624_3)).trans hx624_3
                replace hx624_4 := (HB.out.cell (World.block_lt_of_cell? w _ hx624_4)).trans hx624_4
                replace p624 := eq_true p624
                replace q624 := eq_true q624
                go_wp2_with (first | (go_at_call 57; (with_reducible refine (tailwaterref04_Count.calls ((rd_T61 l0 x7_1).f0) t625 _ A4.out).mono ?_); rintro e w' ⟨rfl, ⟨nd, rfl⟩⟩; (try first | exact ⟨rfl, _, World.drewN_drewN _ _ _⟩ | exact ⟨rfl, _, Eq.trans (World.drewN_drewN _ _ _) (congrArg (World.drewN _) (Nat.add_assoc _ _ _))⟩); obtain ⟨Ao29, co29, eo29⟩ := Kd.R_slice HO_5.out; subst eo29; have p626 : 0 ≤ ((ji7) : Int) := of_decide_eq_true (by first | (with_reducible assumption) | assumption); have q626 : (ji7) < (x5_1.length : Int) := of_decide_eq_true (by first | (with_reducible assumption) | assumption); obtain ⟨ad626, e626, hx626_0⟩ := Kd.at_int (Kd.R_reads' HO_5.out).2.2 (ji7) p626 q626; cases e626; replace p626 := eq_true p626; replace q626 := eq_true q626; have p627 : 0 ≤ ((ji7) : Int) := of_decide_eq_true (by first | (with_reducible assumption) | assumption); have q627 : (ji7) < (x5_1.length : Int) := of_decide_eq_true (by first | (with_reducible assumption) | assumption); obtain ⟨ad627, e627, hx627_0⟩ := Kd.at_int (Kd.R_reads' HO_5.out).2.2 (ji7) p627 q627; obtain rfl : ad626 = ad627 := (by injection e627); replace p627 := eq_true p627; replace q627 := eq_true q627; obtain ⟨Ao30, co30, eo30⟩ := Kd.R_slice HO_6.out; subst eo30; have p628 : 0 ≤ ((ji7) : Int) := of_decide_eq_true (by first | (with_reducible assumption) | assumption); have q628 : (ji7) < (x6_1.length : Int) := of_decide_eq_true (by first | (with_reducible assumption) | assumption); obtain ⟨ad628, e628, hx628_0⟩ := Kd.at_int (Kd.R_reads' HO_6.out).2.2 (ji7) p628 q628; cases e628; replace p628 := eq_true p628; replace q628 := eq_true q628; have p629 : 0 ≤ ((ji15) : Int) := of_decide_eq_true (by first | (with_reducible assumption) | assumption); have q629 : (ji15) < (x5_1.length : Int) := of_decide_eq_true (by first | (with_reducible assumption) | assumption); obtain ⟨ad629, e629, hx629_0⟩ := Kd.at_int (Kd.R_reads' HO_5.out).2.2 (ji15) p629 q629; obtain rfl : ad626 = ad629 := (by injection e629); replace p629 := eq_true p629; replace q629 := eq_true q629; have p630 : 0 ≤ ((ji15) : Int) := of_decide_eq_true (by first | (with_reducible assumption) | assumption); have q630 : (ji15) < (x6_1.length : Int) := of_decide_eq_true (by first | (with_reducible assumption) | assumption); obtain ⟨ad630, e630, hx630_0⟩ := Kd.at_int (Kd.R_reads' HO_6.out).2.2 (ji15) p630 q630; obtain rfl : ad628 = ad630 := (by injection e630); replace p630 := eq_true p630; replace q630 := eq_true q630; have p631 : 0 ≤ (x7_1 : Int) := of_decide_eq_true (by first | (with_reducible assumption) | assumption); have q631 : x7_1 < (l0.length : Int) := of_decide_eq_true (by first | (with_reducible assumption) | assumption); obtain ⟨ad631, e631, hx631_0, hx631_1, hx631_2, hx631_3, hx631_4⟩ := at_T61 HR0.out x7_1 p631 q631; obtain rfl : ad624 = ad631 := (by injection e631); replace hx631_0 := (HB.out.cell (World.block_lt_of_cell? w _ hx631_0)).trans hx631_0; replace hx631_1 := (HB.out.cell (World.block_lt_of_cell? w _ hx631_1)).trans hx631_1; replace hx631_2 := (HB.out.cell (World.block_lt_of_cell? w _ hx631_2)).trans hx631_2; replace hx631_3 := (HB.out.cell (World.block_lt_of_cell? w _ hx631_3)).trans hx631_3; replace hx631_4 := (HB.out.cell (World.block_lt_of_cell? w _ hx631_4)).trans hx631_4; replace p631 := eq_true p631; replace q631 := eq_true q631) | (go_at_call 91; (with_reducible refine (tailwaterref04_right.calls ((rd_T61 l0 x7_1).f0) ((rd_T61 l0 x7_1).f1) ((rd_T61 l0 x7_1).f2) ((rd_T61 l0 x7_1).f3) ((rd_T61 l0 x7_1).f4) ji15 ji7 false _ A20.out).mono ?_); rintro e w31 ⟨rfl, hb⟩; replace HB := am (below_step (by exact belL HB.out) hb); (try clear hb); (try clear hb2); (try clear hk); (try clear hi)))
                go_ret3
                exact ⟨_, _, by first | rfl | (simp [errW_none, errW_some] <;> rfl) | (simp only [← hji7, ← hji15, ← hji19]; first | rfl | (simp [errW_none, errW_some] <;> rfl)) | (simp [*, errW_none, errW_some] <;> rfl), by first | exact Kd.R_nil _ _ _ _ _ | exact Kd.N_nil _ _ _ _ _ | exact Kd.V_nil _ _ _ _ _ | exact Kd.Q_nil _ _ _ _ _ | exact Kd.S_nil _ _ _ _ _, by first | exact Kd.R_nil _ _ _ _ _ | exact Kd.N_nil _ _ _ _ _ | exact Kd.V_nil _ _ _ _ _ | exact Kd.Q_nil _ _ _ _ _ | exact Kd.S_nil _ _ _ _ _, by repeat (with_reducible first | exact HB.out | refine belS ?_)⟩
              ·rw [if_neg c18] at H
               exact absurd H (by simp)
             ·rw [if_neg c17] at H
              exact absurd H (by simp)
            ·rw [if_neg c16] at H
             exact absurd H (by simp)
          ·rw [if_neg c11] at H
           have c11b0 : (t625 == 2) = false := beq_eq_false_iff_ne.mpr c11
           have c11b1 : (t625 != 2) = true := bne_iff_ne.mpr c11
           replace H := Option.bind_eq_some_iff.mp H
           obtain ⟨t640, A320, H⟩ := H
           try dsimp only at H
           have A32 := am A320
           clear A320
           by_cases c33 : t640 = true
           ·subst c33
            rw [if_pos rfl] at H
            by_cases c34 : x5_1.length < 17592186044416
            ·rw [if_pos c34] at H
             have LMc34 := am c34
             clear c34
             obtain ⟨y641, hy641⟩ : ∃ y_ : List Int, y_ = (x5_1 ++ [wrap64 (1 + (rd x5_1 (ji7)))]) := ⟨_, rfl⟩
             replace H : (if x6_1.length < 17592186044416 then (tailwaterref04_Sizes.l0 k1 l0 y641 (x6_1 ++ [wrap64 (1 + (rd x6_1 (ji7)))]) (wrap64 (x7_1 + 1))) else (none)) = some (r1, r2, r3) := by first | (rw [hy641]; with_reducible exact H) | (have H2_ := (Option.bind_some _ _).symm.trans H; rw [hy641]; with_reducible exact H2_) | (have H2_ := (Option.bind_some _ _).symm.trans H; with_reducible exact H2_) | with_reducible exact H | (rw [hy641]; exact H) | exact H
             have Ny641 := am hy641
             clear hy641
             by_cases c35 : x6_1.length < 17592186044416
             ·rw [if_pos c35] at H
              have LMc35 := am c35
              clear c35
              obtain ⟨y644, hy644⟩ : ∃ y_ : List Int, y_ = (x6_1 ++ [wrap64 (1 + (rd x6_1 (ji7)))]) := ⟨_, rfl⟩
              replace H : (tailwaterref04_Sizes.l0 k1 l0 y641 y644 (wrap64 (x7_1 + 1))) = some (r1, r2, r3) := by first | (rw [hy644]; with_reducible exact H) | (have H2_ := (Option.bind_some _ _).symm.trans H; rw [hy644]; with_reducible exact H2_) | (have H2_ := (Option.bind_some _ _).symm.trans H; with_reducible exact H2_) | with_reducible exact H | (rw [hy644]; exact H) | exact H
              have Ny644 := am hy644
              clear hy644
              have H' := am H
              clear H
              have p624 : 0 ≤ (x7_1 : Int) := of_decide_eq_true (by first | (with_reducible assumption) | assumption)
              have q624 : x7_1 < (l0.length : Int) := of_decide_eq_true (by first | (with_reducible assumption) | assumption)
              obtain ⟨ad624, e624, hx624_0, hx624_1, hx624_2, hx624_3, hx624_4⟩ := at_T61 HR0.out x7_1 p624 q624
              cases e624
              replace hx624_0 := (HB.out.cell (World.block_lt_of_cell? w _ hx624_0)).trans hx624_0
              replace hx624_1 := (HB.out.cell (World.block_lt_of_cell? w _ hx624_1)).trans hx624_1
              replace hx624_2 := (HB.out.cell (World.block_lt_of_cell? w _ hx624_2)).trans hx624_2
              replace hx624_3 := (HB.out.cell (World.block_lt_of_cell? w _ hx624_3)).trans hx624_3
              replace hx624_4 := (HB.out.cell (World.block_lt_of_cell? w _ hx624_4)).trans hx624_4
              replace p624 := eq_true p624
              replace q624 := eq_true q624
              go_wp2_with (first | (go_at_call 57; (with_reducible refine (tailwaterref04_Count.calls ((rd_T61 l0 x7_1).f0) t625 _ A4.out).mono ?_); rintro e w' ⟨rfl, ⟨nd, rfl⟩⟩; (try first | exact ⟨rfl, _, World.drewN_drewN _ _ _⟩ | exact ⟨rfl, _, Eq.trans (World.drewN_drewN _ _ _) (congrArg (World.drewN _) (Nat.add_assoc _ _ _))⟩); obtain ⟨Ao36, co36, eo36⟩ := Kd.R_slice HO_5.out; subst eo36; have p626 : 0 ≤ ((ji7) : Int) := of_decide_eq_true (by first | (with_reducible assumption) | assumption); have q626 : (ji7) < (x5_1.length : Int) := of_decide_eq_true (by first | (with_reducible assumption) | assumption); obtain ⟨ad626, e626, hx626_0⟩ := Kd.at_int (Kd.R_reads' HO_5.out).2.2 (ji7) p626 q626; cases e626; replace p626 := eq_true p626; replace q626 := eq_true q626; have p627 : 0 ≤ ((ji7) : Int) := of_decide_eq_true (by first | (with_reducible assumption) | assumption); have q627 : (ji7) < (x5_1.length : Int) := of_decide_eq_true (by first | (with_reducible assumption) | assumption); obtain ⟨ad627, e627, hx627_0⟩ := Kd.at_int (Kd.R_reads' HO_5.out).2.2 (ji7) p627 q627; obtain rfl : ad626 = ad627 := (by injection e627); replace p627 := eq_true p627; replace q627 := eq_true q627; obtain ⟨Ao37, co37, eo37⟩ := Kd.R_slice HO_6.out; subst eo37; have p628 : 0 ≤ ((ji7) : Int) := of_decide_eq_true (by first | (with_reducible assumption) | assumption); have q628 : (ji7) < (x6_1.length : Int) := of_decide_eq_true (by first | (with_reducible assumption) | assumption); obtain ⟨ad628, e628, hx628_0⟩ := Kd.at_int (Kd.R_reads' HO_6.out).2.2 (ji7) p628 q628; cases e628; replace p628 := eq_true p628; replace q628 := eq_true q628; have p639 : 0 ≤ (x7_1 : Int) := of_decide_eq_true (by first | (with_reducible assumption) | assumption); have q639 : x7_1 < (l0.length : Int) := of_decide_eq_true (by first | (with_reducible assumption) | assumption); obtain ⟨ad639, e639, hx639_0, hx639_1, hx639_2, hx639_3, hx639_4⟩ := at_T61 HR0.out x7_1 p639 q639; obtain rfl : ad624 = ad639 := (by injection e639); replace hx639_0 := (HB.out.cell (World.block_lt_of_cell? w _ hx639_0)).trans hx639_0; replace hx639_1 := (HB.out.cell (World.block_lt_of_cell? w _ hx639_1)).trans hx639_1; replace hx639_2 := (HB.out.cell (World.block_lt_of_cell? w _ hx639_2)).trans hx639_2; replace hx639_3 := (HB.out.cell (World.block_lt_of_cell? w _ hx639_3)).trans hx639_3; replace hx639_4 := (HB.out.cell (World.block_lt_of_cell? w _ hx639_4)).trans hx639_4; replace p639 := eq_true p639; replace q639 := eq_true q639) | (go_at_call 91; (with_reducible refine (tailwaterref04_right.calls ((rd_T61 l0 x7_1).f0) ((rd_T61 l0 x7_1).f1) ((rd_T61 l0 x7_1).f2) ((rd_T61 l0 x7_1).f3) ((rd_T61 l0 x7_1).f4) ji7 0 true _ A32.out).mono ?_); rintro e w38 ⟨rfl, hb⟩; replace HO_5 := am (Kd.R_below (by exact RL HO_5.out) hb); replace HO_6 := am (Kd.R_below (by exact RL HO_6.out) hb); replace HB := am (below_step (by exact belL HB.out) hb); (try clear hb); (try clear hb2); (try clear hk); (try clear hi)) | ((with_reducible refine gate_builtin (b := .append) (xs := #[.tmp 78, .tmp 80]) rfl ?_); (try (refine gate_guard (by rfl) ?_; dsimp only)); at_builtin; refine Kd.R_append (Kd.int .i64) (w0 := w) w.heap.size rfl (.tmp 78) (.tmp 80) 37 3 (.int .i64 0) 8 rfl Try.underlying37 info3 rfl (by decide) (by omega) (.slice (some ad626) x5_1.length co36) x5_1 (wrap64 (1 + (rd x5_1 (ji7)))) [.int .i64 (wrap64 (1 + (rd x5_1 (ji7))))] (fun k_ => some k_ ≠ (.slice (some ad628) x6_1.length co37 : Value).ownBlock) (fun _ => False) rfl rfl ?aP (fun _ hk => hk.elim) ?aF ?aO ?aB ?aS ?aL ?_; (case aP => exact rfl); (case aB => exact (by exact belL HB.out)); (case aF => exact (fun k_ hk => Kd.fresh' (Kd.R_lt (by exact RL HO_6.out)) k_ hk)); (case aO => exact (by exact RL HO_5.out)); (case aS => exact (below_size (by exact belL HB.out))); (case aL => have := LMc34.out; omega); intro v642 w39 ho hb hg hat; rw [← Ny641.out] at ho; have HO643 := am (ho); replace HO_6 := am (Kd.R_after (ok := (fun _ => True)) (by (repeat refine RS ?_); exact Kd.R_mono HO_6.out (fun _ hk => ⟨trivial, hk⟩)) hg hat); replace HB := am (hb); clear HO_5; clear ho hb hg hat) | ((with_reducible refine gate_builtin (b := .append) (xs := #[.tmp 82, .tmp 84]) rfl ?_); (try (refine gate_guard (by rfl) ?_; dsimp only)); at_builtin; refine Kd.R_append (Kd.int .i64) (w0 := w) w.heap.size rfl (.tmp 82) (.tmp 84) 37 3 (.int .i64 0) 8 rfl Try.underlying37 info3 rfl (by decide) (by omega) (.slice (some ad628) x6_1.length co37) x6_1 (wrap64 (1 + (rd x6_1 (ji7)))) [.int .i64 (wrap64 (1 + (rd x6_1 (ji7))))] (fun k_ => some k_ ≠ (v642 : Value).ownBlock) (fun _ => False) rfl rfl ?aP (fun _ hk => hk.elim) ?aF ?aO ?aB ?aS ?aL ?_; (case aP => exact rfl); (case aB => exact (by exact belL HB.out)); (case aF => exact (fun k_ hk => Kd.fresh' (Kd.R_lt (by exact RL HO643.out)) k_ hk)); (case aO => exact (by (repeat refine RS ?_); exact Kd.R_mono HO_6.out (fun _ hk => hk.2))); (case aS => exact (below_size (by exact belL HB.out))); (case aL => have := LMc35.out; omega); intro v645 w40 ho hb hg hat; rw [← Ny644.out] at ho; have HO646 := am (ho); replace HO643 := am (Kd.R_after (ok := (fun _ => True)) (by (repeat refine RS ?_); exact Kd.R_mono HO643.out (fun _ hk => ⟨trivial, hk⟩)) hg hat); replace HB := am (hb); clear HO_6; clear ho hb hg hat))
              go_roundg k1
              case measure => have := HK1.out; omega
              case rel => exact ⟨(y641), (y644), (wrap64 (x7_1 + 1)), (by first | rfl | (simp; done) | (simp [*]; done)), H', ⟨by have := HK1.out; omega⟩, ⟨by (repeat refine RS ?_); exact Kd.R_mono HO643.out (fun _ hk => hk.2)⟩, ⟨by (repeat refine RS ?_); exact HO646.out⟩, ⟨by repeat (with_reducible first | exact HB.out | refine belS ?_)⟩⟩
             ·rw [if_neg c35] at H
              exact absurd H (by simp)
            ·rw [if_neg c34] at H
             exact absurd H (by simp)
           ·replace c33 := Bool.eq_false_iff.mpr c33
            subst c33
            rw [if_neg (show ¬ (false = true) by decide)] at H
            simp only [Option.some.injEq, Prod.mk.injEq] at H
            obtain ⟨rfl, rfl, rfl⟩ := H
            have p624 : 0 ≤ (x7_1 : Int) := of_decide_eq_true (by first | (with_reducible assumption) | assumption)
            have q624 : x7_1 < (l0.length : Int) := of_decide_eq_true (by first | (with_reducible assumption) | assumption)
            obtain ⟨ad624, e624, hx624_0, hx624_1, hx624_2, hx624_3, hx624_4⟩ := at_T61 HR0.out x7_1 p624 q624
            cases e624
            replace hx624_0 := (HB.out.cell (World.block_lt_of_cell? w _ hx624_0)).trans hx624_0
            replace hx624_1 := (HB.out.cell (World.block_lt_of_cell? w _ hx624_1)).trans hx624_1
            replace hx624_2 := (HB.out.cell (World.block_lt_of_cell? w _ hx624_2)).trans hx624_2
            replace hx624_3 := (HB.out.cell (World.block_lt_of_cell? w _ hx624_3)).trans hx624_3
            replace hx624_4 := (HB.out.cell (World.block_lt_of_cell? w _ hx624_4)).trans hx624_4
            replace p624 := eq_true p624
            replace q624 := eq_true q624
            go_wp2_with (first | (go_at_call 57; (with_reducible refine (tailwaterref04_Count.calls ((rd_T61 l0 x7_1).f0) t625 _ A4.out).mono ?_); rintro e w' ⟨rfl, ⟨nd, rfl⟩⟩; (try first | exact ⟨rfl, _, World.drewN_drewN _ _ _⟩ | exact ⟨rfl, _, Eq.trans (World.drewN_drewN _ _ _) (congrArg (World.drewN _) (Nat.add_assoc _ _ _))⟩); obtain ⟨Ao41, co41, eo41⟩ := Kd.R_slice HO_5.out; subst eo41; have p626 : 0 ≤ ((ji7) : Int) := of_decide_eq_true (by first | (with_reducible assumption) | assumption); have q626 : (ji7) < (x5_1.length : Int) := of_decide_eq_true (by first | (with_reducible assumption) | assumption); obtain ⟨ad626, e626, hx626_0⟩ := Kd.at_int (Kd.R_reads' HO_5.out).2.2 (ji7) p626 q626; cases e626; replace p626 := eq_true p626; replace q626 := eq_true q626; have p627 : 0 ≤ ((ji7) : Int) := of_decide_eq_true (by first | (with_reducible assumption) | assumption); have q627 : (ji7) < (x5_1.length : Int) := of_decide_eq_true (by first | (with_reducible assumption) | assumption); obtain ⟨ad627, e627, hx627_0⟩ := Kd.at_int (Kd.R_reads' HO_5.out).2.2 (ji7) p627 q627; obtain rfl : ad626 = ad627 := (by injection e627); replace p627 := eq_true p627; replace q627 := eq_true q627; obtain ⟨Ao42, co42, eo42⟩ := Kd.R_slice HO_6.out; subst eo42; have p628 : 0 ≤ ((ji7) : Int) := of_decide_eq_true (by first | (with_reducible assumption) | assumption); have q628 : (ji7) < (x6_1.length : Int) := of_decide_eq_true (by first | (with_reducible assumption) | assumption); obtain ⟨ad628, e628, hx628_0⟩ := Kd.at_int (Kd.R_reads' HO_6.out).2.2 (ji7) p628 q628; cases e628; replace p628 := eq_true p628; replace q628 := eq_true q628; have p639 : 0 ≤ (x7_1 : Int) := of_decide_eq_true (by first | (with_reducible assumption) | assumption); have q639 : x7_1 < (l0.length : Int) := of_decide_eq_true (by first | (with_reducible assumption) | assumption); obtain ⟨ad639, e639, hx639_0, hx639_1, hx639_2, hx639_3, hx639_4⟩ := at_T61 HR0.out x7_1 p639 q639; obtain rfl : ad624 = ad639 := (by injection e639); replace hx639_0 := (HB.out.cell (World.block_lt_of_cell? w _ hx639_0)).trans hx639_0; replace hx639_1 := (HB.out.cell (World.block_lt_of_cell? w _ hx639_1)).trans hx639_1; replace hx639_2 := (HB.out.cell (World.block_lt_of_cell? w _ hx639_2)).trans hx639_2; replace hx639_3 := (HB.out.cell (World.block_lt_of_cell? w _ hx639_3)).trans hx639_3; replace hx639_4 := (HB.out.cell (World.block_lt_of_cell? w _ hx639_4)).trans hx639_4; replace p639 := eq_true p639; replace q639 := eq_true q639) | (go_at_call 91; (with_reducible refine (tailwaterref04_right.calls ((rd_T61 l0 x7_1).f0) ((rd_T61 l0 x7_1).f1) ((rd_T61 l0 x7_1).f2) ((rd_T61 l0 x7_1).f3) ((rd_T61 l0 x7_1).f4) ji7 0 false _ A32.out).mono ?_); rintro e w43 ⟨rfl, hb⟩; replace HB := am (below_step (by exact belL HB.out) hb); (try clear hb); (try clear hb2); (try clear hk); (try clear hi)))
            go_ret3
            exact ⟨_, _, by first | rfl | (simp [errW_none, errW_some] <;> rfl) | (simp only [← hji7]; first | rfl | (simp [errW_none, errW_some] <;> rfl)) | (simp [*, errW_none, errW_some] <;> rfl), by first | exact Kd.R_nil _ _ _ _ _ | exact Kd.N_nil _ _ _ _ _ | exact Kd.V_nil _ _ _ _ _ | exact Kd.Q_nil _ _ _ _ _ | exact Kd.S_nil _ _ _ _ _, by first | exact Kd.R_nil _ _ _ _ _ | exact Kd.N_nil _ _ _ _ _ | exact Kd.V_nil _ _ _ _ _ | exact Kd.Q_nil _ _ _ _ _ | exact Kd.S_nil _ _ _ _ _, by repeat (with_reducible first | exact HB.out | refine belS ?_)⟩
         ·rw [if_neg c10] at H
          exact absurd H (by simp)
        ·rw [if_neg c9] at H
         exact absurd H (by simp)
       ·rw [if_neg c8] at H
        exact absurd H (by simp)
     ·rw [if_neg c5] at H
      have c5b0 : decide (0 < t625) = false := decide_eq_false c5
      clear c5
      replace H := Option.bind_eq_some_iff.mp H
      obtain ⟨t648, A440, H⟩ := H
      try dsimp only at H
      have A44 := am A440
      clear A440
      by_cases c45 : t648 = true
      ·subst c45
       rw [if_pos rfl] at H
       by_cases c46 : x5_1.length < 17592186044416
       ·rw [if_pos c46] at H
        have LMc46 := am c46
        clear c46
        obtain ⟨y649, hy649⟩ : ∃ y_ : List Int, y_ = (x5_1 ++ [1]) := ⟨_, rfl⟩
        replace H : (if x6_1.length < 17592186044416 then (tailwaterref04_Sizes.l0 k1 l0 y649 (x6_1 ++ [1]) (wrap64 (x7_1 + 1))) else (none)) = some (r1, r2, r3) := by first | (rw [hy649]; with_reducible exact H) | (have H2_ := (Option.bind_some _ _).symm.trans H; rw [hy649]; with_reducible exact H2_) | (have H2_ := (Option.bind_some _ _).symm.trans H; with_reducible exact H2_) | with_reducible exact H | (rw [hy649]; exact H) | exact H
        have Ny649 := am hy649
        clear hy649
        by_cases c47 : x6_1.length < 17592186044416
        ·rw [if_pos c47] at H
         have LMc47 := am c47
         clear c47
         obtain ⟨y652, hy652⟩ : ∃ y_ : List Int, y_ = (x6_1 ++ [1]) := ⟨_, rfl⟩
         replace H : (tailwaterref04_Sizes.l0 k1 l0 y649 y652 (wrap64 (x7_1 + 1))) = some (r1, r2, r3) := by first | (rw [hy652]; with_reducible exact H) | (have H2_ := (Option.bind_some _ _).symm.trans H; rw [hy652]; with_reducible exact H2_) | (have H2_ := (Option.bind_some _ _).symm.trans H; with_reducible exact H2_) | with_reducible exact H | (rw [hy652]; exact H) | exact H
         have Ny652 := am hy652
         clear hy652
         have H' := am H
         clear H
         have p624 : 0 ≤ (x7_1 : Int) := of_decide_eq_true (by first | (with_reducible assumption) | assumption)
         have q624 : x7_1 < (l0.length : Int) := of_decide_eq_true (by first | (with_reducible assumption) | assumption)
         obtain ⟨ad624, e624, hx624_0, hx624_1, hx624_2, hx624_3, hx624_4⟩ := at_T61 HR0.out x7_1 p624 q624
         cases e624
         replace hx624_0 := (HB.out.cell (World.block_lt_of_cell? w _ hx624_0)).trans hx624_0
         replace hx624_1 := (HB.out.cell (World.block_lt_of_cell? w _ hx624_1)).trans hx624_1
         replace hx624_2 := (HB.out.cell (World.block_lt_of_cell? w _ hx624_2)).trans hx624_2
         replace hx624_3 := (HB.out.cell (World.block_lt_of_cell? w _ hx624_3)).trans hx624_3
         replace hx624_4 := (HB.out.cell (World.block_lt_of_cell? w _ hx624_4)).trans hx624_4
         replace p624 := eq_true p624
         replace q624 := eq_true q624
         go_wp2_with (first | (go_at_call 57; (with_reducible refine (tailwaterref04_Count.calls ((rd_T61 l0 x7_1).f0) t625 _ A4.out).mono ?_); rintro e w' ⟨rfl, ⟨nd, rfl⟩⟩; (try first | exact ⟨rfl, _, World.drewN_drewN _ _ _⟩ | exact ⟨rfl, _, Eq.trans (World.drewN_drewN _ _ _) (congrArg (World.drewN _) (Nat.add_assoc _ _ _))⟩); have p647 : 0 ≤ (x7_1 : Int) := of_decide_eq_true (by first | (with_reducible assumption) | assumption); have q647 : x7_1 < (l0.length : Int) := of_decide_eq_true (by first | (with_reducible assumption) | assumption); obtain ⟨ad647, e647, hx647_0, hx647_1, hx647_2, hx647_3, hx647_4⟩ := at_T61 HR0.out x7_1 p647 q647; obtain rfl : ad624 = ad647 := (by injection e647); replace hx647_0 := (HB.out.cell (World.block_lt_of_cell? w _ hx647_0)).trans hx647_0; replace hx647_1 := (HB.out.cell (World.block_lt_of_cell? w _ hx647_1)).trans hx647_1; replace hx647_2 := (HB.out.cell (World.block_lt_of_cell? w _ hx647_2)).trans hx647_2; replace hx647_3 := (HB.out.cell (World.block_lt_of_cell? w _ hx647_3)).trans hx647_3; replace hx647_4 := (HB.out.cell (World.block_lt_of_cell? w _ hx647_4)).trans hx647_4; replace p647 := eq_true p647; replace q647 := eq_true q647) | (go_at_call 91; (with_reducible refine (tailwaterref04_right.calls ((rd_T61 l0 x7_1).f0) ((rd_T61 l0 x7_1).f1) ((rd_T61 l0 x7_1).f2) ((rd_T61 l0 x7_1).f3) ((rd_T61 l0 x7_1).f4) 0 0 true _ A44.out).mono ?_); rintro e w48 ⟨rfl, hb⟩; replace HO_5 := am (Kd.R_below (by exact RL HO_5.out) hb); replace HO_6 := am (Kd.R_below (by exact RL HO_6.out) hb); replace HB := am (below_step (by exact belL HB.out) hb); (try clear hb); (try clear hb2); (try clear hk); (try clear hi)) | ((with_reducible refine gate_builtin (b := .append) (xs := #[.tmp 78, .tmp 80]) rfl ?_); (try (refine gate_guard (by rfl) ?_; dsimp only)); at_builtin; refine Kd.R_append (Kd.int .i64) (w0 := w) w.heap.size rfl (.tmp 78) (.tmp 80) 37 3 (.int .i64 0) 8 rfl Try.underlying37 info3 rfl (by decide) (by omega) u5 x5_1 1 [.int .i64 1] (fun k_ => some k_ ≠ (u6 : Value).ownBlock) (fun _ => False) rfl rfl ?aP (fun _ hk => hk.elim) ?aF ?aO ?aB ?aS ?aL ?_; (case aP => exact rfl); (case aB => exact (by exact belL HB.out)); (case aF => exact (fun k_ hk => Kd.fresh' (Kd.R_lt (by exact RL HO_6.out)) k_ hk)); (case aO => exact (by exact RL HO_5.out)); (case aS => exact (below_size (by exact belL HB.out))); (case aL => have := LMc46.out; omega); intro v650 w49 ho hb hg hat; rw [← Ny649.out] at ho; have HO651 := am (ho); replace HO_6 := am (Kd.R_after (ok := (fun _ => True)) (by (repeat refine RS ?_); exact Kd.R_mono HO_6.out (fun _ hk => ⟨trivial, hk⟩)) hg hat); replace HB := am (hb); clear HO_5; clear ho hb hg hat) | ((with_reducible refine gate_builtin (b := .append) (xs := #[.tmp 82, .tmp 84]) rfl ?_); (try (refine gate_guard (by rfl) ?_; dsimp only)); at_builtin; refine Kd.R_append (Kd.int .i64) (w0 := w) w.heap.size rfl (.tmp 82) (.tmp 84) 37 3 (.int .i64 0) 8 rfl Try.underlying37 info3 rfl (by decide) (by omega) u6 x6_1 1 [.int .i64 1] (fun k_ => some k_ ≠ (v650 : Value).ownBlock) (fun _ => False) rfl rfl ?aP (fun _ hk => hk.elim) ?aF ?aO ?aB ?aS ?aL ?_; (case aP => exact rfl); (case aB => exact (by exact belL HB.out)); (case aF => exact (fun k_ hk => Kd.fresh' (Kd.R_lt (by exact RL HO651.out)) k_ hk)); (case aO => exact (by (repeat refine RS ?_); exact Kd.R_mono HO_6.out (fun _ hk => hk.2))); (case aS => exact (below_size (by exact belL HB.out))); (case aL => have := LMc47.out; omega); intro v653 w50 ho hb hg hat; rw [← Ny652.out] at ho; have HO654 := am (ho); replace HO651 := am (Kd.R_after (ok := (fun _ => True)) (by (repeat refine RS ?_); exact Kd.R_mono HO651.out (fun _ hk => ⟨trivial, hk⟩)) hg hat); replace HB := am (hb); clear HO_6; clear ho hb hg hat))
         go_roundg k1
         case measure => have := HK1.out; omega
         case rel => exact ⟨(y649), (y652), (wrap64 (x7_1 + 1)), (by first | rfl | (simp; done) | (simp [*]; done)), H', ⟨by have := HK1.out; omega⟩, ⟨by (repeat refine RS ?_); exact Kd.R_mono HO651.out (fun _ hk => hk.2)⟩, ⟨by (repeat refine RS ?_); exact HO654.out⟩, ⟨by repeat (with_reducible first | exact HB.out | refine belS ?_)⟩⟩
        ·rw [if_neg c47] at H
         exact absurd H (by simp)
       ·rw [if_neg c46] at H
        exact absurd H (by simp)
      ·replace c45 := Bool.eq_false_iff.mpr c45
       subst c45
       rw [if_neg (show ¬ (false = true) by decide)] at H
       simp only [Option.some.injEq, Prod.mk.injEq] at H
       obtain ⟨rfl, rfl, rfl⟩ := H
       have p624 : 0 ≤ (x7_1 : Int) := of_decide_eq_true (by first | (with_reducible assumption) | assumption)
       have q624 : x7_1 < (l0.length : Int) := of_decide_eq_true (by first | (with_reducible assumption) | assumption)
       obtain ⟨ad624, e624, hx624_0, hx624_1, hx624_2, hx624_3, hx624_4⟩ := at_T61 HR0.out x7_1 p624 q624
       cases e624
       replace hx624_0 := (HB.out.cell (World.block_lt_of_cell? w _ hx624_0)).trans hx624_0
       replace hx624_1 := (HB.out.cell (World.block_lt_of_cell? w _ hx624_1)).trans hx624_1
       replace hx624_2 := (HB.out.cell (World.block_lt_of_cell? w _ hx624_2)).trans hx624_2
       replace hx624_3 := (HB.out.cell (World.block_lt_of_cell? w _ hx624_3)).trans hx624_3
       replace hx624_4 := (HB.out.cell (World.block_lt_of_cell? w _ hx624_4)).trans hx624_4
       replace p624 := eq_true p624
       replace q624 := eq_true q624
       go_wp2_with (first | (go_at_call 57; (with_reducible refine (tailwaterref04_Count.calls ((rd_T61 l0 x7_1).f0) t625 _ A4.out).mono ?_); rintro e w' ⟨rfl, ⟨nd, rfl⟩⟩; (try first | exact ⟨rfl, _, World.drewN_drewN _ _ _⟩ | exact ⟨rfl, _, Eq.trans (World.drewN_drewN _ _ _) (congrArg (World.drewN _) (Nat.add_assoc _ _ _))⟩); have p647 : 0 ≤ (x7_1 : Int) := of_decide_eq_true (by first | (with_reducible assumption) | assumption); have q647 : x7_1 < (l0.length : Int) := of_decide_eq_true (by first | (with_reducible assumption) | assumption); obtain ⟨ad647, e647, hx647_0, hx647_1, hx647_2, hx647_3, hx647_4⟩ := at_T61 HR0.out x7_1 p647 q647; obtain rfl : ad624 = ad647 := (by injection e647); replace hx647_0 := (HB.out.cell (World.block_lt_of_cell? w _ hx647_0)).trans hx647_0; replace hx647_1 := (HB.out.cell (World.block_lt_of_cell? w _ hx647_1)).trans hx647_1; replace hx647_2 := (HB.out.cell (World.block_lt_of_cell? w _ hx647_2)).trans hx647_2; replace hx647_3 := (HB.out.cell (World.block_lt_of_cell? w _ hx647_3)).trans hx647_3; replace hx647_4 := (HB.out.cell (World.block_lt_of_cell? w _ hx647_4)).trans hx647_4; replace p647 := eq_true p647; replace q647 := eq_true q647) | (go_at_call 91; (with_reducible refine (tailwaterref04_right.calls ((rd_T61 l0 x7_1).f0) ((rd_T61 l0 x7_1).f1) ((rd_T61 l0 x7_1).f2) ((rd_T61 l0 x7_1).f3) ((rd_T61 l0 x7_1).f4) 0 0 false _ A44.out).mono ?_); rintro e w51 ⟨rfl, hb⟩; replace HB := am (below_step (by exact belL HB.out) hb); (try clear hb); (try clear hb2); (try clear hk); (try clear hi)))
       go_ret3
       exact ⟨_, _, by first | rfl | (simp [errW_none, errW_some] <;> rfl) | (simp [*, errW_none, errW_some] <;> rfl), by first | exact Kd.R_nil _ _ _ _ _ | exact Kd.N_nil _ _ _ _ _ | exact Kd.V_nil _ _ _ _ _ | exact Kd.Q_nil _ _ _ _ _ | exact Kd.S_nil _ _ _ _ _, by first | exact Kd.R_nil _ _ _ _ _ | exact Kd.N_nil _ _ _ _ _ | exact Kd.V_nil _ _ _ _ _ | exact Kd.Q_nil _ _ _ _ _ | exact Kd.S_nil _ _ _ _ _, by repeat (with_reducible first | exact HB.out | refine belS ?_)⟩
    ·rw [if_neg c3] at H
     exact absurd H (by simp)
   ·rw [if_neg c2] at H
    have c2b0 : decide (x7_1 < (l0.length : Int)) = false := decide_eq_false c2
    clear c2
    by_cases c52 : (l0.length : Int) > 0
    ·rw [if_pos c52] at H
     have c52b0 : decide (0 < (l0.length : Int)) = true := decide_eq_true c52
     have c52b1 : decide (0 < l0.length) = true := decide_eq_true (by omega)
     clear c52
     obtain ⟨ji53, hji53⟩ : ∃ j_ : Int, (wrap64 ((l0.length : Int) - 1)) = j_ := ⟨_, rfl⟩
     replace H : (if 0 ≤ (ji53) then (if (ji53) < (x5_1.length : Int) then (some (x5_1, x6_1, ((rd x5_1 (ji53)) == (l0.length : Int)))) else (none)) else (none)) = some (r1, r2, r3) := by first | (rw [hji53] at H; exact H) | (simp only [hji53] at H ⊢; exact H)
     have hji53w : (IntKind.i64.wrap ((l0.length : Int) - 1)) = ji53 := (i64_w _).trans hji53
     by_cases c54 : 0 ≤ (ji53)
     ·rw [if_pos c54] at H
      have c54b0 : decide (0 ≤ (ji53)) = true := decide_eq_true c54
      clear c54
      by_cases c55 : (ji53) < (x5_1.length : Int)
      ·rw [if_pos c55] at H
       have c55b0 : decide ((ji53) < (x5_1.length : Int)) = true := decide_eq_true c55
       clear c55
       simp only [Option.some.injEq, Prod.mk.injEq] at H
       obtain ⟨rfl, rfl, rfl⟩ := H
       obtain ⟨Ao56, co56, eo56⟩ := Kd.R_slice HO_5.out
       subst eo56
       have p623 : 0 ≤ ((ji53) : Int) := of_decide_eq_true (by first | (with_reducible assumption) | assumption)
       have q623 : (ji53) < (x5_1.length : Int) := of_decide_eq_true (by first | (with_reducible assumption) | assumption)
       obtain ⟨ad623, e623, hx623_0⟩ := Kd.at_int (Kd.R_reads' HO_5.out).2.2 (ji53) p623 q623
       cases e623
       replace p623 := eq_true p623
       replace q623 := eq_true q623
       go_wp2
       repeat (go_quiet (fail); try go_wp2)
       go_ret3
       exact ⟨_, _, by first | rfl | (simp [errW_none, errW_some] <;> rfl) | (simp only [← hji53]; first | rfl | (simp [errW_none, errW_some] <;> rfl)) | (simp [*, errW_none, errW_some] <;> rfl), by (repeat refine RS ?_); exact HO_5.out, by (repeat refine RS ?_); exact HO_6.out, by repeat (with_reducible first | exact HB.out | refine belS ?_)⟩
      ·rw [if_neg c55] at H
       exact absurd H (by simp)
     ·rw [if_neg c54] at H
      exact absurd H (by simp)
    ·rw [if_neg c52] at H
     have c52b0 : decide (0 < (l0.length : Int)) = false := decide_eq_false c52
     have c52b1 : decide (0 < l0.length) = false := decide_eq_false (by omega)
     clear c52
     simp only [Option.some.injEq, Prod.mk.injEq] at H
     obtain ⟨rfl, rfl, rfl⟩ := H
     go_wp2
     repeat (go_quiet (fail); try go_wp2)
     go_ret3
     exact ⟨_, _, by first | rfl | (simp [errW_none, errW_some] <;> rfl) | (simp [*, errW_none, errW_some] <;> rfl), by (repeat refine RS ?_); exact HO_5.out, by (repeat refine RS ?_); exact HO_6.out, by repeat (with_reducible first | exact HB.out | refine belS ?_)⟩

def tailwaterref04_Check.f (k : Nat) (l0 : List (S61)) : Option (Int) := if (l0.length : Int) > 60 then (some 4) else ((tailwaterref04_Sizes.f k l0).bind fun bt655 => (if bt655.2.2 = true then (if 0 ≤ (wrap64 ((l0.length : Int) - 1)) then (if (wrap64 ((l0.length : Int) - 1)) < (bt655.2.1.length : Int) then (if (rd bt655.2.1 (wrap64 ((l0.length : Int) - 1))) > 20 then (some 34) else (some 0)) else (none)) else (none)) else (some 8)))
set_option maxHeartbeats 8000000 in
set_option maxRecDepth 100000 in
theorem tailwaterref04_Check.calls (k : Nat) (A0 : Option Addr) (c0 : Nat) (l0 : List (S61)) (r : Int) (w : World) (hr0 : Kd.C k61 w A0 l0.length l0) (hc0 : l0.length ≤ c0) (h : tailwaterref04_Check.f k l0 = some r) :
  Calls Try.prog 54 #[.slice A0 l0.length c0] w fun e w' => e = .returned (.int .i64 r) ∧ Below w.heap.size w w' := by
 have HR0 := am hr0
 have HC0 := am hc0
 clear hr0 hc0
 have HB := am (Below.refl w.heap.size w)
 have H : (if (l0.length : Int) > 60 then (some 4) else ((tailwaterref04_Sizes.f k l0).bind fun bt655 => (if bt655.2.2 = true then (if 0 ≤ (wrap64 ((l0.length : Int) - 1)) then (if (wrap64 ((l0.length : Int) - 1)) < (bt655.2.1.length : Int) then (if (rd bt655.2.1 (wrap64 ((l0.length : Int) - 1))) > 20 then (some 34) else (some 0)) else (none)) else (none)) else (some 8)))) = some r := h
 clear h
 by_cases c2 : (l0.length : Int) > 60
 ·rw [if_pos c2] at H
  have c2b0 : decide (60 < (l0.length : Int)) = true := decide_eq_true c2
  have c2b1 : decide (60 < l0.length) = true := decide_eq_true (by omega)
  clear c2
  obtain rfl := Option.some.inj H
  go_enter Try.func54, Try.ntmps54
  go_wp2
  go_ret
  exact ⟨by first | rfl | (simp [errW_none, errW_some] <;> rfl) | (simp [*, errW_none, errW_some] <;> rfl), by repeat (with_reducible first | exact HB.out | refine belS ?_)⟩
 ·rw [if_neg c2] at H
  have c2b0 : decide (60 < (l0.length : Int)) = false := decide_eq_false c2
  have c2b1 : decide (60 < l0.length) = false := decide_eq_false (by omega)
  clear c2
  replace H := Option.bind_eq_some_iff.mp H
  obtain ⟨⟨t655, t656, t657⟩, A30, H⟩ := H
  try dsimp only at H
  have A3 := am A30
  clear A30
  by_cases c4 : t657 = true
  ·subst c4
   rw [if_pos rfl] at H
   obtain ⟨ji5, hji5⟩ : ∃ j_ : Int, (wrap64 ((l0.length : Int) - 1)) = j_ := ⟨_, rfl⟩
   replace H : (if 0 ≤ (ji5) then (if (ji5) < (t656.length : Int) then (if (rd t656 (ji5)) > 20 then (some 34) else (some 0)) else (none)) else (none)) = some r := by first | (rw [hji5] at H; exact H) | (simp only [hji5] at H ⊢; exact H)
   (try rw [hji5] at A3)
   have hji5w : (IntKind.i64.wrap ((l0.length : Int) - 1)) = ji5 := (i64_w _).trans hji5
   by_cases c6 : 0 ≤ (ji5)
   ·rw [if_pos c6] at H
    have c6b0 : decide (0 ≤ (ji5)) = true := decide_eq_true c6
    clear c6
    by_cases c7 : (ji5) < (t656.length : Int)
    ·rw [if_pos c7] at H
     have c7b0 : decide ((ji5) < (t656.length : Int)) = true := decide_eq_true c7
     clear c7
     by_cases c8 : (rd t656 (ji5)) > 20
     ·rw [if_pos c8] at H
      have c8b0 : decide (20 < (rd t656 (ji5))) = true := decide_eq_true c8
      clear c8
      obtain rfl := Option.some.inj H
      go_enter Try.func54, Try.ntmps54
      go_wp2_with (first | ((with_reducible refine gate_callee (f := 76) rfl ?_); refine goesL_ (some 11) rfl rfl Try.func76 (by kernel_rfl) rfl #[.slice A0 l0.length c0] rfl (by (try simp only [List.map_toArray, List.map_cons, List.map_nil]) <;> rfl) ?_; (with_reducible refine (tailwaterref04_Sizes.calls k _ _ l0 t655 t656 true _ ?side1 ?side2 A3.out).mono ?_); (case side1 => repeat (first | exact HR0.out | (with_reducible refine Kd.C_alloc ?_ _) | (with_reducible refine Kd.C_drewN ?_ _) | (with_reducible refine Kd.C_drew ?_))); (case side2 => exact HC0.out); rintro e w9 ⟨v658, v660, rfl, ho0, ho1, hb⟩; refine ⟨_, rfl, ?_⟩; have HO659 := am (Kd.R_lower ho0 (below_size (by exact belL HB.out))); have HO661 := am (Kd.R_lower ho1 (below_size (by exact belL HB.out))); replace HB := am (below_step (by exact belL HB.out) hb); (try clear hb); (try clear hb2); (try clear hk); (try clear hi); (try clear ho0); (try clear ho1); obtain ⟨Ao10, co10, eo10⟩ := Kd.R_slice HO661.out; subst eo10; have p662 : 0 ≤ ((ji5) : Int) := of_decide_eq_true (by first | (with_reducible assumption) | assumption); have q662 : (ji5) < (t656.length : Int) := of_decide_eq_true (by first | (with_reducible assumption) | assumption); obtain ⟨ad662, e662, hx662_0⟩ := Kd.at_int (Kd.R_reads' HO661.out).2.2 (ji5) p662 q662; cases e662; replace p662 := eq_true p662; replace q662 := eq_true q662))
      go_ret
      exact ⟨by first | rfl | (simp [errW_none, errW_some] <;> rfl) | (simp only [← hji5]; first | rfl | (simp [errW_none, errW_some] <;> rfl)) | (simp [*, errW_none, errW_some] <;> rfl), by repeat (with_reducible first | exact HB.out | refine belS ?_)⟩
     ·rw [if_neg c8] at H
      have c8b0 : decide (20 < (rd t656 (ji5))) = false := decide_eq_false c8
      clear c8
      obtain rfl := Option.some.inj H
      go_enter Try.func54, Try.ntmps54
      go_wp2_with (first | ((with_reducible refine gate_callee (f := 76) rfl ?_); refine goesL_ (some 11) rfl rfl Try.func76 (by kernel_rfl) rfl #[.slice A0 l0.length c0] rfl (by (try simp only [List.map_toArray, List.map_cons, List.map_nil]) <;> rfl) ?_; (with_reducible refine (tailwaterref04_Sizes.calls k _ _ l0 t655 t656 true _ ?side1 ?side2 A3.out).mono ?_); (case side1 => repeat (first | exact HR0.out | (with_reducible refine Kd.C_alloc ?_ _) | (with_reducible refine Kd.C_drewN ?_ _) | (with_reducible refine Kd.C_drew ?_))); (case side2 => exact HC0.out); rintro e w11 ⟨v658, v660, rfl, ho0, ho1, hb⟩; refine ⟨_, rfl, ?_⟩; have HO659 := am (Kd.R_lower ho0 (below_size (by exact belL HB.out))); have HO661 := am (Kd.R_lower ho1 (below_size (by exact belL HB.out))); replace HB := am (below_step (by exact belL HB.out) hb); (try clear hb); (try clear hb2); (try clear hk); (try clear hi); (try clear ho0); (try clear ho1); obtain ⟨Ao12, co12, eo12⟩ := Kd.R_slice HO661.out; subst eo12; have p662 : 0 ≤ ((ji5) : Int) := of_decide_eq_true (by first | (with_reducible assumption) | assumption); have q662 : (ji5) < (t656.length : Int) := of_decide_eq_true (by first | (with_reducible assumption) | assumption); obtain ⟨ad662, e662, hx662_0⟩ := Kd.at_int (Kd.R_reads' HO661.out).2.2 (ji5) p662 q662; cases e662; replace p662 := eq_true p662; replace q662 := eq_true q662))
      go_ret
      exact ⟨by first | rfl | (simp [errW_none, errW_some] <;> rfl) | (simp only [← hji5]; first | rfl | (simp [errW_none, errW_some] <;> rfl)) | (simp [*, errW_none, errW_some] <;> rfl), by repeat (with_reducible first | exact HB.out | refine belS ?_)⟩
    ·rw [if_neg c7] at H
     exact absurd H (by simp)
   ·rw [if_neg c6] at H
    exact absurd H (by simp)
  ·replace c4 := Bool.eq_false_iff.mpr c4
   subst c4
   rw [if_neg (show ¬ (false = true) by decide)] at H
   obtain rfl := Option.some.inj H
   go_enter Try.func54, Try.ntmps54
   go_wp2_with (first | ((with_reducible refine gate_callee (f := 76) rfl ?_); refine goesL_ (some 11) rfl rfl Try.func76 (by kernel_rfl) rfl #[.slice A0 l0.length c0] rfl (by (try simp only [List.map_toArray, List.map_cons, List.map_nil]) <;> rfl) ?_; (with_reducible refine (tailwaterref04_Sizes.calls k _ _ l0 t655 t656 false _ ?side1 ?side2 A3.out).mono ?_); (case side1 => repeat (first | exact HR0.out | (with_reducible refine Kd.C_alloc ?_ _) | (with_reducible refine Kd.C_drewN ?_ _) | (with_reducible refine Kd.C_drew ?_))); (case side2 => exact HC0.out); rintro e w13 ⟨v658, v660, rfl, ho0, ho1, hb⟩; refine ⟨_, rfl, ?_⟩; have HO659 := am (Kd.R_lower ho0 (below_size (by exact belL HB.out))); have HO661 := am (Kd.R_lower ho1 (below_size (by exact belL HB.out))); replace HB := am (below_step (by exact belL HB.out) hb); (try clear hb); (try clear hb2); (try clear hk); (try clear hi); (try clear ho0); (try clear ho1)))
   go_ret
   exact ⟨by first | rfl | (simp [errW_none, errW_some] <;> rfl) | (simp [*, errW_none, errW_some] <;> rfl), by repeat (with_reducible first | exact HB.out | refine belS ?_)⟩

end Go.Proofs.Ytcdgohoinmbpfaa.M
