import Derived.Test.YtcdgohoinmbpfaaKFilterTwice6
import Derived.Test.YtcdgohoinmbpfaaKFilterTwice29
import Derived.Test.YtcdgohoinmbpfaaKFilterTwice28
import Derived.Test.YtcdgohoinmbpfaaKFilterTwice17
import Derived.Test.YtcdgohoinmbpfaaKFilterTwice19
namespace Go.Proofs.Ytcdgohoinmbpfaa.M
open Go.RowKit Go.Proofs.YtcdgohoinmbpfaaW.PrintWords Go.Proofs.YtcdgohoinmbpfaaW.PrintLast Go.Proofs.YtcdgohoinmbpfaaW.PrintMore
attribute [local go_sem] max2_int min2_int max_two min_two
set_option linter.unusedVariables false
set_option linter.unusedSimpArgs false

def tailwaterref07_Value.f : Nat → List (S61) → Int → Int → Int → Int → Option (Int)
 | 0, _, _, _, _, _ => none
 | k + 1, l0, a1, a2_0, a2_1, a2_2 => if 0 ≤ a1 then (if a1 < (l0.length : Int) then (if ((rd_T61 l0 a1).f0) = 1 then (some ((rd_T61 l0 a1).f1)) else (if ((rd_T61 l0 a1).f0) = 2 then (some a2_0) else (if ((rd_T61 l0 a1).f0) = 3 then (some a2_1) else (if ((rd_T61 l0 a1).f0) = 4 then (some a2_2) else ((tailwaterref04_Count.f ((rd_T61 l0 a1).f0)).bind fun t731 => (if t731 = 2 then ((tailwaterref07_Value.f k l0 ((rd_T61 l0 a1).f3) a2_0 a2_1 a2_2).bind fun t732 => ((tailwaterref07_Value.f k l0 ((rd_T61 l0 a1).f2) a2_0 a2_1 a2_2).bind fun t733 => ((tailwaterref01_Given.f k ((rd_T61 l0 a1).f0) t733 t732).bind fun t734 => (some t734)))) else ((tailwaterref07_Value.f k l0 ((rd_T61 l0 a1).f2) a2_0 a2_1 a2_2).bind fun t735 => ((tailwaterref01_Given.f k ((rd_T61 l0 a1).f0) t735 0).bind fun t736 => (some t736))))))))) else (none)) else (none)
def tailwaterref07_Value.T14 : Bool × List (List Nat × List Nat) := (true, [([], []), ([0], [0]), ([], []), ([], []), ([3], [3]), ([], []), ([2, 4, 5], [2, 4, 5]), ([], []), ([1, 6, 7, 6], [1, 6, 7]), ([8, 8, 0, 1, 2, 3, 4, 5, 6, 7, 8], [8])])
def tailwaterref07_Value.B14 : List Nat := [0, 1, 0, 0, 8, 0, 60, 0, 255, 511]
theorem tailwaterref07_Value.tab14 : rtab .any (opsOf Try.f37 14) = tailwaterref07_Value.T14 := by kernel_rfl
theorem tailwaterref07_Value.bits14 : waitsOk tailwaterref07_Value.T14.2 tailwaterref07_Value.B14 = true := by kernel_rfl
set_option maxHeartbeats 8000000 in
set_option maxRecDepth 100000 in
theorem tailwaterref07_Value.calls (k : Nat) : ∀ (A0 : Option Addr) (c0 : Nat) (l0 : List (S61)) (a1 : Int) (a2_0 : Int) (a2_1 : Int) (a2_2 : Int) (r : Int) (w : World) (hr0 : Kd.C k61 w A0 l0.length l0) (hc0 : l0.length ≤ c0) (h : tailwaterref07_Value.f k l0 a1 a2_0 a2_1 a2_2 = some r),
  Calls Try.prog 37 #[.slice A0 l0.length c0, .int .i64 a1, .agg #[.int .i64 a2_0, .int .i64 a2_1, .int .i64 a2_2]] w fun e w' => e = .returned (.int .i64 r) ∧ Below w.heap.size w w' := by
 induction k using Nat.strongRecOn with
 | _ k ih =>
 intro A0 c0 l0 a1 a2_0 a2_1 a2_2 r w hr0 hc0 h
 cases k with
 | zero => exact absurd h (by simp [tailwaterref07_Value.f])
 | succ k =>
 simp only [tailwaterref07_Value.f] at h
 have hu43 := Try.underlying43
 have hu61 := Try.underlying61
 have HR0 := am hr0
 have HC0 := am hc0
 clear hr0 hc0
 have HB := am (Below.refl w.heap.size w)
 have H : (if 0 ≤ a1 then (if a1 < (l0.length : Int) then (if ((rd_T61 l0 a1).f0) = 1 then (some ((rd_T61 l0 a1).f1)) else (if ((rd_T61 l0 a1).f0) = 2 then (some a2_0) else (if ((rd_T61 l0 a1).f0) = 3 then (some a2_1) else (if ((rd_T61 l0 a1).f0) = 4 then (some a2_2) else ((tailwaterref04_Count.f ((rd_T61 l0 a1).f0)).bind fun t731 => (if t731 = 2 then ((tailwaterref07_Value.f k l0 ((rd_T61 l0 a1).f3) a2_0 a2_1 a2_2).bind fun t732 => ((tailwaterref07_Value.f k l0 ((rd_T61 l0 a1).f2) a2_0 a2_1 a2_2).bind fun t733 => ((tailwaterref01_Given.f k ((rd_T61 l0 a1).f0) t733 t732).bind fun t734 => (some t734)))) else ((tailwaterref07_Value.f k l0 ((rd_T61 l0 a1).f2) a2_0 a2_1 a2_2).bind fun t735 => ((tailwaterref01_Given.f k ((rd_T61 l0 a1).f0) t735 0).bind fun t736 => (some t736))))))))) else (none)) else (none)) = some r := h
 clear h
 by_cases c4 : 0 ≤ a1
 ·rw [if_pos c4] at H
  have c4b0 : decide (0 ≤ a1) = true := decide_eq_true c4
  clear c4
  by_cases c5 : a1 < (l0.length : Int)
  ·rw [if_pos c5] at H
   have c5b0 : decide (a1 < (l0.length : Int)) = true := decide_eq_true c5
   clear c5
   by_cases c6 : ((rd_T61 l0 a1).f0) = 1
   ·rw [if_pos c6] at H
    have c6b0 : (((rd_T61 l0 a1).f0) == 1) = true := beq_iff_eq.mpr c6
    have c6b1 : (((rd_T61 l0 a1).f0) != 1) = false := bne_eq_false_iff_eq.mpr c6
    clear c6
    obtain rfl := Option.some.inj H
    go_enter Try.func37, Try.ntmps37
    go_wp2_with (first | ((with_reducible refine gate_dst (N := 5) rfl ?_); refine box_event ?hg (N := 5) ?hd (cs := #[.int .i64 a2_0, .int .i64 a2_1, .int .i64 a2_2]) (t := 43) ?hr ?_; (case hd => rfl); (case hg => rfl); (case hr => go_simp <;> rfl); intro gb728 hg w7 hbox hb; have BK728 := am (hbox); have GW728 := am ((by rw [hg]; exact (below_size (by exact belL HB.out)) : w.heap.size ≤ gb728)); have GE728 := am ((by rw [hg]; exact (below_size (by exact belL HB.out)) : w.heap.size ≤ gb728)); replace HB := am (below_step (by exact belL HB.out) hb); clear hb hbox hg; have p729 : 0 ≤ (a1 : Int) := of_decide_eq_true (by first | (with_reducible assumption) | assumption); have q729 : a1 < (l0.length : Int) := of_decide_eq_true (by first | (with_reducible assumption) | assumption); obtain ⟨ad729, e729, hx729_0, hx729_1, hx729_2, hx729_3, hx729_4⟩ := at_T61 HR0.out a1 p729 q729; cases e729; replace hx729_0 := (HB.out.cell (World.block_lt_of_cell? w _ hx729_0)).trans hx729_0; replace hx729_1 := (HB.out.cell (World.block_lt_of_cell? w _ hx729_1)).trans hx729_1; replace hx729_2 := (HB.out.cell (World.block_lt_of_cell? w _ hx729_2)).trans hx729_2; replace hx729_3 := (HB.out.cell (World.block_lt_of_cell? w _ hx729_3)).trans hx729_3; replace hx729_4 := (HB.out.cell (World.block_lt_of_cell? w _ hx729_4)).trans hx729_4; replace p729 := eq_true p729; replace q729 := eq_true q729) | ((with_reducible refine gate_dst (N := 7) rfl ?_); refine box_event ?hg (N := 7) ?hd (cs := #[.int .u8 0, .int .i64 0, .int .i64 0, .int .i64 0, .int .i64 0]) (t := 61) ?hr ?_; (case hd => rfl); (case hg => rfl); (case hr => go_simp <;> rfl); intro gb730 hg w8 hbox hb; have BK730 := am (hbox); have GW730 := am ((by rw [hg]; exact (below_size (by exact belL HB.out)) : w.heap.size ≤ gb730)); have GE730 := am ((by rw [hg]; exact (below_size (by exact belL HB.out)) : w.heap.size ≤ gb730)); replace HB := am (below_step (by exact belL HB.out) hb); clear hb hbox hg; obtain ⟨z9_0, z9_1, z9_2, z9_3, z9_4, y9_0, y9_1, y9_2, y9_3, y9_4⟩ := box5 BK730.out))
    go_ret
    exact ⟨by first | rfl | (simp [errW_none, errW_some] <;> rfl) | (simp [*, errW_none, errW_some] <;> rfl), by repeat (first | (with_reducible first | exact HB.out | apply below_alloc | apply pw_below_drewN | apply below_drew1 | refine below_set ?_ GE730.out) | exact HB.out)⟩
   ·rw [if_neg c6] at H
    have c6b0 : (((rd_T61 l0 a1).f0) == 1) = false := beq_eq_false_iff_ne.mpr c6
    have c6b1 : (((rd_T61 l0 a1).f0) != 1) = true := bne_iff_ne.mpr c6
    by_cases c10 : ((rd_T61 l0 a1).f0) = 2
    ·rw [if_pos c10] at H
     have c10b0 : (((rd_T61 l0 a1).f0) == 2) = true := beq_iff_eq.mpr c10
     have c10b1 : (((rd_T61 l0 a1).f0) != 2) = false := bne_eq_false_iff_eq.mpr c10
     clear c10
     obtain rfl := Option.some.inj H
     go_enter Try.func37, Try.ntmps37
     go_wp2_with (first | ((with_reducible refine gate_dst (N := 5) rfl ?_); refine box_event ?hg (N := 5) ?hd (cs := #[.int .i64 a2_0, .int .i64 a2_1, .int .i64 a2_2]) (t := 43) ?hr ?_; (case hd => rfl); (case hg => rfl); (case hr => go_simp <;> rfl); intro gb728 hg w11 hbox hb; have BK728 := am (hbox); have GW728 := am ((by rw [hg]; exact (below_size (by exact belL HB.out)) : w.heap.size ≤ gb728)); have GE728 := am ((by rw [hg]; exact (below_size (by exact belL HB.out)) : w.heap.size ≤ gb728)); replace HB := am (below_step (by exact belL HB.out) hb); clear hb hbox hg; have p729 : 0 ≤ (a1 : Int) := of_decide_eq_true (by first | (with_reducible assumption) | assumption); have q729 : a1 < (l0.length : Int) := of_decide_eq_true (by first | (with_reducible assumption) | assumption); obtain ⟨ad729, e729, hx729_0, hx729_1, hx729_2, hx729_3, hx729_4⟩ := at_T61 HR0.out a1 p729 q729; cases e729; replace hx729_0 := (HB.out.cell (World.block_lt_of_cell? w _ hx729_0)).trans hx729_0; replace hx729_1 := (HB.out.cell (World.block_lt_of_cell? w _ hx729_1)).trans hx729_1; replace hx729_2 := (HB.out.cell (World.block_lt_of_cell? w _ hx729_2)).trans hx729_2; replace hx729_3 := (HB.out.cell (World.block_lt_of_cell? w _ hx729_3)).trans hx729_3; replace hx729_4 := (HB.out.cell (World.block_lt_of_cell? w _ hx729_4)).trans hx729_4; replace p729 := eq_true p729; replace q729 := eq_true q729) | ((with_reducible refine gate_dst (N := 7) rfl ?_); refine box_event ?hg (N := 7) ?hd (cs := #[.int .u8 0, .int .i64 0, .int .i64 0, .int .i64 0, .int .i64 0]) (t := 61) ?hr ?_; (case hd => rfl); (case hg => rfl); (case hr => go_simp <;> rfl); intro gb730 hg w12 hbox hb; have BK730 := am (hbox); have GW730 := am ((by rw [hg]; exact (below_size (by repeat (first | (with_reducible first | exact HB.out | apply below_alloc | apply pw_below_drewN | apply below_drew1 | refine below_set ?_ GE728.out) | exact HB.out))) : w.heap.size ≤ gb730)); have GE730 := am ((by rw [hg]; exact (below_size (by repeat (first | (with_reducible first | exact HB.out | apply below_alloc | apply pw_below_drewN | apply below_drew1 | refine below_set ?_ GE728.out) | exact HB.out))) : w.heap.size ≤ gb730)); have NB728_730 := am ((by rw [hg]; exact Nat.ne_of_lt (blk_lt (g := gb728) (o := .cells #[.int .i64 a2_0, .int .i64 a2_1, .int .i64 a2_2] 43 (0, 0)) (by exact blkL BK728.out)) : gb728 ≠ gb730)); have NB730_728 := am ((by rw [hg]; exact Nat.ne_of_gt (blk_lt (g := gb728) (o := .cells #[.int .i64 a2_0, .int .i64 a2_1, .int .i64 a2_2] 43 (0, 0)) (by exact blkL BK728.out)) : gb730 ≠ gb728)); replace BK728 := am (blk_below (g := gb728) (o := .cells #[.int .i64 a2_0, .int .i64 a2_1, .int .i64 a2_2] 43 (0, 0)) (by exact blkL BK728.out) hb); replace HB := am (below_step (by repeat (first | (with_reducible first | exact HB.out | apply below_alloc | apply pw_below_drewN | apply below_drew1 | refine below_set ?_ GE728.out) | exact HB.out)) hb); clear hb hbox hg; have hnb13 := NB730_728.out; have hnc13 := NB728_730.out; obtain ⟨z14_0, z14_1, z14_2, z14_3, z14_4, y14_0, y14_1, y14_2, y14_3, y14_4⟩ := box5 BK730.out; obtain ⟨z15_0, z15_1, z15_2, y15_0, y15_1, y15_2⟩ := box3 BK728.out))
     go_ret
     exact ⟨by first | rfl | (simp [errW_none, errW_some] <;> rfl) | (simp [*, errW_none, errW_some] <;> rfl), by repeat (first | (with_reducible first | exact HB.out | apply below_alloc | apply pw_below_drewN | apply below_drew1 | refine below_set ?_ GE728.out | refine below_set ?_ GE730.out) | exact HB.out)⟩
    ·rw [if_neg c10] at H
     have c10b0 : (((rd_T61 l0 a1).f0) == 2) = false := beq_eq_false_iff_ne.mpr c10
     have c10b1 : (((rd_T61 l0 a1).f0) != 2) = true := bne_iff_ne.mpr c10
     by_cases c16 : ((rd_T61 l0 a1).f0) = 3
     ·rw [if_pos c16] at H
      have c16b0 : (((rd_T61 l0 a1).f0) == 3) = true := beq_iff_eq.mpr c16
      have c16b1 : (((rd_T61 l0 a1).f0) != 3) = false := bne_eq_false_iff_eq.mpr c16
      clear c16
      obtain rfl := Option.some.inj H
      go_enter Try.func37, Try.ntmps37
      go_wp2_with (first | ((with_reducible refine gate_dst (N := 5) rfl ?_); refine box_event ?hg (N := 5) ?hd (cs := #[.int .i64 a2_0, .int .i64 a2_1, .int .i64 a2_2]) (t := 43) ?hr ?_; (case hd => rfl); (case hg => rfl); (case hr => go_simp <;> rfl); intro gb728 hg w17 hbox hb; have BK728 := am (hbox); have GW728 := am ((by rw [hg]; exact (below_size (by exact belL HB.out)) : w.heap.size ≤ gb728)); have GE728 := am ((by rw [hg]; exact (below_size (by exact belL HB.out)) : w.heap.size ≤ gb728)); replace HB := am (below_step (by exact belL HB.out) hb); clear hb hbox hg; have p729 : 0 ≤ (a1 : Int) := of_decide_eq_true (by first | (with_reducible assumption) | assumption); have q729 : a1 < (l0.length : Int) := of_decide_eq_true (by first | (with_reducible assumption) | assumption); obtain ⟨ad729, e729, hx729_0, hx729_1, hx729_2, hx729_3, hx729_4⟩ := at_T61 HR0.out a1 p729 q729; cases e729; replace hx729_0 := (HB.out.cell (World.block_lt_of_cell? w _ hx729_0)).trans hx729_0; replace hx729_1 := (HB.out.cell (World.block_lt_of_cell? w _ hx729_1)).trans hx729_1; replace hx729_2 := (HB.out.cell (World.block_lt_of_cell? w _ hx729_2)).trans hx729_2; replace hx729_3 := (HB.out.cell (World.block_lt_of_cell? w _ hx729_3)).trans hx729_3; replace hx729_4 := (HB.out.cell (World.block_lt_of_cell? w _ hx729_4)).trans hx729_4; replace p729 := eq_true p729; replace q729 := eq_true q729) | ((with_reducible refine gate_dst (N := 7) rfl ?_); refine box_event ?hg (N := 7) ?hd (cs := #[.int .u8 0, .int .i64 0, .int .i64 0, .int .i64 0, .int .i64 0]) (t := 61) ?hr ?_; (case hd => rfl); (case hg => rfl); (case hr => go_simp <;> rfl); intro gb730 hg w18 hbox hb; have BK730 := am (hbox); have GW730 := am ((by rw [hg]; exact (below_size (by repeat (first | (with_reducible first | exact HB.out | apply below_alloc | apply pw_below_drewN | apply below_drew1 | refine below_set ?_ GE728.out) | exact HB.out))) : w.heap.size ≤ gb730)); have GE730 := am ((by rw [hg]; exact (below_size (by repeat (first | (with_reducible first | exact HB.out | apply below_alloc | apply pw_below_drewN | apply below_drew1 | refine below_set ?_ GE728.out) | exact HB.out))) : w.heap.size ≤ gb730)); have NB728_730 := am ((by rw [hg]; exact Nat.ne_of_lt (blk_lt (g := gb728) (o := .cells #[.int .i64 a2_0, .int .i64 a2_1, .int .i64 a2_2] 43 (0, 0)) (by exact blkL BK728.out)) : gb728 ≠ gb730)); have NB730_728 := am ((by rw [hg]; exact Nat.ne_of_gt (blk_lt (g := gb728) (o := .cells #[.int .i64 a2_0, .int .i64 a2_1, .int .i64 a2_2] 43 (0, 0)) (by exact blkL BK728.out)) : gb730 ≠ gb728)); replace BK728 := am (blk_below (g := gb728) (o := .cells #[.int .i64 a2_0, .int .i64 a2_1, .int .i64 a2_2] 43 (0, 0)) (by exact blkL BK728.out) hb); replace HB := am (below_step (by repeat (first | (with_reducible first | exact HB.out | apply below_alloc | apply pw_below_drewN | apply below_drew1 | refine below_set ?_ GE728.out) | exact HB.out)) hb); clear hb hbox hg; have hnb19 := NB730_728.out; have hnc19 := NB728_730.out; obtain ⟨z20_0, z20_1, z20_2, z20_3, z20_4, y20_0, y20_1, y20_2, y20_3, y20_4⟩ := box5 BK730.out; obtain ⟨z21_0, z21_1, z21_2, y21_0, y21_1, y21_2⟩ := box3 BK728.out))
      go_ret
      exact ⟨by first | rfl | (simp [errW_none, errW_some] <;> rfl) | (simp [*, errW_none, errW_some] <;> rfl), by repeat (first | (with_reducible first | exact HB.out | apply below_alloc | apply pw_below_drewN | apply below_drew1 | refine below_set ?_ GE728.out | refine below_set ?_ GE730.out) | exact HB.out)⟩
     ·rw [if_neg c16] at H
      have c16b0 : (((rd_T61 l0 a1).f0) == 3) = false := beq_eq_false_iff_ne.mpr c16
      have c16b1 : (((rd_T61 l0 a1).f0) != 3) = true := bne_iff_ne.mpr c16
      by_cases c22 : ((rd_T61 l0 a1).f0) = 4
      ·rw [if_pos c22] at H
       have c22b0 : (((rd_T61 l0 a1).f0) == 4) = true := beq_iff_eq.mpr c22
       have c22b1 : (((rd_T61 l0 a1).f0) != 4) = false := bne_eq_false_iff_eq.mpr c22
       clear c22
       obtain rfl := Option.some.inj H
       go_enter Try.func37, Try.ntmps37
       go_wp2_with (first | ((with_reducible refine gate_dst (N := 5) rfl ?_); refine box_event ?hg (N := 5) ?hd (cs := #[.int .i64 a2_0, .int .i64 a2_1, .int .i64 a2_2]) (t := 43) ?hr ?_; (case hd => rfl); (case hg => rfl); (case hr => go_simp <;> rfl); intro gb728 hg w23 hbox hb; have BK728 := am (hbox); have GW728 := am ((by rw [hg]; exact (below_size (by exact belL HB.out)) : w.heap.size ≤ gb728)); have GE728 := am ((by rw [hg]; exact (below_size (by exact belL HB.out)) : w.heap.size ≤ gb728)); replace HB := am (below_step (by exact belL HB.out) hb); clear hb hbox hg; have p729 : 0 ≤ (a1 : Int) := of_decide_eq_true (by first | (with_reducible assumption) | assumption); have q729 : a1 < (l0.length : Int) := of_decide_eq_true (by first | (with_reducible assumption) | assumption); obtain ⟨ad729, e729, hx729_0, hx729_1, hx729_2, hx729_3, hx729_4⟩ := at_T61 HR0.out a1 p729 q729; cases e729; replace hx729_0 := (HB.out.cell (World.block_lt_of_cell? w _ hx729_0)).trans hx729_0; replace hx729_1 := (HB.out.cell (World.block_lt_of_cell? w _ hx729_1)).trans hx729_1; replace hx729_2 := (HB.out.cell (World.block_lt_of_cell? w _ hx729_2)).trans hx729_2; replace hx729_3 := (HB.out.cell (World.block_lt_of_cell? w _ hx729_3)).trans hx729_3; replace hx729_4 := (HB.out.cell (World.block_lt_of_cell? w _ hx729_4)).trans hx729_4; replace p729 := eq_true p729; replace q729 := eq_true q729) | ((with_reducible refine gate_dst (N := 7) rfl ?_); refine box_event ?hg (N := 7) ?hd (cs := #[.int .u8 0, .int .i64 0, .int .i64 0, .int .i64 0, .int .i64 0]) (t := 61) ?hr ?_; (case hd => rfl); (case hg => rfl); (case hr => go_simp <;> rfl); intro gb730 hg w24 hbox hb; have BK730 := am (hbox); have GW730 := am ((by rw [hg]; exact (below_size (by repeat (first | (with_reducible first | exact HB.out | apply below_alloc | apply pw_below_drewN | apply below_drew1 | refine below_set ?_ GE728.out) | exact HB.out))) : w.heap.size ≤ gb730)); have GE730 := am ((by rw [hg]; exact (below_size (by repeat (first | (with_reducible first | exact HB.out | apply below_alloc | apply pw_below_drewN | apply below_drew1 | refine below_set ?_ GE728.out) | exact HB.out))) : w.heap.size ≤ gb730)); have NB728_730 := am ((by rw [hg]; exact Nat.ne_of_lt (blk_lt (g := gb728) (o := .cells #[.int .i64 a2_0, .int .i64 a2_1, .int .i64 a2_2] 43 (0, 0)) (by exact blkL BK728.out)) : gb728 ≠ gb730)); have NB730_728 := am ((by rw [hg]; exact Nat.ne_of_gt (blk_lt (g := gb728) (o := .cells #[.int .i64 a2_0, .int .i64 a2_1, .int .i64 a2_2] 43 (0, 0)) (by exact blkL BK728.out)) : gb730 ≠ gb728)); replace BK728 := am (blk_below (g := gb728) (o := .cells #[.int .i64 a2_0, .int .i64 a2_1, .int .i64 a2_2] 43 (0, 0)) (by exact blkL BK728.out) hb); replace HB := am (below_step (by repeat (first | (with_reducible first | exact HB.out | apply below_alloc | apply pw_below_drewN | apply below_drew1 | refine below_set ?_ GE728.out) | exact HB.out)) hb); clear hb hbox hg; have hnb25 := NB730_728.out; have hnc25 := NB728_730.out; obtain ⟨z26_0, z26_1, z26_2, z26_3, z26_4, y26_0, y26_1, y26_2, y26_3, y26_4⟩ := box5 BK730.out; obtain ⟨z27_0, z27_1, z27_2, y27_0, y27_1, y27_2⟩ := box3 BK728.out))
       go_ret
       exact ⟨by first | rfl | (simp [errW_none, errW_some] <;> rfl) | (simp [*, errW_none, errW_some] <;> rfl), by repeat (first | (with_reducible first | exact HB.out | apply below_alloc | apply pw_below_drewN | apply below_drew1 | refine below_set ?_ GE728.out | refine below_set ?_ GE730.out) | exact HB.out)⟩
      ·rw [if_neg c22] at H
       have c22b0 : (((rd_T61 l0 a1).f0) == 4) = false := beq_eq_false_iff_ne.mpr c22
       have c22b1 : (((rd_T61 l0 a1).f0) != 4) = true := bne_iff_ne.mpr c22
       replace H := Option.bind_eq_some_iff.mp H
       obtain ⟨t731, A280, H⟩ := H
       try dsimp only at H
       have A28 := am A280
       clear A280
       by_cases c29 : t731 = 2
       ·rw [if_pos c29] at H
        have c29b0 : (t731 == 2) = true := beq_iff_eq.mpr c29
        have c29b1 : (t731 != 2) = false := bne_eq_false_iff_eq.mpr c29
        clear c29
        replace H := Option.bind_eq_some_iff.mp H
        obtain ⟨t732, A300, H⟩ := H
        try dsimp only at H
        have A30 := am A300
        clear A300
        replace H := Option.bind_eq_some_iff.mp H
        obtain ⟨t733, A310, H⟩ := H
        try dsimp only at H
        have A31 := am A310
        clear A310
        replace H := Option.bind_eq_some_iff.mp H
        obtain ⟨t734, A320, H⟩ := H
        try dsimp only at H
        have A32 := am A320
        clear A320
        obtain rfl := Option.some.inj H
        go_enter Try.func37, Try.ntmps37
        try go_wp2_with (first | ((with_reducible refine gate_dst (N := 5) rfl ?_); refine box_event ?hg (N := 5) ?hd (cs := #[.int .i64 a2_0, .int .i64 a2_1, .int .i64 a2_2]) (t := 43) ?hr ?_; (case hd => rfl); (case hg => rfl); (case hr => go_simp <;> rfl); intro gb728 hg w33 hbox hb; have BK728 := am (hbox); have GW728 := am ((by rw [hg]; exact (below_size (by exact belL HB.out)) : w.heap.size ≤ gb728)); have GE728 := am ((by rw [hg]; exact (below_size (by exact belL HB.out)) : w.heap.size ≤ gb728)); replace HB := am (below_step (by exact belL HB.out) hb); clear hb hbox hg; have p729 : 0 ≤ (a1 : Int) := of_decide_eq_true (by first | (with_reducible assumption) | assumption); have q729 : a1 < (l0.length : Int) := of_decide_eq_true (by first | (with_reducible assumption) | assumption); obtain ⟨ad729, e729, hx729_0, hx729_1, hx729_2, hx729_3, hx729_4⟩ := at_T61 HR0.out a1 p729 q729; cases e729; replace hx729_0 := (HB.out.cell (World.block_lt_of_cell? w _ hx729_0)).trans hx729_0; replace hx729_1 := (HB.out.cell (World.block_lt_of_cell? w _ hx729_1)).trans hx729_1; replace hx729_2 := (HB.out.cell (World.block_lt_of_cell? w _ hx729_2)).trans hx729_2; replace hx729_3 := (HB.out.cell (World.block_lt_of_cell? w _ hx729_3)).trans hx729_3; replace hx729_4 := (HB.out.cell (World.block_lt_of_cell? w _ hx729_4)).trans hx729_4; replace p729 := eq_true p729; replace q729 := eq_true q729) | ((with_reducible refine gate_dst (N := 7) rfl ?_); refine box_event ?hg (N := 7) ?hd (cs := #[.int .u8 0, .int .i64 0, .int .i64 0, .int .i64 0, .int .i64 0]) (t := 61) ?hr ?_; (case hd => rfl); (case hg => rfl); (case hr => go_simp <;> rfl); intro gb730 hg w34 hbox hb; have BK730 := am (hbox); have GW730 := am ((by rw [hg]; exact (below_size (by repeat (first | (with_reducible first | exact HB.out | apply below_alloc | apply pw_below_drewN | apply below_drew1 | refine below_set ?_ GE728.out) | exact HB.out))) : w.heap.size ≤ gb730)); have GE730 := am ((by rw [hg]; exact (below_size (by repeat (first | (with_reducible first | exact HB.out | apply below_alloc | apply pw_below_drewN | apply below_drew1 | refine below_set ?_ GE728.out) | exact HB.out))) : w.heap.size ≤ gb730)); have NB728_730 := am ((by rw [hg]; exact Nat.ne_of_lt (blk_lt (g := gb728) (o := .cells #[.int .i64 a2_0, .int .i64 a2_1, .int .i64 a2_2] 43 (0, 0)) (by exact blkL BK728.out)) : gb728 ≠ gb730)); have NB730_728 := am ((by rw [hg]; exact Nat.ne_of_gt (blk_lt (g := gb728) (o := .cells #[.int .i64 a2_0, .int .i64 a2_1, .int .i64 a2_2] 43 (0, 0)) (by exact blkL BK728.out)) : gb730 ≠ gb728)); replace BK728 := am (blk_below (g := gb728) (o := .cells #[.int .i64 a2_0, .int .i64 a2_1, .int .i64 a2_2] 43 (0, 0)) (by exact blkL BK728.out) hb); replace HB := am (below_step (by repeat (first | (with_reducible first | exact HB.out | apply below_alloc | apply pw_below_drewN | apply below_drew1 | refine below_set ?_ GE728.out) | exact HB.out)) hb); clear hb hbox hg; have hnb35 := NB730_728.out; have hnc35 := NB728_730.out; obtain ⟨z36_0, z36_1, z36_2, z36_3, z36_4, y36_0, y36_1, y36_2, y36_3, y36_4⟩ := box5 BK730.out) | ((with_reducible refine gate_callee (f := 57) rfl ?_); refine goesL_ (some 33) rfl rfl Try.func57 (by kernel_rfl) rfl #[.int .u8 ((rd_T61 l0 a1).f0)] rfl (by (try simp only [List.map_toArray, List.map_cons, List.map_nil]) <;> rfl) ?_; (with_reducible refine (tailwaterref04_Count.calls ((rd_T61 l0 a1).f0) t731 _ A28.out).mono ?_); rintro e w' ⟨rfl, ⟨nd, rfl⟩⟩; refine ⟨_, rfl, ?_⟩; obtain ⟨z37_0, z37_1, z37_2, y37_0, y37_1, y37_2⟩ := box3 BK728.out) | ((with_reducible refine gate_callee (f := 37) rfl ?_); refine goesL_ (some 39) rfl rfl Try.func37 (by kernel_rfl) rfl #[.slice (some ad729) l0.length c0, .int .i64 ((rd_T61 l0 a1).f3), .agg #[.int .i64 a2_0, .int .i64 a2_1, .int .i64 a2_2]] rfl (by (try simp only [List.map_toArray, List.map_cons, List.map_nil]) <;> rfl) ?_; (with_reducible refine (ih k (by omega) _ _ l0 ((rd_T61 l0 a1).f3) a2_0 a2_1 a2_2 t732 _ ?side1 ?side2 A30.out).mono ?_); (case side1 => exact Kd.C_below HR0.out (by repeat (first | (with_reducible first | exact HB.out | apply below_alloc | apply pw_below_drewN | apply below_drew1 | refine below_set ?_ GE728.out | refine below_set ?_ GE730.out) | exact HB.out))); (case side2 => exact HC0.out); rintro e w38 ⟨rfl, hb⟩; refine ⟨_, rfl, ?_⟩; replace BK728 := am (blk_below (g := gb728) (o := .cells #[.int .i64 a2_0, .int .i64 a2_1, .int .i64 a2_2] 43 (0, 0)) (by (repeat refine blkS ?_); refine blk_far ?_ NB728_730.out _; (repeat refine blkS ?_); refine blk_far ?_ NB728_730.out _; (repeat refine blkS ?_); refine blk_far ?_ NB728_730.out _; (repeat refine blkS ?_); refine blk_far ?_ NB728_730.out _; (repeat refine blkS ?_); refine blk_far ?_ NB728_730.out _; (repeat refine blkS ?_); exact BK728.out) hb); replace BK730 := am (blk_below (g := gb730) (o := .cells #[.int .u8 ((rd_T61 l0 a1).f0), .int .i64 ((rd_T61 l0 a1).f1), .int .i64 ((rd_T61 l0 a1).f2), .int .i64 ((rd_T61 l0 a1).f3), .int .i64 ((rd_T61 l0 a1).f4)] 61 (0, 0)) (by (repeat refine blkS ?_); refine blk_put (cs := #[.int .u8 ((rd_T61 l0 a1).f0), .int .i64 ((rd_T61 l0 a1).f1), .int .i64 ((rd_T61 l0 a1).f2), .int .i64 ((rd_T61 l0 a1).f3), .int .i64 0]) ?_ 4 _ rfl; (repeat refine blkS ?_); refine blk_put (cs := #[.int .u8 ((rd_T61 l0 a1).f0), .int .i64 ((rd_T61 l0 a1).f1), .int .i64 ((rd_T61 l0 a1).f2), .int .i64 0, .int .i64 0]) ?_ 3 _ rfl; (repeat refine blkS ?_); refine blk_put (cs := #[.int .u8 ((rd_T61 l0 a1).f0), .int .i64 ((rd_T61 l0 a1).f1), .int .i64 0, .int .i64 0, .int .i64 0]) ?_ 2 _ rfl; (repeat refine blkS ?_); refine blk_put (cs := #[.int .u8 ((rd_T61 l0 a1).f0), .int .i64 0, .int .i64 0, .int .i64 0, .int .i64 0]) ?_ 1 _ rfl; (repeat refine blkS ?_); refine blk_put (cs := #[.int .u8 0, .int .i64 0, .int .i64 0, .int .i64 0, .int .i64 0]) ?_ 0 _ rfl; (repeat refine blkS ?_); exact BK730.out) hb); replace HB := am (below_step (by repeat (first | (with_reducible first | exact HB.out | apply below_alloc | apply pw_below_drewN | apply below_drew1 | refine below_set ?_ GE728.out | refine below_set ?_ GE730.out) | exact HB.out)) hb); (try clear hb)))
        replace BK728 := am (blk_drew BK728.out)
        replace BK730 := am (blk_drew BK730.out)
        replace HB := am (below_drew1 HB.out)
        refine start_ (n := 10) (S := fun w' => w'.cell? ⟨gb730, 0, none⟩ = some (.int .u8 ((rd_T61 l0 a1).f0)) ∧ w'.cell? ⟨gb730, 1, none⟩ = some (.int .i64 ((rd_T61 l0 a1).f1)) ∧ w'.cell? ⟨gb730, 2, none⟩ = some (.int .i64 ((rd_T61 l0 a1).f2)) ∧ w'.cell? ⟨gb730, 3, none⟩ = some (.int .i64 ((rd_T61 l0 a1).f3)) ∧ w'.cell? ⟨gb730, 4, none⟩ = some (.int .i64 ((rd_T61 l0 a1).f4)) ∧ w'.cell? ⟨gb728, 0, none⟩ = some (.int .i64 a2_0) ∧ w'.cell? ⟨gb728, 1, none⟩ = some (.int .i64 a2_1) ∧ w'.cell? ⟨gb728, 2, none⟩ = some (.int .i64 a2_2)) (ds := []) #[false, false, false, false, false, false, false, false, false, false] (by kernel_rfl) rfl rfl ⟨(blk_cell BK730.out 0).trans rfl, (blk_cell BK730.out 1).trans rfl, (blk_cell BK730.out 2).trans rfl, (blk_cell BK730.out 3).trans rfl, (blk_cell BK730.out 4).trans rfl, (blk_cell BK728.out 0).trans rfl, (blk_cell BK728.out 1).trans rfl, (blk_cell BK728.out 2).trans rfl⟩ (fun hHeld => ?_); refine with_tabW tailwaterref07_Value.tab14 tailwaterref07_Value.bits14 (fun HT_ HW_ => ?_)
        generalize w38.drew = w39 at BK728 BK730 HB hHeld ⊢
        refine pure_ (i := 0) (N := some 40) (v := ?_) (a' := ?_) #[true, false, false, false, false, false, false, false, false, false] rfl rfl (any_of HT_.out (by kernel_rfl)) (fun _ _ _ h => h) (Or.inl ⟨by rfl, ?_⟩) ?_ ?_
        rotate_left
        ·intro w'
         go_simp
         with_reducible rfl
        rotate_left
        ·simp only [Act.put, List.setIfInBounds_toArray, List.set_cons_zero, List.set_cons_succ, i64_w, i32_w]
         rfl
        refine pure_ (i := 2) (N := some 42) (v := ?_) (a' := ?_) #[true, false, true, false, false, false, false, false, false, false] rfl rfl (any_of HT_.out (by kernel_rfl)) (fun _ _ _ h => h) (Or.inl ⟨by rfl, ?_⟩) ?_ ?_
        rotate_left
        ·intro w'
         go_simp
         with_reducible rfl
        rotate_left
        ·simp only [Act.put, List.setIfInBounds_toArray, List.set_cons_zero, List.set_cons_succ, i64_w, i32_w]
         rfl
        refine pure_ (i := 3) (N := some 43) (v := ?_) (a' := ?_) #[true, false, true, true, false, false, false, false, false, false] rfl rfl (any_of HT_.out (by kernel_rfl)) (fun _ _ _ h => h) (Or.inl ⟨by rfl, ?_⟩) ?_ ?_
        rotate_left
        ·intro w'
         go_simp
         with_reducible rfl
        rotate_left
        ·simp only [Act.put, List.setIfInBounds_toArray, List.set_cons_zero, List.set_cons_succ, i64_w, i32_w]
         rfl
        refine pure_ (i := 7) (N := some 47) (v := ?_) (a' := ?_) #[true, false, true, true, false, false, false, true, false, false] rfl rfl (any_of HT_.out (by kernel_rfl)) (fun _ _ _ h => h) (Or.inl ⟨by rfl, ?_⟩) ?_ ?_
        rotate_left
        ·intro w'
         go_simp
         with_reducible rfl
        rotate_left
        ·simp only [Act.put, List.setIfInBounds_toArray, List.set_cons_zero, List.set_cons_succ, i64_w, i32_w]
         rfl
        refine take_ (i := 1) (N := some 41) (v := ?_) (a' := ?_) #[true, true, true, true, false, false, false, true, false, false] rfl rfl (take_ofW HT_.out HW_.out (by kernel_rfl)) (fun _ _ _ h => h) (Or.inl ⟨by rfl, ?_⟩) hHeld ?_ ?_
        rotate_left
        ·rintro w' ⟨s0, s1, s2, s3, s4, s5, s6, s7⟩
         go_simp
         with_reducible rfl
        rotate_left
        ·simp only [Act.put, List.setIfInBounds_toArray, List.set_cons_zero, List.set_cons_succ, i64_w, i32_w]
         rfl
        refine take_ (i := 4) (N := some 44) (v := ?_) (a' := ?_) #[true, true, true, true, true, false, false, true, false, false] rfl rfl (take_ofW HT_.out HW_.out (by kernel_rfl)) (fun _ _ _ h => h) (Or.inl ⟨by rfl, ?_⟩) hHeld ?_ ?_
        rotate_left
        ·rintro w' ⟨s0, s1, s2, s3, s4, s5, s6, s7⟩
         go_simp
         with_reducible rfl
        rotate_left
        ·simp only [Act.put, List.setIfInBounds_toArray, List.set_cons_zero, List.set_cons_succ, i64_w, i32_w]
         rfl
        refine take_ (i := 5) (N := some 45) (v := ?_) (a' := ?_) #[true, true, true, true, true, true, false, true, false, false] rfl rfl (take_ofW HT_.out HW_.out (by kernel_rfl)) (fun _ _ _ h => h) (Or.inl ⟨by rfl, ?_⟩) hHeld ?_ ?_
        rotate_left
        ·rintro w' ⟨s0, s1, s2, s3, s4, s5, s6, s7⟩
         go_simp
         with_reducible rfl
        rotate_left
        ·simp only [Act.put, List.setIfInBounds_toArray, List.set_cons_zero, List.set_cons_succ, i64_w, i32_w]
         rfl
        refine one_ (i := 6) (N := some 46) #[true, true, true, true, true, true, true, true, false, false] rfl rfl (one_of HT_.out (by kernel_rfl)) (by decide) (fun K hK => ?_)
        refine goes_ Try.func37 (by kernel_rfl) rfl #[.slice (some ad729) l0.length c0, .int .i64 ((rd_T61 l0 a1).f2), .agg #[.int .i64 a2_0, .int .i64 a2_1, .int .i64 a2_2]] (by rfl) rfl rfl (by (try simp only [List.map_toArray, List.map_cons, List.map_nil]) <;> rfl) ?_
        with_reducible refine (ih k (by omega) _ _ l0 ((rd_T61 l0 a1).f2) a2_0 a2_1 a2_2 t733 _ ?side1 ?side2 A31.out).mono ?_
        (case side1 => repeat (first | exact (Kd.C_below HR0.out HB.out) | (with_reducible refine Kd.C_alloc ?_ _) | (with_reducible refine Kd.C_drewN ?_ _) | (with_reducible refine Kd.C_drew ?_)))
        (case side2 => exact HC0.out)
        rintro e w40 ⟨rfl, hb⟩
        refine ⟨_, rfl, ?_⟩
        replace BK728 := am (blk_below (g := gb728) (o := .cells #[.int .i64 a2_0, .int .i64 a2_1, .int .i64 a2_2] 43 (0, 0)) (by exact blkL BK728.out) hb)
        replace BK730 := am (blk_below (g := gb730) (o := .cells #[.int .u8 ((rd_T61 l0 a1).f0), .int .i64 ((rd_T61 l0 a1).f1), .int .i64 ((rd_T61 l0 a1).f2), .int .i64 ((rd_T61 l0 a1).f3), .int .i64 ((rd_T61 l0 a1).f4)] 61 (0, 0)) (by exact blkL BK730.out) hb)
        replace HB := am (below_step (by repeat (first | (with_reducible first | exact HB.out | apply below_alloc | apply pw_below_drewN | apply below_drew1 | refine below_set ?_ GE728.out | refine below_set ?_ GE730.out) | exact HB.out)) hb)
        (try clear hb)
        (try clear hb2)
        (try clear hk)
        (try clear hi)
        refine hK.out _ _ ⟨(blk_cell BK730.out 0).trans rfl, (blk_cell BK730.out 1).trans rfl, (blk_cell BK730.out 2).trans rfl, (blk_cell BK730.out 3).trans rfl, (blk_cell BK730.out 4).trans rfl, (blk_cell BK728.out 0).trans rfl, (blk_cell BK728.out 1).trans rfl, (blk_cell BK728.out 2).trans rfl⟩ (fun hHeld => ?_)
        clear hK K
        refine norm_ (a' := ?_) ?_ ?_
        rotate_left
        ·show Act.put _ (some 46) _ = _
         simp only [Act.put, List.setIfInBounds_toArray, List.set_cons_zero, List.set_cons_succ, i64_w, i32_w]
         rfl
        refine one_ (i := 8) (N := some 48) #[true, true, true, true, true, true, true, true, true, false] rfl rfl (one_of HT_.out (by kernel_rfl)) (by decide) (fun K hK => ?_)
        refine goes_ Try.func58 (by kernel_rfl) rfl #[.int .u8 ((rd_T61 l0 a1).f0), .int .i64 t733, .int .i64 t732] (by rfl) rfl rfl (by (try simp only [List.map_toArray, List.map_cons, List.map_nil]) <;> rfl) ?_
        with_reducible refine (tailwaterref01_Given.calls k ((rd_T61 l0 a1).f0) t733 t732 t734 _ A32.out).mono ?_
        rintro e w' ⟨rfl, ⟨nd, rfl⟩⟩
        refine ⟨_, rfl, ?_⟩
        refine hK.out _ _ ⟨(blk_cell BK730.out 0).trans rfl, (blk_cell BK730.out 1).trans rfl, (blk_cell BK730.out 2).trans rfl, (blk_cell BK730.out 3).trans rfl, (blk_cell BK730.out 4).trans rfl, (blk_cell BK728.out 0).trans rfl, (blk_cell BK728.out 1).trans rfl, (blk_cell BK728.out 2).trans rfl⟩ (fun hHeld => ?_)
        clear hK K
        refine norm_ (a' := ?_) ?_ ?_
        rotate_left
        ·show Act.put _ (some 48) _ = _
         simp only [Act.put, List.setIfInBounds_toArray, List.set_cons_zero, List.set_cons_succ, i64_w, i32_w]
         rfl
        refine pure_ (i := 9) (N := some 6) (v := ?_) (a' := ?_) #[true, true, true, true, true, true, true, true, true, true] rfl rfl (any_of HT_.out (by kernel_rfl)) (fun _ _ _ h => h) (Or.inl ⟨by rfl, ?_⟩) ?_ ?_
        rotate_left
        ·intro w'
         go_simp
         with_reducible rfl
        rotate_left
        ·simp only [Act.put, List.setIfInBounds_toArray, List.set_cons_zero, List.set_cons_succ, i64_w, i32_w]
         rfl
        refine done_ (done_of HT_.out (by kernel_rfl)) ?_
        try go_wp2
        go_ret
        exact ⟨by first | rfl | (simp [errW_none, errW_some] <;> rfl) | (simp [*, errW_none, errW_some] <;> rfl), by repeat (first | (with_reducible first | exact HB.out | apply below_alloc | apply pw_below_drewN | apply below_drew1 | refine below_set ?_ GE728.out | refine below_set ?_ GE730.out) | exact HB.out)⟩
       ·rw [if_neg c29] at H
        have c29b0 : (t731 == 2) = false := beq_eq_false_iff_ne.mpr c29
        have c29b1 : (t731 != 2) = true := bne_iff_ne.mpr c29
        replace H := Option.bind_eq_some_iff.mp H
        obtain ⟨t735, A410, H⟩ := H
        try dsimp only at H
        have A41 := am A410
        clear A410
        replace H := Option.bind_eq_some_iff.mp H
        obtain ⟨t736, A420, H⟩ := H
        try dsimp only at H
        have A42 := am A420
        clear A420
        obtain rfl := Option.some.inj H
        go_enter Try.func37, Try.ntmps37
        try go_wp2_with (first | ((with_reducible refine gate_dst (N := 5) rfl ?_); refine box_event ?hg (N := 5) ?hd (cs := #[.int .i64 a2_0, .int .i64 a2_1, .int .i64 a2_2]) (t := 43) ?hr ?_; (case hd => rfl); (case hg => rfl); (case hr => go_simp <;> rfl); intro gb728 hg w43 hbox hb; have BK728 := am (hbox); have GW728 := am ((by rw [hg]; exact (below_size (by exact belL HB.out)) : w.heap.size ≤ gb728)); have GE728 := am ((by rw [hg]; exact (below_size (by exact belL HB.out)) : w.heap.size ≤ gb728)); replace HB := am (below_step (by exact belL HB.out) hb); clear hb hbox hg; have p729 : 0 ≤ (a1 : Int) := of_decide_eq_true (by first | (with_reducible assumption) | assumption); have q729 : a1 < (l0.length : Int) := of_decide_eq_true (by first | (with_reducible assumption) | assumption); obtain ⟨ad729, e729, hx729_0, hx729_1, hx729_2, hx729_3, hx729_4⟩ := at_T61 HR0.out a1 p729 q729; cases e729; replace hx729_0 := (HB.out.cell (World.block_lt_of_cell? w _ hx729_0)).trans hx729_0; replace hx729_1 := (HB.out.cell (World.block_lt_of_cell? w _ hx729_1)).trans hx729_1; replace hx729_2 := (HB.out.cell (World.block_lt_of_cell? w _ hx729_2)).trans hx729_2; replace hx729_3 := (HB.out.cell (World.block_lt_of_cell? w _ hx729_3)).trans hx729_3; replace hx729_4 := (HB.out.cell (World.block_lt_of_cell? w _ hx729_4)).trans hx729_4; replace p729 := eq_true p729; replace q729 := eq_true q729) | ((with_reducible refine gate_dst (N := 7) rfl ?_); refine box_event ?hg (N := 7) ?hd (cs := #[.int .u8 0, .int .i64 0, .int .i64 0, .int .i64 0, .int .i64 0]) (t := 61) ?hr ?_; (case hd => rfl); (case hg => rfl); (case hr => go_simp <;> rfl); intro gb730 hg w44 hbox hb; have BK730 := am (hbox); have GW730 := am ((by rw [hg]; exact (below_size (by repeat (first | (with_reducible first | exact HB.out | apply below_alloc | apply pw_below_drewN | apply below_drew1 | refine below_set ?_ GE728.out) | exact HB.out))) : w.heap.size ≤ gb730)); have GE730 := am ((by rw [hg]; exact (below_size (by repeat (first | (with_reducible first | exact HB.out | apply below_alloc | apply pw_below_drewN | apply below_drew1 | refine below_set ?_ GE728.out) | exact HB.out))) : w.heap.size ≤ gb730)); have NB728_730 := am ((by rw [hg]; exact Nat.ne_of_lt (blk_lt (g := gb728) (o := .cells #[.int .i64 a2_0, .int .i64 a2_1, .int .i64 a2_2] 43 (0, 0)) (by exact blkL BK728.out)) : gb728 ≠ gb730)); have NB730_728 := am ((by rw [hg]; exact Nat.ne_of_gt (blk_lt (g := gb728) (o := .cells #[.int .i64 a2_0, .int .i64 a2_1, .int .i64 a2_2] 43 (0, 0)) (by exact blkL BK728.out)) : gb730 ≠ gb728)); replace BK728 := am (blk_below (g := gb728) (o := .cells #[.int .i64 a2_0, .int .i64 a2_1, .int .i64 a2_2] 43 (0, 0)) (by exact blkL BK728.out) hb); replace HB := am (below_step (by repeat (first | (with_reducible first | exact HB.out | apply below_alloc | apply pw_below_drewN | apply below_drew1 | refine below_set ?_ GE728.out) | exact HB.out)) hb); clear hb hbox hg; have hnb45 := NB730_728.out; have hnc45 := NB728_730.out; obtain ⟨z46_0, z46_1, z46_2, z46_3, z46_4, y46_0, y46_1, y46_2, y46_3, y46_4⟩ := box5 BK730.out) | ((with_reducible refine gate_callee (f := 57) rfl ?_); refine goesL_ (some 33) rfl rfl Try.func57 (by kernel_rfl) rfl #[.int .u8 ((rd_T61 l0 a1).f0)] rfl (by (try simp only [List.map_toArray, List.map_cons, List.map_nil]) <;> rfl) ?_; (with_reducible refine (tailwaterref04_Count.calls ((rd_T61 l0 a1).f0) t731 _ A28.out).mono ?_); rintro e w' ⟨rfl, ⟨nd, rfl⟩⟩; refine ⟨_, rfl, ?_⟩))
        have n0_ : Aside0 ((((((w44.setCell ⟨gb730, 0, none⟩ (.int .u8 ((rd_T61 l0 a1).f0))).setCell ⟨gb730, 1, none⟩ (.int .i64 ((rd_T61 l0 a1).f1))).setCell ⟨gb730, 2, none⟩ (.int .i64 ((rd_T61 l0 a1).f2))).setCell ⟨gb730, 3, none⟩ (.int .i64 ((rd_T61 l0 a1).f3))).setCell ⟨gb730, 4, none⟩ (.int .i64 ((rd_T61 l0 a1).f4))).heap[gb728]? = some (.cells #[.int .i64 a2_0, .int .i64 a2_1, .int .i64 a2_2] 43 (0, 0))) := ⟨by (repeat refine blkS ?_); refine blk_far ?_ NB728_730.out _; (repeat refine blkS ?_); refine blk_far ?_ NB728_730.out _; (repeat refine blkS ?_); refine blk_far ?_ NB728_730.out _; (repeat refine blkS ?_); refine blk_far ?_ NB728_730.out _; (repeat refine blkS ?_); refine blk_far ?_ NB728_730.out _; (repeat refine blkS ?_); exact BK728.out⟩
        have n1_ : Aside0 ((((((w44.setCell ⟨gb730, 0, none⟩ (.int .u8 ((rd_T61 l0 a1).f0))).setCell ⟨gb730, 1, none⟩ (.int .i64 ((rd_T61 l0 a1).f1))).setCell ⟨gb730, 2, none⟩ (.int .i64 ((rd_T61 l0 a1).f2))).setCell ⟨gb730, 3, none⟩ (.int .i64 ((rd_T61 l0 a1).f3))).setCell ⟨gb730, 4, none⟩ (.int .i64 ((rd_T61 l0 a1).f4))).heap[gb730]? = some (.cells #[.int .u8 ((rd_T61 l0 a1).f0), .int .i64 ((rd_T61 l0 a1).f1), .int .i64 ((rd_T61 l0 a1).f2), .int .i64 ((rd_T61 l0 a1).f3), .int .i64 ((rd_T61 l0 a1).f4)] 61 (0, 0))) := ⟨by (repeat refine blkS ?_); refine blk_put (cs := #[.int .u8 ((rd_T61 l0 a1).f0), .int .i64 ((rd_T61 l0 a1).f1), .int .i64 ((rd_T61 l0 a1).f2), .int .i64 ((rd_T61 l0 a1).f3), .int .i64 0]) ?_ 4 _ rfl; (repeat refine blkS ?_); refine blk_put (cs := #[.int .u8 ((rd_T61 l0 a1).f0), .int .i64 ((rd_T61 l0 a1).f1), .int .i64 ((rd_T61 l0 a1).f2), .int .i64 0, .int .i64 0]) ?_ 3 _ rfl; (repeat refine blkS ?_); refine blk_put (cs := #[.int .u8 ((rd_T61 l0 a1).f0), .int .i64 ((rd_T61 l0 a1).f1), .int .i64 0, .int .i64 0, .int .i64 0]) ?_ 2 _ rfl; (repeat refine blkS ?_); refine blk_put (cs := #[.int .u8 ((rd_T61 l0 a1).f0), .int .i64 0, .int .i64 0, .int .i64 0, .int .i64 0]) ?_ 1 _ rfl; (repeat refine blkS ?_); refine blk_put (cs := #[.int .u8 0, .int .i64 0, .int .i64 0, .int .i64 0, .int .i64 0]) ?_ 0 _ rfl; (repeat refine blkS ?_); exact BK730.out⟩
        have n2_ : Aside0 (Below w.heap.size w (((((w44.setCell ⟨gb730, 0, none⟩ (.int .u8 ((rd_T61 l0 a1).f0))).setCell ⟨gb730, 1, none⟩ (.int .i64 ((rd_T61 l0 a1).f1))).setCell ⟨gb730, 2, none⟩ (.int .i64 ((rd_T61 l0 a1).f2))).setCell ⟨gb730, 3, none⟩ (.int .i64 ((rd_T61 l0 a1).f3))).setCell ⟨gb730, 4, none⟩ (.int .i64 ((rd_T61 l0 a1).f4)))) := ⟨by repeat (first | (with_reducible first | exact HB.out | apply below_alloc | apply pw_below_drewN | apply below_drew1 | refine below_set ?_ GE728.out | refine below_set ?_ GE730.out) | exact HB.out)⟩
        (try clear BK728)
        (try clear BK730)
        (try clear HB)
        generalize (((((w44.setCell ⟨gb730, 0, none⟩ (.int .u8 ((rd_T61 l0 a1).f0))).setCell ⟨gb730, 1, none⟩ (.int .i64 ((rd_T61 l0 a1).f1))).setCell ⟨gb730, 2, none⟩ (.int .i64 ((rd_T61 l0 a1).f2))).setCell ⟨gb730, 3, none⟩ (.int .i64 ((rd_T61 l0 a1).f3))).setCell ⟨gb730, 4, none⟩ (.int .i64 ((rd_T61 l0 a1).f4))) = w47 at n0_ n1_ n2_ ⊢
        have BK728 := n0_
        have BK730 := n1_
        have HB := n2_
        clear n0_ n1_ n2_
        (try (rw [drewN_self w47]; generalize hq_ : World.drewN w47 _ = w47; have n0_ : Aside0 (w47.heap[gb728]? = some (.cells #[.int .i64 a2_0, .int .i64 a2_1, .int .i64 a2_2] 43 (0, 0))) := ⟨by rw [← hq_]; exact (by exact blkL BK728.out)⟩; have n1_ : Aside0 (w47.heap[gb730]? = some (.cells #[.int .u8 ((rd_T61 l0 a1).f0), .int .i64 ((rd_T61 l0 a1).f1), .int .i64 ((rd_T61 l0 a1).f2), .int .i64 ((rd_T61 l0 a1).f3), .int .i64 ((rd_T61 l0 a1).f4)] 61 (0, 0))) := ⟨by rw [← hq_]; exact (by exact blkL BK730.out)⟩; have n2_ : Aside0 (Below w.heap.size w w47) := ⟨by rw [← hq_]; exact (by repeat (first | (with_reducible first | exact HB.out | apply below_alloc | apply pw_below_drewN | apply below_drew1 | refine below_set ?_ GE728.out | refine below_set ?_ GE730.out) | exact HB.out))⟩; clear BK728 BK730 HB hq_; have BK728 := n0_; have BK730 := n1_; have HB := n2_; clear n0_ n1_ n2_))
        replace BK728 := am (blk_drew BK728.out)
        replace BK730 := am (blk_drew BK730.out)
        replace HB := am (below_drew1 HB.out)
        refine start_ (n := 10) (S := fun w' => w'.cell? ⟨gb730, 0, none⟩ = some (.int .u8 ((rd_T61 l0 a1).f0)) ∧ w'.cell? ⟨gb730, 1, none⟩ = some (.int .i64 ((rd_T61 l0 a1).f1)) ∧ w'.cell? ⟨gb730, 2, none⟩ = some (.int .i64 ((rd_T61 l0 a1).f2)) ∧ w'.cell? ⟨gb730, 3, none⟩ = some (.int .i64 ((rd_T61 l0 a1).f3)) ∧ w'.cell? ⟨gb730, 4, none⟩ = some (.int .i64 ((rd_T61 l0 a1).f4)) ∧ w'.cell? ⟨gb728, 0, none⟩ = some (.int .i64 a2_0) ∧ w'.cell? ⟨gb728, 1, none⟩ = some (.int .i64 a2_1) ∧ w'.cell? ⟨gb728, 2, none⟩ = some (.int .i64 a2_2)) (ds := []) #[false, false, false, false, false, false, false, false, false, false] (by kernel_rfl) rfl rfl ⟨(blk_cell BK730.out 0).trans rfl, (blk_cell BK730.out 1).trans rfl, (blk_cell BK730.out 2).trans rfl, (blk_cell BK730.out 3).trans rfl, (blk_cell BK730.out 4).trans rfl, (blk_cell BK728.out 0).trans rfl, (blk_cell BK728.out 1).trans rfl, (blk_cell BK728.out 2).trans rfl⟩ (fun hHeld => ?_); refine with_tabW tailwaterref07_Value.tab14 tailwaterref07_Value.bits14 (fun HT_ HW_ => ?_)
        generalize w47.drew = w48 at BK728 BK730 HB hHeld ⊢
        refine pure_ (i := 0) (N := some 40) (v := ?_) (a' := ?_) #[true, false, false, false, false, false, false, false, false, false] rfl rfl (any_of HT_.out (by kernel_rfl)) (fun _ _ _ h => h) (Or.inl ⟨by rfl, ?_⟩) ?_ ?_
        rotate_left
        ·intro w'
         go_simp
         with_reducible rfl
        rotate_left
        ·simp only [Act.put, List.setIfInBounds_toArray, List.set_cons_zero, List.set_cons_succ, i64_w, i32_w]
         rfl
        refine pure_ (i := 2) (N := some 42) (v := ?_) (a' := ?_) #[true, false, true, false, false, false, false, false, false, false] rfl rfl (any_of HT_.out (by kernel_rfl)) (fun _ _ _ h => h) (Or.inl ⟨by rfl, ?_⟩) ?_ ?_
        rotate_left
        ·intro w'
         go_simp
         with_reducible rfl
        rotate_left
        ·simp only [Act.put, List.setIfInBounds_toArray, List.set_cons_zero, List.set_cons_succ, i64_w, i32_w]
         rfl
        refine pure_ (i := 3) (N := some 43) (v := ?_) (a' := ?_) #[true, false, true, true, false, false, false, false, false, false] rfl rfl (any_of HT_.out (by kernel_rfl)) (fun _ _ _ h => h) (Or.inl ⟨by rfl, ?_⟩) ?_ ?_
        rotate_left
        ·intro w'
         go_simp
         with_reducible rfl
        rotate_left
        ·simp only [Act.put, List.setIfInBounds_toArray, List.set_cons_zero, List.set_cons_succ, i64_w, i32_w]
         rfl
        refine pure_ (i := 7) (N := some 47) (v := ?_) (a' := ?_) #[true, false, true, true, false, false, false, true, false, false] rfl rfl (any_of HT_.out (by kernel_rfl)) (fun _ _ _ h => h) (Or.inl ⟨by rfl, ?_⟩) ?_ ?_
        rotate_left
        ·intro w'
         go_simp
         with_reducible rfl
        rotate_left
        ·simp only [Act.put, List.setIfInBounds_toArray, List.set_cons_zero, List.set_cons_succ, i64_w, i32_w]
         rfl
        refine take_ (i := 1) (N := some 41) (v := ?_) (a' := ?_) #[true, true, true, true, false, false, false, true, false, false] rfl rfl (take_ofW HT_.out HW_.out (by kernel_rfl)) (fun _ _ _ h => h) (Or.inl ⟨by rfl, ?_⟩) hHeld ?_ ?_
        rotate_left
        ·rintro w' ⟨s0, s1, s2, s3, s4, s5, s6, s7⟩
         go_simp
         with_reducible rfl
        rotate_left
        ·simp only [Act.put, List.setIfInBounds_toArray, List.set_cons_zero, List.set_cons_succ, i64_w, i32_w]
         rfl
        refine take_ (i := 4) (N := some 44) (v := ?_) (a' := ?_) #[true, true, true, true, true, false, false, true, false, false] rfl rfl (take_ofW HT_.out HW_.out (by kernel_rfl)) (fun _ _ _ h => h) (Or.inl ⟨by rfl, ?_⟩) hHeld ?_ ?_
        rotate_left
        ·rintro w' ⟨s0, s1, s2, s3, s4, s5, s6, s7⟩
         go_simp
         with_reducible rfl
        rotate_left
        ·simp only [Act.put, List.setIfInBounds_toArray, List.set_cons_zero, List.set_cons_succ, i64_w, i32_w]
         rfl
        refine take_ (i := 5) (N := some 45) (v := ?_) (a' := ?_) #[true, true, true, true, true, true, false, true, false, false] rfl rfl (take_ofW HT_.out HW_.out (by kernel_rfl)) (fun _ _ _ h => h) (Or.inl ⟨by rfl, ?_⟩) hHeld ?_ ?_
        rotate_left
        ·rintro w' ⟨s0, s1, s2, s3, s4, s5, s6, s7⟩
         go_simp
         with_reducible rfl
        rotate_left
        ·simp only [Act.put, List.setIfInBounds_toArray, List.set_cons_zero, List.set_cons_succ, i64_w, i32_w]
         rfl
        refine one_ (i := 6) (N := some 46) #[true, true, true, true, true, true, true, true, false, false] rfl rfl (one_of HT_.out (by kernel_rfl)) (by decide) (fun K hK => ?_)
        refine goes_ Try.func37 (by kernel_rfl) rfl #[.slice (some ad729) l0.length c0, .int .i64 ((rd_T61 l0 a1).f2), .agg #[.int .i64 a2_0, .int .i64 a2_1, .int .i64 a2_2]] (by rfl) rfl rfl (by (try simp only [List.map_toArray, List.map_cons, List.map_nil]) <;> rfl) ?_
        with_reducible refine (ih k (by omega) _ _ l0 ((rd_T61 l0 a1).f2) a2_0 a2_1 a2_2 t735 _ ?side1 ?side2 A41.out).mono ?_
        (case side1 => repeat (first | exact (Kd.C_below HR0.out HB.out) | (with_reducible refine Kd.C_alloc ?_ _) | (with_reducible refine Kd.C_drewN ?_ _) | (with_reducible refine Kd.C_drew ?_)))
        (case side2 => exact HC0.out)
        rintro e w49 ⟨rfl, hb⟩
        refine ⟨_, rfl, ?_⟩
        replace BK728 := am (blk_below (g := gb728) (o := .cells #[.int .i64 a2_0, .int .i64 a2_1, .int .i64 a2_2] 43 (0, 0)) (by exact blkL BK728.out) hb)
        replace BK730 := am (blk_below (g := gb730) (o := .cells #[.int .u8 ((rd_T61 l0 a1).f0), .int .i64 ((rd_T61 l0 a1).f1), .int .i64 ((rd_T61 l0 a1).f2), .int .i64 ((rd_T61 l0 a1).f3), .int .i64 ((rd_T61 l0 a1).f4)] 61 (0, 0)) (by exact blkL BK730.out) hb)
        replace HB := am (below_step (by repeat (first | (with_reducible first | exact HB.out | apply below_alloc | apply pw_below_drewN | apply below_drew1 | refine below_set ?_ GE728.out | refine below_set ?_ GE730.out) | exact HB.out)) hb)
        (try clear hb)
        (try clear hb2)
        (try clear hk)
        (try clear hi)
        refine hK.out _ _ ⟨(blk_cell BK730.out 0).trans rfl, (blk_cell BK730.out 1).trans rfl, (blk_cell BK730.out 2).trans rfl, (blk_cell BK730.out 3).trans rfl, (blk_cell BK730.out 4).trans rfl, (blk_cell BK728.out 0).trans rfl, (blk_cell BK728.out 1).trans rfl, (blk_cell BK728.out 2).trans rfl⟩ (fun hHeld => ?_)
        clear hK K
        refine norm_ (a' := ?_) ?_ ?_
        rotate_left
        ·show Act.put _ (some 46) _ = _
         simp only [Act.put, List.setIfInBounds_toArray, List.set_cons_zero, List.set_cons_succ, i64_w, i32_w]
         rfl
        refine one_ (i := 8) (N := some 48) #[true, true, true, true, true, true, true, true, true, false] rfl rfl (one_of HT_.out (by kernel_rfl)) (by decide) (fun K hK => ?_)
        refine goes_ Try.func58 (by kernel_rfl) rfl #[.int .u8 ((rd_T61 l0 a1).f0), .int .i64 t735, .int .i64 0] (by rfl) rfl rfl (by (try simp only [List.map_toArray, List.map_cons, List.map_nil]) <;> rfl) ?_
        with_reducible refine (tailwaterref01_Given.calls k ((rd_T61 l0 a1).f0) t735 0 t736 _ A42.out).mono ?_
        rintro e w' ⟨rfl, ⟨nd, rfl⟩⟩
        refine ⟨_, rfl, ?_⟩
        refine hK.out _ _ ⟨(blk_cell BK730.out 0).trans rfl, (blk_cell BK730.out 1).trans rfl, (blk_cell BK730.out 2).trans rfl, (blk_cell BK730.out 3).trans rfl, (blk_cell BK730.out 4).trans rfl, (blk_cell BK728.out 0).trans rfl, (blk_cell BK728.out 1).trans rfl, (blk_cell BK728.out 2).trans rfl⟩ (fun hHeld => ?_)
        clear hK K
        refine norm_ (a' := ?_) ?_ ?_
        rotate_left
        ·show Act.put _ (some 48) _ = _
         simp only [Act.put, List.setIfInBounds_toArray, List.set_cons_zero, List.set_cons_succ, i64_w, i32_w]
         rfl
        refine pure_ (i := 9) (N := some 6) (v := ?_) (a' := ?_) #[true, true, true, true, true, true, true, true, true, true] rfl rfl (any_of HT_.out (by kernel_rfl)) (fun _ _ _ h => h) (Or.inl ⟨by rfl, ?_⟩) ?_ ?_
        rotate_left
        ·intro w'
         go_simp
         with_reducible rfl
        rotate_left
        ·simp only [Act.put, List.setIfInBounds_toArray, List.set_cons_zero, List.set_cons_succ, i64_w, i32_w]
         rfl
        refine done_ (done_of HT_.out (by kernel_rfl)) ?_
        try go_wp2
        go_ret
        exact ⟨by first | rfl | (simp [errW_none, errW_some] <;> rfl) | (simp [*, errW_none, errW_some] <;> rfl), by repeat (first | (with_reducible first | exact HB.out | apply below_alloc | apply pw_below_drewN | apply below_drew1 | refine below_set ?_ GE728.out | refine below_set ?_ GE730.out) | exact HB.out)⟩
  ·rw [if_neg c5] at H
   exact absurd H (by simp)
 ·rw [if_neg c4] at H
  exact absurd H (by simp)

def tailwaterref07_Of.f (k : Nat) (l0 : List (S61)) (a1_0 : Int) (a1_1 : Int) (a1_2 : Int) : Option (Int × Int) := (tailwaterref06_Of.f k l0).bind fun bt738 => (if bt738.2.2 = 0 then ((tailwaterref07_Value.f k l0 (wrap64 ((l0.length : Int) - 1)) a1_0 a1_1 a1_2).bind fun t741 => (some (t741, 0))) else (some (0, bt738.2.2)))
set_option maxHeartbeats 8000000 in
set_option maxRecDepth 100000 in
theorem tailwaterref07_Of.calls (k : Nat) (A0 : Option Addr) (c0 : Nat) (l0 : List (S61)) (a1_0 : Int) (a1_1 : Int) (a1_2 : Int) (r1 : Int) (r2 : Int) (w : World) (hr0 : Kd.C k61 w A0 l0.length l0) (hc0 : l0.length ≤ c0) (h : tailwaterref07_Of.f k l0 a1_0 a1_1 a1_2 = some (r1, r2)) :
  Calls Try.prog 25 #[.slice A0 l0.length c0, .agg #[.int .i64 a1_0, .int .i64 a1_1, .int .i64 a1_2]] w fun e w' => e = .returned (.tuple #[.int .i64 r1, .int .i64 r2]) ∧ Below w.heap.size w w' := by
 have hu43 := Try.underlying43
 have HR0 := am hr0
 have HC0 := am hc0
 clear hr0 hc0
 have HB := am (Below.refl w.heap.size w)
 have H : ((tailwaterref06_Of.f k l0).bind fun bt738 => (if bt738.2.2 = 0 then ((tailwaterref07_Value.f k l0 (wrap64 ((l0.length : Int) - 1)) a1_0 a1_1 a1_2).bind fun t741 => (some (t741, 0))) else (some (0, bt738.2.2)))) = some (r1, r2) := h
 clear h
 replace H := Option.bind_eq_some_iff.mp H
 obtain ⟨⟨t738, t739, t740⟩, A30, H⟩ := H
 try dsimp only at H
 have A3 := am A30
 clear A30
 by_cases c4 : t740 = 0
 ·rw [if_pos c4] at H
  have c4b0 : (t740 == 0) = true := beq_iff_eq.mpr c4
  have c4b1 : (t740 != 0) = false := bne_eq_false_iff_eq.mpr c4
  clear c4
  replace H := Option.bind_eq_some_iff.mp H
  obtain ⟨t741, A50, H⟩ := H
  try dsimp only at H
  have A5 := am A50
  clear A50
  simp only [Option.some.injEq, Prod.mk.injEq] at H
  obtain ⟨rfl, rfl⟩ := H
  go_enter Try.func25, Try.ntmps25
  go_wp2_with (first | ((with_reducible refine gate_dst (N := 3) rfl ?_); refine box_event ?hg (N := 3) ?hd (cs := #[.int .i64 a1_0, .int .i64 a1_1, .int .i64 a1_2]) (t := 43) ?hr ?_; (case hd => rfl); (case hg => rfl); (case hr => go_simp <;> rfl); intro gb737 hg w6 hbox hb; have BK737 := am (hbox); have GW737 := am ((by rw [hg]; exact (below_size (by exact belL HB.out)) : w.heap.size ≤ gb737)); have GE737 := am ((by rw [hg]; exact (below_size (by exact belL HB.out)) : w.heap.size ≤ gb737)); replace HB := am (below_step (by exact belL HB.out) hb); clear hb hbox hg) | ((with_reducible refine gate_callee (f := 36) rfl ?_); refine goesL_ (some 11) rfl rfl Try.func36 (by kernel_rfl) rfl #[.slice A0 l0.length c0] rfl (by (try simp only [List.map_toArray, List.map_cons, List.map_nil]) <;> rfl) ?_; (with_reducible refine (tailwaterref06_Of.calls k _ _ l0 t738 t739 t740 _ ?side1 ?side2 A3.out).mono ?_); (case side1 => repeat (first | exact (Kd.C_below HR0.out HB.out) | (with_reducible refine Kd.C_alloc ?_ _) | (with_reducible refine Kd.C_drewN ?_ _) | (with_reducible refine Kd.C_drew ?_))); (case side2 => exact HC0.out); rintro e w7 ⟨rfl, hb⟩; refine ⟨_, rfl, ?_⟩; replace BK737 := am (blk_below (g := gb737) (o := .cells #[.int .i64 a1_0, .int .i64 a1_1, .int .i64 a1_2] 43 (0, 0)) (by exact blkL BK737.out) hb); replace HB := am (below_step (by repeat (first | (with_reducible first | exact HB.out | apply below_alloc | apply pw_below_drewN | apply below_drew1 | refine below_set ?_ GE737.out) | exact HB.out)) hb); (try clear hb); obtain ⟨z8_0, z8_1, z8_2, y8_0, y8_1, y8_2⟩ := box3 BK737.out) | ((with_reducible refine gate_callee (f := 37) rfl ?_); refine goesL_ (some 23) rfl rfl Try.func37 (by kernel_rfl) rfl #[.slice A0 l0.length c0, .int .i64 (wrap64 ((l0.length : Int) - 1)), .agg #[.int .i64 a1_0, .int .i64 a1_1, .int .i64 a1_2]] rfl (by (try simp only [List.map_toArray, List.map_cons, List.map_nil]) <;> rfl) ?_; (with_reducible refine (tailwaterref07_Value.calls k _ _ l0 (wrap64 ((l0.length : Int) - 1)) a1_0 a1_1 a1_2 t741 _ ?side1 ?side2 A5.out).mono ?_); (case side1 => repeat (first | exact (Kd.C_below HR0.out HB.out) | (with_reducible refine Kd.C_alloc ?_ _) | (with_reducible refine Kd.C_drewN ?_ _) | (with_reducible refine Kd.C_drew ?_))); (case side2 => exact HC0.out); rintro e w9 ⟨rfl, hb⟩; refine ⟨_, rfl, ?_⟩; replace HB := am (below_step (by exact belL HB.out) hb); (try clear hb)))
  go_ret2
  exact ⟨by first | rfl | (simp [errW_none, errW_some] <;> rfl) | (simp [*, errW_none, errW_some] <;> rfl), by repeat (first | (with_reducible first | exact HB.out | apply below_alloc | apply pw_below_drewN | apply below_drew1) | exact HB.out)⟩
 ·rw [if_neg c4] at H
  have c4b0 : (t740 == 0) = false := beq_eq_false_iff_ne.mpr c4
  have c4b1 : (t740 != 0) = true := bne_iff_ne.mpr c4
  simp only [Option.some.injEq, Prod.mk.injEq] at H
  obtain ⟨rfl, rfl⟩ := H
  go_enter Try.func25, Try.ntmps25
  go_wp2_with (first | ((with_reducible refine gate_dst (N := 3) rfl ?_); refine box_event ?hg (N := 3) ?hd (cs := #[.int .i64 a1_0, .int .i64 a1_1, .int .i64 a1_2]) (t := 43) ?hr ?_; (case hd => rfl); (case hg => rfl); (case hr => go_simp <;> rfl); intro gb737 hg w10 hbox hb; have BK737 := am (hbox); have GW737 := am ((by rw [hg]; exact (below_size (by exact belL HB.out)) : w.heap.size ≤ gb737)); have GE737 := am ((by rw [hg]; exact (below_size (by exact belL HB.out)) : w.heap.size ≤ gb737)); replace HB := am (below_step (by exact belL HB.out) hb); clear hb hbox hg) | ((with_reducible refine gate_callee (f := 36) rfl ?_); refine goesL_ (some 11) rfl rfl Try.func36 (by kernel_rfl) rfl #[.slice A0 l0.length c0] rfl (by (try simp only [List.map_toArray, List.map_cons, List.map_nil]) <;> rfl) ?_; (with_reducible refine (tailwaterref06_Of.calls k _ _ l0 t738 t739 t740 _ ?side1 ?side2 A3.out).mono ?_); (case side1 => repeat (first | exact (Kd.C_below HR0.out HB.out) | (with_reducible refine Kd.C_alloc ?_ _) | (with_reducible refine Kd.C_drewN ?_ _) | (with_reducible refine Kd.C_drew ?_))); (case side2 => exact HC0.out); rintro e w11 ⟨rfl, hb⟩; refine ⟨_, rfl, ?_⟩; replace HB := am (below_step (by exact belL HB.out) hb); (try clear hb)))
  go_ret2
  exact ⟨by first | rfl | (simp [errW_none, errW_some] <;> rfl) | (simp [*, errW_none, errW_some] <;> rfl), by repeat (first | (with_reducible first | exact HB.out | apply below_alloc | apply pw_below_drewN | apply below_drew1) | exact HB.out)⟩

end Go.Proofs.Ytcdgohoinmbpfaa.M
