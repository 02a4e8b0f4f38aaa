import Derived.Test.YtcdgohoinmbpfaaKFilterTwice6
import Derived.Test.YtcdgohoinmbpfaaKFilterTwice19
import Derived.Test.YtcdgohoinmbpfaaKFilterTwice20
import Derived.Test.YtcdgohoinmbpfaaKFilterTwice8
import Derived.Test.YtcdgohoinmbpfaaKFilterTwice18
import Derived.Test.YtcdgohoinmbpfaaKFilterTwice13
namespace Go.Proofs.Ytcdgohoinmbpfaa.M
open Go.RowKit Go.Proofs.YtcdgohoinmbpfaaW.PrintWords Go.Proofs.YtcdgohoinmbpfaaW.PrintLast Go.Proofs.YtcdgohoinmbpfaaW.PrintMore
attribute [local go_sem] max2_int min2_int max_two min_two
set_option linter.unusedVariables false
set_option linter.unusedSimpArgs false

def tailwaterref10_Right.j0 : Nat → Int → List (S61) → List Int → Bool → List (S61) → Int → Int → Int → Bool → Int → Option (Int × Int)
 | 0, _, _, _, _, _, _, _, _, _, _ => none
 | k + 1, x686000, x686001, x686002, x686003, x686004, x686005, x686006, x686007, x686008, x686009 => if (x686004.length : Int) > 0 then ((tailwaterref06_Want.f k x686004 true).bind fun bt689 => (if bt689.2 = 0 then (some (0, 0)) else (if 0 ≤ bt689.1 then (if bt689.1 < (x686004.length : Int) then (some ((rd_T61 x686004 bt689.1).f4, bt689.2)) else (none)) else (none)))) else (some (0, 0))
def tailwaterref10_Right.f (k : Nat) (a0_0 : Int) (l0_1 : List (S61)) (l0_2 : List Int) (a0_3 : Bool) (l0_4 : List (S61)) (a0_5 : Int) (a0_6 : Int) (a0_7 : Int) (a0_8 : Bool) (a0_9 : Int) : Option (Int × Int) := if (l0_1.length : Int) > 0 then ((tailwaterref06_Want.f k l0_1 false).bind fun bt686 => (if bt686.2 = 0 then (tailwaterref10_Right.j0 k a0_0 l0_1 l0_2 a0_3 l0_4 a0_5 a0_6 a0_7 a0_8 a0_9) else (if 0 ≤ bt686.1 then (if bt686.1 < (l0_1.length : Int) then (some ((rd_T61 l0_1 bt686.1).f4, bt686.2)) else (none)) else (none)))) else (tailwaterref10_Right.j0 k a0_0 l0_1 l0_2 a0_3 l0_4 a0_5 a0_6 a0_7 a0_8 a0_9)
set_option maxHeartbeats 8000000 in
set_option maxRecDepth 100000 in
theorem tailwaterref10_Right.calls (k : Nat) (a0_0 : Int) (A0_1 : Option Addr) (c0_1 : Nat) (l0_1 : List (S61)) (A0_2 : Option Addr) (c0_2 : Nat) (l0_2 : List Int) (a0_3 : Bool) (A0_4 : Option Addr) (c0_4 : Nat) (l0_4 : List (S61)) (a0_5 : Int) (a0_6 : Int) (a0_7 : Int) (a0_8 : Bool) (a0_9 : Int) (r1 : Int) (r2 : Int) (w : World) (hr0_1 : Kd.C k61 w A0_1 l0_1.length l0_1) (hc0_1 : l0_1.length ≤ c0_1) (hr0_2 : Kd.C (Kd.int .i64) w A0_2 l0_2.length l0_2) (hc0_2 : l0_2.length ≤ c0_2) (hr0_4 : Kd.C k61 w A0_4 l0_4.length l0_4) (hc0_4 : l0_4.length ≤ c0_4) (h : tailwaterref10_Right.f k a0_0 l0_1 l0_2 a0_3 l0_4 a0_5 a0_6 a0_7 a0_8 a0_9 = some (r1, r2)) :
  Calls Try.prog 49 #[.agg #[.int .u8 a0_0, .slice A0_1 l0_1.length c0_1, .slice A0_2 l0_2.length c0_2, .bool a0_3, .slice A0_4 l0_4.length c0_4, .int .u8 a0_5, .int .i64 a0_6, .int .i64 a0_7, .bool a0_8, .int .u8 a0_9]] w fun e w' => e = .returned (.tuple #[.int .i64 r1, .int .i64 r2]) ∧ Below w.heap.size w w' := by
 have hu41 := Try.underlying41
 have HR0_1 := am hr0_1
 have HC0_1 := am hc0_1
 clear hr0_1 hc0_1
 have HR0_2 := am hr0_2
 have HC0_2 := am hc0_2
 clear hr0_2 hc0_2
 have HR0_4 := am hr0_4
 have HC0_4 := am hc0_4
 clear hr0_4 hc0_4
 have HB := am (Below.refl w.heap.size w)
 have H : (if (l0_1.length : Int) > 0 then ((tailwaterref06_Want.f k l0_1 false).bind fun bt686 => (if bt686.2 = 0 then (tailwaterref10_Right.j0 k a0_0 l0_1 l0_2 a0_3 l0_4 a0_5 a0_6 a0_7 a0_8 a0_9) else (if 0 ≤ bt686.1 then (if bt686.1 < (l0_1.length : Int) then (some ((rd_T61 l0_1 bt686.1).f4, bt686.2)) else (none)) else (none)))) else (tailwaterref10_Right.j0 k a0_0 l0_1 l0_2 a0_3 l0_4 a0_5 a0_6 a0_7 a0_8 a0_9)) = some (r1, r2) := h
 clear h
 have HC2 := am H
 clear H
 go_enter Try.func49, Try.ntmps49
 go_upto_if 11 with (first | ((with_reducible refine gate_dst (N := 1) rfl ?_); refine box_event ?hg (N := 1) ?hd (cs := #[.int .u8 a0_0, .slice A0_1 l0_1.length c0_1, .slice A0_2 l0_2.length c0_2, .bool a0_3, .slice A0_4 l0_4.length c0_4, .int .u8 a0_5, .int .i64 a0_6, .int .i64 a0_7, .bool a0_8, .int .u8 a0_9]) (t := 41) ?hr ?_; (case hd => rfl); (case hg => rfl); (case hr => first | (go_simp; done) | (go_simp; rfl)); intro gb685 hg w3 hbox hb; have BK685 := am (hbox); have GW685 := am ((by rw [hg]; exact (below_size (by exact belL HB.out)) : w.heap.size ≤ gb685)); have GE685 := am ((by rw [hg]; exact (below_size (by exact belL HB.out)) : w.heap.size ≤ gb685)); replace HB := am (below_step (by exact belL HB.out) hb); clear hb hbox hg; obtain ⟨z4_0, z4_1, z4_2, z4_3, z4_4, z4_5, z4_6, z4_7, z4_8, z4_9, y4_0, y4_1, y4_2, y4_3, y4_4, y4_5, y4_6, y4_7, y4_8, y4_9⟩ := box10 BK685.out))
 (try simp only [Act.put, List.setIfInBounds_toArray, List.set_cons_zero, List.set_cons_succ])
 go_cut [] (fun wc => ∃ (kq : Nat), Aside0 (tailwaterref10_Right.j0 kq a0_0 l0_1 l0_2 a0_3 l0_4 a0_5 a0_6 a0_7 a0_8 a0_9 = some (r1, r2)) ∧ Aside0 (kq ≤ k) ∧ Aside0 (wc.heap[gb685]? = some (.cells #[.int .u8 a0_0, (.slice A0_1 l0_1.length c0_1), (.slice A0_2 l0_2.length c0_2), .bool a0_3, (.slice A0_4 l0_4.length c0_4), .int .u8 a0_5, .int .i64 a0_6, .int .i64 a0_7, .bool a0_8, .int .u8 a0_9] 41 (0, 0))) ∧ Aside0 (Below w.heap.size w wc))
 case first =>
  have H := HC2.out
  clear HC2
  by_cases c5 : (l0_1.length : Int) > 0
  ·rw [if_pos c5] at H
   have c5b0 : decide (0 < (l0_1.length : Int)) = true := decide_eq_true c5
   have c5b1 : decide (0 < l0_1.length) = true := decide_eq_true (by omega)
   have c5b1p : 0 < l0_1.length := of_decide_eq_true c5b1
   clear c5
   (first | rw [c5b0] | (simp only [i64_w, i32_w]; rw [c5b0]) | skip)
   replace H := Option.bind_eq_some_iff.mp H
   obtain ⟨⟨t686, t687⟩, A60, H⟩ := H
   try dsimp only at H
   have A6 := am A60
   clear A60
   by_cases c7 : t687 = 0
   ·rw [if_pos c7] at H
    have c7b0 : (t687 == 0) = true := beq_iff_eq.mpr c7
    have c7b1 : (t687 != 0) = false := bne_eq_false_iff_eq.mpr c7
    clear c7
    have H' := am H
    clear H
    obtain ⟨z8_0, z8_1, z8_2, z8_3, z8_4, z8_5, z8_6, z8_7, z8_8, z8_9, y8_0, y8_1, y8_2, y8_3, y8_4, y8_5, y8_6, y8_7, y8_8, y8_9⟩ := box10 BK685.out
    go_wp2_with (first | ((with_reducible refine gate_callee (f := 73) rfl ?_); refine goesL_ (some 15) rfl rfl Try.func73 (by kernel_rfl) rfl #[.slice A0_1 l0_1.length c0_1, .bool false] rfl (by (try simp only [List.map_toArray, List.map_cons, List.map_nil]) <;> rfl) ?_; (with_reducible refine (tailwaterref06_Want.calls k _ _ l0_1 false t686 t687 _ ?side1 ?side2 A6.out).mono ?_); (case side1 => repeat (first | exact (Kd.C_below HR0_1.out HB.out) | (with_reducible refine Kd.C_alloc ?_ _) | (with_reducible refine Kd.C_drewN ?_ _) | (with_reducible refine Kd.C_drew ?_))); (case side2 => exact HC0_1.out); rintro e w9 ⟨rfl, hb⟩; refine ⟨_, rfl, ?_⟩; replace BK685 := am (blk_below (by exact blkL BK685.out) hb); replace HB := am (below_step (by repeat (with_reducible first | exact HB.out | refine belS ?_ | refine below_set ?_ GE685.out)) hb); (try clear hb); (try clear hb2); (try clear hk); (try clear hi)))
    go_meet
    case rel => exact ⟨_, H', ⟨by first | omega | exact Nat.le_refl _⟩, ⟨by (repeat refine blkS ?_); exact BK685.out⟩, ⟨by repeat (with_reducible first | exact HB.out | refine belS ?_ | refine below_set ?_ GE685.out)⟩⟩
   ·rw [if_neg c7] at H
    have c7b0 : (t687 == 0) = false := beq_eq_false_iff_ne.mpr c7
    have c7b1 : (t687 != 0) = true := bne_iff_ne.mpr c7
    by_cases c10 : 0 ≤ t686
    ·rw [if_pos c10] at H
     have c10b0 : decide (0 ≤ t686) = true := decide_eq_true c10
     clear c10
     by_cases c11 : t686 < (l0_1.length : Int)
     ·rw [if_pos c11] at H
      have c11b0 : decide (t686 < (l0_1.length : Int)) = true := decide_eq_true c11
      clear c11
      simp only [Option.some.injEq, Prod.mk.injEq] at H
      obtain ⟨rfl, rfl⟩ := H
      obtain ⟨z12_0, z12_1, z12_2, z12_3, z12_4, z12_5, z12_6, z12_7, z12_8, z12_9, y12_0, y12_1, y12_2, y12_3, y12_4, y12_5, y12_6, y12_7, y12_8, y12_9⟩ := box10 BK685.out
      go_wp2_with (first | ((with_reducible refine gate_callee (f := 73) rfl ?_); refine goesL_ (some 15) rfl rfl Try.func73 (by kernel_rfl) rfl #[.slice A0_1 l0_1.length c0_1, .bool false] rfl (by (try simp only [List.map_toArray, List.map_cons, List.map_nil]) <;> rfl) ?_; (with_reducible refine (tailwaterref06_Want.calls k _ _ l0_1 false t686 t687 _ ?side1 ?side2 A6.out).mono ?_); (case side1 => repeat (first | exact (Kd.C_below HR0_1.out HB.out) | (with_reducible refine Kd.C_alloc ?_ _) | (with_reducible refine Kd.C_drewN ?_ _) | (with_reducible refine Kd.C_drew ?_))); (case side2 => exact HC0_1.out); rintro e w13 ⟨rfl, hb⟩; refine ⟨_, rfl, ?_⟩; replace BK685 := am (blk_below (by exact blkL BK685.out) hb); replace HB := am (below_step (by repeat (with_reducible first | exact HB.out | refine belS ?_ | refine below_set ?_ GE685.out)) hb); (try clear hb); (try clear hb2); (try clear hk); (try clear hi); obtain ⟨z14_0, z14_1, z14_2, z14_3, z14_4, z14_5, z14_6, z14_7, z14_8, z14_9, y14_0, y14_1, y14_2, y14_3, y14_4, y14_5, y14_6, y14_7, y14_8, y14_9⟩ := box10 BK685.out; have p688 : 0 ≤ (t686 : Int) := of_decide_eq_true (by first | (with_reducible assumption) | assumption); have q688 : t686 < (l0_1.length : Int) := of_decide_eq_true (by first | (with_reducible assumption) | assumption); obtain ⟨ad688, e688, hx688_0, hx688_1, hx688_2, hx688_3, hx688_4⟩ := at_T61 HR0_1.out t686 p688 q688; cases e688; replace hx688_0 := (HB.out.cell (World.block_lt_of_cell? w _ hx688_0)).trans hx688_0; replace hx688_1 := (HB.out.cell (World.block_lt_of_cell? w _ hx688_1)).trans hx688_1; replace hx688_2 := (HB.out.cell (World.block_lt_of_cell? w _ hx688_2)).trans hx688_2; replace hx688_3 := (HB.out.cell (World.block_lt_of_cell? w _ hx688_3)).trans hx688_3; replace hx688_4 := (HB.out.cell (World.block_lt_of_cell? w _ hx688_4)).trans hx688_4; replace p688 := eq_true p688; replace q688 := eq_true q688))
      go_ret2
      exact ⟨by first | rfl | (simp [errW_none, errW_some] <;> rfl) | (simp [*, errW_none, errW_some] <;> rfl), by repeat (with_reducible first | exact HB.out | refine belS ?_)⟩
     ·rw [if_neg c11] at H
      exact absurd H (by simp)
    ·rw [if_neg c10] at H
     exact absurd H (by simp)
  ·rw [if_neg c5] at H
   have c5b0 : decide (0 < (l0_1.length : Int)) = false := decide_eq_false c5
   have c5b1 : decide (0 < l0_1.length) = false := decide_eq_false (by omega)
   have c5b1p : ¬ 0 < l0_1.length := of_decide_eq_false c5b1
   clear c5
   (first | rw [c5b0] | (simp only [i64_w, i32_w]; rw [c5b0]) | skip)
   have H' := am H
   clear H
   go_wp2
   go_meet
   case rel => exact ⟨_, H', ⟨by first | omega | exact Nat.le_refl _⟩, ⟨by (repeat refine blkS ?_); exact BK685.out⟩, ⟨by repeat (with_reducible first | exact HB.out | refine belS ?_ | refine below_set ?_ GE685.out)⟩⟩
 case rest =>
  clear HC2
  try clear c1
  try clear p2
  try clear c4
  try clear c5
  try clear c5b0
  try clear c5b1
  try clear p6
  try clear q6
  try clear hx6
  try clear c7
  try clear c7b0
  try clear c7b1
  try clear c10
  try clear c10b0
  try clear c11
  try clear c11b0
  try clear z12_0 z12_1 z12_2 z12_3 z12_4 z12_5 z12_6 z12_7 z12_8 z12_9 y12_0 y12_1 y12_2 y12_3 y12_4 y12_5 y12_6 y12_7 y12_8 y12_9
  try clear z14_0 z14_1 z14_2 z14_3 z14_4 z14_5 z14_6 z14_7 z14_8 z14_9 y14_0 y14_1 y14_2 y14_3 y14_4 y14_5 y14_6 y14_7 y14_8 y14_9
  try clear z4_0 z4_1 z4_2 z4_3 z4_4 z4_5 z4_6 z4_7 z4_8 z4_9 y4_0 y4_1 y4_2 y4_3 y4_4 y4_5 y4_6 y4_7 y4_8 y4_9
  try clear z8_0 z8_1 z8_2 z8_3 z8_4 z8_5 z8_6 z8_7 z8_8 z8_9 y8_0 y8_1 y8_2 y8_3 y8_4 y8_5 y8_6 y8_7 y8_8 y8_9
  try clear hx688_0
  try clear hx688_1
  try clear hx688_2
  try clear hx688_3
  try clear hx688_4
  try clear p688
  try clear q688
  obtain ⟨kq, HA, HJ1, BK685, HB⟩ := hcut
  cases kq with
  | zero => exact absurd HA.out (by simp [tailwaterref10_Right.j0])
  | succ kj1 =>
   have H := HA.out
   clear HA
   simp only [tailwaterref10_Right.j0] at H
   by_cases c15 : (l0_4.length : Int) > 0
   ·rw [if_pos c15] at H
    have c15b0 : decide (0 < (l0_4.length : Int)) = true := decide_eq_true c15
    have c15b1 : decide (0 < l0_4.length) = true := decide_eq_true (by omega)
    have c15b1p : 0 < l0_4.length := of_decide_eq_true c15b1
    clear c15
    replace H := Option.bind_eq_some_iff.mp H
    obtain ⟨⟨t689, t690⟩, A160, H⟩ := H
    try dsimp only at H
    have A16 := am A160
    clear A160
    by_cases c17 : t690 = 0
    ·rw [if_pos c17] at H
     have c17b0 : (t690 == 0) = true := beq_iff_eq.mpr c17
     have c17b1 : (t690 != 0) = false := bne_eq_false_iff_eq.mpr c17
     clear c17
     simp only [Option.some.injEq, Prod.mk.injEq] at H
     obtain ⟨rfl, rfl⟩ := H
     obtain ⟨z18_0, z18_1, z18_2, z18_3, z18_4, z18_5, z18_6, z18_7, z18_8, z18_9, y18_0, y18_1, y18_2, y18_3, y18_4, y18_5, y18_6, y18_7, y18_8, y18_9⟩ := box10 BK685.out
     go_wp2_with (first | ((with_reducible refine gate_callee (f := 73) rfl ?_); refine goesL_ (some 34) rfl rfl Try.func73 (by kernel_rfl) rfl #[.slice A0_4 l0_4.length c0_4, .bool true] rfl (by (try simp only [List.map_toArray, List.map_cons, List.map_nil]) <;> rfl) ?_; (with_reducible refine (tailwaterref06_Want.calls kj1 _ _ l0_4 true t689 t690 _ ?side1 ?side2 A16.out).mono ?_); (case side1 => repeat (first | exact (Kd.C_below HR0_4.out HB.out) | (with_reducible refine Kd.C_alloc ?_ _) | (with_reducible refine Kd.C_drewN ?_ _) | (with_reducible refine Kd.C_drew ?_))); (case side2 => exact HC0_4.out); rintro e w19 ⟨rfl, hb⟩; refine ⟨_, rfl, ?_⟩; replace HB := am (below_step (by exact belL HB.out) hb); (try clear hb); (try clear hb2); (try clear hk); (try clear hi)))
     go_ret2
     exact ⟨by first | rfl | (simp [errW_none, errW_some] <;> rfl) | (simp [*, errW_none, errW_some] <;> rfl), by repeat (with_reducible first | exact HB.out | refine belS ?_)⟩
    ·rw [if_neg c17] at H
     have c17b0 : (t690 == 0) = false := beq_eq_false_iff_ne.mpr c17
     have c17b1 : (t690 != 0) = true := bne_iff_ne.mpr c17
     by_cases c20 : 0 ≤ t689
     ·rw [if_pos c20] at H
      have c20b0 : decide (0 ≤ t689) = true := decide_eq_true c20
      clear c20
      by_cases c21 : t689 < (l0_4.length : Int)
      ·rw [if_pos c21] at H
       have c21b0 : decide (t689 < (l0_4.length : Int)) = true := decide_eq_true c21
       clear c21
       simp only [Option.some.injEq, Prod.mk.injEq] at H
       obtain ⟨rfl, rfl⟩ := H
       obtain ⟨z22_0, z22_1, z22_2, z22_3, z22_4, z22_5, z22_6, z22_7, z22_8, z22_9, y22_0, y22_1, y22_2, y22_3, y22_4, y22_5, y22_6, y22_7, y22_8, y22_9⟩ := box10 BK685.out
       go_wp2_with (first | ((with_reducible refine gate_callee (f := 73) rfl ?_); refine goesL_ (some 34) rfl rfl Try.func73 (by kernel_rfl) rfl #[.slice A0_4 l0_4.length c0_4, .bool true] rfl (by (try simp only [List.map_toArray, List.map_cons, List.map_nil]) <;> rfl) ?_; (with_reducible refine (tailwaterref06_Want.calls kj1 _ _ l0_4 true t689 t690 _ ?side1 ?side2 A16.out).mono ?_); (case side1 => repeat (first | exact (Kd.C_below HR0_4.out HB.out) | (with_reducible refine Kd.C_alloc ?_ _) | (with_reducible refine Kd.C_drewN ?_ _) | (with_reducible refine Kd.C_drew ?_))); (case side2 => exact HC0_4.out); rintro e w23 ⟨rfl, hb⟩; refine ⟨_, rfl, ?_⟩; replace BK685 := am (blk_below (by exact blkL BK685.out) hb); replace HB := am (below_step (by repeat (with_reducible first | exact HB.out | refine belS ?_ | refine below_set ?_ GE685.out)) hb); (try clear hb); (try clear hb2); (try clear hk); (try clear hi); obtain ⟨z24_0, z24_1, z24_2, z24_3, z24_4, z24_5, z24_6, z24_7, z24_8, z24_9, y24_0, y24_1, y24_2, y24_3, y24_4, y24_5, y24_6, y24_7, y24_8, y24_9⟩ := box10 BK685.out; have p691 : 0 ≤ (t689 : Int) := of_decide_eq_true (by first | (with_reducible assumption) | assumption); have q691 : t689 < (l0_4.length : Int) := of_decide_eq_true (by first | (with_reducible assumption) | assumption); obtain ⟨ad691, e691, hx691_0, hx691_1, hx691_2, hx691_3, hx691_4⟩ := at_T61 HR0_4.out t689 p691 q691; cases e691; replace hx691_0 := (HB.out.cell (World.block_lt_of_cell? w _ hx691_0)).trans hx691_0; replace hx691_1 := (HB.out.cell (World.block_lt_of_cell? w _ hx691_1)).trans hx691_1; replace hx691_2 := (HB.out.cell (World.block_lt_of_cell? w _ hx691_2)).trans hx691_2; replace hx691_3 := (HB.out.cell (World.block_lt_of_cell? w _ hx691_3)).trans hx691_3; replace hx691_4 := (HB.out.cell (World.block_lt_of_cell? w _ hx691_4)).trans hx691_4; replace p691 := eq_true p691; replace q691 := eq_true q691))
       go_ret2
       exact ⟨by first | rfl | (simp [errW_none, errW_some] <;> rfl) | (simp [*, errW_none, errW_some] <;> rfl), by repeat (with_reducible first | exact HB.out | refine belS ?_)⟩
      ·rw [if_neg c21] at H
       exact absurd H (by simp)
     ·rw [if_neg c20] at H
      exact absurd H (by simp)
   ·rw [if_neg c15] at H
    have c15b0 : decide (0 < (l0_4.length : Int)) = false := decide_eq_false c15
    have c15b1 : decide (0 < l0_4.length) = false := decide_eq_false (by omega)
    have c15b1p : ¬ 0 < l0_4.length := of_decide_eq_false c15b1
    clear c15
    simp only [Option.some.injEq, Prod.mk.injEq] at H
    obtain ⟨rfl, rfl⟩ := H
    obtain ⟨z25_0, z25_1, z25_2, z25_3, z25_4, z25_5, z25_6, z25_7, z25_8, z25_9, y25_0, y25_1, y25_2, y25_3, y25_4, y25_5, y25_6, y25_7, y25_8, y25_9⟩ := box10 BK685.out
    go_wp2
    go_ret2
    exact ⟨by first | rfl | (simp [errW_none, errW_some] <;> rfl) | (simp [*, errW_none, errW_some] <;> rfl), by repeat (with_reducible first | exact HB.out | refine belS ?_ | refine below_set ?_ GE685.out)⟩

def tailwaterref10_Check.f (k : Nat) (a0_0 : Int) (l0_1 : List (S61)) (l0_2 : List Int) (a0_3 : Bool) (l0_4 : List (S61)) (a0_5 : Int) (a0_6 : Int) (a0_7 : Int) (a0_8 : Bool) (a0_9 : Int) : Option (Int × Int) := (tailwaterref08_Check.f k a0_0 l0_1 l0_2 a0_3 l0_4 a0_5 a0_6 a0_7 a0_8 a0_9).bind fun t693 => (if t693 = 0 then ((tailwaterref10_Right.f k a0_0 l0_1 l0_2 a0_3 l0_4 a0_5 a0_6 a0_7 a0_8 a0_9).bind fun bt694 => (some (bt694.1, bt694.2))) else ((tailwaterref08_Check.f k a0_0 l0_1 l0_2 a0_3 l0_4 a0_5 a0_6 a0_7 a0_8 a0_9).bind fun t696 => (some (0, t696))))
set_option maxHeartbeats 8000000 in
set_option maxRecDepth 100000 in
theorem tailwaterref10_Check.calls (k : Nat) (a0_0 : Int) (A0_1 : Option Addr) (c0_1 : Nat) (l0_1 : List (S61)) (A0_2 : Option Addr) (c0_2 : Nat) (l0_2 : List Int) (a0_3 : Bool) (A0_4 : Option Addr) (c0_4 : Nat) (l0_4 : List (S61)) (a0_5 : Int) (a0_6 : Int) (a0_7 : Int) (a0_8 : Bool) (a0_9 : Int) (r1 : Int) (r2 : Int) (w : World) (hr0_1 : Kd.C k61 w A0_1 l0_1.length l0_1) (hc0_1 : l0_1.length ≤ c0_1) (hr0_2 : Kd.C (Kd.int .i64) w A0_2 l0_2.length l0_2) (hc0_2 : l0_2.length ≤ c0_2) (hr0_4 : Kd.C k61 w A0_4 l0_4.length l0_4) (hc0_4 : l0_4.length ≤ c0_4) (h : tailwaterref10_Check.f k a0_0 l0_1 l0_2 a0_3 l0_4 a0_5 a0_6 a0_7 a0_8 a0_9 = some (r1, r2)) :
  Calls Try.prog 32 #[.agg #[.int .u8 a0_0, .slice A0_1 l0_1.length c0_1, .slice A0_2 l0_2.length c0_2, .bool a0_3, .slice A0_4 l0_4.length c0_4, .int .u8 a0_5, .int .i64 a0_6, .int .i64 a0_7, .bool a0_8, .int .u8 a0_9]] w fun e w' => e = .returned (.tuple #[.int .i64 r1, .int .i64 r2]) ∧ Below w.heap.size w w' := by
 have hu41 := Try.underlying41
 have HR0_1 := am hr0_1
 have HC0_1 := am hc0_1
 clear hr0_1 hc0_1
 have HR0_2 := am hr0_2
 have HC0_2 := am hc0_2
 clear hr0_2 hc0_2
 have HR0_4 := am hr0_4
 have HC0_4 := am hc0_4
 clear hr0_4 hc0_4
 have HB := am (Below.refl w.heap.size w)
 have H : ((tailwaterref08_Check.f k a0_0 l0_1 l0_2 a0_3 l0_4 a0_5 a0_6 a0_7 a0_8 a0_9).bind fun t693 => (if t693 = 0 then ((tailwaterref10_Right.f k a0_0 l0_1 l0_2 a0_3 l0_4 a0_5 a0_6 a0_7 a0_8 a0_9).bind fun bt694 => (some (bt694.1, bt694.2))) else ((tailwaterref08_Check.f k a0_0 l0_1 l0_2 a0_3 l0_4 a0_5 a0_6 a0_7 a0_8 a0_9).bind fun t696 => (some (0, t696))))) = some (r1, r2) := h
 clear h
 replace H := Option.bind_eq_some_iff.mp H
 obtain ⟨t693, A20, H⟩ := H
 try dsimp only at H
 have A2 := am A20
 clear A20
 by_cases c3 : t693 = 0
 ·rw [if_pos c3] at H
  have c3b0 : (t693 == 0) = true := beq_iff_eq.mpr c3
  have c3b1 : (t693 != 0) = false := bne_eq_false_iff_eq.mpr c3
  clear c3
  replace H := Option.bind_eq_some_iff.mp H
  obtain ⟨⟨t694, t695⟩, A40, H⟩ := H
  try dsimp only at H
  have A4 := am A40
  clear A40
  simp only [Option.some.injEq, Prod.mk.injEq] at H
  obtain ⟨rfl, rfl⟩ := H
  go_enter Try.func32, Try.ntmps32
  go_wp2_with (first | ((with_reducible refine gate_dst (N := 1) rfl ?_); refine box_event ?hg (N := 1) ?hd (cs := #[.int .u8 a0_0, .slice A0_1 l0_1.length c0_1, .slice A0_2 l0_2.length c0_2, .bool a0_3, .slice A0_4 l0_4.length c0_4, .int .u8 a0_5, .int .i64 a0_6, .int .i64 a0_7, .bool a0_8, .int .u8 a0_9]) (t := 41) ?hr ?_; (case hd => rfl); (case hg => rfl); (case hr => first | (go_simp; done) | (go_simp; rfl)); intro gb692 hg w5 hbox hb; have BK692 := am (hbox); have GW692 := am ((by rw [hg]; exact (below_size (by exact belL HB.out)) : w.heap.size ≤ gb692)); have GE692 := am ((by rw [hg]; exact (below_size (by exact belL HB.out)) : w.heap.size ≤ gb692)); replace HB := am (below_step (by exact belL HB.out) hb); clear hb hbox hg; obtain ⟨z6_0, z6_1, z6_2, z6_3, z6_4, z6_5, z6_6, z6_7, z6_8, z6_9, y6_0, y6_1, y6_2, y6_3, y6_4, y6_5, y6_6, y6_7, y6_8, y6_9⟩ := box10 BK692.out) | ((with_reducible refine gate_callee (f := 48) rfl ?_); refine goesL_ (some 5) rfl rfl Try.func48 (by kernel_rfl) rfl #[.agg #[.int .u8 a0_0, .slice A0_1 l0_1.length c0_1, .slice A0_2 l0_2.length c0_2, .bool a0_3, .slice A0_4 l0_4.length c0_4, .int .u8 a0_5, .int .i64 a0_6, .int .i64 a0_7, .bool a0_8, .int .u8 a0_9]] rfl (by (try simp only [List.map_toArray, List.map_cons, List.map_nil]) <;> rfl) ?_; (with_reducible refine (tailwaterref08_Check.calls k a0_0 _ _ l0_1 _ _ l0_2 a0_3 _ _ l0_4 a0_5 a0_6 a0_7 a0_8 a0_9 t693 _ ?side1 ?side2 ?side3 ?side4 ?side5 ?side6 A2.out).mono ?_); (case side1 => repeat (first | exact (Kd.C_below HR0_1.out HB.out) | (with_reducible refine Kd.C_alloc ?_ _) | (with_reducible refine Kd.C_drewN ?_ _) | (with_reducible refine Kd.C_drew ?_))); (case side2 => exact HC0_1.out); (case side3 => repeat (first | exact (Kd.C_below HR0_2.out HB.out) | (with_reducible refine Kd.C_alloc ?_ _) | (with_reducible refine Kd.C_drewN ?_ _) | (with_reducible refine Kd.C_drew ?_))); (case side4 => exact HC0_2.out); (case side5 => repeat (first | exact (Kd.C_below HR0_4.out HB.out) | (with_reducible refine Kd.C_alloc ?_ _) | (with_reducible refine Kd.C_drewN ?_ _) | (with_reducible refine Kd.C_drew ?_))); (case side6 => exact HC0_4.out); rintro e w7 ⟨rfl, hb⟩; refine ⟨_, rfl, ?_⟩; replace BK692 := am (blk_below (by exact blkL BK692.out) hb); replace HB := am (below_step (by repeat (with_reducible first | exact HB.out | refine belS ?_ | refine below_set ?_ GE692.out)) hb); (try clear hb); (try clear hb2); (try clear hk); (try clear hi); obtain ⟨z8_0, z8_1, z8_2, z8_3, z8_4, z8_5, z8_6, z8_7, z8_8, z8_9, y8_0, y8_1, y8_2, y8_3, y8_4, y8_5, y8_6, y8_7, y8_8, y8_9⟩ := box10 BK692.out) | ((with_reducible refine gate_callee (f := 49) rfl ?_); refine goesL_ (some 10) rfl rfl Try.func49 (by kernel_rfl) rfl #[.agg #[.int .u8 a0_0, .slice A0_1 l0_1.length c0_1, .slice A0_2 l0_2.length c0_2, .bool a0_3, .slice A0_4 l0_4.length c0_4, .int .u8 a0_5, .int .i64 a0_6, .int .i64 a0_7, .bool a0_8, .int .u8 a0_9]] rfl (by (try simp only [List.map_toArray, List.map_cons, List.map_nil]) <;> rfl) ?_; (with_reducible refine (tailwaterref10_Right.calls k a0_0 _ _ l0_1 _ _ l0_2 a0_3 _ _ l0_4 a0_5 a0_6 a0_7 a0_8 a0_9 t694 t695 _ ?side1 ?side2 ?side3 ?side4 ?side5 ?side6 A4.out).mono ?_); (case side1 => repeat (first | exact (Kd.C_below HR0_1.out HB.out) | (with_reducible refine Kd.C_alloc ?_ _) | (with_reducible refine Kd.C_drewN ?_ _) | (with_reducible refine Kd.C_drew ?_))); (case side2 => exact HC0_1.out); (case side3 => repeat (first | exact (Kd.C_below HR0_2.out HB.out) | (with_reducible refine Kd.C_alloc ?_ _) | (with_reducible refine Kd.C_drewN ?_ _) | (with_reducible refine Kd.C_drew ?_))); (case side4 => exact HC0_2.out); (case side5 => repeat (first | exact (Kd.C_below HR0_4.out HB.out) | (with_reducible refine Kd.C_alloc ?_ _) | (with_reducible refine Kd.C_drewN ?_ _) | (with_reducible refine Kd.C_drew ?_))); (case side6 => exact HC0_4.out); rintro e w9 ⟨rfl, hb⟩; refine ⟨_, rfl, ?_⟩; replace HB := am (below_step (by exact belL HB.out) hb); (try clear hb); (try clear hb2); (try clear hk); (try clear hi)))
  go_ret2
  exact ⟨by first | rfl | (simp [errW_none, errW_some] <;> rfl) | (simp [*, errW_none, errW_some] <;> rfl), by repeat (with_reducible first | exact HB.out | refine belS ?_)⟩
 ·rw [if_neg c3] at H
  have c3b0 : (t693 == 0) = false := beq_eq_false_iff_ne.mpr c3
  have c3b1 : (t693 != 0) = true := bne_iff_ne.mpr c3
  replace H := Option.bind_eq_some_iff.mp H
  obtain ⟨t696, A100, H⟩ := H
  try dsimp only at H
  have A10 := am A100
  clear A100
  simp only [Option.some.injEq, Prod.mk.injEq] at H
  obtain ⟨rfl, rfl⟩ := H
  go_enter Try.func32, Try.ntmps32
  go_wp2_with (first | ((with_reducible refine gate_dst (N := 1) rfl ?_); refine box_event ?hg (N := 1) ?hd (cs := #[.int .u8 a0_0, .slice A0_1 l0_1.length c0_1, .slice A0_2 l0_2.length c0_2, .bool a0_3, .slice A0_4 l0_4.length c0_4, .int .u8 a0_5, .int .i64 a0_6, .int .i64 a0_7, .bool a0_8, .int .u8 a0_9]) (t := 41) ?hr ?_; (case hd => rfl); (case hg => rfl); (case hr => first | (go_simp; done) | (go_simp; rfl)); intro gb692 hg w11 hbox hb; have BK692 := am (hbox); have GW692 := am ((by rw [hg]; exact (below_size (by exact belL HB.out)) : w.heap.size ≤ gb692)); have GE692 := am ((by rw [hg]; exact (below_size (by exact belL HB.out)) : w.heap.size ≤ gb692)); replace HB := am (below_step (by exact belL HB.out) hb); clear hb hbox hg; obtain ⟨z12_0, z12_1, z12_2, z12_3, z12_4, z12_5, z12_6, z12_7, z12_8, z12_9, y12_0, y12_1, y12_2, y12_3, y12_4, y12_5, y12_6, y12_7, y12_8, y12_9⟩ := box10 BK692.out) | ((with_reducible refine gate_callee (f := 48) rfl ?_); refine goesL_ (some 5) rfl rfl Try.func48 (by kernel_rfl) rfl #[.agg #[.int .u8 a0_0, .slice A0_1 l0_1.length c0_1, .slice A0_2 l0_2.length c0_2, .bool a0_3, .slice A0_4 l0_4.length c0_4, .int .u8 a0_5, .int .i64 a0_6, .int .i64 a0_7, .bool a0_8, .int .u8 a0_9]] rfl (by (try simp only [List.map_toArray, List.map_cons, List.map_nil]) <;> rfl) ?_; (with_reducible refine (tailwaterref08_Check.calls k a0_0 _ _ l0_1 _ _ l0_2 a0_3 _ _ l0_4 a0_5 a0_6 a0_7 a0_8 a0_9 t693 _ ?side1 ?side2 ?side3 ?side4 ?side5 ?side6 A2.out).mono ?_); (case side1 => repeat (first | exact (Kd.C_below HR0_1.out HB.out) | (with_reducible refine Kd.C_alloc ?_ _) | (with_reducible refine Kd.C_drewN ?_ _) | (with_reducible refine Kd.C_drew ?_))); (case side2 => exact HC0_1.out); (case side3 => repeat (first | exact (Kd.C_below HR0_2.out HB.out) | (with_reducible refine Kd.C_alloc ?_ _) | (with_reducible refine Kd.C_drewN ?_ _) | (with_reducible refine Kd.C_drew ?_))); (case side4 => exact HC0_2.out); (case side5 => repeat (first | exact (Kd.C_below HR0_4.out HB.out) | (with_reducible refine Kd.C_alloc ?_ _) | (with_reducible refine Kd.C_drewN ?_ _) | (with_reducible refine Kd.C_drew ?_))); (case side6 => exact HC0_4.out); rintro e w13 ⟨rfl, hb⟩; refine ⟨_, rfl, ?_⟩; replace BK692 := am (blk_below (by exact blkL BK692.out) hb); replace HB := am (below_step (by repeat (with_reducible first | exact HB.out | refine belS ?_ | refine below_set ?_ GE692.out)) hb); (try clear hb); (try clear hb2); (try clear hk); (try clear hi); obtain ⟨z14_0, z14_1, z14_2, z14_3, z14_4, z14_5, z14_6, z14_7, z14_8, z14_9, y14_0, y14_1, y14_2, y14_3, y14_4, y14_5, y14_6, y14_7, y14_8, y14_9⟩ := box10 BK692.out) | ((with_reducible refine gate_callee (f := 48) rfl ?_); refine goesL_ (some 8) rfl rfl Try.func48 (by kernel_rfl) rfl #[.agg #[.int .u8 a0_0, .slice A0_1 l0_1.length c0_1, .slice A0_2 l0_2.length c0_2, .bool a0_3, .slice A0_4 l0_4.length c0_4, .int .u8 a0_5, .int .i64 a0_6, .int .i64 a0_7, .bool a0_8, .int .u8 a0_9]] rfl (by (try simp only [List.map_toArray, List.map_cons, List.map_nil]) <;> rfl) ?_; (with_reducible refine (tailwaterref08_Check.calls k a0_0 _ _ l0_1 _ _ l0_2 a0_3 _ _ l0_4 a0_5 a0_6 a0_7 a0_8 a0_9 t696 _ ?side1 ?side2 ?side3 ?side4 ?side5 ?side6 A10.out).mono ?_); (case side1 => repeat (first | exact (Kd.C_below HR0_1.out HB.out) | (with_reducible refine Kd.C_alloc ?_ _) | (with_reducible refine Kd.C_drewN ?_ _) | (with_reducible refine Kd.C_drew ?_))); (case side2 => exact HC0_1.out); (case side3 => repeat (first | exact (Kd.C_below HR0_2.out HB.out) | (with_reducible refine Kd.C_alloc ?_ _) | (with_reducible refine Kd.C_drewN ?_ _) | (with_reducible refine Kd.C_drew ?_))); (case side4 => exact HC0_2.out); (case side5 => repeat (first | exact (Kd.C_below HR0_4.out HB.out) | (with_reducible refine Kd.C_alloc ?_ _) | (with_reducible refine Kd.C_drewN ?_ _) | (with_reducible refine Kd.C_drew ?_))); (case side6 => exact HC0_4.out); rintro e w15 ⟨rfl, hb⟩; refine ⟨_, rfl, ?_⟩; replace HB := am (below_step (by exact belL HB.out) hb); (try clear hb); (try clear hb2); (try clear hk); (try clear hi)))
  go_ret2
  exact ⟨by first | rfl | (simp [errW_none, errW_some] <;> rfl) | (simp [*, errW_none, errW_some] <;> rfl), by repeat (with_reducible first | exact HB.out | refine belS ?_)⟩

def tailwaterref29_Accepted.f (k : Nat) (a0_0 : Int) (l0_1 : List (S61)) (l0_2 : List Int) (a0_3 : Bool) (l0_4 : List (S61)) (a0_5 : Int) (a0_6 : Int) (a0_7 : Int) (a0_8 : Bool) (a0_9 : Int) : Option (Bool) := (tailwaterref10_Check.f k a0_0 l0_1 l0_2 a0_3 l0_4 a0_5 a0_6 a0_7 a0_8 a0_9).bind fun bt698 => (some (bt698.2 == 0))
set_option maxHeartbeats 8000000 in
set_option maxRecDepth 100000 in
theorem tailwaterref29_Accepted.calls (k : Nat) (a0_0 : Int) (A0_1 : Option Addr) (c0_1 : Nat) (l0_1 : List (S61)) (A0_2 : Option Addr) (c0_2 : Nat) (l0_2 : List Int) (a0_3 : Bool) (A0_4 : Option Addr) (c0_4 : Nat) (l0_4 : List (S61)) (a0_5 : Int) (a0_6 : Int) (a0_7 : Int) (a0_8 : Bool) (a0_9 : Int) (r : Bool) (w : World) (hr0_1 : Kd.C k61 w A0_1 l0_1.length l0_1) (hc0_1 : l0_1.length ≤ c0_1) (hr0_2 : Kd.C (Kd.int .i64) w A0_2 l0_2.length l0_2) (hc0_2 : l0_2.length ≤ c0_2) (hr0_4 : Kd.C k61 w A0_4 l0_4.length l0_4) (hc0_4 : l0_4.length ≤ c0_4) (h : tailwaterref29_Accepted.f k a0_0 l0_1 l0_2 a0_3 l0_4 a0_5 a0_6 a0_7 a0_8 a0_9 = some r) :
  Calls Try.prog 20 #[.agg #[.int .u8 a0_0, .slice A0_1 l0_1.length c0_1, .slice A0_2 l0_2.length c0_2, .bool a0_3, .slice A0_4 l0_4.length c0_4, .int .u8 a0_5, .int .i64 a0_6, .int .i64 a0_7, .bool a0_8, .int .u8 a0_9]] w fun e w' => e = .returned (.bool r) ∧ Below w.heap.size w w' := by
 have hu41 := Try.underlying41
 have HR0_1 := am hr0_1
 have HC0_1 := am hc0_1
 clear hr0_1 hc0_1
 have HR0_2 := am hr0_2
 have HC0_2 := am hc0_2
 clear hr0_2 hc0_2
 have HR0_4 := am hr0_4
 have HC0_4 := am hc0_4
 clear hr0_4 hc0_4
 have HB := am (Below.refl w.heap.size w)
 have H : ((tailwaterref10_Check.f k a0_0 l0_1 l0_2 a0_3 l0_4 a0_5 a0_6 a0_7 a0_8 a0_9).bind fun bt698 => (some (bt698.2 == 0))) = some r := h
 clear h
 replace H := Option.bind_eq_some_iff.mp H
 obtain ⟨⟨t698, t699⟩, A20, H⟩ := H
 try dsimp only at H
 have A2 := am A20
 clear A20
 obtain rfl := Option.some.inj H
 go_enter Try.func20, Try.ntmps20
 go_wp2_with (first | ((with_reducible refine gate_dst (N := 1) rfl ?_); refine box_event ?hg (N := 1) ?hd (cs := #[.int .u8 a0_0, .slice A0_1 l0_1.length c0_1, .slice A0_2 l0_2.length c0_2, .bool a0_3, .slice A0_4 l0_4.length c0_4, .int .u8 a0_5, .int .i64 a0_6, .int .i64 a0_7, .bool a0_8, .int .u8 a0_9]) (t := 41) ?hr ?_; (case hd => rfl); (case hg => rfl); (case hr => first | (go_simp; done) | (go_simp; rfl)); intro gb697 hg w3 hbox hb; have BK697 := am (hbox); have GW697 := am ((by rw [hg]; exact (below_size (by exact belL HB.out)) : w.heap.size ≤ gb697)); have GE697 := am ((by rw [hg]; exact (below_size (by exact belL HB.out)) : w.heap.size ≤ gb697)); replace HB := am (below_step (by exact belL HB.out) hb); clear hb hbox hg; obtain ⟨z4_0, z4_1, z4_2, z4_3, z4_4, z4_5, z4_6, z4_7, z4_8, z4_9, y4_0, y4_1, y4_2, y4_3, y4_4, y4_5, y4_6, y4_7, y4_8, y4_9⟩ := box10 BK697.out) | ((with_reducible refine gate_callee (f := 32) rfl ?_); refine goesL_ (some 7) rfl rfl Try.func32 (by kernel_rfl) rfl #[.agg #[.int .u8 a0_0, .slice A0_1 l0_1.length c0_1, .slice A0_2 l0_2.length c0_2, .bool a0_3, .slice A0_4 l0_4.length c0_4, .int .u8 a0_5, .int .i64 a0_6, .int .i64 a0_7, .bool a0_8, .int .u8 a0_9]] rfl (by (try simp only [List.map_toArray, List.map_cons, List.map_nil]) <;> rfl) ?_; (with_reducible refine (tailwaterref10_Check.calls k a0_0 _ _ l0_1 _ _ l0_2 a0_3 _ _ l0_4 a0_5 a0_6 a0_7 a0_8 a0_9 t698 t699 _ ?side1 ?side2 ?side3 ?side4 ?side5 ?side6 A2.out).mono ?_); (case side1 => repeat (first | exact (Kd.C_below HR0_1.out HB.out) | (with_reducible refine Kd.C_alloc ?_ _) | (with_reducible refine Kd.C_drewN ?_ _) | (with_reducible refine Kd.C_drew ?_))); (case side2 => exact HC0_1.out); (case side3 => repeat (first | exact (Kd.C_below HR0_2.out HB.out) | (with_reducible refine Kd.C_alloc ?_ _) | (with_reducible refine Kd.C_drewN ?_ _) | (with_reducible refine Kd.C_drew ?_))); (case side4 => exact HC0_2.out); (case side5 => repeat (first | exact (Kd.C_below HR0_4.out HB.out) | (with_reducible refine Kd.C_alloc ?_ _) | (with_reducible refine Kd.C_drewN ?_ _) | (with_reducible refine Kd.C_drew ?_))); (case side6 => exact HC0_4.out); rintro e w5 ⟨rfl, hb⟩; refine ⟨_, rfl, ?_⟩; replace HB := am (below_step (by exact belL HB.out) hb); (try clear hb); (try clear hb2); (try clear hk); (try clear hi)))
 go_ret
 exact ⟨by first | rfl | (simp [errW_none, errW_some] <;> rfl) | (simp [*, errW_none, errW_some] <;> rfl), by repeat (with_reducible first | exact HB.out | refine belS ?_)⟩

end Go.Proofs.Ytcdgohoinmbpfaa.M
namespace Go.Proofs.Ytcdgohoinmbpfaa.M
open Go.RowKit Go.Proofs.YtcdgohoinmbpfaaW.PrintWords Go.Proofs.YtcdgohoinmbpfaaW.PrintLast Go.Proofs.YtcdgohoinmbpfaaW.PrintMore
set_option linter.unusedVariables false
set_option linter.unusedSimpArgs false

theorem w64 {x : Int} (h : -9223372036854775808 ≤ x) (h' : x < 9223372036854775808) : wrap64 x = x := by unfold wrap64; omega
inductive Chain : List Tp → List Tp → Prop
  | nil : Chain [] []
  | snoc {all stk blk : List Tp} {t : Tp} : Chain all stk → t.f1 = (blk.length : Int) + 1 → Chain (all ++ (blk ++ [t])) (stk ++ [t])
def Small (all : List Tp) : Prop := ∀ j, j < all.length → (all.getD j z165).f0 = j ∧ 1 ≤ (all.getD j z165).f1 ∧ (all.getD j z165).f1 ≤ j + 1 ∧ 1 ≤ (all.getD j z165).f2 ∧ (all.getD j z165).f2 ≤ j + 1
theorem Chain.len {all stk : List Tp} (h : Chain all stk) : all = [] ↔ stk = [] := by
  cases h <;> simp
theorem rd_map1 (all : List Tp) (j : Nat) (h : j < all.length) : rd (all.map (·.f1)) j = (all.getD j z165).f1 := by
  simp [rd, h]
theorem rd_map2 (all : List Tp) (j : Nat) (h : j < all.length) : rd (all.map (·.f2)) j = (all.getD j z165).f2 := by
  simp [rd, h]
theorem Small.snoc {all : List Tp} (h : Small all) {t : Tp} (h0 : t.f0 = all.length) (h1 : 1 ≤ t.f1) (h2 : t.f1 ≤ all.length + 1) (h3 : 1 ≤ t.f2) (h4 : t.f2 ≤ all.length + 1) : Small (all ++ [t]) := by
  intro j hj
  rw [List.length_append, List.length_singleton] at hj
  rcases Nat.lt_or_ge j all.length with hl | hl
  · have := h j hl
    have e : (all ++ [t]).getD j z165 = all.getD j z165 := by simp [List.getD_eq_getElem?_getD, List.getElem?_append_left hl]
    rw [e]
    exact this
  · obtain rfl : j = all.length := by omega
    have e : (all ++ [t]).getD all.length z165 = t := by simp [List.getD_eq_getElem?_getD]
    rw [e]
    exact ⟨h0, h1, h2, h3, h4⟩
theorem right_eq (x : Nd) (a b : Int) : tailwaterref04_right.f x.f0 x.f1 x.f2 x.f3 x.f4 a b = some (decide (1 ≤ x.f0 ∧ x.f0 ≤ 19) && !offB x a b) := by
  unfold tailwaterref04_right.f offB
  have e4 : (mn (mx x.f4 0) 400 == x.f4) = decide (0 ≤ x.f4 ∧ x.f4 ≤ 400) := by
    rw [Bool.eq_iff_iff]; unfold mn mx; simp; split <;> split <;> omega
  have e1 : ((if x.f0 = 1 then mx x.f1 0 else 0) == x.f1) = decide (0 ≤ x.f1 ∧ (x.f1 = 0 ∨ x.f0 = 1)) := by
    rw [Bool.eq_iff_iff, beq_iff_eq, decide_eq_true_iff]
    unfold mx
    constructor
    · intro h; split at h <;> (try split at h) <;> omega
    · intro h; split <;> (try split) <;> omega
  have e2 : (a == x.f2) = decide (x.f2 = a) := by rw [Bool.eq_iff_iff, beq_iff_eq, decide_eq_true_iff]; exact eq_comm
  have e3 : (b == x.f3) = (x.f3 == b) := by rw [Bool.eq_iff_iff, beq_iff_eq, beq_iff_eq]; exact eq_comm
  rw [e4, e1, e2, e3]
  by_cases h1 : x.f0 ≥ 1
  · by_cases h2 : x.f0 ≤ 19
    · by_cases h3 : x.f1 ≥ 0
      · by_cases h5 : x.f4 ≥ 0
        · by_cases h6 : x.f4 ≤ 400
          · by_cases h7 : x.f2 = a
            · by_cases h4 : x.f1 = 0
              · simp only [h1, h2, h3, h4, h5, h6, h7, if_true, true_and, and_self, decide_true, true_or, Bool.not_true, Bool.false_or, Bool.true_and, Bool.not_not]
                simp
              · by_cases h8 : x.f0 = 1
                · rw [if_pos h1, if_pos h2, if_pos h3, if_neg h4, if_pos h8, if_pos h5, if_pos h6, if_pos h7, decide_eq_true (show 1 ≤ x.f0 ∧ x.f0 ≤ 19 from ⟨h1, h2⟩), decide_eq_true (show 0 ≤ x.f1 ∧ (x.f1 = 0 ∨ x.f0 = 1) from ⟨h3, .inr h8⟩), decide_eq_true (show 0 ≤ x.f4 ∧ x.f4 ≤ 400 from ⟨h5, h6⟩), decide_eq_true h7]
                  simp
                · rw [if_pos h1, if_pos h2, if_pos h3, if_neg h4, if_neg h8, decide_eq_false (show ¬ (0 ≤ x.f1 ∧ (x.f1 = 0 ∨ x.f0 = 1)) by omega)]
                  simp
            · rw [decide_eq_false h7, if_pos h1, if_pos h2, if_pos h3, if_pos h5, if_pos h6, if_neg h7]
              simp
          · rw [decide_eq_false (show ¬ (0 ≤ x.f4 ∧ x.f4 ≤ 400) by omega), if_pos h1, if_pos h2, if_pos h3, if_pos h5, if_neg h6]
            simp
        · rw [decide_eq_false (show ¬ (0 ≤ x.f4 ∧ x.f4 ≤ 400) by omega), if_pos h1, if_pos h2, if_pos h3, if_neg h5]
          simp
      · rw [decide_eq_false (show ¬ (0 ≤ x.f1 ∧ (x.f1 = 0 ∨ x.f0 = 1)) by omega), if_pos h1, if_pos h2, if_neg h3]
        simp
    · rw [decide_eq_false (show ¬ (1 ≤ x.f0 ∧ x.f0 ≤ 19) by omega), if_pos h1, if_neg h2]; rfl
  · rw [decide_eq_false (show ¬ (1 ≤ x.f0 ∧ x.f0 ≤ 19) by omega), if_neg h1]; rfl

theorem Count_eq (k : Int) : tailwaterref04_Count.f k = some (if k ≤ 4 then 0 else if k ≤ 6 then 1 else 2) := by
  unfold tailwaterref04_Count.f
  by_cases h1 : k ≤ 4 <;> by_cases h2 : k ≤ 6 <;> simp [h1, h2]
theorem rd_T_nat (l : List Nd) (i : Nat) (x : Nd) (h : l[i]? = some x) : rd_T61 l (i : Int) = x := by
  unfold rd_T61
  rw [Int.toNat_natCast, List.getD_eq_getElem?_getD, h]; rfl
theorem getD_app1 (a b : List Tp) (t : Tp) : (a ++ (b ++ [t])).getD (a.length + b.length) z165 = t := by
  simp [List.getD_eq_getElem?_getD, List.getElem?_append]
theorem getD_app0 (a b : List Tp) (j : Nat) (h : j < a.length) : (a ++ b).getD j z165 = a.getD j z165 := by
  simp [List.getD_eq_getElem?_getD, List.getElem?_append_left h]
theorem mx1 {a : Int} (h : 1 ≤ a) : mx 1 a = a := by unfold mx; split <;> omega

def rb (x : Nd) (a b : Int) : Bool := decide (1 ≤ x.f0 ∧ x.f0 ≤ 19) && !offB x a b
section
variable {l : List Nd} {x : Nd} {a5 a6 : List Int} {i : Nat} (k : Nat) (hx : l[i]? = some x) (hl : l.length ≤ 60) (h5 : a5.length = i) (h6 : a6.length = i)
include hx hl h5 h6
theorem l0_leaf (hc : x.f0 ≤ 4) : tailwaterref04_Sizes.l0 (k + 1) l a5 a6 i = if rb x 0 0 = true then tailwaterref04_Sizes.l0 k l (a5 ++ [1]) (a6 ++ [1]) (i + 1 : Nat) else some ([], [], false) := by
  have hi : i < l.length := (List.getElem?_eq_some_iff.1 hx).1
  have hw1 : wrap64 ((i : Int) + 1) = ((i + 1 : Nat) : Int) := by rw [w64 (by omega) (by omega)]; omega
  have hlim : i < 17592186044416 := by omega
  have hcv : (if x.f0 ≤ 4 then (0 : Int) else if x.f0 ≤ 6 then 1 else 2) = 0 := if_pos hc
  rw [tailwaterref04_Sizes.l0, if_pos (by omega), if_pos (by omega), rd_T_nat l _ x hx, Count_eq, hcv, Option.bind_some, if_neg (by decide), right_eq, Option.bind_some, h5, h6, if_pos hlim, if_pos hlim, hw1]
  rfl
theorem l0_one (hc : 4 < x.f0) (hc' : x.f0 ≤ 6) : tailwaterref04_Sizes.l0 (k + 1) l a5 a6 i = if i = 0 then some ([], [], false) else if rb x (i - 1 : Nat) 0 = true then tailwaterref04_Sizes.l0 k l (a5 ++ [wrap64 (1 + rd a5 (i - 1 : Nat))]) (a6 ++ [wrap64 (1 + rd a6 (i - 1 : Nat))]) (i + 1 : Nat) else some ([], [], false) := by
  have hi : i < l.length := (List.getElem?_eq_some_iff.1 hx).1
  have hw1 : wrap64 ((i : Int) + 1) = ((i + 1 : Nat) : Int) := by rw [w64 (by omega) (by omega)]; omega
  have hlim : i < 17592186044416 := by omega
  have hcv : (if x.f0 ≤ 4 then (0 : Int) else if x.f0 ≤ 6 then 1 else 2) = 1 := by rw [if_neg (by omega), if_pos hc']
  have hw2 : wrap64 ((i : Int) - 1) = (i : Int) - 1 := w64 (by omega) (by omega)
  rw [tailwaterref04_Sizes.l0, if_pos (by omega), if_pos (by omega), rd_T_nat l _ x hx, Count_eq, hcv, Option.bind_some, if_pos (by decide), hw2]
  by_cases h0 : i = 0
  · rw [if_pos (by omega), if_pos h0]
  · have e : (i : Int) - 1 = ((i - 1 : Nat) : Int) := by omega
    rw [if_neg (by omega), if_neg h0, e, if_pos (by omega), h5, h6, if_pos (by omega), if_pos (by omega), if_neg (by decide), right_eq, Option.bind_some, if_pos hlim, if_pos hlim, hw1]
    rfl
theorem l0_two (hc : 6 < x.f0) (hr : ∀ j, j < i → 1 ≤ rd a5 (j : Nat) ∧ rd a5 (j : Nat) ≤ j + 1) : tailwaterref04_Sizes.l0 (k + 1) l a5 a6 i = if i = 0 then some ([], [], false) else if (i - 1 : Nat) < rd a5 (i - 1 : Nat) then some ([], [], false) else
      if rb x ((i - 1 : Nat) - rd a5 (i - 1 : Nat)) (i - 1 : Nat) = true then tailwaterref04_Sizes.l0 k l (a5 ++ [wrap64 (wrap64 (1 + rd a5 (i - 1 : Nat)) + rd a5 ((i - 1 : Nat) - rd a5 (i - 1 : Nat)))]) (a6 ++ [mx (wrap64 (1 + rd a6 (i - 1 : Nat))) (wrap64 (1 + rd a6 ((i - 1 : Nat) - rd a5 (i - 1 : Nat))))]) (i + 1 : Nat) else some ([], [], false) := by
  have hi : i < l.length := (List.getElem?_eq_some_iff.1 hx).1
  have hw1 : wrap64 ((i : Int) + 1) = ((i + 1 : Nat) : Int) := by rw [w64 (by omega) (by omega)]; omega
  have hlim : i < 17592186044416 := by omega
  have hcv : (if x.f0 ≤ 4 then (0 : Int) else if x.f0 ≤ 6 then 1 else 2) = 2 := by rw [if_neg (by omega), if_neg (by omega)]
  have hw2 : wrap64 ((i : Int) - 1) = (i : Int) - 1 := w64 (by omega) (by omega)
  rw [tailwaterref04_Sizes.l0, if_pos (by omega), if_pos (by omega), rd_T_nat l _ x hx, Count_eq, hcv, Option.bind_some, if_pos (by decide), hw2]
  by_cases h0 : i = 0
  · rw [if_pos (by omega), if_pos h0]
  · have e : (i : Int) - 1 = ((i - 1 : Nat) : Int) := by omega
    rw [if_neg (by omega), if_neg h0, e, if_pos (by omega), h5, h6, if_pos (by omega), if_pos (by omega), if_pos rfl]
    have hb := hr (i - 1) (by omega)
    have hw3 : wrap64 (((i - 1 : Nat) : Int) - rd a5 (i - 1 : Nat)) = ((i - 1 : Nat) : Int) - rd a5 (i - 1 : Nat) := w64 (by omega) (by omega)
    rw [hw3]
    by_cases h1 : ((i - 1 : Nat) : Int) < rd a5 (i - 1 : Nat)
    · rw [if_pos (by omega), if_pos h1]
    · rw [if_neg (by omega), if_neg h1, if_pos (by omega), if_pos (by omega), if_pos (by omega), right_eq, Option.bind_some, if_pos hlim, if_pos hlim, hw1]
      rfl
end
theorem Chain.last {all stk : List Tp} (h : Chain all stk) (hs : 0 < all.length) : ∃ stk' t, stk = stk' ++ [t] ∧ all.getD (all.length - 1) z165 = t ∧ ((all.length : Int) ≤ t.f1 ↔ stk' = []) ∧
    (∀ p, ∀ stk'', stk' = stk'' ++ [p] → 0 ≤ (all.length : Int) - 1 - t.f1 ∧ all.getD ((all.length : Int) - 1 - t.f1).toNat z165 = p) ∧
    (∃ blk, all = (all.take (all.length - blk.length)) ++ blk ∧ Chain (all.take (all.length - blk.length)) stk' ∧ (blk.length : Int) = t.f1) := by
  cases h with
  | nil => simp at hs
  | @snoc all stk blk t h1 h2 =>
    refine ⟨stk, t, rfl, ?_, ?_, ?_, ?_⟩
    · have : (all ++ (blk ++ [t])).length - 1 = all.length + blk.length := by simp
      rw [this, getD_app1]
    · constructor
      · intro h
        refine h1.len.1 ?_
        rw [h2] at h
        simp at h
        cases all with
        | nil => rfl
        | cons a b => simp at h; omega
      · intro h
        have := h1.len.2 h
        subst this
        rw [h2]; simp
    · intro p stk'' hp
      rw [h2]
      have hlen : ((all ++ (blk ++ [t])).length : Int) - 1 - ((blk.length : Int) + 1) = (all.length : Int) - 1 := by simp; omega
      rw [hlen]
      cases h1 with
      | nil => simp at hp
      | @snoc all2 stk2 blk2 t2 h3 h4 =>
        obtain ⟨rfl, h5⟩ := List.append_inj' hp rfl
        have h6 : t2 = p := by simpa using h5
        subst h6
        refine ⟨by simp; omega, ?_⟩
        have e : (((all2 ++ (blk2 ++ [t2])).length : Int) - 1).toNat = all2.length + blk2.length := by simp; omega
        rw [e, getD_app0 _ _ _ (by simp), getD_app1]
    · refine ⟨blk ++ [t], ?_, ?_, ?_⟩
      · have e : (all ++ (blk ++ [t])).length - (blk ++ [t]).length = all.length := by simp
        rw [e, List.take_left]
      · have e : (all ++ (blk ++ [t])).length - (blk ++ [t]).length = all.length := by simp
        rw [e, List.take_left]; exact h1
      · rw [h2]; simp

theorem sizes_step {l : List Nd} {all stk : List Tp} {x : Nd} (k : Nat) (hx : l[all.length]? = some x) (hl : l.length ≤ 60) (hc : Chain all stk) (hs : Small all) :
    match tstep all.length x stk with
    | none => tailwaterref04_Sizes.l0 (k + 1) l (all.map (·.f1)) (all.map (·.f2)) all.length = some ([], [], false)
    | some (stk', t) => tailwaterref04_Sizes.l0 (k + 1) l (all.map (·.f1)) (all.map (·.f2)) all.length = tailwaterref04_Sizes.l0 k l ((all ++ [t]).map (·.f1)) ((all ++ [t]).map (·.f2)) (all.length + 1 : Nat) ∧ Chain (all ++ [t]) stk' ∧ Small (all ++ [t]) := by
  have hi : all.length < l.length := (List.getElem?_eq_some_iff.1 hx).1
  have hm1 : (all.map (·.f1)).length = all.length := List.length_map _
  have hm2 : (all.map (·.f2)).length = all.length := List.length_map _
  have hr : ∀ j, j < all.length → 1 ≤ rd (all.map (·.f1)) (j : Nat) ∧ rd (all.map (·.f1)) (j : Nat) ≤ j + 1 := fun j hj => by
    rw [rd_map1 all j hj]; have := hs j hj; omega
  by_cases h4 : x.f0 ≤ 4
  · rw [l0_leaf k hx hl hm1 hm2 h4]
    by_cases h1 : 1 ≤ x.f0
    · have hn : np x.f0 = some 0 := by unfold np; rw [if_pos ⟨h1, h4⟩]
      have hd : decide (1 ≤ x.f0 ∧ x.f0 ≤ 19) = true := by simp; omega
      simp only [tstep, hn, Nat.sub_zero, List.drop_length, List.take_length, Nat.not_lt_zero, if_false]
      have eA : tA [] = 0 := rfl
      have eB : tB [] = 0 := rfl
      have eS : tS [] = 1 := rfl
      have eD : tD [] = 1 := rfl
      rw [eA, eB, eS, eD]
      unfold rb
      rw [hd]
      cases ho : offB x 0 0 with
      | true => simp
      | false =>
        simp only [Bool.not_false, Bool.and_true, if_true, Bool.false_eq_true, if_false]
        refine ⟨by simp, ?_, hs.snoc rfl (by simp) (by simp; omega) (by simp) (by simp; omega)⟩
        have := Chain.snoc (blk := []) (t := (⟨(all.length : Int), 1, 1⟩ : Tp)) hc rfl
        simpa using this
    · have hn : np x.f0 = none := by unfold np; rw [if_neg (by omega), if_neg (by omega), if_neg (by omega)]
      have hd : decide (1 ≤ x.f0 ∧ x.f0 ≤ 19) = false := by simp; omega
      simp only [tstep, hn]
      unfold rb
      rw [hd]; simp
  · by_cases h6 : x.f0 ≤ 6
    · rw [l0_one k hx hl hm1 hm2 (by omega) h6]
      have hn : np x.f0 = some 1 := by unfold np; rw [if_neg (by omega), if_pos (by omega)]
      have hd : decide (1 ≤ x.f0 ∧ x.f0 ≤ 19) = true := by simp; omega
      simp only [tstep, hn]
      by_cases h0 : all.length = 0
      · have hk : stk = [] := hc.len.1 (List.eq_nil_of_length_eq_zero h0)
        subst hk
        rw [if_pos h0]
        simp
      · obtain ⟨stk', t, rfl, ht, _, _, blk, hb1, hb2, hb3⟩ := hc.last (by omega)
        have hl1 : (stk' ++ [t]).length - 1 = stk'.length := by simp
        have hs1 := hs (all.length - 1) (by omega)
        rw [ht] at hs1
        rw [if_neg h0, hl1, if_neg (by simp), List.drop_left, List.take_left, rd_map1 all _ (by omega), rd_map2 all _ (by omega), ht]
        have eA : tA [t] = ((all.length - 1 : Nat) : Int) := hs1.1
        have eB : tB [t] = 0 := rfl
        have eS : tS [t] = 1 + t.f1 := by show wrap64 (1 + t.f1) = _; exact w64 (by omega) (by omega)
        have eD : tD [t] = 1 + t.f2 := by show mx 1 (wrap64 (t.f2 + 1)) = _; rw [w64 (by omega) (by omega), mx1 (by omega)]; omega
        rw [eA, eB, eS, eD, w64 (x := 1 + t.f1) (by omega) (by omega), w64 (x := 1 + t.f2) (by omega) (by omega)]
        unfold rb
        rw [hd]
        cases ho : offB x ((all.length - 1 : Nat) : Int) 0 with
        | true => simp
        | false =>
          simp only [Bool.not_false, Bool.and_true, if_true, Bool.false_eq_true, if_false]
          refine ⟨by simp, ?_, hs.snoc rfl (by simp; omega) (by simp; omega) (by simp; omega) (by simp; omega)⟩
          have h7 := Chain.snoc (blk := blk) (t := (⟨(all.length : Int), 1 + t.f1, 1 + t.f2⟩ : Tp)) hb2 (by simp; omega)
          rw [← List.append_assoc, ← hb1] at h7
          exact h7
    · rw [l0_two k hx hl hm1 hm2 (by omega) hr]
      by_cases h19 : x.f0 ≤ 19
      · have hn : np x.f0 = some 2 := by unfold np; rw [if_neg (by omega), if_neg (by omega), if_pos (by omega)]
        have hd : decide (1 ≤ x.f0 ∧ x.f0 ≤ 19) = true := by simp; omega
        simp only [tstep, hn]
        by_cases h0 : all.length = 0
        · have hk : stk = [] := hc.len.1 (List.eq_nil_of_length_eq_zero h0)
          subst hk
          rw [if_pos h0]
          simp
        · obtain ⟨stk', t, rfl, ht, hf, hq, blk, hb1, hb2, hb3⟩ := hc.last (by omega)
          have hs1 := hs (all.length - 1) (by omega)
          rw [ht] at hs1
          rw [if_neg h0, rd_map1 all _ (by omega), ht]
          by_cases hlt : ((all.length - 1 : Nat) : Int) < t.f1
          · have hk : stk' = [] := hf.1 (by omega)
            subst hk
            rw [if_pos hlt]
            simp
          · have hne : stk' ≠ [] := fun h => by have := hf.2 h; omega
            have hdl : (all.take (all.length - blk.length)).length = all.length - blk.length := by rw [List.length_take]; omega
            obtain ⟨stk'', p, rfl, hp, _, _, blk2, hc1, hc2, hc3⟩ := hb2.last (by rw [hdl]; omega)
            obtain ⟨hq0, hq1⟩ := hq p stk'' rfl
            obtain ⟨j, hj⟩ : ∃ j : Nat, ((all.length - 1 : Nat) : Int) - t.f1 = j := ⟨(((all.length - 1 : Nat) : Int) - t.f1).toNat, by omega⟩
            have hj2 : ((all.length : Int) - 1 - t.f1).toNat = j := by omega
            rw [hj2] at hq1
            have hs2 := hs j (by omega)
            rw [hq1] at hs2
            have hl1 : (stk'' ++ [p] ++ [t]).length - 2 = stk''.length := by simp
            have e2 : stk'' ++ [p] ++ [t] = stk'' ++ [p, t] := by simp
            rw [if_neg hlt, hl1, if_neg (by simp), e2, List.drop_left, List.take_left, rd_map2 all _ (by omega), ht, hj, rd_map1 all _ (by omega), rd_map2 all _ (by omega), hq1]
            have eA : tA [p, t] = (j : Int) := hs2.1
            have eB : tB [p, t] = ((all.length - 1 : Nat) : Int) := hs1.1
            have eS : tS [p, t] = 1 + t.f1 + p.f1 := by
              show wrap64 (wrap64 (1 + p.f1) + t.f1) = _
              rw [w64 (x := 1 + p.f1) (by omega) (by omega), w64 (by omega) (by omega)]; omega
            have eD : tD [p, t] = mx (1 + t.f2) (1 + p.f2) := by
              show mx (mx 1 (wrap64 (p.f2 + 1))) (wrap64 (t.f2 + 1)) = _
              rw [w64 (x := p.f2 + 1) (by omega) (by omega), mx1 (by omega), w64 (by omega) (by omega)]
              unfold mx; split <;> split <;> omega
            have eM : 1 ≤ mx (1 + t.f2) (1 + p.f2) ∧ mx (1 + t.f2) (1 + p.f2) ≤ all.length + 1 := by unfold mx; split <;> omega
            have hsum : t.f1 + p.f1 ≤ all.length := by omega
            rw [eA, eB, eS, eD, w64 (x := 1 + t.f1) (by omega) (by omega), w64 (x := 1 + t.f1 + p.f1) (by omega) (by omega), w64 (x := 1 + t.f2) (by omega) (by omega), w64 (x := 1 + p.f2) (by omega) (by omega)]
            unfold rb
            rw [hd]
            cases ho : offB x (j : Int) ((all.length - 1 : Nat) : Int) with
            | true => simp
            | false =>
              simp only [Bool.not_false, Bool.and_true, if_true, Bool.false_eq_true, if_false]
              refine ⟨by simp, ?_, hs.snoc rfl (by simp; omega) (by simp; omega) (by simpa using eM.1) (by simpa using eM.2)⟩
              have h7 := Chain.snoc (blk := blk2 ++ blk) (t := (⟨(all.length : Int), 1 + t.f1 + p.f1, mx (1 + t.f2) (1 + p.f2)⟩ : Tp)) hc2 (by simp; omega)
              rw [← List.append_assoc, ← List.append_assoc, ← hc1, ← hb1] at h7
              exact h7
      · have hn : np x.f0 = none := by unfold np; rw [if_neg (by omega), if_neg (by omega), if_neg (by omega)]
        have hd : decide (1 ≤ x.f0 ∧ x.f0 ≤ 19) = false := by simp; omega
        simp only [tstep, hn]
        unfold rb
        rw [hd]; simp

def Gone (l : List Nd) (all : List Tp) : Prop := all.length = l.length ∧ Small all ∧ 0 < l.length ∧ ∃ t, Chain all [t]
theorem sizes_go (l : List Nd) (hl : l.length ≤ 60) : ∀ (rest : List Nd) (i : Nat) (all stk : List Tp), l.drop i = rest → i ≤ l.length → all.length = i → Chain all stk → Small all →
    ∀ k, rest.length < k → match topsGo rest i all stk with
      | (_, false) => ∃ s d, tailwaterref04_Sizes.l0 k l (all.map (·.f1)) (all.map (·.f2)) i = some (s, d, false)
      | (all', true) => tailwaterref04_Sizes.l0 k l (all.map (·.f1)) (all.map (·.f2)) i = some (all'.map (·.f1), all'.map (·.f2), true) ∧ Gone l all' := by
  intro rest
  induction rest with
  | nil =>
    intro i all stk hd hi ha hc hs k hk
    have hil : i = l.length := by
      have := congrArg List.length hd
      rw [List.length_drop] at this
      simp at this; omega
    obtain ⟨k, rfl⟩ : ∃ m, k = m + 1 := ⟨k - 1, by simp at hk; omega⟩
    simp only [topsGo]
    by_cases h0 : l.length = 0
    · have hk : stk = [] := hc.len.1 (List.eq_nil_of_length_eq_zero (by omega))
      subst hk
      have e : ((([] : List Tp).length : Int) == 1) = false := rfl
      rw [e]
      exact ⟨all.map (·.f1), all.map (·.f2), by rw [tailwaterref04_Sizes.l0, if_neg (by omega), if_neg (by omega)]⟩
    · obtain ⟨stk', t, rfl, ht, hf, _, _⟩ := hc.last (by omega)
      have hs1 := hs (all.length - 1) (by omega)
      rw [ht] at hs1
      have hw2 : wrap64 ((l.length : Int) - 1) = ((all.length - 1 : Nat) : Int) := by rw [w64 (by omega) (by omega)]; omega
      have hv : tailwaterref04_Sizes.l0 (k + 1) l (all.map (·.f1)) (all.map (·.f2)) i = some (all.map (·.f1), all.map (·.f2), t.f1 == (l.length : Int)) := by
        rw [tailwaterref04_Sizes.l0, if_neg (by omega), if_pos (by omega), hw2, if_pos (by omega), if_pos (by rw [List.length_map]; omega), rd_map1 all _ (by omega), ht]
      rw [hv]
      by_cases hn : stk' = []
      · subst hn
        have e : (((([] : List Tp) ++ [t]).length : Int) == 1) = true := rfl
        have h1 := hf.2 rfl
        have e2 : (t.f1 == (l.length : Int)) = true := by rw [beq_iff_eq]; omega
        rw [e, e2]
        exact ⟨rfl, by omega, hs, by omega, t, hc⟩
      · have e : (((stk' ++ [t]).length : Int) == 1) = false := by
          rw [beq_eq_false_iff_ne]
          intro h
          apply hn
          apply List.eq_nil_of_length_eq_zero
          rw [List.length_append, List.length_singleton] at h
          omega
        have e2 : (t.f1 == (l.length : Int)) = false := by
          rw [beq_eq_false_iff_ne]
          intro h
          exact hn (hf.1 (by omega))
        rw [e, e2]
        exact ⟨_, _, rfl⟩
  | cons x rest ih =>
    intro i all stk hd hi ha hc hs k hk
    obtain ⟨k, rfl⟩ : ∃ m, k = m + 1 := ⟨k - 1, by simp at hk; omega⟩
    have hx : l[i]? = some x := by
      have := congrArg List.head? hd
      rwa [List.head?_drop] at this
    have hd' : l.drop (i + 1) = rest := by
      have := congrArg List.tail hd
      rwa [List.tail_drop] at this
    have hi' : i < l.length := (List.getElem?_eq_some_iff.1 hx).1
    subst ha
    have h1 := sizes_step k hx hl hc hs
    simp only [topsGo]
    cases hst : tstep (all.length : Int) x stk with
    | none =>
      rw [hst] at h1
      exact ⟨_, _, h1⟩
    | some r =>
      obtain ⟨stk', t⟩ := r
      rw [hst] at h1
      obtain ⟨h2, h3, h4⟩ := h1
      rw [h2]
      exact ih (all.length + 1) (all ++ [t]) stk' hd' (by omega) (by simp) h3 h4 k (by simp at hk; omega)

theorem check_eq (l : List Nd) : ∃ all e, nodes_check.f l = some (all, e) ∧ (∀ k, l.length < k → tailwaterref04_Check.f k l = some e) ∧ (e = 0 → Gone l all ∧ l.length ≤ 60 ∧ nodes_tops.f l = (all, true)) := by
  unfold nodes_check.f
  by_cases hl : l.length > 60
  · rw [if_pos hl]
    refine ⟨_, _, rfl, fun k hk => ?_, fun h => by cases h⟩
    unfold tailwaterref04_Check.f
    rw [if_pos (by omega)]
  · rw [if_neg hl]
    have h1 := fun k hk => sizes_go l (by omega) l 0 [] [] rfl (Nat.zero_le _) rfl .nil (fun j hj => by simp at hj) k hk
    unfold nodes_tops.f
    rcases ht : topsGo l 0 [] [] with ⟨all, b⟩
    simp only [ht] at h1
    cases b with
    | false =>
      refine ⟨_, _, rfl, fun k hk => ?_, fun h => by cases h⟩
      obtain ⟨s, d, h2⟩ := h1 k hk
      unfold tailwaterref04_Check.f tailwaterref04_Sizes.f
      rw [if_neg (by omega)]
      have h3 : tailwaterref04_Sizes.l0 k l [] [] 0 = some (s, d, false) := h2
      rw [h3]; rfl
    | true =>
      obtain ⟨_, hg⟩ := h1 (l.length + 1) (by omega)
      obtain ⟨g1, g2, g3, t, g4⟩ := hg
      have hlast : all.getLast? = some (all.getD (all.length - 1) z165) := by
        rw [List.getLast?_eq_getElem?, List.getElem?_eq_getElem (by omega), List.getD_eq_getElem?_getD, List.getElem?_eq_getElem (by omega)]; rfl
      simp only [hlast]
      have hck : ∀ k, l.length < k → tailwaterref04_Check.f k l = if (all.getD (all.length - 1) z165).f2 > 20 then some 34 else some 0 := fun k hk => by
        obtain ⟨h2, _⟩ := h1 k hk
        have h3 : tailwaterref04_Sizes.l0 k l [] [] 0 = some (all.map (·.f1), all.map (·.f2), true) := h2
        unfold tailwaterref04_Check.f tailwaterref04_Sizes.f
        have hw2 : wrap64 ((l.length : Int) - 1) = ((all.length - 1 : Nat) : Int) := by rw [w64 (by omega) (by omega)]; omega
        rw [if_neg (by omega), h3, Option.bind_some, if_pos rfl, hw2, if_pos (by omega), if_pos (by rw [List.length_map]; omega), rd_map2 all _ (by omega)]
      by_cases hd : (all.getD (all.length - 1) z165).f2 > 20
      · rw [if_pos hd]
        exact ⟨_, _, rfl, fun k hk => by rw [hck k hk, if_pos hd], fun h => by cases h⟩
      · rw [if_neg hd]
        exact ⟨_, _, rfl, fun k hk => by rw [hck k hk, if_neg hd], fun _ => ⟨⟨g1, g2, g3, t, g4⟩, by omega, rfl⟩⟩
structure NodeOk (i : Nat) (x : Nd) : Prop where
  lo : 1 ≤ x.f0
  hi : x.f0 ≤ 19
  n0 : 0 ≤ x.f1
  n1 : x.f0 ≠ 1 → x.f1 = 0
  t0 : 0 ≤ x.f4
  t1 : x.f4 ≤ 400
  leaf : x.f0 ≤ 4 → x.f2 = 0 ∧ x.f3 = 0
  a0 : 4 < x.f0 → 0 ≤ x.f2 ∧ x.f2 < i
  b1 : x.f0 ≤ 6 → x.f3 = 0
  b0 : 4 < x.f0 → 0 ≤ x.f3 ∧ x.f3 < i

theorem offB_iff (x : Nd) (a b : Int) : offB x a b = false ↔ (0 ≤ x.f1 ∧ (x.f0 ≠ 1 → x.f1 = 0)) ∧ x.f2 = a ∧ x.f3 = b ∧ 0 ≤ x.f4 ∧ x.f4 ≤ 400 := by
  unfold offB
  have e4 : (mn (mx x.f4 0) 400 == x.f4) = decide (0 ≤ x.f4 ∧ x.f4 ≤ 400) := by
    rw [Bool.eq_iff_iff]; unfold mn mx; simp; split <;> split <;> omega
  have e1 : ((if x.f0 = 1 then mx x.f1 0 else 0) == x.f1) = decide (0 ≤ x.f1 ∧ (x.f0 ≠ 1 → x.f1 = 0)) := by
    rw [Bool.eq_iff_iff, beq_iff_eq, decide_eq_true_iff]
    unfold mx
    constructor
    · intro h; split at h <;> (try split at h) <;> omega
    · intro h; split <;> (try split) <;> omega
  rw [e4, e1]
  simp only [Bool.or_eq_false_iff, Bool.not_eq_false', decide_eq_true_iff, beq_iff_eq]
  constructor
  · rintro ⟨h1, h2, h3, h4⟩; exact ⟨h1, h2.symm, h3.symm, h4.1, h4.2⟩
  · rintro ⟨h1, h2, h3, h4, h5⟩; exact ⟨h1, h2.symm, h3.symm, h4, h5⟩
theorem np_kind {k : Int} {n : Nat} (h : np k = some n) : 1 ≤ k ∧ k ≤ 19 ∧ (n = 0 ∧ k ≤ 4 ∨ n = 1 ∧ 4 < k ∧ k ≤ 6 ∨ n = 2 ∧ 6 < k) := by
  unfold np at h
  repeat' split at h
  all_goals first | (injection h with h; omega) | cases h

theorem tA_lt {ys : List Tp} {i : Nat} (hi : ∀ t ∈ ys, 0 ≤ t.f0 ∧ t.f0 < i) (h : 0 < ys.length) : 0 ≤ tA ys ∧ tA ys < i := by
  cases ys with
  | nil => simp at h
  | cons t ys => exact hi t (by simp)
theorem tB_lt {ys : List Tp} {i : Nat} (hi : ∀ t ∈ ys, 0 ≤ t.f0 ∧ t.f0 < i) (h : 0 < ys.length) : 0 ≤ tB ys ∧ tB ys < i := by
  unfold tB
  split
  · have := tA_lt hi h; omega
  · have hne : ys ≠ [] := by intro h; subst h; simp at *
    rw [List.getLastD_eq_getLast?, List.getLast?_eq_some_getLast hne]
    exact hi _ (List.getLast_mem hne)

theorem ok_go : ∀ (rest : List Nd) (i : Nat) (all stk all' : List Tp), topsGo rest i all stk = (all', true) → (∀ t ∈ stk, 0 ≤ t.f0 ∧ t.f0 < i) → ∀ (j : Nat) x, rest[j]? = some x → NodeOk (i + j) x := by
  intro rest
  induction rest with
  | nil => intro i all stk all' h hs j x hx; simp at hx
  | cons y rest ih =>
    intro i all stk all' h hs j x hx
    simp only [topsGo] at h
    cases hst : tstep (i : Int) y stk with
    | none => rw [hst] at h; simp at h
    | some r =>
      obtain ⟨stk', t⟩ := r
      rw [hst] at h
      unfold tstep at hst
      cases hn : np y.f0 with
      | none => rw [hn] at hst; cases hst
      | some n =>
        rw [hn] at hst
        dsimp only at hst
        by_cases h1 : stk.length < n
        · rw [if_pos h1] at hst; cases hst
        · rw [if_neg h1] at hst
          obtain ⟨ys, hys⟩ : ∃ ys, ys = stk.drop (stk.length - n) := ⟨_, rfl⟩
          rw [← hys] at hst
          cases ho : offB y (tA ys) (tB ys) with
          | true => rw [ho, if_pos rfl] at hst; cases hst
          | false =>
            rw [ho, if_neg (by simp)] at hst
            simp only [Option.some.injEq, Prod.mk.injEq] at hst
            obtain ⟨rfl, rfl⟩ := hst
            have hyl : ys.length = n := by rw [hys, List.length_drop]; omega
            have hym : ∀ t ∈ ys, 0 ≤ t.f0 ∧ t.f0 < i := fun t ht => hs t (by rw [hys] at ht; exact List.mem_of_mem_drop ht)
            obtain ⟨⟨o1, o2⟩, o3, o4, o5, o6⟩ := (offB_iff _ _ _).1 ho
            obtain ⟨k1, k2, k3⟩ := np_kind hn
            cases j with
            | zero =>
              obtain rfl : y = x := by simpa using hx
              rw [Nat.add_zero]
              have hA := fun h => tA_lt hym h
              have hB := fun h => tB_lt hym h
              refine ⟨k1, k2, o1, o2, o5, o6, fun h4 => ?_, fun h4 => ?_, fun h6 => ?_, fun h4 => ?_⟩
              · have hy0 : ys = [] := List.eq_nil_of_length_eq_zero (by omega)
                subst hy0
                exact ⟨o3, o4⟩
              · rw [o3]; exact hA (by omega)
              · rw [o4]; unfold tB; rw [if_pos (by omega)]
              · rw [o4]; exact hB (by omega)
            | succ j =>
              have hx' : rest[j]? = some x := by simpa using hx
              have := ih (i + 1) _ _ all' h (fun t ht => by
                rcases List.mem_append.1 ht with ht | ht
                · have := hs t (List.mem_of_mem_take ht); omega
                · rw [List.mem_singleton.1 ht]; dsimp only; omega) j x hx'
              rwa [show i + 1 + j = i + (j + 1) by omega] at this
theorem valid_ok {l : List Nd} {all : List Tp} (h : nodes_tops.f l = (all, true)) (j : Nat) (x : Nd) (hx : l[j]? = some x) : NodeOk j x := by
  have := ok_go l 0 [] [] all h (fun t ht => by simp at ht) j x hx
  rwa [Nat.zero_add] at this

def fitx (l : List Nd) (x : Nd) : Bool := decide (x.f0 ≤ 4) || kfit x.f0 (kgive (rd_T61 l x.f2).f0) (kgive (rd_T61 l x.f3).f0)
theorem kgive_leaf {k : Int} (h : k ≤ 4) : kgive k = false := by unfold kgive; simp; omega
theorem rd_give (l : List Nd) (i : Nat) (j : Int) (h0 : 0 ≤ j) (h1 : j < i) (hi : i ≤ l.length) : rdOf false ((l.take i).map (fun x => kgive x.f0)) j = kgive (rd_T61 l j).f0 := by
  unfold rdOf rd_T61
  have hl : j.toNat < l.length := by omega
  have hlt : j.toNat < i := by omega
  have e : ((l.take i).map (fun x => kgive x.f0))[j.toNat]? = some (kgive l[j.toNat].f0) := by
    rw [List.getElem?_map, List.getElem?_take_of_lt hlt, List.getElem?_eq_getElem hl]; rfl
  rw [List.getD_eq_getElem?_getD, e, List.getD_eq_getElem?_getD, List.getElem?_eq_getElem hl]
  rfl
theorem told_go (l : List Nd) (hv : ∀ (j : Nat) x, l[j]? = some x → NodeOk j x) : ∀ (rest : List Nd) (i : Nat), l.drop i = rest → i ≤ l.length →
    toldGo rest i ((l.take i).map (fun x => kgive x.f0)) = if rest.findIdx (fun x => !fitx l x) < rest.length then some ([], ((i + rest.findIdx (fun x => !fitx l x) : Nat) : Int)) else some (l.map (fun x => kgive x.f0), (l.length : Int)) := by
  intro rest
  induction rest with
  | nil =>
    intro i hd hi
    have hil : i = l.length := by
      have := congrArg List.length hd
      rw [List.length_drop] at this
      simp at this; omega
    subst hil
    simp [toldGo]
  | cons x rest ih =>
    intro i hd hi
    have hx : l[i]? = some x := by
      have := congrArg List.head? hd
      rwa [List.head?_drop] at this
    have hd' : l.drop (i + 1) = rest := by
      have := congrArg List.tail hd
      rwa [List.tail_drop] at this
    have hi' : i < l.length := (List.getElem?_eq_some_iff.1 hx).1
    have htk : (l.take (i + 1)).map (fun x => kgive x.f0) = (l.take i).map (fun x => kgive x.f0) ++ [kgive x.f0] := by
      rw [List.take_add_one, hx]; simp
    have hok := hv i x hx
    have h1 := ih (i + 1) hd' (by omega)
    rw [htk] at h1
    have hlen : ((l.take i).map (fun x => kgive x.f0)).length = i := by simp; omega
    simp only [toldGo]
    rw [List.findIdx_cons]
    by_cases h4 : x.f0 ≤ 4
    · have hf : fitx l x = true := by unfold fitx; simp [h4]
      rw [if_pos h4, hf]
      have e1 : ((i : Int) + 1) = ((i + 1 : Nat) : Int) := by omega
      rw [kgive_leaf h4] at h1
      rw [e1, h1]
      simp only [Bool.not_true, cond_false, List.length_cons]
      by_cases hlt : rest.findIdx (fun x => !fitx l x) < rest.length
      · rw [if_pos hlt, if_pos (by omega), show i + 1 + rest.findIdx (fun x => !fitx l x) = i + (rest.findIdx (fun x => !fitx l x) + 1) by omega]
      · rw [if_neg hlt, if_neg (by omega)]
    · have hA := hok.a0 (by omega)
      have hB := hok.b0 (by omega)
      rw [if_neg h4, hlen, if_pos ⟨hA.1, hA.2, hB.1, hB.2⟩, rd_give l i _ hA.1 hA.2 hi, rd_give l i _ hB.1 hB.2 hi]
      have hf : fitx l x = kfit x.f0 (kgive (rd_T61 l x.f2).f0) (kgive (rd_T61 l x.f3).f0) := by unfold fitx; simp [h4]
      rw [← hf]
      cases hfx : fitx l x with
      | true =>
        have e1 : ((i : Int) + 1) = ((i + 1 : Nat) : Int) := by omega
        rw [if_pos rfl, e1, h1]
        simp only [Bool.not_true, cond_false, List.length_cons]
        by_cases hlt : rest.findIdx (fun x => !fitx l x) < rest.length
        · rw [if_pos hlt, if_pos (by omega), show i + 1 + rest.findIdx (fun x => !fitx l x) = i + (rest.findIdx (fun x => !fitx l x) + 1) by omega]
        · rw [if_neg hlt, if_neg (by omega)]
      | false => simp
def wrongAt (l : List Nd) : Nat := l.findIdx (fun x => !fitx l x)
theorem told_valid {l : List Nd} {all : List Tp} (h : nodes_tops.f l = (all, true)) (hl : l.length ≤ 60) :
    kinds_told.f l = if wrongAt l < l.length then some ([], (wrongAt l : Int)) else some (l.map (fun x => kgive x.f0), (l.length : Int)) := by
  unfold kinds_told.f
  rw [if_pos (by omega)]
  have := told_go l (valid_ok h) l 0 rfl (Nat.zero_le _)
  simpa [wrongAt] using this

end Go.Proofs.Ytcdgohoinmbpfaa.M
