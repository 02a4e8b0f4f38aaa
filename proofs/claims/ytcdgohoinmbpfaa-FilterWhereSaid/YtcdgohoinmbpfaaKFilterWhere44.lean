import Derived.Test.YtcdgohoinmbpfaaKFilterWhere6
import Derived.Test.YtcdgohoinmbpfaaKFilterWhere30
import Derived.Test.YtcdgohoinmbpfaaKFilterWhere29
import Derived.Test.YtcdgohoinmbpfaaKFilterWhere31
import Derived.Test.YtcdgohoinmbpfaaKFilterWhere25
import Derived.Test.YtcdgohoinmbpfaaKFilterWhere42
import Derived.Test.YtcdgohoinmbpfaaKFilterWhere43
import Derived.Test.YtcdgohoinmbpfaaKFilterWhere21
namespace Go.Proofs.Ytcdgohoinmbpfaa.M
open Go.RowKit Go.Proofs.YtcdgohoinmbpfaaW.PrintWords Go.Proofs.YtcdgohoinmbpfaaW.PrintLast Go.Proofs.YtcdgohoinmbpfaaW.PrintMore
attribute [local go_sem] max2_int min2_int max_two min_two
set_option linter.unusedVariables false
set_option linter.unusedSimpArgs false

attribute [local go_sem high] eqA43
mutual
def tailwaterlaw29_FilterWhere.j0 : Nat → Bool → Bool → Int → List (S61) → List Int → Bool → List (S61) → Int → Int → Int → Bool → Int → Int → Int → Int → Option (Bool)
 | 0, _, _, _, _, _, _, _, _, _, _, _, _, _, _, _ => none
 | k + 1, x5, x30, x702000, x702001, x702002, x702003, x702004, x702005, x702006, x702007, x702008, x702009, x703000, x703001, x703002 => if x30 = true then (some x5) else ((filter_Project.f x702000 x702001 x702002 x702003 x702004 x702005 x702006 x702007 x702008 x702009 x703000 x703001 x703002).bind fun bt707 => (if bt707.2.2.2.2 = 0 then (if (x702004.length : Int) > 0 then ((evals_Of.f x702004 x703000 x703001 x703002).bind fun bt713 => (if bt713.2 = 0 then (if (bt707.2.2.2.1 != (bt713.1 != 0)) = true then (some false) else (tailwaterlaw29_FilterWhere.j1 k x5 bt707.2.2.2.1 x702000 x702001 x702002 x702003 x702004 x702005 x702006 x702007 x702008 x702009 x703000 x703001 x703002 bt707.1 bt707.2.1 bt707.2.2.1)) else (some false))) else (if bt707.2.2.2.1 = true then (tailwaterlaw29_FilterWhere.j1 k x5 bt707.2.2.2.1 x702000 x702001 x702002 x702003 x702004 x702005 x702006 x702007 x702008 x702009 x703000 x703001 x703002 bt707.1 bt707.2.1 bt707.2.2.1) else (some false))) else (some false)))
def tailwaterlaw29_FilterWhere.j1 : Nat → Bool → Bool → Int → List (S61) → List Int → Bool → List (S61) → Int → Int → Int → Bool → Int → Int → Int → Int → Int → Int → Int → Option (Bool)
 | 0, _, _, _, _, _, _, _, _, _, _, _, _, _, _, _, _, _, _ => none
 | k + 1, x5, x7, x702000, x702001, x702002, x702003, x702004, x702005, x702006, x702007, x702008, x702009, x703000, x703001, x703002, x713000, x713001, x713002 => if x7 = true then (if x702000 = 1 then (if x5 = true then (if x713001 = x703001 then (if x713002 = 0 then (if x702008 = true then (if x713000 = x703000 then (some true) else (some false)) else (some (x713000 == 0))) else (some false)) else (some false)) else (some false)) else ((evals_Of.f x702001 x703000 x703001 x703002).bind fun bt715 => (if bt715.2 = 0 then (if x5 = true then (if x713001 = x703001 then (if x713002 = bt715.1 then (if x702008 = true then (if x713000 = x703000 then (some true) else (some false)) else (some (x713000 == 0))) else (some false)) else (some false)) else (some false)) else (some false)))) else (if x5 = true then (some (x713000 == 0 && (x713001 == 0 && (x713002 == 0)))) else (some false))
end
def tailwaterlaw29_FilterWhere.f (k : Nat) (a0_0 : Int) (l0_1 : List (S61)) (l0_2 : List Int) (a0_3 : Bool) (l0_4 : List (S61)) (a0_5 : Int) (a0_6 : Int) (a0_7 : Int) (a0_8 : Bool) (a0_9 : Int) (a1_0 : Int) (a1_1 : Int) (a1_2 : Int) : Option (Bool) := (tailwaterlaw29_alive.f k).bind fun t703 => ((tailwaterlaw29_great.f a0_0 l0_1 l0_2 a0_3 l0_4 a0_5 a0_6 a0_7 a0_8 a0_9).bind fun t704 => (if t704 = true then (tailwaterlaw29_FilterWhere.j0 k t703 true a0_0 l0_1 l0_2 a0_3 l0_4 a0_5 a0_6 a0_7 a0_8 a0_9 a1_0 a1_1 a1_2) else ((tailwaterref29_Accepted.f k a0_0 l0_1 l0_2 a0_3 l0_4 a0_5 a0_6 a0_7 a0_8 a0_9).bind fun t705 => (if t705 = true then ((tailwaterref25_Right.f a1_0 a1_1 a1_2).bind fun t706 => (if t706 = true then (tailwaterlaw29_FilterWhere.j0 k t703 (!t703) a0_0 l0_1 l0_2 a0_3 l0_4 a0_5 a0_6 a0_7 a0_8 a0_9 a1_0 a1_1 a1_2) else (tailwaterlaw29_FilterWhere.j0 k t703 true a0_0 l0_1 l0_2 a0_3 l0_4 a0_5 a0_6 a0_7 a0_8 a0_9 a1_0 a1_1 a1_2))) else (tailwaterlaw29_FilterWhere.j0 k t703 true a0_0 l0_1 l0_2 a0_3 l0_4 a0_5 a0_6 a0_7 a0_8 a0_9 a1_0 a1_1 a1_2)))))
theorem tailwaterlaw29_FilterWhere.mono_l : ∀ k, (∀ y0 y1 y2 y3 y4 y5 y6 y7 y8 y9 y10 y11 y12 y13 y14, LeO (tailwaterlaw29_FilterWhere.j0 k y0 y1 y2 y3 y4 y5 y6 y7 y8 y9 y10 y11 y12 y13 y14) (tailwaterlaw29_FilterWhere.j0 (k + 1) y0 y1 y2 y3 y4 y5 y6 y7 y8 y9 y10 y11 y12 y13 y14)) ∧ (∀ y0 y1 y2 y3 y4 y5 y6 y7 y8 y9 y10 y11 y12 y13 y14 y15 y16 y17, LeO (tailwaterlaw29_FilterWhere.j1 k y0 y1 y2 y3 y4 y5 y6 y7 y8 y9 y10 y11 y12 y13 y14 y15 y16 y17) (tailwaterlaw29_FilterWhere.j1 (k + 1) y0 y1 y2 y3 y4 y5 y6 y7 y8 y9 y10 y11 y12 y13 y14 y15 y16 y17))
 | 0 => ⟨fun _ _ _ _ _ _ _ _ _ _ _ _ _ _ _ r h => by simp [tailwaterlaw29_FilterWhere.j0] at h, fun _ _ _ _ _ _ _ _ _ _ _ _ _ _ _ _ _ _ r h => by simp [tailwaterlaw29_FilterWhere.j1] at h⟩
 | k + 1 => by
  obtain ⟨ih0, ih1⟩ := tailwaterlaw29_FilterWhere.mono_l k
  refine ⟨?_, ?_⟩
  ·intro y0 y1 y2 y3 y4 y5 y6 y7 y8 y9 y10 y11 y12 y13 y14
   unfold tailwaterlaw29_FilterWhere.j0
   repeat' first
   | (with_reducible exact ih0 _ _ _ _ _ _ _ _ _ _ _ _ _ _ _)
   | (with_reducible exact ih1 _ _ _ _ _ _ _ _ _ _ _ _ _ _ _ _ _ _)
   | (with_reducible exact tailwaterlaw29_alive.mono _)
   | (with_reducible exact tailwaterref29_Accepted.mono _ _ _ _ _ _ _ _ _ _ _)
   | (with_reducible exact LeO.refl _)
   | (with_reducible exact LeO.none _)
   | (with_reducible refine LeO.ite ?_ ?_)
   | (with_reducible refine LeO.bind ?_ (fun _ => ?_))
   | exact ih0 _ _ _ _ _ _ _ _ _ _ _ _ _ _ _
   | exact ih1 _ _ _ _ _ _ _ _ _ _ _ _ _ _ _ _ _ _
   | exact tailwaterlaw29_alive.mono _
   | exact tailwaterref29_Accepted.mono _ _ _ _ _ _ _ _ _ _ _
   | exact LeO.none _
   | refine LeO.ite ?_ ?_
   | refine LeO.bind ?_ (fun _ => ?_)
  ·intro y0 y1 y2 y3 y4 y5 y6 y7 y8 y9 y10 y11 y12 y13 y14 y15 y16 y17
   unfold tailwaterlaw29_FilterWhere.j1
   repeat' first
   | (with_reducible exact ih0 _ _ _ _ _ _ _ _ _ _ _ _ _ _ _)
   | (with_reducible exact ih1 _ _ _ _ _ _ _ _ _ _ _ _ _ _ _ _ _ _)
   | (with_reducible exact tailwaterlaw29_alive.mono _)
   | (with_reducible exact tailwaterref29_Accepted.mono _ _ _ _ _ _ _ _ _ _ _)
   | (with_reducible exact LeO.refl _)
   | (with_reducible exact LeO.none _)
   | (with_reducible refine LeO.ite ?_ ?_)
   | (with_reducible refine LeO.bind ?_ (fun _ => ?_))
   | exact ih0 _ _ _ _ _ _ _ _ _ _ _ _ _ _ _
   | exact ih1 _ _ _ _ _ _ _ _ _ _ _ _ _ _ _ _ _ _
   | exact tailwaterlaw29_alive.mono _
   | exact tailwaterref29_Accepted.mono _ _ _ _ _ _ _ _ _ _ _
   | exact LeO.none _
   | refine LeO.ite ?_ ?_
   | refine LeO.bind ?_ (fun _ => ?_)
theorem tailwaterlaw29_FilterWhere.mono : ∀ a0 a1 a2 a3 a4 a5 a6 a7 a8 a9 a10 a11 a12 k, LeO (tailwaterlaw29_FilterWhere.f k a0 a1 a2 a3 a4 a5 a6 a7 a8 a9 a10 a11 a12) (tailwaterlaw29_FilterWhere.f (k + 1) a0 a1 a2 a3 a4 a5 a6 a7 a8 a9 a10 a11 a12) := by
 intro a0 a1 a2 a3 a4 a5 a6 a7 a8 a9 a10 a11 a12 k
 obtain ⟨ih0, ih1⟩ := tailwaterlaw29_FilterWhere.mono_l k
 unfold tailwaterlaw29_FilterWhere.f
 repeat' first
   | (with_reducible exact ih0 _ _ _ _ _ _ _ _ _ _ _ _ _ _ _)
   | (with_reducible exact ih1 _ _ _ _ _ _ _ _ _ _ _ _ _ _ _ _ _ _)
   | (with_reducible exact tailwaterlaw29_alive.mono _)
   | (with_reducible exact tailwaterref29_Accepted.mono _ _ _ _ _ _ _ _ _ _ _)
   | (with_reducible exact LeO.refl _)
   | (with_reducible exact LeO.none _)
   | (with_reducible refine LeO.ite ?_ ?_)
   | (with_reducible refine LeO.bind ?_ (fun _ => ?_))
   | exact ih0 _ _ _ _ _ _ _ _ _ _ _ _ _ _ _
   | exact ih1 _ _ _ _ _ _ _ _ _ _ _ _ _ _ _ _ _ _
   | exact tailwaterlaw29_alive.mono _
   | exact tailwaterref29_Accepted.mono _ _ _ _ _ _ _ _ _ _ _
   | exact LeO.none _
   | refine LeO.ite ?_ ?_
   | refine LeO.bind ?_ (fun _ => ?_)
set_option maxHeartbeats 8000000 in
set_option maxRecDepth 100000 in
theorem tailwaterlaw29_FilterWhere.calls (k : Nat) (a0_0 : Int) (A0_1 : Option Addr) (c0_1 : Nat) (l0_1 : List (S61)) (A0_2 : Option Addr) (c0_2 : Nat) (l0_2 : List Int) (a0_3 : Bool) (A0_4 : Option Addr) (c0_4 : Nat) (l0_4 : List (S61)) (a0_5 : Int) (a0_6 : Int) (a0_7 : Int) (a0_8 : Bool) (a0_9 : Int) (a1_0 : Int) (a1_1 : Int) (a1_2 : Int) (r : Bool) (w : World) (hr0_1 : Kd.C k61 w A0_1 l0_1.length l0_1) (hc0_1 : l0_1.length ≤ c0_1) (hr0_2 : Kd.C (Kd.int .i64) w A0_2 l0_2.length l0_2) (hc0_2 : l0_2.length ≤ c0_2) (hr0_4 : Kd.C k61 w A0_4 l0_4.length l0_4) (hc0_4 : l0_4.length ≤ c0_4) (h : tailwaterlaw29_FilterWhere.f k a0_0 l0_1 l0_2 a0_3 l0_4 a0_5 a0_6 a0_7 a0_8 a0_9 a1_0 a1_1 a1_2 = some r) (hrt : r = true) :
  Calls Try.prog 6 #[.agg #[.int .u8 a0_0, .slice A0_1 l0_1.length c0_1, .slice A0_2 l0_2.length c0_2, .bool a0_3, .slice A0_4 l0_4.length c0_4, .int .u8 a0_5, .int .i64 a0_6, .int .i64 a0_7, .bool a0_8, .int .u8 a0_9], .agg #[.int .i64 a1_0, .int .i64 a1_1, .int .i64 a1_2]] w fun e w' => e = .returned (.bool r) ∧ Below w.heap.size w w' := by
 have HRT := Aside0.mk hrt
 clear hrt
 have hu41 := Try.underlying41
 have hu43 := Try.underlying43
 have HR0_1 := Aside0.mk hr0_1
 have HC0_1 := Aside0.mk hc0_1
 clear hr0_1 hc0_1
 have HR0_2 := Aside0.mk hr0_2
 have HC0_2 := Aside0.mk hc0_2
 clear hr0_2 hc0_2
 have HR0_4 := Aside0.mk hr0_4
 have HC0_4 := Aside0.mk hc0_4
 clear hr0_4 hc0_4
 have HB := Aside0.mk (Below.refl w.heap.size w)
 have H : ((tailwaterlaw29_alive.f k).bind fun t703 => ((tailwaterlaw29_great.f a0_0 l0_1 l0_2 a0_3 l0_4 a0_5 a0_6 a0_7 a0_8 a0_9).bind fun t704 => (if t704 = true then (tailwaterlaw29_FilterWhere.j0 k t703 true a0_0 l0_1 l0_2 a0_3 l0_4 a0_5 a0_6 a0_7 a0_8 a0_9 a1_0 a1_1 a1_2) else ((tailwaterref29_Accepted.f k a0_0 l0_1 l0_2 a0_3 l0_4 a0_5 a0_6 a0_7 a0_8 a0_9).bind fun t705 => (if t705 = true then ((tailwaterref25_Right.f a1_0 a1_1 a1_2).bind fun t706 => (if t706 = true then (tailwaterlaw29_FilterWhere.j0 k t703 (!t703) a0_0 l0_1 l0_2 a0_3 l0_4 a0_5 a0_6 a0_7 a0_8 a0_9 a1_0 a1_1 a1_2) else (tailwaterlaw29_FilterWhere.j0 k t703 true a0_0 l0_1 l0_2 a0_3 l0_4 a0_5 a0_6 a0_7 a0_8 a0_9 a1_0 a1_1 a1_2))) else (tailwaterlaw29_FilterWhere.j0 k t703 true a0_0 l0_1 l0_2 a0_3 l0_4 a0_5 a0_6 a0_7 a0_8 a0_9 a1_0 a1_1 a1_2)))))) = some r := h
 clear h
 replace H := Option.bind_eq_some_iff.mp H
 obtain ⟨t703, A30, H⟩ := H
 try dsimp only at H
 have A3 := Aside0.mk A30
 clear A30
 have HC4 := Aside0.mk H
 clear H
 go_enter Try.func6, Try.ntmps6
 go_upto_region 2 with (first | ((with_reducible refine gate_dst (N := 2) rfl ?_); refine box_event ?hg (N := 2) ?hd (cs := #[.int .u8 a0_0, .slice A0_1 l0_1.length c0_1, .slice A0_2 l0_2.length c0_2, .bool a0_3, .slice A0_4 l0_4.length c0_4, .int .u8 a0_5, .int .i64 a0_6, .int .i64 a0_7, .bool a0_8, .int .u8 a0_9]) (t := 41) ?hr ?_; (case hd => rfl); (case hg => rfl); (case hr => first | (go_simp; done) | (go_simp; rfl)); intro gb701 hg w5 hbox hb; have n0_ := Aside0.mk (below_step (by exact belL HB.out) hb); have n1_ := Aside0.mk (hbox); have n2_ := Aside0.mk ((by rw [hg]; exact (below_size (by exact belL HB.out)) : w.heap.size ≤ gb701)); have n3_ := n2_; clear HB; have HB := n0_; have BK701 := n1_; have GW701 := n2_; have GE701 := n3_; clear n0_ n1_ n2_ n3_; clear hb hbox hg) | ((with_reducible refine gate_dst (N := 3) rfl ?_); refine box_event ?hg (N := 3) ?hd (cs := #[.int .i64 a1_0, .int .i64 a1_1, .int .i64 a1_2]) (t := 43) ?hr ?_; (case hd => rfl); (case hg => rfl); (case hr => first | (go_simp; done) | (go_simp; rfl)); intro gb702 hg w6 hbox hb; have n0_ := Aside0.mk (blkB BK701.out hb); have n1_ := Aside0.mk (below_step (by repeat (first | (with_reducible first | exact HB.out | apply below_alloc | apply pw_below_drewN | apply below_drew1 | refine below_set ?_ GE701.out) | exact HB.out)) hb); have n2_ := Aside0.mk (hbox); have n3_ := Aside0.mk ((by rw [hg]; exact (below_size (by repeat (first | (with_reducible first | exact HB.out | apply below_alloc | apply pw_below_drewN | apply below_drew1 | refine below_set ?_ GE701.out) | exact HB.out))) : w.heap.size ≤ gb702)); have n4_ := n3_; have n5_ := Aside0.mk (blkN BK701.out hg); have n6_ := Aside0.mk (blkN BK701.out hg).symm; clear BK701; clear HB; have BK701 := n0_; have HB := n1_; have BK702 := n2_; have GW702 := n3_; have GE702 := n4_; have NB701_702 := n5_; have NB702_701 := n6_; clear n0_ n1_ n2_ n3_ n4_ n5_ n6_; clear hb hbox hg) | ((with_reducible refine gate_callee (f := 18) rfl ?_); refine goesL_ (some 14) rfl rfl Try.func18 (by kernel_rfl) rfl #[] rfl (by (try simp only [List.map_toArray, List.map_cons, List.map_nil]); first | done | rfl | (simp only [List.length_drop, List.length_take]; rfl)) ?_; (with_reducible refine (tailwaterlaw29_alive.calls k  t703 _ A3.out (alive_only A3.out)).mono ?_); rintro e w7 ⟨rfl, hb⟩; refine ⟨_, rfl, ?_⟩; have n0_ := Aside0.mk (blkB BK701.out hb); have n1_ := Aside0.mk (blkB BK702.out hb); have n2_ := Aside0.mk (below_step (by repeat (first | (with_reducible first | exact HB.out | apply below_alloc | apply pw_below_drewN | apply below_drew1 | refine below_set ?_ GE701.out | refine below_set ?_ GE702.out) | exact HB.out)) hb); clear BK701; clear BK702; clear HB; have BK701 := n0_; have BK702 := n1_; have HB := n2_; clear n0_ n1_ n2_; (try clear hb); (try clear hb2); (try clear hk); (try clear hi)))
 (try simp only [Act.put, List.setIfInBounds_toArray, List.set_cons_zero, List.set_cons_succ])
 go_cut [30] (fun v30 wc => ∃ (kq : Nat) (x30_3 : Bool), v30 = .bool x30_3 ∧ Aside0 (tailwaterlaw29_FilterWhere.j0 kq t703 x30_3 a0_0 l0_1 l0_2 a0_3 l0_4 a0_5 a0_6 a0_7 a0_8 a0_9 a1_0 a1_1 a1_2 = some r) ∧ Aside0 (kq ≤ k) ∧ Aside0 (wc.heap[gb701]? = some (.cells #[.int .u8 a0_0, (.slice A0_1 l0_1.length c0_1), (.slice A0_2 l0_2.length c0_2), .bool a0_3, (.slice A0_4 l0_4.length c0_4), .int .u8 a0_5, .int .i64 a0_6, .int .i64 a0_7, .bool a0_8, .int .u8 a0_9] 41 (0, 0))) ∧ Aside0 (wc.heap[gb702]? = some (.cells #[.int .i64 a1_0, .int .i64 a1_1, .int .i64 a1_2] 43 (0, 0))) ∧ Aside0 (Below w.heap.size w wc))
 case first =>
  have H := HC4.out
  clear HC4
  replace H := Option.bind_eq_some_iff.mp H
  obtain ⟨t704, A80, H⟩ := H
  try dsimp only at H
  have A8 := Aside0.mk A80
  clear A80
  by_cases c9 : t704 = true
  ·subst c9
   rw [if_pos rfl] at H
   have H' := Aside0.mk H
   clear H
   have hnb10 := NB701_702.out
   have hnc10 := NB702_701.out
   obtain ⟨z11_0, z11_1, z11_2, z11_3, z11_4, z11_5, z11_6, z11_7, z11_8, z11_9, y11_0, y11_1, y11_2, y11_3, y11_4, y11_5, y11_6, y11_7, y11_8, y11_9⟩ := box10 BK701.out
   go_wp2_with (first | ((with_reducible refine gate_callee (f := 19) rfl ?_); refine goesL_ (some 16) rfl rfl Try.func19 (by kernel_rfl) rfl #[.agg #[.int .u8 a0_0, .slice A0_1 l0_1.length c0_1, .slice A0_2 l0_2.length c0_2, .bool a0_3, .slice A0_4 l0_4.length c0_4, .int .u8 a0_5, .int .i64 a0_6, .int .i64 a0_7, .bool a0_8, .int .u8 a0_9]] rfl (by (try simp only [List.map_toArray, List.map_cons, List.map_nil]); first | done | rfl | (simp only [List.length_drop, List.length_take]; rfl)) ?_; (with_reducible refine (tailwaterlaw29_great.calls a0_0 _ _ l0_1 _ _ l0_2 a0_3 _ _ l0_4 a0_5 a0_6 a0_7 a0_8 a0_9 true _ ?side1 ?side2 ?side3 ?side4 ?side5 ?side6 A8.out).mono ?_); (case side1 => exact CB HR0_1.out HB.out); (case side2 => exact HC0_1.out); (case side3 => exact CB HR0_2.out HB.out); (case side4 => exact HC0_2.out); (case side5 => exact CB HR0_4.out HB.out); (case side6 => exact HC0_4.out); rintro e w12 ⟨rfl, hb⟩; refine ⟨_, rfl, ?_⟩; have n0_ := Aside0.mk (blkB BK701.out hb); have n1_ := Aside0.mk (blkB BK702.out hb); have n2_ := Aside0.mk (below_step (by repeat (first | (with_reducible first | exact HB.out | apply below_alloc | apply pw_below_drewN | apply below_drew1 | refine below_set ?_ GE701.out | refine below_set ?_ GE702.out) | exact HB.out)) hb); clear BK701; clear BK702; clear HB; have BK701 := n0_; have BK702 := n1_; have HB := n2_; clear n0_ n1_ n2_; (try clear hb); (try clear hb2); (try clear hk); (try clear hi)))
   go_meet
   case rel => exact ⟨_, (true), (by first | rfl | (simp; done) | (simp [*]; done)), H', ⟨by first | omega | exact Nat.le_refl _⟩, ⟨by (with_reducible repeat (first | refine blk_drewN ?_ _ | refine blk_drew ?_ | refine blk_alloc ?_ _)); exact BK701.out⟩, ⟨by (with_reducible repeat (first | refine blk_drewN ?_ _ | refine blk_drew ?_ | refine blk_alloc ?_ _)); exact BK702.out⟩, ⟨by repeat (first | (with_reducible first | exact HB.out | apply below_alloc | apply pw_below_drewN | apply below_drew1 | refine below_set ?_ GE701.out | refine below_set ?_ GE702.out) | exact HB.out)⟩⟩
  ·replace c9 := Bool.eq_false_iff.mpr c9
   subst c9
   rw [if_neg (show ¬ (false = true) by decide)] at H
   replace H := Option.bind_eq_some_iff.mp H
   obtain ⟨t705, A130, H⟩ := H
   try dsimp only at H
   have A13 := Aside0.mk A130
   clear A130
   by_cases c14 : t705 = true
   ·subst c14
    rw [if_pos rfl] at H
    replace H := Option.bind_eq_some_iff.mp H
    obtain ⟨t706, A150, H⟩ := H
    try dsimp only at H
    have A15 := Aside0.mk A150
    clear A150
    by_cases c16 : t706 = true
    ·subst c16
     rw [if_pos rfl] at H
     have H' := Aside0.mk H
     clear H
     have hnb17 := NB701_702.out
     have hnc17 := NB702_701.out
     obtain ⟨z18_0, z18_1, z18_2, z18_3, z18_4, z18_5, z18_6, z18_7, z18_8, z18_9, y18_0, y18_1, y18_2, y18_3, y18_4, y18_5, y18_6, y18_7, y18_8, y18_9⟩ := box10 BK701.out
     go_wp2_with (first | ((with_reducible refine gate_callee (f := 19) rfl ?_); refine goesL_ (some 16) rfl rfl Try.func19 (by kernel_rfl) rfl #[.agg #[.int .u8 a0_0, .slice A0_1 l0_1.length c0_1, .slice A0_2 l0_2.length c0_2, .bool a0_3, .slice A0_4 l0_4.length c0_4, .int .u8 a0_5, .int .i64 a0_6, .int .i64 a0_7, .bool a0_8, .int .u8 a0_9]] rfl (by (try simp only [List.map_toArray, List.map_cons, List.map_nil]); first | done | rfl | (simp only [List.length_drop, List.length_take]; rfl)) ?_; (with_reducible refine (tailwaterlaw29_great.calls a0_0 _ _ l0_1 _ _ l0_2 a0_3 _ _ l0_4 a0_5 a0_6 a0_7 a0_8 a0_9 false _ ?side1 ?side2 ?side3 ?side4 ?side5 ?side6 A8.out).mono ?_); (case side1 => exact CB HR0_1.out HB.out); (case side2 => exact HC0_1.out); (case side3 => exact CB HR0_2.out HB.out); (case side4 => exact HC0_2.out); (case side5 => exact CB HR0_4.out HB.out); (case side6 => exact HC0_4.out); rintro e w19 ⟨rfl, hb⟩; refine ⟨_, rfl, ?_⟩; have n0_ := Aside0.mk (blkB BK701.out hb); have n1_ := Aside0.mk (blkB BK702.out hb); have n2_ := Aside0.mk (below_step (by repeat (first | (with_reducible first | exact HB.out | apply below_alloc | apply pw_below_drewN | apply below_drew1 | refine below_set ?_ GE701.out | refine below_set ?_ GE702.out) | exact HB.out)) hb); clear BK701; clear BK702; clear HB; have BK701 := n0_; have BK702 := n1_; have HB := n2_; clear n0_ n1_ n2_; (try clear hb); (try clear hb2); (try clear hk); (try clear hi); obtain ⟨z20_0, z20_1, z20_2, z20_3, z20_4, z20_5, z20_6, z20_7, z20_8, z20_9, y20_0, y20_1, y20_2, y20_3, y20_4, y20_5, y20_6, y20_7, y20_8, y20_9⟩ := box10 BK701.out) | (go_at_call 20; (with_reducible refine (tailwaterref29_Accepted.calls k a0_0 _ _ l0_1 _ _ l0_2 a0_3 _ _ l0_4 a0_5 a0_6 a0_7 a0_8 a0_9 true _ ?side1 ?side2 ?side3 ?side4 ?side5 ?side6 A13.out).mono ?_); (case side1 => exact CB HR0_1.out HB.out); (case side2 => exact HC0_1.out); (case side3 => exact CB HR0_2.out HB.out); (case side4 => exact HC0_2.out); (case side5 => exact CB HR0_4.out HB.out); (case side6 => exact HC0_4.out); rintro e w21 ⟨rfl, hb⟩; have n0_ := Aside0.mk (blkB BK701.out hb); have n1_ := Aside0.mk (blkB BK702.out hb); have n2_ := Aside0.mk (below_step (by repeat (first | (with_reducible first | exact HB.out | apply below_alloc | apply pw_below_drewN | apply below_drew1 | refine below_set ?_ GE701.out | refine below_set ?_ GE702.out) | exact HB.out)) hb); clear BK701; clear BK702; clear HB; have BK701 := n0_; have BK702 := n1_; have HB := n2_; clear n0_ n1_ n2_; (try clear hb); (try clear hb2); (try clear hk); (try clear hi); obtain ⟨z22_0, z22_1, z22_2, y22_0, y22_1, y22_2⟩ := box3 BK702.out) | (go_at_call 23; (with_reducible refine (tailwaterref25_Right.calls a1_0 a1_1 a1_2 true _ A15.out).mono ?_); rintro e w23 ⟨rfl, hb⟩; have n0_ := Aside0.mk (blkB BK701.out hb); have n1_ := Aside0.mk (blkB BK702.out hb); have n2_ := Aside0.mk (below_step (by repeat (first | (with_reducible first | exact HB.out | apply below_alloc | apply pw_below_drewN | apply below_drew1 | refine below_set ?_ GE701.out | refine below_set ?_ GE702.out) | exact HB.out)) hb); clear BK701; clear BK702; clear HB; have BK701 := n0_; have BK702 := n1_; have HB := n2_; clear n0_ n1_ n2_; (try clear hb); (try clear hb2); (try clear hk); (try clear hi)))
     go_meet
     case rel => exact ⟨_, (!t703), (by first | rfl | (simp; done) | (simp [*]; done)), H', ⟨by first | omega | exact Nat.le_refl _⟩, ⟨by (with_reducible repeat (first | refine blk_drewN ?_ _ | refine blk_drew ?_ | refine blk_alloc ?_ _)); exact BK701.out⟩, ⟨by (with_reducible repeat (first | refine blk_drewN ?_ _ | refine blk_drew ?_ | refine blk_alloc ?_ _)); exact BK702.out⟩, ⟨by repeat (first | (with_reducible first | exact HB.out | apply below_alloc | apply pw_below_drewN | apply below_drew1 | refine below_set ?_ GE701.out | refine below_set ?_ GE702.out) | exact HB.out)⟩⟩
    ·replace c16 := Bool.eq_false_iff.mpr c16
     subst c16
     rw [if_neg (show ¬ (false = true) by decide)] at H
     have H' := Aside0.mk H
     clear H
     have hnb24 := NB701_702.out
     have hnc24 := NB702_701.out
     obtain ⟨z25_0, z25_1, z25_2, z25_3, z25_4, z25_5, z25_6, z25_7, z25_8, z25_9, y25_0, y25_1, y25_2, y25_3, y25_4, y25_5, y25_6, y25_7, y25_8, y25_9⟩ := box10 BK701.out
     go_wp2_with (first | ((with_reducible refine gate_callee (f := 19) rfl ?_); refine goesL_ (some 16) rfl rfl Try.func19 (by kernel_rfl) rfl #[.agg #[.int .u8 a0_0, .slice A0_1 l0_1.length c0_1, .slice A0_2 l0_2.length c0_2, .bool a0_3, .slice A0_4 l0_4.length c0_4, .int .u8 a0_5, .int .i64 a0_6, .int .i64 a0_7, .bool a0_8, .int .u8 a0_9]] rfl (by (try simp only [List.map_toArray, List.map_cons, List.map_nil]); first | done | rfl | (simp only [List.length_drop, List.length_take]; rfl)) ?_; (with_reducible refine (tailwaterlaw29_great.calls a0_0 _ _ l0_1 _ _ l0_2 a0_3 _ _ l0_4 a0_5 a0_6 a0_7 a0_8 a0_9 false _ ?side1 ?side2 ?side3 ?side4 ?side5 ?side6 A8.out).mono ?_); (case side1 => exact CB HR0_1.out HB.out); (case side2 => exact HC0_1.out); (case side3 => exact CB HR0_2.out HB.out); (case side4 => exact HC0_2.out); (case side5 => exact CB HR0_4.out HB.out); (case side6 => exact HC0_4.out); rintro e w26 ⟨rfl, hb⟩; refine ⟨_, rfl, ?_⟩; have n0_ := Aside0.mk (blkB BK701.out hb); have n1_ := Aside0.mk (blkB BK702.out hb); have n2_ := Aside0.mk (below_step (by repeat (first | (with_reducible first | exact HB.out | apply below_alloc | apply pw_below_drewN | apply below_drew1 | refine below_set ?_ GE701.out | refine below_set ?_ GE702.out) | exact HB.out)) hb); clear BK701; clear BK702; clear HB; have BK701 := n0_; have BK702 := n1_; have HB := n2_; clear n0_ n1_ n2_; (try clear hb); (try clear hb2); (try clear hk); (try clear hi); obtain ⟨z27_0, z27_1, z27_2, z27_3, z27_4, z27_5, z27_6, z27_7, z27_8, z27_9, y27_0, y27_1, y27_2, y27_3, y27_4, y27_5, y27_6, y27_7, y27_8, y27_9⟩ := box10 BK701.out) | (go_at_call 20; (with_reducible refine (tailwaterref29_Accepted.calls k a0_0 _ _ l0_1 _ _ l0_2 a0_3 _ _ l0_4 a0_5 a0_6 a0_7 a0_8 a0_9 true _ ?side1 ?side2 ?side3 ?side4 ?side5 ?side6 A13.out).mono ?_); (case side1 => exact CB HR0_1.out HB.out); (case side2 => exact HC0_1.out); (case side3 => exact CB HR0_2.out HB.out); (case side4 => exact HC0_2.out); (case side5 => exact CB HR0_4.out HB.out); (case side6 => exact HC0_4.out); rintro e w28 ⟨rfl, hb⟩; have n0_ := Aside0.mk (blkB BK701.out hb); have n1_ := Aside0.mk (blkB BK702.out hb); have n2_ := Aside0.mk (below_step (by repeat (first | (with_reducible first | exact HB.out | apply below_alloc | apply pw_below_drewN | apply below_drew1 | refine below_set ?_ GE701.out | refine below_set ?_ GE702.out) | exact HB.out)) hb); clear BK701; clear BK702; clear HB; have BK701 := n0_; have BK702 := n1_; have HB := n2_; clear n0_ n1_ n2_; (try clear hb); (try clear hb2); (try clear hk); (try clear hi); obtain ⟨z29_0, z29_1, z29_2, y29_0, y29_1, y29_2⟩ := box3 BK702.out) | (go_at_call 23; (with_reducible refine (tailwaterref25_Right.calls a1_0 a1_1 a1_2 false _ A15.out).mono ?_); rintro e w30 ⟨rfl, hb⟩; have n0_ := Aside0.mk (blkB BK701.out hb); have n1_ := Aside0.mk (blkB BK702.out hb); have n2_ := Aside0.mk (below_step (by repeat (first | (with_reducible first | exact HB.out | apply below_alloc | apply pw_below_drewN | apply below_drew1 | refine below_set ?_ GE701.out | refine below_set ?_ GE702.out) | exact HB.out)) hb); clear BK701; clear BK702; clear HB; have BK701 := n0_; have BK702 := n1_; have HB := n2_; clear n0_ n1_ n2_; (try clear hb); (try clear hb2); (try clear hk); (try clear hi)))
     go_meet
     case rel => exact ⟨_, (true), (by first | rfl | (simp; done) | (simp [*]; done)), H', ⟨by first | omega | exact Nat.le_refl _⟩, ⟨by (with_reducible repeat (first | refine blk_drewN ?_ _ | refine blk_drew ?_ | refine blk_alloc ?_ _)); exact BK701.out⟩, ⟨by (with_reducible repeat (first | refine blk_drewN ?_ _ | refine blk_drew ?_ | refine blk_alloc ?_ _)); exact BK702.out⟩, ⟨by repeat (first | (with_reducible first | exact HB.out | apply below_alloc | apply pw_below_drewN | apply below_drew1 | refine below_set ?_ GE701.out | refine below_set ?_ GE702.out) | exact HB.out)⟩⟩
   ·replace c14 := Bool.eq_false_iff.mpr c14
    subst c14
    rw [if_neg (show ¬ (false = true) by decide)] at H
    have H' := Aside0.mk H
    clear H
    have hnb31 := NB701_702.out
    have hnc31 := NB702_701.out
    obtain ⟨z32_0, z32_1, z32_2, z32_3, z32_4, z32_5, z32_6, z32_7, z32_8, z32_9, y32_0, y32_1, y32_2, y32_3, y32_4, y32_5, y32_6, y32_7, y32_8, y32_9⟩ := box10 BK701.out
    go_wp2_with (first | ((with_reducible refine gate_callee (f := 19) rfl ?_); refine goesL_ (some 16) rfl rfl Try.func19 (by kernel_rfl) rfl #[.agg #[.int .u8 a0_0, .slice A0_1 l0_1.length c0_1, .slice A0_2 l0_2.length c0_2, .bool a0_3, .slice A0_4 l0_4.length c0_4, .int .u8 a0_5, .int .i64 a0_6, .int .i64 a0_7, .bool a0_8, .int .u8 a0_9]] rfl (by (try simp only [List.map_toArray, List.map_cons, List.map_nil]); first | done | rfl | (simp only [List.length_drop, List.length_take]; rfl)) ?_; (with_reducible refine (tailwaterlaw29_great.calls a0_0 _ _ l0_1 _ _ l0_2 a0_3 _ _ l0_4 a0_5 a0_6 a0_7 a0_8 a0_9 false _ ?side1 ?side2 ?side3 ?side4 ?side5 ?side6 A8.out).mono ?_); (case side1 => exact CB HR0_1.out HB.out); (case side2 => exact HC0_1.out); (case side3 => exact CB HR0_2.out HB.out); (case side4 => exact HC0_2.out); (case side5 => exact CB HR0_4.out HB.out); (case side6 => exact HC0_4.out); rintro e w33 ⟨rfl, hb⟩; refine ⟨_, rfl, ?_⟩; have n0_ := Aside0.mk (blkB BK701.out hb); have n1_ := Aside0.mk (blkB BK702.out hb); have n2_ := Aside0.mk (below_step (by repeat (first | (with_reducible first | exact HB.out | apply below_alloc | apply pw_below_drewN | apply below_drew1 | refine below_set ?_ GE701.out | refine below_set ?_ GE702.out) | exact HB.out)) hb); clear BK701; clear BK702; clear HB; have BK701 := n0_; have BK702 := n1_; have HB := n2_; clear n0_ n1_ n2_; (try clear hb); (try clear hb2); (try clear hk); (try clear hi); obtain ⟨z34_0, z34_1, z34_2, z34_3, z34_4, z34_5, z34_6, z34_7, z34_8, z34_9, y34_0, y34_1, y34_2, y34_3, y34_4, y34_5, y34_6, y34_7, y34_8, y34_9⟩ := box10 BK701.out) | (go_at_call 20; (with_reducible refine (tailwaterref29_Accepted.calls k a0_0 _ _ l0_1 _ _ l0_2 a0_3 _ _ l0_4 a0_5 a0_6 a0_7 a0_8 a0_9 false _ ?side1 ?side2 ?side3 ?side4 ?side5 ?side6 A13.out).mono ?_); (case side1 => exact CB HR0_1.out HB.out); (case side2 => exact HC0_1.out); (case side3 => exact CB HR0_2.out HB.out); (case side4 => exact HC0_2.out); (case side5 => exact CB HR0_4.out HB.out); (case side6 => exact HC0_4.out); rintro e w35 ⟨rfl, hb⟩; have n0_ := Aside0.mk (blkB BK701.out hb); have n1_ := Aside0.mk (blkB BK702.out hb); have n2_ := Aside0.mk (below_step (by repeat (first | (with_reducible first | exact HB.out | apply below_alloc | apply pw_below_drewN | apply below_drew1 | refine below_set ?_ GE701.out | refine below_set ?_ GE702.out) | exact HB.out)) hb); clear BK701; clear BK702; clear HB; have BK701 := n0_; have BK702 := n1_; have HB := n2_; clear n0_ n1_ n2_; (try clear hb); (try clear hb2); (try clear hk); (try clear hi)))
    go_meet
    case rel => exact ⟨_, (true), (by first | rfl | (simp; done) | (simp [*]; done)), H', ⟨by first | omega | exact Nat.le_refl _⟩, ⟨by (with_reducible repeat (first | refine blk_drewN ?_ _ | refine blk_drew ?_ | refine blk_alloc ?_ _)); exact BK701.out⟩, ⟨by (with_reducible repeat (first | refine blk_drewN ?_ _ | refine blk_drew ?_ | refine blk_alloc ?_ _)); exact BK702.out⟩, ⟨by repeat (first | (with_reducible first | exact HB.out | apply below_alloc | apply pw_below_drewN | apply below_drew1 | refine below_set ?_ GE701.out | refine below_set ?_ GE702.out) | exact HB.out)⟩⟩
 case rest =>
  clear HC4
  try clear c1
  try clear c2
  try clear p2
  try clear c3
  try clear c6
  try clear c9
  try clear c10
  try clear c14
  try clear c16
  try clear c17
  try clear c18
  try clear c19
  try clear c24
  try clear c31
  try clear z11_0
  try clear z11_1
  try clear z11_2
  try clear z11_3
  try clear z11_4
  try clear z11_5
  try clear z11_6
  try clear z11_7
  try clear z11_8
  try clear z11_9
  try clear z18_0
  try clear z18_1
  try clear z18_2
  try clear z18_3
  try clear z18_4
  try clear z18_5
  try clear z18_6
  try clear z18_7
  try clear z18_8
  try clear z18_9
  try clear z20_0
  try clear z20_1
  try clear z20_2
  try clear z20_3
  try clear z20_4
  try clear z20_5
  try clear z20_6
  try clear z20_7
  try clear z20_8
  try clear z20_9
  try clear z22_0
  try clear z22_1
  try clear z22_2
  try clear z25_0
  try clear z25_1
  try clear z25_2
  try clear z25_3
  try clear z25_4
  try clear z25_5
  try clear z25_6
  try clear z25_7
  try clear z25_8
  try clear z25_9
  try clear z27_0
  try clear z27_1
  try clear z27_2
  try clear z27_3
  try clear z27_4
  try clear z27_5
  try clear z27_6
  try clear z27_7
  try clear z27_8
  try clear z27_9
  try clear z29_0
  try clear z29_1
  try clear z29_2
  try clear z32_0
  try clear z32_1
  try clear z32_2
  try clear z32_3
  try clear z32_4
  try clear z32_5
  try clear z32_6
  try clear z32_7
  try clear z32_8
  try clear z32_9
  try clear z34_0
  try clear z34_1
  try clear z34_2
  try clear z34_3
  try clear z34_4
  try clear z34_5
  try clear z34_6
  try clear z34_7
  try clear z34_8
  try clear z34_9
  try clear y11_0
  try clear y11_1
  try clear y11_2
  try clear y11_3
  try clear y11_4
  try clear y11_5
  try clear y11_6
  try clear y11_7
  try clear y11_8
  try clear y11_9
  try clear y18_0
  try clear y18_1
  try clear y18_2
  try clear y18_3
  try clear y18_4
  try clear y18_5
  try clear y18_6
  try clear y18_7
  try clear y18_8
  try clear y18_9
  try clear y20_0
  try clear y20_1
  try clear y20_2
  try clear y20_3
  try clear y20_4
  try clear y20_5
  try clear y20_6
  try clear y20_7
  try clear y20_8
  try clear y20_9
  try clear y22_0
  try clear y22_1
  try clear y22_2
  try clear y25_0
  try clear y25_1
  try clear y25_2
  try clear y25_3
  try clear y25_4
  try clear y25_5
  try clear y25_6
  try clear y25_7
  try clear y25_8
  try clear y25_9
  try clear y27_0
  try clear y27_1
  try clear y27_2
  try clear y27_3
  try clear y27_4
  try clear y27_5
  try clear y27_6
  try clear y27_7
  try clear y27_8
  try clear y27_9
  try clear y29_0
  try clear y29_1
  try clear y29_2
  try clear y32_0
  try clear y32_1
  try clear y32_2
  try clear y32_3
  try clear y32_4
  try clear y32_5
  try clear y32_6
  try clear y32_7
  try clear y32_8
  try clear y32_9
  try clear y34_0
  try clear y34_1
  try clear y34_2
  try clear y34_3
  try clear y34_4
  try clear y34_5
  try clear y34_6
  try clear y34_7
  try clear y34_8
  try clear y34_9
  obtain ⟨kq, x30_3, rfl, HA, HJ3, BK701, BK702, HB⟩ := hcut
  cases kq with
  | zero => exact absurd HA.out (by simp [tailwaterlaw29_FilterWhere.j0])
  | succ kj3 =>
   have H := HA.out
   clear HA
   simp only [tailwaterlaw29_FilterWhere.j0] at H
   by_cases c36 : x30_3 = true
   ·subst c36
    rw [if_pos rfl] at H
    obtain rfl := Option.some.inj H
    go_wp2
    go_ret
    exact ⟨by first | rfl | (simp [errW_none, errW_some] <;> rfl) | (simp [*, errW_none, errW_some] <;> rfl), by repeat (first | (with_reducible first | exact HB.out | apply below_alloc | apply pw_below_drewN | apply below_drew1 | refine below_set ?_ GE701.out | refine below_set ?_ GE702.out) | exact HB.out)⟩
   ·replace c36 := Bool.eq_false_iff.mpr c36
    subst c36
    rw [if_neg (show ¬ (false = true) by decide)] at H
    replace H := Option.bind_eq_some_iff.mp H
    obtain ⟨⟨t707, t708, t709, t710, t711⟩, A370, H⟩ := H
    try dsimp only at H
    have A37 := Aside0.mk A370
    clear A370
    by_cases c38 : t711 = 0
    ·rw [if_pos c38] at H
     have c38b0 : (t711 == 0) = true := beq_iff_eq.mpr c38
     have c38b1 : (t711 != 0) = false := bne_eq_false_iff_eq.mpr c38
     clear c38
     have HC39 := Aside0.mk H
     clear H
     have hnb40 := NB701_702.out
     have hnc40 := NB702_701.out
     obtain ⟨z41_0, z41_1, z41_2, z41_3, z41_4, z41_5, z41_6, z41_7, z41_8, z41_9, y41_0, y41_1, y41_2, y41_3, y41_4, y41_5, y41_6, y41_7, y41_8, y41_9⟩ := box10 BK701.out
     obtain ⟨z42_0, z42_1, z42_2, y42_0, y42_1, y42_2⟩ := box3 BK702.out
     go_upto_if 44 with (first | ((with_reducible refine gate_callee (f := 15) rfl ?_); refine goesL_ (some 35) rfl rfl Try.func15 (by kernel_rfl) rfl #[.agg #[.int .u8 a0_0, .slice A0_1 l0_1.length c0_1, .slice A0_2 l0_2.length c0_2, .bool a0_3, .slice A0_4 l0_4.length c0_4, .int .u8 a0_5, .int .i64 a0_6, .int .i64 a0_7, .bool a0_8, .int .u8 a0_9], .agg #[.int .i64 a1_0, .int .i64 a1_1, .int .i64 a1_2]] rfl (by (try simp only [List.map_toArray, List.map_cons, List.map_nil]); first | done | rfl | (simp only [List.length_drop, List.length_take]; rfl)) ?_; (with_reducible refine (filter_Project.calls a0_0 _ _ l0_1 _ _ l0_2 a0_3 _ _ l0_4 a0_5 a0_6 a0_7 a0_8 a0_9 a1_0 a1_1 a1_2 t707 t708 t709 t710 t711 _ ?side1 ?side2 ?side3 ?side4 ?side5 ?side6 A37.out).mono ?_); (case side1 => exact CB HR0_1.out HB.out); (case side2 => exact HC0_1.out); (case side3 => exact CB HR0_2.out HB.out); (case side4 => exact HC0_2.out); (case side5 => exact CB HR0_4.out HB.out); (case side6 => exact HC0_4.out); rintro e w43 ⟨rfl, hb⟩; refine ⟨_, rfl, ?_⟩; have n0_ := Aside0.mk (blkB BK701.out hb); have n1_ := Aside0.mk (blkB BK702.out hb); have n2_ := Aside0.mk (below_step (by repeat (first | (with_reducible first | exact HB.out | apply below_alloc | apply pw_below_drewN | apply below_drew1 | refine below_set ?_ GE701.out | refine below_set ?_ GE702.out) | exact HB.out)) hb); clear BK701; clear BK702; clear HB; have BK701 := n0_; have BK702 := n1_; have HB := n2_; clear n0_ n1_ n2_; (try clear hb); (try clear hb2); (try clear hk); (try clear hi)) | ((with_reducible refine gate_dst (N := 6) rfl ?_); refine box_event ?hg (N := 6) ?hd (cs := #[.int .i64 0, .int .i64 0, .int .i64 0]) (t := 43) ?hr ?_; (case hd => rfl); (case hg => rfl); (case hr => first | (go_simp; done) | (go_simp; rfl)); intro gb712 hg w44 hbox hb; have n0_ := Aside0.mk (blkB BK701.out hb); have n1_ := Aside0.mk (blkB BK702.out hb); have n2_ := Aside0.mk (below_step (by repeat (first | (with_reducible first | exact HB.out | apply below_alloc | apply pw_below_drewN | apply below_drew1 | refine below_set ?_ GE701.out | refine below_set ?_ GE702.out) | exact HB.out)) hb); have n3_ := Aside0.mk (hbox); have n4_ := Aside0.mk ((by rw [hg]; exact (below_size (by repeat (first | (with_reducible first | exact HB.out | apply below_alloc | apply pw_below_drewN | apply below_drew1 | refine below_set ?_ GE701.out | refine below_set ?_ GE702.out) | exact HB.out))) : w.heap.size ≤ gb712)); have n5_ := n4_; have n6_ := Aside0.mk (blkN BK701.out hg); have n7_ := Aside0.mk (blkN BK701.out hg).symm; have n8_ := Aside0.mk (blkN BK702.out hg); have n9_ := Aside0.mk (blkN BK702.out hg).symm; clear BK701; clear BK702; clear HB; have BK701 := n0_; have BK702 := n1_; have HB := n2_; have BK712 := n3_; have GW712 := n4_; have GE712 := n5_; have NB701_712 := n6_; have NB712_701 := n7_; have NB702_712 := n8_; have NB712_702 := n9_; clear n0_ n1_ n2_ n3_ n4_ n5_ n6_ n7_ n8_ n9_; clear hb hbox hg; have hnb45 := NB712_701.out; have hnc45 := NB701_712.out; have hnb46 := NB712_702.out; have hnc46 := NB702_712.out; obtain ⟨z47_0, z47_1, z47_2, y47_0, y47_1, y47_2⟩ := box3 BK712.out; obtain ⟨z48_0, z48_1, z48_2, z48_3, z48_4, z48_5, z48_6, z48_7, z48_8, z48_9, y48_0, y48_1, y48_2, y48_3, y48_4, y48_5, y48_6, y48_7, y48_8, y48_9⟩ := box10 BK701.out))
     (try simp only [Act.put, List.setIfInBounds_toArray, List.set_cons_zero, List.set_cons_succ])
     go_cut [] (fun wc => ∃ (kq : Nat), Aside0 (tailwaterlaw29_FilterWhere.j1 kq t703 t710 a0_0 l0_1 l0_2 a0_3 l0_4 a0_5 a0_6 a0_7 a0_8 a0_9 a1_0 a1_1 a1_2 t707 t708 t709 = some r) ∧ Aside0 (kq ≤ kj3) ∧ Aside0 (wc.heap[gb701]? = some (.cells #[.int .u8 a0_0, (.slice A0_1 l0_1.length c0_1), (.slice A0_2 l0_2.length c0_2), .bool a0_3, (.slice A0_4 l0_4.length c0_4), .int .u8 a0_5, .int .i64 a0_6, .int .i64 a0_7, .bool a0_8, .int .u8 a0_9] 41 (0, 0))) ∧ Aside0 (wc.heap[gb702]? = some (.cells #[.int .i64 a1_0, .int .i64 a1_1, .int .i64 a1_2] 43 (0, 0))) ∧ Aside0 (wc.heap[gb712]? = some (.cells #[.int .i64 t707, .int .i64 t708, .int .i64 t709] 43 (0, 0))) ∧ Aside0 (Below w.heap.size w wc))
     case first =>
      have H := HC39.out
      clear HC39
      by_cases c49 : (l0_4.length : Int) > 0
      ·rw [if_pos c49] at H
       have c49b0 : decide (0 < (l0_4.length : Int)) = true := decide_eq_true c49
       have c49b1 : decide (0 < l0_4.length) = true := decide_eq_true (by omega)
       have c49b1p : 0 < l0_4.length := of_decide_eq_true c49b1
       clear c49
       (first | rw [c49b0] | (simp only [i64_w, i32_w]; rw [c49b0]) | skip)
       replace H := Option.bind_eq_some_iff.mp H
       obtain ⟨⟨t713, t714⟩, A500, H⟩ := H
       try dsimp only at H
       have A50 := Aside0.mk A500
       clear A500
       by_cases c51 : t714 = 0
       ·rw [if_pos c51] at H
        have c51b0 : (t714 == 0) = true := beq_iff_eq.mpr c51
        have c51b1 : (t714 != 0) = false := bne_eq_false_iff_eq.mpr c51
        clear c51
        by_cases c52 : (t710 != (t713 != 0)) = true
        ·rw [if_pos c52] at H
         have c52b0 : (t710 != (t713 != 0)) = true := c52
         (try (have c52b1 : decide (t710 = (t713 != 0)) = false := by simpa using c52))
         (try (have c52b2 : (t710 == (t713 != 0)) = false := by simpa using c52))
         (try (have c52b3 : ¬ (t710 = (t713 != 0)) := by simpa using c52))
         clear c52
         exact absurd ((Option.some.inj H).trans HRT.out) (by decide)
        ·rw [if_neg c52] at H
         have c52b0 : (t710 != (t713 != 0)) = false := by simpa using c52
         (try (have c52b1 : decide (t710 = (t713 != 0)) = true := by simpa using c52))
         (try (have c52b2 : (t710 == (t713 != 0)) = true := by simpa using c52))
         have c52t : t710 = (t713 != 0) := by simpa using c52
         clear c52
         by_cases c52z : t713 = 0
         ·have z1 : (t713 == 0) = true := beq_iff_eq.mpr c52z
          have z2 : (t713 != 0) = false := bne_eq_false_iff_eq.mpr c52z
          have z3 : t710 = false := by rw [c52t, z2]
          clear c52z c52t
          subst z3
          have H' := Aside0.mk H
          clear H
          have hnb53 := NB701_702.out
          have hnc53 := NB702_701.out
          have hnb54 := NB701_712.out
          have hnc54 := NB712_701.out
          obtain ⟨z55_0, z55_1, z55_2, z55_3, z55_4, z55_5, z55_6, z55_7, z55_8, z55_9, y55_0, y55_1, y55_2, y55_3, y55_4, y55_5, y55_6, y55_7, y55_8, y55_9⟩ := box10 BK701.out
          have hnb56 := NB702_712.out
          have hnc56 := NB712_702.out
          obtain ⟨z57_0, z57_1, z57_2, y57_0, y57_1, y57_2⟩ := box3 BK702.out
          go_wp2_with (first | ((with_reducible refine gate_callee (f := 24) rfl ?_); refine goesL_ (some 49) rfl rfl Try.func24 (by kernel_rfl) rfl #[.slice A0_4 l0_4.length c0_4, .agg #[.int .i64 a1_0, .int .i64 a1_1, .int .i64 a1_2]] rfl (by (try simp only [List.map_toArray, List.map_cons, List.map_nil]); first | done | rfl | (simp only [List.length_drop, List.length_take]; rfl)) ?_; (with_reducible refine (evals_Of.calls _ _ l0_4 a1_0 a1_1 a1_2 t713 t714 _ ?side1 ?side2 A50.out).mono ?_); (case side1 => exact Kd.C_below HR0_4.out (by repeat (first | (with_reducible first | exact HB.out | apply below_alloc | apply pw_below_drewN | apply below_drew1 | refine below_set ?_ GE701.out | refine below_set ?_ GE702.out | refine below_set ?_ GE712.out) | exact HB.out))); (case side2 => exact HC0_4.out); rintro e w58 ⟨rfl, hb⟩; refine ⟨_, rfl, ?_⟩; have n0_ := Aside0.mk (blk_below (g := gb701) (o := .cells #[.int .u8 a0_0, .slice A0_1 l0_1.length c0_1, .slice A0_2 l0_2.length c0_2, .bool a0_3, .slice A0_4 l0_4.length c0_4, .int .u8 a0_5, .int .i64 a0_6, .int .i64 a0_7, .bool a0_8, .int .u8 a0_9] 41 (0, 0)) (by (with_reducible repeat (first | refine blk_drewN ?_ _ | refine blk_drew ?_ | refine blk_alloc ?_ _)); refine far3 ?_ NB701_712.out; (with_reducible repeat (first | refine blk_drewN ?_ _ | refine blk_drew ?_ | refine blk_alloc ?_ _)); exact BK701.out) hb); have n1_ := Aside0.mk (blk_below (g := gb702) (o := .cells #[.int .i64 a1_0, .int .i64 a1_1, .int .i64 a1_2] 43 (0, 0)) (by (with_reducible repeat (first | refine blk_drewN ?_ _ | refine blk_drew ?_ | refine blk_alloc ?_ _)); refine far3 ?_ NB702_712.out; (with_reducible repeat (first | refine blk_drewN ?_ _ | refine blk_drew ?_ | refine blk_alloc ?_ _)); exact BK702.out) hb); have n2_ := Aside0.mk (blk_below (g := gb712) (o := .cells #[.int .i64 t707, .int .i64 t708, .int .i64 t709] 43 (0, 0)) (by (with_reducible repeat (first | refine blk_drewN ?_ _ | refine blk_drew ?_ | refine blk_alloc ?_ _)); apply put3; (with_reducible repeat (first | refine blk_drewN ?_ _ | refine blk_drew ?_ | refine blk_alloc ?_ _)); exact BK712.out) hb); have n3_ := Aside0.mk (below_step (by repeat (first | (with_reducible first | exact HB.out | apply below_alloc | apply pw_below_drewN | apply below_drew1 | refine below_set ?_ GE701.out | refine below_set ?_ GE702.out | refine below_set ?_ GE712.out) | exact HB.out)) hb); clear BK701; clear BK702; clear BK712; clear HB; have BK701 := n0_; have BK702 := n1_; have BK712 := n2_; have HB := n3_; clear n0_ n1_ n2_ n3_; (try clear hb); (try clear hb2); (try clear hk); (try clear hi)))
          go_meet
          case rel => exact ⟨_, H', ⟨by have := HJ3.out; first | omega | exact Nat.le_refl _⟩, ⟨by (with_reducible repeat (first | refine blk_drewN ?_ _ | refine blk_drew ?_ | refine blk_alloc ?_ _)); exact BK701.out⟩, ⟨by (with_reducible repeat (first | refine blk_drewN ?_ _ | refine blk_drew ?_ | refine blk_alloc ?_ _)); exact BK702.out⟩, ⟨by (with_reducible repeat (first | refine blk_drewN ?_ _ | refine blk_drew ?_ | refine blk_alloc ?_ _)); exact BK712.out⟩, ⟨by repeat (first | (with_reducible first | exact HB.out | apply below_alloc | apply pw_below_drewN | apply below_drew1 | refine below_set ?_ GE701.out | refine below_set ?_ GE702.out | refine below_set ?_ GE712.out) | exact HB.out)⟩⟩
         ·have z1 : (t713 == 0) = false := beq_eq_false_iff_ne.mpr c52z
          have z2 : (t713 != 0) = true := bne_iff_ne.mpr c52z
          have z3 : (!t710) = false := by rw [c52t, z2]; rfl
          clear c52t
          have H' := Aside0.mk H
          clear H
          have hnb53 := NB701_702.out
          have hnc53 := NB702_701.out
          have hnb54 := NB701_712.out
          have hnc54 := NB712_701.out
          obtain ⟨z55_0, z55_1, z55_2, z55_3, z55_4, z55_5, z55_6, z55_7, z55_8, z55_9, y55_0, y55_1, y55_2, y55_3, y55_4, y55_5, y55_6, y55_7, y55_8, y55_9⟩ := box10 BK701.out
          have hnb56 := NB702_712.out
          have hnc56 := NB712_702.out
          obtain ⟨z57_0, z57_1, z57_2, y57_0, y57_1, y57_2⟩ := box3 BK702.out
          go_wp2_with (first | ((with_reducible refine gate_callee (f := 24) rfl ?_); refine goesL_ (some 49) rfl rfl Try.func24 (by kernel_rfl) rfl #[.slice A0_4 l0_4.length c0_4, .agg #[.int .i64 a1_0, .int .i64 a1_1, .int .i64 a1_2]] rfl (by (try simp only [List.map_toArray, List.map_cons, List.map_nil]); first | done | rfl | (simp only [List.length_drop, List.length_take]; rfl)) ?_; (with_reducible refine (evals_Of.calls _ _ l0_4 a1_0 a1_1 a1_2 t713 t714 _ ?side1 ?side2 A50.out).mono ?_); (case side1 => exact Kd.C_below HR0_4.out (by repeat (first | (with_reducible first | exact HB.out | apply below_alloc | apply pw_below_drewN | apply below_drew1 | refine below_set ?_ GE701.out | refine below_set ?_ GE702.out | refine below_set ?_ GE712.out) | exact HB.out))); (case side2 => exact HC0_4.out); rintro e w58 ⟨rfl, hb⟩; refine ⟨_, rfl, ?_⟩; have n0_ := Aside0.mk (blk_below (g := gb701) (o := .cells #[.int .u8 a0_0, .slice A0_1 l0_1.length c0_1, .slice A0_2 l0_2.length c0_2, .bool a0_3, .slice A0_4 l0_4.length c0_4, .int .u8 a0_5, .int .i64 a0_6, .int .i64 a0_7, .bool a0_8, .int .u8 a0_9] 41 (0, 0)) (by (with_reducible repeat (first | refine blk_drewN ?_ _ | refine blk_drew ?_ | refine blk_alloc ?_ _)); refine far3 ?_ NB701_712.out; (with_reducible repeat (first | refine blk_drewN ?_ _ | refine blk_drew ?_ | refine blk_alloc ?_ _)); exact BK701.out) hb); have n1_ := Aside0.mk (blk_below (g := gb702) (o := .cells #[.int .i64 a1_0, .int .i64 a1_1, .int .i64 a1_2] 43 (0, 0)) (by (with_reducible repeat (first | refine blk_drewN ?_ _ | refine blk_drew ?_ | refine blk_alloc ?_ _)); refine far3 ?_ NB702_712.out; (with_reducible repeat (first | refine blk_drewN ?_ _ | refine blk_drew ?_ | refine blk_alloc ?_ _)); exact BK702.out) hb); have n2_ := Aside0.mk (blk_below (g := gb712) (o := .cells #[.int .i64 t707, .int .i64 t708, .int .i64 t709] 43 (0, 0)) (by (with_reducible repeat (first | refine blk_drewN ?_ _ | refine blk_drew ?_ | refine blk_alloc ?_ _)); apply put3; (with_reducible repeat (first | refine blk_drewN ?_ _ | refine blk_drew ?_ | refine blk_alloc ?_ _)); exact BK712.out) hb); have n3_ := Aside0.mk (below_step (by repeat (first | (with_reducible first | exact HB.out | apply below_alloc | apply pw_below_drewN | apply below_drew1 | refine below_set ?_ GE701.out | refine below_set ?_ GE702.out | refine below_set ?_ GE712.out) | exact HB.out)) hb); clear BK701; clear BK702; clear BK712; clear HB; have BK701 := n0_; have BK702 := n1_; have BK712 := n2_; have HB := n3_; clear n0_ n1_ n2_ n3_; (try clear hb); (try clear hb2); (try clear hk); (try clear hi)))
          go_meet
          case rel => exact ⟨_, H', ⟨by have := HJ3.out; first | omega | exact Nat.le_refl _⟩, ⟨by (with_reducible repeat (first | refine blk_drewN ?_ _ | refine blk_drew ?_ | refine blk_alloc ?_ _)); exact BK701.out⟩, ⟨by (with_reducible repeat (first | refine blk_drewN ?_ _ | refine blk_drew ?_ | refine blk_alloc ?_ _)); exact BK702.out⟩, ⟨by (with_reducible repeat (first | refine blk_drewN ?_ _ | refine blk_drew ?_ | refine blk_alloc ?_ _)); exact BK712.out⟩, ⟨by repeat (first | (with_reducible first | exact HB.out | apply below_alloc | apply pw_below_drewN | apply below_drew1 | refine below_set ?_ GE701.out | refine below_set ?_ GE702.out | refine below_set ?_ GE712.out) | exact HB.out)⟩⟩
       ·rw [if_neg c51] at H
        have c51b0 : (t714 == 0) = false := beq_eq_false_iff_ne.mpr c51
        have c51b1 : (t714 != 0) = true := bne_iff_ne.mpr c51
        exact absurd ((Option.some.inj H).trans HRT.out) (by decide)
      ·rw [if_neg c49] at H
       have c49b0 : decide (0 < (l0_4.length : Int)) = false := decide_eq_false c49
       have c49b1 : decide (0 < l0_4.length) = false := decide_eq_false (by omega)
       have c49b1p : ¬ 0 < l0_4.length := of_decide_eq_false c49b1
       clear c49
       (first | rw [c49b0] | (simp only [i64_w, i32_w]; rw [c49b0]) | skip)
       by_cases c59 : t710 = true
       ·subst c59
        rw [if_pos rfl] at H
        have H' := Aside0.mk H
        clear H
        go_wp2
        go_meet
        case rel => exact ⟨_, H', ⟨by have := HJ3.out; first | omega | exact Nat.le_refl _⟩, ⟨by (with_reducible repeat (first | refine blk_drewN ?_ _ | refine blk_drew ?_ | refine blk_alloc ?_ _)); refine far3 ?_ NB701_712.out; (with_reducible repeat (first | refine blk_drewN ?_ _ | refine blk_drew ?_ | refine blk_alloc ?_ _)); exact BK701.out⟩, ⟨by (with_reducible repeat (first | refine blk_drewN ?_ _ | refine blk_drew ?_ | refine blk_alloc ?_ _)); refine far3 ?_ NB702_712.out; (with_reducible repeat (first | refine blk_drewN ?_ _ | refine blk_drew ?_ | refine blk_alloc ?_ _)); exact BK702.out⟩, ⟨by (with_reducible repeat (first | refine blk_drewN ?_ _ | refine blk_drew ?_ | refine blk_alloc ?_ _)); apply put3; (with_reducible repeat (first | refine blk_drewN ?_ _ | refine blk_drew ?_ | refine blk_alloc ?_ _)); exact BK712.out⟩, ⟨by repeat (first | (with_reducible first | exact HB.out | apply below_alloc | apply pw_below_drewN | apply below_drew1 | refine below_set ?_ GE701.out | refine below_set ?_ GE702.out | refine below_set ?_ GE712.out) | exact HB.out)⟩⟩
       ·replace c59 := Bool.eq_false_iff.mpr c59
        subst c59
        rw [if_neg (show ¬ (false = true) by decide)] at H
        exact absurd ((Option.some.inj H).trans HRT.out) (by decide)
     case rest =>
      clear HC39
      try clear c1
      try clear c2
      try clear p2
      try clear c3
      try clear c4
      try clear c5
      try clear c6
      try clear c9
      try clear c10
      try clear c14
      try clear c15
      try clear c16
      try clear c17
      try clear c18
      try clear c19
      try clear c24
      try clear c31
      try clear c36
      try clear c38
      try clear c38b0
      try clear c38b1
      try clear c40
      try clear c45
      try clear c46
      try clear c49
      try clear c49b0
      try clear c49b1
      try clear c51
      try clear c51b0
      try clear c51b1
      try clear c52
      try clear c52b0
      try clear c52b1
      try clear c52b2
      try clear c53
      try clear c54
      try clear c56
      try clear c59
      try clear z11_0
      try clear z11_1
      try clear z11_2
      try clear z11_3
      try clear z11_4
      try clear z11_5
      try clear z11_6
      try clear z11_7
      try clear z11_8
      try clear z11_9
      try clear z18_0
      try clear z18_1
      try clear z18_2
      try clear z18_3
      try clear z18_4
      try clear z18_5
      try clear z18_6
      try clear z18_7
      try clear z18_8
      try clear z18_9
      try clear z20_0
      try clear z20_1
      try clear z20_2
      try clear z20_3
      try clear z20_4
      try clear z20_5
      try clear z20_6
      try clear z20_7
      try clear z20_8
      try clear z20_9
      try clear z22_0
      try clear z22_1
      try clear z22_2
      try clear z25_0
      try clear z25_1
      try clear z25_2
      try clear z25_3
      try clear z25_4
      try clear z25_5
      try clear z25_6
      try clear z25_7
      try clear z25_8
      try clear z25_9
      try clear z27_0
      try clear z27_1
      try clear z27_2
      try clear z27_3
      try clear z27_4
      try clear z27_5
      try clear z27_6
      try clear z27_7
      try clear z27_8
      try clear z27_9
      try clear z29_0
      try clear z29_1
      try clear z29_2
      try clear z32_0
      try clear z32_1
      try clear z32_2
      try clear z32_3
      try clear z32_4
      try clear z32_5
      try clear z32_6
      try clear z32_7
      try clear z32_8
      try clear z32_9
      try clear z34_0
      try clear z34_1
      try clear z34_2
      try clear z34_3
      try clear z34_4
      try clear z34_5
      try clear z34_6
      try clear z34_7
      try clear z34_8
      try clear z34_9
      try clear z41_0
      try clear z41_1
      try clear z41_2
      try clear z41_3
      try clear z41_4
      try clear z41_5
      try clear z41_6
      try clear z41_7
      try clear z41_8
      try clear z41_9
      try clear z42_0
      try clear z42_1
      try clear z42_2
      try clear z47_0
      try clear z47_1
      try clear z47_2
      try clear z48_0
      try clear z48_1
      try clear z48_2
      try clear z48_3
      try clear z48_4
      try clear z48_5
      try clear z48_6
      try clear z48_7
      try clear z48_8
      try clear z48_9
      try clear z55_0
      try clear z55_1
      try clear z55_2
      try clear z55_3
      try clear z55_4
      try clear z55_5
      try clear z55_6
      try clear z55_7
      try clear z55_8
      try clear z55_9
      try clear z57_0
      try clear z57_1
      try clear z57_2
      try clear y11_0
      try clear y11_1
      try clear y11_2
      try clear y11_3
      try clear y11_4
      try clear y11_5
      try clear y11_6
      try clear y11_7
      try clear y11_8
      try clear y11_9
      try clear y18_0
      try clear y18_1
      try clear y18_2
      try clear y18_3
      try clear y18_4
      try clear y18_5
      try clear y18_6
      try clear y18_7
      try clear y18_8
      try clear y18_9
      try clear y20_0
      try clear y20_1
      try clear y20_2
      try clear y20_3
      try clear y20_4
      try clear y20_5
      try clear y20_6
      try clear y20_7
      try clear y20_8
      try clear y20_9
      try clear y22_0
      try clear y22_1
      try clear y22_2
      try clear y25_0
      try clear y25_1
      try clear y25_2
      try clear y25_3
      try clear y25_4
      try clear y25_5
      try clear y25_6
      try clear y25_7
      try clear y25_8
      try clear y25_9
      try clear y27_0
      try clear y27_1
      try clear y27_2
      try clear y27_3
      try clear y27_4
      try clear y27_5
      try clear y27_6
      try clear y27_7
      try clear y27_8
      try clear y27_9
      try clear y29_0
      try clear y29_1
      try clear y29_2
      try clear y32_0
      try clear y32_1
      try clear y32_2
      try clear y32_3
      try clear y32_4
      try clear y32_5
      try clear y32_6
      try clear y32_7
      try clear y32_8
      try clear y32_9
      try clear y34_0
      try clear y34_1
      try clear y34_2
      try clear y34_3
      try clear y34_4
      try clear y34_5
      try clear y34_6
      try clear y34_7
      try clear y34_8
      try clear y34_9
      try clear y41_0
      try clear y41_1
      try clear y41_2
      try clear y41_3
      try clear y41_4
      try clear y41_5
      try clear y41_6
      try clear y41_7
      try clear y41_8
      try clear y41_9
      try clear y42_0
      try clear y42_1
      try clear y42_2
      try clear y47_0
      try clear y47_1
      try clear y47_2
      try clear y48_0
      try clear y48_1
      try clear y48_2
      try clear y48_3
      try clear y48_4
      try clear y48_5
      try clear y48_6
      try clear y48_7
      try clear y48_8
      try clear y48_9
      try clear y55_0
      try clear y55_1
      try clear y55_2
      try clear y55_3
      try clear y55_4
      try clear y55_5
      try clear y55_6
      try clear y55_7
      try clear y55_8
      try clear y55_9
      try clear y57_0
      try clear y57_1
      try clear y57_2
      try clear p2
      obtain ⟨kq, HA, HJ38, BK701, BK702, BK712, HB⟩ := hcut
      cases kq with
      | zero => exact absurd HA.out (by simp [tailwaterlaw29_FilterWhere.j1])
      | succ kj38 =>
       have H := HA.out
       clear HA
       simp only [tailwaterlaw29_FilterWhere.j1] at H
       by_cases c60 : t710 = true
       ·subst c60
        rw [if_pos rfl] at H
        by_cases c61 : a0_0 = 1
        ·rw [if_pos c61] at H
         have c61b0 : (a0_0 == 1) = true := beq_iff_eq.mpr c61
         have c61b1 : (a0_0 != 1) = false := bne_eq_false_iff_eq.mpr c61
         clear c61
         by_cases c62 : t703 = true
         ·subst c62
          rw [if_pos rfl] at H
          by_cases c63 : t708 = a1_1
          ·rw [if_pos c63] at H
           have c63b0 : (t708 == a1_1) = true := beq_iff_eq.mpr c63
           have c63b1 : (t708 != a1_1) = false := bne_eq_false_iff_eq.mpr c63
           clear c63
           by_cases c64 : t709 = 0
           ·rw [if_pos c64] at H
            have c64b0 : (t709 == 0) = true := beq_iff_eq.mpr c64
            have c64b1 : (t709 != 0) = false := bne_eq_false_iff_eq.mpr c64
            clear c64
            by_cases c65 : a0_8 = true
            ·subst c65
             rw [if_pos rfl] at H
             by_cases c66 : t707 = a1_0
             ·rw [if_pos c66] at H
              have c66b0 : (t707 == a1_0) = true := beq_iff_eq.mpr c66
              have c66b1 : (t707 != a1_0) = false := bne_eq_false_iff_eq.mpr c66
              clear c66
              obtain rfl := Option.some.inj H
              have hnb67 := NB701_702.out
              have hnc67 := NB702_701.out
              have hnb68 := NB701_712.out
              have hnc68 := NB712_701.out
              obtain ⟨z69_0, z69_1, z69_2, z69_3, z69_4, z69_5, z69_6, z69_7, z69_8, z69_9, y69_0, y69_1, y69_2, y69_3, y69_4, y69_5, y69_6, y69_7, y69_8, y69_9⟩ := box10 BK701.out
              have hnb70 := NB712_702.out
              have hnc70 := NB702_712.out
              obtain ⟨z71_0, z71_1, z71_2, y71_0, y71_1, y71_2⟩ := box3 BK712.out
              obtain ⟨z72_0, z72_1, z72_2, y72_0, y72_1, y72_2⟩ := box3 BK702.out
              go_wp2
              go_ret
              exact ⟨by first | rfl | (simp [errW_none, errW_some] <;> rfl) | (simp [*, errW_none, errW_some] <;> rfl), by repeat (first | (with_reducible first | exact HB.out | apply below_alloc | apply pw_below_drewN | apply below_drew1 | refine below_set ?_ GE702.out) | exact HB.out)⟩
             ·rw [if_neg c66] at H
              have c66b0 : (t707 == a1_0) = false := beq_eq_false_iff_ne.mpr c66
              have c66b1 : (t707 != a1_0) = true := bne_iff_ne.mpr c66
              exact absurd ((Option.some.inj H).trans HRT.out) (by decide)
            ·replace c65 := Bool.eq_false_iff.mpr c65
             subst c65
             rw [if_neg (show ¬ (false = true) by decide)] at H
             obtain rfl := Option.some.inj H
             have hnb73 := NB701_702.out
             have hnc73 := NB702_701.out
             have hnb74 := NB701_712.out
             have hnc74 := NB712_701.out
             obtain ⟨z75_0, z75_1, z75_2, z75_3, z75_4, z75_5, z75_6, z75_7, z75_8, z75_9, y75_0, y75_1, y75_2, y75_3, y75_4, y75_5, y75_6, y75_7, y75_8, y75_9⟩ := box10 BK701.out
             have hnb76 := NB712_702.out
             have hnc76 := NB702_712.out
             obtain ⟨z77_0, z77_1, z77_2, y77_0, y77_1, y77_2⟩ := box3 BK712.out
             obtain ⟨z78_0, z78_1, z78_2, y78_0, y78_1, y78_2⟩ := box3 BK702.out
             go_wp2
             go_ret
             exact ⟨by first | rfl | (simp [errW_none, errW_some] <;> rfl) | (simp [*, errW_none, errW_some] <;> rfl), by repeat (first | (with_reducible first | exact HB.out | apply below_alloc | apply pw_below_drewN | apply below_drew1 | refine below_set ?_ GE712.out) | exact HB.out)⟩
           ·rw [if_neg c64] at H
            have c64b0 : (t709 == 0) = false := beq_eq_false_iff_ne.mpr c64
            have c64b1 : (t709 != 0) = true := bne_iff_ne.mpr c64
            exact absurd ((Option.some.inj H).trans HRT.out) (by decide)
          ·rw [if_neg c63] at H
           have c63b0 : (t708 == a1_1) = false := beq_eq_false_iff_ne.mpr c63
           have c63b1 : (t708 != a1_1) = true := bne_iff_ne.mpr c63
           exact absurd ((Option.some.inj H).trans HRT.out) (by decide)
         ·replace c62 := Bool.eq_false_iff.mpr c62
          subst c62
          rw [if_neg (show ¬ (false = true) by decide)] at H
          exact absurd ((Option.some.inj H).trans HRT.out) (by decide)
        ·rw [if_neg c61] at H
         have c61b0 : (a0_0 == 1) = false := beq_eq_false_iff_ne.mpr c61
         have c61b1 : (a0_0 != 1) = true := bne_iff_ne.mpr c61
         replace H := Option.bind_eq_some_iff.mp H
         obtain ⟨⟨t715, t716⟩, A790, H⟩ := H
         try dsimp only at H
         have A79 := Aside0.mk A790
         clear A790
         by_cases c80 : t716 = 0
         ·rw [if_pos c80] at H
          have c80b0 : (t716 == 0) = true := beq_iff_eq.mpr c80
          have c80b1 : (t716 != 0) = false := bne_eq_false_iff_eq.mpr c80
          clear c80
          by_cases c81 : t703 = true
          ·subst c81
           rw [if_pos rfl] at H
           by_cases c82 : t708 = a1_1
           ·rw [if_pos c82] at H
            have c82b0 : (t708 == a1_1) = true := beq_iff_eq.mpr c82
            have c82b1 : (t708 != a1_1) = false := bne_eq_false_iff_eq.mpr c82
            clear c82
            by_cases c83 : t709 = t715
            ·rw [if_pos c83] at H
             have c83b0 : (t709 == t715) = true := beq_iff_eq.mpr c83
             have c83b1 : (t709 != t715) = false := bne_eq_false_iff_eq.mpr c83
             clear c83
             by_cases c84 : a0_8 = true
             ·subst c84
              rw [if_pos rfl] at H
              by_cases c85 : t707 = a1_0
              ·rw [if_pos c85] at H
               have c85b0 : (t707 == a1_0) = true := beq_iff_eq.mpr c85
               have c85b1 : (t707 != a1_0) = false := bne_eq_false_iff_eq.mpr c85
               clear c85
               obtain rfl := Option.some.inj H
               have hnb86 := NB701_702.out
               have hnc86 := NB702_701.out
               have hnb87 := NB701_712.out
               have hnc87 := NB712_701.out
               obtain ⟨z88_0, z88_1, z88_2, z88_3, z88_4, z88_5, z88_6, z88_7, z88_8, z88_9, y88_0, y88_1, y88_2, y88_3, y88_4, y88_5, y88_6, y88_7, y88_8, y88_9⟩ := box10 BK701.out
               have hnb89 := NB702_712.out
               have hnc89 := NB712_702.out
               obtain ⟨z90_0, z90_1, z90_2, y90_0, y90_1, y90_2⟩ := box3 BK702.out
               go_wp2_with (first | ((with_reducible refine gate_callee (f := 24) rfl ?_); refine goesL_ (some 77) rfl rfl Try.func24 (by kernel_rfl) rfl #[.slice A0_1 l0_1.length c0_1, .agg #[.int .i64 a1_0, .int .i64 a1_1, .int .i64 a1_2]] rfl (by (try simp only [List.map_toArray, List.map_cons, List.map_nil]); first | done | rfl | (simp only [List.length_drop, List.length_take]; rfl)) ?_; (with_reducible refine (evals_Of.calls _ _ l0_1 a1_0 a1_1 a1_2 t715 t716 _ ?side1 ?side2 A79.out).mono ?_); (case side1 => exact CB HR0_1.out HB.out); (case side2 => exact HC0_1.out); rintro e w91 ⟨rfl, hb⟩; refine ⟨_, rfl, ?_⟩; have n0_ := Aside0.mk (blkB BK701.out hb); have n1_ := Aside0.mk (blkB BK702.out hb); have n2_ := Aside0.mk (blkB BK712.out hb); have n3_ := Aside0.mk (below_step (by repeat (first | (with_reducible first | exact HB.out | apply below_alloc | apply pw_below_drewN | apply below_drew1 | refine below_set ?_ GE701.out | refine below_set ?_ GE702.out | refine below_set ?_ GE712.out) | exact HB.out)) hb); clear BK701; clear BK702; clear BK712; clear HB; have BK701 := n0_; have BK702 := n1_; have BK712 := n2_; have HB := n3_; clear n0_ n1_ n2_ n3_; (try clear hb); (try clear hb2); (try clear hk); (try clear hi); obtain ⟨z92_0, z92_1, z92_2, y92_0, y92_1, y92_2⟩ := box3 BK712.out; obtain ⟨z93_0, z93_1, z93_2, y93_0, y93_1, y93_2⟩ := box3 BK702.out; obtain ⟨z94_0, z94_1, z94_2, z94_3, z94_4, z94_5, z94_6, z94_7, z94_8, z94_9, y94_0, y94_1, y94_2, y94_3, y94_4, y94_5, y94_6, y94_7, y94_8, y94_9⟩ := box10 BK701.out))
               go_ret
               exact ⟨by first | rfl | (simp [errW_none, errW_some] <;> rfl) | (simp [*, errW_none, errW_some] <;> rfl), by repeat (first | (with_reducible first | exact HB.out | apply below_alloc | apply pw_below_drewN | apply below_drew1 | refine below_set ?_ GE702.out) | exact HB.out)⟩
              ·rw [if_neg c85] at H
               have c85b0 : (t707 == a1_0) = false := beq_eq_false_iff_ne.mpr c85
               have c85b1 : (t707 != a1_0) = true := bne_iff_ne.mpr c85
               exact absurd ((Option.some.inj H).trans HRT.out) (by decide)
             ·replace c84 := Bool.eq_false_iff.mpr c84
              subst c84
              rw [if_neg (show ¬ (false = true) by decide)] at H
              obtain rfl := Option.some.inj H
              have hnb95 := NB701_702.out
              have hnc95 := NB702_701.out
              have hnb96 := NB701_712.out
              have hnc96 := NB712_701.out
              obtain ⟨z97_0, z97_1, z97_2, z97_3, z97_4, z97_5, z97_6, z97_7, z97_8, z97_9, y97_0, y97_1, y97_2, y97_3, y97_4, y97_5, y97_6, y97_7, y97_8, y97_9⟩ := box10 BK701.out
              have hnb98 := NB702_712.out
              have hnc98 := NB712_702.out
              obtain ⟨z99_0, z99_1, z99_2, y99_0, y99_1, y99_2⟩ := box3 BK702.out
              go_wp2_with (first | ((with_reducible refine gate_callee (f := 24) rfl ?_); refine goesL_ (some 77) rfl rfl Try.func24 (by kernel_rfl) rfl #[.slice A0_1 l0_1.length c0_1, .agg #[.int .i64 a1_0, .int .i64 a1_1, .int .i64 a1_2]] rfl (by (try simp only [List.map_toArray, List.map_cons, List.map_nil]); first | done | rfl | (simp only [List.length_drop, List.length_take]; rfl)) ?_; (with_reducible refine (evals_Of.calls _ _ l0_1 a1_0 a1_1 a1_2 t715 t716 _ ?side1 ?side2 A79.out).mono ?_); (case side1 => exact CB HR0_1.out HB.out); (case side2 => exact HC0_1.out); rintro e w100 ⟨rfl, hb⟩; refine ⟨_, rfl, ?_⟩; have n0_ := Aside0.mk (blkB BK701.out hb); have n1_ := Aside0.mk (blkB BK702.out hb); have n2_ := Aside0.mk (blkB BK712.out hb); have n3_ := Aside0.mk (below_step (by repeat (first | (with_reducible first | exact HB.out | apply below_alloc | apply pw_below_drewN | apply below_drew1 | refine below_set ?_ GE701.out | refine below_set ?_ GE702.out | refine below_set ?_ GE712.out) | exact HB.out)) hb); clear BK701; clear BK702; clear BK712; clear HB; have BK701 := n0_; have BK702 := n1_; have BK712 := n2_; have HB := n3_; clear n0_ n1_ n2_ n3_; (try clear hb); (try clear hb2); (try clear hk); (try clear hi); obtain ⟨z101_0, z101_1, z101_2, y101_0, y101_1, y101_2⟩ := box3 BK712.out; obtain ⟨z102_0, z102_1, z102_2, y102_0, y102_1, y102_2⟩ := box3 BK702.out; obtain ⟨z103_0, z103_1, z103_2, z103_3, z103_4, z103_5, z103_6, z103_7, z103_8, z103_9, y103_0, y103_1, y103_2, y103_3, y103_4, y103_5, y103_6, y103_7, y103_8, y103_9⟩ := box10 BK701.out))
              go_ret
              exact ⟨by first | rfl | (simp [errW_none, errW_some] <;> rfl) | (simp [*, errW_none, errW_some] <;> rfl), by repeat (first | (with_reducible first | exact HB.out | apply below_alloc | apply pw_below_drewN | apply below_drew1 | refine below_set ?_ GE712.out) | exact HB.out)⟩
            ·rw [if_neg c83] at H
             have c83b0 : (t709 == t715) = false := beq_eq_false_iff_ne.mpr c83
             have c83b1 : (t709 != t715) = true := bne_iff_ne.mpr c83
             exact absurd ((Option.some.inj H).trans HRT.out) (by decide)
           ·rw [if_neg c82] at H
            have c82b0 : (t708 == a1_1) = false := beq_eq_false_iff_ne.mpr c82
            have c82b1 : (t708 != a1_1) = true := bne_iff_ne.mpr c82
            exact absurd ((Option.some.inj H).trans HRT.out) (by decide)
          ·replace c81 := Bool.eq_false_iff.mpr c81
           subst c81
           rw [if_neg (show ¬ (false = true) by decide)] at H
           exact absurd ((Option.some.inj H).trans HRT.out) (by decide)
         ·rw [if_neg c80] at H
          have c80b0 : (t716 == 0) = false := beq_eq_false_iff_ne.mpr c80
          have c80b1 : (t716 != 0) = true := bne_iff_ne.mpr c80
          exact absurd ((Option.some.inj H).trans HRT.out) (by decide)
       ·replace c60 := Bool.eq_false_iff.mpr c60
        subst c60
        rw [if_neg (show ¬ (false = true) by decide)] at H
        by_cases c104 : t703 = true
        ·subst c104
         rw [if_pos rfl] at H
         obtain rfl := Option.some.inj H
         obtain ⟨z105_0, z105_1, z105_2, y105_0, y105_1, y105_2⟩ := box3 BK712.out
         go_wp2
         go_ret
         exact ⟨by first | rfl | (simp [errW_none, errW_some] <;> rfl) | (simp [*, errW_none, errW_some] <;> rfl), by repeat (first | (with_reducible first | exact HB.out | apply below_alloc | apply pw_below_drewN | apply below_drew1 | refine below_set ?_ GE712.out) | exact HB.out)⟩
        ·replace c104 := Bool.eq_false_iff.mpr c104
         subst c104
         rw [if_neg (show ¬ (false = true) by decide)] at H
         exact absurd ((Option.some.inj H).trans HRT.out) (by decide)
    ·rw [if_neg c38] at H
     have c38b0 : (t711 == 0) = false := beq_eq_false_iff_ne.mpr c38
     have c38b1 : (t711 != 0) = true := bne_iff_ne.mpr c38
     exact absurd ((Option.some.inj H).trans HRT.out) (by decide)

end Go.Proofs.Ytcdgohoinmbpfaa.M
