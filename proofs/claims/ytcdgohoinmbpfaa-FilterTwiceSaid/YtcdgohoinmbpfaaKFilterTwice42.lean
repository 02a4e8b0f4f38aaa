import Derived.Test.YtcdgohoinmbpfaaKFilterTwice6
import Derived.Test.YtcdgohoinmbpfaaKFilterTwice34
import Derived.Test.YtcdgohoinmbpfaaKFilterTwice35
import Derived.Test.YtcdgohoinmbpfaaKFilterTwice40
import Derived.Test.YtcdgohoinmbpfaaKFilterTwice41
namespace Go.Proofs.Ytcdgohoinmbpfaa.M
open Go.RowKit Go.Proofs.YtcdgohoinmbpfaaW.PrintWords Go.Proofs.YtcdgohoinmbpfaaW.PrintLast Go.Proofs.YtcdgohoinmbpfaaW.PrintMore
attribute [local go_sem] max2_int min2_int max_two min_two
set_option linter.unusedVariables false
set_option linter.unusedSimpArgs false

def tailwaterlaw29_passes.f (k : Nat) (a0_0 : Int) (l0_1 : List (S61)) (l0_2 : List Int) (a0_3 : Bool) (l0_4 : List (S61)) (a0_5 : Int) (a0_6 : Int) (a0_7 : Int) (a0_8 : Bool) (a0_9 : Int) (a1 : Int) (a2_0 : Int) (a2_1 : Int) (a2_2 : Int) (a2_3 : Int) (a2_4 : Int) (a2_5 : Int) (a2_6 : Int) (a2_7 : Int) (a2_8 : Int) (a2_9 : Int) (a3 : Int) (l4 : List (S55)) : Option (Bool) := (filter_Take.f k a0_0 l0_1 l0_2 a0_3 l0_4 a0_5 a0_6 a0_7 a0_8 a0_9 2 0 0 ([] : List (S55)) (([a1] : List Int)) ([] : List (S105)) ([] : List (S99)) ([] : List (S48)) ([] : List (S43)) a2_0 a2_1 a2_2 a2_3 a2_4 a2_5 a2_6 a2_7 a2_8 a2_9).bind fun bt415 => (if bt415.2.2.2.2.2.2.2.2.2 = 0 then (if (bt415.2.2.2.2.1.length : Int) = 1 then (if 0 < (bt415.2.2.2.2.1.length : Int) then (if (rd bt415.2.2.2.2.1 0) = a3 then ((tailwaterref27_SameSends.f k bt415.2.2.2.1 l4).bind fun t439 => (some t439)) else (some false)) else (none)) else (some false)) else (some false))
theorem tailwaterlaw29_passes.mono : ∀ a0 a1 a2 a3 a4 a5 a6 a7 a8 a9 a10 a11 a12 a13 a14 a15 a16 a17 a18 a19 a20 a21 a22 k, LeO (tailwaterlaw29_passes.f k a0 a1 a2 a3 a4 a5 a6 a7 a8 a9 a10 a11 a12 a13 a14 a15 a16 a17 a18 a19 a20 a21 a22) (tailwaterlaw29_passes.f (k + 1) a0 a1 a2 a3 a4 a5 a6 a7 a8 a9 a10 a11 a12 a13 a14 a15 a16 a17 a18 a19 a20 a21 a22) := by
 intro a0 a1 a2 a3 a4 a5 a6 a7 a8 a9 a10 a11 a12 a13 a14 a15 a16 a17 a18 a19 a20 a21 a22 k
 unfold tailwaterlaw29_passes.f
 repeat' first
   | (with_reducible exact filter_Take.mono _ _ _ _ _ _ _ _ _ _ _ _ _ _ _ _ _ _ _ _ _ _ _ _ _ _ _ _ _ _)
   | (with_reducible exact tailwaterref27_SameSends.mono _ _ _)
   | (with_reducible exact LeO.refl _)
   | (with_reducible exact LeO.none _)
   | (with_reducible refine LeO.ite ?_ ?_)
   | (with_reducible refine LeO.bind ?_ (fun _ => ?_))
set_option maxHeartbeats 8000000 in
set_option maxRecDepth 100000 in
theorem tailwaterlaw29_passes.calls (k : Nat) (a0_0 : Int) (A0_1 : Option Addr) (c0_1 : Nat) (l0_1 : List (S61)) (A0_2 : Option Addr) (c0_2 : Nat) (l0_2 : List Int) (a0_3 : Bool) (A0_4 : Option Addr) (c0_4 : Nat) (l0_4 : List (S61)) (a0_5 : Int) (a0_6 : Int) (a0_7 : Int) (a0_8 : Bool) (a0_9 : Int) (a1 : Int) (a2_0 : Int) (a2_1 : Int) (a2_2 : Int) (a2_3 : Int) (a2_4 : Int) (a2_5 : Int) (a2_6 : Int) (a2_7 : Int) (a2_8 : Int) (a2_9 : Int) (a3 : Int) (A4 : Option Addr) (c4 : Nat) (l4 : List (S55)) (r : Bool) (w : World) (hr0_1 : Kd.C k61 w A0_1 l0_1.length l0_1) (hc0_1 : l0_1.length ≤ c0_1) (hr0_2 : Kd.C (Kd.int .i64) w A0_2 l0_2.length l0_2) (hc0_2 : l0_2.length ≤ c0_2) (hr0_4 : Kd.C k61 w A0_4 l0_4.length l0_4) (hc0_4 : l0_4.length ≤ c0_4) (hr4 : Kd.C k55 w A4 l4.length l4) (hc4 : l4.length ≤ c4) (h : tailwaterlaw29_passes.f k a0_0 l0_1 l0_2 a0_3 l0_4 a0_5 a0_6 a0_7 a0_8 a0_9 a1 a2_0 a2_1 a2_2 a2_3 a2_4 a2_5 a2_6 a2_7 a2_8 a2_9 a3 l4 = some r) (hrt : r = true) :
  Calls Try.prog 16 #[.agg #[.int .u8 a0_0, .slice A0_1 l0_1.length c0_1, .slice A0_2 l0_2.length c0_2, .bool a0_3, .slice A0_4 l0_4.length c0_4, .int .u8 a0_5, .int .i64 a0_6, .int .i64 a0_7, .bool a0_8, .int .u8 a0_9], .int .i64 a1, .agg #[.int .u8 a2_0, .int .i64 a2_1, .int .i64 a2_2, .int .i64 a2_3, .int .i64 a2_4, .int .i64 a2_5, .int .i64 a2_6, .int .i64 a2_7, .int .i64 a2_8, .int .i64 a2_9], .int .i64 a3, .slice A4 l4.length c4] w fun e w' => e = .returned (.bool r) ∧ Below w.heap.size w w' := by
 have HRT := am hrt
 clear hrt
 have hu41 := Try.underlying41
 have hu50 := Try.underlying50
 have hu23 := Try.underlying23
 have hu31 := Try.underlying31
 have HR0_1 := am hr0_1
 have HC0_1 := am hc0_1
 clear hr0_1 hc0_1
 have HR0_2 := am hr0_2
 have HC0_2 := am hc0_2
 clear hr0_2 hc0_2
 have HR0_4 := am hr0_4
 have HC0_4 := am hc0_4
 clear hr0_4 hc0_4
 have HR4 := am hr4
 have HC4 := am hc4
 clear hr4 hc4
 have HB := am (Below.refl w.heap.size w)
 have H : ((filter_Take.f k a0_0 l0_1 l0_2 a0_3 l0_4 a0_5 a0_6 a0_7 a0_8 a0_9 2 0 0 ([] : List (S55)) (([a1] : List Int)) ([] : List (S105)) ([] : List (S99)) ([] : List (S48)) ([] : List (S43)) a2_0 a2_1 a2_2 a2_3 a2_4 a2_5 a2_6 a2_7 a2_8 a2_9).bind fun bt415 => (if bt415.2.2.2.2.2.2.2.2.2 = 0 then (if (bt415.2.2.2.2.1.length : Int) = 1 then (if 0 < (bt415.2.2.2.2.1.length : Int) then (if (rd bt415.2.2.2.2.1 0) = a3 then ((tailwaterref27_SameSends.f k bt415.2.2.2.1 l4).bind fun t439 => (some t439)) else (some false)) else (none)) else (some false)) else (some false))) = some r := h
 clear h
 obtain ⟨y412, hy412⟩ : ∃ y_ : List Int, y_ = (([a1] : List Int)) := ⟨_, rfl⟩
 replace H : ((filter_Take.f k a0_0 l0_1 l0_2 a0_3 l0_4 a0_5 a0_6 a0_7 a0_8 a0_9 2 0 0 ([] : List (S55)) y412 ([] : List (S105)) ([] : List (S99)) ([] : List (S48)) ([] : List (S43)) a2_0 a2_1 a2_2 a2_3 a2_4 a2_5 a2_6 a2_7 a2_8 a2_9).bind fun bt415 => (if bt415.2.2.2.2.2.2.2.2.2 = 0 then (if (bt415.2.2.2.2.1.length : Int) = 1 then (if 0 < (bt415.2.2.2.2.1.length : Int) then (if (rd bt415.2.2.2.2.1 0) = a3 then ((tailwaterref27_SameSends.f k bt415.2.2.2.1 l4).bind fun t439 => (some t439)) else (some false)) else (none)) else (some false)) else (some false))) = some r := by first | (rw [hy412]; with_reducible exact H) | (have H2_ := (Option.bind_some _ _).symm.trans H; rw [hy412]; with_reducible exact H2_) | (have H2_ := (Option.bind_some _ _).symm.trans H; with_reducible exact H2_) | with_reducible exact H | (rw [hy412]; exact H) | exact H
 have Ny412 := am hy412
 clear hy412
 replace H := Option.bind_eq_some_iff.mp H
 obtain ⟨⟨t415, t416, t417, t418, t421, t424, t427, t430, t433, t436⟩, A60, H⟩ := H
 try dsimp only at H
 have A6 := am A60
 clear A60
 by_cases c7 : t436 = 0
 ·rw [if_pos c7] at H
  have c7b0 : (t436 == 0) = true := beq_iff_eq.mpr c7
  have c7b1 : (t436 != 0) = false := bne_eq_false_iff_eq.mpr c7
  clear c7
  by_cases c8 : (t421.length : Int) = 1
  ·rw [if_pos c8] at H
   have c8b0 : ((t421.length : Int) == 1) = true := beq_iff_eq.mpr c8
   have c8b1 : ((t421.length : Int) != 1) = false := bne_eq_false_iff_eq.mpr c8
   clear c8
   by_cases c9 : 0 < (t421.length : Int)
   ·rw [if_pos c9] at H
    have c9b0 : decide (0 < (t421.length : Int)) = true := decide_eq_true c9
    have c9b1 : decide (0 < t421.length) = true := decide_eq_true (by omega)
    clear c9
    by_cases c10 : (rd t421 0) = a3
    ·rw [if_pos c10] at H
     have c10b0 : ((rd t421 0) == a3) = true := beq_iff_eq.mpr c10
     have c10b1 : ((rd t421 0) != a3) = false := bne_eq_false_iff_eq.mpr c10
     clear c10
     replace H := Option.bind_eq_some_iff.mp H
     obtain ⟨t439, A110, H⟩ := H
     try dsimp only at H
     have A11 := am A110
     clear A110
     obtain rfl := Option.some.inj H
     go_enter Try.func16, Try.ntmps16
     go_wp2_with (first | ((with_reducible refine gate_dst (N := 5) rfl ?_); (try (refine gate_guard (by rfl) ?_; dsimp only)); refine box_event ?hg (N := 5) ?hd (cs := #[.int .u8 a0_0, .slice A0_1 l0_1.length c0_1, .slice A0_2 l0_2.length c0_2, .bool a0_3, .slice A0_4 l0_4.length c0_4, .int .u8 a0_5, .int .i64 a0_6, .int .i64 a0_7, .bool a0_8, .int .u8 a0_9]) (t := 41) ?hr ?_; (case hd => rfl); (case hg => rfl); (case hr => first | (go_simp; done) | (go_simp; rfl)); intro gb410 hg w12 hbox hb; have BK410 := am (hbox); have GW410 := am ((by rw [hg]; exact (below_size (by exact belL HB.out)) : w.heap.size ≤ gb410)); have GE410 := GW410; replace HB := am (below_step (by exact belL HB.out) hb); clear hb hbox hg) | ((with_reducible refine gate_dst (N := 7) rfl ?_); (try (refine gate_guard (by rfl) ?_; dsimp only)); refine box_event ?hg (N := 7) ?hd (cs := #[.int .u8 a2_0, .int .i64 a2_1, .int .i64 a2_2, .int .i64 a2_3, .int .i64 a2_4, .int .i64 a2_5, .int .i64 a2_6, .int .i64 a2_7, .int .i64 a2_8, .int .i64 a2_9]) (t := 50) ?hr ?_; (case hd => rfl); (case hg => rfl); (case hr => first | (go_simp; done) | (go_simp; rfl)); intro gb411 hg w13 hbox hb; have BK411 := am (hbox); have GW411 := am ((by rw [hg]; exact (below_size (by repeat (with_reducible first | exact HB.out | refine belS ?_ | refine below_set ?_ GE410.out))) : w.heap.size ≤ gb411)); have GE411 := GW411; have NB410_411 := am (blkN BK410.out hg); have NB411_410 := am (blkN BK410.out hg).symm; replace BK410 := am (blkB BK410.out hb); replace HB := am (below_step (by repeat (with_reducible first | exact HB.out | refine belS ?_ | refine below_set ?_ GE410.out)) hb); clear hb hbox hg; have hnb14 := NB410_411.out; have hnc14 := NB411_410.out; obtain ⟨z15_0, z15_1, z15_2, z15_3, z15_4, z15_5, z15_6, z15_7, z15_8, z15_9, y15_0, y15_1, y15_2, y15_3, y15_4, y15_5, y15_6, y15_7, y15_8, y15_9⟩ := box10 BK410.out) | ((with_reducible refine gate_dst (N := 17) rfl ?_); (try (refine gate_guard (by rfl) ?_; dsimp only)); refine Kd.R_lit (Kd.int .i64) _ 2 ?hg (N := 17) ?hd (xs := ([a1] : List Int)) (inner := [.int .i64 a1]) (ok := fun _ => True) (okp := fun _ => True) ?hr ?hp (fun _ hk => hk) trivial (Below.refl _ _) (Nat.le_refl _) (by simp) ?_; (case hd => rfl); (case hg => rfl); (case hr => first | (go_simp; done) | (go_simp; rfl)); (case hp => exact (Reps.one (show Kd.M (Kd.int .i64) _ _ _ a1 [.int .i64 a1] from rfl) (Reps.none _ _))); intro v413 w16 ho17 hb hg_ hnew_; clear hg_ hnew_; (first | rw [← Ny412.out] at ho17 | (simp only [Int.reduceToNat] at ho17; rw [← Ny412.out] at ho17)); have HO414 := am (Kd.R_lower ho17 (below_size (by repeat (with_reducible first | exact HB.out | refine belS ?_ | refine below_set ?_ GE411.out)))); replace BK411 := am (blkB BK411.out hb); replace HB := am (below_step (by repeat (with_reducible first | exact HB.out | refine belS ?_ | refine below_set ?_ GE411.out)) hb); clear hb ho17; obtain ⟨Ao18, co18, eo18⟩ := Kd.R_slice HO414.out; subst eo18; obtain ⟨z19_0, z19_1, z19_2, z19_3, z19_4, z19_5, z19_6, z19_7, z19_8, z19_9, y19_0, y19_1, y19_2, y19_3, y19_4, y19_5, y19_6, y19_7, y19_8, y19_9⟩ := box10 BK411.out) | ((with_reducible refine gate_callee (f := 9) rfl ?_); refine goesL_ (some 20) rfl rfl Try.func9 (by kernel_rfl) rfl #[.agg #[.int .u8 a0_0, .slice A0_1 l0_1.length c0_1, .slice A0_2 l0_2.length c0_2, .bool a0_3, .slice A0_4 l0_4.length c0_4, .int .u8 a0_5, .int .i64 a0_6, .int .i64 a0_7, .bool a0_8, .int .u8 a0_9], .agg #[.int .u8 2, .int .i64 0, .int .i64 0, .slice none 0 0, .slice Ao18 y412.length co18, .slice none 0 0, .slice none 0 0, .slice none 0 0, .slice none 0 0], .agg #[.int .u8 a2_0, .int .i64 a2_1, .int .i64 a2_2, .int .i64 a2_3, .int .i64 a2_4, .int .i64 a2_5, .int .i64 a2_6, .int .i64 a2_7, .int .i64 a2_8, .int .i64 a2_9]] rfl (by (try simp only [List.map_toArray, List.map_cons, List.map_nil]) <;> rfl) ?_; (refine (filter_Take.calls k a0_0 _ _ l0_1 _ _ l0_2 a0_3 _ _ l0_4 a0_5 a0_6 a0_7 a0_8 a0_9 2 0 0 _ _ ([] : List (S55)) _ _ y412 _ _ ([] : List (S105)) _ _ ([] : List (S99)) _ _ ([] : List (S48)) _ _ ([] : List (S43)) a2_0 a2_1 a2_2 a2_3 a2_4 a2_5 a2_6 a2_7 a2_8 a2_9 t415 t416 t417 t418 t421 t424 t427 t430 t433 t436 _ ?side1 ?side2 ?side3 ?side4 ?side5 ?side6 ?side7 ?side8 ?side9 ?side10 ?side11 ?side12 ?side13 ?side14 ?side15 ?side16 ?side17 ?side18 A6.out (by first | rfl | exact HRT.out | assumption | exact eq_of_beq (by assumption))).mono ?_); (case side1 => exact CB HR0_1.out HB.out); (case side2 => exact HC0_1.out); (case side3 => exact CB HR0_2.out HB.out); (case side4 => exact HC0_2.out); (case side5 => exact CB HR0_4.out HB.out); (case side6 => exact HC0_4.out); (case side7 => exact Kd.C_nil _ _); (case side8 => exact Nat.le_refl _); (case side9 => repeat (first | exact (Kd.R_reads' HO414.out).2.2 | (with_reducible refine Kd.C_alloc ?_ _) | (with_reducible refine Kd.C_drewN ?_ _) | (with_reducible refine Kd.C_drew ?_))); (case side10 => exact (Kd.R_reads' HO414.out).2.1); (case side11 => exact Kd.C_nil _ _); (case side12 => exact Nat.le_refl _); (case side13 => exact Kd.C_nil _ _); (case side14 => exact Nat.le_refl _); (case side15 => exact Kd.C_nil _ _); (case side16 => exact Nat.le_refl _); (case side17 => exact Kd.C_nil _ _); (case side18 => exact Nat.le_refl _); rintro e w20 ⟨v419, v422, v425, v428, v431, v434, rfl, ho0, ho1, ho2, ho3, ho4, ho5, hb⟩; refine ⟨_, rfl, ?_⟩; have HO420 := am (Kd.R_lower ho0 (below_size (by exact belL HB.out))); have HO423 := am (Kd.R_lower (Kd.R_new' ho1 (Kd.R_lt (by exact RL HO414.out))) (below_size (by exact belL HB.out))); have HO426 := am (Kd.R_lower ho2 (below_size (by exact belL HB.out))); have HO429 := am (Kd.R_lower ho3 (below_size (by exact belL HB.out))); have HO432 := am (Kd.R_lower ho4 (below_size (by exact belL HB.out))); have HO435 := am (Kd.R_lower ho5 (below_size (by exact belL HB.out))); replace HO414 := am (Kd.R_elder' (by exact RL HO414.out) (Kd.R_base ho1) hb); replace HB := am (below_step (by exact belL HB.out) hb); (try clear hb); (try clear hb2); (try clear hk); (try clear hi); (try clear ho0); (try clear ho1); (try clear ho2); (try clear ho3); (try clear ho4); (try clear ho5)) | ((with_reducible refine gate_dst (N := 11) rfl ?_); (try (refine gate_guard (by rfl) ?_; dsimp only)); refine box_event ?hg (N := 11) ?hd (cs := #[.int .u8 0, .int .i64 0, .int .i64 0, .slice none 0 0, .slice none 0 0, .slice none 0 0, .slice none 0 0, .slice none 0 0, .slice none 0 0]) (t := 31) ?hr ?_; (case hd => rfl); (case hg => rfl); (case hr => first | (go_simp; done) | (go_simp; rfl)); intro gb437 hg w21 hbox hb; have BK437 := am (hbox); have GW437 := am ((by rw [hg]; exact (below_size (by exact belL HB.out)) : w.heap.size ≤ gb437)); have GE437 := GW437; replace HO420 := am (Kd.R_below (by exact RL HO420.out) hb); replace HO423 := am (Kd.R_below (by exact RL HO423.out) hb); replace HO426 := am (Kd.R_below (by exact RL HO426.out) hb); replace HO429 := am (Kd.R_below (by exact RL HO429.out) hb); replace HO432 := am (Kd.R_below (by exact RL HO432.out) hb); replace HO435 := am (Kd.R_below (by exact RL HO435.out) hb); replace HB := am (below_step (by exact belL HB.out) hb); clear hb hbox hg; obtain ⟨z22_0, z22_1, z22_2, z22_3, z22_4, z22_5, z22_6, z22_7, z22_8, y22_0, y22_1, y22_2, y22_3, y22_4, y22_5, y22_6, y22_7, y22_8⟩ := box9 BK437.out; obtain ⟨Ao23, co23, eo23⟩ := Kd.R_slice HO420.out; subst eo23; obtain ⟨Ao24, co24, eo24⟩ := Kd.R_slice HO423.out; subst eo24; obtain ⟨Ao25, co25, eo25⟩ := Kd.R_slice HO426.out; subst eo25; obtain ⟨Ao26, co26, eo26⟩ := Kd.R_slice HO429.out; subst eo26; obtain ⟨Ao27, co27, eo27⟩ := Kd.R_slice HO432.out; subst eo27; obtain ⟨Ao28, co28, eo28⟩ := Kd.R_slice HO435.out; subst eo28; have p438 : 0 ≤ (0 : Int) := (by omega); have q438 : 0 < (t421.length : Int) := of_decide_eq_true (by first | (with_reducible assumption) | assumption); obtain ⟨ad438, e438, hx438_0⟩ := Kd.at_int (Kd.R_reads' HO423.out).2.2 0 p438 q438; cases e438; have qi438 : (0 < t421.length) = True := eq_true (by omega); (try rw [show ((0 : Int)).toNat = 0 from rfl] at hx438_0); (try rw [Addr.add_zero'] at hx438_0); have hn438_0 : ad438.block ≠ gb437 := Kd.own_blk (Kd.R_ne HO423.out BK437.out (by decide)); have hn438_1 : ad438.block ≠ gb437 := Kd.own_blk (Kd.R_ne HO423.out BK437.out (by decide)); have hn438_2 : ad438.block ≠ gb437 := Kd.own_blk (Kd.R_ne HO423.out BK437.out (by decide)); have hn438_3 : ad438.block ≠ gb437 := Kd.own_blk (Kd.R_ne HO423.out BK437.out (by decide)); have hn438_4 : ad438.block ≠ gb437 := Kd.own_blk (Kd.R_ne HO423.out BK437.out (by decide)); have hn438_5 : ad438.block ≠ gb437 := Kd.own_blk (Kd.R_ne HO423.out BK437.out (by decide)); have hn438_6 : ad438.block ≠ gb437 := Kd.own_blk (Kd.R_ne HO423.out BK437.out (by decide)); have hn438_7 : ad438.block ≠ gb437 := Kd.own_blk (Kd.R_ne HO423.out BK437.out (by decide)); have hn438_8 : ad438.block ≠ gb437 := Kd.own_blk (Kd.R_ne HO423.out BK437.out (by decide)); replace hx438_0 := (cell_far (p := ⟨gb437, 0, none⟩) (by first | (rw [add_block]; exact hn438_0) | (show (Addr.add _ _).block ≠ _; rw [add_block]; exact hn438_0) | exact hn438_0) (.int .u8 t415)).trans hx438_0; replace hx438_0 := (cell_far (p := ⟨gb437, 1, none⟩) (by first | (rw [add_block]; exact hn438_1) | (show (Addr.add _ _).block ≠ _; rw [add_block]; exact hn438_1) | exact hn438_1) (.int .i64 t416)).trans hx438_0; replace hx438_0 := (cell_far (p := ⟨gb437, 2, none⟩) (by first | (rw [add_block]; exact hn438_2) | (show (Addr.add _ _).block ≠ _; rw [add_block]; exact hn438_2) | exact hn438_2) (.int .i64 t417)).trans hx438_0; replace hx438_0 := (cell_far (p := ⟨gb437, 3, none⟩) (by first | (rw [add_block]; exact hn438_3) | (show (Addr.add _ _).block ≠ _; rw [add_block]; exact hn438_3) | exact hn438_3) (.slice Ao23 t418.length co23)).trans hx438_0; replace hx438_0 := (cell_far (p := ⟨gb437, 4, none⟩) (by first | (rw [add_block]; exact hn438_4) | (show (Addr.add _ _).block ≠ _; rw [add_block]; exact hn438_4) | exact hn438_4) (.slice (some ad438) t421.length co24)).trans hx438_0; replace hx438_0 := (cell_far (p := ⟨gb437, 5, none⟩) (by first | (rw [add_block]; exact hn438_5) | (show (Addr.add _ _).block ≠ _; rw [add_block]; exact hn438_5) | exact hn438_5) (.slice Ao25 t424.length co25)).trans hx438_0; replace hx438_0 := (cell_far (p := ⟨gb437, 6, none⟩) (by first | (rw [add_block]; exact hn438_6) | (show (Addr.add _ _).block ≠ _; rw [add_block]; exact hn438_6) | exact hn438_6) (.slice Ao26 t427.length co26)).trans hx438_0; replace hx438_0 := (cell_far (p := ⟨gb437, 7, none⟩) (by first | (rw [add_block]; exact hn438_7) | (show (Addr.add _ _).block ≠ _; rw [add_block]; exact hn438_7) | exact hn438_7) (.slice Ao27 t430.length co27)).trans hx438_0; replace hx438_0 := (cell_far (p := ⟨gb437, 8, none⟩) (by first | (rw [add_block]; exact hn438_8) | (show (Addr.add _ _).block ≠ _; rw [add_block]; exact hn438_8) | exact hn438_8) (.slice Ao28 t433.length co28)).trans hx438_0; clear hn438_0; clear hn438_1; clear hn438_2; clear hn438_3; clear hn438_4; clear hn438_5; clear hn438_6; clear hn438_7; clear hn438_8; replace p438 := eq_true p438; replace q438 := eq_true q438) | (go_at_call 31; (with_reducible refine (tailwaterref27_SameSends.calls k _ _ t418 _ _ l4 t439 _ ?side1 ?side2 ?side3 ?side4 A11.out).mono ?_); (case side1 => refine (Kd.R_reads' (e := 55) (base := w.heap.size) (ok := fun k_ => True) (n := t418.length) (c := co23) ?_).2.2; exact (by (repeat refine RS ?_); exact (Kd.R_mono (Rfar9 (Kd.R_types HO420.out BK437.out (by decide)) (fun _ hk => hk.2)) (fun _ h_ => h_.1)))); (case side2 => exact (Kd.R_reads' HO420.out).2.1); (case side3 => exact Kd.C_below HR4.out (by repeat (with_reducible first | exact HB.out | refine belS ?_ | refine below_set ?_ GE437.out))); (case side4 => exact HC4.out); rintro e w' ⟨rfl, ⟨nd, rfl⟩⟩))
     go_ret
     exact ⟨by first | rfl | (simp [errW_none, errW_some] <;> rfl) | (simp [*, errW_none, errW_some] <;> rfl), by repeat (with_reducible first | exact HB.out | refine belS ?_ | refine below_set ?_ GE437.out)⟩
    ·rw [if_neg c10] at H
     have c10b0 : ((rd t421 0) == a3) = false := beq_eq_false_iff_ne.mpr c10
     have c10b1 : ((rd t421 0) != a3) = true := bne_iff_ne.mpr c10
     exact absurd ((Option.some.inj H).trans HRT.out) (by decide)
   ·rw [if_neg c9] at H
    exact absurd H (by simp)
  ·rw [if_neg c8] at H
   have c8b0 : ((t421.length : Int) == 1) = false := beq_eq_false_iff_ne.mpr c8
   have c8b1 : ((t421.length : Int) != 1) = true := bne_iff_ne.mpr c8
   exact absurd ((Option.some.inj H).trans HRT.out) (by decide)
 ·rw [if_neg c7] at H
  have c7b0 : (t436 == 0) = false := beq_eq_false_iff_ne.mpr c7
  have c7b1 : (t436 != 0) = true := bne_iff_ne.mpr c7
  exact absurd ((Option.some.inj H).trans HRT.out) (by decide)

end Go.Proofs.Ytcdgohoinmbpfaa.M
