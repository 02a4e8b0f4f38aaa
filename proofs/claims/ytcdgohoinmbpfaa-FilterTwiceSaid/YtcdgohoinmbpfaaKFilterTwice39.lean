import Derived.Test.YtcdgohoinmbpfaaKFilterTwice6
import Derived.Test.YtcdgohoinmbpfaaKFilterTwice34
import Derived.Test.YtcdgohoinmbpfaaKFilterTwice29
import Derived.Test.YtcdgohoinmbpfaaKFilterTwice37
import Derived.Test.YtcdgohoinmbpfaaKFilterTwice35
import Derived.Test.YtcdgohoinmbpfaaKFilterTwice38
namespace Go.Proofs.Ytcdgohoinmbpfaa.M
open Go.RowKit Go.Proofs.YtcdgohoinmbpfaaW.PrintWords Go.Proofs.YtcdgohoinmbpfaaW.PrintLast Go.Proofs.YtcdgohoinmbpfaaW.PrintMore
attribute [local go_sem] max2_int min2_int max_two min_two
set_option linter.unusedVariables false
set_option linter.unusedSimpArgs false

def task_clone.f (a0_0 : Int) (a0_1 : Int) (a0_2 : Int) (l0_3 : List (S55)) (l0_4 : List Int) (l0_5 : List (S105)) (l0_6 : List (S99)) (l0_7 : List (S48)) (l0_8 : List (S43)) : Option (Int × Int × Int × (List (S55)) × List Int × (List (S105)) × (List (S99)) × (List (S48)) × (List (S43))) := (api_Send.f l0_3).bind fun t203 => ((slices_Clone_int64_int64.f l0_4).bind fun t206 => ((api_Entry.f l0_5).bind fun t209 => ((api_Event.f l0_6).bind fun t212 => ((api_Row.f l0_7).bind fun t215 => ((api_Record.f l0_8).bind fun t218 => (some (a0_0, a0_1, a0_2, t203, t206, t209, t212, t215, t218)))))))
def task_clone.T1 : Bool × List (List Nat × List Nat) := (true, [([], []), ([0], [0]), ([1], [1]), ([], []), ([3], [3]), ([4, 2], [4]), ([], []), ([6], [6]), ([7, 5], [7]), ([0, 1, 2, 3, 4, 6, 7], []), ([9, 2, 8, 0, 1, 2, 3, 4, 6, 7], [2, 9]), ([0, 1, 2, 3, 4, 5, 6, 7, 9, 10], []), ([11, 5, 10, 0, 1, 2, 3, 4, 5, 6, 7, 9, 10], [5, 11]), ([0, 1, 2, 3, 4, 5, 6, 7, 8, 9, 10, 11, 12], []), ([13, 8, 12, 0, 1, 2, 3, 4, 5, 6, 7, 8, 9, 10, 11, 12], [8, 13])])
def task_clone.B1 : List Nat := [0, 1, 3, 0, 8, 31, 0, 64, 255, 223, 1023, 2047, 4095, 8191, 16383]
theorem task_clone.tab1 : rtab .any (opsOf Try.f47 1) = task_clone.T1 := by kernel_rfl
theorem task_clone.bits1 : waitsOk task_clone.T1.2 task_clone.B1 = true := by kernel_rfl
def task_clone.T2 : Bool × List (List Nat × List Nat) := (true, [([], []), ([0], [0]), ([1], [1]), ([], []), ([3], [3]), ([4, 2], [4]), ([], []), ([6], [6]), ([7, 5], [7]), ([0, 1, 2, 3, 4, 6, 7], []), ([9, 2, 8, 0, 1, 2, 3, 4, 6, 7], [2, 9]), ([0, 1, 2, 3, 4, 5, 6, 7, 9, 10], []), ([11, 5, 10, 0, 1, 2, 3, 4, 5, 6, 7, 9, 10], [5, 11]), ([0, 1, 2, 3, 4, 5, 6, 7, 8, 9, 10, 11, 12], []), ([13, 8, 12, 0, 1, 2, 3, 4, 5, 6, 7, 8, 9, 10, 11, 12], [8, 13])])
def task_clone.B2 : List Nat := [0, 1, 3, 0, 8, 31, 0, 64, 255, 223, 1023, 2047, 4095, 8191, 16383]
theorem task_clone.tab2 : rtab .any (opsOf Try.f47 2) = task_clone.T2 := by kernel_rfl
theorem task_clone.bits2 : waitsOk task_clone.T2.2 task_clone.B2 = true := by kernel_rfl
set_option maxHeartbeats 8000000 in
set_option maxRecDepth 100000 in
theorem task_clone.calls (a0_0 : Int) (a0_1 : Int) (a0_2 : Int) (A0_3 : Option Addr) (c0_3 : Nat) (l0_3 : List (S55)) (A0_4 : Option Addr) (c0_4 : Nat) (l0_4 : List Int) (A0_5 : Option Addr) (c0_5 : Nat) (l0_5 : List (S105)) (A0_6 : Option Addr) (c0_6 : Nat) (l0_6 : List (S99)) (A0_7 : Option Addr) (c0_7 : Nat) (l0_7 : List (S48)) (A0_8 : Option Addr) (c0_8 : Nat) (l0_8 : List (S43)) (r1 : Int) (r2 : Int) (r3 : Int) (r4 : List (S55)) (r5 : List Int) (r6 : List (S105)) (r7 : List (S99)) (r8 : List (S48)) (r9 : List (S43)) (w : World) (hr0_3 : Kd.C k55 w A0_3 l0_3.length l0_3) (hc0_3 : l0_3.length ≤ c0_3) (hr0_4 : Kd.C (Kd.int .i64) w A0_4 l0_4.length l0_4) (hc0_4 : l0_4.length ≤ c0_4) (hr0_5 : Kd.C k105 w A0_5 l0_5.length l0_5) (hc0_5 : l0_5.length ≤ c0_5) (hr0_6 : Kd.C k99 w A0_6 l0_6.length l0_6) (hc0_6 : l0_6.length ≤ c0_6) (hr0_7 : Kd.C k48 w A0_7 l0_7.length l0_7) (hc0_7 : l0_7.length ≤ c0_7) (hr0_8 : Kd.C k43 w A0_8 l0_8.length l0_8) (hc0_8 : l0_8.length ≤ c0_8) (h : task_clone.f a0_0 a0_1 a0_2 l0_3 l0_4 l0_5 l0_6 l0_7 l0_8 = some (r1, r2, r3, r4, r5, r6, r7, r8, r9)) :
  Calls Try.prog 47 #[.agg #[.int .u8 a0_0, .int .i64 a0_1, .int .i64 a0_2, .slice A0_3 l0_3.length c0_3, .slice A0_4 l0_4.length c0_4, .slice A0_5 l0_5.length c0_5, .slice A0_6 l0_6.length c0_6, .slice A0_7 l0_7.length c0_7, .slice A0_8 l0_8.length c0_8]] w fun e w' => ∃ v3_ v4_ v5_ v6_ v7_ v8_ : Value, e = .returned (.agg #[.int .u8 r1, .int .i64 r2, .int .i64 r3, v3_, v4_, v5_, v6_, v7_, v8_]) ∧ Kd.R k55 55 w' w.heap.size (fun _ => True) v3_ r4 ∧ Kd.R (Kd.int .i64) 2 w' w.heap.size (fun _ => True) v4_ r5 ∧ Kd.R k105 105 w' w.heap.size (fun _ => True) v5_ r6 ∧ Kd.R k99 99 w' w.heap.size (fun _ => True) v6_ r7 ∧ Kd.R k48 48 w' w.heap.size (fun _ => True) v7_ r8 ∧ Kd.R k43 43 w' w.heap.size (fun _ => True) v8_ r9 ∧ Below w.heap.size w w' := by
 have hu31 := Try.underlying31
 have HR0_3 := am hr0_3
 have HC0_3 := am hc0_3
 clear hr0_3 hc0_3
 have HR0_4 := am hr0_4
 have HC0_4 := am hc0_4
 clear hr0_4 hc0_4
 have HR0_5 := am hr0_5
 have HC0_5 := am hc0_5
 clear hr0_5 hc0_5
 have HR0_6 := am hr0_6
 have HC0_6 := am hc0_6
 clear hr0_6 hc0_6
 have HR0_7 := am hr0_7
 have HC0_7 := am hc0_7
 clear hr0_7 hc0_7
 have HR0_8 := am hr0_8
 have HC0_8 := am hc0_8
 clear hr0_8 hc0_8
 have HB := am (Below.refl w.heap.size w)
 have H : ((api_Send.f l0_3).bind fun t203 => ((slices_Clone_int64_int64.f l0_4).bind fun t206 => ((api_Entry.f l0_5).bind fun t209 => ((api_Event.f l0_6).bind fun t212 => ((api_Row.f l0_7).bind fun t215 => ((api_Record.f l0_8).bind fun t218 => (some (a0_0, a0_1, a0_2, t203, t206, t209, t212, t215, t218)))))))) = some (r1, r2, r3, r4, r5, r6, r7, r8, r9) := h
 clear h
 replace H := Option.bind_eq_some_iff.mp H
 obtain ⟨t203, A20, H⟩ := H
 try dsimp only at H
 have A2 := am A20
 clear A20
 replace H := Option.bind_eq_some_iff.mp H
 obtain ⟨t206, A30, H⟩ := H
 try dsimp only at H
 have A3 := am A30
 clear A30
 replace H := Option.bind_eq_some_iff.mp H
 obtain ⟨t209, A40, H⟩ := H
 try dsimp only at H
 have A4 := am A40
 clear A40
 replace H := Option.bind_eq_some_iff.mp H
 obtain ⟨t212, A50, H⟩ := H
 try dsimp only at H
 have A5 := am A50
 clear A50
 replace H := Option.bind_eq_some_iff.mp H
 obtain ⟨t215, A60, H⟩ := H
 try dsimp only at H
 have A6 := am A60
 clear A60
 replace H := Option.bind_eq_some_iff.mp H
 obtain ⟨t218, A70, H⟩ := H
 try dsimp only at H
 have A7 := am A70
 clear A70
 simp only [Option.some.injEq, Prod.mk.injEq] at H
 obtain ⟨rfl, rfl, rfl, rfl, rfl, rfl, rfl, rfl, rfl⟩ := H
 go_enter Try.func47, Try.ntmps47
 try go_wp2_with (first | ((with_reducible refine gate_dst (N := 1) rfl ?_); refine box_event ?hg (N := 1) ?hd (cs := #[.int .u8 a0_0, .int .i64 a0_1, .int .i64 a0_2, .slice A0_3 l0_3.length c0_3, .slice A0_4 l0_4.length c0_4, .slice A0_5 l0_5.length c0_5, .slice A0_6 l0_6.length c0_6, .slice A0_7 l0_7.length c0_7, .slice A0_8 l0_8.length c0_8]) (t := 31) ?hr ?_; (case hd => rfl); (case hg => rfl); (case hr => first | (go_simp; done) | (go_simp; rfl)); intro gb201 hg w8 hbox hb; have BK201 := am (hbox); have GW201 := am ((by rw [hg]; exact (below_size (by exact belL HB.out)) : w.heap.size ≤ gb201)); have GE201 := GW201; replace HB := am (below_step (by exact belL HB.out) hb); clear hb hbox hg) | ((with_reducible refine gate_dst (N := 2) rfl ?_); refine box_event ?hg (N := 2) ?hd (cs := #[.int .u8 0, .int .i64 0, .int .i64 0, .slice none 0 0, .slice none 0 0, .slice none 0 0, .slice none 0 0, .slice none 0 0, .slice none 0 0]) (t := 31) ?hr ?_; (case hd => rfl); (case hg => rfl); (case hr => first | (go_simp; done) | (go_simp; rfl)); intro gb202 hg w9 hbox hb; have BK202 := am (hbox); have GW202 := am ((by rw [hg]; exact (below_size (by repeat (with_reducible first | exact HB.out | refine belS ?_ | refine below_set ?_ GE201.out))) : w.heap.size ≤ gb202)); have GE202 := GW202; have NB201_202 := am (blkN BK201.out hg); have NB202_201 := am (blkN BK201.out hg).symm; replace BK201 := am (blkB BK201.out hb); replace HB := am (below_step (by repeat (with_reducible first | exact HB.out | refine belS ?_ | refine below_set ?_ GE201.out)) hb); clear hb hbox hg))
 replace BK201 := am (blk_drew BK201.out)
 replace BK202 := am (blk_drew BK202.out)
 replace HB := am (below_drew1 HB.out)
 refine start_ (n := 15) (S := fun w' => w'.cell? ⟨gb201, 0, none⟩ = some (.int .u8 a0_0) ∧ w'.cell? ⟨gb201, 1, none⟩ = some (.int .i64 a0_1) ∧ w'.cell? ⟨gb201, 2, none⟩ = some (.int .i64 a0_2) ∧ w'.cell? ⟨gb201, 3, none⟩ = some (.slice A0_3 l0_3.length c0_3) ∧ w'.cell? ⟨gb201, 4, none⟩ = some (.slice A0_4 l0_4.length c0_4) ∧ w'.cell? ⟨gb201, 5, none⟩ = some (.slice A0_5 l0_5.length c0_5) ∧ w'.cell? ⟨gb201, 6, none⟩ = some (.slice A0_6 l0_6.length c0_6) ∧ w'.cell? ⟨gb201, 7, none⟩ = some (.slice A0_7 l0_7.length c0_7) ∧ w'.cell? ⟨gb201, 8, none⟩ = some (.slice A0_8 l0_8.length c0_8)) (ds := [10, 12, 14]) #[false, false, false, false, false, false, false, false, false, false, false, false, false, false, false] (by kernel_rfl) rfl rfl ⟨(blk_cell BK201.out 0).trans rfl, (blk_cell BK201.out 1).trans rfl, (blk_cell BK201.out 2).trans rfl, (blk_cell BK201.out 3).trans rfl, (blk_cell BK201.out 4).trans rfl, (blk_cell BK201.out 5).trans rfl, (blk_cell BK201.out 6).trans rfl, (blk_cell BK201.out 7).trans rfl, (blk_cell BK201.out 8).trans rfl⟩ (fun hHeld => ?_); refine with_tabW task_clone.tab1 task_clone.bits1 (fun HT_ HW_ => ?_)
 generalize w9.drew = w10 at BK201 BK202 HB hHeld ⊢
 refine pure_ (i := 0) (N := some 3) (v := ?_) (a' := ?_) #[true, false, false, false, false, false, false, false, false, false, false, false, false, false, false] rfl rfl (any_of HT_.out (by kernel_rfl)) (fun _ _ _ h => h) (Or.inl ⟨by rfl, ?_⟩) ?_ ?_
 rotate_left
 ·intro w'
  go_simp
  with_reducible rfl
 rotate_left
 ·simp only [Act.put, List.setIfInBounds_toArray, List.set_cons_zero, List.set_cons_succ, i64_w, i32_w]
  rfl
 refine pure_ (i := 3) (N := some 6) (v := ?_) (a' := ?_) #[true, false, false, true, false, false, false, false, false, false, false, false, false, false, false] rfl rfl (any_of HT_.out (by kernel_rfl)) (fun _ _ _ h => h) (Or.inl ⟨by rfl, ?_⟩) ?_ ?_
 rotate_left
 ·intro w'
  go_simp
  with_reducible rfl
 rotate_left
 ·simp only [Act.put, List.setIfInBounds_toArray, List.set_cons_zero, List.set_cons_succ, i64_w, i32_w]
  rfl
 refine pure_ (i := 6) (N := some 9) (v := ?_) (a' := ?_) #[true, false, false, true, false, false, true, false, false, false, false, false, false, false, false] rfl rfl (any_of HT_.out (by kernel_rfl)) (fun _ _ _ h => h) (Or.inl ⟨by rfl, ?_⟩) ?_ ?_
 rotate_left
 ·intro w'
  go_simp
  with_reducible rfl
 rotate_left
 ·simp only [Act.put, List.setIfInBounds_toArray, List.set_cons_zero, List.set_cons_succ, i64_w, i32_w]
  rfl
 refine take_ (i := 1) (N := some 4) (v := ?_) (a' := ?_) #[true, true, false, true, false, false, true, false, false, false, false, false, false, false, false] rfl rfl (take_ofW HT_.out HW_.out (by kernel_rfl)) (fun _ _ _ h => h) (Or.inl ⟨by rfl, ?_⟩) hHeld ?_ ?_
 rotate_left
 ·rintro w' ⟨s0, s1, s2, s3, s4, s5, s6, s7, s8⟩
  go_simp
  with_reducible rfl
 rotate_left
 ·simp only [Act.put, List.setIfInBounds_toArray, List.set_cons_zero, List.set_cons_succ, i64_w, i32_w]
  rfl
 refine take_ (i := 4) (N := some 7) (v := ?_) (a' := ?_) #[true, true, false, true, true, false, true, false, false, false, false, false, false, false, false] rfl rfl (take_ofW HT_.out HW_.out (by kernel_rfl)) (fun _ _ _ h => h) (Or.inl ⟨by rfl, ?_⟩) hHeld ?_ ?_
 rotate_left
 ·rintro w' ⟨s0, s1, s2, s3, s4, s5, s6, s7, s8⟩
  go_simp
  with_reducible rfl
 rotate_left
 ·simp only [Act.put, List.setIfInBounds_toArray, List.set_cons_zero, List.set_cons_succ, i64_w, i32_w]
  rfl
 refine take_ (i := 7) (N := some 10) (v := ?_) (a' := ?_) #[true, true, false, true, true, false, true, true, false, false, false, false, false, false, false] rfl rfl (take_ofW HT_.out HW_.out (by kernel_rfl)) (fun _ _ _ h => h) (Or.inl ⟨by rfl, ?_⟩) hHeld ?_ ?_
 rotate_left
 ·rintro w' ⟨s0, s1, s2, s3, s4, s5, s6, s7, s8⟩
  go_simp
  with_reducible rfl
 rotate_left
 ·simp only [Act.put, List.setIfInBounds_toArray, List.set_cons_zero, List.set_cons_succ, i64_w, i32_w]
  rfl
 refine one_ (i := 2) (N := some 5) #[true, true, true, true, true, false, true, true, false, false, false, false, false, false, false] rfl rfl (one_of HT_.out (by kernel_rfl)) (by decide) (fun K hK => ?_)
 refine goes_ Try.func66 (by kernel_rfl) rfl #[.slice A0_3 l0_3.length c0_3] (by rfl) rfl rfl (by (try simp only [List.map_toArray, List.map_cons, List.map_nil]) <;> rfl) ?_
 with_reducible refine (api_Send.calls _ _ l0_3 t203 _ ?side1 ?side2 A2.out).mono ?_
 (case side1 => exact CB HR0_3.out HB.out)
 (case side2 => exact HC0_3.out)
 rintro e w11 ⟨v204, rfl, ho0, hb⟩
 refine ⟨_, rfl, ?_⟩
 have HO205 := am (Kd.R_lower ho0 (below_size (by repeat (with_reducible first | exact HB.out | refine belS ?_ | refine below_set ?_ GE201.out | refine below_set ?_ GE202.out))))
 replace BK201 := am (blkB BK201.out hb)
 replace BK202 := am (blkB BK202.out hb)
 replace HB := am (below_step (by repeat (with_reducible first | exact HB.out | refine belS ?_ | refine below_set ?_ GE201.out | refine below_set ?_ GE202.out)) hb)
 (try clear hb)
 (try clear hb2)
 (try clear hk)
 (try clear hi)
 (try clear ho0)
 refine hK.out _ _ ⟨(blk_cell BK201.out 0).trans rfl, (blk_cell BK201.out 1).trans rfl, (blk_cell BK201.out 2).trans rfl, (blk_cell BK201.out 3).trans rfl, (blk_cell BK201.out 4).trans rfl, (blk_cell BK201.out 5).trans rfl, (blk_cell BK201.out 6).trans rfl, (blk_cell BK201.out 7).trans rfl, (blk_cell BK201.out 8).trans rfl⟩ (fun hHeld => ?_)
 clear hK K
 refine norm_ (a' := ?_) ?_ ?_
 rotate_left
 ·show Act.put _ (some 5) _ = _
  simp only [Act.put, List.setIfInBounds_toArray, List.set_cons_zero, List.set_cons_succ, i64_w, i32_w]
  rfl
 refine pure_ (i := 9) (N := some 12) (v := ?_) (a' := ?_) #[true, true, true, true, true, false, true, true, false, true, false, false, false, false, false] rfl rfl (any_of HT_.out (by kernel_rfl)) (fun _ _ _ h => h) (Or.inl ⟨by rfl, ?_⟩) ?_ ?_
 rotate_left
 ·intro w'
  go_simp
  with_reducible rfl
 rotate_left
 ·simp only [Act.put, List.setIfInBounds_toArray, List.set_cons_zero, List.set_cons_succ, i64_w, i32_w]
  rfl
 refine one_ (i := 5) (N := some 8) #[true, true, true, true, true, true, true, true, false, true, false, false, false, false, false] rfl rfl (one_of HT_.out (by kernel_rfl)) (by decide) (fun K hK => ?_)
 refine goes_ Try.func30 (by kernel_rfl) rfl #[.slice A0_4 l0_4.length c0_4] (by rfl) rfl rfl (by (try simp only [List.map_toArray, List.map_cons, List.map_nil]) <;> rfl) ?_
 with_reducible refine (slices_Clone_int64_int64.calls _ _ l0_4 t206 _ ?side1 ?side2 A3.out).mono ?_
 (case side1 => exact CB HR0_4.out HB.out)
 (case side2 => exact HC0_4.out)
 rintro e w12 ⟨v207, rfl, ho0, hb⟩
 refine ⟨_, rfl, ?_⟩
 have HO208 := am (Kd.R_lower ho0 (below_size (by repeat (with_reducible first | exact HB.out | refine belS ?_ | refine below_set ?_ GE201.out | refine below_set ?_ GE202.out))))
 replace HO205 := am (Kd.R_below (by exact RL HO205.out) hb)
 replace BK201 := am (blkB BK201.out hb)
 replace BK202 := am (blkB BK202.out hb)
 replace HB := am (below_step (by repeat (with_reducible first | exact HB.out | refine belS ?_ | refine below_set ?_ GE201.out | refine below_set ?_ GE202.out)) hb)
 (try clear hb)
 (try clear hb2)
 (try clear hk)
 (try clear hi)
 (try clear ho0)
 refine hK.out _ _ ⟨(blk_cell BK201.out 0).trans rfl, (blk_cell BK201.out 1).trans rfl, (blk_cell BK201.out 2).trans rfl, (blk_cell BK201.out 3).trans rfl, (blk_cell BK201.out 4).trans rfl, (blk_cell BK201.out 5).trans rfl, (blk_cell BK201.out 6).trans rfl, (blk_cell BK201.out 7).trans rfl, (blk_cell BK201.out 8).trans rfl⟩ (fun hHeld => ?_)
 clear hK K
 refine norm_ (a' := ?_) ?_ ?_
 rotate_left
 ·show Act.put _ (some 8) _ = _
  simp only [Act.put, List.setIfInBounds_toArray, List.set_cons_zero, List.set_cons_succ, i64_w, i32_w]
  rfl
 refine one_ (i := 8) (N := some 11) #[true, true, true, true, true, true, true, true, true, true, false, false, false, false, false] rfl rfl (one_of HT_.out (by kernel_rfl)) (by decide) (fun K hK => ?_)
 refine goes_ Try.func67 (by kernel_rfl) rfl #[.slice A0_5 l0_5.length c0_5] (by rfl) rfl rfl (by (try simp only [List.map_toArray, List.map_cons, List.map_nil]) <;> rfl) ?_
 with_reducible refine (api_Entry.calls _ _ l0_5 t209 _ ?side1 ?side2 A4.out).mono ?_
 (case side1 => exact CB HR0_5.out HB.out)
 (case side2 => exact HC0_5.out)
 rintro e w13 ⟨v210, rfl, ho0, hb⟩
 refine ⟨_, rfl, ?_⟩
 have HO211 := am (Kd.R_lower ho0 (below_size (by repeat (with_reducible first | exact HB.out | refine belS ?_ | refine below_set ?_ GE201.out | refine below_set ?_ GE202.out))))
 replace HO205 := am (Kd.R_below (by exact RL HO205.out) hb)
 replace HO208 := am (Kd.R_below (by exact RL HO208.out) hb)
 replace BK201 := am (blkB BK201.out hb)
 replace BK202 := am (blkB BK202.out hb)
 replace HB := am (below_step (by repeat (with_reducible first | exact HB.out | refine belS ?_ | refine below_set ?_ GE201.out | refine below_set ?_ GE202.out)) hb)
 (try clear hb)
 (try clear hb2)
 (try clear hk)
 (try clear hi)
 (try clear ho0)
 obtain ⟨Ao14, co14, eo14⟩ := Kd.R_slice HO205.out
 (first | subst eo14 | (injection eo14 with f1_ f2_ f3_; have f4_ := f1_.symm; have f5_ := f3_.symm; clear f1_ f2_ f3_; subst f4_; subst f5_))
 obtain ⟨Ao16, co16, eo16⟩ := Kd.R_slice HO208.out
 (first | subst eo16 | (injection eo16 with f1_ f2_ f3_; have f4_ := f1_.symm; have f5_ := f3_.symm; clear f1_ f2_ f3_; subst f4_; subst f5_))
 obtain ⟨Ao18, co18, eo18⟩ := Kd.R_slice HO211.out
 (first | subst eo18 | (injection eo18 with f1_ f2_ f3_; have f4_ := f1_.symm; have f5_ := f3_.symm; clear f1_ f2_ f3_; subst f4_; subst f5_))
 refine hK.out _ _ ⟨(blk_cell BK201.out 0).trans rfl, (blk_cell BK201.out 1).trans rfl, (blk_cell BK201.out 2).trans rfl, (blk_cell BK201.out 3).trans rfl, (blk_cell BK201.out 4).trans rfl, (blk_cell BK201.out 5).trans rfl, (blk_cell BK201.out 6).trans rfl, (blk_cell BK201.out 7).trans rfl, (blk_cell BK201.out 8).trans rfl⟩ (fun hHeld => ?_)
 clear hK K
 refine norm_ (a' := ?_) ?_ ?_
 rotate_left
 ·show Act.put _ (some 11) _ = _
  simp only [Act.put, List.setIfInBounds_toArray, List.set_cons_zero, List.set_cons_succ, i64_w, i32_w]
  rfl
 refine last_ (i := 10) (N := none) #[true, true, true, true, true, true, true, true, true, true, true, false, false, false, false] rfl rfl (one_of HT_.out (by kernel_rfl)) (by decide) (fun K hK => ?_)
 have hs15 : w13.cell? ⟨gb201, 3, none⟩ = some (.slice A0_3 l0_3.length c0_3) := (blk_cell BK201.out 3).trans rfl
 have hfs15 := blk_frozen BK201.out 3
 have hns15_1 := NB202_201.out
 have hms15_1 := NB201_202.out
 refine skip_ (w1 := ?_) (by rfl) rfl ?_ ?_
 rotate_left
 ·go_simp
  rfl
 refine hK.out _ _ ?_
 clear hK K
 refine pure_ (i := 11) (N := some 13) (v := ?_) (a' := ?_) #[true, true, true, true, true, true, true, true, true, true, true, true, false, false, false] rfl rfl (any_of HT_.out (by kernel_rfl)) (fun _ _ _ h => h) (Or.inl ⟨by rfl, ?_⟩) ?_ ?_
 rotate_left
 ·intro w'
  go_simp
  with_reducible rfl
 rotate_left
 ·simp only [Act.put, List.setIfInBounds_toArray, List.set_cons_zero, List.set_cons_succ, i64_w, i32_w]
  rfl
 refine last_ (i := 12) (N := none) #[true, true, true, true, true, true, true, true, true, true, true, true, true, false, false] rfl rfl (one_of HT_.out (by kernel_rfl)) (by decide) (fun K hK => ?_)
 have hs17 : w13.cell? ⟨gb201, 4, none⟩ = some (.slice A0_4 l0_4.length c0_4) := (blk_cell BK201.out 4).trans rfl
 have hfs17 := blk_frozen BK201.out 4
 have hns17_1 := NB202_201.out
 have hms17_1 := NB201_202.out
 refine skip_ (w1 := ?_) (by rfl) rfl ?_ ?_
 rotate_left
 ·go_simp
  rfl
 refine hK.out _ _ ?_
 clear hK K
 refine pure_ (i := 13) (N := some 14) (v := ?_) (a' := ?_) #[true, true, true, true, true, true, true, true, true, true, true, true, true, true, false] rfl rfl (any_of HT_.out (by kernel_rfl)) (fun _ _ _ h => h) (Or.inl ⟨by rfl, ?_⟩) ?_ ?_
 rotate_left
 ·intro w'
  go_simp
  with_reducible rfl
 rotate_left
 ·simp only [Act.put, List.setIfInBounds_toArray, List.set_cons_zero, List.set_cons_succ, i64_w, i32_w]
  rfl
 refine last_ (i := 14) (N := none) #[true, true, true, true, true, true, true, true, true, true, true, true, true, true, true] rfl rfl (one_of HT_.out (by kernel_rfl)) (by decide) (fun K hK => ?_)
 have hs19 : w13.cell? ⟨gb201, 5, none⟩ = some (.slice A0_5 l0_5.length c0_5) := (blk_cell BK201.out 5).trans rfl
 have hfs19 := blk_frozen BK201.out 5
 have hns19_1 := NB202_201.out
 have hms19_1 := NB201_202.out
 refine skip_ (w1 := ?_) (by rfl) rfl ?_ ?_
 rotate_left
 ·go_simp
  rfl
 refine hK.out _ _ ?_
 clear hK K
 refine done_ (done_of HT_.out (by kernel_rfl)) ?_
 try go_wp2
 have n0_ : Aside0 (Kd.R k55 55 (((w13.setCell ⟨gb201, 3, none⟩ (.slice Ao14 t203.length co14)).setCell ⟨gb201, 4, none⟩ (.slice Ao16 t206.length co16)).setCell ⟨gb201, 5, none⟩ (.slice Ao18 t209.length co18)) w.heap.size (fun _ => True) (.slice Ao14 t203.length co14) t203) := ⟨by (repeat refine RS ?_); exact Kd.R_mono (Kd.R_far (p := ⟨gb201, 5, none⟩) (Kd.R_far (p := ⟨gb201, 4, none⟩) (Kd.R_far (p := ⟨gb201, 3, none⟩) (Kd.R_types HO205.out BK201.out (by decide)) (fun _ hk => hk.2) (.slice Ao14 t203.length co14)) (fun _ hk => hk.2) (.slice Ao16 t206.length co16)) (fun _ hk => hk.2) (.slice Ao18 t209.length co18)) (fun _ hk => trivial)⟩
 have n1_ : Aside0 (Kd.R (Kd.int .i64) 2 (((w13.setCell ⟨gb201, 3, none⟩ (.slice Ao14 t203.length co14)).setCell ⟨gb201, 4, none⟩ (.slice Ao16 t206.length co16)).setCell ⟨gb201, 5, none⟩ (.slice Ao18 t209.length co18)) w.heap.size (fun _ => True) (.slice Ao16 t206.length co16) t206) := ⟨by (repeat refine RS ?_); exact Kd.R_mono (Kd.R_far (p := ⟨gb201, 5, none⟩) (Kd.R_far (p := ⟨gb201, 4, none⟩) (Kd.R_far (p := ⟨gb201, 3, none⟩) (Kd.R_types HO208.out BK201.out (by decide)) (fun _ hk => hk.2) (.slice Ao14 t203.length co14)) (fun _ hk => hk.2) (.slice Ao16 t206.length co16)) (fun _ hk => hk.2) (.slice Ao18 t209.length co18)) (fun _ hk => trivial)⟩
 have n2_ : Aside0 (Kd.R k105 105 (((w13.setCell ⟨gb201, 3, none⟩ (.slice Ao14 t203.length co14)).setCell ⟨gb201, 4, none⟩ (.slice Ao16 t206.length co16)).setCell ⟨gb201, 5, none⟩ (.slice Ao18 t209.length co18)) w.heap.size (fun _ => True) (.slice Ao18 t209.length co18) t209) := ⟨by (repeat refine RS ?_); exact Kd.R_mono (Kd.R_far (p := ⟨gb201, 5, none⟩) (Kd.R_far (p := ⟨gb201, 4, none⟩) (Kd.R_far (p := ⟨gb201, 3, none⟩) (Kd.R_types HO211.out BK201.out (by decide)) (fun _ hk => hk.2) (.slice Ao14 t203.length co14)) (fun _ hk => hk.2) (.slice Ao16 t206.length co16)) (fun _ hk => hk.2) (.slice Ao18 t209.length co18)) (fun _ hk => trivial)⟩
 have n3_ : Aside0 ((((w13.setCell ⟨gb201, 3, none⟩ (.slice Ao14 t203.length co14)).setCell ⟨gb201, 4, none⟩ (.slice Ao16 t206.length co16)).setCell ⟨gb201, 5, none⟩ (.slice Ao18 t209.length co18)).heap[gb201]? = some (.cells #[.int .u8 a0_0, .int .i64 a0_1, .int .i64 a0_2, .slice Ao14 t203.length co14, .slice Ao16 t206.length co16, .slice Ao18 t209.length co18, .slice A0_6 l0_6.length c0_6, .slice A0_7 l0_7.length c0_7, .slice A0_8 l0_8.length c0_8] 31 (0, 0))) := ⟨by (repeat refine blkS ?_); refine blk_put (cs := #[.int .u8 a0_0, .int .i64 a0_1, .int .i64 a0_2, .slice Ao14 t203.length co14, .slice Ao16 t206.length co16, .slice A0_5 l0_5.length c0_5, .slice A0_6 l0_6.length c0_6, .slice A0_7 l0_7.length c0_7, .slice A0_8 l0_8.length c0_8]) ?_ 5 _ rfl; (repeat refine blkS ?_); refine blk_put (cs := #[.int .u8 a0_0, .int .i64 a0_1, .int .i64 a0_2, .slice Ao14 t203.length co14, .slice A0_4 l0_4.length c0_4, .slice A0_5 l0_5.length c0_5, .slice A0_6 l0_6.length c0_6, .slice A0_7 l0_7.length c0_7, .slice A0_8 l0_8.length c0_8]) ?_ 4 _ rfl; (repeat refine blkS ?_); refine blk_put (cs := #[.int .u8 a0_0, .int .i64 a0_1, .int .i64 a0_2, .slice A0_3 l0_3.length c0_3, .slice A0_4 l0_4.length c0_4, .slice A0_5 l0_5.length c0_5, .slice A0_6 l0_6.length c0_6, .slice A0_7 l0_7.length c0_7, .slice A0_8 l0_8.length c0_8]) ?_ 3 _ rfl; (repeat refine blkS ?_); exact BK201.out⟩
 have n4_ : Aside0 ((((w13.setCell ⟨gb201, 3, none⟩ (.slice Ao14 t203.length co14)).setCell ⟨gb201, 4, none⟩ (.slice Ao16 t206.length co16)).setCell ⟨gb201, 5, none⟩ (.slice Ao18 t209.length co18)).heap[gb202]? = some (.cells #[.int .u8 0, .int .i64 0, .int .i64 0, .slice none 0 0, .slice none 0 0, .slice none 0 0, .slice none 0 0, .slice none 0 0, .slice none 0 0] 31 (0, 0))) := ⟨by (repeat refine blkS ?_); apply far3 (hp := NB202_201.out); (repeat refine blkS ?_); exact BK202.out⟩
 have n5_ : Aside0 (Below w.heap.size w (((w13.setCell ⟨gb201, 3, none⟩ (.slice Ao14 t203.length co14)).setCell ⟨gb201, 4, none⟩ (.slice Ao16 t206.length co16)).setCell ⟨gb201, 5, none⟩ (.slice Ao18 t209.length co18))) := ⟨by repeat (with_reducible first | exact HB.out | refine belS ?_ | refine below_set ?_ GE201.out | refine below_set ?_ GE202.out)⟩
 (try clear HO205)
 (try clear HO208)
 (try clear HO211)
 (try clear BK201)
 (try clear BK202)
 (try clear HB)
 generalize (((w13.setCell ⟨gb201, 3, none⟩ (.slice Ao14 t203.length co14)).setCell ⟨gb201, 4, none⟩ (.slice Ao16 t206.length co16)).setCell ⟨gb201, 5, none⟩ (.slice Ao18 t209.length co18)) = w20 at n0_ n1_ n2_ n3_ n4_ n5_ ⊢
 have HO205 := n0_
 have HO208 := n1_
 have HO211 := n2_
 have BK201 := n3_
 have BK202 := n4_
 have HB := n5_
 clear n0_ n1_ n2_ n3_ n4_ n5_
 replace HO205 := am (Kd.R_drew HO205.out)
 replace HO208 := am (Kd.R_drew HO208.out)
 replace HO211 := am (Kd.R_drew HO211.out)
 replace BK201 := am (blk_drew BK201.out)
 replace BK202 := am (blk_drew BK202.out)
 replace HB := am (below_drew1 HB.out)
 refine start_ (n := 15) (S := fun w' => w'.cell? ⟨gb201, 0, none⟩ = some (.int .u8 a0_0) ∧ w'.cell? ⟨gb201, 1, none⟩ = some (.int .i64 a0_1) ∧ w'.cell? ⟨gb201, 2, none⟩ = some (.int .i64 a0_2) ∧ w'.cell? ⟨gb201, 3, none⟩ = some (.slice Ao14 t203.length co14) ∧ w'.cell? ⟨gb201, 4, none⟩ = some (.slice Ao16 t206.length co16) ∧ w'.cell? ⟨gb201, 5, none⟩ = some (.slice Ao18 t209.length co18) ∧ w'.cell? ⟨gb201, 6, none⟩ = some (.slice A0_6 l0_6.length c0_6) ∧ w'.cell? ⟨gb201, 7, none⟩ = some (.slice A0_7 l0_7.length c0_7) ∧ w'.cell? ⟨gb201, 8, none⟩ = some (.slice A0_8 l0_8.length c0_8)) (ds := [10, 12, 14]) #[false, false, false, false, false, false, false, false, false, false, false, false, false, false, false] (by kernel_rfl) rfl rfl ⟨(blk_cell BK201.out 0).trans rfl, (blk_cell BK201.out 1).trans rfl, (blk_cell BK201.out 2).trans rfl, (blk_cell BK201.out 3).trans rfl, (blk_cell BK201.out 4).trans rfl, (blk_cell BK201.out 5).trans rfl, (blk_cell BK201.out 6).trans rfl, (blk_cell BK201.out 7).trans rfl, (blk_cell BK201.out 8).trans rfl⟩ (fun hHeld => ?_); refine with_tabW task_clone.tab2 task_clone.bits2 (fun HT_ HW_ => ?_)
 generalize w20.drew = w21 at HO205 HO208 HO211 BK201 BK202 HB hHeld ⊢
 refine pure_ (i := 0) (N := some 15) (v := ?_) (a' := ?_) #[true, false, false, false, false, false, false, false, false, false, false, false, false, false, false] rfl rfl (any_of HT_.out (by kernel_rfl)) (fun _ _ _ h => h) (Or.inl ⟨by rfl, ?_⟩) ?_ ?_
 rotate_left
 ·intro w'
  go_simp
  with_reducible rfl
 rotate_left
 ·simp only [Act.put, List.setIfInBounds_toArray, List.set_cons_zero, List.set_cons_succ, i64_w, i32_w]
  rfl
 refine pure_ (i := 3) (N := some 18) (v := ?_) (a' := ?_) #[true, false, false, true, false, false, false, false, false, false, false, false, false, false, false] rfl rfl (any_of HT_.out (by kernel_rfl)) (fun _ _ _ h => h) (Or.inl ⟨by rfl, ?_⟩) ?_ ?_
 rotate_left
 ·intro w'
  go_simp
  with_reducible rfl
 rotate_left
 ·simp only [Act.put, List.setIfInBounds_toArray, List.set_cons_zero, List.set_cons_succ, i64_w, i32_w]
  rfl
 refine pure_ (i := 6) (N := some 21) (v := ?_) (a' := ?_) #[true, false, false, true, false, false, true, false, false, false, false, false, false, false, false] rfl rfl (any_of HT_.out (by kernel_rfl)) (fun _ _ _ h => h) (Or.inl ⟨by rfl, ?_⟩) ?_ ?_
 rotate_left
 ·intro w'
  go_simp
  with_reducible rfl
 rotate_left
 ·simp only [Act.put, List.setIfInBounds_toArray, List.set_cons_zero, List.set_cons_succ, i64_w, i32_w]
  rfl
 refine take_ (i := 1) (N := some 16) (v := ?_) (a' := ?_) #[true, true, false, true, false, false, true, false, false, false, false, false, false, false, false] rfl rfl (take_ofW HT_.out HW_.out (by kernel_rfl)) (fun _ _ _ h => h) (Or.inl ⟨by rfl, ?_⟩) hHeld ?_ ?_
 rotate_left
 ·rintro w' ⟨s0, s1, s2, s3, s4, s5, s6, s7, s8⟩
  go_simp
  with_reducible rfl
 rotate_left
 ·simp only [Act.put, List.setIfInBounds_toArray, List.set_cons_zero, List.set_cons_succ, i64_w, i32_w]
  rfl
 refine take_ (i := 4) (N := some 19) (v := ?_) (a' := ?_) #[true, true, false, true, true, false, true, false, false, false, false, false, false, false, false] rfl rfl (take_ofW HT_.out HW_.out (by kernel_rfl)) (fun _ _ _ h => h) (Or.inl ⟨by rfl, ?_⟩) hHeld ?_ ?_
 rotate_left
 ·rintro w' ⟨s0, s1, s2, s3, s4, s5, s6, s7, s8⟩
  go_simp
  with_reducible rfl
 rotate_left
 ·simp only [Act.put, List.setIfInBounds_toArray, List.set_cons_zero, List.set_cons_succ, i64_w, i32_w]
  rfl
 refine take_ (i := 7) (N := some 22) (v := ?_) (a' := ?_) #[true, true, false, true, true, false, true, true, false, false, false, false, false, false, false] rfl rfl (take_ofW HT_.out HW_.out (by kernel_rfl)) (fun _ _ _ h => h) (Or.inl ⟨by rfl, ?_⟩) hHeld ?_ ?_
 rotate_left
 ·rintro w' ⟨s0, s1, s2, s3, s4, s5, s6, s7, s8⟩
  go_simp
  with_reducible rfl
 rotate_left
 ·simp only [Act.put, List.setIfInBounds_toArray, List.set_cons_zero, List.set_cons_succ, i64_w, i32_w]
  rfl
 refine one_ (i := 2) (N := some 17) #[true, true, true, true, true, false, true, true, false, false, false, false, false, false, false] rfl rfl (one_of HT_.out (by kernel_rfl)) (by decide) (fun K hK => ?_)
 refine goes_ Try.func68 (by kernel_rfl) rfl #[.slice A0_6 l0_6.length c0_6] (by rfl) rfl rfl (by (try simp only [List.map_toArray, List.map_cons, List.map_nil]) <;> rfl) ?_
 with_reducible refine (api_Event.calls _ _ l0_6 t212 _ ?side1 ?side2 A5.out).mono ?_
 (case side1 => exact CB HR0_6.out HB.out)
 (case side2 => exact HC0_6.out)
 rintro e w22 ⟨v213, rfl, ho0, hb⟩
 refine ⟨_, rfl, ?_⟩
 have HO214 := am (Kd.R_lower ho0 (below_size (by repeat (with_reducible first | exact HB.out | refine belS ?_ | refine below_set ?_ GE201.out | refine below_set ?_ GE202.out))))
 replace HO205 := am (Kd.R_below (by exact RL HO205.out) hb)
 replace HO208 := am (Kd.R_below (by exact RL HO208.out) hb)
 replace HO211 := am (Kd.R_below (by exact RL HO211.out) hb)
 replace BK201 := am (blkB BK201.out hb)
 replace BK202 := am (blkB BK202.out hb)
 replace HB := am (below_step (by repeat (with_reducible first | exact HB.out | refine belS ?_ | refine below_set ?_ GE201.out | refine below_set ?_ GE202.out)) hb)
 (try clear hb)
 (try clear hb2)
 (try clear hk)
 (try clear hi)
 (try clear ho0)
 refine hK.out _ _ ⟨(blk_cell BK201.out 0).trans rfl, (blk_cell BK201.out 1).trans rfl, (blk_cell BK201.out 2).trans rfl, (blk_cell BK201.out 3).trans rfl, (blk_cell BK201.out 4).trans rfl, (blk_cell BK201.out 5).trans rfl, (blk_cell BK201.out 6).trans rfl, (blk_cell BK201.out 7).trans rfl, (blk_cell BK201.out 8).trans rfl⟩ (fun hHeld => ?_)
 clear hK K
 refine norm_ (a' := ?_) ?_ ?_
 rotate_left
 ·show Act.put _ (some 17) _ = _
  simp only [Act.put, List.setIfInBounds_toArray, List.set_cons_zero, List.set_cons_succ, i64_w, i32_w]
  rfl
 refine pure_ (i := 9) (N := some 24) (v := ?_) (a' := ?_) #[true, true, true, true, true, false, true, true, false, true, false, false, false, false, false] rfl rfl (any_of HT_.out (by kernel_rfl)) (fun _ _ _ h => h) (Or.inl ⟨by rfl, ?_⟩) ?_ ?_
 rotate_left
 ·intro w'
  go_simp
  with_reducible rfl
 rotate_left
 ·simp only [Act.put, List.setIfInBounds_toArray, List.set_cons_zero, List.set_cons_succ, i64_w, i32_w]
  rfl
 refine one_ (i := 5) (N := some 20) #[true, true, true, true, true, true, true, true, false, true, false, false, false, false, false] rfl rfl (one_of HT_.out (by kernel_rfl)) (by decide) (fun K hK => ?_)
 refine goes_ Try.func69 (by kernel_rfl) rfl #[.slice A0_7 l0_7.length c0_7] (by rfl) rfl rfl (by (try simp only [List.map_toArray, List.map_cons, List.map_nil]) <;> rfl) ?_
 with_reducible refine (api_Row.calls _ _ l0_7 t215 _ ?side1 ?side2 A6.out).mono ?_
 (case side1 => exact CB HR0_7.out HB.out)
 (case side2 => exact HC0_7.out)
 rintro e w23 ⟨v216, rfl, ho0, hb⟩
 refine ⟨_, rfl, ?_⟩
 have HO217 := am (Kd.R_lower ho0 (below_size (by repeat (with_reducible first | exact HB.out | refine belS ?_ | refine below_set ?_ GE201.out | refine below_set ?_ GE202.out))))
 replace HO205 := am (Kd.R_below (by exact RL HO205.out) hb)
 replace HO208 := am (Kd.R_below (by exact RL HO208.out) hb)
 replace HO211 := am (Kd.R_below (by exact RL HO211.out) hb)
 replace HO214 := am (Kd.R_below (by exact RL HO214.out) hb)
 replace BK201 := am (blkB BK201.out hb)
 replace BK202 := am (blkB BK202.out hb)
 replace HB := am (below_step (by repeat (with_reducible first | exact HB.out | refine belS ?_ | refine below_set ?_ GE201.out | refine below_set ?_ GE202.out)) hb)
 (try clear hb)
 (try clear hb2)
 (try clear hk)
 (try clear hi)
 (try clear ho0)
 refine hK.out _ _ ⟨(blk_cell BK201.out 0).trans rfl, (blk_cell BK201.out 1).trans rfl, (blk_cell BK201.out 2).trans rfl, (blk_cell BK201.out 3).trans rfl, (blk_cell BK201.out 4).trans rfl, (blk_cell BK201.out 5).trans rfl, (blk_cell BK201.out 6).trans rfl, (blk_cell BK201.out 7).trans rfl, (blk_cell BK201.out 8).trans rfl⟩ (fun hHeld => ?_)
 clear hK K
 refine norm_ (a' := ?_) ?_ ?_
 rotate_left
 ·show Act.put _ (some 20) _ = _
  simp only [Act.put, List.setIfInBounds_toArray, List.set_cons_zero, List.set_cons_succ, i64_w, i32_w]
  rfl
 refine one_ (i := 8) (N := some 23) #[true, true, true, true, true, true, true, true, true, true, false, false, false, false, false] rfl rfl (one_of HT_.out (by kernel_rfl)) (by decide) (fun K hK => ?_)
 refine goes_ Try.func70 (by kernel_rfl) rfl #[.slice A0_8 l0_8.length c0_8] (by rfl) rfl rfl (by (try simp only [List.map_toArray, List.map_cons, List.map_nil]) <;> rfl) ?_
 with_reducible refine (api_Record.calls _ _ l0_8 t218 _ ?side1 ?side2 A7.out).mono ?_
 (case side1 => exact CB HR0_8.out HB.out)
 (case side2 => exact HC0_8.out)
 rintro e w24 ⟨v219, rfl, ho0, hb⟩
 refine ⟨_, rfl, ?_⟩
 have HO220 := am (Kd.R_lower ho0 (below_size (by repeat (with_reducible first | exact HB.out | refine belS ?_ | refine below_set ?_ GE201.out | refine below_set ?_ GE202.out))))
 replace HO205 := am (Kd.R_below (by exact RL HO205.out) hb)
 replace HO208 := am (Kd.R_below (by exact RL HO208.out) hb)
 replace HO211 := am (Kd.R_below (by exact RL HO211.out) hb)
 replace HO214 := am (Kd.R_below (by exact RL HO214.out) hb)
 replace HO217 := am (Kd.R_below (by exact RL HO217.out) hb)
 replace BK201 := am (blkB BK201.out hb)
 replace BK202 := am (blkB BK202.out hb)
 replace HB := am (below_step (by repeat (with_reducible first | exact HB.out | refine belS ?_ | refine below_set ?_ GE201.out | refine below_set ?_ GE202.out)) hb)
 (try clear hb)
 (try clear hb2)
 (try clear hk)
 (try clear hi)
 (try clear ho0)
 obtain ⟨Ao25, co25, eo25⟩ := Kd.R_slice HO214.out
 (first | subst eo25 | (injection eo25 with f1_ f2_ f3_; have f4_ := f1_.symm; have f5_ := f3_.symm; clear f1_ f2_ f3_; subst f4_; subst f5_))
 obtain ⟨Ao27, co27, eo27⟩ := Kd.R_slice HO217.out
 (first | subst eo27 | (injection eo27 with f1_ f2_ f3_; have f4_ := f1_.symm; have f5_ := f3_.symm; clear f1_ f2_ f3_; subst f4_; subst f5_))
 obtain ⟨Ao29, co29, eo29⟩ := Kd.R_slice HO220.out
 (first | subst eo29 | (injection eo29 with f1_ f2_ f3_; have f4_ := f1_.symm; have f5_ := f3_.symm; clear f1_ f2_ f3_; subst f4_; subst f5_))
 refine hK.out _ _ ⟨(blk_cell BK201.out 0).trans rfl, (blk_cell BK201.out 1).trans rfl, (blk_cell BK201.out 2).trans rfl, (blk_cell BK201.out 3).trans rfl, (blk_cell BK201.out 4).trans rfl, (blk_cell BK201.out 5).trans rfl, (blk_cell BK201.out 6).trans rfl, (blk_cell BK201.out 7).trans rfl, (blk_cell BK201.out 8).trans rfl⟩ (fun hHeld => ?_)
 clear hK K
 refine norm_ (a' := ?_) ?_ ?_
 rotate_left
 ·show Act.put _ (some 23) _ = _
  simp only [Act.put, List.setIfInBounds_toArray, List.set_cons_zero, List.set_cons_succ, i64_w, i32_w]
  rfl
 refine last_ (i := 10) (N := none) #[true, true, true, true, true, true, true, true, true, true, true, false, false, false, false] rfl rfl (one_of HT_.out (by kernel_rfl)) (by decide) (fun K hK => ?_)
 have hs26 : w24.cell? ⟨gb201, 6, none⟩ = some (.slice A0_6 l0_6.length c0_6) := (blk_cell BK201.out 6).trans rfl
 have hfs26 := blk_frozen BK201.out 6
 have hns26_1 := NB202_201.out
 have hms26_1 := NB201_202.out
 refine skip_ (w1 := ?_) (by rfl) rfl ?_ ?_
 rotate_left
 ·go_simp
  rfl
 refine hK.out _ _ ?_
 clear hK K
 refine pure_ (i := 11) (N := some 25) (v := ?_) (a' := ?_) #[true, true, true, true, true, true, true, true, true, true, true, true, false, false, false] rfl rfl (any_of HT_.out (by kernel_rfl)) (fun _ _ _ h => h) (Or.inl ⟨by rfl, ?_⟩) ?_ ?_
 rotate_left
 ·intro w'
  go_simp
  with_reducible rfl
 rotate_left
 ·simp only [Act.put, List.setIfInBounds_toArray, List.set_cons_zero, List.set_cons_succ, i64_w, i32_w]
  rfl
 refine last_ (i := 12) (N := none) #[true, true, true, true, true, true, true, true, true, true, true, true, true, false, false] rfl rfl (one_of HT_.out (by kernel_rfl)) (by decide) (fun K hK => ?_)
 have hs28 : w24.cell? ⟨gb201, 7, none⟩ = some (.slice A0_7 l0_7.length c0_7) := (blk_cell BK201.out 7).trans rfl
 have hfs28 := blk_frozen BK201.out 7
 have hns28_1 := NB202_201.out
 have hms28_1 := NB201_202.out
 refine skip_ (w1 := ?_) (by rfl) rfl ?_ ?_
 rotate_left
 ·go_simp
  rfl
 refine hK.out _ _ ?_
 clear hK K
 refine pure_ (i := 13) (N := some 26) (v := ?_) (a' := ?_) #[true, true, true, true, true, true, true, true, true, true, true, true, true, true, false] rfl rfl (any_of HT_.out (by kernel_rfl)) (fun _ _ _ h => h) (Or.inl ⟨by rfl, ?_⟩) ?_ ?_
 rotate_left
 ·intro w'
  go_simp
  with_reducible rfl
 rotate_left
 ·simp only [Act.put, List.setIfInBounds_toArray, List.set_cons_zero, List.set_cons_succ, i64_w, i32_w]
  rfl
 refine last_ (i := 14) (N := none) #[true, true, true, true, true, true, true, true, true, true, true, true, true, true, true] rfl rfl (one_of HT_.out (by kernel_rfl)) (by decide) (fun K hK => ?_)
 have hs30 : w24.cell? ⟨gb201, 8, none⟩ = some (.slice A0_8 l0_8.length c0_8) := (blk_cell BK201.out 8).trans rfl
 have hfs30 := blk_frozen BK201.out 8
 have hns30_1 := NB202_201.out
 have hms30_1 := NB201_202.out
 refine skip_ (w1 := ?_) (by rfl) rfl ?_ ?_
 rotate_left
 ·go_simp
  rfl
 refine hK.out _ _ ?_
 clear hK K
 refine done_ (done_of HT_.out (by kernel_rfl)) ?_
 have hnb31 := NB201_202.out
 have hnc31 := NB202_201.out
 obtain ⟨z32_0, z32_1, z32_2, z32_3, z32_4, z32_5, z32_6, z32_7, z32_8, y32_0, y32_1, y32_2, y32_3, y32_4, y32_5, y32_6, y32_7, y32_8⟩ := box9 BK201.out
 obtain ⟨z33_0, z33_1, z33_2, z33_3, z33_4, z33_5, z33_6, z33_7, z33_8, y33_0, y33_1, y33_2, y33_3, y33_4, y33_5, y33_6, y33_7, y33_8⟩ := box9 BK202.out
 try go_wp2
 refine bodyPost_ret (results_cell_row rfl _ _ gb202 31 #[.int .u8 a0_0, .int .i64 a0_1, .int .i64 a0_2, .slice Ao14 t203.length co14, .slice Ao16 t206.length co16, .slice Ao18 t209.length co18, .slice Ao25 t212.length co25, .slice Ao27 t215.length co27, .slice Ao29 t218.length co29] (0, 0) _ rfl (by (repeat refine blkS ?_); apply put9; (repeat refine blkS ?_); apply far3 (hp := NB202_201.out); (repeat refine blkS ?_); exact BK202.out) Try.underlying31 rfl (by kernel_rfl)) rfl ?_
 exact ⟨_, _, _, _, _, _, by first | rfl | (simp [errW_none, errW_some] <;> rfl) | (simp [*, errW_none, errW_some] <;> rfl), by (repeat refine RS ?_); exact Kd.R_mono (Rfar9 (Kd.R_far (p := ⟨gb201, 8, none⟩) (Kd.R_far (p := ⟨gb201, 7, none⟩) (Kd.R_far (p := ⟨gb201, 6, none⟩) (Kd.R_types (Kd.R_types HO205.out BK201.out (by decide)) BK202.out (by decide)) (fun _ hk => hk.1.2) (.slice Ao25 t212.length co25)) (fun _ hk => hk.1.2) (.slice Ao27 t215.length co27)) (fun _ hk => hk.1.2) (.slice Ao29 t218.length co29)) (fun _ hk => hk.2)) (fun _ hk => trivial), by (repeat refine RS ?_); exact Kd.R_mono (Rfar9 (Kd.R_far (p := ⟨gb201, 8, none⟩) (Kd.R_far (p := ⟨gb201, 7, none⟩) (Kd.R_far (p := ⟨gb201, 6, none⟩) (Kd.R_types (Kd.R_types HO208.out BK201.out (by decide)) BK202.out (by decide)) (fun _ hk => hk.1.2) (.slice Ao25 t212.length co25)) (fun _ hk => hk.1.2) (.slice Ao27 t215.length co27)) (fun _ hk => hk.1.2) (.slice Ao29 t218.length co29)) (fun _ hk => hk.2)) (fun _ hk => trivial), by (repeat refine RS ?_); exact Kd.R_mono (Rfar9 (Kd.R_far (p := ⟨gb201, 8, none⟩) (Kd.R_far (p := ⟨gb201, 7, none⟩) (Kd.R_far (p := ⟨gb201, 6, none⟩) (Kd.R_types (Kd.R_types HO211.out BK201.out (by decide)) BK202.out (by decide)) (fun _ hk => hk.1.2) (.slice Ao25 t212.length co25)) (fun _ hk => hk.1.2) (.slice Ao27 t215.length co27)) (fun _ hk => hk.1.2) (.slice Ao29 t218.length co29)) (fun _ hk => hk.2)) (fun _ hk => trivial), by (repeat refine RS ?_); exact Kd.R_mono (Rfar9 (Kd.R_far (p := ⟨gb201, 8, none⟩) (Kd.R_far (p := ⟨gb201, 7, none⟩) (Kd.R_far (p := ⟨gb201, 6, none⟩) (Kd.R_types (Kd.R_types HO214.out BK201.out (by decide)) BK202.out (by decide)) (fun _ hk => hk.1.2) (.slice Ao25 t212.length co25)) (fun _ hk => hk.1.2) (.slice Ao27 t215.length co27)) (fun _ hk => hk.1.2) (.slice Ao29 t218.length co29)) (fun _ hk => hk.2)) (fun _ hk => trivial), by (repeat refine RS ?_); exact Kd.R_mono (Rfar9 (Kd.R_far (p := ⟨gb201, 8, none⟩) (Kd.R_far (p := ⟨gb201, 7, none⟩) (Kd.R_far (p := ⟨gb201, 6, none⟩) (Kd.R_types (Kd.R_types HO217.out BK201.out (by decide)) BK202.out (by decide)) (fun _ hk => hk.1.2) (.slice Ao25 t212.length co25)) (fun _ hk => hk.1.2) (.slice Ao27 t215.length co27)) (fun _ hk => hk.1.2) (.slice Ao29 t218.length co29)) (fun _ hk => hk.2)) (fun _ hk => trivial), by (repeat refine RS ?_); exact Kd.R_mono (Rfar9 (Kd.R_far (p := ⟨gb201, 8, none⟩) (Kd.R_far (p := ⟨gb201, 7, none⟩) (Kd.R_far (p := ⟨gb201, 6, none⟩) (Kd.R_types (Kd.R_types HO220.out BK201.out (by decide)) BK202.out (by decide)) (fun _ hk => hk.1.2) (.slice Ao25 t212.length co25)) (fun _ hk => hk.1.2) (.slice Ao27 t215.length co27)) (fun _ hk => hk.1.2) (.slice Ao29 t218.length co29)) (fun _ hk => hk.2)) (fun _ hk => trivial), by repeat (with_reducible first | exact HB.out | refine belS ?_ | refine below_set ?_ GE201.out | refine below_set ?_ GE202.out)⟩
def task_Pend.f (a0_0 : Int) (a0_1 : Int) (a0_2 : Int) (l0_3 : List (S55)) (l0_4 : List Int) (l0_5 : List (S105)) (l0_6 : List (S99)) (l0_7 : List (S48)) (l0_8 : List (S43)) (l1 : List (S55)) : Option (Int × Int × Int × (List (S55)) × List Int × (List (S105)) × (List (S99)) × (List (S48)) × (List (S43)) × Int) := (task_Check.f a0_0 a0_1 a0_2 l0_3 l0_4 l0_5 l0_6 l0_7 l0_8).bind fun t223 => (if t223 = 0 then ((task_sends.f l1).bind fun t224 => (if t224 = true then (if (l1.length : Int) > (wrap64 (4000 - (l0_3.length : Int))) then (some (0, 0, 0, ([] : List (S55)), ([] : List Int), ([] : List (S105)), ([] : List (S99)), ([] : List (S48)), ([] : List (S43)), 4)) else ((task_clone.f a0_0 a0_1 a0_2 l0_3 l0_4 l0_5 l0_6 l0_7 l0_8).bind fun bt225 => (if bt225.2.2.2.1.length + l1.length < 1599289640401 then (some (bt225.1, bt225.2.1, bt225.2.2.1, (bt225.2.2.2.1 ++ l1), bt225.2.2.2.2.1, bt225.2.2.2.2.2.1, bt225.2.2.2.2.2.2.1, bt225.2.2.2.2.2.2.2.1, bt225.2.2.2.2.2.2.2.2, 0)) else (none)))) else (some (0, 0, 0, ([] : List (S55)), ([] : List Int), ([] : List (S105)), ([] : List (S99)), ([] : List (S48)), ([] : List (S43)), 8)))) else (some (0, 0, 0, ([] : List (S55)), ([] : List Int), ([] : List (S105)), ([] : List (S99)), ([] : List (S48)), ([] : List (S43)), t223)))
set_option maxHeartbeats 8000000 in
set_option maxRecDepth 100000 in
theorem task_Pend.calls (a0_0 : Int) (a0_1 : Int) (a0_2 : Int) (A0_3 : Option Addr) (c0_3 : Nat) (l0_3 : List (S55)) (A0_4 : Option Addr) (c0_4 : Nat) (l0_4 : List Int) (A0_5 : Option Addr) (c0_5 : Nat) (l0_5 : List (S105)) (A0_6 : Option Addr) (c0_6 : Nat) (l0_6 : List (S99)) (A0_7 : Option Addr) (c0_7 : Nat) (l0_7 : List (S48)) (A0_8 : Option Addr) (c0_8 : Nat) (l0_8 : List (S43)) (A1 : Option Addr) (c1 : Nat) (l1 : List (S55)) (r1 : Int) (r2 : Int) (r3 : Int) (r4 : List (S55)) (r5 : List Int) (r6 : List (S105)) (r7 : List (S99)) (r8 : List (S48)) (r9 : List (S43)) (r10 : Int) (w : World) (hr0_3 : Kd.C k55 w A0_3 l0_3.length l0_3) (hc0_3 : l0_3.length ≤ c0_3) (hr0_4 : Kd.C (Kd.int .i64) w A0_4 l0_4.length l0_4) (hc0_4 : l0_4.length ≤ c0_4) (hr0_5 : Kd.C k105 w A0_5 l0_5.length l0_5) (hc0_5 : l0_5.length ≤ c0_5) (hr0_6 : Kd.C k99 w A0_6 l0_6.length l0_6) (hc0_6 : l0_6.length ≤ c0_6) (hr0_7 : Kd.C k48 w A0_7 l0_7.length l0_7) (hc0_7 : l0_7.length ≤ c0_7) (hr0_8 : Kd.C k43 w A0_8 l0_8.length l0_8) (hc0_8 : l0_8.length ≤ c0_8) (hr1 : Kd.C k55 w A1 l1.length l1) (hc1 : l1.length ≤ c1) (h : task_Pend.f a0_0 a0_1 a0_2 l0_3 l0_4 l0_5 l0_6 l0_7 l0_8 l1 = some (r1, r2, r3, r4, r5, r6, r7, r8, r9, r10)) (hrt : r10 = 0) :
  Calls Try.prog 29 #[.agg #[.int .u8 a0_0, .int .i64 a0_1, .int .i64 a0_2, .slice A0_3 l0_3.length c0_3, .slice A0_4 l0_4.length c0_4, .slice A0_5 l0_5.length c0_5, .slice A0_6 l0_6.length c0_6, .slice A0_7 l0_7.length c0_7, .slice A0_8 l0_8.length c0_8], .slice A1 l1.length c1] w fun e w' => ∃ v3_ v4_ v5_ v6_ v7_ v8_ : Value, e = .returned (.tuple #[.agg #[.int .u8 r1, .int .i64 r2, .int .i64 r3, v3_, v4_, v5_, v6_, v7_, v8_], .int .i64 r10]) ∧ Kd.R k55 55 w' w.heap.size (fun _ => True) v3_ r4 ∧ Kd.R (Kd.int .i64) 2 w' w.heap.size (fun _ => True) v4_ r5 ∧ Kd.R k105 105 w' w.heap.size (fun _ => True) v5_ r6 ∧ Kd.R k99 99 w' w.heap.size (fun _ => True) v6_ r7 ∧ Kd.R k48 48 w' w.heap.size (fun _ => True) v7_ r8 ∧ Kd.R k43 43 w' w.heap.size (fun _ => True) v8_ r9 ∧ Below w.heap.size w w' := by
 have HRT := am hrt
 clear hrt
 have hu31 := Try.underlying31
 have HR0_3 := am hr0_3
 have HC0_3 := am hc0_3
 clear hr0_3 hc0_3
 have HR0_4 := am hr0_4
 have HC0_4 := am hc0_4
 clear hr0_4 hc0_4
 have HR0_5 := am hr0_5
 have HC0_5 := am hc0_5
 clear hr0_5 hc0_5
 have HR0_6 := am hr0_6
 have HC0_6 := am hc0_6
 clear hr0_6 hc0_6
 have HR0_7 := am hr0_7
 have HC0_7 := am hc0_7
 clear hr0_7 hc0_7
 have HR0_8 := am hr0_8
 have HC0_8 := am hc0_8
 clear hr0_8 hc0_8
 have HR1 := am hr1
 have HC1 := am hc1
 clear hr1 hc1
 have HB := am (Below.refl w.heap.size w)
 have H : ((task_Check.f a0_0 a0_1 a0_2 l0_3 l0_4 l0_5 l0_6 l0_7 l0_8).bind fun t223 => (if t223 = 0 then ((task_sends.f l1).bind fun t224 => (if t224 = true then (if (l1.length : Int) > (wrap64 (4000 - (l0_3.length : Int))) then (some (0, 0, 0, ([] : List (S55)), ([] : List Int), ([] : List (S105)), ([] : List (S99)), ([] : List (S48)), ([] : List (S43)), 4)) else ((task_clone.f a0_0 a0_1 a0_2 l0_3 l0_4 l0_5 l0_6 l0_7 l0_8).bind fun bt225 => (if bt225.2.2.2.1.length + l1.length < 1599289640401 then (some (bt225.1, bt225.2.1, bt225.2.2.1, (bt225.2.2.2.1 ++ l1), bt225.2.2.2.2.1, bt225.2.2.2.2.2.1, bt225.2.2.2.2.2.2.1, bt225.2.2.2.2.2.2.2.1, bt225.2.2.2.2.2.2.2.2, 0)) else (none)))) else (some (0, 0, 0, ([] : List (S55)), ([] : List Int), ([] : List (S105)), ([] : List (S99)), ([] : List (S48)), ([] : List (S43)), 8)))) else (some (0, 0, 0, ([] : List (S55)), ([] : List Int), ([] : List (S105)), ([] : List (S99)), ([] : List (S48)), ([] : List (S43)), t223)))) = some (r1, r2, r3, r4, r5, r6, r7, r8, r9, r10) := h
 clear h
 replace H := Option.bind_eq_some_iff.mp H
 obtain ⟨t223, A30, H⟩ := H
 try dsimp only at H
 have A3 := am A30
 clear A30
 by_cases c4 : t223 = 0
 ·rw [if_pos c4] at H
  have c4b0 : (t223 == 0) = true := beq_iff_eq.mpr c4
  have c4b1 : (t223 != 0) = false := bne_eq_false_iff_eq.mpr c4
  clear c4
  replace H := Option.bind_eq_some_iff.mp H
  obtain ⟨t224, A50, H⟩ := H
  try dsimp only at H
  have A5 := am A50
  clear A50
  by_cases c6 : t224 = true
  ·subst c6
   rw [if_pos rfl] at H
   by_cases c7 : (l1.length : Int) > (wrap64 (4000 - (l0_3.length : Int)))
   ·rw [if_pos c7] at H
    have c7b0 : decide ((wrap64 (4000 - (l0_3.length : Int))) < (l1.length : Int)) = true := decide_eq_true c7
    clear c7
    simp only [Option.some.injEq, Prod.mk.injEq] at H
    obtain ⟨-, -, -, -, -, -, -, -, -, H⟩ := H
    have hrt := HRT.out
    rw [← H] at hrt
    first | exact absurd hrt (by decide) | exact absurd hrt (by assumption)
   ·rw [if_neg c7] at H
    have c7b0 : decide ((wrap64 (4000 - (l0_3.length : Int))) < (l1.length : Int)) = false := decide_eq_false c7
    clear c7
    replace H := Option.bind_eq_some_iff.mp H
    obtain ⟨⟨t225, t226, t227, t228, t231, t234, t237, t240, t243⟩, A80, H⟩ := H
    try dsimp only at H
    have A8 := am A80
    clear A80
    by_cases c9 : t228.length + l1.length < 1599289640401
    ·rw [if_pos c9] at H
     have LMc9 := am c9
     clear c9
     obtain ⟨y246, hy246⟩ : ∃ y_ : List (S55), y_ = (t228 ++ l1) := ⟨_, rfl⟩
     replace H : (some (t225, t226, t227, y246, t231, t234, t237, t240, t243, 0)) = some (r1, r2, r3, r4, r5, r6, r7, r8, r9, r10) := by first | (rw [hy246]; with_reducible exact H) | (have H2_ := (Option.bind_some _ _).symm.trans H; rw [hy246]; with_reducible exact H2_) | (have H2_ := (Option.bind_some _ _).symm.trans H; with_reducible exact H2_) | with_reducible exact H | (rw [hy246]; exact H) | exact H
     have Ny246 := am hy246
     clear hy246
     simp only [Option.some.injEq, Prod.mk.injEq] at H
     obtain ⟨rfl, rfl, rfl, rfl, rfl, rfl, rfl, rfl, rfl, rfl⟩ := H
     go_enter Try.func29, Try.ntmps29
     go_wp2_with (first | ((with_reducible refine gate_dst (N := 2) rfl ?_); refine box_event ?hg (N := 2) ?hd (cs := #[.int .u8 a0_0, .int .i64 a0_1, .int .i64 a0_2, .slice A0_3 l0_3.length c0_3, .slice A0_4 l0_4.length c0_4, .slice A0_5 l0_5.length c0_5, .slice A0_6 l0_6.length c0_6, .slice A0_7 l0_7.length c0_7, .slice A0_8 l0_8.length c0_8]) (t := 31) ?hr ?_; (case hd => rfl); (case hg => rfl); (case hr => first | (go_simp; done) | (go_simp; rfl)); intro gb221 hg w10 hbox hb; have BK221 := am (hbox); have GW221 := am ((by rw [hg]; exact (below_size (by exact belL HB.out)) : w.heap.size ≤ gb221)); have GE221 := GW221; replace HB := am (below_step (by exact belL HB.out) hb); clear hb hbox hg) | ((with_reducible refine gate_dst (N := 4) rfl ?_); refine box_event ?hg (N := 4) ?hd (cs := #[.int .u8 0, .int .i64 0, .int .i64 0, .slice none 0 0, .slice none 0 0, .slice none 0 0, .slice none 0 0, .slice none 0 0, .slice none 0 0]) (t := 31) ?hr ?_; (case hd => rfl); (case hg => rfl); (case hr => first | (go_simp; done) | (go_simp; rfl)); intro gb222 hg w11 hbox hb; have BK222 := am (hbox); have GW222 := am ((by rw [hg]; exact (below_size (by repeat (with_reducible first | exact HB.out | refine belS ?_ | refine below_set ?_ GE221.out))) : w.heap.size ≤ gb222)); have GE222 := GW222; have NB221_222 := am (blkN BK221.out hg); have NB222_221 := am (blkN BK221.out hg).symm; replace BK221 := am (blkB BK221.out hb); replace HB := am (below_step (by repeat (with_reducible first | exact HB.out | refine belS ?_ | refine below_set ?_ GE221.out)) hb); clear hb hbox hg; have hnb12 := NB221_222.out; have hnc12 := NB222_221.out; obtain ⟨z13_0, z13_1, z13_2, z13_3, z13_4, z13_5, z13_6, z13_7, z13_8, y13_0, y13_1, y13_2, y13_3, y13_4, y13_5, y13_6, y13_7, y13_8⟩ := box9 BK221.out) | ((with_reducible refine gate_callee (f := 27) rfl ?_); refine goesL_ (some 8) rfl rfl Try.func27 (by kernel_rfl) rfl #[.agg #[.int .u8 a0_0, .int .i64 a0_1, .int .i64 a0_2, .slice A0_3 l0_3.length c0_3, .slice A0_4 l0_4.length c0_4, .slice A0_5 l0_5.length c0_5, .slice A0_6 l0_6.length c0_6, .slice A0_7 l0_7.length c0_7, .slice A0_8 l0_8.length c0_8]] rfl (by (try simp only [List.map_toArray, List.map_cons, List.map_nil]) <;> rfl) ?_; (with_reducible refine (task_Check.calls a0_0 a0_1 a0_2 _ _ l0_3 _ _ l0_4 _ _ l0_5 _ _ l0_6 _ _ l0_7 _ _ l0_8 t223 _ ?side1 ?side2 ?side3 ?side4 ?side5 ?side6 ?side7 ?side8 ?side9 ?side10 ?side11 ?side12 A3.out (by first | rfl | exact HRT.out | assumption | exact eq_of_beq (by assumption))).mono ?_); (case side1 => exact CB HR0_3.out HB.out); (case side2 => exact HC0_3.out); (case side3 => exact CB HR0_4.out HB.out); (case side4 => exact HC0_4.out); (case side5 => exact CB HR0_5.out HB.out); (case side6 => exact HC0_5.out); (case side7 => exact CB HR0_6.out HB.out); (case side8 => exact HC0_6.out); (case side9 => exact CB HR0_7.out HB.out); (case side10 => exact HC0_7.out); (case side11 => exact CB HR0_8.out HB.out); (case side12 => exact HC0_8.out); rintro e w14 ⟨rfl, hb⟩; refine ⟨_, rfl, ?_⟩; replace BK221 := am (blkB BK221.out hb); replace BK222 := am (blkB BK222.out hb); replace HB := am (below_step (by repeat (with_reducible first | exact HB.out | refine belS ?_ | refine below_set ?_ GE221.out | refine below_set ?_ GE222.out)) hb); (try clear hb); (try clear hb2); (try clear hk); (try clear hi)) | ((with_reducible refine gate_callee (f := 41) rfl ?_); refine goesL_ (some 14) rfl rfl Try.func41 (by kernel_rfl) rfl #[.slice A1 l1.length c1] rfl (by (try simp only [List.map_toArray, List.map_cons, List.map_nil]) <;> rfl) ?_; (with_reducible refine (task_sends.calls _ _ l1 true _ ?side1 ?side2 A5.out).mono ?_); (case side1 => exact CB HR1.out HB.out); (case side2 => exact HC1.out); rintro e w15 ⟨rfl, hb⟩; refine ⟨_, rfl, ?_⟩; replace BK221 := am (blkB BK221.out hb); replace BK222 := am (blkB BK222.out hb); replace HB := am (below_step (by repeat (with_reducible first | exact HB.out | refine belS ?_ | refine below_set ?_ GE221.out | refine below_set ?_ GE222.out)) hb); (try clear hb); (try clear hb2); (try clear hk); (try clear hi); obtain ⟨z16_0, z16_1, z16_2, z16_3, z16_4, z16_5, z16_6, z16_7, z16_8, y16_0, y16_1, y16_2, y16_3, y16_4, y16_5, y16_6, y16_7, y16_8⟩ := box9 BK221.out) | ((with_reducible refine gate_callee (f := 47) rfl ?_); refine goesL_ (some 26) rfl rfl Try.func47 (by kernel_rfl) rfl #[.agg #[.int .u8 a0_0, .int .i64 a0_1, .int .i64 a0_2, .slice A0_3 l0_3.length c0_3, .slice A0_4 l0_4.length c0_4, .slice A0_5 l0_5.length c0_5, .slice A0_6 l0_6.length c0_6, .slice A0_7 l0_7.length c0_7, .slice A0_8 l0_8.length c0_8]] rfl (by (try simp only [List.map_toArray, List.map_cons, List.map_nil]) <;> rfl) ?_; (with_reducible refine (task_clone.calls a0_0 a0_1 a0_2 _ _ l0_3 _ _ l0_4 _ _ l0_5 _ _ l0_6 _ _ l0_7 _ _ l0_8 t225 t226 t227 t228 t231 t234 t237 t240 t243 _ ?side1 ?side2 ?side3 ?side4 ?side5 ?side6 ?side7 ?side8 ?side9 ?side10 ?side11 ?side12 A8.out).mono ?_); (case side1 => exact CB HR0_3.out HB.out); (case side2 => exact HC0_3.out); (case side3 => exact CB HR0_4.out HB.out); (case side4 => exact HC0_4.out); (case side5 => exact CB HR0_5.out HB.out); (case side6 => exact HC0_5.out); (case side7 => exact CB HR0_6.out HB.out); (case side8 => exact HC0_6.out); (case side9 => exact CB HR0_7.out HB.out); (case side10 => exact HC0_7.out); (case side11 => exact CB HR0_8.out HB.out); (case side12 => exact HC0_8.out); rintro e w17 ⟨v229, v232, v235, v238, v241, v244, rfl, ho0, ho1, ho2, ho3, ho4, ho5, hb⟩; refine ⟨_, rfl, ?_⟩; have HO230 := am (Kd.R_lower ho0 (below_size (by repeat (with_reducible first | exact HB.out | refine belS ?_ | refine below_set ?_ GE221.out | refine below_set ?_ GE222.out)))); have HO233 := am (Kd.R_lower ho1 (below_size (by repeat (with_reducible first | exact HB.out | refine belS ?_ | refine below_set ?_ GE221.out | refine below_set ?_ GE222.out)))); have HO236 := am (Kd.R_lower ho2 (below_size (by repeat (with_reducible first | exact HB.out | refine belS ?_ | refine below_set ?_ GE221.out | refine below_set ?_ GE222.out)))); have HO239 := am (Kd.R_lower ho3 (below_size (by repeat (with_reducible first | exact HB.out | refine belS ?_ | refine below_set ?_ GE221.out | refine below_set ?_ GE222.out)))); have HO242 := am (Kd.R_lower ho4 (below_size (by repeat (with_reducible first | exact HB.out | refine belS ?_ | refine below_set ?_ GE221.out | refine below_set ?_ GE222.out)))); have HO245 := am (Kd.R_lower ho5 (below_size (by repeat (with_reducible first | exact HB.out | refine belS ?_ | refine below_set ?_ GE221.out | refine below_set ?_ GE222.out)))); replace BK221 := am (blkB BK221.out hb); replace BK222 := am (blkB BK222.out hb); replace HB := am (below_step (by repeat (with_reducible first | exact HB.out | refine belS ?_ | refine below_set ?_ GE221.out | refine below_set ?_ GE222.out)) hb); (try clear hb); (try clear hb2); (try clear hk); (try clear hi); (try clear ho0); (try clear ho1); (try clear ho2); (try clear ho3); (try clear ho4); (try clear ho5); obtain ⟨z18_0, z18_1, z18_2, z18_3, z18_4, z18_5, z18_6, z18_7, z18_8, y18_0, y18_1, y18_2, y18_3, y18_4, y18_5, y18_6, y18_7, y18_8⟩ := box9 BK221.out; obtain ⟨Ao19, co19, eo19⟩ := Kd.R_slice HO230.out; subst eo19; obtain ⟨Ao20, co20, eo20⟩ := Kd.R_slice HO233.out; subst eo20; obtain ⟨Ao21, co21, eo21⟩ := Kd.R_slice HO236.out; subst eo21; obtain ⟨Ao22, co22, eo22⟩ := Kd.R_slice HO239.out; subst eo22; obtain ⟨Ao23, co23, eo23⟩ := Kd.R_slice HO242.out; subst eo23; obtain ⟨Ao24, co24, eo24⟩ := Kd.R_slice HO245.out; subst eo24) | ((with_reducible refine gate_builtin (b := .append) (xs := #[.tmp 28, .tmp 29]) rfl ?_); at_builtin; refine Kd.R_append_rows k55 (w0 := w) w.heap.size rfl (.tmp 28) (.tmp 29) 24 55 (.agg #[(.int .i64 0), (.int .u8 0), (.int .i64 0), (.int .i64 0), (.int .i64 0), (.int .i64 0), (.int .i64 0), (.int .i64 0), (.int .i64 0), (.int .i64 0), (.int .i64 0)]) 88 rfl Try.underlying24 info55 rfl (by decide) (by omega) (.slice Ao19 t228.length co19) t228 l1 _ _ _ (fun _ => True) (fun _ => False) rfl rfl ?aO ?aR (fun _ _ h => h) (fun _ h => h.elim) ?aF ?aB ?aS ?aL ?_; (case aR => exact Kd.C_below HR1.out (by repeat (with_reducible first | exact HB.out | refine belS ?_ | refine below_set ?_ GE221.out | refine below_set ?_ GE222.out))); (case aB => exact (by repeat (with_reducible first | exact HB.out | refine belS ?_ | refine below_set ?_ GE221.out | refine below_set ?_ GE222.out))); (case aF => exact (fun _ _ => trivial)); (case aO => exact (by (repeat refine RS ?_); exact Kd.R_mono (Rfar9 (Kd.R_types HO230.out BK221.out (by decide)) (fun _ hk => hk.2)) (fun _ hk => trivial))); (case aS => exact (below_size (by repeat (with_reducible first | exact HB.out | refine belS ?_ | refine below_set ?_ GE221.out | refine below_set ?_ GE222.out)))); (case aL => have := LMc9.out; omega); intro v247 w25 ho hb hg hat; rw [← Ny246.out] at ho; have HO248 := am (ho); replace HO233 := am (Kd.R_over' (by (repeat refine RS ?_); exact (Kd.R_mono (Rfar9 (Kd.R_types HO233.out BK221.out (by decide)) (fun _ hk => hk.2)) (fun _ h_ => h_.1))) (Kd.R_typed (by (repeat refine RS ?_); exact (Kd.R_mono (Rfar9 (Kd.R_types HO230.out BK221.out (by decide)) (fun _ hk => hk.2)) (fun _ h_ => h_.1)))) (by decide) hg); replace HO236 := am (Kd.R_over' (by (repeat refine RS ?_); exact (Kd.R_mono (Rfar9 (Kd.R_types HO236.out BK221.out (by decide)) (fun _ hk => hk.2)) (fun _ h_ => h_.1))) (Kd.R_typed (by (repeat refine RS ?_); exact (Kd.R_mono (Rfar9 (Kd.R_types HO230.out BK221.out (by decide)) (fun _ hk => hk.2)) (fun _ h_ => h_.1)))) (by decide) hg); replace HO239 := am (Kd.R_over' (by (repeat refine RS ?_); exact (Kd.R_mono (Rfar9 (Kd.R_types HO239.out BK221.out (by decide)) (fun _ hk => hk.2)) (fun _ h_ => h_.1))) (Kd.R_typed (by (repeat refine RS ?_); exact (Kd.R_mono (Rfar9 (Kd.R_types HO230.out BK221.out (by decide)) (fun _ hk => hk.2)) (fun _ h_ => h_.1)))) (by decide) hg); replace HO242 := am (Kd.R_over' (by (repeat refine RS ?_); exact (Kd.R_mono (Rfar9 (Kd.R_types HO242.out BK221.out (by decide)) (fun _ hk => hk.2)) (fun _ h_ => h_.1))) (Kd.R_typed (by (repeat refine RS ?_); exact (Kd.R_mono (Rfar9 (Kd.R_types HO230.out BK221.out (by decide)) (fun _ hk => hk.2)) (fun _ h_ => h_.1)))) (by decide) hg); replace HO245 := am (Kd.R_over' (by (repeat refine RS ?_); exact (Kd.R_mono (Rfar9 (Kd.R_types HO245.out BK221.out (by decide)) (fun _ hk => hk.2)) (fun _ h_ => h_.1))) (Kd.R_typed (by (repeat refine RS ?_); exact (Kd.R_mono (Rfar9 (Kd.R_types HO230.out BK221.out (by decide)) (fun _ hk => hk.2)) (fun _ h_ => h_.1)))) (by decide) hg); replace BK221 := am (blk_grown (g := gb221) (o := .cells #[.int .u8 t225, .int .i64 t226, .int .i64 t227, .slice Ao19 t228.length co19, .slice Ao20 t231.length co20, .slice Ao21 t234.length co21, .slice Ao22 t237.length co22, .slice Ao23 t240.length co23, .slice Ao24 t243.length co24] 31 (0, 0)) (by (repeat refine blkS ?_); apply put9; (repeat refine blkS ?_); exact BK221.out) hg (Kd.R_ne HO230.out BK221.out (by decide))); replace BK222 := am (blk_grown (g := gb222) (o := .cells #[.int .u8 0, .int .i64 0, .int .i64 0, .slice none 0 0, .slice none 0 0, .slice none 0 0, .slice none 0 0, .slice none 0 0, .slice none 0 0] 31 (0, 0)) (by (repeat refine blkS ?_); apply far9 (hp := NB222_221.out); (repeat refine blkS ?_); exact BK222.out) hg (Kd.R_ne HO230.out BK222.out (by decide))); replace HB := am (hb); clear HO230; clear ho hb hg hat; obtain ⟨Ao26, co26, eo26⟩ := Kd.R_slice HO248.out; subst eo26; obtain ⟨z27_0, z27_1, z27_2, z27_3, z27_4, z27_5, z27_6, z27_7, z27_8, y27_0, y27_1, y27_2, y27_3, y27_4, y27_5, y27_6, y27_7, y27_8⟩ := box9 BK221.out; obtain ⟨z28_0, z28_1, z28_2, z28_3, z28_4, z28_5, z28_6, z28_7, z28_8, y28_0, y28_1, y28_2, y28_3, y28_4, y28_5, y28_6, y28_7, y28_8⟩ := box9 BK222.out))
     refine bodyPost_ret (results_ct rfl _ _ gb222 31 #[.int .u8 t225, .int .i64 t226, .int .i64 t227, .slice Ao26 y246.length co26, .slice Ao20 t231.length co20, .slice Ao21 t234.length co21, .slice Ao22 t237.length co22, .slice Ao23 t240.length co23, .slice Ao24 t243.length co24] (0, 0) _ rfl (by (repeat refine blkS ?_); apply put9; (repeat refine blkS ?_); refine blk_far ?_ NB222_221.out _; (repeat refine blkS ?_); exact BK222.out) Try.underlying31 rfl (by kernel_rfl)) rfl ?_
     exact ⟨_, _, _, _, _, _, by first | rfl | (simp [errW_none, errW_some] <;> rfl) | (simp [*, errW_none, errW_some] <;> rfl), by (repeat refine RS ?_); exact Kd.R_mono (Rfar9 (Kd.R_far (p := ⟨gb221, 3, none⟩) (Kd.R_types (Kd.R_types HO248.out BK221.out (by decide)) BK222.out (by decide)) (fun _ hk => hk.1.2) (.slice Ao26 y246.length co26)) (fun _ hk => hk.2)) (fun _ hk => trivial), by (repeat refine RS ?_); exact Kd.R_mono (Rfar9 (Kd.R_far (p := ⟨gb221, 3, none⟩) (Kd.R_types (Kd.R_types HO233.out BK221.out (by decide)) BK222.out (by decide)) (fun _ hk => hk.1.2) (.slice Ao26 y246.length co26)) (fun _ hk => hk.2)) (fun _ hk => trivial), by (repeat refine RS ?_); exact Kd.R_mono (Rfar9 (Kd.R_far (p := ⟨gb221, 3, none⟩) (Kd.R_types (Kd.R_types HO236.out BK221.out (by decide)) BK222.out (by decide)) (fun _ hk => hk.1.2) (.slice Ao26 y246.length co26)) (fun _ hk => hk.2)) (fun _ hk => trivial), by (repeat refine RS ?_); exact Kd.R_mono (Rfar9 (Kd.R_far (p := ⟨gb221, 3, none⟩) (Kd.R_types (Kd.R_types HO239.out BK221.out (by decide)) BK222.out (by decide)) (fun _ hk => hk.1.2) (.slice Ao26 y246.length co26)) (fun _ hk => hk.2)) (fun _ hk => trivial), by (repeat refine RS ?_); exact Kd.R_mono (Rfar9 (Kd.R_far (p := ⟨gb221, 3, none⟩) (Kd.R_types (Kd.R_types HO242.out BK221.out (by decide)) BK222.out (by decide)) (fun _ hk => hk.1.2) (.slice Ao26 y246.length co26)) (fun _ hk => hk.2)) (fun _ hk => trivial), by (repeat refine RS ?_); exact Kd.R_mono (Rfar9 (Kd.R_far (p := ⟨gb221, 3, none⟩) (Kd.R_types (Kd.R_types HO245.out BK221.out (by decide)) BK222.out (by decide)) (fun _ hk => hk.1.2) (.slice Ao26 y246.length co26)) (fun _ hk => hk.2)) (fun _ hk => trivial), by repeat (with_reducible first | exact HB.out | refine belS ?_ | refine below_set ?_ GE221.out | refine below_set ?_ GE222.out)⟩
    ·rw [if_neg c9] at H
     exact absurd H (by simp)
  ·replace c6 := Bool.eq_false_iff.mpr c6
   subst c6
   rw [if_neg (show ¬ (false = true) by decide)] at H
   simp only [Option.some.injEq, Prod.mk.injEq] at H
   obtain ⟨-, -, -, -, -, -, -, -, -, H⟩ := H
   have hrt := HRT.out
   rw [← H] at hrt
   first | exact absurd hrt (by decide) | exact absurd hrt (by assumption)
 ·rw [if_neg c4] at H
  have c4b0 : (t223 == 0) = false := beq_eq_false_iff_ne.mpr c4
  have c4b1 : (t223 != 0) = true := bne_iff_ne.mpr c4
  simp only [Option.some.injEq, Prod.mk.injEq] at H
  obtain ⟨-, -, -, -, -, -, -, -, -, H⟩ := H
  have hrt := HRT.out
  rw [← H] at hrt
  first | exact absurd hrt (by decide) | exact absurd hrt (by assumption)

end Go.Proofs.Ytcdgohoinmbpfaa.M
