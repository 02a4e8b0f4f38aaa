import Derived.Test.YtcdgohoinmbpfaaKFilterTwice6
namespace Go.Proofs.Ytcdgohoinmbpfaa.M
open Go.RowKit Go.Proofs.YtcdgohoinmbpfaaW.PrintWords Go.Proofs.YtcdgohoinmbpfaaW.PrintLast Go.Proofs.YtcdgohoinmbpfaaW.PrintMore
attribute [local go_sem] max2_int min2_int max_two min_two
set_option linter.unusedVariables false
set_option linter.unusedSimpArgs false

def tailwaterlaw29_great.f (a0_0 : Int) (l0_1 : List (S61)) (l0_2 : List Int) (a0_3 : Bool) (l0_4 : List (S61)) (a0_5 : Int) (a0_6 : Int) (a0_7 : Int) (a0_8 : Bool) (a0_9 : Int) : Option (Bool) := if (l0_1.length : Int) > 100 then (some true) else (if (l0_4.length : Int) > 100 then (some true) else (some (decide ((l0_2.length : Int) > 20))))
set_option maxHeartbeats 8000000 in
set_option maxRecDepth 100000 in
theorem tailwaterlaw29_great.calls (a0_0 : Int) (A0_1 : Option Addr) (c0_1 : Nat) (l0_1 : List (S61)) (A0_2 : Option Addr) (c0_2 : Nat) (l0_2 : List Int) (a0_3 : Bool) (A0_4 : Option Addr) (c0_4 : Nat) (l0_4 : List (S61)) (a0_5 : Int) (a0_6 : Int) (a0_7 : Int) (a0_8 : Bool) (a0_9 : Int) (r : Bool) (w : World) (hr0_1 : Kd.C k61 w A0_1 l0_1.length l0_1) (hc0_1 : l0_1.length ≤ c0_1) (hr0_2 : Kd.C (Kd.int .i64) w A0_2 l0_2.length l0_2) (hc0_2 : l0_2.length ≤ c0_2) (hr0_4 : Kd.C k61 w A0_4 l0_4.length l0_4) (hc0_4 : l0_4.length ≤ c0_4) (h : tailwaterlaw29_great.f a0_0 l0_1 l0_2 a0_3 l0_4 a0_5 a0_6 a0_7 a0_8 a0_9 = some r) :
  Calls Try.prog 19 #[.agg #[.int .u8 a0_0, .slice A0_1 l0_1.length c0_1, .slice A0_2 l0_2.length c0_2, .bool a0_3, .slice A0_4 l0_4.length c0_4, .int .u8 a0_5, .int .i64 a0_6, .int .i64 a0_7, .bool a0_8, .int .u8 a0_9]] w fun e w' => e = .returned (.bool r) ∧ Below w.heap.size w w' := by
 have hu41 := Try.underlying41
 have HR0_1 := am hr0_1
 have HC0_1 := am hc0_1
 clear hr0_1 hc0_1
 have HR0_2 := am hr0_2
 have HC0_2 := am hc0_2
 clear hr0_2 hc0_2
 have HR0_4 := am hr0_4
 have HC0_4 := am hc0_4
 clear hr0_4 hc0_4
 have HB := am (Below.refl w.heap.size w)
 have H : (if (l0_1.length : Int) > 100 then (some true) else (if (l0_4.length : Int) > 100 then (some true) else (some (decide ((l0_2.length : Int) > 20))))) = some r := h
 clear h
 by_cases c2 : (l0_1.length : Int) > 100
 ·rw [if_pos c2] at H
  have c2b0 : decide (100 < (l0_1.length : Int)) = true := decide_eq_true c2
  have c2b1 : decide (100 < l0_1.length) = true := decide_eq_true (by omega)
  clear c2
  obtain rfl := Option.some.inj H
  go_enter Try.func19, Try.ntmps19
  go_wp2_with (first | ((with_reducible refine gate_dst (N := 1) rfl ?_); (try (refine gate_guard (by rfl) ?_; dsimp only)); refine box_event ?hg (N := 1) ?hd (cs := #[.int .u8 a0_0, .slice A0_1 l0_1.length c0_1, .slice A0_2 l0_2.length c0_2, .bool a0_3, .slice A0_4 l0_4.length c0_4, .int .u8 a0_5, .int .i64 a0_6, .int .i64 a0_7, .bool a0_8, .int .u8 a0_9]) (t := 41) ?hr ?_; (case hd => rfl); (case hg => rfl); (case hr => first | (go_simp; done) | (go_simp; rfl)); intro gb621 hg w3 hbox hb; have BK621 := am (hbox); have GW621 := am ((by rw [hg]; exact (below_size (by repeat (first | (with_reducible first | exact HB.out | apply below_alloc | apply pw_below_drewN | apply below_drew1) | exact HB.out))) : w.heap.size ≤ gb621)); have GE621 := am ((by rw [hg]; exact (below_size (by repeat (first | (with_reducible first | exact HB.out | apply below_alloc | apply pw_below_drewN | apply below_drew1) | exact HB.out))) : w.heap.size ≤ gb621)); replace HB := am (below_step (by repeat (first | (with_reducible first | exact HB.out | apply below_alloc | apply pw_below_drewN | apply below_drew1) | exact HB.out)) hb); clear hb hbox hg; have z4_0 : w3.cell? ⟨gb621, 0, none⟩ = some (.int .u8 a0_0) := (blk_cell BK621.out 0).trans rfl; have z4_1 : w3.cell? ⟨gb621, 1, none⟩ = some (.slice A0_1 l0_1.length c0_1) := (blk_cell BK621.out 1).trans rfl; have z4_2 : w3.cell? ⟨gb621, 2, none⟩ = some (.slice A0_2 l0_2.length c0_2) := (blk_cell BK621.out 2).trans rfl; have z4_3 : w3.cell? ⟨gb621, 3, none⟩ = some (.bool a0_3) := (blk_cell BK621.out 3).trans rfl; have z4_4 : w3.cell? ⟨gb621, 4, none⟩ = some (.slice A0_4 l0_4.length c0_4) := (blk_cell BK621.out 4).trans rfl; have z4_5 : w3.cell? ⟨gb621, 5, none⟩ = some (.int .u8 a0_5) := (blk_cell BK621.out 5).trans rfl; have z4_6 : w3.cell? ⟨gb621, 6, none⟩ = some (.int .i64 a0_6) := (blk_cell BK621.out 6).trans rfl; have z4_7 : w3.cell? ⟨gb621, 7, none⟩ = some (.int .i64 a0_7) := (blk_cell BK621.out 7).trans rfl; have z4_8 : w3.cell? ⟨gb621, 8, none⟩ = some (.bool a0_8) := (blk_cell BK621.out 8).trans rfl; have z4_9 : w3.cell? ⟨gb621, 9, none⟩ = some (.int .u8 a0_9) := (blk_cell BK621.out 9).trans rfl; have y4_0 := blk_frozen BK621.out 0; have y4_1 := blk_frozen BK621.out 1; have y4_2 := blk_frozen BK621.out 2; have y4_3 := blk_frozen BK621.out 3; have y4_4 := blk_frozen BK621.out 4; have y4_5 := blk_frozen BK621.out 5; have y4_6 := blk_frozen BK621.out 6; have y4_7 := blk_frozen BK621.out 7; have y4_8 := blk_frozen BK621.out 8; have y4_9 := blk_frozen BK621.out 9))
  go_ret
  exact ⟨by first | rfl | (simp [errW_none, errW_some] <;> rfl) | (simp [*, errW_none, errW_some] <;> rfl), by repeat (first | (with_reducible first | exact HB.out | apply below_alloc | apply pw_below_drewN | apply below_drew1 | refine below_set ?_ GE621.out) | exact HB.out)⟩
 ·rw [if_neg c2] at H
  have c2b0 : decide (100 < (l0_1.length : Int)) = false := decide_eq_false c2
  have c2b1 : decide (100 < l0_1.length) = false := decide_eq_false (by omega)
  clear c2
  by_cases c5 : (l0_4.length : Int) > 100
  ·rw [if_pos c5] at H
   have c5b0 : decide (100 < (l0_4.length : Int)) = true := decide_eq_true c5
   have c5b1 : decide (100 < l0_4.length) = true := decide_eq_true (by omega)
   clear c5
   obtain rfl := Option.some.inj H
   go_enter Try.func19, Try.ntmps19
   go_wp2_with (first | ((with_reducible refine gate_dst (N := 1) rfl ?_); (try (refine gate_guard (by rfl) ?_; dsimp only)); refine box_event ?hg (N := 1) ?hd (cs := #[.int .u8 a0_0, .slice A0_1 l0_1.length c0_1, .slice A0_2 l0_2.length c0_2, .bool a0_3, .slice A0_4 l0_4.length c0_4, .int .u8 a0_5, .int .i64 a0_6, .int .i64 a0_7, .bool a0_8, .int .u8 a0_9]) (t := 41) ?hr ?_; (case hd => rfl); (case hg => rfl); (case hr => first | (go_simp; done) | (go_simp; rfl)); intro gb621 hg w6 hbox hb; have BK621 := am (hbox); have GW621 := am ((by rw [hg]; exact (below_size (by repeat (first | (with_reducible first | exact HB.out | apply below_alloc | apply pw_below_drewN | apply below_drew1) | exact HB.out))) : w.heap.size ≤ gb621)); have GE621 := am ((by rw [hg]; exact (below_size (by repeat (first | (with_reducible first | exact HB.out | apply below_alloc | apply pw_below_drewN | apply below_drew1) | exact HB.out))) : w.heap.size ≤ gb621)); replace HB := am (below_step (by repeat (first | (with_reducible first | exact HB.out | apply below_alloc | apply pw_below_drewN | apply below_drew1) | exact HB.out)) hb); clear hb hbox hg; have z7_0 : w6.cell? ⟨gb621, 0, none⟩ = some (.int .u8 a0_0) := (blk_cell BK621.out 0).trans rfl; have z7_1 : w6.cell? ⟨gb621, 1, none⟩ = some (.slice A0_1 l0_1.length c0_1) := (blk_cell BK621.out 1).trans rfl; have z7_2 : w6.cell? ⟨gb621, 2, none⟩ = some (.slice A0_2 l0_2.length c0_2) := (blk_cell BK621.out 2).trans rfl; have z7_3 : w6.cell? ⟨gb621, 3, none⟩ = some (.bool a0_3) := (blk_cell BK621.out 3).trans rfl; have z7_4 : w6.cell? ⟨gb621, 4, none⟩ = some (.slice A0_4 l0_4.length c0_4) := (blk_cell BK621.out 4).trans rfl; have z7_5 : w6.cell? ⟨gb621, 5, none⟩ = some (.int .u8 a0_5) := (blk_cell BK621.out 5).trans rfl; have z7_6 : w6.cell? ⟨gb621, 6, none⟩ = some (.int .i64 a0_6) := (blk_cell BK621.out 6).trans rfl; have z7_7 : w6.cell? ⟨gb621, 7, none⟩ = some (.int .i64 a0_7) := (blk_cell BK621.out 7).trans rfl; have z7_8 : w6.cell? ⟨gb621, 8, none⟩ = some (.bool a0_8) := (blk_cell BK621.out 8).trans rfl; have z7_9 : w6.cell? ⟨gb621, 9, none⟩ = some (.int .u8 a0_9) := (blk_cell BK621.out 9).trans rfl; have y7_0 := blk_frozen BK621.out 0; have y7_1 := blk_frozen BK621.out 1; have y7_2 := blk_frozen BK621.out 2; have y7_3 := blk_frozen BK621.out 3; have y7_4 := blk_frozen BK621.out 4; have y7_5 := blk_frozen BK621.out 5; have y7_6 := blk_frozen BK621.out 6; have y7_7 := blk_frozen BK621.out 7; have y7_8 := blk_frozen BK621.out 8; have y7_9 := blk_frozen BK621.out 9))
   go_ret
   exact ⟨by first | rfl | (simp [errW_none, errW_some] <;> rfl) | (simp [*, errW_none, errW_some] <;> rfl), by repeat (first | (with_reducible first | exact HB.out | apply below_alloc | apply pw_below_drewN | apply below_drew1 | refine below_set ?_ GE621.out) | exact HB.out)⟩
  ·rw [if_neg c5] at H
   have c5b0 : decide (100 < (l0_4.length : Int)) = false := decide_eq_false c5
   have c5b1 : decide (100 < l0_4.length) = false := decide_eq_false (by omega)
   clear c5
   obtain rfl := Option.some.inj H
   go_enter Try.func19, Try.ntmps19
   go_wp2_with (first | ((with_reducible refine gate_dst (N := 1) rfl ?_); (try (refine gate_guard (by rfl) ?_; dsimp only)); refine box_event ?hg (N := 1) ?hd (cs := #[.int .u8 a0_0, .slice A0_1 l0_1.length c0_1, .slice A0_2 l0_2.length c0_2, .bool a0_3, .slice A0_4 l0_4.length c0_4, .int .u8 a0_5, .int .i64 a0_6, .int .i64 a0_7, .bool a0_8, .int .u8 a0_9]) (t := 41) ?hr ?_; (case hd => rfl); (case hg => rfl); (case hr => first | (go_simp; done) | (go_simp; rfl)); intro gb621 hg w8 hbox hb; have BK621 := am (hbox); have GW621 := am ((by rw [hg]; exact (below_size (by repeat (first | (with_reducible first | exact HB.out | apply below_alloc | apply pw_below_drewN | apply below_drew1) | exact HB.out))) : w.heap.size ≤ gb621)); have GE621 := am ((by rw [hg]; exact (below_size (by repeat (first | (with_reducible first | exact HB.out | apply below_alloc | apply pw_below_drewN | apply below_drew1) | exact HB.out))) : w.heap.size ≤ gb621)); replace HB := am (below_step (by repeat (first | (with_reducible first | exact HB.out | apply below_alloc | apply pw_below_drewN | apply below_drew1) | exact HB.out)) hb); clear hb hbox hg; have z9_0 : w8.cell? ⟨gb621, 0, none⟩ = some (.int .u8 a0_0) := (blk_cell BK621.out 0).trans rfl; have z9_1 : w8.cell? ⟨gb621, 1, none⟩ = some (.slice A0_1 l0_1.length c0_1) := (blk_cell BK621.out 1).trans rfl; have z9_2 : w8.cell? ⟨gb621, 2, none⟩ = some (.slice A0_2 l0_2.length c0_2) := (blk_cell BK621.out 2).trans rfl; have z9_3 : w8.cell? ⟨gb621, 3, none⟩ = some (.bool a0_3) := (blk_cell BK621.out 3).trans rfl; have z9_4 : w8.cell? ⟨gb621, 4, none⟩ = some (.slice A0_4 l0_4.length c0_4) := (blk_cell BK621.out 4).trans rfl; have z9_5 : w8.cell? ⟨gb621, 5, none⟩ = some (.int .u8 a0_5) := (blk_cell BK621.out 5).trans rfl; have z9_6 : w8.cell? ⟨gb621, 6, none⟩ = some (.int .i64 a0_6) := (blk_cell BK621.out 6).trans rfl; have z9_7 : w8.cell? ⟨gb621, 7, none⟩ = some (.int .i64 a0_7) := (blk_cell BK621.out 7).trans rfl; have z9_8 : w8.cell? ⟨gb621, 8, none⟩ = some (.bool a0_8) := (blk_cell BK621.out 8).trans rfl; have z9_9 : w8.cell? ⟨gb621, 9, none⟩ = some (.int .u8 a0_9) := (blk_cell BK621.out 9).trans rfl; have y9_0 := blk_frozen BK621.out 0; have y9_1 := blk_frozen BK621.out 1; have y9_2 := blk_frozen BK621.out 2; have y9_3 := blk_frozen BK621.out 3; have y9_4 := blk_frozen BK621.out 4; have y9_5 := blk_frozen BK621.out 5; have y9_6 := blk_frozen BK621.out 6; have y9_7 := blk_frozen BK621.out 7; have y9_8 := blk_frozen BK621.out 8; have y9_9 := blk_frozen BK621.out 9))
   go_ret
   exact ⟨by first | rfl | (simp [errW_none, errW_some] <;> rfl) | (simp [*, errW_none, errW_some] <;> rfl), by repeat (first | (with_reducible first | exact HB.out | apply below_alloc | apply pw_below_drewN | apply below_drew1 | refine below_set ?_ GE621.out) | exact HB.out)⟩

def tailwaterref25_Right.f (a0_0 : Int) (a0_1 : Int) (a0_2 : Int) : Option (Bool) := if a0_1 ≥ (-1099511627776) then (some (decide (a0_1 ≤ 1099511627776))) else (some false)
set_option maxHeartbeats 8000000 in
set_option maxRecDepth 100000 in
theorem tailwaterref25_Right.calls (a0_0 : Int) (a0_1 : Int) (a0_2 : Int) (r : Bool) (w : World) (h : tailwaterref25_Right.f a0_0 a0_1 a0_2 = some r) :
  Calls Try.prog 23 #[.agg #[.int .i64 a0_0, .int .i64 a0_1, .int .i64 a0_2]] w fun e w' => e = .returned (.bool r) ∧ Below w.heap.size w w' := by
 have hu43 := Try.underlying43
 have HB := am (Below.refl w.heap.size w)
 have H : (if a0_1 ≥ (-1099511627776) then (some (decide (a0_1 ≤ 1099511627776))) else (some false)) = some r := h
 clear h
 by_cases c2 : a0_1 ≥ (-1099511627776)
 ·rw [if_pos c2] at H
  have c2b0 : decide ((-1099511627776) ≤ a0_1) = true := decide_eq_true c2
  clear c2
  obtain rfl := Option.some.inj H
  go_enter Try.func23, Try.ntmps23
  go_wp2_with (first | ((with_reducible refine gate_dst (N := 1) rfl ?_); refine box_event ?hg (N := 1) ?hd (cs := #[.int .i64 a0_0, .int .i64 a0_1, .int .i64 a0_2]) (t := 43) ?hr ?_; (case hd => rfl); (case hg => rfl); (case hr => first | (go_simp; done) | (go_simp; rfl)); intro gb700 hg w3 hbox hb; have BK700 := am (hbox); have GW700 := am ((by rw [hg]; exact (below_size (by repeat (first | (with_reducible first | exact HB.out | apply below_alloc | apply pw_below_drewN | apply below_drew1) | exact HB.out))) : w.heap.size ≤ gb700)); have GE700 := am ((by rw [hg]; exact (below_size (by repeat (first | (with_reducible first | exact HB.out | apply below_alloc | apply pw_below_drewN | apply below_drew1) | exact HB.out))) : w.heap.size ≤ gb700)); replace HB := am (below_step (by repeat (first | (with_reducible first | exact HB.out | apply below_alloc | apply pw_below_drewN | apply below_drew1) | exact HB.out)) hb); clear hb hbox hg; have z4_0 : w3.cell? ⟨gb700, 0, none⟩ = some (.int .i64 a0_0) := (blk_cell BK700.out 0).trans rfl; have z4_1 : w3.cell? ⟨gb700, 1, none⟩ = some (.int .i64 a0_1) := (blk_cell BK700.out 1).trans rfl; have z4_2 : w3.cell? ⟨gb700, 2, none⟩ = some (.int .i64 a0_2) := (blk_cell BK700.out 2).trans rfl; have y4_0 := blk_frozen BK700.out 0; have y4_1 := blk_frozen BK700.out 1; have y4_2 := blk_frozen BK700.out 2))
  go_ret
  exact ⟨by first | rfl | (simp [errW_none, errW_some] <;> rfl) | (simp [*, errW_none, errW_some] <;> rfl), by repeat (first | (with_reducible first | exact HB.out | apply below_alloc | apply pw_below_drewN | apply below_drew1 | refine below_set ?_ GE700.out) | exact HB.out)⟩
 ·rw [if_neg c2] at H
  have c2b0 : decide ((-1099511627776) ≤ a0_1) = false := decide_eq_false c2
  clear c2
  obtain rfl := Option.some.inj H
  go_enter Try.func23, Try.ntmps23
  go_wp2_with (first | ((with_reducible refine gate_dst (N := 1) rfl ?_); refine box_event ?hg (N := 1) ?hd (cs := #[.int .i64 a0_0, .int .i64 a0_1, .int .i64 a0_2]) (t := 43) ?hr ?_; (case hd => rfl); (case hg => rfl); (case hr => first | (go_simp; done) | (go_simp; rfl)); intro gb700 hg w5 hbox hb; have BK700 := am (hbox); have GW700 := am ((by rw [hg]; exact (below_size (by repeat (first | (with_reducible first | exact HB.out | apply below_alloc | apply pw_below_drewN | apply below_drew1) | exact HB.out))) : w.heap.size ≤ gb700)); have GE700 := am ((by rw [hg]; exact (below_size (by repeat (first | (with_reducible first | exact HB.out | apply below_alloc | apply pw_below_drewN | apply below_drew1) | exact HB.out))) : w.heap.size ≤ gb700)); replace HB := am (below_step (by repeat (first | (with_reducible first | exact HB.out | apply below_alloc | apply pw_below_drewN | apply below_drew1) | exact HB.out)) hb); clear hb hbox hg; have z6_0 : w5.cell? ⟨gb700, 0, none⟩ = some (.int .i64 a0_0) := (blk_cell BK700.out 0).trans rfl; have z6_1 : w5.cell? ⟨gb700, 1, none⟩ = some (.int .i64 a0_1) := (blk_cell BK700.out 1).trans rfl; have z6_2 : w5.cell? ⟨gb700, 2, none⟩ = some (.int .i64 a0_2) := (blk_cell BK700.out 2).trans rfl; have y6_0 := blk_frozen BK700.out 0; have y6_1 := blk_frozen BK700.out 1; have y6_2 := blk_frozen BK700.out 2))
  go_ret
  exact ⟨by first | rfl | (simp [errW_none, errW_some] <;> rfl) | (simp [*, errW_none, errW_some] <;> rfl), by repeat (first | (with_reducible first | exact HB.out | apply below_alloc | apply pw_below_drewN | apply below_drew1 | refine below_set ?_ GE700.out) | exact HB.out)⟩

end Go.Proofs.Ytcdgohoinmbpfaa.M
