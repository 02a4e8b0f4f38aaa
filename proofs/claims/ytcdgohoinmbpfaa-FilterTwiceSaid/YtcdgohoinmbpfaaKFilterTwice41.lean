import Derived.Test.YtcdgohoinmbpfaaKFilterTwice6
import Derived.Test.YtcdgohoinmbpfaaKFilterTwice9
namespace Go.Proofs.Ytcdgohoinmbpfaa.M
open Go.RowKit Go.Proofs.YtcdgohoinmbpfaaW.PrintWords Go.Proofs.YtcdgohoinmbpfaaW.PrintLast Go.Proofs.YtcdgohoinmbpfaaW.PrintMore
attribute [local go_sem] max2_int min2_int max_two min_two
set_option linter.unusedVariables false
set_option linter.unusedSimpArgs false

theorem eqA43 (d : Nat) (w : World) (x0 y0 : Int) (x1 y1 : Int) (x2 y2 : Int) :
  (Op.equalIn (d + 2) 43 (.agg #[.int .i64 x0, .int .i64 x1, .int .i64 x2]) (.agg #[.int .i64 y0, .int .i64 y1, .int .i64 y2])).run Try.prog w = .ok (x0 == y0 && (x1 == y1 && (x2 == y2))) w := by
 refine eqA_of Try.underlying43 (by kernel_rfl) ?_
 refine eqf_cons (by rfl) (by go_simp; rfl) (by go_simp; rfl) (by go_simp) ?_
 refine eqf_cons (by rfl) (by go_simp; rfl) (by go_simp; rfl) (by go_simp) ?_
 exact eqf_last (by rfl) (by go_simp; rfl) (by go_simp; rfl) (by go_simp)
theorem eqA45 (d : Nat) (w : World) (x0 y0 : Int) (x1 y1 : Int) :
  (Op.equalIn (d + 2) 45 (.agg #[.int .i64 x0, .int .i64 x1]) (.agg #[.int .i64 y0, .int .i64 y1])).run Try.prog w = .ok (x0 == y0 && (x1 == y1)) w := by
 refine eqA_of Try.underlying45 (by kernel_rfl) ?_
 refine eqf_cons (by rfl) (by go_simp; rfl) (by go_simp; rfl) (by go_simp) ?_
 exact eqf_last (by rfl) (by go_simp; rfl) (by go_simp; rfl) (by go_simp)
theorem eqArr2 {P : Program} {d : Nat} {w : World} {t e : TypeId} {sz : Nat} {xs ys : Array Value} {a b a' b' : Value} {r s : Bool} (hu : P.underlying t = some (.array 2 e)) (hs : (sizeOf e).run P w = .ok sz w)
  (ha : (part e xs 0).run P w = .ok a w) (hb : (part e ys 0).run P w = .ok b w) (he : (Op.equalIn d e a b).run P w = .ok r w)
  (ha' : (part e xs sz).run P w = .ok a' w) (hb' : (part e ys sz).run P w = .ok b' w) (he' : (Op.equalIn d e a' b').run P w = .ok s w) :
  (Op.equalIn (d + 1) t (.agg xs) (.agg ys)).run P w = .ok (r && s) w := by
 simp only [Op.equalIn, Sem.run_bind, run_underlying hu, hs, Result.andThen_ok]
 simp [List.range', Sem.run_bind, ha, hb, he, ha', hb', he', Result.andThen_ok]
 cases r <;> cases s <;> simp
theorem eqA46 (d : Nat) (w : World) (x0 y0 : Int) (x1 y1 : Int) :
  (Op.equalIn (d + 2) 46 (.agg #[.int .i64 x0, .int .i64 x1]) (.agg #[.int .i64 y0, .int .i64 y1])).run Try.prog w = .ok (x0 == y0 && (x1 == y1)) w := by
 exact eqArr2 (sz := 1) Try.underlying46 (by kernel_rfl) (by go_simp; rfl) (by go_simp; rfl) (by go_simp) (by go_simp; rfl) (by go_simp; rfl) (by go_simp)
theorem eqA48 (d : Nat) (w : World) (x0 y0 : Int) (x1 y1 : Int) (x2 y2 : Int) (x3 y3 : Int) (x4 y4 : Int) :
  (Op.equalIn (d + 3) 48 (.agg #[.int .i64 x0, .int .i64 x1, .int .i64 x2, .int .i64 x3, .int .i64 x4]) (.agg #[.int .i64 y0, .int .i64 y1, .int .i64 y2, .int .i64 y3, .int .i64 y4])).run Try.prog w = .ok (x0 == y0 && ((x1 == y1 && (x2 == y2)) && ((x3 == y3 && (x4 == y4))))) w := by
 refine eqA_of Try.underlying48 (by kernel_rfl) ?_
 refine eqf_cons (by rfl) (by go_simp; rfl) (by go_simp; rfl) (by go_simp) ?_
 refine eqf_cons (by rfl) (by go_simp) (by go_simp) (eqA45 (d + 0) w _ _ _ _) ?_
 exact eqf_last (by rfl) (by go_simp) (by go_simp) (eqA46 (d + 0) w _ _ _ _)
theorem eqA50 (d : Nat) (w : World) (x0 y0 : Int) (x1 y1 : Int) (x2 y2 : Int) (x3 y3 : Int) (x4 y4 : Int) (x5 y5 : Int) (x6 y6 : Int) (x7 y7 : Int) (x8 y8 : Int) (x9 y9 : Int) :
  (Op.equalIn (d + 4) 50 (.agg #[.int .u8 x0, .int .i64 x1, .int .i64 x2, .int .i64 x3, .int .i64 x4, .int .i64 x5, .int .i64 x6, .int .i64 x7, .int .i64 x8, .int .i64 x9]) (.agg #[.int .u8 y0, .int .i64 y1, .int .i64 y2, .int .i64 y3, .int .i64 y4, .int .i64 y5, .int .i64 y6, .int .i64 y7, .int .i64 y8, .int .i64 y9])).run Try.prog w = .ok (x0 == y0 && ((x1 == y1 && (x2 == y2 && (x3 == y3))) && (x4 == y4 && ((x5 == y5 && ((x6 == y6 && (x7 == y7)) && ((x8 == y8 && (x9 == y9))))))))) w := by
 refine eqA_of Try.underlying50 (by kernel_rfl) ?_
 refine eqf_cons (by rfl) (by go_simp; rfl) (by go_simp; rfl) (by go_simp) ?_
 refine eqf_cons (by rfl) (by go_simp) (by go_simp) (eqA43 (d + 1) w _ _ _ _ _ _) ?_
 refine eqf_cons (by rfl) (by go_simp; rfl) (by go_simp; rfl) (by go_simp) ?_
 exact eqf_last (by rfl) (by go_simp) (by go_simp) (eqA48 (d + 0) w _ _ _ _ _ _ _ _ _ _)
theorem eqA55 (d : Nat) (w : World) (x0 y0 : Int) (x1 y1 : Int) (x2 y2 : Int) (x3 y3 : Int) (x4 y4 : Int) (x5 y5 : Int) (x6 y6 : Int) (x7 y7 : Int) (x8 y8 : Int) (x9 y9 : Int) (x10 y10 : Int) :
  (Op.equalIn (d + 5) 55 (.agg #[.int .i64 x0, .int .u8 x1, .int .i64 x2, .int .i64 x3, .int .i64 x4, .int .i64 x5, .int .i64 x6, .int .i64 x7, .int .i64 x8, .int .i64 x9, .int .i64 x10]) (.agg #[.int .i64 y0, .int .u8 y1, .int .i64 y2, .int .i64 y3, .int .i64 y4, .int .i64 y5, .int .i64 y6, .int .i64 y7, .int .i64 y8, .int .i64 y9, .int .i64 y10])).run Try.prog w = .ok (x0 == y0 && ((x1 == y1 && ((x2 == y2 && (x3 == y3 && (x4 == y4))) && (x5 == y5 && ((x6 == y6 && ((x7 == y7 && (x8 == y8)) && ((x9 == y9 && (x10 == y10))))))))))) w := by
 refine eqA_of Try.underlying55 (by kernel_rfl) ?_
 refine eqf_cons (by rfl) (by go_simp; rfl) (by go_simp; rfl) (by go_simp) ?_
 exact eqf_last (by rfl) (by go_simp) (by go_simp) (eqA50 (d + 0) w _ _ _ _ _ _ _ _ _ _ _ _ _ _ _ _ _ _ _ _)
attribute [local go_sem high] eqA55
def tailwaterref27_SameSends.l0 : Nat → List (S55) → List (S55) → Int → Option (Bool)
 | 0, _, _, _ => none
 | k + 1, x0, x1, x5 => if x5 < (x0.length : Int) then (if 0 ≤ x5 then (if x5 < (x1.length : Int) then (if (!(((rd_T55 x0 x5).f0) == ((rd_T55 x1 x5).f0)) || ((!(((rd_T55 x0 x5).f1.f0) == ((rd_T55 x1 x5).f1.f0)) || ((!(((rd_T55 x0 x5).f1.f1.f0) == ((rd_T55 x1 x5).f1.f1.f0)) || (!(((rd_T55 x0 x5).f1.f1.f1) == ((rd_T55 x1 x5).f1.f1.f1)) || (!(((rd_T55 x0 x5).f1.f1.f2) == ((rd_T55 x1 x5).f1.f1.f2))))) || (!(((rd_T55 x0 x5).f1.f2) == ((rd_T55 x1 x5).f1.f2)) || ((!(((rd_T55 x0 x5).f1.f3.f0) == ((rd_T55 x1 x5).f1.f3.f0)) || ((!(((rd_T55 x0 x5).f1.f3.f1.f0) == ((rd_T55 x1 x5).f1.f3.f1.f0)) || (!(((rd_T55 x0 x5).f1.f3.f1.f1) == ((rd_T55 x1 x5).f1.f3.f1.f1)))) || ((!(((rd_T55 x0 x5).f1.f3.f2.f0) == ((rd_T55 x1 x5).f1.f3.f2.f0)) || (!(((rd_T55 x0 x5).f1.f3.f2.f1) == ((rd_T55 x1 x5).f1.f3.f2.f1))))))))))))) = true then (some false) else (tailwaterref27_SameSends.l0 k x0 x1 (wrap64 (x5 + 1)))) else (none)) else (none)) else (some true)
def tailwaterref27_SameSends.f (k : Nat) (l0 : List (S55)) (l1 : List (S55)) : Option (Bool) := if (l0.length : Int) = (l1.length : Int) then (tailwaterref27_SameSends.l0 k l0 l1 0) else (some false)
theorem tailwaterref27_SameSends.mono_l : ∀ k, (∀ y0 y1 y2, LeO (tailwaterref27_SameSends.l0 k y0 y1 y2) (tailwaterref27_SameSends.l0 (k + 1) y0 y1 y2))
 | 0 => fun _ _ _ r h => by simp [tailwaterref27_SameSends.l0] at h
 | k + 1 => by
  have ih0 := tailwaterref27_SameSends.mono_l k
  ·intro y0 y1 y2
   unfold tailwaterref27_SameSends.l0
   repeat' first
   | (with_reducible exact ih0 _ _ _)
   | (with_reducible exact LeO.refl _)
   | (with_reducible exact LeO.none _)
   | (with_reducible refine LeO.ite ?_ ?_)
   | (with_reducible refine LeO.bind ?_ (fun _ => ?_))
theorem tailwaterref27_SameSends.mono : ∀ a0 a1 k, LeO (tailwaterref27_SameSends.f k a0 a1) (tailwaterref27_SameSends.f (k + 1) a0 a1) := by
 intro a0 a1 k
 have ih0 := tailwaterref27_SameSends.mono_l k
 unfold tailwaterref27_SameSends.f
 repeat' first
   | (with_reducible exact ih0 _ _ _)
   | (with_reducible exact LeO.refl _)
   | (with_reducible exact LeO.none _)
   | (with_reducible refine LeO.ite ?_ ?_)
   | (with_reducible refine LeO.bind ?_ (fun _ => ?_))
set_option maxHeartbeats 8000000 in
set_option maxRecDepth 100000 in
theorem tailwaterref27_SameSends.calls (k : Nat) (A0 : Option Addr) (c0 : Nat) (l0 : List (S55)) (A1 : Option Addr) (c1 : Nat) (l1 : List (S55)) (r : Bool) (w : World) (hr0 : Kd.C k55 w A0 l0.length l0) (hc0 : l0.length ≤ c0) (hr1 : Kd.C k55 w A1 l1.length l1) (hc1 : l1.length ≤ c1) (h : tailwaterref27_SameSends.f k l0 l1 = some r) :
  Calls Try.prog 31 #[.slice A0 l0.length c0, .slice A1 l1.length c1] w fun e w' => e = .returned (.bool r) ∧ Drawn0 w w' := by
 have hu55 := Try.underlying55
 have HR0 := am hr0
 have HC0 := am hc0
 clear hr0 hc0
 have HR1 := am hr1
 have HC1 := am hc1
 clear hr1 hc1
 have H : (if (l0.length : Int) = (l1.length : Int) then (tailwaterref27_SameSends.l0 k l0 l1 0) else (some false)) = some r := h
 clear h
 by_cases c3 : (l0.length : Int) = (l1.length : Int)
 ·rw [if_pos c3] at H
  have c3b0 : ((l0.length : Int) == (l1.length : Int)) = true := beq_iff_eq.mpr c3
  have c3b1 : ((l0.length : Int) != (l1.length : Int)) = false := bne_eq_false_iff_eq.mpr c3
  have c3b2 : (l0.length == l1.length) = true := by first | simpa using c3 | (simp at c3 ⊢; omega)
  clear c3
  have H' := am H
  clear H
  go_enter Try.func31, Try.ntmps31
  go_wp2
  repeat (go_quiet (fail); try go_wp2)
  go_loopg [5] k (fun kq v5 w' => ∃ (x5_1 : Int), v5 = .int .i64 x5_1 ∧ Aside0 (tailwaterref27_SameSends.l0 kq l0 l1 x5_1 = some r) ∧ Aside0 (kq ≤ k) ∧ Drawn0 w w')
  case atStart => exact ⟨(0), (by first | rfl | (simp; done) | (simp [*]; done)), H', ⟨Nat.le_refl _⟩, by repeat (first | exact Drawn0.refl _ | apply Drawn0.step)⟩
  case round =>
   clear H'
   try clear c1
   try clear p2
   try clear c3
   try clear c3b0
   try clear c3b1
   try clear c3b2
   obtain ⟨x5_1, rfl, HA, HK1, ⟨m1, rfl⟩⟩ := hrel
   cases gk with
   | zero => exact absurd HA.out (by simp [tailwaterref27_SameSends.l0])
   | succ k1 =>
    have H := HA.out
    clear HA
    simp only [tailwaterref27_SameSends.l0] at H
    by_cases c4 : x5_1 < (l0.length : Int)
    ·rw [if_pos c4] at H
     have c4b0 : decide (x5_1 < (l0.length : Int)) = true := decide_eq_true c4
     clear c4
     by_cases c5 : 0 ≤ x5_1
     ·rw [if_pos c5] at H
      have c5b0 : decide (0 ≤ x5_1) = true := decide_eq_true c5
      clear c5
      by_cases c6 : x5_1 < (l1.length : Int)
      ·rw [if_pos c6] at H
       have c6b0 : decide (x5_1 < (l1.length : Int)) = true := decide_eq_true c6
       clear c6
       by_cases c7 : (!(((rd_T55 l0 x5_1).f0) == ((rd_T55 l1 x5_1).f0)) || ((!(((rd_T55 l0 x5_1).f1.f0) == ((rd_T55 l1 x5_1).f1.f0)) || ((!(((rd_T55 l0 x5_1).f1.f1.f0) == ((rd_T55 l1 x5_1).f1.f1.f0)) || (!(((rd_T55 l0 x5_1).f1.f1.f1) == ((rd_T55 l1 x5_1).f1.f1.f1)) || (!(((rd_T55 l0 x5_1).f1.f1.f2) == ((rd_T55 l1 x5_1).f1.f1.f2))))) || (!(((rd_T55 l0 x5_1).f1.f2) == ((rd_T55 l1 x5_1).f1.f2)) || ((!(((rd_T55 l0 x5_1).f1.f3.f0) == ((rd_T55 l1 x5_1).f1.f3.f0)) || ((!(((rd_T55 l0 x5_1).f1.f3.f1.f0) == ((rd_T55 l1 x5_1).f1.f3.f1.f0)) || (!(((rd_T55 l0 x5_1).f1.f3.f1.f1) == ((rd_T55 l1 x5_1).f1.f3.f1.f1)))) || ((!(((rd_T55 l0 x5_1).f1.f3.f2.f0) == ((rd_T55 l1 x5_1).f1.f3.f2.f0)) || (!(((rd_T55 l0 x5_1).f1.f3.f2.f1) == ((rd_T55 l1 x5_1).f1.f3.f2.f1))))))))))))) = true
       ·rw [if_pos c7] at H
        have c7b0 : (!(((rd_T55 l0 x5_1).f0) == ((rd_T55 l1 x5_1).f0)) || ((!(((rd_T55 l0 x5_1).f1.f0) == ((rd_T55 l1 x5_1).f1.f0)) || ((!(((rd_T55 l0 x5_1).f1.f1.f0) == ((rd_T55 l1 x5_1).f1.f1.f0)) || (!(((rd_T55 l0 x5_1).f1.f1.f1) == ((rd_T55 l1 x5_1).f1.f1.f1)) || (!(((rd_T55 l0 x5_1).f1.f1.f2) == ((rd_T55 l1 x5_1).f1.f1.f2))))) || (!(((rd_T55 l0 x5_1).f1.f2) == ((rd_T55 l1 x5_1).f1.f2)) || ((!(((rd_T55 l0 x5_1).f1.f3.f0) == ((rd_T55 l1 x5_1).f1.f3.f0)) || ((!(((rd_T55 l0 x5_1).f1.f3.f1.f0) == ((rd_T55 l1 x5_1).f1.f3.f1.f0)) || (!(((rd_T55 l0 x5_1).f1.f3.f1.f1) == ((rd_T55 l1 x5_1).f1.f3.f1.f1)))) || ((!(((rd_T55 l0 x5_1).f1.f3.f2.f0) == ((rd_T55 l1 x5_1).f1.f3.f2.f0)) || (!(((rd_T55 l0 x5_1).f1.f3.f2.f1) == ((rd_T55 l1 x5_1).f1.f3.f2.f1))))))))))))) = true := c7
        clear c7
        obtain rfl := Option.some.inj H
        have p408 : 0 ≤ (x5_1 : Int) := of_decide_eq_true (by first | (with_reducible assumption) | assumption)
        have q408 : x5_1 < (l0.length : Int) := of_decide_eq_true (by first | (with_reducible assumption) | assumption)
        obtain ⟨ad408, e408, hx408_0, hx408_1, hx408_2, hx408_3, hx408_4, hx408_5, hx408_6, hx408_7, hx408_8, hx408_9, hx408_10⟩ := at_T55 HR0.out x5_1 p408 q408
        cases e408
        replace p408 := eq_true p408
        replace q408 := eq_true q408
        have p409 : 0 ≤ (x5_1 : Int) := of_decide_eq_true (by first | (with_reducible assumption) | assumption)
        have q409 : x5_1 < (l1.length : Int) := of_decide_eq_true (by first | (with_reducible assumption) | assumption)
        obtain ⟨ad409, e409, hx409_0, hx409_1, hx409_2, hx409_3, hx409_4, hx409_5, hx409_6, hx409_7, hx409_8, hx409_9, hx409_10⟩ := at_T55 HR1.out x5_1 p409 q409
        cases e409
        replace p409 := eq_true p409
        replace q409 := eq_true q409
        go_wp2
        repeat (go_quiet (fail); try go_wp2)
        go_ret
        exact ⟨by first | rfl | (simp; done) | (simp [*]; done), by repeat (first | exact Drawn0.refl _ | apply Drawn0.step)⟩
       ·rw [if_neg c7] at H
        have c7b0 : (!(((rd_T55 l0 x5_1).f0) == ((rd_T55 l1 x5_1).f0)) || ((!(((rd_T55 l0 x5_1).f1.f0) == ((rd_T55 l1 x5_1).f1.f0)) || ((!(((rd_T55 l0 x5_1).f1.f1.f0) == ((rd_T55 l1 x5_1).f1.f1.f0)) || (!(((rd_T55 l0 x5_1).f1.f1.f1) == ((rd_T55 l1 x5_1).f1.f1.f1)) || (!(((rd_T55 l0 x5_1).f1.f1.f2) == ((rd_T55 l1 x5_1).f1.f1.f2))))) || (!(((rd_T55 l0 x5_1).f1.f2) == ((rd_T55 l1 x5_1).f1.f2)) || ((!(((rd_T55 l0 x5_1).f1.f3.f0) == ((rd_T55 l1 x5_1).f1.f3.f0)) || ((!(((rd_T55 l0 x5_1).f1.f3.f1.f0) == ((rd_T55 l1 x5_1).f1.f3.f1.f0)) || (!(((rd_T55 l0 x5_1).f1.f3.f1.f1) == ((rd_T55 l1 x5_1).f1.f3.f1.f1)))) || ((!(((rd_T55 l0 x5_1).f1.f3.f2.f0) == ((rd_T55 l1 x5_1).f1.f3.f2.f0)) || (!(((rd_T55 l0 x5_1).f1.f3.f2.f1) == ((rd_T55 l1 x5_1).f1.f3.f2.f1))))))))))))) = false := by simpa using c7
        clear c7
        have H' := am H
        clear H
        have p408 : 0 ≤ (x5_1 : Int) := of_decide_eq_true (by first | (with_reducible assumption) | assumption)
        have q408 : x5_1 < (l0.length : Int) := of_decide_eq_true (by first | (with_reducible assumption) | assumption)
        obtain ⟨ad408, e408, hx408_0, hx408_1, hx408_2, hx408_3, hx408_4, hx408_5, hx408_6, hx408_7, hx408_8, hx408_9, hx408_10⟩ := at_T55 HR0.out x5_1 p408 q408
        cases e408
        replace p408 := eq_true p408
        replace q408 := eq_true q408
        have p409 : 0 ≤ (x5_1 : Int) := of_decide_eq_true (by first | (with_reducible assumption) | assumption)
        have q409 : x5_1 < (l1.length : Int) := of_decide_eq_true (by first | (with_reducible assumption) | assumption)
        obtain ⟨ad409, e409, hx409_0, hx409_1, hx409_2, hx409_3, hx409_4, hx409_5, hx409_6, hx409_7, hx409_8, hx409_9, hx409_10⟩ := at_T55 HR1.out x5_1 p409 q409
        cases e409
        replace p409 := eq_true p409
        replace q409 := eq_true q409
        go_wp2
        repeat (go_quiet (fail); try go_wp2)
        go_roundg k1
        case measure => have := HK1.out; omega
        case rel => exact ⟨(wrap64 (x5_1 + 1)), (by first | rfl | (simp; done) | (simp [*]; done)), H', ⟨by have := HK1.out; omega⟩, by repeat (first | exact Drawn0.refl _ | apply Drawn0.step)⟩
      ·rw [if_neg c6] at H
       exact absurd H (by simp)
     ·rw [if_neg c5] at H
      exact absurd H (by simp)
    ·rw [if_neg c4] at H
     have c4b0 : decide (x5_1 < (l0.length : Int)) = false := decide_eq_false c4
     clear c4
     obtain rfl := Option.some.inj H
     go_wp2
     repeat (go_quiet (fail); try go_wp2)
     go_ret
     exact ⟨by first | rfl | (simp; done) | (simp [*]; done), by repeat (first | exact Drawn0.refl _ | apply Drawn0.step)⟩
 ·rw [if_neg c3] at H
  have c3b0 : ((l0.length : Int) == (l1.length : Int)) = false := beq_eq_false_iff_ne.mpr c3
  have c3b1 : ((l0.length : Int) != (l1.length : Int)) = true := bne_iff_ne.mpr c3
  have c3b2 : (l0.length == l1.length) = false := by first | simpa using c3 | (simp at c3 ⊢; omega)
  obtain rfl := Option.some.inj H
  go_enter Try.func31, Try.ntmps31
  go_wp2
  repeat (go_quiet (fail); try go_wp2)
  go_ret
  exact ⟨by first | rfl | (simp; done) | (simp [*]; done), by repeat (first | exact Drawn0.refl _ | apply Drawn0.step)⟩

end Go.Proofs.Ytcdgohoinmbpfaa.M
