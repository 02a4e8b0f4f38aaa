import Derived.Test.YtcdgohoinmbpfaaKFilterTwice6
import Derived.Test.YtcdgohoinmbpfaaKFilterTwice14
import Derived.Test.YtcdgohoinmbpfaaKFilterTwice11
namespace Go.Proofs.Ytcdgohoinmbpfaa.M
open Go.RowKit Go.Proofs.YtcdgohoinmbpfaaW.PrintWords Go.Proofs.YtcdgohoinmbpfaaW.PrintLast Go.Proofs.YtcdgohoinmbpfaaW.PrintMore
attribute [local go_sem] max2_int min2_int max_two min_two
set_option linter.unusedVariables false
set_option linter.unusedSimpArgs false

def kinds_Of.f (l0 : List (S61)) : Option (Bool × Int × Int) := (nodes_Check.f l0).bind fun t112 => (if t112 = 0 then ((kinds_told.f l0).bind fun bt113 => (if bt113.2 < (l0.length : Int) then (some (false, bt113.2, 42)) else (if 0 ≤ (wrap64 (bt113.2 - 1)) then (if (wrap64 (bt113.2 - 1)) < (bt113.1.length : Int) then (some (rdOf false bt113.1 (wrap64 (bt113.2 - 1)), wrap64 (bt113.2 - 1), 0)) else (none)) else (none)))) else (some (false, 0, t112)))
set_option maxHeartbeats 8000000 in
set_option maxRecDepth 100000 in
theorem kinds_Of.calls (A0 : Option Addr) (c0 : Nat) (l0 : List (S61)) (r1 : Bool) (r2 : Int) (r3 : Int) (w : World) (hr0 : Kd.C k61 w A0 l0.length l0) (hc0 : l0.length ≤ c0) (h : kinds_Of.f l0 = some (r1, r2, r3)) :
  Calls Try.prog 74 #[.slice A0 l0.length c0] w fun e w' => e = .returned (.tuple #[.bool r1, .int .i64 r2, .int .i64 r3]) ∧ Below w.heap.size w w' := by
 have HR0 := am hr0
 have HC0 := am hc0
 clear hr0 hc0
 have HB := am (Below.refl w.heap.size w)
 have H : ((nodes_Check.f l0).bind fun t112 => (if t112 = 0 then ((kinds_told.f l0).bind fun bt113 => (if bt113.2 < (l0.length : Int) then (some (false, bt113.2, 42)) else (if 0 ≤ (wrap64 (bt113.2 - 1)) then (if (wrap64 (bt113.2 - 1)) < (bt113.1.length : Int) then (some (rdOf false bt113.1 (wrap64 (bt113.2 - 1)), wrap64 (bt113.2 - 1), 0)) else (none)) else (none)))) else (some (false, 0, t112)))) = some (r1, r2, r3) := h
 clear h
 replace H := Option.bind_eq_some_iff.mp H
 obtain ⟨t112, A20, H⟩ := H
 try dsimp only at H
 have A2 := am A20
 clear A20
 by_cases c3 : t112 = 0
 ·rw [if_pos c3] at H
  have c3b0 : (t112 == 0) = true := beq_iff_eq.mpr c3
  have c3b1 : (t112 != 0) = false := bne_eq_false_iff_eq.mpr c3
  clear c3
  replace H := Option.bind_eq_some_iff.mp H
  obtain ⟨⟨t113, t114⟩, A40, H⟩ := H
  try dsimp only at H
  have A4 := am A40
  clear A40
  by_cases c5 : t114 < (l0.length : Int)
  ·rw [if_pos c5] at H
   have c5b0 : decide (t114 < (l0.length : Int)) = true := decide_eq_true c5
   clear c5
   simp only [Option.some.injEq, Prod.mk.injEq] at H
   obtain ⟨rfl, rfl, rfl⟩ := H
   go_enter Try.func74, Try.ntmps74
   go_wp2_with (first | ((with_reducible refine gate_callee (f := 83) rfl ?_); refine goesL_ (some 9) rfl rfl Try.func83 (by kernel_rfl) rfl #[.slice A0 l0.length c0] rfl (by (try simp only [List.map_toArray, List.map_cons, List.map_nil]) <;> rfl) ?_; (with_reducible refine (nodes_Check.calls _ _ l0 t112 _ ?side1 ?side2 A2.out).mono ?_); (case side1 => repeat (first | exact HR0.out | (with_reducible refine Kd.C_alloc ?_ _) | (with_reducible refine Kd.C_drewN ?_ _) | (with_reducible refine Kd.C_drew ?_))); (case side2 => exact HC0.out); rintro e w6 ⟨rfl, hb⟩; refine ⟨_, rfl, ?_⟩; replace HB := am (below_step (by exact belL HB.out) hb); (try clear hb); (try clear hb2); (try clear hk); (try clear hi)) | ((with_reducible refine gate_callee (f := 90) rfl ?_); refine goesL_ (some 15) rfl rfl Try.func90 (by kernel_rfl) rfl #[.slice A0 l0.length c0] rfl (by (try simp only [List.map_toArray, List.map_cons, List.map_nil]) <;> rfl) ?_; (with_reducible refine (kinds_told.calls _ _ l0 t113 t114 _ ?side1 ?side2 A4.out).mono ?_); (case side1 => repeat (first | exact (Kd.C_below HR0.out HB.out) | (with_reducible refine Kd.C_alloc ?_ _) | (with_reducible refine Kd.C_drewN ?_ _) | (with_reducible refine Kd.C_drew ?_))); (case side2 => exact HC0.out); rintro e w7 ⟨v115, rfl, ho0, hb⟩; refine ⟨_, rfl, ?_⟩; have HO116 := am (Kd.R_lower ho0 (below_size (by exact belL HB.out))); replace HB := am (below_step (by exact belL HB.out) hb); (try clear hb); (try clear hb2); (try clear hk); (try clear hi); (try clear ho0)))
   go_ret3
   exact ⟨by first | rfl | (simp [errW_none, errW_some] <;> rfl) | (simp [*, errW_none, errW_some] <;> rfl), by repeat (with_reducible first | exact HB.out | refine belS ?_)⟩
  ·rw [if_neg c5] at H
   have c5b0 : decide (t114 < (l0.length : Int)) = false := decide_eq_false c5
   clear c5
   obtain ⟨ji8, hji8⟩ : ∃ j_ : Int, (wrap64 (t114 - 1)) = j_ := ⟨_, rfl⟩
   replace H : (if 0 ≤ (ji8) then (if (ji8) < (t113.length : Int) then (some (rdOf false t113 (ji8), ji8, 0)) else (none)) else (none)) = some (r1, r2, r3) := by first | (rw [hji8] at H; exact H) | (simp only [hji8] at H ⊢; exact H)
   (try rw [hji8] at A2)
   (try rw [hji8] at A4)
   have hji8w : (IntKind.i64.wrap (t114 - 1)) = ji8 := (i64_w _).trans hji8
   by_cases c9 : 0 ≤ (ji8)
   ·rw [if_pos c9] at H
    have c9b0 : decide (0 ≤ (ji8)) = true := decide_eq_true c9
    clear c9
    by_cases c10 : (ji8) < (t113.length : Int)
    ·rw [if_pos c10] at H
     have c10b0 : decide ((ji8) < (t113.length : Int)) = true := decide_eq_true c10
     clear c10
     simp only [Option.some.injEq, Prod.mk.injEq] at H
     obtain ⟨rfl, rfl, rfl⟩ := H
     go_enter Try.func74, Try.ntmps74
     go_wp2_with (first | ((with_reducible refine gate_callee (f := 83) rfl ?_); refine goesL_ (some 9) rfl rfl Try.func83 (by kernel_rfl) rfl #[.slice A0 l0.length c0] rfl (by (try simp only [List.map_toArray, List.map_cons, List.map_nil]) <;> rfl) ?_; (with_reducible refine (nodes_Check.calls _ _ l0 t112 _ ?side1 ?side2 A2.out).mono ?_); (case side1 => repeat (first | exact HR0.out | (with_reducible refine Kd.C_alloc ?_ _) | (with_reducible refine Kd.C_drewN ?_ _) | (with_reducible refine Kd.C_drew ?_))); (case side2 => exact HC0.out); rintro e w11 ⟨rfl, hb⟩; refine ⟨_, rfl, ?_⟩; replace HB := am (below_step (by exact belL HB.out) hb); (try clear hb); (try clear hb2); (try clear hk); (try clear hi)) | ((with_reducible refine gate_callee (f := 90) rfl ?_); refine goesL_ (some 15) rfl rfl Try.func90 (by kernel_rfl) rfl #[.slice A0 l0.length c0] rfl (by (try simp only [List.map_toArray, List.map_cons, List.map_nil]) <;> rfl) ?_; (with_reducible refine (kinds_told.calls _ _ l0 t113 t114 _ ?side1 ?side2 A4.out).mono ?_); (case side1 => repeat (first | exact (Kd.C_below HR0.out HB.out) | (with_reducible refine Kd.C_alloc ?_ _) | (with_reducible refine Kd.C_drewN ?_ _) | (with_reducible refine Kd.C_drew ?_))); (case side2 => exact HC0.out); rintro e w12 ⟨v115, rfl, ho0, hb⟩; refine ⟨_, rfl, ?_⟩; have HO116 := am (Kd.R_lower ho0 (below_size (by exact belL HB.out))); replace HB := am (below_step (by exact belL HB.out) hb); (try clear hb); (try clear hb2); (try clear hk); (try clear hi); (try clear ho0); obtain ⟨Ao13, co13, eo13⟩ := Kd.R_slice HO116.out; subst eo13; have p117 : 0 ≤ ((ji8) : Int) := of_decide_eq_true (by first | (with_reducible assumption) | assumption); have q117 : (ji8) < (t113.length : Int) := of_decide_eq_true (by first | (with_reducible assumption) | assumption); obtain ⟨ad117, e117, hx117_0⟩ := Kd.at_bool (Kd.R_reads' HO116.out).2.2 (ji8) p117 q117; cases e117; replace p117 := eq_true p117; replace q117 := eq_true q117))
     go_ret3
     exact ⟨by first | rfl | (simp [errW_none, errW_some] <;> rfl) | (simp only [← hji8]; first | rfl | (simp [errW_none, errW_some] <;> rfl)) | (simp [*, errW_none, errW_some] <;> rfl), by repeat (with_reducible first | exact HB.out | refine belS ?_)⟩
    ·rw [if_neg c10] at H
     exact absurd H (by simp)
   ·rw [if_neg c9] at H
    exact absurd H (by simp)
 ·rw [if_neg c3] at H
  have c3b0 : (t112 == 0) = false := beq_eq_false_iff_ne.mpr c3
  have c3b1 : (t112 != 0) = true := bne_iff_ne.mpr c3
  simp only [Option.some.injEq, Prod.mk.injEq] at H
  obtain ⟨rfl, rfl, rfl⟩ := H
  go_enter Try.func74, Try.ntmps74
  go_wp2_with (first | ((with_reducible refine gate_callee (f := 83) rfl ?_); refine goesL_ (some 9) rfl rfl Try.func83 (by kernel_rfl) rfl #[.slice A0 l0.length c0] rfl (by (try simp only [List.map_toArray, List.map_cons, List.map_nil]) <;> rfl) ?_; (with_reducible refine (nodes_Check.calls _ _ l0 t112 _ ?side1 ?side2 A2.out).mono ?_); (case side1 => repeat (first | exact HR0.out | (with_reducible refine Kd.C_alloc ?_ _) | (with_reducible refine Kd.C_drewN ?_ _) | (with_reducible refine Kd.C_drew ?_))); (case side2 => exact HC0.out); rintro e w14 ⟨rfl, hb⟩; refine ⟨_, rfl, ?_⟩; replace HB := am (below_step (by exact belL HB.out) hb); (try clear hb); (try clear hb2); (try clear hk); (try clear hi)))
  go_ret3
  exact ⟨by first | rfl | (simp [errW_none, errW_some] <;> rfl) | (simp [*, errW_none, errW_some] <;> rfl), by repeat (with_reducible first | exact HB.out | refine belS ?_)⟩
def kinds_want.f (l0 : List (S61)) (a1 : Bool) : Option (Int × Int) := (kinds_Of.f l0).bind fun bt144 => (if bt144.2.2 = 0 then (if (bt144.1 != a1) = true then (some (bt144.2.1, 42)) else (some (bt144.2.1, bt144.2.2))) else (some (bt144.2.1, bt144.2.2)))
set_option maxHeartbeats 8000000 in
set_option maxRecDepth 100000 in
theorem kinds_want.calls (A0 : Option Addr) (c0 : Nat) (l0 : List (S61)) (a1 : Bool) (r1 : Int) (r2 : Int) (w : World) (hr0 : Kd.C k61 w A0 l0.length l0) (hc0 : l0.length ≤ c0) (h : kinds_want.f l0 a1 = some (r1, r2)) :
  Calls Try.prog 86 #[.slice A0 l0.length c0, .bool a1] w fun e w' => e = .returned (.tuple #[.int .i64 r1, .int .i64 r2]) ∧ Below w.heap.size w w' := by
 have HR0 := am hr0
 have HC0 := am hc0
 clear hr0 hc0
 have HB := am (Below.refl w.heap.size w)
 have H : ((kinds_Of.f l0).bind fun bt144 => (if bt144.2.2 = 0 then (if (bt144.1 != a1) = true then (some (bt144.2.1, 42)) else (some (bt144.2.1, bt144.2.2))) else (some (bt144.2.1, bt144.2.2)))) = some (r1, r2) := h
 clear h
 replace H := Option.bind_eq_some_iff.mp H
 obtain ⟨⟨t144, t145, t146⟩, A30, H⟩ := H
 try dsimp only at H
 have A3 := am A30
 clear A30
 by_cases c4 : t146 = 0
 ·rw [if_pos c4] at H
  have c4b0 : (t146 == 0) = true := beq_iff_eq.mpr c4
  have c4b1 : (t146 != 0) = false := bne_eq_false_iff_eq.mpr c4
  clear c4
  by_cases c5 : (t144 != a1) = true
  ·rw [if_pos c5] at H
   have c5b0 : (t144 != a1) = true := c5
   (try (have c5b1 : decide (t144 = a1) = false := by simpa using c5))
   (try (have c5b2 : (t144 == a1) = false := by simpa using c5))
   (try (have c5b3 : ¬ (t144 = a1) := by simpa using c5))
   clear c5
   simp only [Option.some.injEq, Prod.mk.injEq] at H
   obtain ⟨rfl, rfl⟩ := H
   go_enter Try.func86, Try.ntmps86
   go_wp2_with (first | ((with_reducible refine gate_callee (f := 74) rfl ?_); refine goesL_ (some 11) rfl rfl Try.func74 (by kernel_rfl) rfl #[.slice A0 l0.length c0] rfl (by (try simp only [List.map_toArray, List.map_cons, List.map_nil]) <;> rfl) ?_; (with_reducible refine (kinds_Of.calls _ _ l0 t144 t145 t146 _ ?side1 ?side2 A3.out).mono ?_); (case side1 => repeat (first | exact HR0.out | (with_reducible refine Kd.C_alloc ?_ _) | (with_reducible refine Kd.C_drewN ?_ _) | (with_reducible refine Kd.C_drew ?_))); (case side2 => exact HC0.out); rintro e w6 ⟨rfl, hb⟩; refine ⟨_, rfl, ?_⟩; replace HB := am (below_step (by repeat (first | (with_reducible first | exact HB.out | apply below_alloc | apply pw_below_drewN | apply below_drew1) | exact HB.out)) hb); (try clear hb); (try clear hb2); (try clear hk); (try clear hi)))
   go_ret2
   exact ⟨by first | rfl | (simp [errW_none, errW_some] <;> rfl) | (simp [*, errW_none, errW_some] <;> rfl), by repeat (first | (with_reducible first | exact HB.out | apply below_alloc | apply pw_below_drewN | apply below_drew1) | exact HB.out)⟩
  ·rw [if_neg c5] at H
   have c5b0 : (t144 != a1) = false := by simpa using c5
   (try (have c5b1 : decide (t144 = a1) = true := by simpa using c5))
   (try (have c5b2 : (t144 == a1) = true := by simpa using c5))
   clear c5
   simp only [Option.some.injEq, Prod.mk.injEq] at H
   obtain ⟨rfl, rfl⟩ := H
   go_enter Try.func86, Try.ntmps86
   go_wp2_with (first | ((with_reducible refine gate_callee (f := 74) rfl ?_); refine goesL_ (some 11) rfl rfl Try.func74 (by kernel_rfl) rfl #[.slice A0 l0.length c0] rfl (by (try simp only [List.map_toArray, List.map_cons, List.map_nil]) <;> rfl) ?_; (with_reducible refine (kinds_Of.calls _ _ l0 t144 t145 t146 _ ?side1 ?side2 A3.out).mono ?_); (case side1 => repeat (first | exact HR0.out | (with_reducible refine Kd.C_alloc ?_ _) | (with_reducible refine Kd.C_drewN ?_ _) | (with_reducible refine Kd.C_drew ?_))); (case side2 => exact HC0.out); rintro e w7 ⟨rfl, hb⟩; refine ⟨_, rfl, ?_⟩; replace HB := am (below_step (by repeat (first | (with_reducible first | exact HB.out | apply below_alloc | apply pw_below_drewN | apply below_drew1) | exact HB.out)) hb); (try clear hb); (try clear hb2); (try clear hk); (try clear hi)))
   go_ret2
   exact ⟨by first | rfl | (simp [errW_none, errW_some] <;> rfl) | (simp [*, errW_none, errW_some] <;> rfl), by repeat (first | (with_reducible first | exact HB.out | apply below_alloc | apply pw_below_drewN | apply below_drew1) | exact HB.out)⟩
 ·rw [if_neg c4] at H
  have c4b0 : (t146 == 0) = false := beq_eq_false_iff_ne.mpr c4
  have c4b1 : (t146 != 0) = true := bne_iff_ne.mpr c4
  simp only [Option.some.injEq, Prod.mk.injEq] at H
  obtain ⟨rfl, rfl⟩ := H
  go_enter Try.func86, Try.ntmps86
  go_wp2_with (first | ((with_reducible refine gate_callee (f := 74) rfl ?_); refine goesL_ (some 11) rfl rfl Try.func74 (by kernel_rfl) rfl #[.slice A0 l0.length c0] rfl (by (try simp only [List.map_toArray, List.map_cons, List.map_nil]) <;> rfl) ?_; (with_reducible refine (kinds_Of.calls _ _ l0 t144 t145 t146 _ ?side1 ?side2 A3.out).mono ?_); (case side1 => repeat (first | exact HR0.out | (with_reducible refine Kd.C_alloc ?_ _) | (with_reducible refine Kd.C_drewN ?_ _) | (with_reducible refine Kd.C_drew ?_))); (case side2 => exact HC0.out); rintro e w8 ⟨rfl, hb⟩; refine ⟨_, rfl, ?_⟩; replace HB := am (below_step (by repeat (first | (with_reducible first | exact HB.out | apply below_alloc | apply pw_below_drewN | apply below_drew1) | exact HB.out)) hb); (try clear hb); (try clear hb2); (try clear hk); (try clear hi)))
  go_ret2
  exact ⟨by first | rfl | (simp [errW_none, errW_some] <;> rfl) | (simp [*, errW_none, errW_some] <;> rfl), by repeat (first | (with_reducible first | exact HB.out | apply below_alloc | apply pw_below_drewN | apply below_drew1) | exact HB.out)⟩
def kinds_Number.f (l0 : List (S61)) : Option (Int × Int) := (kinds_want.f l0 false).bind fun bt147 => (some (bt147.1, bt147.2))
set_option maxHeartbeats 8000000 in
set_option maxRecDepth 100000 in
theorem kinds_Number.calls (A0 : Option Addr) (c0 : Nat) (l0 : List (S61)) (r1 : Int) (r2 : Int) (w : World) (hr0 : Kd.C k61 w A0 l0.length l0) (hc0 : l0.length ≤ c0) (h : kinds_Number.f l0 = some (r1, r2)) :
  Calls Try.prog 61 #[.slice A0 l0.length c0] w fun e w' => e = .returned (.tuple #[.int .i64 r1, .int .i64 r2]) ∧ Below w.heap.size w w' := by
 have HR0 := am hr0
 have HC0 := am hc0
 clear hr0 hc0
 have HB := am (Below.refl w.heap.size w)
 have H : ((kinds_want.f l0 false).bind fun bt147 => (some (bt147.1, bt147.2))) = some (r1, r2) := h
 clear h
 replace H := Option.bind_eq_some_iff.mp H
 obtain ⟨⟨t147, t148⟩, A20, H⟩ := H
 try dsimp only at H
 have A2 := am A20
 clear A20
 simp only [Option.some.injEq, Prod.mk.injEq] at H
 obtain ⟨rfl, rfl⟩ := H
 go_enter Try.func61, Try.ntmps61
 go_wp2_with (first | ((with_reducible refine gate_callee (f := 86) rfl ?_); refine goesL_ (some 5) rfl rfl Try.func86 (by kernel_rfl) rfl #[.slice A0 l0.length c0, .bool false] rfl (by (try simp only [List.map_toArray, List.map_cons, List.map_nil]) <;> rfl) ?_; (with_reducible refine (kinds_want.calls _ _ l0 false t147 t148 _ ?side1 ?side2 A2.out).mono ?_); (case side1 => repeat (first | exact HR0.out | (with_reducible refine Kd.C_alloc ?_ _) | (with_reducible refine Kd.C_drewN ?_ _) | (with_reducible refine Kd.C_drew ?_))); (case side2 => exact HC0.out); rintro e w3 ⟨rfl, hb⟩; refine ⟨_, rfl, ?_⟩; replace HB := am (below_step (by repeat (first | (with_reducible first | exact HB.out | apply below_alloc | apply pw_below_drewN | apply below_drew1) | exact HB.out)) hb); (try clear hb); (try clear hb2); (try clear hk); (try clear hi)))
 go_ret2
 exact ⟨by first | rfl | (simp [errW_none, errW_some] <;> rfl) | (simp [*, errW_none, errW_some] <;> rfl), by repeat (first | (with_reducible first | exact HB.out | apply below_alloc | apply pw_below_drewN | apply below_drew1) | exact HB.out)⟩
def kinds_Truth.f (l0 : List (S61)) : Option (Int × Int) := (kinds_want.f l0 true).bind fun bt149 => (some (bt149.1, bt149.2))
set_option maxHeartbeats 8000000 in
set_option maxRecDepth 100000 in
theorem kinds_Truth.calls (A0 : Option Addr) (c0 : Nat) (l0 : List (S61)) (r1 : Int) (r2 : Int) (w : World) (hr0 : Kd.C k61 w A0 l0.length l0) (hc0 : l0.length ≤ c0) (h : kinds_Truth.f l0 = some (r1, r2)) :
  Calls Try.prog 62 #[.slice A0 l0.length c0] w fun e w' => e = .returned (.tuple #[.int .i64 r1, .int .i64 r2]) ∧ Below w.heap.size w w' := by
 have HR0 := am hr0
 have HC0 := am hc0
 clear hr0 hc0
 have HB := am (Below.refl w.heap.size w)
 have H : ((kinds_want.f l0 true).bind fun bt149 => (some (bt149.1, bt149.2))) = some (r1, r2) := h
 clear h
 replace H := Option.bind_eq_some_iff.mp H
 obtain ⟨⟨t149, t150⟩, A20, H⟩ := H
 try dsimp only at H
 have A2 := am A20
 clear A20
 simp only [Option.some.injEq, Prod.mk.injEq] at H
 obtain ⟨rfl, rfl⟩ := H
 go_enter Try.func62, Try.ntmps62
 go_wp2_with (first | ((with_reducible refine gate_callee (f := 86) rfl ?_); refine goesL_ (some 5) rfl rfl Try.func86 (by kernel_rfl) rfl #[.slice A0 l0.length c0, .bool true] rfl (by (try simp only [List.map_toArray, List.map_cons, List.map_nil]) <;> rfl) ?_; (with_reducible refine (kinds_want.calls _ _ l0 true t149 t150 _ ?side1 ?side2 A2.out).mono ?_); (case side1 => repeat (first | exact HR0.out | (with_reducible refine Kd.C_alloc ?_ _) | (with_reducible refine Kd.C_drewN ?_ _) | (with_reducible refine Kd.C_drew ?_))); (case side2 => exact HC0.out); rintro e w3 ⟨rfl, hb⟩; refine ⟨_, rfl, ?_⟩; replace HB := am (below_step (by repeat (first | (with_reducible first | exact HB.out | apply below_alloc | apply pw_below_drewN | apply below_drew1) | exact HB.out)) hb); (try clear hb); (try clear hb2); (try clear hk); (try clear hi)))
 go_ret2
 exact ⟨by first | rfl | (simp [errW_none, errW_some] <;> rfl) | (simp [*, errW_none, errW_some] <;> rfl), by repeat (first | (with_reducible first | exact HB.out | apply below_alloc | apply pw_below_drewN | apply below_drew1) | exact HB.out)⟩

end Go.Proofs.Ytcdgohoinmbpfaa.M
namespace Go.Proofs.Ytcdgohoinmbpfaa.M
open Go.RowKit Go.Proofs.YtcdgohoinmbpfaaW.PrintWords Go.Proofs.YtcdgohoinmbpfaaW.PrintLast Go.Proofs.YtcdgohoinmbpfaaW.PrintMore
set_option linter.unusedVariables false
set_option linter.unusedSimpArgs false

def wishGo (ask : List S61 → Option (Int × Int)) (l : List S61) (rest : Option (Int × Int)) : Option (Int × Int) :=
  if l.length = 0 then rest else (ask l).bind fun r => if r.2 = 0 then rest else if 0 ≤ r.1 ∧ r.1 < (l.length : Int) then some ((rd_T61 l r.1).f4, r.2) else none
def first2 (l2 : List S61) : Option (Int × Int) := wishGo kinds_Truth.f l2 (some (0, 0))
def first1 (l1 l2 : List S61) : Option (Int × Int) := wishGo kinds_Number.f l1 (first2 l2)
theorem run_store_func (P : Program) (w : World) (a : Addr) (m : Mode) (f : Fn) (u v : Array Value) : (store a (.func f u v) m).run P w = stored P w a (.func f u v) m := run_store P w a _ m rfl
attribute [local go_sem] run_store_func

set_option maxHeartbeats 8000000 in
set_option maxRecDepth 100000 in
theorem checks_first.calls (A1 : Option Addr) (c1 : Nat) (l1 : List S61) (A2 : Option Addr) (c2 : Nat) (l2 : List S61) (g : Nat) (r1 r2 : Int) (w : World) (hr1 : Kd.C k61 w A1 l1.length l1) (hc1 : l1.length ≤ c1) (hr2 : Kd.C k61 w A2 l2.length l2) (hc2 : l2.length ≤ c2)
    (h0 : w.cell? ⟨g, 0, none⟩ = some (.slice A1 l1.length c1)) (h1 : w.cell? ⟨g, 1, none⟩ = some (.func (.func 61) #[] #[])) (h2 : w.cell? ⟨g, 2, none⟩ = some (.slice A2 l2.length c2)) (h3 : w.cell? ⟨g, 3, none⟩ = some (.func (.func 62) #[] #[]))
    (h : first1 l1 l2 = some (r1, r2)) :
    Calls Try.prog 60 #[.slice (some ⟨g, 0, none⟩) 2 2] w fun e w' => e = .returned (.tuple #[.int .i64 r1, .int .i64 r2]) ∧ Below w.heap.size w w' := by
  have HR1 := am hr1
  have HC1 := am hc1
  have HR2 := am hr2
  have HC2 := am hc2
  have H := am h
  have HX0 := am h0
  have HX1 := am h1
  have HX2 := am h2
  have HX3 := am h3
  clear hr1 hc1 hr2 hc2 h h0 h1 h2 h3
  have hm1 : l1.length ≤ 9223372036854775807 := HR1.out.2.1
  have hm2 : l2.length ≤ 9223372036854775807 := HR2.out.2.1
  go_enter Try.func60, Try.ntmps60
  go_wp2
  go_loopg [10] 3 (fun kq v10 W => ∃ j : Nat, v10 = .int .i64 j ∧ Aside0 (kq + j = 3 ∧ ((j = 0 ∧ first1 l1 l2 = some (r1, r2)) ∨ (j = 1 ∧ first2 l2 = some (r1, r2)) ∨ (j = 2 ∧ (0, 0) = (r1, r2)))) ∧ Aside0 (Below w.heap.size w W))
  case atStart => exact ⟨0, rfl, ⟨rfl, .inl ⟨rfl, H.out⟩⟩, ⟨Below.refl _ _⟩⟩
  case round =>
    clear H
    obtain ⟨wo, rfl⟩ : ∃ wo : World, wo = wr := ⟨_, rfl⟩
    obtain ⟨j, rfl, HA, HB⟩ := hrel
    have HK : Aside0 (gk + j = 3) := ⟨HA.out.1⟩
    rcases HA.out.2 with ⟨rfl, hn⟩ | ⟨rfl, hn⟩ | ⟨rfl, hn⟩
    · clear HA
      have hs := (HB.out.cell (World.block_lt_of_cell? w _ HX0.out)).trans HX0.out
      have hf := (HB.out.cell (World.block_lt_of_cell? w _ HX1.out)).trans HX1.out
      unfold first1 wishGo at hn
      by_cases hz : l1.length = 0
      · rw [if_pos hz] at hn
        have HN := am hn
        have b1 : ((l1.length : Int) == 0) = true := beq_iff_eq.mpr (by omega)
        have b1' : (l1.length == 0) = true := beq_iff_eq.mpr hz
        clear hn
        go_wp2
        go_roundg (gk - 1)
        case measure => have := HK.out; omega
        case rel => exact ⟨1, rfl, ⟨by have := HK.out; omega, .inr (.inl ⟨rfl, HN.out⟩)⟩, ⟨by repeat (first | exact HB.out | apply below_alloc | apply pw_below_drewN | apply below_drew1)⟩⟩
      · rw [if_neg hz] at hn
        have b1 : ((l1.length : Int) == 0) = false := beq_eq_false_iff_ne.mpr (by omega)
        have b1' : (l1.length == 0) = false := beq_eq_false_iff_ne.mpr hz
        obtain ⟨⟨at_, e⟩, hask, hn2⟩ := Option.bind_eq_some_iff.mp hn
        have HASK := am hask
        clear hn hask
        by_cases he : e = 0
        · subst he
          rw [if_pos rfl] at hn2
          have HN := am hn2
          have b2 : ((0 : Int) != 0) = false := rfl
          clear hn2
          go_wp2_with (first | (go_at_call 61; (with_reducible refine (kinds_Number.calls A1 c1 l1 at_ 0 _ (by refine Kd.C_below HR1.out ?_; repeat (first | exact HB.out | apply below_alloc | apply pw_below_drewN | apply below_drew1)) HC1.out HASK.out).mono ?_); rintro e w1 ⟨rfl, hb⟩; have HB1 := am (below_then (h := (show Below w.heap.size w _ by repeat (first | exact HB.out | apply below_alloc | apply pw_below_drewN | apply below_drew1))) (hB := (show Below w.heap.size w _ by repeat (first | exact HB.out | apply below_alloc | apply pw_below_drewN | apply below_drew1)).size) (k := hb)); clear hb))
          go_roundg (gk - 1)
          case measure => have := HK.out; omega
          case rel => exact ⟨1, rfl, ⟨by have := HK.out; omega, .inr (.inl ⟨rfl, HN.out⟩)⟩, ⟨HB1.out⟩⟩
        · rw [if_neg he] at hn2
          by_cases ha : 0 ≤ at_ ∧ at_ < (l1.length : Int)
          · rw [if_pos ha] at hn2
            obtain ⟨rfl, rfl⟩ := Prod.mk.inj (Option.some.inj hn2)
            have b2 := bne_iff_ne.mpr he
            obtain ⟨ad, e0, hx0, hx1, hx2, hx3, hx4⟩ := at_T61 HR1.out at_ ha.1 ha.2
            cases e0
            have a0 := ha.1
            have a1 := ha.2
            clear hn2 he ha hx0 hx1 hx2 hx3
            go_wp2_with (first | (go_at_call 61; (with_reducible refine (kinds_Number.calls (some ad) c1 l1 at_ e _ (by refine Kd.C_below HR1.out ?_; repeat (first | exact HB.out | apply below_alloc | apply pw_below_drewN | apply below_drew1)) HC1.out HASK.out).mono ?_); rintro e_ w1 ⟨rfl, hb⟩; have hb1 := (below_then (h := (show Below w.heap.size w _ by repeat (first | exact HB.out | apply below_alloc | apply pw_below_drewN | apply below_drew1))) (hB := (show Below w.heap.size w _ by repeat (first | exact HB.out | apply below_alloc | apply pw_below_drewN | apply below_drew1)).size) (k := hb)); have hy4 := (hb1.cell (World.block_lt_of_cell? w _ hx4)).trans hx4; have hbx := blk_below (blk_new _ _) hb; have hy0 := (blk_cell hbx 0).trans rfl; have HB1 := am hb1; clear hb hb1 hbx))
            go_ret2
            exact ⟨rfl, HB1.out⟩
          · rw [if_neg ha] at hn2; cases hn2
    · clear HA
      have hs := (HB.out.cell (World.block_lt_of_cell? w _ HX2.out)).trans HX2.out
      have hf := (HB.out.cell (World.block_lt_of_cell? w _ HX3.out)).trans HX3.out
      unfold first2 wishGo at hn
      by_cases hz : l2.length = 0
      · rw [if_pos hz] at hn
        have HN := am hn
        have b1 : ((l2.length : Int) == 0) = true := beq_iff_eq.mpr (by omega)
        have b1' : (l2.length == 0) = true := beq_iff_eq.mpr hz
        clear hn
        go_wp2
        go_roundg (gk - 1)
        case measure => have := HK.out; omega
        case rel => exact ⟨2, rfl, ⟨by have := HK.out; omega, .inr (.inr ⟨rfl, Option.some.inj HN.out⟩)⟩, ⟨by repeat (first | exact HB.out | apply below_alloc | apply pw_below_drewN | apply below_drew1)⟩⟩
      · rw [if_neg hz] at hn
        have b1 : ((l2.length : Int) == 0) = false := beq_eq_false_iff_ne.mpr (by omega)
        have b1' : (l2.length == 0) = false := beq_eq_false_iff_ne.mpr hz
        obtain ⟨⟨at_, e⟩, hask, hn2⟩ := Option.bind_eq_some_iff.mp hn
        have HASK := am hask
        clear hn hask
        by_cases he : e = 0
        · subst he
          rw [if_pos rfl] at hn2
          have HN := am hn2
          have b2 : ((0 : Int) != 0) = false := rfl
          clear hn2
          go_wp2_with (first | (go_at_call 62; (with_reducible refine (kinds_Truth.calls A2 c2 l2 at_ 0 _ (by refine Kd.C_below HR2.out ?_; repeat (first | exact HB.out | apply below_alloc | apply pw_below_drewN | apply below_drew1)) HC2.out HASK.out).mono ?_); rintro e w1 ⟨rfl, hb⟩; have HB1 := am (below_then (h := (show Below w.heap.size w _ by repeat (first | exact HB.out | apply below_alloc | apply pw_below_drewN | apply below_drew1))) (hB := (show Below w.heap.size w _ by repeat (first | exact HB.out | apply below_alloc | apply pw_below_drewN | apply below_drew1)).size) (k := hb)); clear hb))
          go_roundg (gk - 1)
          case measure => have := HK.out; omega
          case rel => exact ⟨2, rfl, ⟨by have := HK.out; omega, .inr (.inr ⟨rfl, Option.some.inj HN.out⟩)⟩, ⟨HB1.out⟩⟩
        · rw [if_neg he] at hn2
          by_cases ha : 0 ≤ at_ ∧ at_ < (l2.length : Int)
          · rw [if_pos ha] at hn2
            obtain ⟨rfl, rfl⟩ := Prod.mk.inj (Option.some.inj hn2)
            have b2 := bne_iff_ne.mpr he
            obtain ⟨ad, e0, hx0, hx1, hx2, hx3, hx4⟩ := at_T61 HR2.out at_ ha.1 ha.2
            cases e0
            have a0 := ha.1
            have a1 := ha.2
            clear hn2 he ha hx0 hx1 hx2 hx3
            go_wp2_with (first | (go_at_call 62; (with_reducible refine (kinds_Truth.calls (some ad) c2 l2 at_ e _ (by refine Kd.C_below HR2.out ?_; repeat (first | exact HB.out | apply below_alloc | apply pw_below_drewN | apply below_drew1)) HC2.out HASK.out).mono ?_); rintro e_ w1 ⟨rfl, hb⟩; have hb1 := (below_then (h := (show Below w.heap.size w _ by repeat (first | exact HB.out | apply below_alloc | apply pw_below_drewN | apply below_drew1))) (hB := (show Below w.heap.size w _ by repeat (first | exact HB.out | apply below_alloc | apply pw_below_drewN | apply below_drew1)).size) (k := hb)); have hy4 := (hb1.cell (World.block_lt_of_cell? w _ hx4)).trans hx4; have hbx := blk_below (blk_new _ _) hb; have hy0 := (blk_cell hbx 0).trans rfl; have HB1 := am hb1; clear hb hb1 hbx))
            go_ret2
            exact ⟨rfl, HB1.out⟩
          · rw [if_neg ha] at hn2; cases hn2
    · clear HA
      obtain ⟨rfl, rfl⟩ := Prod.mk.inj hn
      clear hn
      go_wp2
      go_ret2
      exact ⟨rfl, HB.out⟩

end Go.Proofs.Ytcdgohoinmbpfaa.M
