import Derived.Test.YtcdgohoinmbpfaaKFilterTwice6
import Derived.Test.YtcdgohoinmbpfaaKFilterTwice13
namespace Go.Proofs.Ytcdgohoinmbpfaa.M
open Go.RowKit Go.Proofs.YtcdgohoinmbpfaaW.PrintWords Go.Proofs.YtcdgohoinmbpfaaW.PrintLast Go.Proofs.YtcdgohoinmbpfaaW.PrintMore
attribute [local go_sem] max2_int min2_int max_two min_two
set_option linter.unusedVariables false
set_option linter.unusedSimpArgs false

def tailwaterref06_Gives.f (a0 : Int) : Option (Bool) := if a0 = 6 then (some true) else (some (decide (a0 ≥ 12)))
set_option maxHeartbeats 8000000 in
set_option maxRecDepth 100000 in
theorem tailwaterref06_Gives.calls (a0 : Int) (r : Bool) (w : World) (h : tailwaterref06_Gives.f a0 = some r) :
  Calls Try.prog 56 #[.int .u8 a0] w fun e w' => e = .returned (.bool r) ∧ Drawn0 w w' := by
 have H : (if a0 = 6 then (some true) else (some (decide (a0 ≥ 12)))) = some r := h
 clear h
 by_cases c2 : a0 = 6
 ·rw [if_pos c2] at H
  have c2b0 : (a0 == 6) = true := beq_iff_eq.mpr c2
  have c2b1 : (a0 != 6) = false := bne_eq_false_iff_eq.mpr c2
  clear c2
  obtain rfl := Option.some.inj H
  go_enter Try.func56, Try.ntmps56
  go_wp2
  go_ret
  exact ⟨by first | rfl | (simp; done) | (simp [*]; done), by repeat (first | exact Drawn0.refl _ | apply Drawn0.step)⟩
 ·rw [if_neg c2] at H
  have c2b0 : (a0 == 6) = false := beq_eq_false_iff_ne.mpr c2
  have c2b1 : (a0 != 6) = true := bne_iff_ne.mpr c2
  obtain rfl := Option.some.inj H
  go_enter Try.func56, Try.ntmps56
  go_wp2
  go_ret
  exact ⟨by first | rfl | (simp; done) | (simp [*]; done), by repeat (first | exact Drawn0.refl _ | apply Drawn0.step)⟩

end Go.Proofs.Ytcdgohoinmbpfaa.M
namespace Go.Proofs.Ytcdgohoinmbpfaa.M
open Go.RowKit Go.Proofs.YtcdgohoinmbpfaaW.PrintWords Go.Proofs.YtcdgohoinmbpfaaW.PrintLast Go.Proofs.YtcdgohoinmbpfaaW.PrintMore
set_option linter.unusedVariables false
set_option linter.unusedSimpArgs false

theorem Gives_eq (k : Int) : tailwaterref06_Gives.f k = some (kgive k) := by
  unfold tailwaterref06_Gives.f kgive
  by_cases h : k = 6 <;> simp [h]
theorem Gives_told (k : Int) (g : Bool) (w : World) (h : kgive k = g) : Calls Try.prog 56 #[.int .u8 k] w fun e w' => e = .returned (.bool g) ∧ Drawn0 w w' :=
  tailwaterref06_Gives.calls k g w (by rw [Gives_eq, h])
def tailwaterref06_fits.f (l0 : List (S61)) (a1 : Int) : Option (Bool) :=
  if 0 ≤ a1 ∧ a1 < l0.length then
    if 0 ≤ (rd_T61 l0 a1).f2 ∧ (rd_T61 l0 a1).f2 < l0.length ∧ 0 ≤ (rd_T61 l0 a1).f3 ∧ (rd_T61 l0 a1).f3 < l0.length then
      some (decide ((rd_T61 l0 a1).f0 ≤ 4) || kfit (rd_T61 l0 a1).f0 (kgive (rd_T61 l0 (rd_T61 l0 a1).f2).f0) (kgive (rd_T61 l0 (rd_T61 l0 a1).f3).f0))
    else none
  else none

set_option maxHeartbeats 4000000 in
set_option maxRecDepth 100000 in
theorem tailwaterref06_fits.calls (A0 : Option Addr) (c0 : Nat) (l0 : List (S61)) (a1 : Int) (r : Bool) (w : World) (hr0 : Kd.C k61 w A0 l0.length l0) (hc0 : l0.length ≤ c0) (h : tailwaterref06_fits.f l0 a1 = some r) :
    Calls Try.prog 77 #[.slice A0 l0.length c0, .int .i64 a1] w fun e w' => e = .returned (.bool r) ∧ Below w.heap.size w w' := by
  unfold tailwaterref06_fits.f at h
  by_cases h1 : 0 ≤ a1 ∧ a1 < l0.length
  · rw [if_pos h1] at h
    obtain ⟨h1a, h1b⟩ := h1
    obtain ⟨j, rfl⟩ := Int.eq_ofNat_of_zero_le h1a
    obtain ⟨ad, e0, hx0, hx1, hx2, hx3, hx4⟩ := at_T61 hr0 j (by omega) (by omega)
    cases e0
    rw [Int.toNat_natCast] at hx0 hx1 hx2 hx3 hx4
    obtain ⟨x, hx⟩ : ∃ x : S61, x = rd_T61 l0 j := ⟨_, rfl⟩
    rw [← hx] at hx0 hx1 hx2 hx3 hx4 h
    clear hx
    obtain ⟨y0, y1, y2, y3, y4⟩ := x
    dsimp only at hx0 hx1 hx2 hx3 hx4 h
    by_cases h2 : 0 ≤ y2 ∧ y2 < l0.length ∧ 0 ≤ y3 ∧ y3 < l0.length
    · rw [if_pos h2] at h
      obtain ⟨h2a, h2b, h3a, h3b⟩ := h2
      obtain ⟨p, rfl⟩ := Int.eq_ofNat_of_zero_le h2a
      obtain ⟨q, rfl⟩ := Int.eq_ofNat_of_zero_le h3a
      obtain ⟨ad1, e1, hp0, _, _, _, _⟩ := at_T61 hr0 p (by omega) (by omega)
      obtain rfl : ad = ad1 := by injection e1
      obtain ⟨ad2, e2, hq0, _, _, _, _⟩ := at_T61 hr0 q (by omega) (by omega)
      obtain rfl : ad = ad2 := by injection e2
      rw [Int.toNat_natCast] at hp0 hq0
      obtain ⟨kp, hkp⟩ : ∃ k, k = (rd_T61 l0 p).f0 := ⟨_, rfl⟩
      obtain ⟨kq, hkq⟩ : ∃ k, k = (rd_T61 l0 q).f0 := ⟨_, rfl⟩
      rw [← hkp] at hp0 h
      rw [← hkq] at hq0 h
      clear hkp hkq
      have hp : p < l0.length := by omega
      have hq : q < l0.length := by omega
      have hj : j < l0.length := by omega
      have hp1 := pw_cell_below (below_alloc (Below.refl w.heap.size w) (.cells #[.int .u8 y0, .int .i64 y1, .int .i64 p, .int .i64 q, .int .i64 y4] 61)) hp0
      have hq1 := pw_cell_below (below_alloc (Below.refl w.heap.size w) (.cells #[.int .u8 y0, .int .i64 y1, .int .i64 p, .int .i64 q, .int .i64 y4] 61)) hq0
      obtain ⟨g1, hg1⟩ : ∃ g, kgive kp = g := ⟨_, rfl⟩
      obtain ⟨g2, hg2⟩ : ∃ g, kgive kq = g := ⟨_, rfl⟩
      rw [hg1, hg2] at h
      have HG1 := am hg1
      have HG2 := am hg2
      have H := am h
      clear hg1 hg2 h h1a h1b h2a h2b h3a h3b e1 e2 hr0 hc0 hp0 hq0
      by_cases h4 : y0 ≤ 4
      · have c4 : decide (y0 ≤ 4) = true := decide_eq_true h4
        obtain rfl : r = true := by rw [← Option.some.inj H.out]; rw [c4]; rfl
        clear H
        go_enter Try.func77, Try.ntmps77
        go_wp2
        go_quiet (first | (go_at_call 56; (with_reducible refine (Gives_told kp _ _ HG1.out).mono ?_); rintro e w' ⟨rfl, ⟨nd, rfl⟩⟩; (try first | exact ⟨rfl, _, World.drewN_drewN _ _ _⟩ | exact ⟨rfl, _, Eq.trans (World.drewN_drewN _ _ _) (congrArg (World.drewN _) (Nat.add_assoc _ _ _))⟩)) | (go_at_call 56; (with_reducible refine (Gives_told kq _ _ HG2.out).mono ?_); rintro e w' ⟨rfl, ⟨nd, rfl⟩⟩; (try first | exact ⟨rfl, _, World.drewN_drewN _ _ _⟩ | exact ⟨rfl, _, Eq.trans (World.drewN_drewN _ _ _) (congrArg (World.drewN _) (Nat.add_assoc _ _ _))⟩)))
        cases g1 <;> cases g2
        all_goals
          go_wp2
          go_ret
          exact ⟨rfl, pw_below_drewN (below_alloc (Below.refl _ _) _) _⟩
      · by_cases h5 : y0 = 5
        · subst h5
          obtain rfl : r = !g1 := by rw [← Option.some.inj H.out]; simp [kfit]
          clear H
          go_enter Try.func77, Try.ntmps77
          go_wp2
          go_quiet (first | (go_at_call 56; (with_reducible refine (Gives_told kp _ _ HG1.out).mono ?_); rintro e w' ⟨rfl, ⟨nd, rfl⟩⟩; (try first | exact ⟨rfl, _, World.drewN_drewN _ _ _⟩ | exact ⟨rfl, _, Eq.trans (World.drewN_drewN _ _ _) (congrArg (World.drewN _) (Nat.add_assoc _ _ _))⟩)) | (go_at_call 56; (with_reducible refine (Gives_told kq _ _ HG2.out).mono ?_); rintro e w' ⟨rfl, ⟨nd, rfl⟩⟩; (try first | exact ⟨rfl, _, World.drewN_drewN _ _ _⟩ | exact ⟨rfl, _, Eq.trans (World.drewN_drewN _ _ _) (congrArg (World.drewN _) (Nat.add_assoc _ _ _))⟩)))
          cases g1 <;> cases g2
          all_goals
            go_wp2
            go_ret
            exact ⟨rfl, pw_below_drewN (below_alloc (Below.refl _ _) _) _⟩
        · by_cases h6 : y0 = 6
          · subst h6
            obtain rfl : r = (g1 || false) := by rw [← Option.some.inj H.out]; simp [kfit]
            clear H
            go_enter Try.func77, Try.ntmps77
            go_wp2
            go_quiet (first | (go_at_call 56; (with_reducible refine (Gives_told kp _ _ HG1.out).mono ?_); rintro e w' ⟨rfl, ⟨nd, rfl⟩⟩; (try first | exact ⟨rfl, _, World.drewN_drewN _ _ _⟩ | exact ⟨rfl, _, Eq.trans (World.drewN_drewN _ _ _) (congrArg (World.drewN _) (Nat.add_assoc _ _ _))⟩)) | (go_at_call 56; (with_reducible refine (Gives_told kq _ _ HG2.out).mono ?_); rintro e w' ⟨rfl, ⟨nd, rfl⟩⟩; (try first | exact ⟨rfl, _, World.drewN_drewN _ _ _⟩ | exact ⟨rfl, _, Eq.trans (World.drewN_drewN _ _ _) (congrArg (World.drewN _) (Nat.add_assoc _ _ _))⟩)))
            cases g1 <;> cases g2
            all_goals
              go_wp2
              go_ret
              exact ⟨rfl, pw_below_drewN (below_alloc (Below.refl _ _) _) _⟩
          · by_cases h16 : y0 = 16
            · subst h16
              obtain rfl : r = (g1 == g2) := by rw [← Option.some.inj H.out]; simp [kfit]
              clear H
              go_enter Try.func77, Try.ntmps77
              go_wp2
              go_quiet (first | (go_at_call 56; (with_reducible refine (Gives_told kp _ _ HG1.out).mono ?_); rintro e w' ⟨rfl, ⟨nd, rfl⟩⟩; (try first | exact ⟨rfl, _, World.drewN_drewN _ _ _⟩ | exact ⟨rfl, _, Eq.trans (World.drewN_drewN _ _ _) (congrArg (World.drewN _) (Nat.add_assoc _ _ _))⟩)) | (go_at_call 56; (with_reducible refine (Gives_told kq _ _ HG2.out).mono ?_); rintro e w' ⟨rfl, ⟨nd, rfl⟩⟩; (try first | exact ⟨rfl, _, World.drewN_drewN _ _ _⟩ | exact ⟨rfl, _, Eq.trans (World.drewN_drewN _ _ _) (congrArg (World.drewN _) (Nat.add_assoc _ _ _))⟩)))
              cases g1 <;> cases g2
              all_goals
                go_wp2
                go_ret
                exact ⟨rfl, pw_below_drewN (below_alloc (Below.refl _ _) _) _⟩
            · by_cases h17 : y0 = 17
              · subst h17
                obtain rfl : r = (g1 == g2) := by rw [← Option.some.inj H.out]; simp [kfit]
                clear H
                go_enter Try.func77, Try.ntmps77
                go_wp2
                go_quiet (first | (go_at_call 56; (with_reducible refine (Gives_told kp _ _ HG1.out).mono ?_); rintro e w' ⟨rfl, ⟨nd, rfl⟩⟩; (try first | exact ⟨rfl, _, World.drewN_drewN _ _ _⟩ | exact ⟨rfl, _, Eq.trans (World.drewN_drewN _ _ _) (congrArg (World.drewN _) (Nat.add_assoc _ _ _))⟩)) | (go_at_call 56; (with_reducible refine (Gives_told kq _ _ HG2.out).mono ?_); rintro e w' ⟨rfl, ⟨nd, rfl⟩⟩; (try first | exact ⟨rfl, _, World.drewN_drewN _ _ _⟩ | exact ⟨rfl, _, Eq.trans (World.drewN_drewN _ _ _) (congrArg (World.drewN _) (Nat.add_assoc _ _ _))⟩)))
                cases g1 <;> cases g2
                all_goals
                  go_wp2
                  go_ret
                  exact ⟨rfl, pw_below_drewN (below_alloc (Below.refl _ _) _) _⟩
              · by_cases h18 : 18 ≤ y0
                · have c18 : decide (18 ≤ y0) = true := decide_eq_true h18
                  have c4 : decide (y0 ≤ 4) = false := decide_eq_false h4
                  have c5 : (y0 == 5) = false := beq_eq_false_iff_ne.mpr h5
                  have c6 : (y0 == 6) = false := beq_eq_false_iff_ne.mpr h6
                  have c16 : (y0 == 16) = false := beq_eq_false_iff_ne.mpr h16
                  have c17 : (y0 == 17) = false := beq_eq_false_iff_ne.mpr h17
                  obtain rfl : r = (g1 && g2) := by rw [← Option.some.inj H.out]; rw [c4]; simp [kfit, h5, h6, show ¬ y0 ≤ 15 by omega, show ¬ y0 ≤ 17 by omega]
                  clear H
                  go_enter Try.func77, Try.ntmps77
                  go_wp2
                  go_quiet (first | (go_at_call 56; (with_reducible refine (Gives_told kp _ _ HG1.out).mono ?_); rintro e w' ⟨rfl, ⟨nd, rfl⟩⟩; (try first | exact ⟨rfl, _, World.drewN_drewN _ _ _⟩ | exact ⟨rfl, _, Eq.trans (World.drewN_drewN _ _ _) (congrArg (World.drewN _) (Nat.add_assoc _ _ _))⟩)) | (go_at_call 56; (with_reducible refine (Gives_told kq _ _ HG2.out).mono ?_); rintro e w' ⟨rfl, ⟨nd, rfl⟩⟩; (try first | exact ⟨rfl, _, World.drewN_drewN _ _ _⟩ | exact ⟨rfl, _, Eq.trans (World.drewN_drewN _ _ _) (congrArg (World.drewN _) (Nat.add_assoc _ _ _))⟩)))
                  cases g1 <;> cases g2
                  all_goals
                    go_wp2
                    go_ret
                    exact ⟨rfl, pw_below_drewN (below_alloc (Below.refl _ _) _) _⟩
                · have c18 : decide (18 ≤ y0) = false := decide_eq_false h18
                  have c4 : decide (y0 ≤ 4) = false := decide_eq_false h4
                  have c5 : (y0 == 5) = false := beq_eq_false_iff_ne.mpr h5
                  have c6 : (y0 == 6) = false := beq_eq_false_iff_ne.mpr h6
                  have c16 : (y0 == 16) = false := beq_eq_false_iff_ne.mpr h16
                  have c17 : (y0 == 17) = false := beq_eq_false_iff_ne.mpr h17
                  obtain rfl : r = (!g1 && !g2) := by rw [← Option.some.inj H.out]; rw [c4]; simp [kfit, h5, h6, show y0 ≤ 15 by omega]
                  clear H
                  go_enter Try.func77, Try.ntmps77
                  go_wp2
                  go_quiet (first | (go_at_call 56; (with_reducible refine (Gives_told kp _ _ HG1.out).mono ?_); rintro e w' ⟨rfl, ⟨nd, rfl⟩⟩; (try first | exact ⟨rfl, _, World.drewN_drewN _ _ _⟩ | exact ⟨rfl, _, Eq.trans (World.drewN_drewN _ _ _) (congrArg (World.drewN _) (Nat.add_assoc _ _ _))⟩)) | (go_at_call 56; (with_reducible refine (Gives_told kq _ _ HG2.out).mono ?_); rintro e w' ⟨rfl, ⟨nd, rfl⟩⟩; (try first | exact ⟨rfl, _, World.drewN_drewN _ _ _⟩ | exact ⟨rfl, _, Eq.trans (World.drewN_drewN _ _ _) (congrArg (World.drewN _) (Nat.add_assoc _ _ _))⟩)))
                  cases g1 <;> cases g2
                  all_goals
                    go_wp2
                    go_ret
                    exact ⟨rfl, pw_below_drewN (below_alloc (Below.refl _ _) _) _⟩
    · rw [if_neg h2] at h
      cases h
  · rw [if_neg h1] at h
    cases h

end Go.Proofs.Ytcdgohoinmbpfaa.M
namespace Go.Proofs.Ytcdgohoinmbpfaa.M
open Go.RowKit Go.Proofs.YtcdgohoinmbpfaaW.PrintWords Go.Proofs.YtcdgohoinmbpfaaW.PrintLast Go.Proofs.YtcdgohoinmbpfaaW.PrintMore
attribute [local go_sem] max2_int min2_int max_two min_two
set_option linter.unusedVariables false
set_option linter.unusedSimpArgs false

def tailwaterref04_Count.f (a0 : Int) : Option (Int) := if a0 ≤ 4 then (some 0) else (if a0 ≤ 6 then (some 1) else (some 2))
set_option maxHeartbeats 8000000 in
set_option maxRecDepth 100000 in
theorem tailwaterref04_Count.calls (a0 : Int) (r : Int) (w : World) (h : tailwaterref04_Count.f a0 = some r) :
  Calls Try.prog 57 #[.int .u8 a0] w fun e w' => e = .returned (.int .i64 r) ∧ Drawn0 w w' := by
 have H : (if a0 ≤ 4 then (some 0) else (if a0 ≤ 6 then (some 1) else (some 2))) = some r := h
 clear h
 by_cases c2 : a0 ≤ 4
 ·rw [if_pos c2] at H
  have c2b0 : decide (a0 ≤ 4) = true := decide_eq_true c2
  clear c2
  obtain rfl := Option.some.inj H
  go_enter Try.func57, Try.ntmps57
  go_wp2
  go_ret
  exact ⟨by first | rfl | (simp; done) | (simp [*]; done), by repeat (first | exact Drawn0.refl _ | apply Drawn0.step)⟩
 ·rw [if_neg c2] at H
  have c2b0 : decide (a0 ≤ 4) = false := decide_eq_false c2
  clear c2
  by_cases c3 : a0 ≤ 6
  ·rw [if_pos c3] at H
   have c3b0 : decide (a0 ≤ 6) = true := decide_eq_true c3
   clear c3
   obtain rfl := Option.some.inj H
   go_enter Try.func57, Try.ntmps57
   go_wp2
   go_ret
   exact ⟨by first | rfl | (simp; done) | (simp [*]; done), by repeat (first | exact Drawn0.refl _ | apply Drawn0.step)⟩
  ·rw [if_neg c3] at H
   have c3b0 : decide (a0 ≤ 6) = false := decide_eq_false c3
   clear c3
   obtain rfl := Option.some.inj H
   go_enter Try.func57, Try.ntmps57
   go_wp2
   go_ret
   exact ⟨by first | rfl | (simp; done) | (simp [*]; done), by repeat (first | exact Drawn0.refl _ | apply Drawn0.step)⟩

end Go.Proofs.Ytcdgohoinmbpfaa.M
