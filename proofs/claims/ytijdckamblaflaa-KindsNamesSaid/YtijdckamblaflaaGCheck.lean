/- The contract of nodes.check: for every list it returns what nodes_check.f tells. -/
import Derived.Test.YtijdckamblaflaaGTops
namespace Go.Proofs.Ytijdckamblaflaa.M
open Go.RowKit Go.Proofs.YtijdckamblaflaaW.PrintWords Go.Proofs.YtijdckamblaflaaW.PrintLast Go.Proofs.YtijdckamblaflaaW.PrintMore
set_option linter.unusedVariables false
set_option linter.unusedSimpArgs false

set_option maxHeartbeats 1000000 in
set_option maxRecDepth 100000 in
theorem nodes_check.calls (A0 : Option Addr) (c0 : Nat) (l0 : List (S27)) (r1 : List (S99)) (r2 : Int) (w : World) (hr0 : Kd.C k27 w A0 l0.length l0) (hc0 : l0.length ≤ c0) (h : nodes_check.f l0 = some (r1, r2)) :
    Calls Try.prog 59 #[.slice A0 l0.length c0] w fun e w' => ∃ v0_ : Value, e = .returned (.tuple #[v0_, .int .i64 r2]) ∧ Kd.R k99 99 w' w.heap.size (fun _ => True) v0_ r1 ∧ Below w.heap.size w w' := by
  have HR0 := Aside0.mk hr0
  have HC0 := Aside0.mk hc0
  clear hr0 hc0
  unfold nodes_check.f at h
  by_cases hl : l0.length > 60
  · rw [if_pos hl] at h
    simp only [Option.some.injEq, Prod.mk.injEq] at h
    obtain ⟨rfl, rfl⟩ := h
    have c1 : decide ((60 : Int) < (l0.length : Int)) = true := decide_eq_true (by omega)
    have c2 : decide (60 < l0.length) = true := decide_eq_true (by omega)
    go_enter Try.func59, Try.ntmps59
    go_wp2
    go_ret2
    exact ⟨_, rfl, Kd.R_nil _ _ _ _ _, Below.refl _ _⟩
  · rw [if_neg hl] at h
    have c1 : decide ((60 : Int) < (l0.length : Int)) = false := decide_eq_false (by omega)
    have c2 : decide (60 < l0.length) = false := decide_eq_false (by omega)
    have hl60 : l0.length ≤ 60 := by omega
    clear hl
    rcases ht : nodes_tops.f l0 with ⟨all, right⟩
    rw [ht] at h
    have HT := Aside0.mk (fun W (hr : Kd.C k27 W A0 l0.length l0) => nodes_tops.calls A0 c0 l0 all right W hr HC0.out hl60 ht)
    clear ht
    cases right with
    | false =>
      simp only [Option.some.injEq, Prod.mk.injEq] at h
      obtain ⟨rfl, rfl⟩ := h
      go_enter Try.func59, Try.ntmps59
      go_wp2_with (go_at_call 64; refine (HT.out _ HR0.out).mono ?_; rintro e w1 ⟨v0, rfl, hR, hB⟩; have HR := Aside0.mk hR; have HB := Aside0.mk hB; clear hR hB)
      go_ret2
      exact ⟨_, rfl, Kd.R_nil _ _ _ _ _, HB.out⟩
    | true =>
      dsimp only at h
      cases hg : all.getLast? with
      | none => rw [hg] at h; cases h
      | some t =>
        rw [hg] at h
        dsimp only at h
        have hne : 0 < all.length := by cases all with | nil => cases hg | cons a l => simp
        have hlast : rd_T99 all ((all.length - 1 : Nat) : Int) = t := by
          unfold rd_T99
          rw [Int.toNat_natCast, List.getLast?_eq_getElem?] at *
          rw [List.getD_eq_getElem?_getD, hg]; rfl
        have HL := Aside0.mk hlast
        have HN := Aside0.mk hne
        clear hg hlast hne
        by_cases hd : t.f2 > 20
        · rw [if_pos hd] at h
          simp only [Option.some.injEq, Prod.mk.injEq] at h
          obtain ⟨rfl, rfl⟩ := h
          have c3 : decide (20 < t.f2) = true := decide_eq_true hd
          go_enter Try.func59, Try.ntmps59
          go_wp2_with (go_at_call 64; refine (HT.out _ HR0.out).mono ?_; rintro e w1 ⟨v0, rfl, hR, hB⟩; have HR := Aside0.mk hR; have HB := Aside0.mk hB; clear hR hB; obtain ⟨A1, k1, e1⟩ := Kd.R_slice HR.out; subst e1; obtain ⟨_, _, hC⟩ := Kd.R_reads' HR.out; obtain ⟨ad, ea, hz0, hz1, hz2⟩ := at_T99 hC ((all.length - 1 : Nat) : Int) (by omega) (by have := HN.out; omega); subst ea; rw [HL.out, Int.toNat_natCast] at hz0 hz1 hz2; have hm : all.length ≤ 9223372036854775807 := hC.2.1; clear hC; have hn1 : 1 ≤ all.length := HN.out; have hw1 : wrap64 ((all.length : Int) - 1) = ((all.length - 1 : Nat) : Int) := by unfold wrap64; omega)
          go_ret2
          exact ⟨_, rfl, Kd.R_nil _ _ _ _ _, HB.out⟩
        · rw [if_neg hd] at h
          simp only [Option.some.injEq, Prod.mk.injEq] at h
          obtain ⟨rfl, rfl⟩ := h
          have c3 : decide (20 < t.f2) = false := decide_eq_false hd
          go_enter Try.func59, Try.ntmps59
          go_wp2_with (go_at_call 64; refine (HT.out _ HR0.out).mono ?_; rintro e w1 ⟨v0, rfl, hR, hB⟩; have HR := Aside0.mk hR; have HB := Aside0.mk hB; clear hR hB; obtain ⟨A1, k1, e1⟩ := Kd.R_slice HR.out; subst e1; obtain ⟨_, _, hC⟩ := Kd.R_reads' HR.out; obtain ⟨ad, ea, hz0, hz1, hz2⟩ := at_T99 hC ((all.length - 1 : Nat) : Int) (by omega) (by have := HN.out; omega); subst ea; rw [HL.out, Int.toNat_natCast] at hz0 hz1 hz2; have hm : all.length ≤ 9223372036854775807 := hC.2.1; clear hC; have hn1 : 1 ≤ all.length := HN.out; have hw1 : wrap64 ((all.length : Int) - 1) = ((all.length - 1 : Nat) : Int) := by unfold wrap64; omega)
          go_ret2
          exact ⟨_, rfl, HR.out, HB.out⟩

end Go.Proofs.Ytijdckamblaflaa.M
