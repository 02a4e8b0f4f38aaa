import Derived.Test.YtcdgohoinmbpfaaKFilterWhere27
import Derived.Test.YtcdgohoinmbpfaaKFilterWhere29
import Derived.Test.YtcdgohoinmbpfaaKFilterWhere44
import Derived.Test.YtcdgohoinmbpfaaKFilterWhere45
namespace Go.Proofs.Ytcdgohoinmbpfaa.M
open Go.RowKit Go.Proofs.YtcdgohoinmbpfaaW.PrintWords Go.Proofs.YtcdgohoinmbpfaaW.PrintLast Go.Proofs.YtcdgohoinmbpfaaW.PrintMore
set_option linter.unusedVariables false
set_option linter.unusedSimpArgs false

theorem ref_time (k t v : Int) : tailwaterref25_Right.f k t v = some (timeB t) := by
  unfold tailwaterref25_Right.f timeB
  by_cases h : t ≥ -1099511627776
  · rw [if_pos h, decide_eq_true h, Bool.true_and]
  · rw [if_neg h, decide_eq_false h, Bool.false_and]
open Ex in
theorem val_of {l : List Nd} {b : Bool} {i : Int} (h : kinds_want.f l b = some (i, 0)) (x y z : Int) : ∃ v, evals_Of.f l x y z = some (v, 0) := by
  obtain ⟨g, j, e, hK, hT⟩ := of_any l
  unfold kinds_want.f at h
  rw [hK, Option.bind_some] at h
  by_cases he : e = 0
  · subst he
    obtain ⟨t, ht, rfl, hz, hd, hw, _⟩ := hT rfl
    exact ⟨_, evOf_tree ht hz hd hw⟩
  · exfalso
    rw [if_neg he] at h
    simp only [Option.some.injEq, Prod.mk.injEq] at h
    exact he h.2
theorem wish_rest {ask : List Nd → Option (Int × Int)} {l : List Nd} {rest : Option (Int × Int)} {i : Int} (h : wishGo ask l rest = some (i, 0)) : (∃ j, rest = some (j, 0)) ∧ (l.length ≠ 0 → ∃ j, ask l = some (j, 0)) := by
  unfold wishGo at h
  by_cases h0 : l.length = 0
  · rw [if_pos h0] at h; exact ⟨⟨i, h⟩, fun hn => absurd h0 hn⟩
  · rw [if_neg h0] at h
    obtain ⟨r, hr, h⟩ := Option.bind_eq_some_iff.mp h
    by_cases h2 : r.2 = 0
    · rw [if_pos h2] at h
      exact ⟨⟨i, h⟩, fun _ => ⟨r.1, by rw [hr, ← h2]⟩⟩
    · rw [if_neg h2] at h
      exfalso
      split at h
      · simp only [Option.some.injEq, Prod.mk.injEq] at h; exact h2 h.2
      · cases h
theorem vals_of {a0 : Int} {l1 : List Nd} {l2 : List Int} {a3 : Bool} {l4 : List Nd} {a5 a6 a7 : Int} {a8 : Bool} {a9 : Int} (h1 : l1.length ≤ 100) (h4 : l4.length ≤ 100) (h : filter_accepted.f a0 l1 l2 a3 l4 a5 a6 a7 a8 a9 = some true) (x y z : Int) :
    (l4.length ≠ 0 → ∃ v, evals_Of.f l4 x y z = some (v, 0)) ∧ (a0 ≠ 1 → ∃ v, evals_Of.f l1 x y z = some (v, 0)) := by
  obtain ⟨c, e1, _, hc⟩ := clauses_eq a0 l1 l2 a3 l4 a5 a6 a7 a8 a9 h1 h4
  unfold filter_accepted.f checks_Check.f at h
  rw [e1, Option.bind_some] at h
  obtain ⟨r, hr, h⟩ := Option.bind_eq_some_iff.mp h
  have hr2 : r.2 = 0 := by simpa using h
  by_cases h0 : c = 0
  · rw [if_pos h0] at hr
    have hr' : first1 l1 l4 = some (r.1, 0) := by rw [hr, ← hr2]
    obtain ⟨⟨j, hj⟩, hl⟩ := wish_rest hr'
    obtain ⟨_, hw⟩ := wish_rest hj
    refine ⟨fun hn => ?_, fun hn => ?_⟩
    · obtain ⟨i, hi⟩ := hw hn
      rw [truth_want] at hi
      exact val_of hi x y z
    · obtain ⟨all, ha⟩ := (hc h0).1 hn
      have hn1 : l1.length ≠ 0 := by
        intro hz
        obtain rfl := List.eq_nil_of_length_eq_zero hz
        have hq : (nodes_check.f ([] : List Nd)).map Prod.snd = some 8 := by decide +kernel
        rw [ha] at hq
        cases hq
      obtain ⟨i, hi⟩ := hl hn1
      rw [number_eq] at hi
      exact val_of hi x y z
  · rw [if_neg h0] at hr
    exact absurd (by rw [← hr2, ← Option.some.inj hr]) h0
theorem Where (a0 : Int) (l1 : List Nd) (l2 : List Int) (a3 : Bool) (l4 : List Nd) (a5 a6 a7 : Int) (a8 : Bool) (a9 a b c : Int) (hn1 : ∀ x ∈ l1, NdWf x) (hn4 : ∀ x ∈ l4, NdWf x) (ha : (Lit.int .i64 a).wf = true) (hb : (Lit.int .i64 b).wf = true) (hc : (Lit.int .i64 c).wf = true) :
    tailwaterlaw29_FilterWhere.f 399 a0 l1 l2 a3 l4 a5 a6 a7 a8 a9 a b c = some true := by
  unfold tailwaterlaw29_FilterWhere.f tailwaterlaw29_great.f
  rw [alive_true, Option.bind_some]
  by_cases g1 : (l1.length : Int) > 100
  · rw [if_pos g1, Option.bind_some, if_pos rfl, tailwaterlaw29_FilterWhere.j0, if_pos rfl]
  · rw [if_neg g1]
    by_cases g2 : (l4.length : Int) > 100
    · rw [if_pos g2, Option.bind_some, if_pos rfl, tailwaterlaw29_FilterWhere.j0, if_pos rfl]
    · rw [if_neg g2, Option.bind_some]
      by_cases g3 : (l2.length : Int) > 20
      · rw [decide_eq_true g3, if_pos rfl, tailwaterlaw29_FilterWhere.j0, if_pos rfl]
      · rw [decide_eq_false g3, if_neg (show ¬ (false = true) by decide)]
        obtain ⟨ok, e1, e2⟩ := accepted_eq a0 l1 l2 a3 l4 a5 a6 a7 a8 a9 (by omega) (by omega)
        rw [e2, Option.bind_some, ref_time]
        cases ok with
        | false => rw [if_neg (show ¬ (false = true) by decide), tailwaterlaw29_FilterWhere.j0, if_pos rfl]
        | true =>
          rw [if_pos rfl, Option.bind_some]
          cases ht : timeB b with
          | false => rw [if_neg (show ¬ (false = true) by decide), tailwaterlaw29_FilterWhere.j0, if_pos rfl]
          | true =>
            obtain ⟨v4, v1⟩ := vals_of (by omega) (by omega) e1 a b c
            have P : ∃ x, projOut a0 l1 a8 a b c = some (if a8 = true then a else 0, b, x, true, 0) ∧ (a0 = 1 → x = 0) ∧ (a0 ≠ 1 → evals_Of.f l1 a b c = some (x, 0)) := by
              unfold projOut
              by_cases h : a0 = 1
              · rw [if_pos h]; exact ⟨0, rfl, fun _ => rfl, fun hn => absurd h hn⟩
              · obtain ⟨v, hv⟩ := v1 h
                rw [if_neg h, hv, Option.bind_some]; exact ⟨v, rfl, fun hn => absurd hn h, fun _ => rfl⟩
            obtain ⟨x, hp, hx0, hx1⟩ := P
            have J : tailwaterlaw29_FilterWhere.j1 398 true true a0 l1 l2 a3 l4 a5 a6 a7 a8 a9 a b c (if a8 = true then a else 0) b x = some true := by
              rw [tailwaterlaw29_FilterWhere.j1, if_pos rfl]
              by_cases h : a0 = 1
              · rw [if_pos h, if_pos rfl, if_pos rfl, if_pos (hx0 h)]
                cases a8 <;> simp
              · rw [if_neg h, hx1 h, Option.bind_some, if_pos rfl, if_pos rfl, if_pos rfl, if_pos rfl]
                cases a8 <;> simp
            rw [if_pos rfl, show (!true) = false from rfl, tailwaterlaw29_FilterWhere.j0, if_neg (show ¬ (false = true) by decide)]
            unfold filter_Project.f
            rw [e1, Option.bind_some, if_pos rfl, ht, if_pos rfl]
            by_cases hl : l4.length = 0
            · rw [if_pos hl, hp, Option.bind_some, if_pos rfl, if_neg (by omega), if_pos rfl]
              exact J
            · obtain ⟨v, hv⟩ := v4 hl
              rw [if_neg hl, hv, Option.bind_some]
              by_cases hz : v = 0
              · rw [if_pos hz, Option.bind_some, if_pos rfl, if_pos (by omega), Option.bind_some, if_pos rfl, hz, if_neg (by decide), tailwaterlaw29_FilterWhere.j1, if_neg (show ¬ (false = true) by decide), if_pos rfl]
                rfl
              · rw [if_neg hz, hp, Option.bind_some, if_pos rfl, if_pos (by omega), Option.bind_some, if_pos rfl, if_neg (by simp [hz])]
                exact J

end Go.Proofs.Ytcdgohoinmbpfaa.M
