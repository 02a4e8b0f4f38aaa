import Derived.Test.YtcdgohoinmbpfaaKFilterTwice27
import Derived.Test.YtcdgohoinmbpfaaKFilterTwice31
import Derived.Test.YtcdgohoinmbpfaaKFilterTwice33
import Derived.Test.YtcdgohoinmbpfaaKFilterTwice44
import Derived.Test.YtcdgohoinmbpfaaKFilterTwice46
import Derived.Test.YtcdgohoinmbpfaaKFilterTwice47
namespace Go.Proofs.Ytcdgohoinmbpfaa.M
open Go.RowKit Go.Proofs.YtcdgohoinmbpfaaW.PrintWords Go.Proofs.YtcdgohoinmbpfaaW.PrintLast Go.Proofs.YtcdgohoinmbpfaaW.PrintMore
set_option linter.unusedVariables false
set_option linter.unusedSimpArgs false

theorem ref_time (k t v : Int) : tailwaterref25_Right.f k t v = some (timeB t) := by
  unfold tailwaterref25_Right.f timeB
  by_cases h : t ≥ -1099511627776
  · rw [if_pos h, decide_eq_true h, Bool.true_and]
  · rw [if_neg h, decide_eq_false h, Bool.false_and]
open Ex in
theorem val_of {l : List Nd} {b : Bool} {i : Int} (h : kinds_want.f l b = some (i, 0)) (x y z : Int) : ∃ v, evals_Of.f l x y z = some (v, 0) := by
  obtain ⟨g, j, e, hK, hT⟩ := of_any l
  unfold kinds_want.f at h
  rw [hK, Option.bind_some] at h
  by_cases he : e = 0
  · subst he
    obtain ⟨t, ht, rfl, hz, hd, hw, _⟩ := hT rfl
    exact ⟨_, evOf_tree ht hz hd hw⟩
  · exfalso
    rw [if_neg he] at h
    simp only [Option.some.injEq, Prod.mk.injEq] at h
    exact he h.2
theorem wish_rest {ask : List Nd → Option (Int × Int)} {l : List Nd} {rest : Option (Int × Int)} {i : Int} (h : wishGo ask l rest = some (i, 0)) : (∃ j, rest = some (j, 0)) ∧ (l.length ≠ 0 → ∃ j, ask l = some (j, 0)) := by
  unfold wishGo at h
  by_cases h0 : l.length = 0
  · rw [if_pos h0] at h; exact ⟨⟨i, h⟩, fun hn => absurd h0 hn⟩
  · rw [if_neg h0] at h
    obtain ⟨r, hr, h⟩ := Option.bind_eq_some_iff.mp h
    by_cases h2 : r.2 = 0
    · rw [if_pos h2] at h
      exact ⟨⟨i, h⟩, fun _ => ⟨r.1, by rw [hr, ← h2]⟩⟩
    · rw [if_neg h2] at h
      exfalso
      split at h
      · simp only [Option.some.injEq, Prod.mk.injEq] at h; exact h2 h.2
      · cases h
theorem vals_of {a0 : Int} {l1 : List Nd} {l2 : List Int} {a3 : Bool} {l4 : List Nd} {a5 a6 a7 : Int} {a8 : Bool} {a9 : Int} (h1 : l1.length ≤ 100) (h4 : l4.length ≤ 100) (h : filter_accepted.f a0 l1 l2 a3 l4 a5 a6 a7 a8 a9 = some true) (x y z : Int) :
    (l4.length ≠ 0 → ∃ v, evals_Of.f l4 x y z = some (v, 0)) ∧ (a0 ≠ 1 → ∃ v, evals_Of.f l1 x y z = some (v, 0)) := by
  obtain ⟨c, e1, _, hc⟩ := clauses_eq a0 l1 l2 a3 l4 a5 a6 a7 a8 a9 h1 h4
  unfold filter_accepted.f checks_Check.f at h
  rw [e1, Option.bind_some] at h
  obtain ⟨r, hr, h⟩ := Option.bind_eq_some_iff.mp h
  have hr2 : r.2 = 0 := by simpa using h
  by_cases h0 : c = 0
  · rw [if_pos h0] at hr
    have hr' : first1 l1 l4 = some (r.1, 0) := by rw [hr, ← hr2]
    obtain ⟨⟨j, hj⟩, hl⟩ := wish_rest hr'
    obtain ⟨_, hw⟩ := wish_rest hj
    refine ⟨fun hn => ?_, fun hn => ?_⟩
    · obtain ⟨i, hi⟩ := hw hn
      rw [truth_want] at hi
      exact val_of hi x y z
    · obtain ⟨all, ha⟩ := (hc h0).1 hn
      have hn1 : l1.length ≠ 0 := by
        intro hz
        obtain rfl := List.eq_nil_of_length_eq_zero hz
        have hq : (nodes_check.f ([] : List Nd)).map Prod.snd = some 8 := by decide +kernel
        rw [ha] at hq
        cases hq
      obtain ⟨i, hi⟩ := hl hn1
      rw [number_eq] at hi
      exact val_of hi x y z
  · rw [if_neg h0] at hr
    exact absurd (by rw [← hr2, ← Option.some.inj hr]) h0
open Ex in
theorem evalOf_eq {l : List Nd} {a b c : Int} (hl : l.length ≤ 100) (hn : ∀ x ∈ l, Rng x.f1) (ha : Rng a) (hb : Rng b) (hc : Rng c) : ∃ r, evals_Of.f l a b c = some r ∧ ∀ k, 110 < k → tailwaterref07_Of.f k l a b c = some r := by
  obtain ⟨g, i, e, hK, hT⟩ := of_any l
  obtain ⟨g', i', e', hK', hR, hT'⟩ := of_both l
  have hK0 := hK
  rw [hK] at hK'
  obtain ⟨rfl, rfl, rfl⟩ : g = g' ∧ i = i' ∧ e = e' := by simpa using hK'
  by_cases he : e = 0
  · subst he
    obtain ⟨t, ht, rfl, hz, hd, hw, rfl⟩ := hT rfl
    exact ⟨_, evOf_tree ht hz hd hw, fun k hk => refOf_tree ht hz hd ha hb hc hn (hR k (by omega)) (by omega)⟩
  · refine ⟨_, evOf_bad hK0 he a b c, fun k hk => ?_⟩
    unfold tailwaterref07_Of.f
    rw [hR k (by omega), Option.bind_some, if_neg he]
theorem rng_wf {x : Int} (h : (Lit.int .i64 x).wf = true) : Rng x := by
  unfold Lit.wf at h
  rw [Bool.and_eq_true, decide_eq_true_iff, decide_eq_true_iff] at h
  have h1 : IntKind.i64.min = -9223372036854775808 := rfl
  have h2 : IntKind.i64.max = 9223372036854775807 := rfl
  unfold Rng
  omega
theorem proj_is {a0 : Int} {l1 : List Nd} {l2 : List Int} {a3 : Bool} {l4 : List Nd} {a5 a6 a7 : Int} {a8 : Bool} {a9 : Int} (h1 : l1.length ≤ 100) (h4 : l4.length ≤ 100) (hok : filter_accepted.f a0 l1 l2 a3 l4 a5 a6 a7 a8 a9 = some true) (a b c : Int) (ht : timeB b = true) :
    ∃ x, projOut a0 l1 a8 a b c = some (if a8 = true then a else 0, b, x, true, 0) ∧
      (filter_Project.f a0 l1 l2 a3 l4 a5 a6 a7 a8 a9 a b c = some (if a8 = true then a else 0, b, x, true, 0) ∨ (0 < l4.length ∧ filter_Project.f a0 l1 l2 a3 l4 a5 a6 a7 a8 a9 a b c = some (0, 0, 0, false, 0))) := by
  obtain ⟨v4, v1⟩ := vals_of h1 h4 hok a b c
  have P : ∃ x, projOut a0 l1 a8 a b c = some (if a8 = true then a else 0, b, x, true, 0) := by
    unfold projOut
    by_cases h : a0 = 1
    · rw [if_pos h]; exact ⟨0, rfl⟩
    · obtain ⟨v, hv⟩ := v1 h
      rw [if_neg h, hv, Option.bind_some]; exact ⟨v, rfl⟩
  obtain ⟨x, hp⟩ := P
  refine ⟨x, hp, ?_⟩
  unfold filter_Project.f
  rw [hok, Option.bind_some, if_pos rfl, ht, if_pos rfl]
  by_cases hl : l4.length = 0
  · rw [if_pos hl, hp]; exact Or.inl rfl
  · obtain ⟨v, hv⟩ := v4 hl
    rw [if_neg hl, hv, Option.bind_some]
    by_cases hz : v = 0
    · rw [if_pos hz]; exact Or.inr ⟨by omega, rfl⟩
    · rw [if_neg hz, hp]; exact Or.inl rfl
theorem free_is (a0 : Int) (l1 : List Nd) (l2 : List Int) (a3 : Bool) (a5 a6 a7 : Int) (a8 : Bool) (a9 : Int) (h1 : l1.length ≤ 100) (a b c : Int) (ht : timeB b = true) {x : Int} (hp : projOut a0 l1 a8 a b c = some (if a8 = true then a else 0, b, x, true, 0)) :
    filter_Project.f a0 l1 l2 a3 ([] : List Nd) a5 a6 a7 a8 a9 a b c = some (if a8 = true then a else 0, b, x, true, 0) ∨ filter_Project.f a0 l1 l2 a3 ([] : List Nd) a5 a6 a7 a8 a9 a b c = some (0, 0, 0, false, 8) := by
  obtain ⟨ok, e1, _⟩ := accepted_eq a0 l1 l2 a3 ([] : List Nd) a5 a6 a7 a8 a9 h1 (by simp)
  unfold filter_Project.f
  rw [e1, Option.bind_some]
  cases ok with
  | false => rw [if_neg (show ¬ (false = true) by decide)]; exact Or.inr rfl
  | true => rw [if_pos rfl, ht, if_pos rfl, if_pos (show ([] : List Nd).length = 0 from rfl), hp]; exact Or.inl rfl
theorem Twice (a0 : Int) (l1 : List Nd) (l2 : List Int) (a3 : Bool) (l4 : List Nd) (a5 a6 a7 : Int) (a8 : Bool) (a9 a b c : Int) (hn1 : ∀ x ∈ l1, NdWf x) (hn4 : ∀ x ∈ l4, NdWf x) (ha : (Lit.int .i64 a).wf = true) (hb : (Lit.int .i64 b).wf = true) (hc : (Lit.int .i64 c).wf = true) :
    tailwaterlaw29_FilterTwice.f 399 a0 l1 l2 a3 l4 a5 a6 a7 a8 a9 a b c = some true := by
  unfold tailwaterlaw29_FilterTwice.f tailwaterlaw29_great.f
  rw [alive_true, Option.bind_some]
  by_cases g1 : (l1.length : Int) > 100
  · rw [if_pos g1, Option.bind_some, if_pos rfl, tailwaterlaw29_FilterTwice.j0, if_pos rfl]
  · rw [if_neg g1]
    by_cases g2 : (l4.length : Int) > 100
    · rw [if_pos g2, Option.bind_some, if_pos rfl, tailwaterlaw29_FilterTwice.j0, if_pos rfl]
    · rw [if_neg g2, Option.bind_some]
      by_cases g3 : (l2.length : Int) > 20
      · rw [decide_eq_true g3, if_pos rfl, tailwaterlaw29_FilterTwice.j0, if_pos rfl]
      · rw [decide_eq_false g3, if_neg (show ¬ (false = true) by decide)]
        obtain ⟨ok, e1, e2⟩ := accepted_eq a0 l1 l2 a3 l4 a5 a6 a7 a8 a9 (by omega) (by omega)
        rw [e2, Option.bind_some, ref_time]
        cases ok with
        | false => rw [if_neg (show ¬ (false = true) by decide), tailwaterlaw29_FilterTwice.j0, if_pos rfl]
        | true =>
          rw [if_pos rfl, Option.bind_some]
          cases ht : timeB b with
          | false => rw [if_neg (show ¬ (false = true) by decide), tailwaterlaw29_FilterTwice.j0, if_pos rfl]
          | true =>
            obtain ⟨x, hp, hq⟩ := proj_is (by omega) (by omega) e1 a b c ht
            rw [if_pos rfl, show (!true) = false from rfl, tailwaterlaw29_FilterTwice.j0, if_neg (show ¬ (false = true) by decide)]
            rcases hq with hq | ⟨hl, hq⟩
            · rw [hq, Option.bind_some, if_pos rfl, show (!true) = false from rfl, tailwaterlaw29_FilterTwice.j1, if_neg (show ¬ (false = true) by decide)]
              obtain ⟨y, _, hy⟩ := proj_is (by omega) (by omega) e1 (if a8 = true then a else 0) b x ht
              obtain ⟨u, u1, u2⟩ := evalOf_eq (l := l4) (by omega) (fun z hz => rng_wf (hn4 z hz).2.1) (rng_wf ha) (rng_wf hb) (rng_wf hc)
              have hu : (l4.length : Int) > 0 → u.2 = 0 := by
                intro hl
                obtain ⟨v, hv⟩ := (vals_of (by omega) (by omega) e1 a b c).1 (by omega)
                rw [hv] at u1
                rw [← Option.some.inj u1]
              have hu' : 0 < l4.length → u.2 = 0 := fun h => hu (by omega)
              have hk : (if a8 = true then (if a8 = true then a else 0) else 0) = (if a8 = true then a else 0) := by cases a8 <;> rfl
              rw [u2 397 (by decide)]
              rcases free_is a0 l1 l2 a3 a5 a6 a7 a8 a9 (by omega) a b c ht hp with hf | hf
              all_goals rcases hy with hy | ⟨_, hy⟩
              all_goals rw [hy, hf, Option.bind_some, Option.bind_some, Option.bind_some]
              all_goals simp [hk]
              all_goals exact hu'
            · rw [hq, Option.bind_some, if_pos rfl, show (!false) = true from rfl, tailwaterlaw29_FilterTwice.j1, if_pos rfl, if_pos rfl, if_pos rfl, decide_eq_true (show (l4.length : Int) > 0 by omega)]

end Go.Proofs.Ytcdgohoinmbpfaa.M
