/- Plain lists, no memory: EvalsMade answers true for every two lists, kind and record. -/
import Derived.Test.YtijdckamblaflaaPEvals
import Derived.Test.YtijdckamblaflaaPNode
import Derived.Test.YtijdckamblaflaaMLaw07EvalsMade
namespace Go.Proofs.Ytijdckamblaflaa.M
open Go.RowKit Go.Proofs.YtijdckamblaflaaW.PrintWords Go.Proofs.YtijdckamblaflaaW.PrintLast Go.Proofs.YtijdckamblaflaaW.PrintMore
set_option linter.unusedVariables false
set_option linter.unusedSimpArgs false

theorem alive7 : tailwaterlaw07_alive.f = some true := by decide +kernel
theorem made7_j0 (k : Nat) (l0 l1 : List Nd) (a2 a b c : Int) : tailwaterlaw07_EvalsMade.j0 (k + 1) l0 l1 a2 true a b c = some true := by
  rw [tailwaterlaw07_EvalsMade.j0, if_pos rfl, alive7]; rfl
theorem made7_j1 (k : Nat) (l0 l1 : List Nd) (a2 x y a b c : Int) : tailwaterlaw07_EvalsMade.j1 (k + 1) l0 l1 a2 x y true a b c = some true := by
  rw [tailwaterlaw07_EvalsMade.j1, if_pos rfl, alive7]; rfl
open Ex in
theorem Made7 (l0 l1 : List Nd) (a2 a b c : Int) : ∃ k, tailwaterlaw07_EvalsMade.f k l0 l1 a2 a b c = some true := by
  refine ⟨100, ?_⟩
  unfold tailwaterlaw07_EvalsMade.f
  rw [show tailwaterref04_Great.f l0 = some (decide ((l0.length : Int) > 70)) from rfl, show tailwaterref04_Great.f l1 = some (decide ((l1.length : Int) > 70)) from rfl, Option.bind_some, Option.bind_some]
  cases decide ((l0.length : Int) > 70) with
  | true => rw [if_pos rfl]; exact made7_j0 99 l0 l1 a2 a b c
  | false =>
    rw [if_neg (by decide)]
    cases decide ((l1.length : Int) > 70) with
    | true => exact made7_j0 99 l0 l1 a2 a b c
    | false =>
      rw [if_neg (by decide)]
      by_cases h7 : a2 < 7
      · rw [if_pos h7]; exact made7_j0 99 l0 l1 a2 a b c
      · rw [if_neg h7]
        by_cases h19 : a2 > 19
        · rw [decide_eq_true h19]; exact made7_j0 99 l0 l1 a2 a b c
        · rw [decide_eq_false h19, tailwaterlaw07_EvalsMade.j0, if_neg (by decide)]
          obtain ⟨g, i, e, hK, hT⟩ := of_any l0
          obtain ⟨g', i', e', hK', hT'⟩ := of_any l1
          by_cases he : e = 0
          · subst he
            obtain ⟨t, ht, rfl, hz, hd, hw, rfl⟩ := hT rfl
            rw [evOf_tree ht hz hd hw, Option.bind_some]
            by_cases he' : e' = 0
            · subst he'
              obtain ⟨u, hu, rfl, hz', hd', hw', rfl⟩ := hT' rfl
              rw [evOf_tree hu hz' hd' hw', Option.bind_some]
              dsimp only
              have hok : (two a2 0 t u).Ok := ⟨⟨by omega, by omega⟩, ⟨by omega, by omega⟩, ht, hu⟩
              rw [if_pos rfl, bne_self_eq_false, tailwaterlaw07_EvalsMade.j1, if_neg (by decide), node_two ⟨by omega, by omega⟩ ht hz hd hu hz' hd']
              obtain ⟨c', hc, hcc⟩ := check_any hok (by simp only [size]; omega)
              rw [hc, Option.bind_some]
              rcases hcc with ⟨rfl, hz2, hd2⟩ | rfl | rfl
              · rw [if_pos rfl, Option.bind_some]
                dsimp only
                rw [if_pos rfl, do_eq ⟨by omega, by omega⟩]
                have hle := wrong_le (two a2 0 t u)
                have hof := of_tree hok hz2 hd2
                by_cases hww : wrongAt ((two a2 0 t u).ser 0) < (two a2 0 t u).size
                · rw [if_pos hww] at hof
                  rw [evOf_bad hof (by decide), Option.bind_some, Option.bind_some]
                  dsimp only
                  rw [if_neg (by decide), if_pos rfl, alive7]; rfl
                · rw [evOf_tree hok hz2 hd2 (by omega), Option.bind_some, Option.bind_some]
                  dsimp only
                  rw [if_pos rfl, if_pos rfl, if_pos (show Ex.val a b c (two a2 0 t u) = opv a2 (t.val a b c) (u.val a b c) from rfl), alive7]; rfl
              · rw [if_neg (by decide), Option.bind_some]
                dsimp only
                rw [if_neg (by decide), if_pos rfl, alive7]; rfl
              · rw [if_neg (by decide), Option.bind_some]
                dsimp only
                rw [if_neg (by decide), if_neg (by decide), if_pos rfl, alive7]; rfl
            · rw [evOf_bad hK' he', Option.bind_some]
              dsimp only
              rw [if_pos rfl, bne_iff_ne.mpr he']
              exact made7_j1 _ _ _ _ _ _ _ _ _
          · rw [evOf_bad hK he, Option.bind_some]
            dsimp only
            by_cases he' : e' = 0
            · subst he'
              obtain ⟨u, hu, rfl, hz', hd', hw', rfl⟩ := hT' rfl
              rw [evOf_tree hu hz' hd' hw', Option.bind_some, if_neg he]
              exact made7_j1 _ _ _ _ _ _ _ _ _
            · rw [evOf_bad hK' he', Option.bind_some, if_neg he]
              exact made7_j1 _ _ _ _ _ _ _ _ _

end Go.Proofs.Ytijdckamblaflaa.M
