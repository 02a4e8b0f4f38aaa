/- Plain lists, no memory: EvalsTruth answers true for every list and record. -/
import Derived.Test.YtijdckamblaflaaPEvals
import Derived.Test.YtijdckamblaflaaPRef06
import Derived.Test.YtijdckamblaflaaMLaw07EvalsTruth
namespace Go.Proofs.Ytijdckamblaflaa.M
open Go.RowKit Go.Proofs.YtijdckamblaflaaW.PrintWords Go.Proofs.YtijdckamblaflaaW.PrintLast Go.Proofs.YtijdckamblaflaaW.PrintMore
set_option linter.unusedVariables false
set_option linter.unusedSimpArgs false

theorem alive7 : tailwaterlaw07_alive.f = some true := by decide +kernel
theorem truth_go {l : List Nd} {bs : List Bool} {vs : List Int} (hb : bs.length = l.length) (hv : vs.length = l.length) (hl : l.length ≤ 1000) (h : ∀ i : Nat, i < l.length → rdOf false bs (i : Int) = true → rd vs (i : Int) = 0 ∨ rd vs (i : Int) = 1) : ∀ (d i : Nat), i + d = l.length → ∀ k, d < k → tailwaterlaw07_EvalsTruth.l0 k l bs vs i = some true := by
  intro d
  induction d with
  | zero =>
    intro i hi k hk
    obtain ⟨k, rfl⟩ : ∃ m, k = m + 1 := ⟨k - 1, by omega⟩
    rw [tailwaterlaw07_EvalsTruth.l0, if_neg (by omega), alive7]; rfl
  | succ d ih =>
    intro i hi k hk
    obtain ⟨k, rfl⟩ : ∃ m, k = m + 1 := ⟨k - 1, by omega⟩
    have hw1 : wrap64 ((i : Int) + 1) = ((i + 1 : Nat) : Int) := by rw [w64 (by omega) (by omega)]; omega
    have h1 := ih (i + 1) (by omega) k (by omega)
    have h2 := h i (by omega)
    rw [tailwaterlaw07_EvalsTruth.l0, if_pos (by omega), if_pos (by omega), if_pos (by omega), hw1, h1]
    cases hr : rdOf false bs (i : Int) with
    | false => rw [if_neg (by decide)]
    | true =>
      rw [if_pos rfl, if_pos (by omega)]
      rcases h2 hr with h3 | h3
      · rw [if_pos h3]
      · rw [if_neg (by omega), if_pos h3]
open Ex in
theorem Truth (l : List Nd) (a b c : Int) : ∃ k, tailwaterlaw07_EvalsTruth.f k l a b c = some true := by
  refine ⟨l.length + 10, ?_⟩
  unfold tailwaterlaw07_EvalsTruth.f
  rw [show tailwaterref04_Great.f l = some (decide ((l.length : Int) > 70)) from rfl, Option.bind_some]
  by_cases hgr : decide ((l.length : Int) > 70) = true
  · rw [if_pos hgr, alive7]; rfl
  · rw [if_neg hgr]
    obtain ⟨g, i, e, hK, hT⟩ := of_any l
    obtain ⟨g', i', e', hK', hR, hT'⟩ := of_both l
    rw [hK] at hK'
    obtain ⟨rfl, rfl, rfl⟩ : g = g' ∧ i = i' ∧ e = e' := by simpa using hK'
    unfold tailwaterref06_All.f
    rw [hR _ (by omega), Option.bind_some]
    by_cases he : e = 0
    · subst he
      obtain ⟨t, ht, rfl, hz, hd, hw, rfl⟩ := hT rfl
      have hgo := all_go (l := t.ser 0) (by rw [ser_len]; exact hz) (t.ser 0).length 0 (by omega) ((t.ser 0).length + 10) (by omega)
      rw [List.take_zero, List.map_nil] at hgo
      replace hgo : tailwaterref06_All.l0 ((t.ser 0).length + 10) (t.ser 0) [] 0 = _ := hgo
      rw [if_pos rfl, hgo, Option.bind_some, all_tree ht hz hd hw, Option.bind_some]
      dsimp only
      have hne : (((t.vals a b c).length : Int) != ((t.ser 0).length : Int)) = false := by rw [vals_len, ser_len]; simp
      rw [if_pos rfl, if_pos rfl, hne, tailwaterlaw07_EvalsTruth.j0, if_neg (by decide)]
      refine truth_go (by rw [List.length_map]) (by rw [vals_len, ser_len]) (by rw [ser_len]; omega) (fun j hj hg => ?_) (t.ser 0).length 0 (by omega) _ (by omega)
      rw [ser_len] at hj
      obtain ⟨o, s, hs, e1⟩ := Sub.at_ t j hj
      obtain rfl : j = o + s.size - 1 := by omega
      have hg' := hs.get 0
      rw [Nat.zero_add] at hg'
      have hk : kgive s.kd = true := by
        rw [← hg]
        unfold rdOf
        rw [Int.toNat_natCast, List.getD_eq_getElem?_getD, List.getElem?_map, hg']
        exact (congrArg kgive (root_kd s o)).symm
      rw [hs.rdV]
      exact val_truth (hs.ok ht) hk
    · rw [if_neg he, Option.bind_some]
      dsimp only
      rw [if_neg he, alive7]; rfl

end Go.Proofs.Ytijdckamblaflaa.M
