/- Plain lists, no memory: EvalsUses answers true for every list and two records. -/
import Derived.Test.YtijdckamblaflaaPUses7
import Derived.Test.YtijdckamblaflaaPRef06
import Derived.Test.YtijdckamblaflaaMLaw07EvalsUses
namespace Go.Proofs.Ytijdckamblaflaa.M
open Go.RowKit Go.Proofs.YtijdckamblaflaaW.PrintWords Go.Proofs.YtijdckamblaflaaW.PrintLast Go.Proofs.YtijdckamblaflaaW.PrintMore
set_option linter.unusedVariables false
set_option linter.unusedSimpArgs false

theorem alive7 : tailwaterlaw07_alive.f = some true := by decide +kernel
namespace Ex
theorem val_same {a b c a' b' c' : Int} : ∀ (e : Ex) (i : Nat), e.Ok → (∀ x ∈ e.ser i, (x.f0 = 2 → a = a') ∧ (x.f0 = 3 → b = b') ∧ (x.f0 = 4 → c = c')) → e.val a b c = e.val a' b' c'
  | leaf k n t, i, h, hx => by
    have h1 := hx (root i (leaf k n t)) (by simp [ser])
    have hk := h.1
    simp only [root] at h1
    simp only [val]
    unfold leafVal
    by_cases k1 : k = 1
    · rw [if_pos k1, if_pos k1]
    · rw [if_neg k1, if_neg k1]
      by_cases k2 : k = 2
      · rw [if_pos k2, if_pos k2]; exact h1.1 k2
      · rw [if_neg k2, if_neg k2]
        by_cases k3 : k = 3
        · rw [if_pos k3, if_pos k3]; exact h1.2.1 k3
        · rw [if_neg k3, if_neg k3]; exact h1.2.2 (by omega)
  | one k t x, i, h, hx => by
    simp only [val]
    rw [val_same x i h.2.2 (fun y hy => hx y (by simp [ser, hy]))]
  | two k t x y, i, h, hx => by
    simp only [val]
    rw [val_same x i h.2.2.1 (fun z hz => hx z (by simp [ser, hz])), val_same y (i + x.size) h.2.2.2 (fun z hz => hx z (by simp [ser, hz]))]
end Ex
theorem uses_no {l : List Nd} {k : Int} (h : usesK l k = false) {x : Nd} (hx : x ∈ l) : x.f0 ≠ k := by
  unfold usesK at h
  rw [List.any_eq_false] at h
  simpa using h x hx
open Ex in
theorem Uses (l : List Nd) (a b c a' b' c' : Int) : ∃ k, tailwaterlaw07_EvalsUses.f k l a b c a' b' c' = some true := by
  refine ⟨l.length + 10, ?_⟩
  unfold tailwaterlaw07_EvalsUses.f
  rw [show tailwaterref04_Great.f l = some (decide ((l.length : Int) > 70)) from rfl, Option.bind_some]
  by_cases hgr : decide ((l.length : Int) > 70) = true
  · rw [if_pos hgr, alive7]; rfl
  · rw [if_neg hgr]
    obtain ⟨g, i, e, hK, hT⟩ := of_any l
    obtain ⟨g', i', e', hK', hR, hT'⟩ := of_both l
    have hK0 := hK
    rw [hK] at hK'
    obtain ⟨rfl, rfl, rfl⟩ : g = g' ∧ i = i' ∧ e = e' := by simpa using hK'
    rw [hR _ (by omega), Option.bind_some]
    dsimp only
    by_cases he : e = 0
    · subst he
      obtain ⟨t, ht, rfl, hz, hd, hw, rfl⟩ := hT rfl
      rw [if_pos rfl, uses_ok (by rw [ser_len]; omega) hK0 (by omega), Option.bind_some]
      dsimp only
      have hf := fun a b c => evOf_tree (a := a) (b := b) (c := c) ht hz hd hw
      have key : ∀ x y z : Int, (usesK (t.ser 0) 2 = true → x = a) → (usesK (t.ser 0) 3 = true → y = b) → (usesK (t.ser 0) 4 = true → z = c) → t.val a b c = t.val x y z := by
        intro x y z h2 h3 h4
        refine val_same t 0 ht (fun n hn => ⟨fun hk => ?_, fun hk => ?_, fun hk => ?_⟩)
        · cases hu : usesK (t.ser 0) 2 with
          | true => exact (h2 hu).symm
          | false => exact absurd hk (uses_no hu hn)
        · cases hu : usesK (t.ser 0) 3 with
          | true => exact (h3 hu).symm
          | false => exact absurd hk (uses_no hu hn)
        · cases hu : usesK (t.ser 0) 4 with
          | true => exact (h4 hu).symm
          | false => exact absurd hk (uses_no hu hn)
      cases h2 : usesK (t.ser 0) 2 <;> cases h3 : usesK (t.ser 0) 3 <;> cases h4 : usesK (t.ser 0) 4 <;> rw [h2, h3, h4] at key
      all_goals simp only [if_true, if_false, Bool.false_eq_true]
      all_goals rw [tailwaterlaw07_EvalsUses.j0]
      all_goals simp only [if_true, if_false, Bool.false_eq_true]
      all_goals rw [tailwaterlaw07_EvalsUses.j1]
      all_goals simp only [if_true, if_false, Bool.false_eq_true, hf, Option.bind_some]
      all_goals first | (rw [alive7]; rfl) | (rw [if_pos (key _ _ _ (by simp) (by simp) (by simp)), alive7]; rfl)
    · rw [if_neg he, alive7]; rfl

end Go.Proofs.Ytijdckamblaflaa.M
