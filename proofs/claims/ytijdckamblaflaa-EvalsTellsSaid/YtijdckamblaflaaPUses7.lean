/- Plain lists, no memory: what evals.Uses tells. -/
import Derived.Test.YtijdckamblaflaaPEvals
import Derived.Test.YtijdckamblaflaaMEvalsUses
namespace Go.Proofs.Ytijdckamblaflaa.M
open Go.RowKit Go.Proofs.YtijdckamblaflaaW.PrintWords Go.Proofs.YtijdckamblaflaaW.PrintLast Go.Proofs.YtijdckamblaflaaW.PrintMore
set_option linter.unusedVariables false
set_option linter.unusedSimpArgs false

/-- What is used. -/
def usesK (l : List Nd) (k : Int) : Bool := l.any fun x => x.f0 == k
theorem uses_go {l : List Nd} (hl : l.length ≤ 1000) : ∀ (rest : List Nd) (i : Nat), l.drop i = rest → i ≤ l.length → ∀ (u v w : Bool) (k : Nat), rest.length < k →
    evals_Uses.l0 k u v w l (l.length : Int) i = some (u || usesK rest 2, v || usesK rest 3, w || usesK rest 4, 0) := by
  intro rest
  induction rest with
  | nil =>
    intro i hd hi u v w k hk
    have hil : i = l.length := by
      have := congrArg List.length hd
      rw [List.length_drop] at this
      simp at this; omega
    obtain ⟨k, rfl⟩ : ∃ m, k = m + 1 := ⟨k - 1, by omega⟩
    rw [evals_Uses.l0, if_neg (by omega)]
    simp [usesK]
  | cons x rest ih =>
    intro i hd hi u v w k hk
    obtain ⟨k, rfl⟩ : ∃ m, k = m + 1 := ⟨k - 1, by simp at hk; omega⟩
    have hx : l[i]? = some x := by
      have := congrArg List.head? hd
      rwa [List.head?_drop] at this
    have hd' : l.drop (i + 1) = rest := by
      have := congrArg List.tail hd
      rwa [List.tail_drop] at this
    have hi' : i < l.length := (List.getElem?_eq_some_iff.1 hx).1
    have hw1 : wrap64 ((i : Int) + 1) = ((i + 1 : Nat) : Int) := by rw [w64 (by omega) (by omega)]; omega
    have h1 := fun u v w => ih (i + 1) hd' (by omega) u v w k (by simp at hk; omega)
    rw [evals_Uses.l0, if_pos (by omega), if_pos (by omega), if_pos (by omega), rd_T_nat l i x hx, hw1]
    simp only [h1, usesK, List.any_cons]
    cases u <;> cases v <;> cases w <;> simp
theorem uses_eq {l : List Nd} (hl : l.length ≤ 1000) {k : Nat} (hk : l.length < k) : evals_Uses.f k l = (evals_check.f l).bind fun e => if e = 0 then some (usesK l 2, usesK l 3, usesK l 4, 0) else some (false, false, false, e) := by
  unfold evals_Uses.f
  have := uses_go hl l 0 rfl (Nat.zero_le _) false false false k hk
  simp only [Bool.false_or] at this
  simp only [Int.natCast_zero, show ((0 : Nat) : Int) = 0 from rfl] at this
  rw [this]
theorem uses_bad {l : List Nd} {g : Bool} {i x : Int} (hl : l.length ≤ 1000) (h : kinds_Of.f l = some (g, i, x)) (hx : x ≠ 0) {k : Nat} (hk : l.length < k) : evals_Uses.f k l = some (false, false, false, x) := by
  rw [uses_eq hl hk]
  unfold evals_check.f
  rw [h, Option.bind_some, Option.bind_some, if_neg hx]
theorem uses_ok {l : List Nd} {g : Bool} {i : Int} (hl : l.length ≤ 1000) (h : kinds_Of.f l = some (g, i, 0)) {k : Nat} (hk : l.length < k) : evals_Uses.f k l = some (usesK l 2, usesK l 3, usesK l 4, 0) := by
  rw [uses_eq hl hk]
  unfold evals_check.f
  rw [h, Option.bind_some, Option.bind_some, if_pos rfl]

end Go.Proofs.Ytijdckamblaflaa.M
