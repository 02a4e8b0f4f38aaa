/- Plain lists, no memory: what a valid list is node by node; what kinds.told and the reference (6) tell of it. -/
import Derived.Test.YtijdckamblaflaaPChk
import Derived.Test.YtijdckamblaflaaGToldPure
namespace Go.Proofs.Ytijdckamblaflaa.M
open Go.RowKit Go.Proofs.YtijdckamblaflaaW.PrintWords Go.Proofs.YtijdckamblaflaaW.PrintLast Go.Proofs.YtijdckamblaflaaW.PrintMore
set_option linter.unusedVariables false
set_option linter.unusedSimpArgs false

/-- A node by itself, at its place. -/
structure NodeOk (i : Nat) (x : Nd) : Prop where
  lo : 1 ≤ x.f0
  hi : x.f0 ≤ 19
  n0 : 0 ≤ x.f1
  n1 : x.f0 ≠ 1 → x.f1 = 0
  t0 : 0 ≤ x.f4
  t1 : x.f4 ≤ 400
  leaf : x.f0 ≤ 4 → x.f2 = 0 ∧ x.f3 = 0
  a0 : 4 < x.f0 → 0 ≤ x.f2 ∧ x.f2 < i
  b1 : x.f0 ≤ 6 → x.f3 = 0
  b0 : 4 < x.f0 → 0 ≤ x.f3 ∧ x.f3 < i

theorem offB_iff (x : Nd) (a b : Int) : offB x a b = false ↔ (0 ≤ x.f1 ∧ (x.f0 ≠ 1 → x.f1 = 0)) ∧ x.f2 = a ∧ x.f3 = b ∧ 0 ≤ x.f4 ∧ x.f4 ≤ 400 := by
  unfold offB
  have e4 : (mn (mx x.f4 0) 400 == x.f4) = decide (0 ≤ x.f4 ∧ x.f4 ≤ 400) := by
    rw [Bool.eq_iff_iff]; unfold mn mx; simp; split <;> split <;> omega
  have e1 : ((if x.f0 = 1 then mx x.f1 0 else 0) == x.f1) = decide (0 ≤ x.f1 ∧ (x.f0 ≠ 1 → x.f1 = 0)) := by
    rw [Bool.eq_iff_iff, beq_iff_eq, decide_eq_true_iff]
    unfold mx
    constructor
    · intro h; split at h <;> (try split at h) <;> omega
    · intro h; split <;> (try split) <;> omega
  rw [e4, e1]
  simp only [Bool.or_eq_false_iff, Bool.not_eq_false', decide_eq_true_iff, beq_iff_eq]
  constructor
  · rintro ⟨h1, h2, h3, h4⟩; exact ⟨h1, h2.symm, h3.symm, h4.1, h4.2⟩
  · rintro ⟨h1, h2, h3, h4, h5⟩; exact ⟨h1, h2.symm, h3.symm, h4, h5⟩
theorem np_kind {k : Int} {n : Nat} (h : np k = some n) : 1 ≤ k ∧ k ≤ 19 ∧ (n = 0 ∧ k ≤ 4 ∨ n = 1 ∧ 4 < k ∧ k ≤ 6 ∨ n = 2 ∧ 6 < k) := by
  unfold np at h
  repeat' split at h
  all_goals first | (injection h with h; omega) | cases h

theorem tA_lt {ys : List Tp} {i : Nat} (hi : ∀ t ∈ ys, 0 ≤ t.f0 ∧ t.f0 < i) (h : 0 < ys.length) : 0 ≤ tA ys ∧ tA ys < i := by
  cases ys with
  | nil => simp at h
  | cons t ys => exact hi t (by simp)
theorem tB_lt {ys : List Tp} {i : Nat} (hi : ∀ t ∈ ys, 0 ≤ t.f0 ∧ t.f0 < i) (h : 0 < ys.length) : 0 ≤ tB ys ∧ tB ys < i := by
  unfold tB
  split
  · have := tA_lt hi h; omega
  · have hne : ys ≠ [] := by intro h; subst h; simp at *
    rw [List.getLastD_eq_getLast?, List.getLast?_eq_some_getLast hne]
    exact hi _ (List.getLast_mem hne)

theorem ok_go : ∀ (rest : List Nd) (i : Nat) (all stk all' : List Tp), topsGo rest i all stk = (all', true) → (∀ t ∈ stk, 0 ≤ t.f0 ∧ t.f0 < i) → ∀ (j : Nat) x, rest[j]? = some x → NodeOk (i + j) x := by
  intro rest
  induction rest with
  | nil => intro i all stk all' h hs j x hx; simp at hx
  | cons y rest ih =>
    intro i all stk all' h hs j x hx
    simp only [topsGo] at h
    cases hst : tstep (i : Int) y stk with
    | none => rw [hst] at h; simp at h
    | some r =>
      obtain ⟨stk', t⟩ := r
      rw [hst] at h
      unfold tstep at hst
      cases hn : np y.f0 with
      | none => rw [hn] at hst; cases hst
      | some n =>
        rw [hn] at hst
        dsimp only at hst
        by_cases h1 : stk.length < n
        · rw [if_pos h1] at hst; cases hst
        · rw [if_neg h1] at hst
          obtain ⟨ys, hys⟩ : ∃ ys, ys = stk.drop (stk.length - n) := ⟨_, rfl⟩
          rw [← hys] at hst
          cases ho : offB y (tA ys) (tB ys) with
          | true => rw [ho, if_pos rfl] at hst; cases hst
          | false =>
            rw [ho, if_neg (by simp)] at hst
            simp only [Option.some.injEq, Prod.mk.injEq] at hst
            obtain ⟨rfl, rfl⟩ := hst
            have hyl : ys.length = n := by rw [hys, List.length_drop]; omega
            have hym : ∀ t ∈ ys, 0 ≤ t.f0 ∧ t.f0 < i := fun t ht => hs t (by rw [hys] at ht; exact List.mem_of_mem_drop ht)
            obtain ⟨⟨o1, o2⟩, o3, o4, o5, o6⟩ := (offB_iff _ _ _).1 ho
            obtain ⟨k1, k2, k3⟩ := np_kind hn
            cases j with
            | zero =>
              obtain rfl : y = x := by simpa using hx
              rw [Nat.add_zero]
              have hA := fun h => tA_lt hym h
              have hB := fun h => tB_lt hym h
              refine ⟨k1, k2, o1, o2, o5, o6, fun h4 => ?_, fun h4 => ?_, fun h6 => ?_, fun h4 => ?_⟩
              · have hy0 : ys = [] := List.eq_nil_of_length_eq_zero (by omega)
                subst hy0
                exact ⟨o3, o4⟩
              · rw [o3]; exact hA (by omega)
              · rw [o4]; unfold tB; rw [if_pos (by omega)]
              · rw [o4]; exact hB (by omega)
            | succ j =>
              have hx' : rest[j]? = some x := by simpa using hx
              have := ih (i + 1) _ _ all' h (fun t ht => by
                rcases List.mem_append.1 ht with ht | ht
                · have := hs t (List.mem_of_mem_take ht); omega
                · rw [List.mem_singleton.1 ht]; dsimp only; omega) j x hx'
              rwa [show i + 1 + j = i + (j + 1) by omega] at this
/-- A list that the check lets through. -/
theorem valid_ok {l : List Nd} {all : List Tp} (h : nodes_tops.f l = (all, true)) (j : Nat) (x : Nd) (hx : l[j]? = some x) : NodeOk j x := by
  have := ok_go l 0 [] [] all h (fun t ht => by simp at ht) j x hx
  rwa [Nat.zero_add] at this

/-- Does a node of a list fit. -/
def fitx (l : List Nd) (x : Nd) : Bool := decide (x.f0 ≤ 4) || kfit x.f0 (kgive (rd_T27 l x.f2).f0) (kgive (rd_T27 l x.f3).f0)
theorem kgive_leaf {k : Int} (h : k ≤ 4) : kgive k = false := by unfold kgive; simp; omega
theorem rd_give (l : List Nd) (i : Nat) (j : Int) (h0 : 0 ≤ j) (h1 : j < i) (hi : i ≤ l.length) : rdOf false ((l.take i).map (fun x => kgive x.f0)) j = kgive (rd_T27 l j).f0 := by
  unfold rdOf rd_T27
  have hl : j.toNat < l.length := by omega
  have hlt : j.toNat < i := by omega
  have e : ((l.take i).map (fun x => kgive x.f0))[j.toNat]? = some (kgive l[j.toNat].f0) := by
    rw [List.getElem?_map, List.getElem?_take_of_lt hlt, List.getElem?_eq_getElem hl]; rfl
  rw [List.getD_eq_getElem?_getD, e, List.getD_eq_getElem?_getD, List.getElem?_eq_getElem hl]
  rfl
theorem told_go (l : List Nd) (hv : ∀ (j : Nat) x, l[j]? = some x → NodeOk j x) : ∀ (rest : List Nd) (i : Nat), l.drop i = rest → i ≤ l.length →
    toldGo rest i ((l.take i).map (fun x => kgive x.f0)) = if rest.findIdx (fun x => !fitx l x) < rest.length then some ([], ((i + rest.findIdx (fun x => !fitx l x) : Nat) : Int)) else some (l.map (fun x => kgive x.f0), (l.length : Int)) := by
  intro rest
  induction rest with
  | nil =>
    intro i hd hi
    have hil : i = l.length := by
      have := congrArg List.length hd
      rw [List.length_drop] at this
      simp at this; omega
    subst hil
    simp [toldGo]
  | cons x rest ih =>
    intro i hd hi
    have hx : l[i]? = some x := by
      have := congrArg List.head? hd
      rwa [List.head?_drop] at this
    have hd' : l.drop (i + 1) = rest := by
      have := congrArg List.tail hd
      rwa [List.tail_drop] at this
    have hi' : i < l.length := (List.getElem?_eq_some_iff.1 hx).1
    have htk : (l.take (i + 1)).map (fun x => kgive x.f0) = (l.take i).map (fun x => kgive x.f0) ++ [kgive x.f0] := by
      rw [List.take_add_one, hx]; simp
    have hok := hv i x hx
    have h1 := ih (i + 1) hd' (by omega)
    rw [htk] at h1
    have hlen : ((l.take i).map (fun x => kgive x.f0)).length = i := by simp; omega
    simp only [toldGo]
    rw [List.findIdx_cons]
    by_cases h4 : x.f0 ≤ 4
    · have hf : fitx l x = true := by unfold fitx; simp [h4]
      rw [if_pos h4, hf]
      have e1 : ((i : Int) + 1) = ((i + 1 : Nat) : Int) := by omega
      rw [kgive_leaf h4] at h1
      rw [e1, h1]
      simp only [Bool.not_true, cond_false, List.length_cons]
      by_cases hlt : rest.findIdx (fun x => !fitx l x) < rest.length
      · rw [if_pos hlt, if_pos (by omega), show i + 1 + rest.findIdx (fun x => !fitx l x) = i + (rest.findIdx (fun x => !fitx l x) + 1) by omega]
      · rw [if_neg hlt, if_neg (by omega)]
    · have hA := hok.a0 (by omega)
      have hB := hok.b0 (by omega)
      rw [if_neg h4, hlen, if_pos ⟨hA.1, hA.2, hB.1, hB.2⟩, rd_give l i _ hA.1 hA.2 hi, rd_give l i _ hB.1 hB.2 hi]
      have hf : fitx l x = kfit x.f0 (kgive (rd_T27 l x.f2).f0) (kgive (rd_T27 l x.f3).f0) := by unfold fitx; simp [h4]
      rw [← hf]
      cases hfx : fitx l x with
      | true =>
        have e1 : ((i : Int) + 1) = ((i + 1 : Nat) : Int) := by omega
        rw [if_pos rfl, e1, h1]
        simp only [Bool.not_true, cond_false, List.length_cons]
        by_cases hlt : rest.findIdx (fun x => !fitx l x) < rest.length
        · rw [if_pos hlt, if_pos (by omega), show i + 1 + rest.findIdx (fun x => !fitx l x) = i + (rest.findIdx (fun x => !fitx l x) + 1) by omega]
        · rw [if_neg hlt, if_neg (by omega)]
      | false => simp
/-- What kinds.told tells of a valid list. -/
def wrongAt (l : List Nd) : Nat := l.findIdx (fun x => !fitx l x)
theorem told_valid {l : List Nd} {all : List Tp} (h : nodes_tops.f l = (all, true)) (hl : l.length ≤ 60) :
    kinds_told.f l = if wrongAt l < l.length then some ([], (wrongAt l : Int)) else some (l.map (fun x => kgive x.f0), (l.length : Int)) := by
  unfold kinds_told.f
  rw [if_pos (by omega)]
  have := told_go l (valid_ok h) l 0 rfl (Nat.zero_le _)
  simpa [wrongAt] using this

end Go.Proofs.Ytijdckamblaflaa.M
