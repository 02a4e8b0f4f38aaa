/- Plain lists, no memory: KindsPlaces answers true for every list, place and kind of a leaf. -/
import Derived.Test.YtijdckamblaflaaPKinds
import Derived.Test.YtijdckamblaflaaMLaw06KindsPlaces
namespace Go.Proofs.Ytijdckamblaflaa.M
open Go.RowKit Go.Proofs.YtijdckamblaflaaW.PrintWords Go.Proofs.YtijdckamblaflaaW.PrintLast Go.Proofs.YtijdckamblaflaaW.PrintMore
set_option linter.unusedVariables false
set_option linter.unusedSimpArgs false
set_option linter.unusedSectionVars false

theorem alive06 : tailwaterlaw06_alive.f = some true := by decide +kernel
/-- What KindsPlaces makes of a node. -/
def put (a1 a2 : Int) (x : Nd) : Nd := if x.f0 ≤ 4 then ⟨a2, 0, x.f2, x.f3, a1⟩ else ⟨x.f0, x.f1, x.f2, x.f3, a1⟩
theorem findIdx_map' {α β : Type} (f : α → β) (p : β → Bool) (q : α → Bool) (h : ∀ x, p (f x) = q x) : ∀ l : List α, (l.map f).findIdx p = l.findIdx q
  | [] => rfl
  | x :: l => by rw [List.map_cons, List.findIdx_cons, List.findIdx_cons, h, findIdx_map' f p q h l]
section
variable {a1 a2 : Int} (h1 : 0 ≤ a1) (h1' : a1 ≤ 400) (h2 : 1 ≤ a2) (h2' : a2 ≤ 4)
include h1 h1' h2 h2'
theorem put_le (x : Nd) : (put a1 a2 x).f0 ≤ 4 ↔ x.f0 ≤ 4 := by unfold put; split <;> simp <;> omega
theorem put_step {i : Int} {x : Nd} {stk : List Tp} {r : List Tp × Tp} (h : tstep i x stk = some r) : tstep i (put a1 a2 x) stk = some r := by
  unfold tstep at h ⊢
  cases hn : np x.f0 with
  | none => rw [hn] at h; cases h
  | some n =>
    have hn' : np (put a1 a2 x).f0 = some n := by
      obtain ⟨k1, k2, k3⟩ := np_kind hn
      unfold put
      by_cases h4 : x.f0 ≤ 4
      · rw [if_pos h4]
        have : n = 0 := by omega
        subst this
        show np a2 = some 0
        unfold np
        rw [if_pos ⟨h2, h2'⟩]
      · rw [if_neg h4]; exact hn
    rw [hn] at h
    rw [hn']
    dsimp only at h ⊢
    by_cases hl : stk.length < n
    · rw [if_pos hl] at h; cases h
    · rw [if_neg hl] at h ⊢
      cases ho : offB x (tA (stk.drop (stk.length - n))) (tB (stk.drop (stk.length - n))) with
      | true => rw [ho, if_pos rfl] at h; cases h
      | false =>
        rw [ho] at h
        have ho' : offB (put a1 a2 x) (tA (stk.drop (stk.length - n))) (tB (stk.drop (stk.length - n))) = false := by
          obtain ⟨⟨o1, o2⟩, o3, o4, o5, o6⟩ := (offB_iff _ _ _).1 ho
          rw [offB_iff]
          unfold put
          split
          · exact ⟨⟨by simp, fun _ => rfl⟩, o3, o4, h1, h1'⟩
          · exact ⟨⟨o1, o2⟩, o3, o4, h1, h1'⟩
        rw [ho']
        exact h
theorem put_go : ∀ (l : List Nd) (i : Nat) (all stk all' : List Tp), topsGo l i all stk = (all', true) → topsGo (l.map (put a1 a2)) i all stk = (all', true) := by
  intro l
  induction l with
  | nil => intro i all stk all' h; exact h
  | cons x l ih =>
    intro i all stk all' h
    simp only [topsGo, List.map_cons] at h ⊢
    cases hst : tstep (i : Int) x stk with
    | none => rw [hst] at h; simp at h
    | some r =>
      rw [put_step h1 h1' h2 h2' hst]
      rw [hst] at h
      exact ih _ _ _ _ h
theorem put_give (x : Nd) : kgive (put a1 a2 x).f0 = kgive x.f0 := by
  unfold put
  split
  · rename_i h4
    rw [kgive_leaf h4]; exact kgive_leaf h2'
  · rfl
theorem put_rd (l : List Nd) (j : Int) : kgive (rd_T27 (l.map (put a1 a2)) j).f0 = kgive (rd_T27 l j).f0 := by
  unfold rd_T27
  rw [List.getD_eq_getElem?_getD, List.getD_eq_getElem?_getD, List.getElem?_map]
  cases l[j.toNat]? with
  | none => rfl
  | some x => exact put_give h1 h1' h2 h2' x
theorem put_fit (l : List Nd) (x : Nd) : fitx (l.map (put a1 a2)) (put a1 a2 x) = fitx l x := by
  unfold fitx
  rw [put_rd h1 h1' h2 h2', put_rd h1 h1' h2 h2']
  have e2 : (put a1 a2 x).f2 = x.f2 := by unfold put; split <;> rfl
  have e3 : (put a1 a2 x).f3 = x.f3 := by unfold put; split <;> rfl
  rw [e2, e3]
  by_cases h4 : x.f0 ≤ 4
  · have : (put a1 a2 x).f0 ≤ 4 := (put_le h1 h1' h2 h2' x).2 h4
    simp [h4, this]
  · have : (put a1 a2 x).f0 = x.f0 := by unfold put; rw [if_neg h4]
    rw [this]
theorem put_wrong (l : List Nd) : wrongAt (l.map (put a1 a2)) = wrongAt l := by
  unfold wrongAt
  exact findIdx_map' _ _ _ (fun x => by rw [put_fit h1 h1' h2 h2']) l
theorem put_of {l : List Nd} {all : List Tp} (h : nodes_tops.f l = (all, true)) (he : nodes_check.f l = some (all, 0)) (hl : l.length ≤ 60) : kinds_Of.f (l.map (put a1 a2)) = kinds_Of.f l := by
  have h' : nodes_tops.f (l.map (put a1 a2)) = (all, true) := put_go h1 h1' h2 h2' l 0 [] [] all h
  have he' : nodes_check.f (l.map (put a1 a2)) = some (all, 0) := by
    unfold nodes_check.f at he ⊢
    rw [List.length_map, h']
    rw [h] at he
    exact he
  unfold kinds_Of.f nodes_Check.f
  rw [he, he', told_valid h hl, told_valid h' (by rw [List.length_map]; exact hl), put_wrong h1 h1' h2 h2', List.length_map, List.map_map]
  have eg : (fun x : Nd => kgive x.f0) ∘ put a1 a2 = fun x => kgive x.f0 := funext fun x => put_give h1 h1' h2 h2' x
  rw [eg]
end
theorem rdT_set {l : List Nd} {i : Nat} {y : Nd} (h : i < l.length) : rd_T27 (l.set i y) (i : Int) = y := by
  unfold rd_T27
  simp [List.getD_eq_getElem?_getD, h]
theorem places_go (l : List Nd) {a1 a2 : Int} (hl : l.length ≤ 60) (h2' : a2 ≤ 4) (b : Bool) (hb : ((kinds_Of.f l).bind fun bt240 => ((kinds_Of.f (l.map (put a1 a2))).bind fun bt243 => (if (bt240.1 == bt243.1) = true then (if bt240.2.1 = bt243.2.1 then (if bt240.2.2 = bt243.2.2 then ((tailwaterlaw06_alive.f).bind fun t246 => (some t246)) else (some false)) else (some false)) else (some false)))) = some b) :
    ∀ (d i : Nat), i + d = l.length → ∀ k, d < k → tailwaterlaw06_KindsPlaces.l0 k l a1 a2 ((l.take i).map (put a1 a2) ++ l.drop i) i = some b := by
  intro d
  induction d with
  | zero =>
    intro i hi k hk
    obtain ⟨k, rfl⟩ : ∃ m, k = m + 1 := ⟨k - 1, by omega⟩
    have hil : i = l.length := by omega
    subst hil
    rw [List.take_length, List.drop_length, List.append_nil, tailwaterlaw06_KindsPlaces.l0, if_neg (by rw [List.length_map]; omega)]
    exact hb
  | succ d ih =>
    intro i hi k hk
    obtain ⟨k, rfl⟩ : ∃ m, k = m + 1 := ⟨k - 1, by omega⟩
    have hi' : i < l.length := by omega
    have hlen : ((l.take i).map (put a1 a2) ++ l.drop i).length = l.length := by simp; omega
    have hx : rd_T27 ((l.take i).map (put a1 a2) ++ l.drop i) (i : Int) = l[i] := by
      unfold rd_T27
      rw [Int.toNat_natCast, List.getD_eq_getElem?_getD, List.getElem?_append_right (by simp; omega)]
      simp [Nat.min_eq_left (Nat.le_of_lt hi'), hi']
    have hset : ∀ y : Nd, ((l.take i).map (put a1 a2) ++ l.drop i).set i y = (l.take i).map (put a1 a2) ++ (y :: l.drop (i + 1)) := fun y => by
      have e : i - ((l.take i).map (put a1 a2)).length = 0 := by simp; omega
      rw [List.set_append_right _ _ (by simp; omega), e, List.drop_eq_getElem_cons hi', List.set_cons_zero]
    have hnext : (l.take (i + 1)).map (put a1 a2) ++ l.drop (i + 1) = (l.take i).map (put a1 a2) ++ (put a1 a2 l[i] :: l.drop (i + 1)) := by
      rw [List.take_succ_eq_append_getElem hi', List.map_append, List.append_assoc]; rfl
    have hw1 : wrap64 ((i : Int) + 1) = ((i + 1 : Nat) : Int) := by rw [w64 (by omega) (by omega)]; omega
    have hih := ih (i + 1) (by omega) k (by omega)
    rw [hnext] at hih
    rw [tailwaterlaw06_KindsPlaces.l0, if_pos (by omega), if_pos (by omega), Option.bind_some, hx, Int.toNat_natCast, rdT_set (by omega)]
    obtain ⟨x, hG⟩ : ∃ x, x = l[i] := ⟨_, rfl⟩
    rw [← hG] at hih ⊢
    rw [hset]
    have hrd : ∀ y : Nd, rd_T27 ((l.take i).map (put a1 a2) ++ (y :: l.drop (i + 1))) (i : Int) = y := fun y => by
      rw [← hset y]; exact rdT_set (by omega)
    have hset2 : ∀ y z : Nd, ((l.take i).map (put a1 a2) ++ (y :: l.drop (i + 1))).set i z = (l.take i).map (put a1 a2) ++ (z :: l.drop (i + 1)) := fun y z => by
      rw [← hset y, List.set_set, hset]
    by_cases h4 : x.f0 ≤ 4
    · rw [if_pos h4]
      simp only [hrd, hset2, Option.bind_some, hw1]
      have e : put a1 a2 x = ⟨a2, 0, x.f2, x.f3, a1⟩ := by unfold put; rw [if_pos h4]
      rw [e] at hih
      exact hih
    · rw [if_neg h4, hw1]
      have e : put a1 a2 x = ⟨x.f0, x.f1, x.f2, x.f3, a1⟩ := by unfold put; rw [if_neg h4]
      rw [e] at hih
      exact hih
theorem places_j0 (k : Nat) (l : List Nd) (a1 a2 : Int) : tailwaterlaw06_KindsPlaces.j0 (k + 1) l a1 a2 true = some true := by
  rw [tailwaterlaw06_KindsPlaces.j0, if_pos rfl, alive06]; rfl
theorem Places (l : List Nd) (a1 a2 : Int) : ∃ k, tailwaterlaw06_KindsPlaces.f k l a1 a2 = some true := by
  obtain ⟨all, e, hck, hrk, hg⟩ := check_eq l
  refine ⟨l.length + 3, ?_⟩
  unfold tailwaterlaw06_KindsPlaces.f
  rw [show tailwaterref04_Great.f l = some (decide ((l.length : Int) > 70)) from rfl, Option.bind_some]
  by_cases hgr : decide ((l.length : Int) > 70) = true
  · rw [if_pos hgr]; exact places_j0 _ _ _ _
  · rw [if_neg hgr, hrk _ (by omega), Option.bind_some]
    by_cases he : e = 0
    · rw [if_pos he]
      by_cases h1 : a1 < 0
      · rw [if_pos h1]; exact places_j0 _ _ _ _
      · rw [if_neg h1]
        by_cases h2 : a1 > 400
        · rw [if_pos h2]; exact places_j0 _ _ _ _
        · rw [if_neg h2]
          by_cases h3 : a2 < 1
          · rw [if_pos h3]; exact places_j0 _ _ _ _
          · rw [if_neg h3]
            by_cases h4 : a2 > 4
            · rw [decide_eq_true h4]; exact places_j0 _ _ _ _
            · rw [decide_eq_false h4]
              obtain ⟨hgone, hl, ht⟩ := hg he
              subst he
              rw [tailwaterlaw06_KindsPlaces.j0, if_neg (by simp), Option.bind_some, if_pos (by simp; omega), List.nil_append]
              have hof := put_of (a1 := a1) (a2 := a2) (by omega) (by omega) (by omega) (by omega) ht hck hl
              have := places_go l hl (a1 := a1) (a2 := a2) (by omega) true (by
                rw [hof, alive06]
                unfold kinds_Of.f nodes_Check.f
                rw [hck, told_valid ht hl]
                simp only [Option.bind_some, if_true]
                by_cases hw : wrongAt l < l.length
                · rw [if_pos hw]
                  simp only [Option.bind_some]
                  rw [if_pos (by omega)]
                  simp
                · rw [if_neg hw]
                  simp only [Option.bind_some]
                  have h0 := hgone.2.2.1
                  have hw2 : wrap64 ((l.length : Int) - 1) = ((l.length - 1 : Nat) : Int) := by rw [w64 (by omega) (by omega)]; omega
                  rw [if_neg (by omega), hw2, if_pos (by omega), if_pos (by rw [List.length_map]; omega)]
                  simp) l.length 0 (by omega) (l.length + 2) (by omega)
              simpa using this
    · rw [if_neg he]; exact places_j0 _ _ _ _

end Go.Proofs.Ytijdckamblaflaa.M
