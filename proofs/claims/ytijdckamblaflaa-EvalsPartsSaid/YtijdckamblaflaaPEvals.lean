/- Plain lists, no memory: what evals.All tells of the row of a tree. -/
import Derived.Test.YtijdckamblaflaaPTree
import Derived.Test.YtijdckamblaflaaPInts
import Derived.Test.YtijdckamblaflaaGEvalsAll
import Derived.Test.YtijdckamblaflaaMEvalsOf
namespace Go.Proofs.Ytijdckamblaflaa.M
open Go.RowKit Go.Proofs.YtijdckamblaflaaW.PrintWords Go.Proofs.YtijdckamblaflaaW.PrintLast Go.Proofs.YtijdckamblaflaaW.PrintMore
set_option linter.unusedVariables false
set_option linter.unusedSimpArgs false

open Ex in
theorem of_any (l : List Nd) : ∃ g i e, kinds_Of.f l = some (g, i, e) ∧ (e = 0 → ∃ t : Ex, t.Ok ∧ l = t.ser 0 ∧ t.size ≤ 60 ∧ t.depth ≤ 20 ∧ wrongAt (t.ser 0) = t.size ∧ g = kgive t.kd) := by
  obtain ⟨all, c, hck, _, _⟩ := check_eq l
  by_cases hc : c = 0
  · subst hc
    obtain ⟨t, ht, rfl, rfl, hz, hd⟩ := parse hck
    rw [of_tree ht hz hd]
    have hle := wrong_le t
    by_cases hw : wrongAt (t.ser 0) < t.size
    · rw [if_pos hw]; exact ⟨_, _, _, rfl, fun h => by cases h⟩
    · rw [if_neg hw]; exact ⟨_, _, _, rfl, fun _ => ⟨t, ht, rfl, hz, hd, by omega, rfl⟩⟩
  · refine ⟨false, 0, c, ?_, fun h => absurd h hc⟩
    unfold kinds_Of.f nodes_Check.f
    rw [hck, Option.bind_some, Option.bind_some, if_neg hc]
namespace Ex
/-- The value of a tree for a record. -/
def val (a b c : Int) : Ex → Int
  | leaf k n t => if k = 1 then n else leafVal a b c k
  | one k t x => opv k (x.val a b c) 0
  | two k t x y => opv k (x.val a b c) (y.val a b c)
def vals (a b c : Int) : Ex → List Int
  | leaf k n t => [val a b c (leaf k n t)]
  | one k t x => x.vals a b c ++ [val a b c (one k t x)]
  | two k t x y => x.vals a b c ++ (y.vals a b c ++ [val a b c (two k t x y)])
variable {a b c : Int}
theorem vals_len : ∀ (e : Ex), (e.vals a b c).length = e.size
  | leaf _ _ _ => rfl
  | one _ _ x => by simp [vals, size, vals_len x]
  | two _ _ x y => by simp [vals, size, vals_len x, vals_len y]; omega
theorem vals_last : ∀ (e : Ex), ∃ p, e.vals a b c = p ++ [e.val a b c]
  | leaf _ _ _ => ⟨[], rfl⟩
  | one _ _ x => ⟨_, rfl⟩
  | two _ _ x y => ⟨x.vals a b c ++ y.vals a b c, by simp [vals]⟩
theorem Sub.vals {e o s} (h : Sub e o s) : ∃ p q, e.vals a b c = p ++ (s.vals a b c ++ q) ∧ p.length = o := by
  induction h with
  | refl => exact ⟨[], [], by simp, rfl⟩
  | one _ ih => obtain ⟨p, q, h1, h2⟩ := ih; exact ⟨p, q ++ [_], by simp only [Ex.vals, h1, List.append_assoc]; rfl, h2⟩
  | left _ ih => obtain ⟨p, q, h1, h2⟩ := ih; exact ⟨p, q ++ (_ ++ [_]), by simp only [Ex.vals, h1, List.append_assoc]; rfl, h2⟩
  | @right k t x y o s _ ih => obtain ⟨p, q, h1, h2⟩ := ih; exact ⟨x.vals a b c ++ p, q ++ [_], by simp only [Ex.vals, h1, List.append_assoc]; rfl, by rw [List.length_append, vals_len, h2]⟩
theorem last_get {l p : List Int} {x : Int} {n : Nat} (h : l = p ++ [x]) (hn : l.length = n) (pre post : List Int) : (pre ++ (l ++ post))[pre.length + n - 1]? = some x := by
  have hl : p.length + 1 = n := by rw [← hn, h]; simp
  rw [List.getElem?_append_right (by omega), h, List.append_assoc, List.getElem?_append_right (by omega), show pre.length + n - 1 - pre.length - p.length = 0 by omega]
  rfl
theorem Sub.getV {e o s} (h : Sub e o s) : (e.vals a b c)[o + s.size - 1]? = some (s.val a b c) := by
  obtain ⟨p, q, h1, h2⟩ := h.vals (a := a) (b := b) (c := c)
  obtain ⟨p', h3⟩ := vals_last (a := a) (b := b) (c := c) s
  rw [h1, ← h2]
  exact last_get h3 (vals_len s) p q
theorem Sub.rdV {e o s} (h : Sub e o s) : rd (e.vals a b c) ((o + s.size - 1 : Nat) : Int) = s.val a b c := by
  unfold rd
  rw [Int.toNat_natCast, List.getD_eq_getElem?_getD, h.getV]; rfl
theorem set_zero (p : List Int) (n : Nat) (x : Int) : (p ++ List.replicate (n + 1) 0).set p.length x = (p ++ [x]) ++ List.replicate n 0 := by
  rw [List.set_append_right _ _ (Nat.le_refl _), Nat.sub_self, List.replicate_succ, List.set_cons_zero, List.append_assoc]; rfl
theorem rd_last (pre : List Int) (e : Ex) (post : List Int) : rd (pre ++ (e.vals a b c ++ post)) ((pre.length + e.size - 1 : Nat) : Int) = e.val a b c := by
  obtain ⟨p, h⟩ := vals_last (a := a) (b := b) (c := c) e
  unfold rd
  rw [Int.toNat_natCast, List.getD_eq_getElem?_getD, last_get h (vals_len e) pre post]; rfl
theorem ev_leaf {k n t : Int} (h : (leaf k n t).Ok) (i : Nat) (rest : List Nd) (v : List Int) : evGo a b c (root i (leaf k n t) :: rest) i v = evGo a b c rest (i + 1) (v.set i (val a b c (leaf k n t))) := by
  have h1 := h.1
  rw [show root i (leaf k n t) = (⟨k, n, 0, 0, t⟩ : Nd) from rfl, evGo]
  dsimp only
  unfold val
  by_cases hk : k = 1
  · rw [if_pos hk, if_pos hk]
  · rw [if_neg hk, if_neg hk, if_pos ⟨by omega, h1.2⟩]
theorem ev_op {k : Int} (hk : 5 ≤ k ∧ k ≤ 19) {m n t : Int} (i : Nat) (rest : List Nd) (v : List Int) (hm : 0 ≤ m ∧ m < v.length) (hn : 0 ≤ n ∧ n < v.length) : evGo a b c ((⟨k, 0, m, n, t⟩ : Nd) :: rest) i v = evGo a b c rest (i + 1) (v.set i (opv k (rd v m) (rd v n))) := by
  rw [evGo]
  dsimp only
  rw [if_neg (by omega), if_neg (by omega), if_neg (by omega), if_pos ⟨hm.1, hm.2, hn.1, hn.2⟩, do_eq hk, Option.bind_some, if_pos rfl]
theorem ev_ser : ∀ (e : Ex) (pre : List Int) (n : Nat) (rest : List Nd), e.Ok → evGo a b c (e.ser pre.length ++ rest) pre.length (pre ++ List.replicate (e.size + n) 0) = evGo a b c rest (pre.length + e.size) ((pre ++ e.vals a b c) ++ List.replicate n 0)
  | leaf k m t, pre, n, rest, h => by
    simp only [ser, List.cons_append, List.nil_append, size]
    rw [ev_leaf h, Nat.add_comm 1 n, set_zero]
    rfl
  | one k t x, pre, n, rest, h => by
    have hp := size_pos x
    have hx := ev_ser x pre (n + 1) (root pre.length (one k t x) :: rest) h.2.2
    have hk := h.1
    have hl : ((pre ++ x.vals a b c)).length = pre.length + x.size := by rw [List.length_append, vals_len]
    simp only [ser, size, List.append_assoc, List.cons_append, List.nil_append]
    rw [show x.size + 1 + n = x.size + (n + 1) by omega, hx]
    have hr := rd_last (a := a) (b := b) (c := c) pre x (List.replicate (n + 1) 0)
    rw [← List.append_assoc] at hr
    have hs := set_zero (pre ++ x.vals a b c) n (val a b c (one k t x))
    rw [hl] at hs
    simp only [root]
    rw [ev_op ⟨by omega, by omega⟩ _ _ _ ⟨by omega, by rw [List.length_append, List.length_append, vals_len]; omega⟩ ⟨by omega, by rw [List.length_append, List.length_append, vals_len]; omega⟩, hr, opv_one hk _ _ 0]
    simp only [vals, List.append_assoc] at hs ⊢
    rw [← Nat.add_assoc, ← hs]
    rfl
  | two k t x y, pre, n, rest, h => by
    have hp := size_pos x
    have hq := size_pos y
    have hl : ((pre ++ x.vals a b c)).length = pre.length + x.size := by rw [List.length_append, vals_len]
    have hl2 : ((pre ++ x.vals a b c) ++ y.vals a b c).length = pre.length + x.size + y.size := by rw [List.length_append, hl, vals_len]
    have hx := ev_ser x pre (y.size + (n + 1)) (y.ser (pre.length + x.size) ++ root pre.length (two k t x y) :: rest) h.2.2.1
    have hy := ev_ser y (pre ++ x.vals a b c) (n + 1) (root pre.length (two k t x y) :: rest) h.2.2.2
    rw [hl] at hy
    have hk := h.1
    simp only [ser, size, List.append_assoc, List.cons_append, List.nil_append] at hx hy ⊢
    rw [show x.size + y.size + 1 + n = x.size + (y.size + (n + 1)) by omega, hx, hy]
    have hr := rd_last (a := a) (b := b) (c := c) pre x (y.vals a b c ++ List.replicate (n + 1) 0)
    have hr2 := rd_last (a := a) (b := b) (c := c) (pre ++ x.vals a b c) y (List.replicate (n + 1) 0)
    rw [hl, List.append_assoc] at hr2
    have hs := set_zero ((pre ++ x.vals a b c) ++ y.vals a b c) n (val a b c (two k t x y))
    rw [hl2] at hs
    simp only [root]
    rw [ev_op ⟨by omega, by omega⟩ _ _ _ ⟨by omega, by simp only [List.length_append, vals_len]; omega⟩ ⟨by omega, by simp only [List.length_append, vals_len]; omega⟩, hr, hr2]
    simp only [vals, List.append_assoc] at hs ⊢
    rw [← Nat.add_assoc, ← Nat.add_assoc, ← hs]
    rfl
/-- What evals tells of a typed tree. -/
theorem all_tree {e : Ex} (he : e.Ok) (hz : e.size ≤ 60) (hd : e.depth ≤ 20) (hw : wrongAt (e.ser 0) = e.size) : evals_All.f (e.ser 0) a b c = some (e.vals a b c, 0) := by
  have hp := size_pos e
  unfold evals_All.f evals_check.f
  rw [of_tree he hz hd, hw, if_neg (Nat.lt_irrefl _), Option.bind_some, Option.bind_some]
  dsimp only
  rw [if_pos rfl, ser_len, if_pos (by omega)]
  have := ev_ser (a := a) (b := b) (c := c) e [] 0 [] he
  simpa [evGo] using this
theorem evOf_tree {e : Ex} (he : e.Ok) (hz : e.size ≤ 60) (hd : e.depth ≤ 20) (hw : wrongAt (e.ser 0) = e.size) : evals_Of.f (e.ser 0) a b c = some (e.val a b c, 0) := by
  have hp := size_pos e
  have hr := (Sub.refl e).rdV (a := a) (b := b) (c := c)
  rw [Nat.zero_add] at hr
  unfold evals_Of.f
  rw [all_tree he hz hd hw, Option.bind_some]
  dsimp only
  rw [if_pos rfl, vals_len, w64 (by omega) (by omega), if_pos (by omega), if_pos (by omega), show (e.size : Int) - 1 = ((e.size - 1 : Nat) : Int) by omega, hr]
/-- A value is a number of 64 bits. -/
theorem val_rng (ha : Rng a) (hb : Rng b) (hc : Rng c) : ∀ (e : Ex) (i : Nat), e.Ok → (∀ x ∈ e.ser i, Rng x.f1) → Rng (e.val a b c)
  | leaf k n t, i, h, hx => by
    have := hx (root i (leaf k n t)) (by simp [ser])
    simp only [val]
    unfold leafVal
    repeat' split
    · exact this
    · exact ha
    · exact hb
    · exact hc
  | one k t x, i, h, hx => opv_rng ⟨by have := h.1; omega, by have := h.1; omega⟩ (val_rng ha hb hc x i h.2.2 (fun y hy => hx y (by simp [ser, hy])))
  | two k t x y, i, h, hx => opv_rng ⟨by have := h.1; omega, by have := h.1; omega⟩ (val_rng ha hb hc x i h.2.2.1 (fun z hz => hx z (by simp [ser, hz])))
theorem val_truth {e : Ex} (he : e.Ok) (hg : kgive e.kd = true) : e.val a b c = 0 ∨ e.val a b c = 1 := by
  have hg' : e.kd = 6 ∨ 12 ≤ e.kd := by
    unfold kgive at hg
    simpa using hg
  cases e with
  | leaf k n t => have := he.1; simp only [kd] at hg'; omega
  | one k t x => exact opv_truth (k := k) ⟨by have := he.1; omega, by have := he.1; omega⟩ hg' _ _
  | two k t x y => exact opv_truth (k := k) ⟨by have := he.1; omega, by have := he.1; omega⟩ hg' _ _
end Ex
theorem all_bad {l : List Nd} {g : Bool} {i x : Int} (h : kinds_Of.f l = some (g, i, x)) (hx : x ≠ 0) (a b c : Int) : evals_All.f l a b c = some ([], x) := by
  unfold evals_All.f evals_check.f
  rw [h, Option.bind_some, Option.bind_some, if_neg hx]
theorem evOf_bad {l : List Nd} {g : Bool} {i x : Int} (h : kinds_Of.f l = some (g, i, x)) (hx : x ≠ 0) (a b c : Int) : evals_Of.f l a b c = some (0, x) := by
  unfold evals_Of.f
  rw [all_bad h hx, Option.bind_some, if_neg hx]
end Go.Proofs.Ytijdckamblaflaa.M
