import Derived.Test.YtcdgohoinmbpfaaKFilterTwice21
import Derived.Test.YtcdgohoinmbpfaaKFilterTwice15
namespace Go.Proofs.Ytcdgohoinmbpfaa.M
open Go.RowKit Go.Proofs.YtcdgohoinmbpfaaW.PrintWords Go.Proofs.YtcdgohoinmbpfaaW.PrintLast Go.Proofs.YtcdgohoinmbpfaaW.PrintMore
set_option linter.unusedVariables false
set_option linter.unusedSimpArgs false

inductive Ex
  | leaf (k n t : Int)
  | one (k t : Int) (a : Ex)
  | two (k t : Int) (a c : Ex)
namespace Ex
def size : Ex → Nat
  | leaf _ _ _ => 1
  | one _ _ a => a.size + 1
  | two _ _ a c => a.size + c.size + 1
def depth : Ex → Nat
  | leaf _ _ _ => 1
  | one _ _ a => a.depth + 1
  | two _ _ a c => max a.depth c.depth + 1
def kd : Ex → Int
  | leaf k _ _ => k
  | one k _ _ => k
  | two k _ _ _ => k
def root (b : Nat) : Ex → Nd
  | leaf k n t => ⟨k, n, 0, 0, t⟩
  | one k t a => ⟨k, 0, ((b + a.size - 1 : Nat) : Int), 0, t⟩
  | two k t a c => ⟨k, 0, ((b + a.size - 1 : Nat) : Int), ((b + a.size + c.size - 1 : Nat) : Int), t⟩
def ser (b : Nat) : Ex → List Nd
  | leaf k n t => [root b (leaf k n t)]
  | one k t a => a.ser b ++ [root b (one k t a)]
  | two k t a c => a.ser b ++ (c.ser (b + a.size) ++ [root b (two k t a c)])
def top (b : Nat) (e : Ex) : Tp := ⟨((b + e.size - 1 : Nat) : Int), e.size, e.depth⟩
def tb (b : Nat) : Ex → List Tp
  | leaf k n t => [top b (leaf k n t)]
  | one k t a => a.tb b ++ [top b (one k t a)]
  | two k t a c => a.tb b ++ (c.tb (b + a.size) ++ [top b (two k t a c)])
def Ok : Ex → Prop
  | leaf k n t => (1 ≤ k ∧ k ≤ 4) ∧ (0 ≤ n ∧ (k ≠ 1 → n = 0)) ∧ (0 ≤ t ∧ t ≤ 400)
  | one k t a => (5 ≤ k ∧ k ≤ 6) ∧ (0 ≤ t ∧ t ≤ 400) ∧ a.Ok
  | two k t a c => (7 ≤ k ∧ k ≤ 19) ∧ (0 ≤ t ∧ t ≤ 400) ∧ a.Ok ∧ c.Ok
inductive Sub : Ex → Nat → Ex → Prop
  | refl (e) : Sub e 0 e
  | one {k t a o s} : Sub a o s → Sub (one k t a) o s
  | left {k t a c o s} : Sub a o s → Sub (two k t a c) o s
  | right {k t a c o s} : Sub c o s → Sub (two k t a c) (a.size + o) s
theorem size_pos : ∀ e : Ex, 0 < e.size
  | leaf _ _ _ => Nat.one_pos
  | one _ _ _ => Nat.succ_pos _
  | two _ _ _ _ => Nat.succ_pos _
theorem depth_le : ∀ e : Ex, 1 ≤ e.depth ∧ e.depth ≤ e.size
  | leaf _ _ _ => ⟨Nat.le_refl _, Nat.le_refl _⟩
  | one _ _ a => by have := depth_le a; simp only [depth, size]; omega
  | two _ _ a c => by have h1 := depth_le a; have h2 := depth_le c; simp only [depth, size]; omega
theorem ser_len : ∀ (e : Ex) b, (e.ser b).length = e.size
  | leaf _ _ _, b => rfl
  | one _ _ a, b => by simp [ser, size, ser_len a]
  | two _ _ a c, b => by simp [ser, size, ser_len a, ser_len c]; omega
theorem tb_len : ∀ (e : Ex) b, (e.tb b).length = e.size
  | leaf _ _ _, b => rfl
  | one _ _ a, b => by simp [tb, size, tb_len a]
  | two _ _ a c, b => by simp [tb, size, tb_len a, tb_len c]; omega
theorem root_kd : ∀ (e : Ex) b, (e.root b).f0 = e.kd
  | leaf _ _ _, b => rfl
  | one _ _ a, b => rfl
  | two _ _ a c, b => rfl
theorem ser_last : ∀ (e : Ex) b, ∃ p, e.ser b = p ++ [e.root b]
  | leaf _ _ _, b => ⟨[], rfl⟩
  | one _ _ a, b => ⟨_, rfl⟩
  | two _ _ a c, b => ⟨a.ser b ++ c.ser (b + a.size), by simp [ser]⟩
theorem tb_last : ∀ (e : Ex) b, ∃ p, e.tb b = p ++ [e.top b]
  | leaf _ _ _, b => ⟨[], rfl⟩
  | one _ _ a, b => ⟨_, rfl⟩
  | two _ _ a c, b => ⟨a.tb b ++ c.tb (b + a.size), by simp [tb]⟩
namespace Sub
theorem ok {e o s} (h : Sub e o s) (he : e.Ok) : s.Ok := by
  induction h with
  | refl => exact he
  | one _ ih => exact ih he.2.2
  | left _ ih => exact ih he.2.2.1
  | right _ ih => exact ih he.2.2.2
theorem depth {e o s} (h : Sub e o s) : s.depth ≤ e.depth := by
  induction h with
  | refl => exact Nat.le_refl _
  | one _ ih => simp only [Ex.depth]; omega
  | left _ ih => simp only [Ex.depth]; omega
  | right _ ih => simp only [Ex.depth]; omega
theorem size {e o s} (h : Sub e o s) : o + s.size ≤ e.size := by
  induction h with
  | refl => omega
  | one _ ih => simp only [Ex.size]; omega
  | left _ ih => simp only [Ex.size]; omega
  | right _ ih => simp only [Ex.size]; omega
theorem trans {e o s} (h : Sub e o s) : ∀ {o' s'}, Sub s o' s' → Sub e (o + o') s' := by
  induction h with
  | refl => intro o' s' h'; rw [Nat.zero_add]; exact h'
  | one _ ih => intro o' s' h'; exact .one (ih h')
  | left _ ih => intro o' s' h'; exact .left (ih h')
  | right _ ih => intro o' s' h'; rw [Nat.add_assoc]; exact .right (ih h')
theorem at_ : ∀ (e : Ex) (i : Nat), i < e.size → ∃ o s, Sub e o s ∧ o + s.size = i + 1
  | .leaf k n t, i, h => ⟨0, _, .refl _, by simp only [Ex.size] at h ⊢; omega⟩
  | .one k t a, i, h => by
    by_cases h1 : i < a.size
    · obtain ⟨o, s, hs, he⟩ := at_ a i h1
      exact ⟨o, s, .one hs, he⟩
    · exact ⟨0, _, .refl _, by simp only [Ex.size] at h ⊢; omega⟩
  | .two k t a c, i, h => by
    by_cases h1 : i < a.size
    · obtain ⟨o, s, hs, he⟩ := at_ a i h1
      exact ⟨o, s, .left hs, he⟩
    · by_cases h2 : i < a.size + c.size
      · obtain ⟨o, s, hs, he⟩ := at_ c (i - a.size) (by omega)
        exact ⟨a.size + o, s, .right hs, by omega⟩
      · exact ⟨0, _, .refl _, by simp only [Ex.size] at h ⊢; omega⟩
theorem ser {e o s} (h : Sub e o s) : ∀ b, ∃ p q, e.ser b = p ++ (s.ser (b + o) ++ q) ∧ p.length = o := by
  induction h with
  | refl => intro b; exact ⟨[], [], by simp, rfl⟩
  | one _ ih => intro b; obtain ⟨p, q, h1, h2⟩ := ih b; exact ⟨p, q ++ [_], by simp only [Ex.ser, h1, List.append_assoc]; rfl, h2⟩
  | left _ ih => intro b; obtain ⟨p, q, h1, h2⟩ := ih b; exact ⟨p, q ++ (_ ++ [_]), by simp only [Ex.ser, h1, List.append_assoc]; rfl, h2⟩
  | @right k t a c o s _ ih => intro b; obtain ⟨p, q, h1, h2⟩ := ih (b + a.size); exact ⟨a.ser b ++ p, q ++ [_], by simp only [Ex.ser, h1, List.append_assoc, Nat.add_assoc]; rfl, by rw [List.length_append, ser_len, h2]⟩
theorem tb {e o s} (h : Sub e o s) : ∀ b, ∃ p q, e.tb b = p ++ (s.tb (b + o) ++ q) ∧ p.length = o := by
  induction h with
  | refl => intro b; exact ⟨[], [], by simp, rfl⟩
  | one _ ih => intro b; obtain ⟨p, q, h1, h2⟩ := ih b; exact ⟨p, q ++ [_], by simp only [Ex.tb, h1, List.append_assoc]; rfl, h2⟩
  | left _ ih => intro b; obtain ⟨p, q, h1, h2⟩ := ih b; exact ⟨p, q ++ (_ ++ [_]), by simp only [Ex.tb, h1, List.append_assoc]; rfl, h2⟩
  | @right k t a c o s _ ih => intro b; obtain ⟨p, q, h1, h2⟩ := ih (b + a.size); exact ⟨a.tb b ++ p, q ++ [_], by simp only [Ex.tb, h1, List.append_assoc, Nat.add_assoc]; rfl, by rw [List.length_append, tb_len, h2]⟩
theorem get {e o s} (h : Sub e o s) (b : Nat) : (e.ser b)[o + s.size - 1]? = some (s.root (b + o)) := by
  obtain ⟨p, q, h1, h2⟩ := h.ser b
  obtain ⟨p', h3⟩ := ser_last s (b + o)
  have hl := ser_len s (b + o)
  rw [h3, List.length_append, List.length_singleton] at hl
  rw [h1, h3, List.getElem?_append_right (by omega), List.append_assoc, List.getElem?_append_right (by omega)]
  rw [show o + s.size - 1 - p.length - p'.length = 0 by omega]
  rfl
theorem cut {e o s} (h : Sub e o s) (b : Nat) : ((e.ser b).take (o + s.size)).drop o = s.ser (b + o) := by
  obtain ⟨p, q, h1, h2⟩ := h.ser b
  have hl := ser_len s (b + o)
  rw [h1, List.take_append, List.drop_append]
  have e1 : o + s.size - p.length = s.size := by omega
  have e2 : (p.take (o + s.size)) = p := List.take_of_length_le (by omega)
  rw [e1, e2, List.drop_of_length_le (by omega), List.nil_append, show o - p.length = 0 by omega, List.drop_zero, List.take_append, hl, Nat.sub_self, List.take_zero, List.append_nil, List.take_of_length_le (by omega)]
end Sub
theorem np0 {k : Int} (h : 1 ≤ k ∧ k ≤ 4) : np k = some 0 := by unfold np; rw [if_pos h]
theorem np1 {k : Int} (h : 5 ≤ k ∧ k ≤ 6) : np k = some 1 := by unfold np; rw [if_neg (by omega), if_pos (by omega)]
theorem np2 {k : Int} (h : 7 ≤ k ∧ k ≤ 19) : np k = some 2 := by unfold np; rw [if_neg (by omega), if_neg (by omega), if_pos h]
theorem tA1 (p : Tp) : tA [p] = p.f0 := rfl
theorem tB1 (p : Tp) : tB [p] = 0 := rfl
theorem tA2 (p q : Tp) : tA [p, q] = p.f0 := rfl
theorem tB2 (p q : Tp) : tB [p, q] = q.f0 := rfl
theorem tstep_leaf {k n t : Int} (h : (leaf k n t).Ok) (b : Nat) (stk : List Tp) : tstep (b : Int) (root b (leaf k n t)) stk = some (stk ++ [top b (leaf k n t)], top b (leaf k n t)) := by
  obtain ⟨h1, h2, h3⟩ := h
  unfold tstep
  rw [show (root b (leaf k n t)).f0 = k from rfl, np0 h1]
  dsimp only
  rw [if_neg (Nat.not_lt_zero _), Nat.sub_zero, List.drop_length, List.take_length, if_neg (by rw [Bool.not_eq_true, offB_iff]; exact ⟨h2, rfl, rfl, h3⟩)]
  rfl
theorem off_one {k t : Int} {a : Ex} (h2 : 0 ≤ t ∧ t ≤ 400) (b : Nat) : offB (root b (one k t a)) (top b a).f0 0 = false :=
  (offB_iff _ _ _).2 ⟨⟨Int.le_refl _, fun _ => rfl⟩, rfl, rfl, h2⟩
theorem off_two {k t : Int} {a c : Ex} (h2 : 0 ≤ t ∧ t ≤ 400) (b : Nat) : offB (root b (two k t a c)) (top b a).f0 (top (b + a.size) c).f0 = false :=
  (offB_iff _ _ _).2 ⟨⟨Int.le_refl _, fun _ => rfl⟩, rfl, rfl, h2⟩
theorem tS1 (p : Tp) : tS [p] = wrap64 (1 + p.f1) := rfl
theorem tD1 (p : Tp) : tD [p] = mx 1 (wrap64 (p.f2 + 1)) := rfl
theorem tS2 (p q : Tp) : tS [p, q] = wrap64 (wrap64 (1 + p.f1) + q.f1) := rfl
theorem tD2 (p q : Tp) : tD [p, q] = mx (mx 1 (wrap64 (p.f2 + 1))) (wrap64 (q.f2 + 1)) := rfl
theorem top1 (b : Nat) (e : Ex) : (top b e).f1 = (e.size : Int) := rfl
theorem top2 (b : Nat) (e : Ex) : (top b e).f2 = (e.depth : Int) := rfl
theorem top_mk {b : Nat} {e : Ex} {x y z : Int} (h0 : x = ((b + e.size - 1 : Nat) : Int)) (h1 : y = e.size) (h2 : z = e.depth) : (⟨x, y, z⟩ : Tp) = top b e := by subst h0 h1 h2; rfl
theorem tstep_one {k t : Int} {a : Ex} (h : (one k t a).Ok) (b : Nat) (stk : List Tp) (hb : b + a.size ≤ 1000) : tstep ((b + a.size : Nat) : Int) (root b (one k t a)) (stk ++ [top b a]) = some (stk ++ [top b (one k t a)], top b (one k t a)) := by
  obtain ⟨h1, h2, h3⟩ := h
  have hn : np (root b (one k t a)).f0 = some 1 := np1 h1
  have hd := depth_le a
  have e : (⟨((b + a.size : Nat) : Int), tS [top b a], tD [top b a]⟩ : Tp) = top b (one k t a) := by
    refine top_mk ?_ ?_ ?_
    · rw [size]; omega
    · rw [tS1, top1, size, w64 (by omega) (by omega)]; omega
    · rw [tD1, top2, depth, w64 (by omega) (by omega), mx1 (by omega)]; omega
  have hl : (stk ++ [top b a]).length - 1 = stk.length := by rw [List.length_append, List.length_singleton, Nat.add_sub_cancel]
  unfold tstep
  rw [hn]
  dsimp only
  rw [if_neg (by rw [List.length_append, List.length_singleton]; omega), hl, List.drop_left, List.take_left, tA1, tB1, off_one h2, if_neg (by decide), e]
theorem tstep_two {k t : Int} {a c : Ex} (h : (two k t a c).Ok) (b : Nat) (stk : List Tp) (hb : b + a.size + c.size ≤ 1000) : tstep ((b + a.size + c.size : Nat) : Int) (root b (two k t a c)) (stk ++ [top b a, top (b + a.size) c]) = some (stk ++ [top b (two k t a c)], top b (two k t a c)) := by
  obtain ⟨h1, h2, h3⟩ := h
  have hn : np (root b (two k t a c)).f0 = some 2 := np2 h1
  have hd := depth_le a
  have hd' := depth_le c
  have e : (⟨((b + a.size + c.size : Nat) : Int), tS [top b a, top (b + a.size) c], tD [top b a, top (b + a.size) c]⟩ : Tp) = top b (two k t a c) := by
    refine top_mk ?_ ?_ ?_
    · rw [size]; omega
    · rw [tS2, top1, top1, size, w64 (x := 1 + (a.size : Int)) (by omega) (by omega), w64 (by omega) (by omega)]; omega
    · rw [tD2, top2, top2, depth, w64 (x := (a.depth : Int) + 1) (by omega) (by omega), w64 (by omega) (by omega), mx1 (by omega)]; unfold mx; split <;> omega
  have hl : (stk ++ [top b a, top (b + a.size) c]).length - 2 = stk.length := by rw [List.length_append]; exact Nat.add_sub_cancel _ _
  unfold tstep
  rw [hn]
  dsimp only
  rw [if_neg (by rw [List.length_append]; show ¬ (stk.length + 2 < 2); omega), hl, List.drop_left, List.take_left, tA2, tB2, off_two h2, if_neg (by decide), e]
theorem tops_ser : ∀ (e : Ex) (b : Nat) (rest : List Nd) (all stk : List Tp), e.Ok → b + e.size ≤ 1000 → topsGo (e.ser b ++ rest) b all stk = topsGo rest (b + e.size) (all ++ e.tb b) (stk ++ [e.top b])
  | leaf k n t, b, rest, all, stk, h, hb => by
    simp only [ser, List.cons_append, List.nil_append, topsGo, tstep_leaf h]
    rfl
  | one k t a, b, rest, all, stk, h, hb => by
    simp only [size] at hb
    simp only [ser, List.append_assoc, List.cons_append, List.nil_append]
    rw [tops_ser a b _ all stk h.2.2 (by omega)]
    simp only [topsGo, tstep_one h b stk (by omega), tb, List.append_assoc, size, Nat.add_assoc]
  | two k t a c, b, rest, all, stk, h, hb => by
    simp only [size] at hb
    simp only [ser, List.append_assoc, List.cons_append, List.nil_append]
    rw [tops_ser a b _ all stk h.2.2.1 (by omega), tops_ser c (b + a.size) _ _ _ h.2.2.2 (by omega)]
    have := tstep_two h b stk (by omega)
    simp only [topsGo, tb, List.append_assoc, List.cons_append, List.nil_append, this, size]
    simp only [Nat.add_assoc]
theorem check_ser {e : Ex} (h : e.Ok) (hs : e.size ≤ 60) (hd : e.depth ≤ 20) : nodes_check.f (e.ser 0) = some (e.tb 0, 0) ∧ nodes_tops.f (e.ser 0) = (e.tb 0, true) := by
  have h1 := tops_ser e 0 [] [] [] h (by omega)
  rw [List.append_nil] at h1
  have ht : nodes_tops.f (e.ser 0) = (e.tb 0, true) := by unfold nodes_tops.f; rw [h1]; rfl
  refine ⟨?_, ht⟩
  unfold nodes_check.f
  rw [ser_len, if_neg (by omega), ht]
  obtain ⟨p, hp⟩ := tb_last e 0
  rw [hp]
  simp only [List.getLast?_concat]
  rw [if_neg (by simp only [top]; omega)]
inductive Forest : List Nd → List Tp → Prop
  | nil : Forest [] []
  | snoc {l : List Nd} {stk : List Tp} (e : Ex) : Forest l stk → Ok e → Forest (l ++ ser l.length e) (stk ++ [top l.length e])
theorem Forest.inv {l stk} (h : Forest l stk) (hs : 0 < stk.length) : ∃ (l' : List Nd) (stk' : List Tp) (e : Ex), l = l' ++ e.ser l'.length ∧ stk = stk' ++ [e.top l'.length] ∧ Forest l' stk' ∧ e.Ok := by
  cases h with
  | nil => simp at hs
  | snoc e h1 h2 => exact ⟨_, _, e, rfl, rfl, h1, h2⟩
theorem Forest.nil_ {l stk} (h : Forest l stk) (hs : stk = []) : l = [] := by
  cases h with
  | nil => rfl
  | snoc e h1 h2 => simp at hs
theorem Forest.step {l stk} (h : Forest l stk) (hl : l.length ≤ 100) {x : Nd} {stk' : List Tp} {t : Tp} (hx : tstep (l.length : Int) x stk = some (stk', t)) : Forest (l ++ [x]) stk' := by
  have hx0 := hx
  unfold tstep at hx
  cases hn : np x.f0 with
  | none => rw [hn] at hx; cases hx
  | some n =>
    rw [hn] at hx
    dsimp only at hx
    by_cases h1 : stk.length < n
    · rw [if_pos h1] at hx; cases hx
    · rw [if_neg h1] at hx
      cases ho : offB x (tA (stk.drop (stk.length - n))) (tB (stk.drop (stk.length - n))) with
      | true => rw [ho, if_pos rfl] at hx; cases hx
      | false =>
        obtain ⟨⟨o1, o2⟩, o3, o4, o5, o6⟩ := (offB_iff _ _ _).1 ho
        obtain ⟨k1, k2, k3⟩ := np_kind hn
        obtain ⟨x0, x1, x2, x3, x4⟩ := x
        dsimp only at o1 o2 o3 o4 o5 o6 k1 k2 k3
        rcases k3 with ⟨rfl, k3⟩ | ⟨rfl, k3⟩ | ⟨rfl, k3⟩
        · rw [Nat.sub_zero, List.drop_length] at o3 o4
          have e0 : (⟨x0, x1, x2, x3, x4⟩ : Nd) = root l.length (leaf x0 x1 x4) := by rw [o3, o4]; rfl
          have hok : (leaf x0 x1 x4).Ok := ⟨⟨k1, k3⟩, ⟨o1, o2⟩, o5, o6⟩
          rw [e0, tstep_leaf hok] at hx0
          obtain ⟨rfl, rfl⟩ := Prod.mk.inj (Option.some.inj hx0)
          rw [e0]
          exact .snoc _ h hok
        · obtain ⟨l', st, a, rfl, rfl, hf, ha⟩ := h.inv (by omega)
          rw [show (st ++ [a.top l'.length]).length - 1 = st.length by simp, List.drop_left] at o3 o4
          rw [List.length_append, ser_len] at hl hx0
          have e0 : (⟨x0, x1, x2, x3, x4⟩ : Nd) = root l'.length (one x0 x4 a) := by rw [o3, o4, o2 (by omega)]; rfl
          have hok : (one x0 x4 a).Ok := ⟨⟨by omega, k3.2⟩, ⟨o5, o6⟩, ha⟩
          rw [e0, tstep_one hok _ _ (by omega)] at hx0
          obtain ⟨rfl, rfl⟩ := Prod.mk.inj (Option.some.inj hx0)
          rw [e0, List.append_assoc]
          exact .snoc (one x0 x4 a) hf hok
        · obtain ⟨l1, st1, c, rfl, rfl, hf1, hc⟩ := h.inv (by omega)
          obtain ⟨l', st, a, rfl, rfl, hf, ha⟩ := hf1.inv (by simp at h1; omega)
          rw [show (st ++ [a.top l'.length] ++ [c.top (l' ++ a.ser l'.length).length]).length - 2 = st.length by simp, List.append_assoc, List.drop_left] at o3 o4
          rw [List.length_append, List.length_append, ser_len, ser_len] at hl hx0
          rw [List.length_append, ser_len] at o3 o4
          rw [List.append_assoc] at hx0
          have e0 : (⟨x0, x1, x2, x3, x4⟩ : Nd) = root l'.length (two x0 x4 a c) := by rw [o3, o4, o2 (by omega)]; rfl
          have hok : (two x0 x4 a c).Ok := ⟨⟨by omega, k2⟩, ⟨o5, o6⟩, ha, hc⟩
          have h2 := tstep_two hok l'.length st (by omega)
          rw [e0] at hx0
          rw [show ([a.top l'.length] ++ [c.top (l'.length + a.size)] : List Tp) = [a.top l'.length, c.top (l'.length + a.size)] from rfl] at hx0
          rw [h2] at hx0
          obtain ⟨rfl, rfl⟩ := Prod.mk.inj (Option.some.inj hx0)
          have h3 : l' ++ a.ser l'.length ++ c.ser (l' ++ a.ser l'.length).length ++ [root l'.length (two x0 x4 a c)] = l' ++ (two x0 x4 a c).ser l'.length := by
            rw [List.length_append, ser_len]; simp only [ser, List.append_assoc]
          rw [e0, h3]
          exact .snoc (two x0 x4 a c) hf hok
theorem parse_go : ∀ (rest l : List Nd) (all stk all' : List Tp), (l ++ rest).length ≤ 60 → Forest l stk → topsGo rest l.length all stk = (all', true) → ∃ stk', Forest (l ++ rest) stk' ∧ stk'.length = 1 := by
  intro rest
  induction rest with
  | nil =>
    intro l all stk all' hl hf h
    simp only [topsGo, Prod.mk.injEq, beq_iff_eq] at h
    exact ⟨stk, by simpa using hf, by omega⟩
  | cons x rest ih =>
    intro l all stk all' hl hf h
    simp only [topsGo] at h
    cases hst : tstep (l.length : Int) x stk with
    | none => rw [hst] at h; simp at h
    | some r =>
      obtain ⟨stk', t⟩ := r
      rw [hst] at h
      dsimp only at h
      have hf' := hf.step (by simp at hl; omega) hst
      have h2 := ih (l ++ [x]) _ stk' all' (by simpa using hl) hf' (by simpa using h)
      simpa using h2
theorem parse {l : List Nd} {all : List Tp} (h : nodes_check.f l = some (all, 0)) : ∃ e : Ex, e.Ok ∧ l = e.ser 0 ∧ all = e.tb 0 ∧ e.size ≤ 60 ∧ e.depth ≤ 20 := by
  unfold nodes_check.f at h
  by_cases hl : l.length > 60
  · rw [if_pos hl] at h; cases h
  · rw [if_neg hl] at h
    cases ht : nodes_tops.f l with
    | mk all' b =>
      rw [ht] at h
      cases b with
      | false => cases h
      | true =>
        obtain ⟨stk, hf, hs⟩ := parse_go l [] [] [] all' (by simp; omega) .nil ht
        rw [List.nil_append] at hf
        obtain ⟨l', stk', e, h1, h2, h3, h4⟩ := hf.inv (by omega)
        have h5 : stk' = [] := by
          rw [h2] at hs
          exact List.eq_nil_of_length_eq_zero (by simp at hs; simpa using hs)
        subst h5
        obtain rfl := h3.nil_ rfl
        simp only [List.nil_append, List.length_nil] at h1
        have hsz : e.size ≤ 60 := by rw [← ser_len e 0, ← h1]; omega
        have h6 := tops_ser e 0 [] [] [] h4 (by omega)
        rw [List.append_nil] at h6
        have h7 : nodes_tops.f l = (e.tb 0, true) := by rw [h1]; unfold nodes_tops.f; rw [h6]; rfl
        rw [h7] at ht
        obtain ⟨rfl, _⟩ := Prod.mk.inj ht
        obtain ⟨p, hp⟩ := tb_last e 0
        dsimp only at h
        rw [hp] at h
        simp only [List.getLast?_concat] at h
        by_cases hd : (e.top 0).f2 > 20
        · rw [if_pos hd] at h; cases h
        · rw [if_neg hd, ← hp] at h
          simp only [top] at hd
          refine ⟨e, h4, h1, ?_, hsz, by omega⟩
          injection h with h; injection h with h _; exact h.symm
def fitR : Ex → Bool
  | leaf _ _ _ => true
  | one k _ a => kfit k (kgive a.kd) false
  | two k _ a c => kfit k (kgive a.kd) (kgive c.kd)
theorem rd_sub {e o s} (h : Sub e o s) : rd_T61 (e.ser 0) ((o + s.size - 1 : Nat) : Int) = s.root o := by
  have := h.get 0
  rw [Nat.zero_add] at this
  exact rd_T_nat _ _ _ this
theorem wrong_le (e : Ex) : wrongAt (e.ser 0) ≤ e.size := by
  have : wrongAt (e.ser 0) ≤ (e.ser 0).length := List.findIdx_le_length
  rwa [ser_len] at this
theorem of_tree {e : Ex} (he : e.Ok) (hz : e.size ≤ 60) (hd : e.depth ≤ 20) : kinds_Of.f (e.ser 0) = if wrongAt (e.ser 0) < e.size then some (false, ((wrongAt (e.ser 0) : Nat) : Int), 42) else some (kgive e.kd, ((e.size - 1 : Nat) : Int), 0) := by
  have hp := size_pos e
  obtain ⟨hc, ht⟩ := check_ser he hz hd
  unfold kinds_Of.f nodes_Check.f
  rw [hc, Option.bind_some, Option.bind_some, if_pos rfl, told_valid ht (by rw [ser_len]; exact hz), ser_len]
  by_cases hw : wrongAt (e.ser 0) < e.size
  · rw [if_pos hw, if_pos hw, Option.bind_some, if_pos (by omega)]
  · have hw2 : wrap64 ((e.size : Int) - 1) = ((e.size - 1 : Nat) : Int) := by rw [w64 (by omega) (by omega)]; omega
    have hg : ((e.ser 0).map (fun x => kgive x.f0))[e.size - 1]? = some (kgive e.kd) := by
      have := (Sub.refl e).get 0
      rw [Nat.zero_add] at this
      rw [List.getElem?_map, this]
      exact congrArg (fun x => some (kgive x)) (root_kd e 0)
    rw [if_neg hw, if_neg hw, Option.bind_some, if_neg (by omega)]
    dsimp only
    rw [hw2, if_pos (by omega), if_pos (by rw [List.length_map, ser_len]; omega)]
    congr 2
    unfold rdOf
    rw [Int.toNat_natCast, List.getD_eq_getElem?_getD, hg]; rfl
end Ex

end Go.Proofs.Ytcdgohoinmbpfaa.M
