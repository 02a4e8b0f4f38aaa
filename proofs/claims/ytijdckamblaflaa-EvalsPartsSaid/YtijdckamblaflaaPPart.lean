/- Plain lists, no memory: nodes.moved and nodes.Part on trees. -/
import Derived.Test.YtijdckamblaflaaPTree
import Derived.Test.YtijdckamblaflaaGMade
import Derived.Test.YtijdckamblaflaaMNodesPart
namespace Go.Proofs.Ytijdckamblaflaa.M
open Go.RowKit Go.Proofs.YtijdckamblaflaaW.PrintWords Go.Proofs.YtijdckamblaflaaW.PrintLast Go.Proofs.YtijdckamblaflaaW.PrintMore
set_option linter.unusedVariables false
set_option linter.unusedSimpArgs false

namespace Ex
/-- Parts at other places. -/
theorem mvd_ser : ∀ (e : Ex) (b b' : Nat), e.Ok → b + e.size ≤ 1000 → b' + e.size ≤ 1000 → (e.ser b).map (mvd ((b' : Int) - b)) = e.ser b'
  | leaf k n t, b, b', h, hb, hb' => by
    have hc : cnt k = 0 := by unfold cnt; rw [if_pos h.1.2]
    simp only [ser, root, List.map_cons, List.map_nil, mvd, hc, List.cons.injEq, and_true]
    rfl
  | one k t a, b, b', h, hb, hb' => by
    have hc : cnt k = 1 := by have := h.1; unfold cnt; rw [if_neg (by omega), if_pos (by omega)]
    have hp := size_pos a
    simp only [size] at hb hb'
    simp only [ser, List.map_append, mvd_ser a b b' h.2.2 (by omega) (by omega), List.map_cons, List.map_nil]
    congr 2
    simp only [root, mvd, hc]
    rw [if_pos (by decide), if_neg (by decide), w64 (by omega) (by omega)]
    congr 1
    omega
  | two k t a c, b, b', h, hb, hb' => by
    have hc : cnt k = 2 := by have := h.1; unfold cnt; rw [if_neg (by omega), if_neg (by omega)]
    have hp := size_pos a
    have hq := size_pos c
    simp only [size] at hb hb'
    have h2 := mvd_ser c (b + a.size) (b' + a.size) h.2.2.2 (by omega) (by omega)
    rw [show ((b' + a.size : Nat) : Int) - (b + a.size : Nat) = (b' : Int) - b by omega] at h2
    simp only [ser, List.map_append, mvd_ser a b b' h.2.2.1 (by omega) (by omega), h2, List.map_cons, List.map_nil]
    congr 3
    simp only [root, mvd, hc]
    rw [if_pos (by decide), if_pos (by decide), w64 (by omega) (by omega), w64 (by omega) (by omega)]
    congr 1 <;> omega
end Ex

theorem parts_eq {x : Int} (h1 : 1 ≤ x) (h2 : x ≤ 19) (k : Nat) : nodes_Parts.f (k + 2) x = some (cnt x, 0) := by
  unfold nodes_Parts.f
  rw [if_pos (by omega)]
  unfold cnt
  by_cases h4 : x ≤ 4
  · rw [nodes_Parts.j0, if_pos (by simpa using h4), if_pos h4]
  · rw [nodes_Parts.j0, if_neg (by simpa using h4), if_neg h4]
    by_cases h5 : x = 5
    · rw [if_pos h5, nodes_Parts.j1, if_pos rfl, if_pos (by omega)]
    · rw [if_neg h5, nodes_Parts.j1]
      by_cases h6 : x = 6
      · rw [if_pos (by simpa using h6), if_pos (by omega)]
      · rw [if_neg (by simpa using h6), if_pos (by omega), if_pos (by omega), if_neg (by omega)]
theorem moved_go {l : List Nd} {d : Int} (hl : l.length ≤ 1000) (hk : ∀ x ∈ l, 1 ≤ x.f0 ∧ x.f0 ≤ 19) : ∀ (r i : Nat), i + r = l.length → ∀ k, r + 3 ≤ k → nodes_moved.l0 k d ((l.take i).map (mvd d) ++ l.drop i) (l.length : Int) i = some (l.map (mvd d)) := by
  intro r
  induction r with
  | zero =>
    intro i hi k hk'
    obtain ⟨k, rfl⟩ : ∃ m, k = m + 1 := ⟨k - 1, by omega⟩
    have hil : i = l.length := by omega
    subst hil
    rw [List.take_length, List.drop_length, List.append_nil, nodes_moved.l0, if_neg (by omega)]
  | succ r ih =>
    intro i hi k hk'
    obtain ⟨k, rfl⟩ : ∃ m, k = m + 3 := ⟨k - 3, by omega⟩
    have hi' : i < l.length := by omega
    have hlen : ((l.take i).map (mvd d) ++ l.drop i).length = l.length := by simp; omega
    have hx : rd_T27 ((l.take i).map (mvd d) ++ l.drop i) (i : Int) = l[i] := by
      unfold rd_T27
      rw [Int.toNat_natCast, List.getD_eq_getElem?_getD, List.getElem?_append_right (by simp; omega)]
      simp [Nat.min_eq_left (Nat.le_of_lt hi'), hi']
    have hset : ∀ y : Nd, ((l.take i).map (mvd d) ++ l.drop i).set i y = (l.take i).map (mvd d) ++ (y :: l.drop (i + 1)) := fun y => by
      have e : i - ((l.take i).map (mvd d)).length = 0 := by simp; omega
      rw [List.set_append_right _ _ (by simp; omega), e, List.drop_eq_getElem_cons hi', List.set_cons_zero]
    have hnext : (l.take (i + 1)).map (mvd d) ++ l.drop (i + 1) = (l.take i).map (mvd d) ++ (mvd d l[i] :: l.drop (i + 1)) := by
      rw [List.take_succ_eq_append_getElem hi', List.map_append, List.append_assoc]; rfl
    have hw1 : wrap64 ((i : Int) + 1) = ((i + 1 : Nat) : Int) := by rw [w64 (by omega) (by omega)]; omega
    have hih := ih (i + 1) (by omega) (k + 2) (by omega)
    rw [hnext] at hih
    have hkx := hk l[i] (List.getElem_mem hi')
    have hd : l.drop i = l[i] :: l.drop (i + 1) := List.drop_eq_getElem_cons hi'
    rw [show k + 3 = (k + 2) + 1 from rfl, nodes_moved.l0, if_pos (by omega), if_pos (by omega), if_pos (by omega), hx, parts_eq hkx.1 hkx.2 k, Option.bind_some, Int.toNat_natCast]
    obtain ⟨x, hG⟩ : ∃ x, x = l[i] := ⟨_, rfl⟩
    rw [← hG] at hih hkx hx hd ⊢
    have hrd : ∀ y : Nd, rd_T27 ((l.take i).map (mvd d) ++ (y :: l.drop (i + 1))) (i : Int) = y := fun y => by
      rw [← hset y]
      unfold rd_T27
      have : i < ((l.take i).map (mvd d) ++ l.drop i).length := by omega
      rw [Int.toNat_natCast, List.getD_eq_getElem?_getD, List.getElem?_set_self this]; rfl
    have hset2 : ∀ y z : Nd, ((l.take i).map (mvd d) ++ (y :: l.drop (i + 1))).set i z = (l.take i).map (mvd d) ++ (z :: l.drop (i + 1)) := fun y z => by
      rw [← hset y, List.set_set, hset]
    obtain ⟨x0, x1, x2, x3, x4⟩ := x
    dsimp only at hkx hih ⊢
    unfold mvd at hih
    by_cases h4 : x0 ≤ 4
    · have hc : cnt x0 = 0 := by unfold cnt; rw [if_pos h4]
      rw [hc] at hih ⊢
      rw [if_neg (by decide), if_neg (by decide), hw1, hd]
      exact hih
    · by_cases h6 : x0 ≤ 6
      · have hc : cnt x0 = 1 := by unfold cnt; rw [if_neg h4, if_pos h6]
        rw [hc] at hih ⊢
        rw [if_pos (by decide), Option.bind_some, if_neg (by decide), hw1, hset]
        exact hih
      · have hc : cnt x0 = 2 := by unfold cnt; rw [if_neg h4, if_neg h6]
        rw [hc] at hih ⊢
        rw [if_pos (by decide), Option.bind_some, if_pos (by decide), hw1, hset, hset2, hrd]
        exact hih
/-- nodes.moved, for nodes of right kinds. -/
theorem moved_eq {l : List Nd} (d : Int) (hl : l.length ≤ 1000) (hk : ∀ x ∈ l, 1 ≤ x.f0 ∧ x.f0 ≤ 19) {k : Nat} (h : l.length + 3 ≤ k) : nodes_moved.f k l d = some (l.map (mvd d)) := by
  unfold nodes_moved.f api_Node.f
  rw [if_pos (by omega), Option.bind_some]
  have := moved_go (d := d) hl hk l.length 0 (by omega) k h
  simpa using this
namespace Ex
theorem ser_kinds : ∀ {e : Ex}, e.Ok → ∀ b, ∀ x ∈ e.ser b, 1 ≤ x.f0 ∧ x.f0 ≤ 19
  | leaf k n t, h, b, x, hx => by
    have := h.1
    obtain rfl : x = root b (leaf k n t) := by simpa [ser] using hx
    simp only [root]; omega
  | one k t a, h, b, x, hx => by
    have := h.1
    simp only [ser, List.mem_append, List.mem_singleton] at hx
    rcases hx with hx | rfl
    · exact ser_kinds h.2.2 b x hx
    · simp only [root]; omega
  | two k t a c, h, b, x, hx => by
    have := h.1
    simp only [ser, List.mem_append, List.mem_singleton] at hx
    rcases hx with hx | hx | rfl
    · exact ser_kinds h.2.2.1 b x hx
    · exact ser_kinds h.2.2.2 _ x hx
    · simp only [root]; omega
/-- nodes.Part of a tree: the row of the part. -/
theorem part_eq {e s : Ex} {o : Nat} (he : e.Ok) (hz : e.size ≤ 60) (hd : e.depth ≤ 20) (h : Sub e o s) {k : Nat} (hk : e.size + 3 ≤ k) : nodes_Part.f k (e.ser 0) ((o + s.size - 1 : Nat) : Int) = some (s.ser 0, 0) := by
  have hp := size_pos s
  have hs := h.size
  have hrd : rd_T99 (e.tb 0) ((o + s.size - 1 : Nat) : Int) = s.top o := by
    have := h.getT 0
    rw [Nat.zero_add] at this
    unfold rd_T99
    rw [Int.toNat_natCast, List.getD_eq_getElem?_getD, this]; rfl
  have w1 : wrap64 (((o + s.size - 1 : Nat) : Int) + 1) = ((o + s.size : Nat) : Int) := by rw [w64 (by omega) (by omega)]; omega
  have w2 : wrap64 (((o + s.size : Nat) : Int) - s.size) = (o : Int) := by rw [w64 (by omega) (by omega)]; omega
  have w3 : wrap64 (-(o : Int)) = ((0 : Nat) : Int) - o := by rw [w64 (by omega) (by omega)]; omega
  have hcut := h.cut 0
  rw [Nat.zero_add] at hcut
  unfold nodes_Part.f nodes_Size.f
  rw [(check_ser he hz hd).1, Option.bind_some]
  dsimp only
  rw [if_pos rfl, if_neg (by omega), tb_len, if_neg (by omega), if_pos (by omega), if_pos (by omega), Option.bind_some]
  dsimp only
  rw [if_pos rfl, hrd, top1, w1, w2, if_pos (by omega), if_pos (by omega), ser_len, if_pos (by omega), Int.toNat_natCast, Int.toNat_natCast, hcut, w3,
    moved_eq _ (by rw [ser_len]; omega) (ser_kinds (h.ok he) o) (by rw [ser_len]; omega), Option.bind_some, mvd_ser s o 0 (h.ok he) (by omega) (by omega)]
end Ex

end Go.Proofs.Ytijdckamblaflaa.M
