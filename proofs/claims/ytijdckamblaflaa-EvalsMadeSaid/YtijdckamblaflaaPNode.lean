/- Plain lists, no memory: nodes.Node of trees. -/
import Derived.Test.YtijdckamblaflaaGNode
import Derived.Test.YtijdckamblaflaaPPart
namespace Go.Proofs.Ytijdckamblaflaa.M
open Go.RowKit Go.Proofs.YtijdckamblaflaaW.PrintWords Go.Proofs.YtijdckamblaflaaW.PrintLast Go.Proofs.YtijdckamblaflaaW.PrintMore
set_option linter.unusedVariables false
set_option linter.unusedSimpArgs false

theorem parts_out {x : Int} (h : ¬ (1 ≤ x ∧ x ≤ 19)) (k : Nat) : nodes_Parts.f (k + 2) x = some (0, 2) := by
  unfold nodes_Parts.f
  by_cases h1 : x ≥ 1
  · rw [if_pos h1, nodes_Parts.j0, if_neg (by simp; omega), if_neg (by omega), nodes_Parts.j1, if_neg (by simp; omega), if_pos (by omega), if_neg (by omega)]
  · rw [if_neg h1, nodes_Parts.j0, if_neg (by simp), if_neg (by omega), nodes_Parts.j1, if_neg (by simp; omega), if_neg (by omega)]
namespace Ex
theorem check_any {e : Ex} (h : e.Ok) (hs : e.size ≤ 500) : ∃ c, nodes_Check.f (e.ser 0) = some c ∧ (c = 0 ∧ e.size ≤ 60 ∧ e.depth ≤ 20 ∨ c = 4 ∨ c = 34) := by
  have h1 := tops_ser e 0 [] [] [] h (by omega)
  rw [List.append_nil] at h1
  have ht : nodes_tops.f (e.ser 0) = (e.tb 0, true) := by unfold nodes_tops.f; rw [h1]; rfl
  unfold nodes_Check.f nodes_check.f
  rw [ser_len, ht]
  by_cases hz : e.size > 60
  · rw [if_pos hz]; exact ⟨4, rfl, .inr (.inl rfl)⟩
  · rw [if_neg hz]
    obtain ⟨p, hp⟩ := tb_last e 0
    rw [hp]
    simp only [List.getLast?_concat]
    by_cases hd : (e.top 0).f2 > 20
    · rw [if_pos hd]; exact ⟨34, rfl, .inr (.inr rfl)⟩
    · rw [if_neg hd]
      simp only [top] at hd
      exact ⟨0, rfl, .inl ⟨rfl, by omega, by omega⟩⟩
theorem check0 {e : Ex} (h : e.Ok) (hs : e.size ≤ 60) (hd : e.depth ≤ 20) : nodes_Check.f (e.ser 0) = some 0 := by
  unfold nodes_Check.f
  rw [(check_ser h hs hd).1]; rfl
theorem typed_sub {e s : Ex} {o : Nat} (he : e.Ok) (hw : wrongAt (e.ser 0) = e.size) (h : Sub e o s) : s.fitR = true := by
  have := h.size; have := size_pos s
  exact wrong_lt he h (by omega)
theorem wrong_one {k t : Int} {a : Ex} (h : (one k t a).Ok) (ha : wrongAt (a.ser 0) = a.size) : wrongAt ((one k t a).ser 0) = if (one k t a).fitR = true then (one k t a).size else (one k t a).size - 1 := by
  have key : ∀ o s, Sub (one k t a) o s → (o = 0 ∧ s = one k t a) ∨ s.fitR = true := by
    intro o s hs
    cases hs with
    | refl => exact .inl ⟨rfl, rfl⟩
    | one h' => exact .inr (typed_sub h.2.2 ha h')
  by_cases hf : (one k t a).fitR = true
  · rw [if_pos hf]
    exact wrong_is h (Nat.le_refl _) (fun o s hs _ => by rcases key o s hs with ⟨_, rfl⟩ | h1; exact hf; exact h1) (fun h => absurd h (Nat.lt_irrefl _))
  · rw [if_neg hf]
    refine wrong_is h (Nat.sub_le _ _) (fun o s hs hl => ?_) (fun _ => ⟨0, _, .refl _, by have := size_pos (one k t a); omega, by simpa using hf⟩)
    rcases key o s hs with ⟨rfl, rfl⟩ | h1
    · omega
    · exact h1
theorem wrong_two {k t : Int} {a c : Ex} (h : (two k t a c).Ok) (ha : wrongAt (a.ser 0) = a.size) (hc : wrongAt (c.ser 0) = c.size) : wrongAt ((two k t a c).ser 0) = if (two k t a c).fitR = true then (two k t a c).size else (two k t a c).size - 1 := by
  have key : ∀ o s, Sub (two k t a c) o s → (o = 0 ∧ s = two k t a c) ∨ s.fitR = true := by
    intro o s hs
    cases hs with
    | refl => exact .inl ⟨rfl, rfl⟩
    | left h' => exact .inr (typed_sub h.2.2.1 ha h')
    | right h' => exact .inr (typed_sub h.2.2.2 hc h')
  by_cases hf : (two k t a c).fitR = true
  · rw [if_pos hf]
    exact wrong_is h (Nat.le_refl _) (fun o s hs _ => by rcases key o s hs with ⟨_, rfl⟩ | h1; exact hf; exact h1) (fun h => absurd h (Nat.lt_irrefl _))
  · rw [if_neg hf]
    refine wrong_is h (Nat.sub_le _ _) (fun o s hs hl => ?_) (fun _ => ⟨0, _, .refl _, by have := size_pos (two k t a c); omega, by simpa using hf⟩)
    rcases key o s hs with ⟨rfl, rfl⟩ | h1
    · omega
    · exact h1
/-- nodes.Node of one part and of two. -/
theorem node_one {k : Int} {a : Ex} (hk : 5 ≤ k ∧ k ≤ 6) (ha : a.Ok) (hz : a.size ≤ 60) (hd : a.depth ≤ 20) : nodes_Node.f k 0 0 [a.ser 0] = (nodes_Check.f ((one k 0 a).ser 0)).bind fun e => if e = 0 then some ((one k 0 a).ser 0, 0) else some ([], e) := by
  have hp := size_pos a
  have hc : cnt k = 1 := by unfold cnt; rw [if_neg (by omega), if_pos (by omega)]
  have hm := mvd_ser a 0 0 ha (by omega) (by omega)
  rw [Int.sub_self] at hm
  have hw : wrap64 ((a.size : Int) - 1) = ((a.size - 1 : Nat) : Int) := by rw [w64 (by omega) (by omega)]; omega
  unfold nodes_Node.f
  rw [if_pos (by simp [ser_len]; omega), parts_eq (by omega) (by omega) 1, hc, Option.bind_some]
  dsimp only
  rw [if_pos rfl, if_pos (by simp), if_pos (by omega)]
  simp only [nodeGo, check0 ha hz hd, Option.bind_some, if_true, List.length_nil, List.nil_append]
  rw [show (((0 : Nat) : Int)) = 0 from rfl, hm, ser_len, hw]
  have e : a.ser 0 ++ [(⟨k, 0, ((a.size - 1 : Nat) : Int), 0, 0⟩ : Nd)] = (one k 0 a).ser 0 := by simp only [ser, root, Nat.zero_add]
  rw [e]
theorem node_two {k : Int} {a c : Ex} (hk : 7 ≤ k ∧ k ≤ 19) (ha : a.Ok) (hz : a.size ≤ 60) (hd : a.depth ≤ 20) (hc' : c.Ok) (hz' : c.size ≤ 60) (hd' : c.depth ≤ 20) : nodes_Node.f k 0 0 [a.ser 0, c.ser 0] = (nodes_Check.f ((two k 0 a c).ser 0)).bind fun e => if e = 0 then some ((two k 0 a c).ser 0, 0) else some ([], e) := by
  have hp := size_pos a
  have hp' := size_pos c
  have hc : cnt k = 2 := by unfold cnt; rw [if_neg (by omega), if_neg (by omega)]
  have hm := mvd_ser a 0 0 ha (by omega) (by omega)
  rw [Int.sub_self] at hm
  have hm' := mvd_ser c 0 a.size hc' (by omega) (by omega)
  rw [show ((a.size : Nat) : Int) - ((0 : Nat) : Int) = (a.size : Int) by omega] at hm'
  have hw : wrap64 ((a.size : Int) - 1) = ((a.size - 1 : Nat) : Int) := by rw [w64 (by omega) (by omega)]; omega
  have hw' : wrap64 (((a.size + c.size : Nat) : Int) - 1) = ((a.size + c.size - 1 : Nat) : Int) := by rw [w64 (by omega) (by omega)]; omega
  unfold nodes_Node.f
  rw [if_pos (by simp [ser_len]; omega), parts_eq (by omega) (by omega) 1, hc, Option.bind_some]
  dsimp only
  rw [if_pos rfl, if_pos (by simp), if_pos (by omega)]
  simp only [nodeGo, check0 ha hz hd, check0 hc' hz' hd', Option.bind_some, if_true, List.length_nil, List.nil_append, Nat.one_ne_zero, if_false]
  rw [show (((0 : Nat) : Int)) = 0 from rfl, hm]
  simp only [ser_len, List.length_append, List.length_map, hm', hw, hw']
  have e : a.ser 0 ++ c.ser a.size ++ [(⟨k, 0, ((a.size - 1 : Nat) : Int), ((a.size + c.size - 1 : Nat) : Int), 0⟩ : Nd)] = (two k 0 a c).ser 0 := by simp only [ser, root, Nat.zero_add, List.append_assoc]
  rw [e]
end Ex

end Go.Proofs.Ytijdckamblaflaa.M
