/- Plain lists, no memory: KindsMade answers true for every two lists and kind. -/
import Derived.Test.YtijdckamblaflaaGNode
import Derived.Test.YtijdckamblaflaaMLaw06KindsMade
namespace Go.Proofs.Ytijdckamblaflaa.M
open Go.RowKit Go.Proofs.YtijdckamblaflaaW.PrintWords Go.Proofs.YtijdckamblaflaaW.PrintLast Go.Proofs.YtijdckamblaflaaW.PrintMore
set_option linter.unusedVariables false
set_option linter.unusedSimpArgs false

theorem alive_made : tailwaterlaw06_alive.f = some true := by decide +kernel
theorem parts_out {x : Int} (h : ¬ (1 ≤ x ∧ x ≤ 19)) (k : Nat) : nodes_Parts.f (k + 2) x = some (0, 2) := by
  unfold nodes_Parts.f
  by_cases h1 : x ≥ 1
  · rw [if_pos h1, nodes_Parts.j0, if_neg (by simp; omega), if_neg (by omega), nodes_Parts.j1, if_neg (by simp; omega), if_pos (by omega), if_neg (by omega)]
  · rw [if_neg h1, nodes_Parts.j0, if_neg (by simp), if_neg (by omega), nodes_Parts.j1, if_neg (by simp; omega), if_neg (by omega)]
open Ex in
theorem of_any (l : List Nd) : ∃ g i e, kinds_Of.f l = some (g, i, e) ∧ (e = 0 → ∃ t : Ex, t.Ok ∧ l = t.ser 0 ∧ t.size ≤ 60 ∧ t.depth ≤ 20 ∧ wrongAt (t.ser 0) = t.size ∧ g = kgive t.kd) := by
  obtain ⟨all, c, hck, _, _⟩ := check_eq l
  by_cases hc : c = 0
  · subst hc
    obtain ⟨t, ht, rfl, rfl, hz, hd⟩ := parse hck
    rw [of_tree ht hz hd]
    have hle := wrong_le t
    by_cases hw : wrongAt (t.ser 0) < t.size
    · rw [if_pos hw]; exact ⟨_, _, _, rfl, fun h => by cases h⟩
    · rw [if_neg hw]; exact ⟨_, _, _, rfl, fun _ => ⟨t, ht, rfl, hz, hd, by omega, rfl⟩⟩
  · refine ⟨false, 0, c, ?_, fun h => absurd h hc⟩
    unfold kinds_Of.f nodes_Check.f
    rw [hck, Option.bind_some, Option.bind_some, if_neg hc]
namespace Ex
theorem check_any {e : Ex} (h : e.Ok) (hs : e.size ≤ 500) : ∃ c, nodes_Check.f (e.ser 0) = some c ∧ (c = 0 ∧ e.size ≤ 60 ∧ e.depth ≤ 20 ∨ c = 4 ∨ c = 34) := by
  have h1 := tops_ser e 0 [] [] [] h (by omega)
  rw [List.append_nil] at h1
  have ht : nodes_tops.f (e.ser 0) = (e.tb 0, true) := by unfold nodes_tops.f; rw [h1]; rfl
  unfold nodes_Check.f nodes_check.f
  rw [ser_len, ht]
  by_cases hz : e.size > 60
  · rw [if_pos hz]; exact ⟨4, rfl, .inr (.inl rfl)⟩
  · rw [if_neg hz]
    obtain ⟨p, hp⟩ := tb_last e 0
    rw [hp]
    simp only [List.getLast?_concat]
    by_cases hd : (e.top 0).f2 > 20
    · rw [if_pos hd]; exact ⟨34, rfl, .inr (.inr rfl)⟩
    · rw [if_neg hd]
      simp only [top] at hd
      exact ⟨0, rfl, .inl ⟨rfl, by omega, by omega⟩⟩
theorem check0 {e : Ex} (h : e.Ok) (hs : e.size ≤ 60) (hd : e.depth ≤ 20) : nodes_Check.f (e.ser 0) = some 0 := by
  unfold nodes_Check.f
  rw [(check_ser h hs hd).1]; rfl
theorem typed_sub {e s : Ex} {o : Nat} (he : e.Ok) (hw : wrongAt (e.ser 0) = e.size) (h : Sub e o s) : s.fitR = true := by
  have := h.size; have := size_pos s
  exact wrong_lt he h (by omega)
theorem wrong_one {k t : Int} {a : Ex} (h : (one k t a).Ok) (ha : wrongAt (a.ser 0) = a.size) : wrongAt ((one k t a).ser 0) = if (one k t a).fitR = true then (one k t a).size else (one k t a).size - 1 := by
  have key : ∀ o s, Sub (one k t a) o s → (o = 0 ∧ s = one k t a) ∨ s.fitR = true := by
    intro o s hs
    cases hs with
    | refl => exact .inl ⟨rfl, rfl⟩
    | one h' => exact .inr (typed_sub h.2.2 ha h')
  by_cases hf : (one k t a).fitR = true
  · rw [if_pos hf]
    exact wrong_is h (Nat.le_refl _) (fun o s hs _ => by rcases key o s hs with ⟨_, rfl⟩ | h1; exact hf; exact h1) (fun h => absurd h (Nat.lt_irrefl _))
  · rw [if_neg hf]
    refine wrong_is h (Nat.sub_le _ _) (fun o s hs hl => ?_) (fun _ => ⟨0, _, .refl _, by have := size_pos (one k t a); omega, by simpa using hf⟩)
    rcases key o s hs with ⟨rfl, rfl⟩ | h1
    · omega
    · exact h1
theorem wrong_two {k t : Int} {a c : Ex} (h : (two k t a c).Ok) (ha : wrongAt (a.ser 0) = a.size) (hc : wrongAt (c.ser 0) = c.size) : wrongAt ((two k t a c).ser 0) = if (two k t a c).fitR = true then (two k t a c).size else (two k t a c).size - 1 := by
  have key : ∀ o s, Sub (two k t a c) o s → (o = 0 ∧ s = two k t a c) ∨ s.fitR = true := by
    intro o s hs
    cases hs with
    | refl => exact .inl ⟨rfl, rfl⟩
    | left h' => exact .inr (typed_sub h.2.2.1 ha h')
    | right h' => exact .inr (typed_sub h.2.2.2 hc h')
  by_cases hf : (two k t a c).fitR = true
  · rw [if_pos hf]
    exact wrong_is h (Nat.le_refl _) (fun o s hs _ => by rcases key o s hs with ⟨_, rfl⟩ | h1; exact hf; exact h1) (fun h => absurd h (Nat.lt_irrefl _))
  · rw [if_neg hf]
    refine wrong_is h (Nat.sub_le _ _) (fun o s hs hl => ?_) (fun _ => ⟨0, _, .refl _, by have := size_pos (two k t a c); omega, by simpa using hf⟩)
    rcases key o s hs with ⟨rfl, rfl⟩ | h1
    · omega
    · exact h1
/-- nodes.Node of one part and of two. -/
theorem node_one {k : Int} {a : Ex} (hk : 5 ≤ k ∧ k ≤ 6) (ha : a.Ok) (hz : a.size ≤ 60) (hd : a.depth ≤ 20) : nodes_Node.f k 0 0 [a.ser 0] = (nodes_Check.f ((one k 0 a).ser 0)).bind fun e => if e = 0 then some ((one k 0 a).ser 0, 0) else some ([], e) := by
  have hp := size_pos a
  have hc : cnt k = 1 := by unfold cnt; rw [if_neg (by omega), if_pos (by omega)]
  have hm := mvd_ser a 0 0 ha (by omega) (by omega)
  rw [Int.sub_self] at hm
  have hw : wrap64 ((a.size : Int) - 1) = ((a.size - 1 : Nat) : Int) := by rw [w64 (by omega) (by omega)]; omega
  unfold nodes_Node.f
  rw [if_pos (by simp [ser_len]; omega), parts_eq (by omega) (by omega) 1, hc, Option.bind_some]
  dsimp only
  rw [if_pos rfl, if_pos (by simp), if_pos (by omega)]
  simp only [nodeGo, check0 ha hz hd, Option.bind_some, if_true, List.length_nil, List.nil_append]
  rw [show (((0 : Nat) : Int)) = 0 from rfl, hm, ser_len, hw]
  have e : a.ser 0 ++ [(⟨k, 0, ((a.size - 1 : Nat) : Int), 0, 0⟩ : Nd)] = (one k 0 a).ser 0 := by simp only [ser, root, Nat.zero_add]
  rw [e]
theorem node_two {k : Int} {a c : Ex} (hk : 7 ≤ k ∧ k ≤ 19) (ha : a.Ok) (hz : a.size ≤ 60) (hd : a.depth ≤ 20) (hc' : c.Ok) (hz' : c.size ≤ 60) (hd' : c.depth ≤ 20) : nodes_Node.f k 0 0 [a.ser 0, c.ser 0] = (nodes_Check.f ((two k 0 a c).ser 0)).bind fun e => if e = 0 then some ((two k 0 a c).ser 0, 0) else some ([], e) := by
  have hp := size_pos a
  have hp' := size_pos c
  have hc : cnt k = 2 := by unfold cnt; rw [if_neg (by omega), if_neg (by omega)]
  have hm := mvd_ser a 0 0 ha (by omega) (by omega)
  rw [Int.sub_self] at hm
  have hm' := mvd_ser c 0 a.size hc' (by omega) (by omega)
  rw [show ((a.size : Nat) : Int) - ((0 : Nat) : Int) = (a.size : Int) by omega] at hm'
  have hw : wrap64 ((a.size : Int) - 1) = ((a.size - 1 : Nat) : Int) := by rw [w64 (by omega) (by omega)]; omega
  have hw' : wrap64 (((a.size + c.size : Nat) : Int) - 1) = ((a.size + c.size - 1 : Nat) : Int) := by rw [w64 (by omega) (by omega)]; omega
  unfold nodes_Node.f
  rw [if_pos (by simp [ser_len]; omega), parts_eq (by omega) (by omega) 1, hc, Option.bind_some]
  dsimp only
  rw [if_pos rfl, if_pos (by simp), if_pos (by omega)]
  simp only [nodeGo, check0 ha hz hd, check0 hc' hz' hd', Option.bind_some, if_true, List.length_nil, List.nil_append, Nat.one_ne_zero, if_false]
  rw [show (((0 : Nat) : Int)) = 0 from rfl, hm]
  simp only [ser_len, List.length_append, List.length_map, hm', hw, hw']
  have e : a.ser 0 ++ c.ser a.size ++ [(⟨k, 0, ((a.size - 1 : Nat) : Int), ((a.size + c.size - 1 : Nat) : Int), 0⟩ : Nd)] = (two k 0 a c).ser 0 := by simp only [ser, root, Nat.zero_add, List.append_assoc]
  rw [e]
end Ex
open Ex
theorem made_j0 (k : Nat) (l0 l1 : List Nd) (a2 : Int) : tailwaterlaw06_KindsMade.j0 (k + 1) l0 l1 a2 true = some true := by
  rw [tailwaterlaw06_KindsMade.j0, if_pos rfl, alive_made]; rfl
theorem made_j1 (k : Nat) (l0 l1 : List Nd) (a2 n : Int) (x y : Bool) : tailwaterlaw06_KindsMade.j1 (k + 1) l0 l1 a2 n x y true = some true := by
  rw [tailwaterlaw06_KindsMade.j1, if_pos rfl, alive_made]; rfl
/-- The end: what kinds tells of the made row. -/
theorem made_j3 (k : Nat) {e : Ex} (h : e.Ok) (hs : e.size ≤ 500) (fits : Bool) (hw : wrongAt (e.ser 0) = if fits = true then e.size else e.size - 1) (hg : kgive e.kd = if e.kd = 6 then true else decide (e.kd ≥ 12)) :
    ((nodes_Check.f (e.ser 0)).bind fun c => if c = 0 then some (e.ser 0, 0) else some ([], c)).bind (fun r : List Nd × Int => tailwaterlaw06_KindsMade.j3 (k + 1) e.kd r.1 r.2 fits) = some true := by
  have hp := size_pos e
  obtain ⟨c, hc, hcc⟩ := check_any h hs
  rw [hc, Option.bind_some]
  rcases hcc with ⟨rfl, hz, hd⟩ | rfl | rfl
  · rw [if_pos rfl, Option.bind_some, tailwaterlaw06_KindsMade.j3, if_pos rfl, of_tree h hz hd]
    cases fits with
    | true =>
      rw [show wrongAt (e.ser 0) = e.size from hw, if_neg (Nat.lt_irrefl _), Option.bind_some]
      dsimp only
      rw [if_pos rfl, if_pos rfl, hg]
      by_cases h6 : e.kd = 6
      · rw [if_pos h6, if_pos h6, if_pos (by rfl), alive_made]; rfl
      · rw [if_neg h6, if_neg h6, beq_self_eq_true, if_pos rfl, alive_made]; rfl
    | false =>
      have hw2 : wrap64 ((e.size : Int) - 1) = ((e.size - 1 : Nat) : Int) := by rw [w64 (by omega) (by omega)]; omega
      rw [show wrongAt (e.ser 0) = e.size - 1 from hw, if_pos (by omega), Option.bind_some]
      dsimp only
      rw [if_neg (by decide), if_pos rfl, ser_len, hw2, if_pos rfl, alive_made]; rfl
  · rw [if_neg (by decide), Option.bind_some, tailwaterlaw06_KindsMade.j3, if_neg (by decide), if_pos rfl, alive_made]; rfl
  · rw [if_neg (by decide), Option.bind_some, tailwaterlaw06_KindsMade.j3, if_neg (by decide), if_neg (by decide), if_pos rfl, alive_made]; rfl
theorem kgive_if (k : Int) : kgive k = if k = 6 then true else decide (k ≥ 12) := by
  unfold kgive
  by_cases h : k = 6
  · simp [h]
  · simp [h]
theorem Made (l0 l1 : List Nd) (a2 : Int) : ∃ k, tailwaterlaw06_KindsMade.f k l0 l1 a2 = some true := by
  refine ⟨100, ?_⟩
  unfold tailwaterlaw06_KindsMade.f
  rw [show tailwaterref04_Great.f l0 = some (decide ((l0.length : Int) > 70)) from rfl, show tailwaterref04_Great.f l1 = some (decide ((l1.length : Int) > 70)) from rfl, Option.bind_some, Option.bind_some]
  cases decide ((l0.length : Int) > 70) with
  | true => rw [if_pos rfl]; exact made_j0 _ _ _ _
  | false =>
    rw [if_neg (by decide)]
    cases decide ((l1.length : Int) > 70) with
    | true => exact made_j0 _ _ _ _
    | false =>
      obtain ⟨g, i, e, hK, hT⟩ := of_any l0
      obtain ⟨g', i', e', hK', hT'⟩ := of_any l1
      rw [tailwaterlaw06_KindsMade.j0, if_neg (by decide), hK, hK']
      by_cases hk : 1 ≤ a2 ∧ a2 ≤ 19
      · rw [parts_eq hk.1 hk.2 97, Option.bind_some, Option.bind_some, Option.bind_some]
        dsimp only
        rw [if_pos rfl]
        by_cases he : e = 0
        · rw [if_pos he]
          by_cases he' : e' = 0
          · rw [if_pos he']
            obtain ⟨t, ht, rfl, hz, hd, hw, rfl⟩ := hT he
            obtain ⟨u, hu, rfl, hz', hd', hw', rfl⟩ := hT' he'
            by_cases h4 : a2 ≤ 4
            · have hc : cnt a2 = 0 := by unfold cnt; rw [if_pos h4]
              rw [hc]; exact made_j1 _ _ _ _ _ _ _
            · by_cases h6 : a2 ≤ 6
              · have hc : cnt a2 = 1 := by unfold cnt; rw [if_neg h4, if_pos h6]
                have hok : (one a2 0 t).Ok := ⟨⟨by omega, h6⟩, ⟨by omega, by omega⟩, ht⟩
                have hfin := fun k => made_j3 k hok (by simp only [size]; omega) (one a2 0 t).fitR (wrong_one hok hw) (kgive_if _)
                rw [hc, tailwaterlaw06_KindsMade.j1, if_neg (by decide), node_one ⟨by omega, h6⟩ ht hz hd]
                refine Eq.trans ?_ (hfin 96)
                congr 1
                funext r
                have ek : (one a2 0 t).kd = a2 := rfl
                have ef : (one a2 0 t).fitR = kfit a2 (kgive t.kd) false := rfl
                rw [ek, ef]
                generalize kgive t.kd = gt
                generalize kgive u.kd = gu
                unfold kfit
                by_cases h5 : a2 = 5
                · subst h5
                  cases gt <;> simp [tailwaterlaw06_KindsMade.j2]
                · obtain rfl : a2 = 6 := by omega
                  cases gt <;> simp [tailwaterlaw06_KindsMade.j2]
              · have hc : cnt a2 = 2 := by unfold cnt; rw [if_neg h4, if_neg h6]
                have hok : (two a2 0 t u).Ok := ⟨⟨by omega, hk.2⟩, ⟨by omega, by omega⟩, ht, hu⟩
                have hfin := fun k => made_j3 k hok (by simp only [size]; omega) (two a2 0 t u).fitR (wrong_two hok hw hw') (kgive_if _)
                have hn1 : nodes_Node.f a2 0 0 [t.ser 0] = some ([], 2) := by
                  unfold nodes_Node.f
                  rw [if_pos (by simp [ser_len]; omega), parts_eq hk.1 hk.2 1, hc, Option.bind_some]
                  dsimp only
                  rw [if_pos rfl, if_neg (by simp)]
                rw [hc, tailwaterlaw06_KindsMade.j1, if_neg (by decide), hn1, Option.bind_some]
                rw [if_neg (by omega), if_neg (by omega), tailwaterlaw06_KindsMade.j2, if_pos rfl, node_two ⟨by omega, hk.2⟩ ht hz hd hu hz' hd']
                refine Eq.trans ?_ (hfin 96)
                congr 1
                funext r
                have ek : (two a2 0 t u).kd = a2 := rfl
                have ef : (two a2 0 t u).fitR = kfit a2 (kgive t.kd) (kgive u.kd) := rfl
                rw [ek, ef]
                generalize kgive t.kd = gt
                generalize kgive u.kd = gu
                unfold kfit
                rw [if_neg (show ¬ a2 = 5 by omega), if_neg (show ¬ a2 = 6 by omega)]
                by_cases h15 : a2 ≤ 15
                · have q1 : decide (a2 ≥ 16) = false := decide_eq_false (by omega)
                  have q2 : a2 ≤ 17 := by omega
                  cases gt <;> cases gu <;> simp [h15, q1, q2]
                  all_goals omega
                · by_cases h17 : a2 ≤ 17
                  · have q1 : 16 ≤ a2 := by omega
                    cases gt <;> cases gu <;> simp [h15, q1, h17]
                  · have q1 : 16 ≤ a2 := by omega
                    cases gt <;> cases gu <;> simp [h15, q1, h17]
          · rw [if_neg he']; exact made_j1 _ _ _ _ _ _ _
        · rw [if_neg he]; exact made_j1 _ _ _ _ _ _ _
      · rw [parts_out hk 97, Option.bind_some, Option.bind_some, Option.bind_some]
        dsimp only
        rw [if_neg (by decide)]
        exact made_j1 _ _ _ _ _ _ _

end Go.Proofs.Ytijdckamblaflaa.M
