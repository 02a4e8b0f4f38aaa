import Derived.Test.YtcdgohoinmbpfaaKFilterTwice16
import Derived.Test.YtcdgohoinmbpfaaKFilterTwice21
import Derived.Test.YtcdgohoinmbpfaaKFilterTwice25
import Derived.Test.YtcdgohoinmbpfaaKFilterTwice26
namespace Go.Proofs.Ytcdgohoinmbpfaa.M
open Go.RowKit Go.Proofs.YtcdgohoinmbpfaaW.PrintWords Go.Proofs.YtcdgohoinmbpfaaW.PrintLast Go.Proofs.YtcdgohoinmbpfaaW.PrintMore
set_option linter.unusedVariables false
set_option linter.unusedSimpArgs false

theorem src1 : ∀ (a : Fin 4) (j : Bool), clauses_Sources.f [(a.val : Int)] j = tailwaterref08_Sources.f 395 [(a.val : Int)] j := by decide +kernel
theorem src2 : ∀ (a b : Fin 4) (j : Bool), clauses_Sources.f [(a.val : Int), (b.val : Int)] j = tailwaterref08_Sources.f 395 [(a.val : Int), (b.val : Int)] j := by decide +kernel
theorem src3 : ∀ (a b c : Fin 4) (j : Bool), clauses_Sources.f [(a.val : Int), (b.val : Int), (c.val : Int)] j = tailwaterref08_Sources.f 395 [(a.val : Int), (b.val : Int), (c.val : Int)] j := by decide +kernel
theorem src4 : ∀ (a b c d : Fin 4) (j : Bool), clauses_Sources.f [(a.val : Int), (b.val : Int), (c.val : Int), (d.val : Int)] j = tailwaterref08_Sources.f 395 [(a.val : Int), (b.val : Int), (c.val : Int), (d.val : Int)] j := by decide +kernel
theorem fin4 {x : Int} (h : 0 ≤ x ∧ x < 4) : ∃ a : Fin 4, x = (a.val : Int) := by
  have hx : x.toNat < 4 := by omega
  exact ⟨⟨x.toNat, hx⟩, (Int.toNat_of_nonneg h.1).symm⟩
theorem src_in {l : List Int} (hl : l.length ≤ 4) (h0 : l.length ≠ 0) (h : ∀ x ∈ l, 0 ≤ x ∧ x < 4) (j : Bool) : clauses_Sources.f l j = tailwaterref08_Sources.f 395 l j := by
  match l, hl, h0, h with
  | [a], _, _, h => obtain ⟨a', rfl⟩ := fin4 (h a (by simp)); exact src1 a' j
  | [a, b], _, _, h =>
    obtain ⟨a', rfl⟩ := fin4 (h a (by simp)); obtain ⟨b', rfl⟩ := fin4 (h b (by simp)); exact src2 a' b' j
  | [a, b, c], _, _, h =>
    obtain ⟨a', rfl⟩ := fin4 (h a (by simp)); obtain ⟨b', rfl⟩ := fin4 (h b (by simp)); obtain ⟨c', rfl⟩ := fin4 (h c (by simp)); exact src3 a' b' c' j
  | [a, b, c, d], _, _, h =>
    obtain ⟨a', rfl⟩ := fin4 (h a (by simp)); obtain ⟨b', rfl⟩ := fin4 (h b (by simp)); obtain ⟨c', rfl⟩ := fin4 (h c (by simp)); obtain ⟨d', rfl⟩ := fin4 (h d (by simp)); exact src4 a' b' c' d' j
  | _ :: _ :: _ :: _ :: _ :: _, hl, _, _ => simp at hl
theorem src_out {l : List Int} (hl : l.length ≤ 4) : ∀ (rest : List Int) (i : Nat), l.drop i = rest → rest.any outB = true → ∀ k, rest.length < k → tailwaterref08_Sources.l0 k l i = some 8 := by
  intro rest
  induction rest with
  | nil => intro i hd ha; simp at ha
  | cons x rest ih =>
    intro i hd ha k hk
    obtain ⟨k, rfl⟩ : ∃ m, k = m + 1 := ⟨k - 1, by simp at hk; omega⟩
    have hx : l[i]? = some x := by
      have := congrArg List.head? hd
      rwa [List.head?_drop] at this
    have hd' : l.drop (i + 1) = rest := by
      have := congrArg List.tail hd
      rwa [List.tail_drop] at this
    have hi' : i < l.length := (List.getElem?_eq_some_iff.1 hx).1
    have hrd : rd l (i : Int) = x := by
      unfold rd
      rw [Int.toNat_natCast, List.getD_eq_getElem?_getD, hx]; rfl
    have hw1 : wrap64 ((i : Int) + 1) = ((i + 1 : Nat) : Int) := by rw [w64 (by omega) (by omega)]; omega
    rw [tailwaterref08_Sources.l0, if_pos (by omega), if_pos (by omega), hrd]
    by_cases h1 : x < 0
    · rw [if_pos h1]
    · rw [if_neg h1]
      by_cases h2 : x > 3
      · rw [if_pos h2]
      · rw [if_neg h2, hw1]
        have hb : outB x = false := by unfold outB; simp; omega
        rw [List.any_cons, hb, Bool.false_or] at ha
        exact ih (i + 1) hd' ha k (by simp at hk; omega)
theorem src_eq (l : List Int) (j : Bool) : clauses_Sources.f l j = tailwaterref08_Sources.f 395 l j := by
  by_cases h4 : l.length > 4
  · unfold clauses_Sources.f tailwaterref08_Sources.f
    rw [if_pos h4, if_pos (by omega)]
  · by_cases h0 : l.length = 0
    · unfold clauses_Sources.f tailwaterref08_Sources.f
      rw [if_neg h4, if_pos h0, if_neg (show ¬ ((l.length : Int) > 4) by omega), if_pos (show (l.length : Int) = 0 by omega), tailwaterref08_Sources.j0, if_pos rfl]
    · cases ha : l.any outB with
      | false => exact src_in (by omega) h0 (any_out ha) j
      | true =>
        have hgo := src_out (by omega) l 0 rfl ha 394 (by omega)
        unfold clauses_Sources.f tailwaterref08_Sources.f
        rw [if_neg h4, if_neg h0, if_neg (show ¬ ((l.length : Int) > 4) by omega), if_neg (show ¬ ((l.length : Int) = 0) by omega), ha, if_pos (show true = true from rfl)]
        cases j with
        | false => simp only [Bool.false_and, Bool.false_eq_true, if_false]; rw [tailwaterref08_Sources.j0, if_neg (by decide)]; exact hgo.symm
        | true =>
          simp only [Bool.true_and, if_true]
          by_cases h2 : l.length = 2
          · have e1 : (l.length == 2) = true := beq_iff_eq.mpr h2
            have e2 : ((l.length : Int) != 2) = false := bne_eq_false_iff_eq.mpr (by omega)
            rw [e1, e2, tailwaterref08_Sources.j0]
            simp only [Bool.not_true, Bool.false_eq_true, if_false]
            exact hgo.symm
          · have e1 : (l.length == 2) = false := beq_eq_false_iff_ne.mpr h2
            have e2 : ((l.length : Int) != 2) = true := bne_iff_ne.mpr (by omega)
            rw [e1, e2, tailwaterref08_Sources.j0]
            simp only [Bool.not_false, if_true]
theorem fits_win (k a b : Int) : ∃ r : Bool, tailwaterref08_Fits.f 395 k a b = some r ∧ ∀ m, clauses_Window.f (m + 3) k a b = some (if r = true then 0 else 8) := by
  unfold tailwaterref08_Fits.f clauses_Window.f
  by_cases h1 : a < 1
  · refine ⟨false, by rw [if_pos h1, tailwaterref08_Fits.j0, if_pos rfl], fun m => ?_⟩
    rw [if_pos h1, clauses_Window.j0, if_pos rfl]; rfl
  · rw [if_neg h1]
    by_cases h2 : a > 1073741824
    · refine ⟨false, by rw [decide_eq_true h2, tailwaterref08_Fits.j0, if_pos rfl], fun m => ?_⟩
      rw [if_neg h1, decide_eq_true h2, clauses_Window.j0, if_pos rfl]; rfl
    · rw [decide_eq_false h2, tailwaterref08_Fits.j0, if_neg (by decide)]
      by_cases h3 : k = 2
      · rw [if_pos h3]
        by_cases h4 : b ≥ 1
        · rw [if_pos h4]
          by_cases h5 : b ≤ a
          · rw [if_pos h5]
            refine ⟨_, rfl, fun m => ?_⟩
            rw [if_neg h1, clauses_Window.j0, if_neg (by decide), if_pos h3, if_pos h4, if_pos h5, clauses_Window.j1]
            split <;> rfl
          · rw [if_neg h5]
            refine ⟨_, rfl, fun m => ?_⟩
            rw [if_neg h1, clauses_Window.j0, if_neg (by decide), if_pos h3, if_pos h4, if_neg h5, clauses_Window.j1]; rfl
        · rw [if_neg h4]
          refine ⟨_, rfl, fun m => ?_⟩
          rw [if_neg h1, clauses_Window.j0, if_neg (by decide), if_pos h3, if_neg h4, clauses_Window.j1]; rfl
      · rw [if_neg h3]
        by_cases h4 : k = 1
        · rw [if_pos h4]
          refine ⟨_, rfl, fun m => ?_⟩
          rw [if_neg h1, clauses_Window.j0, if_neg (by decide), if_neg h3, if_pos h4]
          by_cases h5 : b = 0
          · rw [if_pos h5, h5]; rfl
          · rw [if_neg h5, beq_eq_false_iff_ne.mpr h5]; rfl
        · rw [if_neg h4]
          by_cases h6 : k = 3
          · rw [if_pos h6]
            refine ⟨_, rfl, fun m => ?_⟩
            rw [if_neg h1, clauses_Window.j0, if_neg (by decide), if_neg h3, if_neg h4, if_pos h6]
            by_cases h5 : b = 0
            · rw [if_pos h5, h5]; rfl
            · rw [if_neg h5, beq_eq_false_iff_ne.mpr h5]; rfl
          · rw [if_neg h6]
            refine ⟨_, rfl, fun m => ?_⟩
            rw [if_neg h1, clauses_Window.j0, if_neg (by decide), if_neg h3, if_neg h4, if_neg h6]; rfl

theorem clauses_eq (a0 : Int) (l1 : List Nd) (l2 : List Int) (a3 : Bool) (l4 : List Nd) (a5 a6 a7 : Int) (a8 : Bool) (a9 : Int) (h1 : l1.length ≤ 100) (h4 : l4.length ≤ 100) :
    ∃ c, clauses_Check.f 10 a0 l1 l2 a3 l4 a5 a6 a7 a8 a9 = some c ∧ tailwaterref08_Check.f 399 a0 l1 l2 a3 l4 a5 a6 a7 a8 a9 = some c ∧ (c = 0 → (a0 ≠ 1 → ∃ all, nodes_check.f l1 = some (all, 0)) ∧ (a0 = 1 → l1.length = 0)) := by
  obtain ⟨s1, c1, hk1, hr1, _⟩ := check_eq l1
  obtain ⟨s4, c4, hk4, hr4, _⟩ := check_eq l4
  obtain ⟨s, hs⟩ : ∃ s, clauses_Sources.f l2 a3 = some s := by
    unfold clauses_Sources.f
    repeat' split
    all_goals exact ⟨_, rfl⟩
  have hs' : tailwaterref08_Sources.f 395 l2 a3 = some s := by rw [← src_eq]; exact hs
  obtain ⟨fit, hf, hw⟩ := fits_win a5 a6 a7
  have hc1 : nodes_Check.f l1 = some c1 := by unfold nodes_Check.f; rw [hk1, Option.bind_some]
  have hc4 : nodes_Check.f l4 = some c4 := by unfold nodes_Check.f; rw [hk4, Option.bind_some]
  have T : ∃ c, clauses_Check.j2 8 a0 l1 l2 a3 l4 a5 a6 a7 a8 a9 = some c ∧ tailwaterref08_Check.j3 396 false a0 l1 l2 a3 l4 a5 a6 a7 a8 a9 = some c := by
    rw [clauses_Check.j2, tailwaterref08_Check.j3, if_neg (show ¬ (false = true) by decide), hs, hs', hf, hw 4, Option.bind_some, Option.bind_some, Option.bind_some]
    by_cases hz : s = 0
    · rw [if_pos hz, if_pos hz]
      cases fit <;> cases a3 <;> by_cases h5 : a5 = 1
      all_goals simp only [h5, if_true, if_false, Bool.false_eq_true, Option.bind_some]
      all_goals exact ⟨_, rfl, rfl⟩
    · rw [if_neg hz, if_neg hz, Option.bind_some]
      exact ⟨_, rfl, rfl⟩
  have T4 : ∃ c, clauses_Check.j1 9 a0 l1 l2 a3 l4 a5 a6 a7 a8 a9 = some c ∧ tailwaterref08_Check.j2 397 false a0 l1 l2 a3 l4 a5 a6 a7 a8 a9 = some c := by
    rw [clauses_Check.j1, tailwaterref08_Check.j2, if_neg (show ¬ (false = true) by decide)]
    by_cases hl : (l4.length : Int) > 0
    · rw [if_pos hl, if_pos hl, hc4, hr4 396 (by omega), Option.bind_some, Option.bind_some]
      by_cases hz : c4 = 0
      · rw [if_pos hz, hz]; exact T
      · rw [if_neg hz, bne_iff_ne.mpr hz, tailwaterref08_Check.j3, if_pos (show true = true from rfl), hr4 395 (by omega), Option.bind_some]
        exact ⟨_, rfl, rfl⟩
    · rw [if_neg hl, if_neg hl]; exact T
  have J : ∃ c, clauses_Check.j0 10 false a0 l1 l2 a3 l4 a5 a6 a7 a8 a9 = some c ∧ tailwaterref08_Check.j0 399 false a0 l1 l2 a3 l4 a5 a6 a7 a8 a9 = some c ∧ (c = 0 → (a0 ≠ 1 → ∃ all, nodes_check.f l1 = some (all, 0)) ∧ (a0 = 1 → l1.length = 0)) := by
    rw [clauses_Check.j0, tailwaterref08_Check.j0, if_neg (show ¬ (false = true) by decide), if_neg (show ¬ (false = true) by decide)]
    by_cases ha : a0 = 1
    · rw [if_pos ha, if_pos ha]
      by_cases hl : (l1.length : Int) > 0
      · rw [if_pos hl, decide_eq_true hl, tailwaterref08_Check.j1, if_pos (show true = true from rfl)]
        exact ⟨8, rfl, rfl, fun h => by cases h⟩
      · rw [if_neg hl, decide_eq_false hl, tailwaterref08_Check.j1, if_neg (show ¬ (false = true) by decide), if_pos ha]
        obtain ⟨c, e1, e2⟩ := T4
        exact ⟨c, e1, e2, fun _ => ⟨fun h => absurd ha h, fun _ => by omega⟩⟩
    · rw [if_neg ha, if_neg ha, tailwaterref08_Check.j1, if_neg (show ¬ (false = true) by decide), if_neg ha, hc1, hr1 397 (by omega), Option.bind_some, Option.bind_some]
      by_cases hz : c1 = 0
      · rw [if_pos hz, hz]
        obtain ⟨c, e1, e2⟩ := T4
        exact ⟨c, e1, e2, fun _ => ⟨fun _ => ⟨s1, by rw [hk1, hz]⟩, fun h => absurd h ha⟩⟩
      · rw [if_neg hz, bne_iff_ne.mpr hz, tailwaterref08_Check.j2, if_pos (show true = true from rfl), hr1 396 (by omega), Option.bind_some]
        exact ⟨_, rfl, rfl, fun h => absurd h hz⟩
  have B : ∃ c, clauses_Check.j0 10 true a0 l1 l2 a3 l4 a5 a6 a7 a8 a9 = some c ∧ tailwaterref08_Check.j0 399 true a0 l1 l2 a3 l4 a5 a6 a7 a8 a9 = some c ∧ (c = 0 → (a0 ≠ 1 → ∃ all, nodes_check.f l1 = some (all, 0)) ∧ (a0 = 1 → l1.length = 0)) := by
    rw [clauses_Check.j0, tailwaterref08_Check.j0, if_pos (show true = true from rfl), if_pos (show true = true from rfl)]
    exact ⟨8, rfl, rfl, fun h => by cases h⟩
  unfold clauses_Check.f tailwaterref08_Check.f
  by_cases g1 : a0 < 1
  · rw [if_pos g1, if_pos g1]; exact B
  · rw [if_neg g1, if_neg g1]
    by_cases g2 : a0 > 4
    · rw [if_pos g2, if_pos g2]; exact B
    · rw [if_neg g2, if_neg g2]
      by_cases e1 : a9 = 1
      · rw [if_pos e1, if_neg (by omega), decide_eq_false (by omega)]; exact J
      · rw [if_neg e1]
        by_cases e2 : a9 < 1
        · rw [if_pos e2, bne_iff_ne.mpr (show a9 ≠ 2 by omega)]; exact B
        · rw [if_neg e2]
          by_cases e3 : a9 > 2
          · rw [decide_eq_true e3, bne_iff_ne.mpr (show a9 ≠ 2 by omega)]; exact B
          · rw [decide_eq_false e3, bne_eq_false_iff_eq.mpr (show a9 = 2 by omega)]; exact J
theorem want_eq {l : List Nd} {g : Bool} {i e : Int} (hK : kinds_Of.f l = some (g, i, e)) (hR : ∀ k, l.length < k → tailwaterref06_Of.f k l = some (g, i, e)) (b : Bool) :
    ∃ r, kinds_want.f l b = some r ∧ (∀ k, l.length < k → tailwaterref06_Want.f k l b = some r) ∧ (r.2 = 0 → e = 0) ∧ r.1 = i := by
  unfold kinds_want.f tailwaterref06_Want.f
  rw [hK]
  by_cases he : e = 0
  · subst he
    cases hb : (g != b) with
    | true => exact ⟨(i, 42), by simp only [Option.bind_some, if_true, hb], fun k hk => by rw [hR k hk]; simp only [Option.bind_some, if_true, hb], fun _ => rfl, rfl⟩
    | false => exact ⟨(i, 0), by simp only [Option.bind_some, if_true, hb, Bool.false_eq_true, if_false], fun k hk => by rw [hR k hk]; simp only [Option.bind_some, if_true, hb, Bool.false_eq_true, if_false], fun _ => rfl, rfl⟩
  · exact ⟨(i, e), by simp [he], fun k hk => by rw [hR k hk]; simp [he], fun h => absurd h he, rfl⟩

theorem at_bound {l : List Nd} {g : Bool} {i e : Int} (hK : kinds_Of.f l = some (g, i, e)) (h0 : l.length ≠ 0) : 0 ≤ i ∧ i < (l.length : Int) := by
  obtain ⟨all, c, hck, hrk, hg⟩ := check_eq l
  unfold kinds_Of.f nodes_Check.f at hK
  rw [hck, Option.bind_some, Option.bind_some] at hK
  by_cases hc : c = 0
  · obtain ⟨_, hl, ht⟩ := hg hc
    rw [if_pos hc, told_valid ht hl] at hK
    by_cases hw : wrongAt l < l.length
    · rw [if_pos hw, Option.bind_some, if_pos (by omega)] at hK
      simp only [Option.some.injEq, Prod.mk.injEq] at hK
      omega
    · have hw2 : wrap64 ((l.length : Int) - 1) = ((l.length - 1 : Nat) : Int) := by rw [w64 (by omega) (by omega)]; omega
      rw [if_neg hw, Option.bind_some, if_neg (by omega), hw2, if_pos (by omega), if_pos (by rw [List.length_map]; omega)] at hK
      simp only [Option.some.injEq, Prod.mk.injEq] at hK
      omega
  · rw [if_neg hc] at hK
    simp only [Option.some.injEq, Prod.mk.injEq] at hK
    omega
theorem wish_eq {ask : List Nd → Option (Int × Int)} {b : Bool} (hask : ∀ l, ask l = kinds_want.f l b) {l : List Nd} (hl : l.length ≤ 100) {rest rest' : Option (Int × Int)} (hr : ∃ r, rest = some r ∧ rest' = some r) {k : Nat} (hk : 100 < k) :
    ∃ r, wishGo ask l rest = some r ∧ (if (l.length : Int) > 0 then ((tailwaterref06_Want.f k l b).bind fun bt => (if bt.2 = 0 then rest' else (if 0 ≤ bt.1 then (if bt.1 < (l.length : Int) then (some ((rd_T61 l bt.1).f4, bt.2)) else none) else none))) else rest') = some r := by
  unfold wishGo
  by_cases h0 : l.length = 0
  · rw [if_pos h0, if_neg (by omega)]
    obtain ⟨r, e1, e2⟩ := hr
    exact ⟨r, e1, e2⟩
  · rw [if_neg h0, if_pos (by omega), hask]
    obtain ⟨g, i, e, hK, hR, hT⟩ := of_both l
    obtain ⟨r, hw, hw', hz, hi⟩ := want_eq hK hR b
    rw [hw, hw' k (by omega), Option.bind_some, Option.bind_some]
    by_cases hr0 : r.2 = 0
    · rw [if_pos hr0, if_pos hr0]
      obtain ⟨r, e1, e2⟩ := hr
      exact ⟨r, e1, e2⟩
    · rw [if_neg hr0, if_neg hr0]
      have hb := at_bound hK h0
      rw [hi, if_pos ⟨hb.1, hb.2⟩, if_pos hb.1, if_pos hb.2]
      exact ⟨_, rfl, rfl⟩

theorem number_eq (l : List Nd) : kinds_Number.f l = kinds_want.f l false := by
  unfold kinds_Number.f
  cases kinds_want.f l false <;> rfl
theorem truth_want (l : List Nd) : kinds_Truth.f l = kinds_want.f l true := by
  unfold kinds_Truth.f
  cases kinds_want.f l true <;> rfl
theorem first_eq (a0 : Int) (l1 : List Nd) (l2 : List Int) (a3 : Bool) (l4 : List Nd) (a5 a6 a7 : Int) (a8 : Bool) (a9 : Int) (h1 : l1.length ≤ 100) (h4 : l4.length ≤ 100) :
    ∃ r, first1 l1 l4 = some r ∧ tailwaterref10_Right.f 399 a0 l1 l2 a3 l4 a5 a6 a7 a8 a9 = some r := by
  obtain ⟨r, e1, e2⟩ := wish_eq (b := true) truth_want h4 (rest := some (0, 0)) (rest' := some (0, 0)) ⟨_, rfl, rfl⟩ (k := 398) (by decide)
  have hj : tailwaterref10_Right.j0 399 a0 l1 l2 a3 l4 a5 a6 a7 a8 a9 = some r := by rw [tailwaterref10_Right.j0]; exact e2
  exact wish_eq (b := false) number_eq h1 (rest := first2 l4) (rest' := tailwaterref10_Right.j0 399 a0 l1 l2 a3 l4 a5 a6 a7 a8 a9) ⟨r, e1, hj⟩ (k := 399) (by decide)
theorem checks_eq (a0 : Int) (l1 : List Nd) (l2 : List Int) (a3 : Bool) (l4 : List Nd) (a5 a6 a7 : Int) (a8 : Bool) (a9 : Int) (h1 : l1.length ≤ 100) (h4 : l4.length ≤ 100) :
    ∃ r, checks_Check.f a0 l1 l2 a3 l4 a5 a6 a7 a8 a9 = some r ∧ tailwaterref10_Check.f 399 a0 l1 l2 a3 l4 a5 a6 a7 a8 a9 = some r := by
  obtain ⟨c, e1, e2, _⟩ := clauses_eq a0 l1 l2 a3 l4 a5 a6 a7 a8 a9 h1 h4
  obtain ⟨r, f1, f2⟩ := first_eq a0 l1 l2 a3 l4 a5 a6 a7 a8 a9 h1 h4
  unfold checks_Check.f tailwaterref10_Check.f
  rw [e1, e2, Option.bind_some, Option.bind_some]
  by_cases hc : c = 0
  · rw [if_pos hc, if_pos hc, f1, f2, Option.bind_some]
    exact ⟨r, rfl, rfl⟩
  · rw [if_neg hc, if_neg hc, Option.bind_some]
    exact ⟨_, rfl, rfl⟩
theorem accepted_eq (a0 : Int) (l1 : List Nd) (l2 : List Int) (a3 : Bool) (l4 : List Nd) (a5 a6 a7 : Int) (a8 : Bool) (a9 : Int) (h1 : l1.length ≤ 100) (h4 : l4.length ≤ 100) :
    ∃ r, filter_accepted.f a0 l1 l2 a3 l4 a5 a6 a7 a8 a9 = some r ∧ tailwaterref29_Accepted.f 399 a0 l1 l2 a3 l4 a5 a6 a7 a8 a9 = some r := by
  obtain ⟨r, e1, e2⟩ := checks_eq a0 l1 l2 a3 l4 a5 a6 a7 a8 a9 h1 h4
  unfold filter_accepted.f tailwaterref29_Accepted.f
  rw [e1, e2]
  exact ⟨_, rfl, rfl⟩

end Go.Proofs.Ytcdgohoinmbpfaa.M
