import Derived.Test.YtcdgohoinmbpfaaKFilterTwice47
import Derived.ChangeSlices
namespace Go.Proofs.Ytcdgohoinmbpfaa.M
open Go.RowKit Go.Proofs.YtcdgohoinmbpfaaW.PrintWords Go.Proofs.YtcdgohoinmbpfaaW.PrintLast Go.Proofs.YtcdgohoinmbpfaaW.PrintMore
open Go.ChangeShapes Go.WideShapes Go.Deep
set_option linter.unusedVariables false
set_option linter.unusedSimpArgs false

theorem list10 {α : Type} : ∀ {l : List α}, l.length = 10 → ∃ a0 a1 a2 a3 a4 a5 a6 a7 a8 a9, l = [a0, a1, a2, a3, a4, a5, a6, a7, a8, a9]
  | [a0, a1, a2, a3, a4, a5, a6, a7, a8, a9], _ => ⟨a0, a1, a2, a3, a4, a5, a6, a7, a8, a9, rfl⟩
theorem get8 {α : Type} {l : List α} (h : l.length = 8) (j : Nat) (hj : j < 8) : ∃ y, l[j]? = some y := ⟨l[j]'(by omega), List.getElem?_eq_getElem (by omega)⟩
section
variable {H : Type} {enc : TypeId × Value → H} {W : World} {base : Nat} {spare : Nat → Bool} {held : Bool} {fuel : Nat} {v : Value} {x : DataW H × List MemPlace}
theorem open_nodes1 (h : DataW.trod enc Try.prog W base spare held fuel 36 [v] = some x) :
    ∃ (a : Option Addr) (c : Nat) (l : List S61), v = .slice a l.length c ∧ l.length ≤ c ∧ Kd.C k61 W a l.length l ∧ ∀ y ∈ l, NdWf y := by
  rcases DataW.trod_slice Try.underlying36 h with ⟨hcs, _⟩ | ⟨a, len, cap, _, _, _, _, hcs, _⟩
  · simp only [List.cons.injEq, and_true] at hcs
    subst hcs
    obtain ⟨l, h1, h2, h3, h4⟩ := open_nodes h
    exact ⟨none, 0, l, by rw [h1], by omega, h3, h4⟩
  · simp only [List.cons.injEq, and_true] at hcs
    subst hcs
    obtain ⟨l, h1, h2, h3, h4⟩ := open_nodes h
    subst h1
    exact ⟨some a, cap, l, rfl, h2, h3, h4⟩
theorem open_ints1 (h : DataW.trod enc Try.prog W base spare held fuel 37 [v] = some x) :
    ∃ (a : Option Addr) (c : Nat) (l : List Int), v = .slice a l.length c ∧ l.length ≤ c ∧ Kd.C (Kd.int .i64) W a l.length l := by
  rcases open_ints Try.underlying37 Try.underlying3 (by kernel_rfl) h with ⟨hcs, _⟩ | ⟨a, len, cap, zs, hcs, _, hl, hm, hz, _, hc, _⟩
  · simp only [List.cons.injEq, and_true] at hcs
    subst hcs
    exact ⟨none, 0, [], rfl, Nat.le_refl _, ⟨rfl, by decide, fun h => by simp at h⟩⟩
  · simp only [List.cons.injEq, and_true] at hcs
    subst hcs
    have hzl : len ≤ zs.length := by rw [hz]; split <;> omega
    have htl : (zs.take len).length = len := by rw [List.length_take]; omega
    refine ⟨some a, cap, zs.take len, by rw [htl], by omega, rfl, by rw [htl]; unfold maxLen at hm; omega, fun _ => ⟨a, rfl, fun j p hp => ?_⟩⟩
    have hj : j < len := by
      rcases Nat.lt_or_ge j len with h1 | h1
      · exact h1
      · rw [List.getElem?_eq_none (by omega)] at hp; cases hp
    have hp2 : zs[j]? = some p := by rwa [List.getElem?_take_of_lt hj] at hp
    have hcj := hc j (by omega)
    rw [List.getD_eq_getElem?_getD, hp2] at hcj
    refine ⟨[.int .i64 p], rfl, rfl, fun i u hu => ?_⟩
    match i, hu with
    | 0, hu => simp at hu; subst hu; simpa [Kd.int, Kd.scalar] using hcj
set_option maxRecDepth 100000 in
theorem open_query {cs : List Value} (h : DataW.trod enc Try.prog W base spare held fuel 41 cs = some x) :
    ∃ (a0 : Int) (A1 : Option Addr) (c1 : Nat) (l1 : List S61) (A2 : Option Addr) (c2 : Nat) (l2 : List Int) (a3 : Bool) (A4 : Option Addr) (c4 : Nat) (l4 : List S61) (a5 a6 a7 : Int) (a8 : Bool) (a9 : Int),
      cs = [.int .u8 a0, .slice A1 l1.length c1, .slice A2 l2.length c2, .bool a3, .slice A4 l4.length c4, .int .u8 a5, .int .i64 a6, .int .i64 a7, .bool a8, .int .u8 a9] ∧
      l1.length ≤ c1 ∧ Kd.C k61 W A1 l1.length l1 ∧ (∀ y ∈ l1, NdWf y) ∧ l2.length ≤ c2 ∧ Kd.C (Kd.int .i64) W A2 l2.length l2 ∧ l4.length ≤ c4 ∧ Kd.C k61 W A4 l4.length l4 ∧ (∀ y ∈ l4, NdWf y) := by
  obtain ⟨ys, n, _, _, hlen, hyl, hf⟩ := DataW.trod_struct Try.underlying41 h
  have hk10 : Try.prog.cellsOf 41 = 10 := by kernel_rfl
  obtain ⟨v0, v1, v2, v3, v4, v5, v6, v7, v8, v9, rfl⟩ := list10 (hlen.trans hk10)
  have hy8 : ys.length = 8 := hyl
  obtain ⟨y0, e0⟩ := get8 hy8 0 (by decide)
  obtain ⟨y1, e1⟩ := get8 hy8 1 (by decide)
  obtain ⟨y2, e2⟩ := get8 hy8 2 (by decide)
  obtain ⟨y3, e3⟩ := get8 hy8 3 (by decide)
  obtain ⟨y4, e4⟩ := get8 hy8 4 (by decide)
  obtain ⟨y5, e5⟩ := get8 hy8 5 (by decide)
  obtain ⟨y6, e6⟩ := get8 hy8 6 (by decide)
  obtain ⟨y7, e7⟩ := get8 hy8 7 (by decide)
  have t0 : DataW.trod enc Try.prog W base spare held n 5 [v0] = some y0 := (hf 0 _ rfl).trans e0
  have t1 : DataW.trod enc Try.prog W base spare held n 36 [v1] = some y1 := (hf 1 _ rfl).trans e1
  have t2 : DataW.trod enc Try.prog W base spare held n 37 [v2] = some y2 := (hf 2 _ rfl).trans e2
  have t3 : DataW.trod enc Try.prog W base spare held n 4 [v3] = some y3 := (hf 3 _ rfl).trans e3
  have t4 : DataW.trod enc Try.prog W base spare held n 36 [v4] = some y4 := (hf 4 _ rfl).trans e4
  have t5 : DataW.trod enc Try.prog W base spare held n 39 [v5, v6, v7] = some y5 := (hf 5 _ rfl).trans e5
  have t6 : DataW.trod enc Try.prog W base spare held n 4 [v8] = some y6 := (hf 6 _ rfl).trans e6
  have t7 : DataW.trod enc Try.prog W base spare held n 5 [v9] = some y7 := (hf 7 _ rfl).trans e7
  obtain ⟨a0, q0, _, _⟩ := DataW.trod_int Try.underlying5 t0
  obtain ⟨A1, c1, l1, q1, b1, C1, w1⟩ := open_nodes1 t1
  obtain ⟨A2, c2, l2, q2, b2, C2⟩ := open_ints1 t2
  obtain ⟨a3, q3, _⟩ := DataW.trod_bool Try.underlying4 t3
  obtain ⟨A4, c4, l4, q4, b4, C4, w4⟩ := open_nodes1 t4
  obtain ⟨zs, m, _, _, _, hzl, hg⟩ := DataW.trod_struct Try.underlying39 t5
  have hz3 : zs.length = 3 := hzl
  have z0 : DataW.trod enc Try.prog W base spare held m 5 [v5] = some (zs[0]'(by omega)) := (hg 0 _ rfl).trans (List.getElem?_eq_getElem (by omega))
  have z1 : DataW.trod enc Try.prog W base spare held m 2 [v6] = some (zs[1]'(by omega)) := (hg 1 _ rfl).trans (List.getElem?_eq_getElem (by omega))
  have z2 : DataW.trod enc Try.prog W base spare held m 2 [v7] = some (zs[2]'(by omega)) := (hg 2 _ rfl).trans (List.getElem?_eq_getElem (by omega))
  obtain ⟨a5, q5, _, _⟩ := DataW.trod_int Try.underlying5 z0
  obtain ⟨a6, q6, _, _⟩ := DataW.trod_int Try.underlying2 z1
  obtain ⟨a7, q7, _, _⟩ := DataW.trod_int Try.underlying2 z2
  obtain ⟨a8, q8, _⟩ := DataW.trod_bool Try.underlying4 t6
  obtain ⟨a9, q9, _, _⟩ := DataW.trod_int Try.underlying5 t7
  simp only [List.cons.injEq, and_true] at q0 q3 q5 q6 q7 q8 q9
  subst q0; subst q1; subst q2; subst q3; subst q4; subst q5; subst q6; subst q7; subst q8; subst q9
  exact ⟨a0, A1, c1, l1, A2, c2, l2, a3, A4, c4, l4, a5, a6, a7, a8, a9, rfl, b1, C1, w1, b2, C2, b4, C4, w4⟩
end

end Go.Proofs.Ytcdgohoinmbpfaa.M
