/- Plain lists, no memory: EvalsParts answers true for every list, index and record. -/
import Derived.Test.YtijdckamblaflaaPEvals
import Derived.Test.YtijdckamblaflaaPRef06
import Derived.Test.YtijdckamblaflaaPPart
import Derived.Test.YtijdckamblaflaaMLaw07EvalsParts
namespace Go.Proofs.Ytijdckamblaflaa.M
open Go.RowKit Go.Proofs.YtijdckamblaflaaW.PrintWords Go.Proofs.YtijdckamblaflaaW.PrintLast Go.Proofs.YtijdckamblaflaaW.PrintMore
set_option linter.unusedVariables false
set_option linter.unusedSimpArgs false

theorem alive7 : tailwaterlaw07_alive.f = some true := by decide +kernel
theorem parts7_j0 (k : Nat) (l : List Nd) (i a b c : Int) : tailwaterlaw07_EvalsParts.j0 (k + 1) l i true a b c = some true := by
  rw [tailwaterlaw07_EvalsParts.j0, if_pos rfl, alive7]; rfl
open Ex in
theorem parts7_j1 (k : Nat) {t : Ex} (ht : t.Ok) (hz : t.size ≤ 60) {o : Nat} {s : Ex} (hs : Sub t o s) (a b c : Int) :
    tailwaterlaw07_EvalsParts.j1 (k + 3) (t.ser 0) ((o + s.size - 1 : Nat) : Int) (t.vals a b c) (s.val a b c) false a b c = some true := by
  have hp := size_pos s
  have hsz := hs.size
  have hk := ok_kd (hs.ok ht)
  have hrd := rd_sub hs
  have hpt : nodes_Parts.f (k + 2) s.kd = some (cnt s.kd, 0) := parts_eq hk.1 hk.2 k
  rw [tailwaterlaw07_EvalsParts.j1, if_neg (by decide), if_pos (by omega), ser_len, if_pos (by omega), hrd, root_kd, hpt, Option.bind_some]
  dsimp only
  rw [if_pos rfl, vals_len]
  have hok := hs.ok ht
  cases s with
  | leaf n m u =>
    have h1 := hok.1
    have hc : cnt (leaf n m u).kd = 0 := if_pos h1.2
    have e1 : (root o (leaf n m u)).f1 = m := rfl
    have e0 : (leaf n m u).kd = n := rfl
    have h4 : n = 1 ∨ n = 2 ∨ n = 3 ∨ n = 4 := by omega
    rw [hc, if_pos rfl, Option.bind_some, e1, e0]
    rcases h4 with rfl | rfl | rfl | rfl
    all_goals rw [if_pos (by decide), if_pos (by simp), if_pos (by simp [val, leafVal, rd]), alive7]; rfl
  | one n u x =>
    have h1 := hok.1
    have hc : cnt n = 1 := by unfold cnt; rw [if_neg (by omega), if_pos (by omega)]
    replace hc : cnt (one n u x).kd = 1 := hc
    have hx : Sub t o x := by have := hs.trans (.one (.refl x)); rwa [Nat.add_zero] at this
    have hxs := hx.size
    have hpx := size_pos x
    have e2 : (root o (one n u x)).f2 = ((o + x.size - 1 : Nat) : Int) := rfl
    have e0 : (one n u x).kd = n := rfl
    rw [hc, if_neg (by decide), if_pos rfl, e2, e0, if_pos (by omega), if_pos (by omega), hx.rdV, do_eq ⟨by omega, by omega⟩, Option.bind_some]
    dsimp only
    rw [if_pos rfl, if_pos (show val a b c (one n u x) = opv n (val a b c x) 0 from rfl), alive7]; rfl
  | two n u x y =>
    have h1 := hok.1
    have hc : cnt n = 2 := by unfold cnt; rw [if_neg (by omega), if_neg (by omega)]
    replace hc : cnt (two n u x y).kd = 2 := hc
    have hx : Sub t o x := by have := hs.trans (.left (.refl x)); rwa [Nat.add_zero] at this
    have hy : Sub t (o + x.size) y := by have := hs.trans (.right (.refl y)); rwa [Nat.add_zero] at this
    have hxs := hx.size
    have hys := hy.size
    have hpx := size_pos x
    have hpy := size_pos y
    have e2 : (root o (two n u x y)).f2 = ((o + x.size - 1 : Nat) : Int) := rfl
    have e3 : (root o (two n u x y)).f3 = ((o + x.size + y.size - 1 : Nat) : Int) := rfl
    have e0 : (two n u x y).kd = n := rfl
    rw [hc, if_neg (by decide), if_neg (by decide), e2, e3, e0, if_pos (by omega), if_pos (by omega), if_pos (by omega), if_pos (by omega), hx.rdV, hy.rdV, do_eq ⟨by omega, by omega⟩, Option.bind_some]
    dsimp only
    rw [if_pos rfl, if_pos (show val a b c (two n u x y) = opv n (val a b c x) (val a b c y) from rfl), alive7]; rfl
open Ex in
theorem Parts7 (l : List Nd) (a1 a b c : Int) : ∃ k, tailwaterlaw07_EvalsParts.f k l a1 a b c = some true := by
  refine ⟨l.length + 504, ?_⟩
  unfold tailwaterlaw07_EvalsParts.f
  rw [show tailwaterref04_Great.f l = some (decide ((l.length : Int) > 70)) from rfl, Option.bind_some]
  by_cases hgr : decide ((l.length : Int) > 70) = true
  · rw [if_pos hgr]; exact parts7_j0 (l.length + 503) l a1 a b c
  · rw [if_neg hgr]
    by_cases h1 : a1 < 0
    · rw [if_pos h1]; exact parts7_j0 (l.length + 503) l a1 a b c
    · rw [if_neg h1]
      by_cases h2 : a1 ≥ (l.length : Int)
      · rw [decide_eq_true h2]; exact parts7_j0 (l.length + 503) l a1 a b c
      · rw [decide_eq_false h2, tailwaterlaw07_EvalsParts.j0, if_neg (by decide)]
        obtain ⟨g, i, e, hK, hT⟩ := of_any l
        obtain ⟨g', i', e', hK', hR, hT'⟩ := of_both l
        rw [hK] at hK'
        obtain ⟨rfl, rfl, rfl⟩ : g = g' ∧ i = i' ∧ e = e' := by simpa using hK'
        rw [hR _ (by omega), Option.bind_some]
        dsimp only
        by_cases he : e = 0
        · subst he
          obtain ⟨t, ht, rfl, hz, hd, hw, rfl⟩ := hT rfl
          rw [ser_len] at h2
          have hp := size_pos t
          obtain ⟨j, rfl⟩ : ∃ j : Nat, a1 = j := ⟨a1.toNat, by omega⟩
          obtain ⟨o, s, hs, e1⟩ := Sub.at_ t j (by omega)
          obtain rfl : j = o + s.size - 1 := by omega
          have hss := hs.size
          have hsd := hs.depth
          have hw2 : wrap64 ((t.size : Int) - 1) = ((0 + t.size - 1 : Nat) : Int) := by rw [w64 (by omega) (by omega)]; omega
          have hpart := part_eq ht hz hd hs (k := (t.ser 0).length + 503) (by rw [ser_len]; omega)
          rw [if_pos rfl, all_tree ht hz hd hw, Option.bind_some, evOf_tree ht hz hd hw, Option.bind_some, hpart, Option.bind_some]
          dsimp only
          rw [evOf_tree (hs.ok ht) (by omega) (by omega) (sub_typed ht hs (by omega)), Option.bind_some]
          dsimp only
          rw [if_pos rfl, if_pos rfl, if_pos rfl, if_pos rfl, vals_len, ser_len, if_pos rfl, hw2, if_pos (by omega), if_pos (by omega), (Sub.refl t).rdV, if_pos rfl, if_pos (by omega), if_pos (by omega), hs.rdV, bne_self_eq_false]
          exact parts7_j1 (t.size + 500) ht hz hs a b c
        · rw [if_neg he, alive7]; rfl

end Go.Proofs.Ytijdckamblaflaa.M
