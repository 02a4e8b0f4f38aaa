/- Plain lists, no memory: KindsOne answers true for every list and index. -/
import Derived.Test.YtijdckamblaflaaPTree
import Derived.Test.YtijdckamblaflaaMLaw06KindsOne
namespace Go.Proofs.Ytijdckamblaflaa.M
open Go.RowKit Go.Proofs.YtijdckamblaflaaW.PrintWords Go.Proofs.YtijdckamblaflaaW.PrintLast Go.Proofs.YtijdckamblaflaaW.PrintMore
set_option linter.unusedVariables false
set_option linter.unusedSimpArgs false

theorem alive_one : tailwaterlaw06_alive.f = some true := by decide +kernel
theorem one_j0 (k : Nat) (l : List Nd) (a : Int) : tailwaterlaw06_KindsOne.j0 (k + 1) l a true = some true := by
  rw [tailwaterlaw06_KindsOne.j0, if_pos rfl, alive_one]; rfl
open Ex in
theorem One (l : List Nd) (a1 : Int) : ∃ k, tailwaterlaw06_KindsOne.f k l a1 = some true := by
  obtain ⟨all, c, hck, hrk, hg⟩ := check_eq l
  refine ⟨l.length + 500, ?_⟩
  unfold tailwaterlaw06_KindsOne.f
  rw [show tailwaterref04_Great.f l = some (decide ((l.length : Int) > 70)) from rfl, Option.bind_some]
  by_cases hgr : decide ((l.length : Int) > 70) = true
  · rw [if_pos hgr]; exact one_j0 _ _ _
  · rw [if_neg hgr, hrk _ (by omega), Option.bind_some]
    by_cases hc : c = 0
    · rw [if_pos hc]
      subst hc
      by_cases h1 : a1 < 0
      · rw [if_pos h1]; exact one_j0 _ _ _
      · rw [if_neg h1]
        by_cases h2 : a1 ≥ (l.length : Int)
        · rw [decide_eq_true h2]; exact one_j0 _ _ _
        · rw [decide_eq_false h2]
          obtain ⟨e, he, rfl, rfl, hz, hd⟩ := parse hck
          rw [ser_len] at h2 ⊢
          have hp := size_pos e
          have hle := wrong_le e
          have ht := (check_ser he hz hd).2
          have hw2 : wrap64 ((e.size : Int) - 1) = ((e.size - 1 : Nat) : Int) := by rw [w64 (by omega) (by omega)]; omega
          rw [tailwaterlaw06_KindsOne.j0, if_neg (by decide)]
          unfold kinds_Number.f kinds_Truth.f kinds_want.f kinds_All.f
          rw [of_tree he hz hd, told_valid ht (by rw [ser_len]; exact hz)]
          by_cases hw : wrongAt (e.ser 0) < e.size
          · rw [if_pos hw]
            have h42 : ((42 : Int) = 0) = False := by simp
            simp only [Option.bind_some, h42, if_false, if_true, bne_self_eq_false]
            rw [tailwaterlaw06_KindsOne.j1, if_neg (by decide), if_neg (by decide), if_pos rfl, if_pos rfl, if_pos rfl, if_pos (by omega), ser_len, if_pos (by omega), if_pos (by rfl), alive_one]; rfl
          · rw [if_neg hw, ser_len, if_neg hw]
            have hlen : ((e.ser 0).map (fun x => kgive x.f0)).length = e.size := by rw [List.length_map, ser_len]
            have hrd : ∀ {o s}, Sub e o s → rdOf false ((e.ser 0).map (fun x => kgive x.f0)) ((o + s.size - 1 : Nat) : Int) = kgive s.kd := fun {o s} h => by
              have := h.get 0
              rw [Nat.zero_add] at this
              unfold rdOf
              rw [Int.toNat_natCast, List.getD_eq_getElem?_getD, List.getElem?_map, this]
              exact congrArg kgive (root_kd s o)
            have hl := hrd (.refl e)
            rw [Nat.zero_add] at hl
            obtain ⟨i, rfl⟩ : ∃ i : Nat, a1 = i := ⟨a1.toNat, by omega⟩
            obtain ⟨o, s, hs, e1⟩ := Sub.at_ e i (by omega)
            have hpart := part_eq he hz hd hs (k := e.size + 497) (by omega)
            have hrs := hrd hs
            rw [show o + s.size - 1 = i by omega] at hpart hrs
            have hof := of_tree (hs.ok he) (by have := hs.size; omega) (by have := hs.depth; omega)
            rw [sub_typed he hs (by omega), if_neg (Nat.lt_irrefl _)] at hof
            generalize hG : kgive e.kd = g at hl ⊢
            have hfin : tailwaterlaw06_KindsOne.j2 (e.size + 498) (e.ser 0) i ((e.ser 0).map (fun x => kgive x.f0)) false = some true := by
              rw [tailwaterlaw06_KindsOne.j2, if_neg (by decide), hpart, Option.bind_some, hof, Option.bind_some]
              dsimp only
              rw [if_pos rfl, if_pos rfl, if_pos (by omega), hlen, if_pos (by omega), hrs, beq_self_eq_true, if_pos rfl, alive_one]; rfl
            cases g with
            | true =>
              simp only [Option.bind_some, if_true, bne_self_eq_false, Bool.false_eq_true, if_false, show (true != false) = true from rfl]
              rw [tailwaterlaw06_KindsOne.j1, if_neg (by decide), if_pos rfl, if_neg (by decide), if_neg (by decide), hlen, ser_len, if_pos rfl, hw2, if_pos (by omega), if_pos (by omega), hl, if_neg (by decide), bne_self_eq_false]
              exact hfin
            | false =>
              simp only [Option.bind_some, if_true, bne_self_eq_false, Bool.false_eq_true, if_false, show (false != true) = true from rfl]
              rw [tailwaterlaw06_KindsOne.j1, if_neg (by decide), if_pos rfl, if_neg (by decide), if_neg (by decide), hlen, ser_len, if_pos rfl, hw2, if_pos (by omega), if_pos (by omega), hl, if_neg (by decide), bne_self_eq_false]
              exact hfin
    · rw [if_neg hc]; exact one_j0 _ _ _

end Go.Proofs.Ytijdckamblaflaa.M
