/- Plain lists, no memory: KindsFirst answers true for every list. -/
import Derived.Test.YtijdckamblaflaaPPart
import Derived.Test.YtijdckamblaflaaMLaw06KindsFirst
namespace Go.Proofs.Ytijdckamblaflaa.M
open Go.RowKit Go.Proofs.YtijdckamblaflaaW.PrintWords Go.Proofs.YtijdckamblaflaaW.PrintLast Go.Proofs.YtijdckamblaflaaW.PrintMore
set_option linter.unusedVariables false
set_option linter.unusedSimpArgs false

theorem alive_first : tailwaterlaw06_alive.f = some true := by decide +kernel
open Ex in
theorem first_go {e : Ex} (he : e.Ok) (hz : e.size ≤ 60) (hd : e.depth ≤ 20) (hw : wrongAt (e.ser 0) < e.size) : ∀ (d i : Nat), i + d = wrongAt (e.ser 0) + 1 → ∀ k, d + 100 ≤ k → tailwaterlaw06_KindsFirst.l0 k (e.ser 0) (wrongAt (e.ser 0) : Nat) i = some true := by
  intro d
  induction d with
  | zero =>
    intro i hi k hk
    obtain ⟨k, rfl⟩ : ∃ m, k = m + 1 := ⟨k - 1, by omega⟩
    rw [tailwaterlaw06_KindsFirst.l0, if_neg (by omega), alive_first]; rfl
  | succ d ih =>
    intro i hi k hk
    obtain ⟨k, rfl⟩ : ∃ m, k = m + 1 := ⟨k - 1, by omega⟩
    obtain ⟨o, s, hs, e1⟩ := Sub.at_ e i (by omega)
    have hp := size_pos s
    have hsz := hs.size
    have hdp := hs.depth
    have hw1 : wrap64 ((i : Int) + 1) = ((i + 1 : Nat) : Int) := by rw [w64 (by omega) (by omega)]; omega
    have hw2 : wrap64 ((s.size : Int) - 1) = ((s.size - 1 : Nat) : Int) := by rw [w64 (by omega) (by omega)]; omega
    have hpart := part_eq he hz hd hs (k := k) (by omega)
    rw [show o + s.size - 1 = i by omega] at hpart
    have hof := of_tree (hs.ok he) (by omega) (by omega)
    rw [tailwaterlaw06_KindsFirst.l0, if_pos (by omega), hpart, Option.bind_some, hof]
    by_cases hlt : i < wrongAt (e.ser 0)
    · rw [sub_typed he hs (by omega), if_neg (Nat.lt_irrefl _), Option.bind_some]
      dsimp only
      rw [if_pos rfl, if_pos (by omega), if_pos rfl, if_neg (by omega), hw1]
      exact ih (i + 1) (by omega) k (by omega)
    · rw [sub_wrong he hs (by omega), if_pos (by omega), Option.bind_some]
      dsimp only
      rw [if_pos rfl, if_neg (by omega), if_pos (by omega), if_pos rfl, ser_len, hw2, if_pos rfl, hw1]
      exact ih (i + 1) (by omega) k (by omega)
theorem first_j0 (k : Nat) (l : List Nd) : tailwaterlaw06_KindsFirst.j0 (k + 1) l true = some true := by
  rw [tailwaterlaw06_KindsFirst.j0, if_pos rfl, alive_first]; rfl
open Ex in
theorem First (l : List Nd) : ∃ k, tailwaterlaw06_KindsFirst.f k l = some true := by
  obtain ⟨all, c, hck, hrk, hg⟩ := check_eq l
  refine ⟨l.length + 500, ?_⟩
  unfold tailwaterlaw06_KindsFirst.f
  rw [show tailwaterref04_Great.f l = some (decide ((l.length : Int) > 70)) from rfl, Option.bind_some]
  by_cases hgr : decide ((l.length : Int) > 70) = true
  · rw [if_pos hgr]; exact first_j0 _ _
  · rw [if_neg hgr, hrk _ (by omega), Option.bind_some]
    by_cases hc : c = 0
    · subst hc
      obtain ⟨e, he, rfl, rfl, hz, hd⟩ := parse hck
      have hp := size_pos e
      have hle := wrong_le e
      rw [ser_len]
      rw [show ((0 : Int) != 0) = false from rfl, tailwaterlaw06_KindsFirst.j0, if_neg (by decide), of_tree he hz hd]
      by_cases hw : wrongAt (e.ser 0) < e.size
      · rw [if_pos hw, Option.bind_some]
        dsimp only
        rw [if_neg (by decide), if_pos rfl, if_neg (by omega), ser_len, decide_eq_false (by omega), tailwaterlaw06_KindsFirst.j1, if_neg (by decide)]
        exact first_go he hz hd hw (wrongAt (e.ser 0) + 1) 0 (by omega) _ (by omega)
      · have hw2 : wrap64 ((e.size : Int) - 1) = ((e.size - 1 : Nat) : Int) := by rw [w64 (by omega) (by omega)]; omega
        rw [if_neg hw, Option.bind_some]
        dsimp only
        rw [if_pos rfl, ser_len, hw2, if_pos rfl, alive_first]; rfl
    · rw [show (c != 0) = true by simpa using hc]
      exact first_j0 _ _

end Go.Proofs.Ytijdckamblaflaa.M
