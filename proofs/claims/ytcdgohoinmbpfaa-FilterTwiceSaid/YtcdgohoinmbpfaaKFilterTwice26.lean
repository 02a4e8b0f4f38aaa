import Derived.Test.YtcdgohoinmbpfaaKFilterTwice21
import Derived.Test.YtcdgohoinmbpfaaKFilterTwice19
import Derived.Test.YtcdgohoinmbpfaaKFilterTwice15
import Derived.Test.YtcdgohoinmbpfaaKFilterTwice17
namespace Go.Proofs.Ytcdgohoinmbpfaa.M
open Go.RowKit Go.Proofs.YtcdgohoinmbpfaaW.PrintWords Go.Proofs.YtcdgohoinmbpfaaW.PrintLast Go.Proofs.YtcdgohoinmbpfaaW.PrintMore
set_option linter.unusedVariables false
set_option linter.unusedSimpArgs false

theorem fits_at {l : List Nd} (hv : ∀ (j : Nat) x, l[j]? = some x → NodeOk j x) {i : Nat} {x : Nd} (hx : l[i]? = some x) : tailwaterref06_fits.f l (i : Int) = some (fitx l x) := by
  have hi : i < l.length := (List.getElem?_eq_some_iff.1 hx).1
  have hok := hv i x hx
  unfold tailwaterref06_fits.f
  rw [if_pos (by omega), rd_T_nat l i x hx]
  by_cases h4 : x.f0 ≤ 4
  · obtain ⟨e2, e3⟩ := hok.leaf h4
    rw [if_pos (by omega)]
    unfold fitx
    simp [h4]
  · have hA := hok.a0 (by omega)
    have hB := hok.b0 (by omega)
    rw [if_pos (by omega)]
    rfl
theorem wrong_go {l : List Nd} (hl : l.length ≤ 60) (hv : ∀ (j : Nat) x, l[j]? = some x → NodeOk j x) : ∀ (rest : List Nd) (i : Nat), l.drop i = rest → i ≤ l.length → ∀ k, rest.length < k →
    tailwaterref06_Wrong.l0 k l i = some ((i + rest.findIdx (fun x => !fitx l x) : Nat) : Int) := by
  intro rest
  induction rest with
  | nil =>
    intro i hd hi k hk
    have hil : i = l.length := by
      have := congrArg List.length hd
      rw [List.length_drop] at this
      simp at this; omega
    obtain ⟨k, rfl⟩ : ∃ m, k = m + 1 := ⟨k - 1, by omega⟩
    rw [tailwaterref06_Wrong.l0, if_neg (by omega)]
    simp [hil]
  | cons x rest ih =>
    intro i hd hi k hk
    obtain ⟨k, rfl⟩ : ∃ m, k = m + 1 := ⟨k - 1, by simp at hk; omega⟩
    have hx : l[i]? = some x := by
      have := congrArg List.head? hd
      rwa [List.head?_drop] at this
    have hd' : l.drop (i + 1) = rest := by
      have := congrArg List.tail hd
      rwa [List.tail_drop] at this
    have hi' : i < l.length := (List.getElem?_eq_some_iff.1 hx).1
    have hw1 : wrap64 ((i : Int) + 1) = ((i + 1 : Nat) : Int) := by rw [w64 (by omega) (by omega)]; omega
    rw [tailwaterref06_Wrong.l0, if_pos (by omega), fits_at hv hx, Option.bind_some, hw1, List.findIdx_cons]
    cases hf : fitx l x with
    | true =>
      rw [if_pos rfl, ih (i + 1) hd' (by omega) k (by simp at hk; omega)]
      simp only [Bool.not_true, cond_false]
      congr 2
      omega
    | false => simp
theorem wrong_valid {l : List Nd} {all : List Tp} (h : nodes_tops.f l = (all, true)) (hl : l.length ≤ 60) {k : Nat} (hk : l.length < k) : tailwaterref06_Wrong.f k l = some (wrongAt l : Int) := by
  unfold tailwaterref06_Wrong.f
  have := wrong_go hl (valid_ok h) l 0 rfl (Nat.zero_le _) k hk
  simpa [wrongAt] using this
theorem gives_eq (k : Int) : tailwaterref06_Gives.f k = some (kgive k) := by
  unfold tailwaterref06_Gives.f kgive
  by_cases h : k = 6
  · rw [if_pos h]; simp [h]
  · rw [if_neg h]; simp [h]
theorem of_both (l : List Nd) : ∃ g i e, kinds_Of.f l = some (g, i, e) ∧ (∀ k, l.length < k → tailwaterref06_Of.f k l = some (g, i, e)) ∧
    (e = 0 → kinds_told.f l = some (l.map (fun x => kgive x.f0), (l.length : Int)) ∧ l.length ≤ 60) := by
  obtain ⟨all, e, hck, hrk, hg⟩ := check_eq l
  unfold kinds_Of.f tailwaterref06_Of.f nodes_Check.f
  rw [hck]
  by_cases he : e = 0
  · obtain ⟨hgone, hl, ht⟩ := hg he
    subst he
    rw [told_valid ht hl]
    simp only [Option.bind_some, if_true]
    by_cases hw : wrongAt l < l.length
    · refine ⟨false, (wrongAt l : Int), 42, ?_, fun k hk => ?_, fun h => by cases h⟩
      · rw [if_pos hw, Option.bind_some, if_pos (by omega)]
      · rw [hrk k hk, Option.bind_some, if_pos rfl, wrong_valid ht hl hk, Option.bind_some, if_pos (by omega)]
    · have h0 := hgone.2.2.1
      have hwl : wrongAt l = l.length := by
        have : wrongAt l ≤ l.length := List.findIdx_le_length
        omega
      have hw2 : wrap64 ((l.length : Int) - 1) = ((l.length - 1 : Nat) : Int) := by rw [w64 (by omega) (by omega)]; omega
      refine ⟨kgive (rd_T61 l (l.length - 1 : Nat)).f0, ((l.length - 1 : Nat) : Int), 0, ?_, fun k hk => ?_, fun _ => ⟨by rw [if_neg hw], hl⟩⟩
      · rw [if_neg hw, Option.bind_some, if_neg (by omega), hw2, if_pos (by omega), if_pos (by rw [List.length_map]; omega)]
        congr 2
        unfold rdOf rd_T61
        have hlt : l.length - 1 < l.length := by omega
        simp [List.getD_eq_getElem?_getD, hlt]
      · rw [hrk k hk, Option.bind_some, if_pos rfl, wrong_valid ht hl hk, Option.bind_some, hwl, if_neg (by omega), hw2, if_pos (by omega), if_pos (by omega), gives_eq, Option.bind_some]
  · refine ⟨false, 0, e, ?_, fun k hk => ?_, fun h => absurd h he⟩
    · simp only [Option.bind_some, if_neg he]
    · rw [hrk k hk, Option.bind_some, if_neg he, Option.bind_some]

end Go.Proofs.Ytcdgohoinmbpfaa.M
