/- Plain lists, no memory: EvalsTells answers true for every list and record of numbers of 64 bits. -/
import Derived.Test.YtijdckamblaflaaPUses7
import Derived.Test.YtijdckamblaflaaPRef06
import Derived.Test.YtijdckamblaflaaPChk
import Derived.Test.YtijdckamblaflaaMRef04Equal
import Derived.Test.YtijdckamblaflaaPRef07
import Derived.Test.YtijdckamblaflaaMLaw07EvalsTells
import Derived.Test.YtijdckamblaflaaROpen
namespace Go.Proofs.Ytijdckamblaflaa.M
open Go.RowKit Go.Proofs.YtijdckamblaflaaW.PrintWords Go.Proofs.YtijdckamblaflaaW.PrintLast Go.Proofs.YtijdckamblaflaaW.PrintMore
set_option linter.unusedVariables false
set_option linter.unusedSimpArgs false

theorem Equal_go {l : List Nd} (hl : l.length < 1000) : ∀ (d i : Nat), i + d = l.length → ∀ k, d < k → tailwaterref04_Equal.l0 k l l i = some true := by
  intro d
  induction d with
  | zero =>
    intro i hi k hk
    obtain ⟨k, rfl⟩ : ∃ m, k = m + 1 := ⟨k - 1, by omega⟩
    rw [tailwaterref04_Equal.l0, if_neg (by omega)]
  | succ d ih =>
    intro i hi k hk
    obtain ⟨k, rfl⟩ : ∃ m, k = m + 1 := ⟨k - 1, by omega⟩
    have hw1 : wrap64 ((i : Int) + 1) = ((i + 1 : Nat) : Int) := by rw [w64 (by omega) (by omega)]; omega
    rw [tailwaterref04_Equal.l0, if_pos (by omega), if_pos (by omega), if_pos (by omega), if_neg (by simp), hw1]
    exact ih (i + 1) (by omega) k (by omega)
theorem Equal_self {l : List Nd} (hl : l.length < 1000) {k : Nat} (hk : l.length < k) : tailwaterref04_Equal.f k l l = some true := by
  unfold tailwaterref04_Equal.f
  rw [if_pos rfl]
  exact Equal_go hl l.length 0 (by omega) k hk
theorem rng_wf {x : Int} (h : (Lit.int .i64 x).wf = true) : Rng x := by
  unfold Lit.wf at h
  rw [Bool.and_eq_true, decide_eq_true_iff, decide_eq_true_iff] at h
  have h1 : IntKind.i64.min = -9223372036854775808 := rfl
  have h2 : IntKind.i64.max = 9223372036854775807 := rfl
  unfold Rng
  omega
open Ex in
theorem Tells7 (l : List Nd) (a b c : Int) (hl : ∀ y ∈ l, NdWf y) (ha : (Lit.int .i64 a).wf = true) (hb : (Lit.int .i64 b).wf = true) (hc : (Lit.int .i64 c).wf = true) : ∃ k, tailwaterlaw07_EvalsTells.f k l a b c = some true := by
  refine ⟨l.length + 200, ?_⟩
  unfold tailwaterlaw07_EvalsTells.f
  rw [show tailwaterref04_Great.f l = some (decide ((l.length : Int) > 70)) from rfl, Option.bind_some]
  by_cases hgr : decide ((l.length : Int) > 70) = true
  · rw [if_pos hgr]
  · rw [if_neg hgr]
    rw [decide_eq_true_iff] at hgr
    rw [Option.bind_some, if_pos (by simp; omega), Option.bind_some, List.nil_append]
    obtain ⟨g, i, e, hK, hT⟩ := of_any l
    obtain ⟨g', i', e', hK', hR, hT'⟩ := of_both l
    have hK0 := hK
    rw [hK] at hK'
    obtain ⟨rfl, rfl, rfl⟩ : g = g' ∧ i = i' ∧ e = e' := by simpa using hK'
    have hE := Equal_self (l := l) (by omega) (k := l.length + 200) (by omega)
    by_cases he : e = 0
    · subst he
      obtain ⟨t, ht, rfl, hz, hd, hw, rfl⟩ := hT rfl
      have hlr : ∀ x ∈ t.ser 0, Rng x.f1 := fun x hx => rng_wf (hl x hx).2.1
      have hv := fun (k : Nat) hk => refOf_tree (k := k) ht hz hd (rng_wf ha) (rng_wf hb) (rng_wf hc) hlr (hR k hk)
      have hv' := fun (k : Nat) hk => refAll_tree (k := k) ht hz hd (rng_wf ha) (rng_wf hb) (rng_wf hc) hlr (hR k hk)
      have hu := fun (k : Nat) hk => refUses_ok (k := k) (l := t.ser 0) (by rw [ser_len]; omega) hk (hR k hk)
      rw [evOf_tree ht hz hd hw, hv _ (by omega) (by rw [ser_len]; omega), all_tree ht hz hd hw, hv' _ (by omega) (by rw [ser_len]; omega), uses_ok (by rw [ser_len]; omega) hK0 (by omega), hu _ (by omega)]
      simp only [Option.bind_some, if_true, beq_self_eq_true, same7_self (l := t.vals a b c) (k := (t.ser 0).length + 200) (by rw [vals_len]; omega) (by rw [vals_len, ser_len]; omega), hE]
    · have hu : ∀ k, l.length < k → tailwaterref07_Uses.f k l = some (false, false, false, e) := fun k hk => by
        unfold tailwaterref07_Uses.f; rw [hR k hk, Option.bind_some, if_neg he]
      have h1 : ∀ k, l.length < k → tailwaterref07_Of.f k l a b c = some (0, e) := fun k hk => by
        unfold tailwaterref07_Of.f; rw [hR k hk, Option.bind_some, if_neg he]
      have h2 : ∀ k, l.length < k → tailwaterref07_All.f k l a b c = some ([], e) := fun k hk => by
        unfold tailwaterref07_All.f; rw [hR k hk, Option.bind_some, if_neg he]
      rw [evOf_bad hK0 he, h1 _ (by omega), all_bad hK0 he, h2 _ (by omega), uses_bad (by omega) hK0 he (by omega), hu _ (by omega)]
      simp only [Option.bind_some, if_true, beq_self_eq_true, same7_self (l := []) (k := l.length + 200) (by simp) (by simp), hE]

end Go.Proofs.Ytijdckamblaflaa.M
