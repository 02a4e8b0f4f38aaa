/- The given statement of EvalsTells: for every input the call returns true and each argument reads as before. No condition. -/
import Derived.Test.YtijdckamblaflaaRows
import Derived.Test.YtijdckamblaflaaPTells7
import Derived.Test.YtijdckamblaflaaROpen
import Derived.WalkKit
import Derived.ProofKit
import Derived.OpenShut
import Derived.ShutString
import Derived.ChangeOld
import Derived.Below
import Derived.SizedLaws
import Derived.Lib.SmallJoins
namespace Go.Proofs.Ytijdckamblaflaa.evalsTells
open Go.ChangeShapes Go.WideShapes Go.ChangeAt Go.RowKit Go.Joins Go.Proofs.Ytijdckamblaflaa.M
set_option linter.unusedVariables false
theorem own : ownKnob Try.prog.godebug = none := by kernel_rfl
theorem laidOut : laidOutB Try.prog = true := by kernel_rfl
set_option maxRecDepth 100000 in
theorem lifted (os : Os) (started : os.Started) (H : Type) (enc : TypeId × Value → H) :
    ReturnsInHanded {} Try.checked os 11 .any (Rows.evalsTellsSpec.pre6 enc Try.prog Try.f11 Rows.evalsTellsRow.domain false) (Rows.evalsTellsSpec.post enc Try.prog Try.f11 false true false false) := by
  refine returnsInHanded_of_change_sized (C := Try.checked) own started (by kernel_rfl) Try.func11
    (ChangeSpec.witness6 (enc := enc) (C := Try.checked) false ⟨#[], #[.slice none 0 0, .agg #[.int .i64 0, .int .i64 0, .int .i64 0]], []⟩ 8 (by kernel_rfl) (by kernel_rfl) (by kernel_rfl) (by kernel_rfl)) ?_
  intro W base args ds gs before hval0 hW hcnd hsz0 _
  have hval : ∀ (j : Nat) t v, Try.f11.params[j]? = some t → args[j]? = some v → Value.okWide Try.prog W .any base t v := hval0
  have hW' := hW
  obtain ⟨p, q, hA0, hV, rfl, hfz, hnd⟩ := hW
  have hA : DataW.TrodAll enc Try.prog W 0 (fun _ => true) true Try.f11.params.toList args.toList ds p := hA0
  rw [Try.params11] at hA hval
  obtain ⟨v0, vs0, d0, ds0, p0, q0, hargs, rfl, rfl, h0, r0⟩ := trodAll_cons hA
  obtain ⟨v1, vs1, d1, ds1, p1, q1, rfl, rfl, rfl, h1, r1⟩ := trodAll_cons r0
  obtain ⟨rfl, rfl, rfl⟩ := trodAll_nil r1
  obtain rfl : args = #[v0, v1] := by cases args; simp_all
  obtain ⟨rfl, rfl⟩ := trodVars_none hV
  obtain ⟨a0, len0, cap0, rfl⟩ := okWide_slice Try.underlying22 (hval 0 22 v0 rfl rfl)
  have k0 := h0
  have lt0 : ∀ x ∈ p0, x.block < W.heap.size := by obtain ⟨m, hm⟩ := k0; exact DataW.trod_lt m _ _ _ hm
  obtain ⟨l0, hl0, hc0, hC0, hw0⟩ : ∃ l : List S27, l.length = len0 ∧ len0 ≤ cap0 ∧ Go.Proofs.YtijdckamblaflaaW.PrintWords.Kd.C k27 W a0 l.length l ∧ ∀ y ∈ l, NdWf y := by
    obtain ⟨fuel, hf⟩ := h0
    exact open_nodes (by simpa [Value.cells] using hf)
  subst hl0
  obtain ⟨c1_0, c1_1, c1_2, y1_0, y1_1, y1_2, m1, rfl, rfl, rfl, t1_0, t1_1, t1_2⟩ := open_agg3 Try.underlying56 (by kernel_rfl) (by kernel_rfl) (hval 1 56 v1 rfl rfl) h1
  obtain ⟨a1_0, e1_0, g1_0, w1_0⟩ := DataW.trod_int Try.underlying2 t1_0
  simp only [List.cons.injEq, and_true] at e1_0
  subst e1_0
  subst g1_0
  obtain ⟨a1_1, e1_1, g1_1, w1_1⟩ := DataW.trod_int Try.underlying2 t1_1
  simp only [List.cons.injEq, and_true] at e1_1
  subst e1_1
  subst g1_1
  obtain ⟨a1_2, e1_2, g1_2, w1_2⟩ := DataW.trod_int Try.underlying2 t1_2
  simp only [List.cons.injEq, and_true] at e1_2
  subst e1_2
  subst g1_2
  clear hA0 hval0 hsz0
  obtain ⟨k, hk⟩ := Tells7 l0 a1_0 a1_1 a1_2 hw0 w1_0 w1_1 w1_2
  refine (tailwaterlaw07_EvalsTells.calls k a0 cap0 l0 a1_0 a1_1 a1_2 true W hC0 hc0 hk).mono fun e W' ⟨he, bel⟩ => ?_
  subst he
  exact ⟨_, rfl, _, _, _, [], _, [], hW', trodAll_mk1 (shut_bool Try.underlying4 _), (trodAll_cons_mk (Below.trod laidOut (by kernel_rfl) (of_decide_eq_true (by kernel_rfl)) k0 bel lt0) (trodAll_cons_mk (shut_agg3 Try.underlying56 (by kernel_rfl) (by kernel_rfl) ⟨1, Go.ChangeShapes.trod_int_mk 0 Try.underlying2 w1_0⟩ ⟨1, Go.ChangeShapes.trod_int_mk 0 Try.underlying2 w1_1⟩ ⟨1, Go.ChangeShapes.trod_int_mk 0 Try.underlying2 w1_2⟩) trodAll_mk0)), rfl, bel.frame _, fun h => by cases h⟩
theorem over : Rows.evalsTellsRow.holds Try.pinned (OpenSpec.ofChange Rows.evalsTellsSpec) :=
  OpenClaim.holds_of_wide 11 Try.f11 rfl rfl rfl rfl rfl rfl rfl ⟨rfl, rfl, rfl, rfl, rfl⟩ rfl rfl rfl rfl rfl (by kernel_rfl) Try.func11 (by kernel_rfl)
    (of_decide_eq_true (by kernel_rfl)) (by unfold Func.isWrapper; first | (rw [if_pos (by decide +kernel)]; kernel_rfl) | (rw [if_neg (by decide +kernel)]; exact ⟨rfl, rfl⟩))
    (fun os started H enc _ => lifted os started H enc)
theorem proved : Rows.EvalsTellsSaid := over
end Go.Proofs.Ytijdckamblaflaa.evalsTells
namespace Go.Proofs.Ytijdckamblaflaa
/-- The row, under a short name, for the claim. -/
theorem evalsTells_holds : Rows.EvalsTellsSaid := evalsTells.proved
#print axioms evalsTells_holds
end Go.Proofs.Ytijdckamblaflaa
