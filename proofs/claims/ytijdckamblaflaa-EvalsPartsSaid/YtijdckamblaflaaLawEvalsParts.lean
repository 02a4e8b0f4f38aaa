/- The given statement of EvalsParts: for every input the call returns true and each argument reads as before. No condition. -/
import Derived.Test.YtijdckamblaflaaRows
import Derived.Test.YtijdckamblaflaaPParts7
import Derived.Test.YtijdckamblaflaaROpen
import Derived.WalkKit
import Derived.ProofKit
import Derived.OpenShut
import Derived.ShutString
import Derived.ChangeOld
import Derived.Below
import Derived.SizedLaws
import Derived.Lib.SmallJoins
namespace Go.Proofs.Ytijdckamblaflaa.evalsParts
open Go.ChangeShapes Go.WideShapes Go.ChangeAt Go.RowKit Go.Joins Go.Proofs.Ytijdckamblaflaa.M
set_option linter.unusedVariables false
theorem own : ownKnob Try.prog.godebug = none := by kernel_rfl
theorem laidOut : laidOutB Try.prog = true := by kernel_rfl
set_option maxRecDepth 100000 in
theorem lifted (os : Os) (started : os.Started) (H : Type) (enc : TypeId × Value → H) :
    ReturnsInHanded {} Try.checked os 13 .any (Rows.evalsPartsSpec.pre6 enc Try.prog Try.f13 Rows.evalsPartsRow.domain false) (Rows.evalsPartsSpec.post enc Try.prog Try.f13 false true false false) := by
  refine returnsInHanded_of_change_sized (C := Try.checked) own started (by kernel_rfl) Try.func13
    (ChangeSpec.witness6 (enc := enc) (C := Try.checked) false ⟨#[], #[.slice none 0 0, .int .i64 0, .agg #[.int .i64 0, .int .i64 0, .int .i64 0]], []⟩ 8 (by kernel_rfl) (by kernel_rfl) (by kernel_rfl) (by kernel_rfl)) ?_
  intro W base args ds gs before hval0 hW hcnd hsz0 _
  have hval : ∀ (j : Nat) t v, Try.f13.params[j]? = some t → args[j]? = some v → Value.okWide Try.prog W .any base t v := hval0
  have hW' := hW
  obtain ⟨p, q, hA0, hV, rfl, hfz, hnd⟩ := hW
  have hA : DataW.TrodAll enc Try.prog W 0 (fun _ => true) true Try.f13.params.toList args.toList ds p := hA0
  rw [Try.params13] at hA hval
  obtain ⟨v0, vs0, d0, ds0, p0, q0, hargs, rfl, rfl, h0, r0⟩ := trodAll_cons hA
  obtain ⟨v1, vs1, d1, ds1, p1, q1, rfl, rfl, rfl, h1, r1⟩ := trodAll_cons r0
  obtain ⟨v2, vs2, d2, ds2, p2, q2, rfl, rfl, rfl, h2, r2⟩ := trodAll_cons r1
  obtain ⟨rfl, rfl, rfl⟩ := trodAll_nil r2
  obtain rfl : args = #[v0, v1, v2] := by cases args; simp_all
  obtain ⟨rfl, rfl⟩ := trodVars_none hV
  obtain ⟨a0, len0, cap0, rfl⟩ := okWide_slice Try.underlying22 (hval 0 22 v0 rfl rfl)
  have k0 := h0
  have lt0 : ∀ x ∈ p0, x.block < W.heap.size := by obtain ⟨m, hm⟩ := k0; exact DataW.trod_lt m _ _ _ hm
  obtain ⟨l0, hl0, hc0, hC0, hw0⟩ : ∃ l : List S27, l.length = len0 ∧ len0 ≤ cap0 ∧ Go.Proofs.YtijdckamblaflaaW.PrintWords.Kd.C k27 W a0 l.length l ∧ ∀ y ∈ l, NdWf y := by
    obtain ⟨fuel, hf⟩ := h0
    exact open_nodes (by simpa [Value.cells] using hf)
  subst hl0
  obtain ⟨a1, rfl, rfl, rfl, w1⟩ := open_int Try.underlying3 (hval 1 3 v1 rfl rfl) h1
  obtain ⟨c2_0, c2_1, c2_2, y2_0, y2_1, y2_2, m2, rfl, rfl, rfl, t2_0, t2_1, t2_2⟩ := open_agg3 Try.underlying56 (by kernel_rfl) (by kernel_rfl) (hval 2 56 v2 rfl rfl) h2
  obtain ⟨a2_0, e2_0, g2_0, w2_0⟩ := DataW.trod_int Try.underlying2 t2_0
  simp only [List.cons.injEq, and_true] at e2_0
  subst e2_0
  subst g2_0
  obtain ⟨a2_1, e2_1, g2_1, w2_1⟩ := DataW.trod_int Try.underlying2 t2_1
  simp only [List.cons.injEq, and_true] at e2_1
  subst e2_1
  subst g2_1
  obtain ⟨a2_2, e2_2, g2_2, w2_2⟩ := DataW.trod_int Try.underlying2 t2_2
  simp only [List.cons.injEq, and_true] at e2_2
  subst e2_2
  subst g2_2
  clear hA0 hval0 hsz0
  obtain ⟨k, hk⟩ := Parts7 l0 a1 a2_0 a2_1 a2_2 
  refine (tailwaterlaw07_EvalsParts.calls k a0 cap0 l0 a1 a2_0 a2_1 a2_2 true W hC0 hc0 hk rfl).mono fun e W' ⟨he, bel⟩ => ?_
  subst he
  exact ⟨_, rfl, _, _, _, [], _, [], hW', trodAll_mk1 (shut_bool Try.underlying4 _), (trodAll_cons_mk (Below.trod laidOut (by kernel_rfl) (of_decide_eq_true (by kernel_rfl)) k0 bel lt0) (trodAll_cons_mk (shut_int Try.underlying3 w1) (trodAll_cons_mk (shut_agg3 Try.underlying56 (by kernel_rfl) (by kernel_rfl) ⟨1, Go.ChangeShapes.trod_int_mk 0 Try.underlying2 w2_0⟩ ⟨1, Go.ChangeShapes.trod_int_mk 0 Try.underlying2 w2_1⟩ ⟨1, Go.ChangeShapes.trod_int_mk 0 Try.underlying2 w2_2⟩) trodAll_mk0))), rfl, bel.frame _, fun h => by cases h⟩
theorem over : Rows.evalsPartsRow.holds Try.pinned (OpenSpec.ofChange Rows.evalsPartsSpec) :=
  OpenClaim.holds_of_wide 13 Try.f13 rfl rfl rfl rfl rfl rfl rfl ⟨rfl, rfl, rfl, rfl, rfl⟩ rfl rfl rfl rfl rfl (by kernel_rfl) Try.func13 (by kernel_rfl)
    (of_decide_eq_true (by kernel_rfl)) (by unfold Func.isWrapper; first | (rw [if_pos (by decide +kernel)]; kernel_rfl) | (rw [if_neg (by decide +kernel)]; exact ⟨rfl, rfl⟩))
    (fun os started H enc _ => lifted os started H enc)
theorem proved : Rows.EvalsPartsSaid := over
end Go.Proofs.Ytijdckamblaflaa.evalsParts
namespace Go.Proofs.Ytijdckamblaflaa
/-- The row, under a short name, for the claim. -/
theorem evalsParts_holds : Rows.EvalsPartsSaid := evalsParts.proved
#print axioms evalsParts_holds
end Go.Proofs.Ytijdckamblaflaa
