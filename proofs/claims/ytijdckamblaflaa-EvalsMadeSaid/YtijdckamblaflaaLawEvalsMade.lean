/- The given statement of EvalsMade: for every input the call returns true and each argument reads as before. No condition. -/
import Derived.Test.YtijdckamblaflaaRows
import Derived.Test.YtijdckamblaflaaPMade7
import Derived.Test.YtijdckamblaflaaROpen
import Derived.WalkKit
import Derived.ProofKit
import Derived.OpenShut
import Derived.ShutString
import Derived.ChangeOld
import Derived.Below
import Derived.SizedLaws
import Derived.Lib.SmallJoins
namespace Go.Proofs.Ytijdckamblaflaa.evalsMade
open Go.ChangeShapes Go.WideShapes Go.ChangeAt Go.RowKit Go.Joins Go.Proofs.Ytijdckamblaflaa.M
set_option linter.unusedVariables false
theorem own : ownKnob Try.prog.godebug = none := by kernel_rfl
theorem laidOut : laidOutB Try.prog = true := by kernel_rfl
theorem heapNd : Go.Proofs.YtijdckamblaflaaW.PrintWords.Kd.Heap k27 := ⟨fun hb h => by obtain rfl := k27_open h; exact k27_mk _ _⟩
set_option maxRecDepth 100000 in
theorem lifted (os : Os) (started : os.Started) (H : Type) (enc : TypeId × Value → H) :
    ReturnsInHanded {} Try.checked os 14 .any (Rows.evalsMadeSpec.pre6 enc Try.prog Try.f14 Rows.evalsMadeRow.domain false) (Rows.evalsMadeSpec.post enc Try.prog Try.f14 false true false false) := by
  refine returnsInHanded_of_change_sized (C := Try.checked) own started (by kernel_rfl) Try.func14
    (ChangeSpec.witness6 (enc := enc) (C := Try.checked) false ⟨#[], #[.slice none 0 0, .slice none 0 0, .int .u8 0, .agg #[.int .i64 0, .int .i64 0, .int .i64 0]], []⟩ 8 (by kernel_rfl) (by kernel_rfl) (by kernel_rfl) (by kernel_rfl)) ?_
  intro W base args ds gs before hval0 hW hcnd hsz0 _
  have hval : ∀ (j : Nat) t v, Try.f14.params[j]? = some t → args[j]? = some v → Value.okWide Try.prog W .any base t v := hval0
  have hW' := hW
  obtain ⟨p, q, hA0, hV, rfl, hfz, hnd⟩ := hW
  have hA : DataW.TrodAll enc Try.prog W 0 (fun _ => true) true Try.f14.params.toList args.toList ds p := hA0
  rw [Try.params14] at hA hval
  obtain ⟨v0, vs0, d0, ds0, p0, q0, hargs, rfl, rfl, h0, r0⟩ := trodAll_cons hA
  obtain ⟨v1, vs1, d1, ds1, p1, q1, rfl, rfl, rfl, h1, r1⟩ := trodAll_cons r0
  obtain ⟨v2, vs2, d2, ds2, p2, q2, rfl, rfl, rfl, h2, r2⟩ := trodAll_cons r1
  obtain ⟨v3, vs3, d3, ds3, p3, q3, rfl, rfl, rfl, h3, r3⟩ := trodAll_cons r2
  obtain ⟨rfl, rfl, rfl⟩ := trodAll_nil r3
  obtain rfl : args = #[v0, v1, v2, v3] := by cases args; simp_all
  obtain ⟨rfl, rfl⟩ := trodVars_none hV
  obtain ⟨a0, len0, cap0, rfl⟩ := okWide_slice Try.underlying22 (hval 0 22 v0 rfl rfl)
  have k0 := h0
  have lt0 : ∀ x ∈ p0, x.block < W.heap.size := by obtain ⟨m, hm⟩ := k0; exact DataW.trod_lt m _ _ _ hm
  obtain ⟨l0, hl0, hc0, hC0, hw0⟩ : ∃ l : List S27, l.length = len0 ∧ len0 ≤ cap0 ∧ Go.Proofs.YtijdckamblaflaaW.PrintWords.Kd.C k27 W a0 l.length l ∧ ∀ y ∈ l, NdWf y := by
    obtain ⟨fuel, hf⟩ := h0
    exact open_nodes (by simpa [Value.cells] using hf)
  subst hl0
  obtain ⟨a1, len1, cap1, rfl⟩ := okWide_slice Try.underlying22 (hval 1 22 v1 rfl rfl)
  have k1 := h1
  have lt1 : ∀ x ∈ p1, x.block < W.heap.size := by obtain ⟨m, hm⟩ := k1; exact DataW.trod_lt m _ _ _ hm
  obtain ⟨l1, hl1, hc1, hC1, hw1⟩ : ∃ l : List S27, l.length = len1 ∧ len1 ≤ cap1 ∧ Go.Proofs.YtijdckamblaflaaW.PrintWords.Kd.C k27 W a1 l.length l ∧ ∀ y ∈ l, NdWf y := by
    obtain ⟨fuel, hf⟩ := h1
    exact open_nodes (by simpa [Value.cells] using hf)
  subst hl1
  obtain ⟨a2, rfl, rfl, rfl, w2⟩ := open_int Try.underlying5 (hval 2 5 v2 rfl rfl) h2
  obtain ⟨c3_0, c3_1, c3_2, y3_0, y3_1, y3_2, m3, rfl, rfl, rfl, t3_0, t3_1, t3_2⟩ := open_agg3 Try.underlying56 (by kernel_rfl) (by kernel_rfl) (hval 3 56 v3 rfl rfl) h3
  obtain ⟨a3_0, e3_0, g3_0, w3_0⟩ := DataW.trod_int Try.underlying2 t3_0
  simp only [List.cons.injEq, and_true] at e3_0
  subst e3_0
  subst g3_0
  obtain ⟨a3_1, e3_1, g3_1, w3_1⟩ := DataW.trod_int Try.underlying2 t3_1
  simp only [List.cons.injEq, and_true] at e3_1
  subst e3_1
  subst g3_1
  obtain ⟨a3_2, e3_2, g3_2, w3_2⟩ := DataW.trod_int Try.underlying2 t3_2
  simp only [List.cons.injEq, and_true] at e3_2
  subst e3_2
  subst g3_2
  clear hA0 hval0 hsz0
  obtain ⟨k, hk⟩ := Made7 l0 l1 a2 a3_0 a3_1 a3_2 
  refine (tailwaterlaw07_EvalsMade.calls k (fun k_ => k_ < W.heap.size) a0 cap0 l0 (fun k_ => k_ < W.heap.size) a1 cap1 l1 a2 a3_0 a3_1 a3_2 true W (Go.Proofs.YtijdckamblaflaaW.PrintWords.Kd.V_mk hc0 (Go.Proofs.YtijdckamblaflaaW.PrintWords.Kd.C_F heapNd hC0)) (Go.Proofs.YtijdckamblaflaaW.PrintWords.Kd.V_mk hc1 (Go.Proofs.YtijdckamblaflaaW.PrintWords.Kd.C_F heapNd hC1)) hk).mono fun e W' ⟨he, bel⟩ => ?_
  subst he
  exact ⟨_, rfl, _, _, _, [], _, [], hW', trodAll_mk1 (shut_bool Try.underlying4 _), (trodAll_cons_mk (Below.trod laidOut (by kernel_rfl) (of_decide_eq_true (by kernel_rfl)) k0 bel lt0) (trodAll_cons_mk (Below.trod laidOut (by kernel_rfl) (of_decide_eq_true (by kernel_rfl)) k1 bel lt1) (trodAll_cons_mk (shut_int Try.underlying5 w2) (trodAll_cons_mk (shut_agg3 Try.underlying56 (by kernel_rfl) (by kernel_rfl) ⟨1, Go.ChangeShapes.trod_int_mk 0 Try.underlying2 w3_0⟩ ⟨1, Go.ChangeShapes.trod_int_mk 0 Try.underlying2 w3_1⟩ ⟨1, Go.ChangeShapes.trod_int_mk 0 Try.underlying2 w3_2⟩) trodAll_mk0)))), rfl, bel.frame _, fun h => by cases h⟩
theorem over : Rows.evalsMadeRow.holds Try.pinned (OpenSpec.ofChange Rows.evalsMadeSpec) :=
  OpenClaim.holds_of_wide 14 Try.f14 rfl rfl rfl rfl rfl rfl rfl ⟨rfl, rfl, rfl, rfl, rfl⟩ rfl rfl rfl rfl rfl (by kernel_rfl) Try.func14 (by kernel_rfl)
    (of_decide_eq_true (by kernel_rfl)) (by unfold Func.isWrapper; first | (rw [if_pos (by decide +kernel)]; kernel_rfl) | (rw [if_neg (by decide +kernel)]; exact ⟨rfl, rfl⟩))
    (fun os started H enc _ => lifted os started H enc)
theorem proved : Rows.EvalsMadeSaid := over
end Go.Proofs.Ytijdckamblaflaa.evalsMade
namespace Go.Proofs.Ytijdckamblaflaa
/-- The row, under a short name, for the claim. -/
theorem evalsMade_holds : Rows.EvalsMadeSaid := evalsMade.proved
#print axioms evalsMade_holds
end Go.Proofs.Ytijdckamblaflaa
