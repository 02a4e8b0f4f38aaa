/- The given statement of KindsMade: for every input the call returns true and each argument reads as before. No condition. -/
import Derived.Test.YtijdckamblaflaaRows
import Derived.Test.YtijdckamblaflaaPMade
import Derived.Test.YtijdckamblaflaaROpen
import Derived.WalkKit
import Derived.ProofKit
import Derived.OpenShut
import Derived.ShutString
import Derived.ChangeOld
import Derived.Below
import Derived.SizedLaws
import Derived.Lib.SmallJoins
namespace Go.Proofs.Ytijdckamblaflaa.kindsMade
open Go.ChangeShapes Go.WideShapes Go.ChangeAt Go.RowKit Go.Joins Go.Proofs.Ytijdckamblaflaa.M
set_option linter.unusedVariables false
theorem own : ownKnob Try.prog.godebug = none := by kernel_rfl
theorem laidOut : laidOutB Try.prog = true := by kernel_rfl
theorem heapNd : Go.Proofs.YtijdckamblaflaaW.PrintWords.Kd.Heap k27 := ⟨fun hb h => by obtain rfl := k27_open h; exact k27_mk _ _⟩
set_option maxRecDepth 100000 in
theorem lifted (os : Os) (started : os.Started) (H : Type) (enc : TypeId × Value → H) :
    ReturnsInHanded {} Try.checked os 7 .any (Rows.kindsMadeSpec.pre6 enc Try.prog Try.f7 Rows.kindsMadeRow.domain false) (Rows.kindsMadeSpec.post enc Try.prog Try.f7 false true false false) := by
  refine returnsInHanded_of_change_sized (C := Try.checked) own started (by kernel_rfl) Try.func7
    (ChangeSpec.witness6 (enc := enc) (C := Try.checked) false ⟨#[], #[.slice none 0 0, .slice none 0 0, .int .u8 0], []⟩ 8 (by kernel_rfl) (by kernel_rfl) (by kernel_rfl) (by kernel_rfl)) ?_
  intro W base args ds gs before hval0 hW hcnd hsz0 _
  have hval : ∀ (j : Nat) t v, Try.f7.params[j]? = some t → args[j]? = some v → Value.okWide Try.prog W .any base t v := hval0
  have hW' := hW
  obtain ⟨p, q, hA0, hV, rfl, hfz, hnd⟩ := hW
  have hA : DataW.TrodAll enc Try.prog W 0 (fun _ => true) true Try.f7.params.toList args.toList ds p := hA0
  rw [Try.params7] at hA hval
  obtain ⟨v0, vs0, d0, ds0, p0, q0, hargs, rfl, rfl, h0, r0⟩ := trodAll_cons hA
  obtain ⟨v1, vs1, d1, ds1, p1, q1, rfl, rfl, rfl, h1, r1⟩ := trodAll_cons r0
  obtain ⟨v2, vs2, d2, ds2, p2, q2, rfl, rfl, rfl, h2, r2⟩ := trodAll_cons r1
  obtain ⟨rfl, rfl, rfl⟩ := trodAll_nil r2
  obtain rfl : args = #[v0, v1, v2] := by cases args; simp_all
  obtain ⟨rfl, rfl⟩ := trodVars_none hV
  obtain ⟨a0, len0, cap0, rfl⟩ := okWide_slice Try.underlying22 (hval 0 22 v0 rfl rfl)
  have k0 := h0
  have lt0 : ∀ x ∈ p0, x.block < W.heap.size := by obtain ⟨m, hm⟩ := k0; exact DataW.trod_lt m _ _ _ hm
  obtain ⟨l0, hl0, hc0, hC0, hw0⟩ : ∃ l : List S27, l.length = len0 ∧ len0 ≤ cap0 ∧ Go.Proofs.YtijdckamblaflaaW.PrintWords.Kd.C k27 W a0 l.length l ∧ ∀ y ∈ l, NdWf y := by
    obtain ⟨fuel, hf⟩ := h0
    exact open_nodes (by simpa [Value.cells] using hf)
  subst hl0
  obtain ⟨a1, len1, cap1, rfl⟩ := okWide_slice Try.underlying22 (hval 1 22 v1 rfl rfl)
  have k1 := h1
  have lt1 : ∀ x ∈ p1, x.block < W.heap.size := by obtain ⟨m, hm⟩ := k1; exact DataW.trod_lt m _ _ _ hm
  obtain ⟨l1, hl1, hc1, hC1, hw1⟩ : ∃ l : List S27, l.length = len1 ∧ len1 ≤ cap1 ∧ Go.Proofs.YtijdckamblaflaaW.PrintWords.Kd.C k27 W a1 l.length l ∧ ∀ y ∈ l, NdWf y := by
    obtain ⟨fuel, hf⟩ := h1
    exact open_nodes (by simpa [Value.cells] using hf)
  subst hl1
  obtain ⟨a2, rfl, rfl, rfl, w2⟩ := open_int Try.underlying5 (hval 2 5 v2 rfl rfl) h2
  clear hA0 hval0 hsz0
  obtain ⟨k, hk⟩ := Made l0 l1 a2
  refine (tailwaterlaw06_KindsMade.calls k (fun k_ => k_ < W.heap.size) a0 cap0 l0 (fun k_ => k_ < W.heap.size) a1 cap1 l1 a2 true W (Go.Proofs.YtijdckamblaflaaW.PrintWords.Kd.V_mk hc0 (Go.Proofs.YtijdckamblaflaaW.PrintWords.Kd.C_F heapNd hC0)) (Go.Proofs.YtijdckamblaflaaW.PrintWords.Kd.V_mk hc1 (Go.Proofs.YtijdckamblaflaaW.PrintWords.Kd.C_F heapNd hC1)) hk).mono fun e W' ⟨he, bel⟩ => ?_
  subst he
  exact ⟨_, rfl, _, _, _, [], _, [], hW', trodAll_mk1 (shut_bool Try.underlying4 _), (trodAll_cons_mk (Below.trod laidOut (by kernel_rfl) (of_decide_eq_true (by kernel_rfl)) k0 bel lt0) (trodAll_cons_mk (Below.trod laidOut (by kernel_rfl) (of_decide_eq_true (by kernel_rfl)) k1 bel lt1) (trodAll_cons_mk (shut_int Try.underlying5 w2) trodAll_mk0))), rfl, bel.frame _, fun h => by cases h⟩
theorem over : Rows.kindsMadeRow.holds Try.pinned (OpenSpec.ofChange Rows.kindsMadeSpec) :=
  OpenClaim.holds_of_wide 7 Try.f7 rfl rfl rfl rfl rfl rfl rfl ⟨rfl, rfl, rfl, rfl, rfl⟩ rfl rfl rfl rfl rfl (by kernel_rfl) Try.func7 (by kernel_rfl)
    (of_decide_eq_true (by kernel_rfl)) (by unfold Func.isWrapper; first | (rw [if_pos (by decide +kernel)]; kernel_rfl) | (rw [if_neg (by decide +kernel)]; exact ⟨rfl, rfl⟩))
    (fun os started H enc _ => lifted os started H enc)
theorem proved : Rows.KindsMadeSaid := over
end Go.Proofs.Ytijdckamblaflaa.kindsMade
namespace Go.Proofs.Ytijdckamblaflaa
/-- The row, under a short name, for the claim. -/
theorem kindsMade_holds : Rows.KindsMadeSaid := kindsMade.proved
#print axioms kindsMade_holds
end Go.Proofs.Ytijdckamblaflaa
