/- The given statement of FilterTwice: for every input the call returns true and each argument reads as before. No condition. -/
import Derived.Test.YtcdgohoinmbpfaaRows
import Derived.Test.YtcdgohoinmbpfaaKFilterTwice48
import Derived.Test.YtcdgohoinmbpfaaKFilterTwice49
import Derived.WalkKit
import Derived.ProofKit
import Derived.OpenShut
import Derived.ShutString
import Derived.ChangeOld
import Derived.Below
import Derived.SizedLaws
import Derived.Lib.SmallJoins
namespace Go.Proofs.Ytcdgohoinmbpfaa.filterTwice
open Go.ChangeShapes Go.WideShapes Go.ChangeAt Go.RowKit Go.Joins Go.Proofs.Ytcdgohoinmbpfaa.M
set_option linter.unusedVariables false
theorem own : ownKnob Try.prog.godebug = none := by kernel_rfl
theorem laidOut : laidOutB Try.prog = true := by kernel_rfl
set_option maxRecDepth 100000 in
theorem lifted (os : Os) (started : os.Started) (H : Type) (enc : TypeId × Value → H) :
    ReturnsInHanded {} Try.checked os 7 .any (Rows.filterTwiceSpec.pre6 enc Try.prog Try.f7 Rows.filterTwiceRow.domain false) (Rows.filterTwiceSpec.post enc Try.prog Try.f7 false true false false) := by
  refine returnsInHanded_of_change_sized (C := Try.checked) own started (by kernel_rfl) Try.func7
    (ChangeSpec.witness6 (enc := enc) (C := Try.checked) false ⟨#[], #[.agg #[.int .u8 0, .slice none 0 0, .slice none 0 0, .bool false, .slice none 0 0, .int .u8 0, .int .i64 0, .int .i64 0, .bool false, .int .u8 0], .agg #[.int .i64 0, .int .i64 0, .int .i64 0]], []⟩ 8 (by kernel_rfl) (by kernel_rfl) (by kernel_rfl) (by kernel_rfl)) ?_
  intro W base args ds gs before hval0 hW hcnd hsz0 _
  have hval : ∀ (j : Nat) t v, Try.f7.params[j]? = some t → args[j]? = some v → Value.okWide Try.prog W .any base t v := hval0
  have hW' := hW
  obtain ⟨p, q, hA0, hV, rfl, hfz, hnd⟩ := hW
  have hA : DataW.TrodAll enc Try.prog W 0 (fun _ => true) true Try.f7.params.toList args.toList ds p := hA0
  rw [Try.params7] at hA hval
  obtain ⟨v0, vs0, d0, ds0, p0, q0, hargs, rfl, rfl, h0, r0⟩ := trodAll_cons hA
  obtain ⟨v1, vs1, d1, ds1, p1, q1, rfl, rfl, rfl, h1, r1⟩ := trodAll_cons r0
  obtain ⟨rfl, rfl, rfl⟩ := trodAll_nil r1
  obtain rfl : args = #[v0, v1] := by cases args; simp_all
  obtain ⟨rfl, rfl⟩ := trodVars_none hV
  obtain ⟨cs0, rfl, _⟩ := okWide_struct Try.underlying41 (hval 0 41 v0 rfl rfl)
  have k0 := h0
  have lt0 : ∀ x ∈ p0, x.block < W.heap.size := by obtain ⟨m, hm⟩ := k0; exact DataW.trod_lt m _ _ _ hm
  obtain ⟨fuel0, hf0⟩ := h0
  obtain ⟨x0_0, A0_1, c0_1, l0_1, A0_2, c0_2, l0_2, x0_3, A0_4, c0_4, l0_4, x0_5, x0_6, x0_7, x0_8, x0_9, hq0, b0_1, C0_1, w0_1, b0_2, C0_2, b0_4, C0_4, w0_4⟩ := open_query hf0
  obtain rfl : cs0 = #[.int .u8 x0_0, .slice A0_1 l0_1.length c0_1, .slice A0_2 l0_2.length c0_2, .bool x0_3, .slice A0_4 l0_4.length c0_4, .int .u8 x0_5, .int .i64 x0_6, .int .i64 x0_7, .bool x0_8, .int .u8 x0_9] := by apply Array.ext'; simpa [Value.cells] using hq0
  obtain ⟨c1_0, c1_1, c1_2, y1_0, y1_1, y1_2, m1, rfl, rfl, rfl, t1_0, t1_1, t1_2⟩ := open_agg3 Try.underlying43 (by kernel_rfl) (by kernel_rfl) (hval 1 43 v1 rfl rfl) h1
  obtain ⟨a1_0, e1_0, g1_0, w1_0⟩ := DataW.trod_int Try.underlying2 t1_0
  simp only [List.cons.injEq, and_true] at e1_0
  subst e1_0
  subst g1_0
  obtain ⟨a1_1, e1_1, g1_1, w1_1⟩ := DataW.trod_int Try.underlying2 t1_1
  simp only [List.cons.injEq, and_true] at e1_1
  subst e1_1
  subst g1_1
  obtain ⟨a1_2, e1_2, g1_2, w1_2⟩ := DataW.trod_int Try.underlying2 t1_2
  simp only [List.cons.injEq, and_true] at e1_2
  subst e1_2
  subst g1_2
  clear hA0 hval0 hsz0
  have hk := Twice x0_0 l0_1 l0_2 x0_3 l0_4 x0_5 x0_6 x0_7 x0_8 x0_9 a1_0 a1_1 a1_2 w0_1 w0_4 w1_0 w1_1 w1_2
  refine (tailwaterlaw29_FilterTwice.calls 399 x0_0 A0_1 c0_1 l0_1 A0_2 c0_2 l0_2 x0_3 A0_4 c0_4 l0_4 x0_5 x0_6 x0_7 x0_8 x0_9 a1_0 a1_1 a1_2 true W C0_1 b0_1 C0_2 b0_2 C0_4 b0_4 hk rfl).mono fun e W' ⟨he, bel⟩ => ?_
  subst he
  exact ⟨_, rfl, _, _, _, [], _, [], hW', trodAll_mk1 (shut_bool Try.underlying4 _), (trodAll_cons_mk (Below.trod laidOut (by kernel_rfl) (of_decide_eq_true (by kernel_rfl)) k0 bel lt0) (trodAll_cons_mk (shut_agg3 Try.underlying43 (by kernel_rfl) (by kernel_rfl) ⟨1, Go.ChangeShapes.trod_int_mk 0 Try.underlying2 w1_0⟩ ⟨1, Go.ChangeShapes.trod_int_mk 0 Try.underlying2 w1_1⟩ ⟨1, Go.ChangeShapes.trod_int_mk 0 Try.underlying2 w1_2⟩) trodAll_mk0)), rfl, bel.frame _, fun h => by cases h⟩
theorem over : Rows.filterTwiceRow.holds Try.pinned (OpenSpec.ofChange Rows.filterTwiceSpec) :=
  OpenClaim.holds_of_wide 7 Try.f7 rfl rfl rfl rfl rfl rfl rfl ⟨rfl, rfl, rfl, rfl, rfl⟩ rfl rfl rfl rfl rfl (by kernel_rfl) Try.func7 (by kernel_rfl)
    (of_decide_eq_true (by kernel_rfl)) (by unfold Func.isWrapper; first | (rw [if_pos (by decide +kernel)]; kernel_rfl) | (rw [if_neg (by decide +kernel)]; exact ⟨rfl, rfl⟩))
    (fun os started H enc _ => lifted os started H enc)
theorem proved : Rows.FilterTwiceSaid := over
end Go.Proofs.Ytcdgohoinmbpfaa.filterTwice
namespace Go.Proofs.Ytcdgohoinmbpfaa
/-- The row, under a short name, for the claim. -/
theorem filterTwice_holds : Rows.FilterTwiceSaid := filterTwice.proved
#print axioms filterTwice_holds
end Go.Proofs.Ytcdgohoinmbpfaa
