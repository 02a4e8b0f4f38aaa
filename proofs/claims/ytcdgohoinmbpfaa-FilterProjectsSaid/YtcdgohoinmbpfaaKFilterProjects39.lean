import Derived.Test.YtcdgohoinmbpfaaKFilterProjects35
import Derived.Test.YtcdgohoinmbpfaaKFilterProjects37
import Derived.Test.YtcdgohoinmbpfaaKFilterProjects38
/- Plain lists, no memory: FilterProjects answers true for every query and record of numbers of their kinds. -/
namespace Go.Proofs.Ytcdgohoinmbpfaa.M
open Go.RowKit Go.Proofs.YtcdgohoinmbpfaaW.PrintWords Go.Proofs.YtcdgohoinmbpfaaW.PrintLast Go.Proofs.YtcdgohoinmbpfaaW.PrintMore
set_option linter.unusedVariables false
set_option linter.unusedSimpArgs false

theorem rng_wf {x : Int} (h : (Lit.int .i64 x).wf = true) : Rng x := by
  unfold Lit.wf at h
  rw [Bool.and_eq_true, decide_eq_true_iff, decide_eq_true_iff] at h
  have h1 : IntKind.i64.min = -9223372036854775808 := rfl
  have h2 : IntKind.i64.max = 9223372036854775807 := rfl
  unfold Rng
  omega
theorem Projects (a0 : Int) (l1 : List Nd) (l2 : List Int) (a3 : Bool) (l4 : List Nd) (a5 a6 a7 : Int) (a8 : Bool) (a9 a b c : Int) (hn1 : ∀ x ∈ l1, NdWf x) (hn4 : ∀ x ∈ l4, NdWf x) (ha : (Lit.int .i64 a).wf = true) (hb : (Lit.int .i64 b).wf = true) (hc : (Lit.int .i64 c).wf = true) :
    tailwaterlaw29_FilterProjects.f 399 a0 l1 l2 a3 l4 a5 a6 a7 a8 a9 a b c = some true := by
  unfold tailwaterlaw29_FilterProjects.f tailwaterlaw29_great.f
  by_cases g1 : (l1.length : Int) > 100
  · rw [if_pos g1]; rfl
  · rw [if_neg g1]
    by_cases g2 : (l4.length : Int) > 100
    · rw [if_pos g2]; rfl
    · rw [if_neg g2, Option.bind_some]
      obtain ⟨r, e1, e2⟩ := project_eq a0 l1 l2 a3 l4 a5 a6 a7 a8 a9 a b c (by omega) (by omega) (fun x hx => rng_wf (hn1 x hx).2.1) (fun x hx => rng_wf (hn4 x hx).2.1) (rng_wf ha) (rng_wf hb) (rng_wf hc)
      rw [e1, e2]
      split
      · rfl
      · simp

end Go.Proofs.Ytcdgohoinmbpfaa.M
