/- The contract of nodes.pop at nodes.top: a row of the call's own is cut in two: what stays is the row, what is popped is read. -/
import Derived.Test.YtijdckamblaflaaMTypes
namespace Go.Proofs.Ytijdckamblaflaa.M
open Go.RowKit Go.Proofs.YtijdckamblaflaaW.PrintWords Go.Proofs.YtijdckamblaflaaW.PrintLast Go.Proofs.YtijdckamblaflaaW.PrintMore
set_option linter.unusedVariables false
set_option linter.unusedSimpArgs false

def nodes_pop.Post (W0 w : World) (base : Nat) (ok : Nat → Prop) (v : Value) (xs ys : List S99) (e : Ending) (w' : World) : Prop :=
  ∃ v1 A c, e = .returned (.tuple #[v1, .slice A ys.length c]) ∧ v1.ownBlock = v.ownBlock ∧ Kd.R k99 99 W0 base ok v1 xs ∧ Kd.C k99 W0 A ys.length ys ∧ Drawn0 w w'
set_option maxHeartbeats 800000 in
set_option maxRecDepth 100000 in
theorem nodes_pop.calls (xs ys : List S99) (v : Value) (base : Nat) (ok : Nat → Prop) (W0 : World) (ho : Kd.R k99 99 W0 base ok v (xs ++ ys)) (w : World) (n : Int) (hn : n = ys.length) :
    Calls Try.prog 70 #[v, .int .i64 n] w (nodes_pop.Post W0 w base ok v xs ys) := by
  obtain ⟨A, c, rfl, hc, hC⟩ := Kd.R_reads ho
  have hl : (xs ++ ys).length = xs.length + ys.length := List.length_append
  have hm : (xs ++ ys).length ≤ 9223372036854775807 := hC.2.1
  obtain ⟨i0, hi0, _, hsz, _⟩ := info_parts info99
  have hto := cut_to (P := Try.prog) 93 99 .i64 Try.underlying93 hi0 A (xs ++ ys).length c (xs.length : Int) (by omega) (by omega) hc
  have hfr := cut_from (P := Try.prog) 93 99 .i64 Try.underlying93 hi0 3 hsz A (xs ++ ys).length c (xs.length : Int) (by omega) (by omega)
  rw [Int.toNat_natCast] at hto hfr
  obtain ⟨A2, hA2⟩ : ∃ A2, A2 = (if c = xs.length then A else A.map (·.add (xs.length * 3))) := ⟨_, rfl⟩
  rw [← hA2] at hfr
  have hT := Aside0.mk (Kd.R_take (m := xs.length) ho (by omega))
  have hD := Aside0.mk (Kd.C_drop (m := xs.length) hC (by omega) hc)
  have hsub : IntKind.i64.wrap (((xs ++ ys).length : Int) - n) = (xs.length : Int) := by
    rw [IntKind.wrap_i64]; omega
  obtain ⟨L, hL⟩ : ∃ L, L = (xs ++ ys).length := ⟨_, rfl⟩
  rw [← hL] at hto hfr hsub ⊢
  have hLL := Aside0.mk hL
  have hNN := Aside0.mk hn
  have hXY := Aside0.mk hl
  have hCC := Aside0.mk hC
  have hO := Aside0.mk ho
  have hAA := Aside0.mk hA2
  clear hL hn ho hC hl hm hc hA2
  go_enter Try.func70, Try.ntmps70
  go_wp2_with fail
  go_quiet (fail)
  go_wp2_with fail
  go_ret2
  refine ⟨.slice A xs.length c, A2, c - xs.length, ?_, by cases A <;> rfl, ?_, ?_, ⟨_, rfl⟩⟩
  · have : L - xs.length = ys.length := by have := hXY.out; have := hLL.out; omega
    rw [this]; rfl
  · have h1 := hT.out
    rwa [List.take_left] at h1
  · have h1 := hD.out
    rw [List.drop_left] at h1
    rw [hAA.out]
    exact h1

end Go.Proofs.Ytijdckamblaflaa.M
