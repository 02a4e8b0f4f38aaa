/- A world that is another one behind new blocks and draws: what was told of the other one holds there. -/
import Derived.Test.YtijdckamblaflaaMTypes
namespace Go.Proofs.Ytijdckamblaflaa.M
open Go.RowKit Go.Proofs.YtijdckamblaflaaW.PrintWords Go.Proofs.YtijdckamblaflaaW.PrintLast Go.Proofs.YtijdckamblaflaaW.PrintMore
set_option linter.unusedVariables false
set_option linter.unusedSimpArgs false

class Later (w w' : World) : Prop where
  b : Below w.heap.size w w'
instance later_refl (w : World) : Later w w := ⟨Below.refl _ _⟩
instance later_alloc (w W : World) (o : Obj) [h : Later w W] : Later w (W.alloc o) := ⟨below_alloc h.b o⟩
instance later_drewN (w W : World) (n : Nat) [h : Later w W] : Later w (W.drewN n) := ⟨pw_below_drewN h.b n⟩
instance later_drew (w W : World) [h : Later w W] : Later w W.drew := ⟨below_drew h.b⟩
theorem belL {w W W' : World} (h : Below w.heap.size w W) [k : Later W W'] : Below w.heap.size w W' := below_then h h.size k.b
theorem blkL {w w' : World} {g : Nat} {o : Obj} (h : w.heap[g]? = some o) [k : Later w w'] : w'.heap[g]? = some o := blk_below h k.b
section
variable {α : Type} {d : Kd α} {e : Nat} {w w' : World} {base : Nat} {ok : Nat → Prop} {v : Value} {xs : List α}
theorem RL (h : d.R e w base ok v xs) [k : Later w w'] : d.R e w' base ok v xs := Kd.R_below h k.b
theorem CL {A : Option Addr} {n : Nat} (h : d.C w A n xs) [k : Later w w'] : d.C w' A n xs := Kd.C_below h k.b
theorem VL (h : Kd.V d e w base ok v xs) [k : Later w w'] : Kd.V d e w' base ok v xs := Kd.V_below h k.b
end
theorem NL {α : Type} {d : Kd α} {e : Nat} {w w' : World} {base : Nat} {ok : Nat → Prop} {v : Value} {xs : List α} (h : Kd.N d e w base ok v xs) [k : Later w w'] : Kd.N d e w' base ok v xs := Kd.N_below h k.b
/-- A row of four numbers that the walk has laid itself. -/
theorem C_new4 (w : World) (a b c d : Int) (t : Nat) : Kd.C (Kd.int .i64) (w.alloc (.cells #[.int .i64 a, .int .i64 b, .int .i64 c, .int .i64 d] t)) (some ⟨w.heap.size, 0, none⟩) 4 [a, b, c, d] := by
  refine ⟨rfl, by decide, fun _ => ⟨_, rfl, fun j p hp => ?_⟩⟩
  match j, hp with
  | 0, hp => simp at hp; subst hp; exact ⟨[.int .i64 a], rfl, rfl, fun i u hu => by match i, hu with | 0, hu => simp at hu; subst hu; simp [Addr.add]⟩
  | 1, hp => simp at hp; subst hp; exact ⟨[.int .i64 b], rfl, rfl, fun i u hu => by match i, hu with | 0, hu => simp at hu; subst hu; simp [Addr.add, Kd.int, Kd.scalar]⟩
  | 2, hp => simp at hp; subst hp; exact ⟨[.int .i64 c], rfl, rfl, fun i u hu => by match i, hu with | 0, hu => simp at hu; subst hu; simp [Addr.add, Kd.int, Kd.scalar]⟩
  | 3, hp => simp at hp; subst hp; exact ⟨[.int .i64 d], rfl, rfl, fun i u hu => by match i, hu with | 0, hu => simp at hu; subst hu; simp [Addr.add, Kd.int, Kd.scalar]⟩

end Go.Proofs.Ytijdckamblaflaa.M
