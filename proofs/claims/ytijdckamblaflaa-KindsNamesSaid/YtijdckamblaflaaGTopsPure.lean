/- What nodes.tops and nodes.check compute, as plain functions on lists. -/
import Derived.Test.YtijdckamblaflaaMTypes
namespace Go.Proofs.Ytijdckamblaflaa.M
open Go.RowKit Go.Proofs.YtijdckamblaflaaW.PrintWords Go.Proofs.YtijdckamblaflaaW.PrintLast Go.Proofs.YtijdckamblaflaaW.PrintMore

abbrev Nd := S27
abbrev Tp := S99
/-- How many parts a kind has. -/
def np (k : Int) : Option Nat := if 1 ≤ k ∧ k ≤ 4 then some 0 else if k = 5 ∨ k = 6 then some 1 else if 7 ≤ k ∧ k ≤ 19 then some 2 else none
/-- The node as it has to be, its parts' places given: what differs from what it is. -/
def offB (x : Nd) (a b : Int) : Bool := !((if x.f0 = 1 then mx x.f1 0 else 0) == x.f1) || (!(a == x.f2) || (!(b == x.f3) || !(mn (mx x.f4 0) 400 == x.f4)))
/-- What the parts say: the first one's place, the last one's (of two or more), sizes, depths. -/
def tA : List Tp → Int
  | [] => 0
  | p :: _ => p.f0
def tB (ys : List Tp) : Int := if ys.length ≤ 1 then 0 else (ys.getLastD z99).f0
def tS (ys : List Tp) : Int := ys.foldl (fun s p => wrap64 (s + p.f1)) 1
def tD (ys : List Tp) : Int := ys.foldl (fun d p => mx d (wrap64 (p.f2 + 1))) 1
theorem tA_snoc (l : List Tp) (p : Tp) : tA (l ++ [p]) = if l.length = 0 then p.f0 else tA l := by
  cases l <;> simp [tA]
theorem tB_snoc (l : List Tp) (p : Tp) : tB (l ++ [p]) = if l.length = 0 then 0 else p.f0 := by
  unfold tB
  rw [List.getLastD_eq_getLast?, List.getLast?_concat]
  cases l <;> simp
theorem tS_snoc (l : List Tp) (p : Tp) : tS (l ++ [p]) = wrap64 (tS l + p.f1) := by simp [tS]
theorem tD_snoc (l : List Tp) (p : Tp) : tD (l ++ [p]) = mx (tD l) (wrap64 (p.f2 + 1)) := by simp [tD]
/-- One step of the stack: the stack and what is told of the node. -/
def tstep (i : Int) (x : Nd) (stk : List Tp) : Option (List Tp × Tp) :=
  match np x.f0 with
  | none => none
  | some n => if stk.length < n then none else
    if offB x (tA (stk.drop (stk.length - n))) (tB (stk.drop (stk.length - n))) = true then none else
    some (stk.take (stk.length - n) ++ [⟨i, tS (stk.drop (stk.length - n)), tD (stk.drop (stk.length - n))⟩], ⟨i, tS (stk.drop (stk.length - n)), tD (stk.drop (stk.length - n))⟩)
def topsGo : List Nd → Nat → List Tp → List Tp → List Tp × Bool
  | [], _, all, stk => (all, (stk.length : Int) == 1)
  | x :: l, i, all, stk => match tstep i x stk with
    | none => (all, false)
    | some (stk', t) => topsGo l (i + 1) (all ++ [t]) stk'
def nodes_tops.f (l0 : List Nd) : List Tp × Bool := topsGo l0 0 [] []
def nodes_check.f (l0 : List S27) : Option ((List (S99)) × Int) :=
  if l0.length > 60 then some ([], 4) else
  match nodes_tops.f l0 with
  | (_, false) => some ([], 8)
  | (all, true) => match all.getLast? with
    | none => none
    | some t => if t.f2 > 20 then some ([], 34) else some (all, 0)

end Go.Proofs.Ytijdckamblaflaa.M
