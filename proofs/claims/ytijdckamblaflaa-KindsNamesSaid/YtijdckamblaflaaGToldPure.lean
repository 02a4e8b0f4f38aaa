/- What kinds.told computes, as a plain function on lists. -/
import Derived.Test.YtijdckamblaflaaMTypes
namespace Go.Proofs.Ytijdckamblaflaa.M
open Go.RowKit Go.Proofs.YtijdckamblaflaaW.PrintWords Go.Proofs.YtijdckamblaflaaW.PrintLast Go.Proofs.YtijdckamblaflaaW.PrintMore

/-- Does a node of a kind fit, over parts that give these. -/
def kfit (k : Int) (a b : Bool) : Bool :=
  if k = 5 then !a else if k = 6 then a else if k ≤ 15 then !a && !b else if k ≤ 17 then a == b else a && b
/-- What a kind gives: a truth value, or not. -/
def kgive (k : Int) : Bool := decide (k = 6) || decide (12 ≤ k)
def toldGo : List S27 → Int → List Bool → Option (List Bool × Int)
  | [], i, is => some (is, i)
  | x :: l, i, is =>
    if x.f0 ≤ 4 then toldGo l (i + 1) (is ++ [false]) else
    if 0 ≤ x.f2 ∧ x.f2 < is.length ∧ 0 ≤ x.f3 ∧ x.f3 < is.length then
      if kfit x.f0 (rdOf false is x.f2) (rdOf false is x.f3) = true then toldGo l (i + 1) (is ++ [kgive x.f0]) else some ([], i)
    else none
def kinds_told.f (l0 : List (S27)) : Option (List Bool × Int) := if l0.length ≤ 1000 then toldGo l0 0 [] else none

end Go.Proofs.Ytijdckamblaflaa.M
