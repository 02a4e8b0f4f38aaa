/- Plain lists, no memory: KindsNames answers true. -/
import Derived.Test.YtijdckamblaflaaMLaw06KindsNames
namespace Go.Proofs.Ytijdckamblaflaa.M
theorem Names6 : ∃ k, tailwaterlaw06_KindsNames.f k = some true := ⟨1000, by decide +kernel⟩
end Go.Proofs.Ytijdckamblaflaa.M
