/- Plain lists, no memory: EvalsNames answers true. -/
import Derived.Test.YtijdckamblaflaaMLaw07EvalsNames
namespace Go.Proofs.Ytijdckamblaflaa.M
theorem Names7 : ∃ k, tailwaterlaw07_EvalsNames.f k = some true := ⟨1000, by decide +kernel⟩
end Go.Proofs.Ytijdckamblaflaa.M
