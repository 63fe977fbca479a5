/- The document's examples of num hold: what cardexlaw01.lives asks of numbers is true. -/
import Derived.Test.YtpanefmemabckaaNumLx
namespace Go.Proofs.Ytpanefmemabckaa.NumLives
open Go.RowKit Go.Proofs.Ytpanefmemabckaa.NumL Go.Proofs.YtpanefmemabckaaW.PrintWords Go.Proofs.YtpanefmemabckaaW.PrintLast
theorem lives_at : cardexlaw01_lives.f 40 = some true := by decide +kernel
theorem lives (k : Nat) (hk : 40 ≤ k) : cardexlaw01_lives.f k = some true := at_rounds cardexlaw01_lives.mono hk lives_at
end Go.Proofs.Ytpanefmemabckaa.NumLives
