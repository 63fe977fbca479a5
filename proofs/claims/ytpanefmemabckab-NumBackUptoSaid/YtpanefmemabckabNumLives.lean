/- The document's examples of num hold: what cardexlaw01.lives asks of numbers is true. -/
import Derived.Test.YtpanefmemabckabNumLx
namespace Go.Proofs.Ytpanefmemabckab.NumLives
open Go.RowKit Go.Proofs.Ytpanefmemabckab.NumL Go.Proofs.YtpanefmemabckabW.PrintWords Go.Proofs.YtpanefmemabckabW.PrintLast
theorem lives_at : cardexlaw01_lives.f 40 = some true := by decide +kernel
theorem lives (k : Nat) (hk : 40 ≤ k) : cardexlaw01_lives.f k = some true := at_rounds cardexlaw01_lives.mono hk lives_at
end Go.Proofs.Ytpanefmemabckab.NumLives
