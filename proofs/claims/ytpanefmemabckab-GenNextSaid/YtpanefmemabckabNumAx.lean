/- Printed out of the translation by this session's program: for Go functions, Lean functions with the same answers, and the proofs of that. -/
import Derived.Test.YtpanefmemabckabNumAx0
import Derived.Test.YtpanefmemabckabNumAx1
import Derived.Test.YtpanefmemabckabNumAx2
namespace Go.Proofs.Ytpanefmemabckab.NumA
open Go.RowKit Go.Proofs.YtpanefmemabckabW.PrintWords Go.Proofs.YtpanefmemabckabW.PrintLast Go.Proofs.YtpanefmemabckabW.PrintMore
attribute [local go_sem] max2_int min2_int max_two min_two max_three min_three max_four min_four   -- for this text's walks alone
set_option linter.unusedVariables false
set_option linter.unusedSimpArgs false

end Go.Proofs.Ytpanefmemabckab.NumA
