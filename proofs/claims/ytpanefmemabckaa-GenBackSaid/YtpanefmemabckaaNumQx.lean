/- Printed out of the translation by this session's program: for Go functions, Lean functions with the same answers, and the proofs of that. -/
import Derived.Test.YtpanefmemabckaaNumQx0
import Derived.Test.YtpanefmemabckaaNumQx1
namespace Go.Proofs.Ytpanefmemabckaa.NumQ
open Go.RowKit Go.Proofs.Ytpanefmemabckaa.NumA Go.Proofs.YtpanefmemabckaaW.PrintWords Go.Proofs.YtpanefmemabckaaW.PrintLast Go.Proofs.YtpanefmemabckaaW.PrintMore
attribute [local go_sem] max2_int min2_int max_two min_two max_three min_three max_four min_four   -- for this text's walks alone
set_option linter.unusedVariables false
set_option linter.unusedSimpArgs false

end Go.Proofs.Ytpanefmemabckaa.NumQ
