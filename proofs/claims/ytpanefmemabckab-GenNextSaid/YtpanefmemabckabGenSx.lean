/- Printed out of the translation by this session's program: for Go functions, Lean functions with the same answers, and the proofs of that. -/
import Derived.Test.YtpanefmemabckabGenSx0
import Derived.Test.YtpanefmemabckabGenSx1
import Derived.Test.YtpanefmemabckabGenSx2
import Derived.Test.YtpanefmemabckabGenSx3
import Derived.Test.YtpanefmemabckabGenSx4
import Derived.Test.YtpanefmemabckabGenSx5
namespace Go.Proofs.Ytpanefmemabckab.GenS
open Go.RowKit Go.Proofs.Ytpanefmemabckab.NumA Go.Proofs.YtpanefmemabckabW.PrintWords Go.Proofs.YtpanefmemabckabW.PrintLast Go.Proofs.YtpanefmemabckabW.PrintMore
attribute [local go_sem] max2_int min2_int max_two min_two max_three min_three max_four min_four   -- for this text's walks alone
set_option linter.unusedVariables false
set_option linter.unusedSimpArgs false

end Go.Proofs.Ytpanefmemabckab.GenS
