-- Written by the kit's print.py, called by wip/print-all.sh over several laws at once.
import Derived.Test.YteehnbgkgdhgaaaPNumx0
import Derived.Test.YteehnbgkgdhgaaaPNumx1
import Derived.Test.YteehnbgkgdhgaaaPNumx2
import Derived.Test.YteehnbgkgdhgaaaPNumx3
namespace Go.Proofs.Yteehnbgkgdhgaaa.PNum
open Go.RowKit Go.Proofs.YteehnbgkgdhgaaaW.PrintWords Go.Proofs.YteehnbgkgdhgaaaW.PrintLast Go.Proofs.YteehnbgkgdhgaaaW.PrintMore
attribute [local go_sem] max2_int min2_int max_two min_two max_three min_three max_four min_four   -- for this text's walks alone
set_option linter.unusedVariables false
set_option linter.unusedSimpArgs false

end Go.Proofs.Yteehnbgkgdhgaaa.PNum
