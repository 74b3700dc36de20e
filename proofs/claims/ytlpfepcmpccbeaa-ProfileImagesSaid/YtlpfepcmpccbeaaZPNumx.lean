import Derived.Test.YtlpfepcmpccbeaaZPNumx0
import Derived.Test.YtlpfepcmpccbeaaZPNumx1
import Derived.Test.YtlpfepcmpccbeaaZPNumx2
import Derived.Test.YtlpfepcmpccbeaaZPNumx3
import Derived.Test.YtlpfepcmpccbeaaZPNumx4
import Derived.Test.YtlpfepcmpccbeaaZPNumx5
import Derived.Test.YtlpfepcmpccbeaaZPNumx6
import Derived.Test.YtlpfepcmpccbeaaZPNumx7
import Derived.Test.YtlpfepcmpccbeaaZPNumx8
import Derived.Test.YtlpfepcmpccbeaaZPNumx9
import Derived.Test.YtlpfepcmpccbeaaZPNumx10
import Derived.Test.YtlpfepcmpccbeaaZPNumx11
import Derived.Test.YtlpfepcmpccbeaaZPNumx12
-- Written by the kit's print.py, called by wip/print-all.sh over several laws at once.
namespace Go.Proofs.Ytlpfepcmpccbeaa.PNum
open Go.RowKit Go.Proofs.YtlpfepcmpccbeaaW.PrintWords Go.Proofs.YtlpfepcmpccbeaaW.PrintLast Go.Proofs.YtlpfepcmpccbeaaW.PrintMore
attribute [local go_sem] max2_int min2_int max_two min_two
set_option linter.unusedVariables false
set_option linter.unusedSimpArgs false

end Go.Proofs.Ytlpfepcmpccbeaa.PNum
