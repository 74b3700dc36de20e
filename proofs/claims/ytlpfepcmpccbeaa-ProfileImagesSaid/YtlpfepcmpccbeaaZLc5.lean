import Derived.Test.YtlpfepcmpccbeaaZV
import Derived.Test.YtlpfepcmpccbeaaZS
/-
  The law ProfileColors: its walk.
-/
namespace Go.Proofs.Ytlpfepcmpccbeaa.Lw
open Go.RowKit Go.Proofs.Ytlpfepcmpccbeaa.NM Go.Proofs.Ytlpfepcmpccbeaa.Cv Go.Proofs.Ytlpfepcmpccbeaa.Wi Go.Proofs.Ytlpfepcmpccbeaa.Nm9 Go.Proofs.Ytlpfepcmpccbeaa.Mx Go.Proofs.Ytlpfepcmpccbeaa.Pf Go.Proofs.Ytlpfepcmpccbeaa.Pt Go.Proofs.Ytlpfepcmpccbeaa.Aw Go.Proofs.Ytlpfepcmpccbeaa.PNum Go.Proofs.YtlpfepcmpccbeaaW.PrintWords Go.Proofs.YtlpfepcmpccbeaaW.PrintMore Go.Proofs.YtlpfepcmpccbeaaW.PrintLast
attribute [local go_sem] eq9 eq3
attribute [local go_sem high] eqA35
set_option linter.unusedVariables false
end Go.Proofs.Ytlpfepcmpccbeaa.Lw
