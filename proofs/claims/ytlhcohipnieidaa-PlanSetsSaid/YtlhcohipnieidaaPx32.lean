/- A part of a proof. -/
import Derived.Test.YtlhcohipnieidaaPx0
namespace Go.Proofs.Ytlhcohipnieidaa.P
open Go.RowKit Go.Proofs.YtlhcohipnieidaaW.PrintWords Go.Proofs.YtlhcohipnieidaaW.PrintLast Go.Proofs.YtlhcohipnieidaaW.PrintMore
attribute [local go_sem] max2_int min2_int max_two min_two max_three min_three max_four min_four   -- for this text's walks alone
set_option linter.unusedVariables false
set_option linter.unusedSimpArgs false
-- NOT PRINTED: function 4 (annuitylaw18_PlanLapses)
end Go.Proofs.Ytlhcohipnieidaa.P
