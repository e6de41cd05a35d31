/- Loans: contracts of the functions on loans, walked by hand. -/
import Derived.Test.YtakcepffodipfaaPx1
import Derived.Test.YtakcepffodipfaaPx2
import Derived.Test.YtakcepffodipfaaPx3
import Derived.Test.YtakcepffodipfaaZld
import Derived.Deep.RegionHeld3
import Derived.Laws.CopyOwn
namespace Go.Proofs.Ytakcepffodipfaa.P
open Go.RowKit Go.Proofs.YtakcepffodipfaaW.PrintWords Go.Proofs.YtakcepffodipfaaW.PrintLast Go.Proofs.YtakcepffodipfaaW.PrintMore
attribute [local go_sem] max2_int min2_int max_two min_two max_three min_three max_four min_four   -- for this text's walks alone
set_option linter.unusedVariables false
set_option linter.unusedSimpArgs false
set_option linter.unnecessarySimpa false
end Go.Proofs.Ytakcepffodipfaa.P
