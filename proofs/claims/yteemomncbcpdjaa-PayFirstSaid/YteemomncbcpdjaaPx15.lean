/- Functions of the program as plain Lean functions, and proofs that its calls come to just their answers, where they tell one (written by a program of this session). -/
import Derived.Test.YteemomncbcpdjaaZaa
import Derived.Test.YteemomncbcpdjaaPx0
import Derived.Test.YteemomncbcpdjaaPx9
import Derived.Test.YteemomncbcpdjaaPx10
import Derived.Test.YteemomncbcpdjaaPx11
namespace Go.Proofs.Yteemomncbcpdjaa.P
open Go.RowKit Go.Proofs.YteemomncbcpdjaaW.PrintWords Go.Proofs.YteemomncbcpdjaaW.PrintLast Go.Proofs.YteemomncbcpdjaaW.PrintMore
attribute [local go_sem] max2_int min2_int max_two min_two max_three min_three max_four min_four   -- for this text's walks alone
set_option linter.unusedVariables false
set_option linter.unusedSimpArgs false

/-! ### annuitykeep_Parts: function 15 -/
-- NOT PRINTED: function 3 (annuitylaw20_PayGoes)

/-! ### annuityref01_Add: function 37 -/
/-! ### annuityref14_Owes: function 16 -/
-- NOT PRINTED: function 4 (annuitylaw20_PayWhole)

-- NOT PRINTED: function 5 (annuitylaw20_PayTwice)

-- NOT PRINTED: function 6 (annuitylaw20_PayFirst)

end Go.Proofs.Yteemomncbcpdjaa.P
