/- A loan is like itself. -/
import Derived.Test.YtmbenmiakjhgeaaPx14
import Derived.Test.YtmbenmiakjhgeaaPlainMoney
namespace Go.Proofs.Ytmbenmiakjhgeaa.Pure
set_option linter.unusedVariables false
set_option linter.unusedSimpArgs false
open Go.RowKit Go.Proofs.Ytmbenmiakjhgeaa.P Go.Proofs.YtmbenmiakjhgeaaW.PrintWords Go.Proofs.YtmbenmiakjhgeaaW.PrintLast Go.Proofs.YtmbenmiakjhgeaaW.PrintMore Go.Proofs.Ytmbenmiakjhgeaa.PlainM
theorem keep_self (a b c d e f : Int) (g : Bool) (h i j l m n : Int) : annuitykeep_Loan.f a b c d e f g h i j l m n a b c d e f g h i j l m n = some true := by
  simp [annuitykeep_Loan.f]
end Go.Proofs.Ytmbenmiakjhgeaa.Pure
