/- Functions of the program as plain Lean functions, and proofs that its calls come to just their answers, where they tell one (written by a program of this session). -/
import Derived.Test.YtakcepffodipfaaZaa
import Derived.Test.YtakcepffodipfaaPx0
import Derived.Test.YtakcepffodipfaaPx12
namespace Go.Proofs.Ytakcepffodipfaa.P
open Go.RowKit Go.Proofs.YtakcepffodipfaaW.PrintWords Go.Proofs.YtakcepffodipfaaW.PrintLast Go.Proofs.YtakcepffodipfaaW.PrintMore
attribute [local go_sem] max2_int min2_int max_two min_two max_three min_three max_four min_four   -- for this text's walks alone
set_option linter.unusedVariables false
set_option linter.unusedSimpArgs false

/-! ### annuityref14_Good: function 28 -/
def annuityref14_Good.f (a0_0 : Int) (a0_1 : Int) (a0_2 : Int) (a0_3 : Int) (a0_4 : Int) (a0_5 : Int) (a0_6 : Bool) (a0_7 : Int) (a0_8 : Int) (a0_9 : Int) (a0_10 : Int) (a0_11 : Int) (a0_12 : Int) : Option (Bool) := if a0_0 < 1 then (some false) else (if a0_0 > 1000 then (some false) else ((annuityref14_money.f a0_1).bind fun t227 => (if t227 = true then ((annuityref14_money.f a0_4).bind fun t228 => (if t228 = true then ((annuityref14_micro.f a0_2).bind fun t229 => (if t229 = true then ((annuityref14_micro.f a0_3).bind fun t230 => (if t230 = true then (if a0_5 < 0 then (some false) else (if a0_5 > 1000000 then (some false) else (if a0_7 < 1 then (some false) else (if a0_7 > 5 then (some false) else (if a0_8 < 0 then (some false) else (if a0_8 > 4 then (some false) else (if a0_9 < (-1) then (some false) else (if a0_9 > 87658 then (some false) else ((annuityref14_money.f a0_10).bind fun t231 => (if t231 = true then ((annuityref14_money.f a0_11).bind fun t232 => (if t232 = true then (if a0_12 < 0 then (some false) else (if a0_8 = 0 then (some true) else (if a0_1 = 0 then (if a0_2 = 0 then (some (a0_4 == 0)) else (some false)) else (some false)))) else (some false))) else (some false))))))))))) else (some false))) else (some false))) else (some false))) else (some false))))
end Go.Proofs.Ytakcepffodipfaa.P
