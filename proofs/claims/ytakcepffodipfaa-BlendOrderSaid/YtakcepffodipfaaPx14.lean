/- Functions of the program as plain Lean functions, and proofs that its calls come to just their answers, where they tell one (written by a program of this session). -/
import Derived.Test.YtakcepffodipfaaZaa
import Derived.Test.YtakcepffodipfaaPx0
import Derived.Test.YtakcepffodipfaaPx12
import Derived.Test.YtakcepffodipfaaPx13
namespace Go.Proofs.Ytakcepffodipfaa.P
open Go.RowKit Go.Proofs.YtakcepffodipfaaW.PrintWords Go.Proofs.YtakcepffodipfaaW.PrintLast Go.Proofs.YtakcepffodipfaaW.PrintMore
attribute [local go_sem] max2_int min2_int max_two min_two max_three min_three max_four min_four   -- for this text's walks alone
set_option linter.unusedVariables false
set_option linter.unusedSimpArgs false

/-! ### annuityref01_Add: function 29 -/
def annuityref01_Add.f (a0 : Int) (a1 : Int) : Option (Int × Int) := (annuityref01_Good.f a0).bind fun t233 => (if t233 = true then ((annuityref01_Good.f a1).bind fun t234 => (if t234 = true then ((annuityref01_Good.f (wrap64 (a0 + a1))).bind fun t235 => (if t235 = true then (some (wrap64 (a0 + a1), 0)) else (some (0, 14)))) else (some (0, 14)))) else (some (0, 14)))
/-! ### annuityref13_Whole: function 30 -/
def annuityref13_Whole.f (a0 : Int) : Option (Int) := if a0 < 0 then (some 0) else (some (wrap64 (Int.tdiv a0 1000000)))
/-! ### annuityref14_Owes: function 16 -/
def annuityref14_Owes.f (a0_0 : Int) (a0_1 : Int) (a0_2 : Int) (a0_3 : Int) (a0_4 : Int) (a0_5 : Int) (a0_6 : Bool) (a0_7 : Int) (a0_8 : Int) (a0_9 : Int) (a0_10 : Int) (a0_11 : Int) (a0_12 : Int) : Option (Int × Int) := (annuityref14_Good.f a0_0 a0_1 a0_2 a0_3 a0_4 a0_5 a0_6 a0_7 a0_8 a0_9 a0_10 a0_11 a0_12).bind fun t237 => (if t237 = true then ((annuityref01_Add.f a0_1 a0_4).bind fun bt238 => (if bt238.2 = 0 then ((annuityref13_Whole.f a0_2).bind fun t240 => ((annuityref01_Add.f bt238.1 t240).bind fun bt241 => (some (bt241.1, bt241.2)))) else (some (0, bt238.2)))) else (some (0, 1)))
/-! ### annuityref01_Sum: function 34 -/
def annuityref01_Sum.l0 : Nat → List Int → Int → Int → Option (Int × Int)
 | 0, _, _, _ => none
 | k + 1, x0, x4, x5 => if x5 < (x0.length : Int) then (if 0 ≤ x5 then ((annuityref01_Add.f x4 (rd x0 x5)).bind fun bt244 => (if bt244.2 = 0 then (annuityref01_Sum.l0 k x0 bt244.1 (wrap64 (x5 + 1))) else (some (0, bt244.2)))) else (none)) else (some (x4, 0))
def annuityref01_Sum.f (k : Nat) (l0 : List Int) : Option (Int × Int) := annuityref01_Sum.l0 k l0 0 0
end Go.Proofs.Ytakcepffodipfaa.P
