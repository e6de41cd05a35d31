/- Functions of the program as plain Lean functions, and proofs that its calls come to just their answers, where they tell one (written by a program of this session). -/
import Derived.Test.YteemomncbcpdjaaZaa
import Derived.Test.YteemomncbcpdjaaPx0
import Derived.Test.YteemomncbcpdjaaPx10
import Derived.Test.YteemomncbcpdjaaPx11
namespace Go.Proofs.Yteemomncbcpdjaa.P
open Go.RowKit Go.Proofs.YteemomncbcpdjaaW.PrintWords Go.Proofs.YteemomncbcpdjaaW.PrintLast Go.Proofs.YteemomncbcpdjaaW.PrintMore
attribute [local go_sem] max2_int min2_int max_two min_two max_three min_three max_four min_four   -- for this text's walks alone
set_option linter.unusedVariables false
set_option linter.unusedSimpArgs false

/-! ### annuityref14_Pay: function 33 -/
mutual
def annuityref14_Pay.j0 : Nat → Int → Int → Int → Bool → Int → Int → Int → Int → Int → Int → Bool → Int → Int → Int → Int → Int → Int → Option (Int × Int × Int × Int × Int × Int × Bool × Int × Int × Int × Int × Int × Int × Int)
 | 0, _, _, _, _, _, _, _, _, _, _, _, _, _, _, _, _, _ => none
 | k + 1, x1, x2, x3, x24, x232000, x232001, x232002, x232003, x232004, x232005, x232006, x232007, x232008, x232009, x232010, x232011, x232012 => if x24 = true then (some (0, 0, 0, 0, 0, 0, false, 0, 0, 0, 0, 0, 0, 1)) else (if x232008 = 0 then (if x1 > x232004 then (annuityref14_Pay.j1 k x1 x2 x3 true x232000 x232001 x232002 x232003 x232004 x232005 x232006 x232007 x232008 x232009 x232010 x232011 x232012) else ((annuityref13_Whole.f x232002).bind fun t234 => (if x2 > t234 then (annuityref14_Pay.j1 k x1 x2 x3 true x232000 x232001 x232002 x232003 x232004 x232005 x232006 x232007 x232008 x232009 x232010 x232011 x232012) else (annuityref14_Pay.j1 k x1 x2 x3 (decide (x3 > x232001)) x232000 x232001 x232002 x232003 x232004 x232005 x232006 x232007 x232008 x232009 x232010 x232011 x232012)))) else (some (0, 0, 0, 0, 0, 0, false, 0, 0, 0, 0, 0, 0, 61)))
def annuityref14_Pay.j1 : Nat → Int → Int → Int → Bool → Int → Int → Int → Int → Int → Int → Bool → Int → Int → Int → Int → Int → Int → Option (Int × Int × Int × Int × Int × Int × Bool × Int × Int × Int × Int × Int × Int × Int)
 | 0, _, _, _, _, _, _, _, _, _, _, _, _, _, _, _, _, _ => none
 | k + 1, x1, x2, x3, x46, x232000, x232001, x232002, x232003, x232004, x232005, x232006, x232007, x232008, x232009, x232010, x232011, x232012 => if x46 = true then (some (0, 0, 0, 0, 0, 0, false, 0, 0, 0, 0, 0, 0, 14)) else (if (wrap64 (x232004 - x1)) = 0 then (if (wrap64 (x232001 - x3)) = 0 then ((annuityref13_Whole.f (wrap64 (x232002 - (wrap64 (x2 * 1000000))))).bind fun t235 => (annuityref14_Pay.j2 k (t235 == 0) x232000 (wrap64 (x232001 - x3)) (wrap64 (x232002 - (wrap64 (x2 * 1000000)))) x232003 (wrap64 (x232004 - x1)) x232005 x232006 x232007 x232008 x232009 x232010 x232011 x232012)) else (annuityref14_Pay.j2 k false x232000 (wrap64 (x232001 - x3)) (wrap64 (x232002 - (wrap64 (x2 * 1000000)))) x232003 (wrap64 (x232004 - x1)) x232005 x232006 x232007 x232008 x232009 x232010 x232011 x232012)) else (annuityref14_Pay.j2 k false x232000 (wrap64 (x232001 - x3)) (wrap64 (x232002 - (wrap64 (x2 * 1000000)))) x232003 (wrap64 (x232004 - x1)) x232005 x232006 x232007 x232008 x232009 x232010 x232011 x232012))
def annuityref14_Pay.j2 : Nat → Bool → Int → Int → Int → Int → Int → Int → Bool → Int → Int → Int → Int → Int → Int → Option (Int × Int × Int × Int × Int × Int × Bool × Int × Int × Int × Int × Int × Int × Int)
 | 0, _, _, _, _, _, _, _, _, _, _, _, _, _, _ => none
 | k + 1, x77, x232000, x232001, x232002, x232003, x232004, x232005, x232006, x232007, x232008, x232009, x232010, x232011, x232012 => if x77 = true then (some (x232000, x232001, 0, x232003, x232004, x232005, x232006, x232007, 1, x232009, x232010, x232011, x232012, 0)) else (some (x232000, x232001, x232002, x232003, x232004, x232005, x232006, x232007, x232008, x232009, x232010, x232011, x232012, 0))
end
end Go.Proofs.Yteemomncbcpdjaa.P
