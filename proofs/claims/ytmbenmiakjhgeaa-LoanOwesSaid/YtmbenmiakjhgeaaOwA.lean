/- What a law's own function comes to: a part of its walk. -/
import Derived.Test.YtmbenmiakjhgeaaPx0
import Derived.Test.YtmbenmiakjhgeaaPx7
import Derived.Test.YtmbenmiakjhgeaaPx17
import Derived.Test.YtmbenmiakjhgeaaPx30
import Derived.Test.YtmbenmiakjhgeaaZd
import Derived.Test.YtmbenmiakjhgeaaZk
import Derived.Test.YtmbenmiakjhgeaaZl
import Derived.Test.YtmbenmiakjhgeaaZq
import Derived.Test.YtmbenmiakjhgeaaZu
import Derived.Test.YtmbenmiakjhgeaaZy
namespace Go.Proofs.Ytmbenmiakjhgeaa.P
open Go.RowKit Go.Proofs.YtmbenmiakjhgeaaW.PrintWords Go.Proofs.YtmbenmiakjhgeaaW.PrintLast Go.Proofs.YtmbenmiakjhgeaaW.PrintMore
attribute [local go_sem] max2_int min2_int max_two min_two max_three min_three max_four min_four   -- for this text's walks alone
set_option linter.unusedVariables false
set_option linter.unusedSimpArgs false

/-! ### annuitylaw14_LoanOwes: function 4 -/
mutual
def annuitylaw14_LoanOwes.j0 : Nat → Int → Int → Int → Int → Int → Int → Int → Int → Bool → Int → Int → Int → Int → Int → Int → Int → Int → Int → Int → Option (Bool)
  | 0, _, _, _, _, _, _, _, _, _, _, _, _, _, _, _, _, _, _, _ => none
  | k + 1, x2, x7, x326000, x326001, x326002, x326003, x326004, x326005, x326006, x326007, x326008, x326009, x326010, x326011, x326012, x327000, x327001, x327002, x327003 => (loan_Fee.f k x326000 x326001 x326002 x326003 x326004 x326005 x326006 x326007 x326008 x326009 x326010 x326011 x326012 x327000).bind fun bt348 => (if bt348.2.2.2.2.2.2.2.2.2.2.2.2.2 = 0 then ((loan_Owes.f k bt348.1 bt348.2.1 bt348.2.2.1 bt348.2.2.2.1 bt348.2.2.2.2.1 bt348.2.2.2.2.2.1 bt348.2.2.2.2.2.2.1 bt348.2.2.2.2.2.2.2.1 bt348.2.2.2.2.2.2.2.2.1 bt348.2.2.2.2.2.2.2.2.2.1 bt348.2.2.2.2.2.2.2.2.2.2.1 bt348.2.2.2.2.2.2.2.2.2.2.2.1 bt348.2.2.2.2.2.2.2.2.2.2.2.2.1).bind fun bt363 => (if bt363.2 = 0 then (if bt363.1 = (wrap64 (x7 + x327000)) then ((annuityref14_Good.f bt348.1 bt348.2.1 bt348.2.2.1 bt348.2.2.2.1 bt348.2.2.2.2.1 bt348.2.2.2.2.2.1 bt348.2.2.2.2.2.2.1 bt348.2.2.2.2.2.2.2.1 bt348.2.2.2.2.2.2.2.2.1 bt348.2.2.2.2.2.2.2.2.2.1 bt348.2.2.2.2.2.2.2.2.2.2.1 bt348.2.2.2.2.2.2.2.2.2.2.2.1 bt348.2.2.2.2.2.2.2.2.2.2.2.2.1).bind fun t365 => (if t365 = true then (annuitylaw14_LoanOwes.j1 k x2 x7 x326000 x326001 x326002 x326003 x326004 x326005 x326006 x326007 x326008 x326009 x326010 x326011 x326012 x327000 x327001 x327002 x327003) else (none))) else (none)) else ((annuityref14_Good.f bt348.1 bt348.2.1 bt348.2.2.1 bt348.2.2.2.1 bt348.2.2.2.2.1 bt348.2.2.2.2.2.1 bt348.2.2.2.2.2.2.1 bt348.2.2.2.2.2.2.2.1 bt348.2.2.2.2.2.2.2.2.1 bt348.2.2.2.2.2.2.2.2.2.1 bt348.2.2.2.2.2.2.2.2.2.2.1 bt348.2.2.2.2.2.2.2.2.2.2.2.1 bt348.2.2.2.2.2.2.2.2.2.2.2.2.1).bind fun t366 => (if t366 = true then (annuitylaw14_LoanOwes.j1 k x2 x7 x326000 x326001 x326002 x326003 x326004 x326005 x326006 x326007 x326008 x326009 x326010 x326011 x326012 x327000 x327001 x327002 x327003) else (none))))) else (annuitylaw14_LoanOwes.j1 k x2 x7 x326000 x326001 x326002 x326003 x326004 x326005 x326006 x326007 x326008 x326009 x326010 x326011 x326012 x327000 x327001 x327002 x327003))
def annuitylaw14_LoanOwes.j1 : Nat → Int → Int → Int → Int → Int → Int → Int → Int → Bool → Int → Int → Int → Int → Int → Int → Int → Int → Int → Int → Option (Bool)
  | 0, _, _, _, _, _, _, _, _, _, _, _, _, _, _, _, _, _, _, _ => none
  | k + 1, x2, x7, x326000, x326001, x326002, x326003, x326004, x326005, x326006, x326007, x326008, x326009, x326010, x326011, x326012, x327000, x327001, x327002, x327003 => (loan_Draw.f k x326000 x326001 x326002 x326003 x326004 x326005 x326006 x326007 x326008 x326009 x326010 x326011 x326012 x327000).bind fun bt367 => (if bt367.2.2.2.2.2.2.2.2.2.2.2.2.2 = 0 then ((loan_Owes.f k bt367.1 bt367.2.1 bt367.2.2.1 bt367.2.2.2.1 bt367.2.2.2.2.1 bt367.2.2.2.2.2.1 bt367.2.2.2.2.2.2.1 bt367.2.2.2.2.2.2.2.1 bt367.2.2.2.2.2.2.2.2.1 bt367.2.2.2.2.2.2.2.2.2.1 bt367.2.2.2.2.2.2.2.2.2.2.1 bt367.2.2.2.2.2.2.2.2.2.2.2.1 bt367.2.2.2.2.2.2.2.2.2.2.2.2.1).bind fun bt382 => (if bt382.2 = 0 then (if bt382.1 = (wrap64 (x7 + x327000)) then ((annuityref14_Good.f bt367.1 bt367.2.1 bt367.2.2.1 bt367.2.2.2.1 bt367.2.2.2.2.1 bt367.2.2.2.2.2.1 bt367.2.2.2.2.2.2.1 bt367.2.2.2.2.2.2.2.1 bt367.2.2.2.2.2.2.2.2.1 bt367.2.2.2.2.2.2.2.2.2.1 bt367.2.2.2.2.2.2.2.2.2.2.1 bt367.2.2.2.2.2.2.2.2.2.2.2.1 bt367.2.2.2.2.2.2.2.2.2.2.2.2.1).bind fun t384 => (if t384 = true then (annuitylaw14_LoanOwes.j2 k x2 x7 x326000 x326001 x326002 x326003 x326004 x326005 x326006 x326007 x326008 x326009 x326010 x326011 x326012 x327000 x327001 x327002 x327003) else (none))) else (none)) else ((annuityref14_Good.f bt367.1 bt367.2.1 bt367.2.2.1 bt367.2.2.2.1 bt367.2.2.2.2.1 bt367.2.2.2.2.2.1 bt367.2.2.2.2.2.2.1 bt367.2.2.2.2.2.2.2.1 bt367.2.2.2.2.2.2.2.2.1 bt367.2.2.2.2.2.2.2.2.2.1 bt367.2.2.2.2.2.2.2.2.2.2.1 bt367.2.2.2.2.2.2.2.2.2.2.2.1 bt367.2.2.2.2.2.2.2.2.2.2.2.2.1).bind fun t385 => (if t385 = true then (annuitylaw14_LoanOwes.j2 k x2 x7 x326000 x326001 x326002 x326003 x326004 x326005 x326006 x326007 x326008 x326009 x326010 x326011 x326012 x327000 x327001 x327002 x327003) else (none))))) else (annuitylaw14_LoanOwes.j2 k x2 x7 x326000 x326001 x326002 x326003 x326004 x326005 x326006 x326007 x326008 x326009 x326010 x326011 x326012 x327000 x327001 x327002 x327003))
def annuitylaw14_LoanOwes.j2 : Nat → Int → Int → Int → Int → Int → Int → Int → Int → Bool → Int → Int → Int → Int → Int → Int → Int → Int → Int → Int → Option (Bool)
  | 0, _, _, _, _, _, _, _, _, _, _, _, _, _, _, _, _, _, _, _ => none
  | k + 1, x2, x7, x326000, x326001, x326002, x326003, x326004, x326005, x326006, x326007, x326008, x326009, x326010, x326011, x326012, x327000, x327001, x327002, x327003 => (loan_Pay.f k x326000 x326001 x326002 x326003 x326004 x326005 x326006 x326007 x326008 x326009 x326010 x326011 x326012 x327001 x327002 x327003).bind fun bt386 => (if bt386.2.2.2.2.2.2.2.2.2.2.2.2.2 = 0 then ((loan_Owes.f k bt386.1 bt386.2.1 bt386.2.2.1 bt386.2.2.2.1 bt386.2.2.2.2.1 bt386.2.2.2.2.2.1 bt386.2.2.2.2.2.2.1 bt386.2.2.2.2.2.2.2.1 bt386.2.2.2.2.2.2.2.2.1 bt386.2.2.2.2.2.2.2.2.2.1 bt386.2.2.2.2.2.2.2.2.2.2.1 bt386.2.2.2.2.2.2.2.2.2.2.2.1 bt386.2.2.2.2.2.2.2.2.2.2.2.2.1).bind fun bt401 => (if bt401.2 = 0 then (if bt401.1 = (wrap64 ((wrap64 ((wrap64 (x7 - x327001)) - x327002)) - x327003)) then ((annuityref14_Good.f bt386.1 bt386.2.1 bt386.2.2.1 bt386.2.2.2.1 bt386.2.2.2.2.1 bt386.2.2.2.2.2.1 bt386.2.2.2.2.2.2.1 bt386.2.2.2.2.2.2.2.1 bt386.2.2.2.2.2.2.2.2.1 bt386.2.2.2.2.2.2.2.2.2.1 bt386.2.2.2.2.2.2.2.2.2.2.1 bt386.2.2.2.2.2.2.2.2.2.2.2.1 bt386.2.2.2.2.2.2.2.2.2.2.2.2.1).bind fun t403 => (if t403 = true then (if ((bt401.1 == 0) != (bt386.2.2.2.2.2.2.2.2.1 == 1)) = true then (none) else (annuitylaw14_LoanOwes.j3 k x2 x7 x326000 x326001 x326002 x326003 x326004 x326005 x326006 x326007 x326008 x326009 x326010 x326011 x326012)) else (none))) else (none)) else (none))) else (annuitylaw14_LoanOwes.j3 k x2 x7 x326000 x326001 x326002 x326003 x326004 x326005 x326006 x326007 x326008 x326009 x326010 x326011 x326012))
def annuitylaw14_LoanOwes.j3 : Nat → Int → Int → Int → Int → Int → Int → Int → Int → Bool → Int → Int → Int → Int → Int → Int → Option (Bool)
  | 0, _, _, _, _, _, _, _, _, _, _, _, _, _, _, _ => none
  | k + 1, x2, x7, x326000, x326001, x326002, x326003, x326004, x326005, x326006, x326007, x326008, x326009, x326010, x326011, x326012 => (loan_Turn.f k x326000 x326001 x326002 x326003 x326004 x326005 x326006 x326007 x326008 x326009 x326010 x326011 x326012 x2 5).bind fun bt404 => (if bt404.2.2.2.2.2.2.2.2.2.2.2.2.2 = 0 then ((loan_Owes.f k bt404.1 bt404.2.1 bt404.2.2.1 bt404.2.2.2.1 bt404.2.2.2.2.1 bt404.2.2.2.2.2.1 bt404.2.2.2.2.2.2.1 bt404.2.2.2.2.2.2.2.1 bt404.2.2.2.2.2.2.2.2.1 bt404.2.2.2.2.2.2.2.2.2.1 bt404.2.2.2.2.2.2.2.2.2.2.1 bt404.2.2.2.2.2.2.2.2.2.2.2.1 bt404.2.2.2.2.2.2.2.2.2.2.2.2.1).bind fun bt419 => (if bt419.2 = 0 then (if bt419.1 = x7 then ((annuityref14_Good.f bt404.1 bt404.2.1 bt404.2.2.1 bt404.2.2.2.1 bt404.2.2.2.2.1 bt404.2.2.2.2.2.1 bt404.2.2.2.2.2.2.1 bt404.2.2.2.2.2.2.2.1 bt404.2.2.2.2.2.2.2.2.1 bt404.2.2.2.2.2.2.2.2.2.1 bt404.2.2.2.2.2.2.2.2.2.2.1 bt404.2.2.2.2.2.2.2.2.2.2.2.1 bt404.2.2.2.2.2.2.2.2.2.2.2.2.1).bind fun t421 => (if t421 = true then (if bt404.2.2.2.2.2.2.2.1 = x2 then (annuitylaw14_LoanOwes.j4 k x2 x7 x326000 x326001 x326002 x326003 x326004 x326005 x326006 x326007 x326008 x326009 x326010 x326011 x326012) else (none)) else (none))) else (none)) else (none))) else (annuitylaw14_LoanOwes.j4 k x2 x7 x326000 x326001 x326002 x326003 x326004 x326005 x326006 x326007 x326008 x326009 x326010 x326011 x326012))
def annuitylaw14_LoanOwes.j4 : Nat → Int → Int → Int → Int → Int → Int → Int → Int → Bool → Int → Int → Int → Int → Int → Int → Option (Bool)
  | 0, _, _, _, _, _, _, _, _, _, _, _, _, _, _, _ => none
  | k + 1, x2, x7, x326000, x326001, x326002, x326003, x326004, x326005, x326006, x326007, x326008, x326009, x326010, x326011, x326012 => (annuitykeep_Mod.f x2 4).bind fun t422 => ((loan_Close.f k x326000 x326001 x326002 x326003 x326004 x326005 x326006 x326007 x326008 x326009 x326010 x326011 x326012 (wrap64 (1 + t422))).bind fun bt423 => (if x326008 = 0 then ((loan_Owes.f k bt423.1 bt423.2.1 bt423.2.2.1 bt423.2.2.2.1 bt423.2.2.2.2.1 bt423.2.2.2.2.2.1 bt423.2.2.2.2.2.2.1 bt423.2.2.2.2.2.2.2.1 bt423.2.2.2.2.2.2.2.2.1 bt423.2.2.2.2.2.2.2.2.2.1 bt423.2.2.2.2.2.2.2.2.2.2.1 bt423.2.2.2.2.2.2.2.2.2.2.2.1 bt423.2.2.2.2.2.2.2.2.2.2.2.2.1).bind fun bt440 => (if bt423.2.2.2.2.2.2.2.2.2.2.2.2.2.2 = 0 then (if bt423.2.2.2.2.2.2.2.2.2.2.2.2.2.1 = x7 then (if bt440.2 = 0 then (if bt440.1 = 0 then ((annuityref14_Good.f bt423.1 bt423.2.1 bt423.2.2.1 bt423.2.2.2.1 bt423.2.2.2.2.1 bt423.2.2.2.2.2.1 bt423.2.2.2.2.2.2.1 bt423.2.2.2.2.2.2.2.1 bt423.2.2.2.2.2.2.2.2.1 bt423.2.2.2.2.2.2.2.2.2.1 bt423.2.2.2.2.2.2.2.2.2.2.1 bt423.2.2.2.2.2.2.2.2.2.2.2.1 bt423.2.2.2.2.2.2.2.2.2.2.2.2.1).bind fun t442 => (if t442 = true then ((annuitykeep_Mod.f x2 4).bind fun t443 => (if bt423.2.2.2.2.2.2.2.2.1 = (wrap64 (1 + t443)) then ((annuitylaw14_wakes.f k).bind fun t444 => (some t444)) else (none))) else (none))) else (none)) else (none)) else (none)) else (none))) else (if bt423.2.2.2.2.2.2.2.2.2.2.2.2.2.2 = 61 then (if x7 = 0 then ((annuitylaw14_wakes.f k).bind fun t439 => (some t439)) else (none)) else (none))))
end
def annuitylaw14_LoanOwes.f (k : Nat) (a0_0 : Int) (a0_1 : Int) (a0_2 : Int) (a0_3 : Int) (a0_4 : Int) (a0_5 : Int) (a0_6 : Bool) (a0_7 : Int) (a0_8 : Int) (a0_9 : Int) (a0_10 : Int) (a0_11 : Int) (a0_12 : Int) (a1_0 : Int) (a1_1 : Int) (a1_2 : Int) (a1_3 : Int) (a2 : Int) : Option (Bool) := (loan_Owes.f k a0_0 a0_1 a0_2 a0_3 a0_4 a0_5 a0_6 a0_7 a0_8 a0_9 a0_10 a0_11 a0_12).bind fun bt327 => (if bt327.2 = 0 then ((loan_Capitalize.f k a0_0 a0_1 a0_2 a0_3 a0_4 a0_5 a0_6 a0_7 a0_8 a0_9 a0_10 a0_11 a0_12).bind fun bt330 => (if bt330.2.2.2.2.2.2.2.2.2.2.2.2.2 = 0 then ((loan_Owes.f k bt330.1 bt330.2.1 bt330.2.2.1 bt330.2.2.2.1 bt330.2.2.2.2.1 bt330.2.2.2.2.2.1 bt330.2.2.2.2.2.2.1 bt330.2.2.2.2.2.2.2.1 bt330.2.2.2.2.2.2.2.2.1 bt330.2.2.2.2.2.2.2.2.2.1 bt330.2.2.2.2.2.2.2.2.2.2.1 bt330.2.2.2.2.2.2.2.2.2.2.2.1 bt330.2.2.2.2.2.2.2.2.2.2.2.2.1).bind fun bt345 => (if bt345.2 = 0 then (if bt345.1 = bt327.1 then ((annuityref14_Good.f bt330.1 bt330.2.1 bt330.2.2.1 bt330.2.2.2.1 bt330.2.2.2.2.1 bt330.2.2.2.2.2.1 bt330.2.2.2.2.2.2.1 bt330.2.2.2.2.2.2.2.1 bt330.2.2.2.2.2.2.2.2.1 bt330.2.2.2.2.2.2.2.2.2.1 bt330.2.2.2.2.2.2.2.2.2.2.1 bt330.2.2.2.2.2.2.2.2.2.2.2.1 bt330.2.2.2.2.2.2.2.2.2.2.2.2.1).bind fun t347 => (if t347 = true then (if bt330.2.2.1 ≥ 1000000 then (none) else (annuitylaw14_LoanOwes.j0 k a2 bt327.1 a0_0 a0_1 a0_2 a0_3 a0_4 a0_5 a0_6 a0_7 a0_8 a0_9 a0_10 a0_11 a0_12 a1_0 a1_1 a1_2 a1_3)) else (none))) else (none)) else (none))) else (annuitylaw14_LoanOwes.j0 k a2 bt327.1 a0_0 a0_1 a0_2 a0_3 a0_4 a0_5 a0_6 a0_7 a0_8 a0_9 a0_10 a0_11 a0_12 a1_0 a1_1 a1_2 a1_3))) else ((annuitylaw14_wakes.f k).bind fun t329 => (some t329)))
theorem annuitylaw14_LoanOwes.mono_l : ∀ k, (∀ y0 y1 y2 y3 y4 y5 y6 y7 y8 y9 y10 y11 y12 y13 y14 y15 y16 y17 y18, LeO (annuitylaw14_LoanOwes.j0 k y0 y1 y2 y3 y4 y5 y6 y7 y8 y9 y10 y11 y12 y13 y14 y15 y16 y17 y18) (annuitylaw14_LoanOwes.j0 (k + 1) y0 y1 y2 y3 y4 y5 y6 y7 y8 y9 y10 y11 y12 y13 y14 y15 y16 y17 y18)) ∧ (∀ y0 y1 y2 y3 y4 y5 y6 y7 y8 y9 y10 y11 y12 y13 y14 y15 y16 y17 y18, LeO (annuitylaw14_LoanOwes.j1 k y0 y1 y2 y3 y4 y5 y6 y7 y8 y9 y10 y11 y12 y13 y14 y15 y16 y17 y18) (annuitylaw14_LoanOwes.j1 (k + 1) y0 y1 y2 y3 y4 y5 y6 y7 y8 y9 y10 y11 y12 y13 y14 y15 y16 y17 y18)) ∧ (∀ y0 y1 y2 y3 y4 y5 y6 y7 y8 y9 y10 y11 y12 y13 y14 y15 y16 y17 y18, LeO (annuitylaw14_LoanOwes.j2 k y0 y1 y2 y3 y4 y5 y6 y7 y8 y9 y10 y11 y12 y13 y14 y15 y16 y17 y18) (annuitylaw14_LoanOwes.j2 (k + 1) y0 y1 y2 y3 y4 y5 y6 y7 y8 y9 y10 y11 y12 y13 y14 y15 y16 y17 y18)) ∧ (∀ y0 y1 y2 y3 y4 y5 y6 y7 y8 y9 y10 y11 y12 y13 y14, LeO (annuitylaw14_LoanOwes.j3 k y0 y1 y2 y3 y4 y5 y6 y7 y8 y9 y10 y11 y12 y13 y14) (annuitylaw14_LoanOwes.j3 (k + 1) y0 y1 y2 y3 y4 y5 y6 y7 y8 y9 y10 y11 y12 y13 y14)) ∧ (∀ y0 y1 y2 y3 y4 y5 y6 y7 y8 y9 y10 y11 y12 y13 y14, LeO (annuitylaw14_LoanOwes.j4 k y0 y1 y2 y3 y4 y5 y6 y7 y8 y9 y10 y11 y12 y13 y14) (annuitylaw14_LoanOwes.j4 (k + 1) y0 y1 y2 y3 y4 y5 y6 y7 y8 y9 y10 y11 y12 y13 y14))
  | 0 => ⟨fun _ _ _ _ _ _ _ _ _ _ _ _ _ _ _ _ _ _ _ r h => by simp [annuitylaw14_LoanOwes.j0] at h, fun _ _ _ _ _ _ _ _ _ _ _ _ _ _ _ _ _ _ _ r h => by simp [annuitylaw14_LoanOwes.j1] at h, fun _ _ _ _ _ _ _ _ _ _ _ _ _ _ _ _ _ _ _ r h => by simp [annuitylaw14_LoanOwes.j2] at h, fun _ _ _ _ _ _ _ _ _ _ _ _ _ _ _ r h => by simp [annuitylaw14_LoanOwes.j3] at h, fun _ _ _ _ _ _ _ _ _ _ _ _ _ _ _ r h => by simp [annuitylaw14_LoanOwes.j4] at h⟩
  | k + 1 => by
    obtain ⟨ih0, ih1, ih2, ih3, ih4⟩ := annuitylaw14_LoanOwes.mono_l k
    refine ⟨?_, ?_, ?_, ?_, ?_⟩
    · intro y0 y1 y2 y3 y4 y5 y6 y7 y8 y9 y10 y11 y12 y13 y14 y15 y16 y17 y18
      unfold annuitylaw14_LoanOwes.j0
      repeat' first
      | (with_reducible exact ih0 _ _ _ _ _ _ _ _ _ _ _ _ _ _ _ _ _ _ _)
      | (with_reducible exact ih1 _ _ _ _ _ _ _ _ _ _ _ _ _ _ _ _ _ _ _)
      | (with_reducible exact ih2 _ _ _ _ _ _ _ _ _ _ _ _ _ _ _ _ _ _ _)
      | (with_reducible exact ih3 _ _ _ _ _ _ _ _ _ _ _ _ _ _ _)
      | (with_reducible exact ih4 _ _ _ _ _ _ _ _ _ _ _ _ _ _ _)
      | (with_reducible exact annuitylaw14_wakes.mono _)
      | (with_reducible exact loan_Capitalize.mono _ _ _ _ _ _ _ _ _ _ _ _ _ _)
      | (with_reducible exact loan_Close.mono _ _ _ _ _ _ _ _ _ _ _ _ _ _ _)
      | (with_reducible exact loan_Draw.mono _ _ _ _ _ _ _ _ _ _ _ _ _ _ _)
      | (with_reducible exact loan_Fee.mono _ _ _ _ _ _ _ _ _ _ _ _ _ _ _)
      | (with_reducible exact loan_Owes.mono _ _ _ _ _ _ _ _ _ _ _ _ _ _)
      | (with_reducible exact loan_Pay.mono _ _ _ _ _ _ _ _ _ _ _ _ _ _ _ _ _)
      | (with_reducible exact loan_Turn.mono _ _ _ _ _ _ _ _ _ _ _ _ _ _ _ _)
      | (with_reducible exact LeO.refl _)
      | (with_reducible exact LeO.none _)
      | (with_reducible refine LeO.ite ?_ ?_)
      | (with_reducible refine LeO.bind ?_ (fun _ => ?_))
      | exact ih0 _ _ _ _ _ _ _ _ _ _ _ _ _ _ _ _ _ _ _
      | exact ih1 _ _ _ _ _ _ _ _ _ _ _ _ _ _ _ _ _ _ _
      | exact ih2 _ _ _ _ _ _ _ _ _ _ _ _ _ _ _ _ _ _ _
      | exact ih3 _ _ _ _ _ _ _ _ _ _ _ _ _ _ _
      | exact ih4 _ _ _ _ _ _ _ _ _ _ _ _ _ _ _
      | exact annuitylaw14_wakes.mono _
      | exact loan_Capitalize.mono _ _ _ _ _ _ _ _ _ _ _ _ _ _
      | exact loan_Close.mono _ _ _ _ _ _ _ _ _ _ _ _ _ _ _
      | exact loan_Draw.mono _ _ _ _ _ _ _ _ _ _ _ _ _ _ _
      | exact loan_Fee.mono _ _ _ _ _ _ _ _ _ _ _ _ _ _ _
      | exact loan_Owes.mono _ _ _ _ _ _ _ _ _ _ _ _ _ _
      | exact loan_Pay.mono _ _ _ _ _ _ _ _ _ _ _ _ _ _ _ _ _
      | exact loan_Turn.mono _ _ _ _ _ _ _ _ _ _ _ _ _ _ _ _
      | exact LeO.none _
      | refine LeO.ite ?_ ?_
      | refine LeO.bind ?_ (fun _ => ?_)
    · intro y0 y1 y2 y3 y4 y5 y6 y7 y8 y9 y10 y11 y12 y13 y14 y15 y16 y17 y18
      unfold annuitylaw14_LoanOwes.j1
      repeat' first
      | (with_reducible exact ih0 _ _ _ _ _ _ _ _ _ _ _ _ _ _ _ _ _ _ _)
      | (with_reducible exact ih1 _ _ _ _ _ _ _ _ _ _ _ _ _ _ _ _ _ _ _)
      | (with_reducible exact ih2 _ _ _ _ _ _ _ _ _ _ _ _ _ _ _ _ _ _ _)
      | (with_reducible exact ih3 _ _ _ _ _ _ _ _ _ _ _ _ _ _ _)
      | (with_reducible exact ih4 _ _ _ _ _ _ _ _ _ _ _ _ _ _ _)
      | (with_reducible exact annuitylaw14_wakes.mono _)
      | (with_reducible exact loan_Capitalize.mono _ _ _ _ _ _ _ _ _ _ _ _ _ _)
      | (with_reducible exact loan_Close.mono _ _ _ _ _ _ _ _ _ _ _ _ _ _ _)
      | (with_reducible exact loan_Draw.mono _ _ _ _ _ _ _ _ _ _ _ _ _ _ _)
      | (with_reducible exact loan_Fee.mono _ _ _ _ _ _ _ _ _ _ _ _ _ _ _)
      | (with_reducible exact loan_Owes.mono _ _ _ _ _ _ _ _ _ _ _ _ _ _)
      | (with_reducible exact loan_Pay.mono _ _ _ _ _ _ _ _ _ _ _ _ _ _ _ _ _)
      | (with_reducible exact loan_Turn.mono _ _ _ _ _ _ _ _ _ _ _ _ _ _ _ _)
      | (with_reducible exact LeO.refl _)
      | (with_reducible exact LeO.none _)
      | (with_reducible refine LeO.ite ?_ ?_)
      | (with_reducible refine LeO.bind ?_ (fun _ => ?_))
      | exact ih0 _ _ _ _ _ _ _ _ _ _ _ _ _ _ _ _ _ _ _
      | exact ih1 _ _ _ _ _ _ _ _ _ _ _ _ _ _ _ _ _ _ _
      | exact ih2 _ _ _ _ _ _ _ _ _ _ _ _ _ _ _ _ _ _ _
      | exact ih3 _ _ _ _ _ _ _ _ _ _ _ _ _ _ _
      | exact ih4 _ _ _ _ _ _ _ _ _ _ _ _ _ _ _
      | exact annuitylaw14_wakes.mono _
      | exact loan_Capitalize.mono _ _ _ _ _ _ _ _ _ _ _ _ _ _
      | exact loan_Close.mono _ _ _ _ _ _ _ _ _ _ _ _ _ _ _
      | exact loan_Draw.mono _ _ _ _ _ _ _ _ _ _ _ _ _ _ _
      | exact loan_Fee.mono _ _ _ _ _ _ _ _ _ _ _ _ _ _ _
      | exact loan_Owes.mono _ _ _ _ _ _ _ _ _ _ _ _ _ _
      | exact loan_Pay.mono _ _ _ _ _ _ _ _ _ _ _ _ _ _ _ _ _
      | exact loan_Turn.mono _ _ _ _ _ _ _ _ _ _ _ _ _ _ _ _
      | exact LeO.none _
      | refine LeO.ite ?_ ?_
      | refine LeO.bind ?_ (fun _ => ?_)
    · intro y0 y1 y2 y3 y4 y5 y6 y7 y8 y9 y10 y11 y12 y13 y14 y15 y16 y17 y18
      unfold annuitylaw14_LoanOwes.j2
      repeat' first
      | (with_reducible exact ih0 _ _ _ _ _ _ _ _ _ _ _ _ _ _ _ _ _ _ _)
      | (with_reducible exact ih1 _ _ _ _ _ _ _ _ _ _ _ _ _ _ _ _ _ _ _)
      | (with_reducible exact ih2 _ _ _ _ _ _ _ _ _ _ _ _ _ _ _ _ _ _ _)
      | (with_reducible exact ih3 _ _ _ _ _ _ _ _ _ _ _ _ _ _ _)
      | (with_reducible exact ih4 _ _ _ _ _ _ _ _ _ _ _ _ _ _ _)
      | (with_reducible exact annuitylaw14_wakes.mono _)
      | (with_reducible exact loan_Capitalize.mono _ _ _ _ _ _ _ _ _ _ _ _ _ _)
      | (with_reducible exact loan_Close.mono _ _ _ _ _ _ _ _ _ _ _ _ _ _ _)
      | (with_reducible exact loan_Draw.mono _ _ _ _ _ _ _ _ _ _ _ _ _ _ _)
      | (with_reducible exact loan_Fee.mono _ _ _ _ _ _ _ _ _ _ _ _ _ _ _)
      | (with_reducible exact loan_Owes.mono _ _ _ _ _ _ _ _ _ _ _ _ _ _)
      | (with_reducible exact loan_Pay.mono _ _ _ _ _ _ _ _ _ _ _ _ _ _ _ _ _)
      | (with_reducible exact loan_Turn.mono _ _ _ _ _ _ _ _ _ _ _ _ _ _ _ _)
      | (with_reducible exact LeO.refl _)
      | (with_reducible exact LeO.none _)
      | (with_reducible refine LeO.ite ?_ ?_)
      | (with_reducible refine LeO.bind ?_ (fun _ => ?_))
      | exact ih0 _ _ _ _ _ _ _ _ _ _ _ _ _ _ _ _ _ _ _
      | exact ih1 _ _ _ _ _ _ _ _ _ _ _ _ _ _ _ _ _ _ _
      | exact ih2 _ _ _ _ _ _ _ _ _ _ _ _ _ _ _ _ _ _ _
      | exact ih3 _ _ _ _ _ _ _ _ _ _ _ _ _ _ _
      | exact ih4 _ _ _ _ _ _ _ _ _ _ _ _ _ _ _
      | exact annuitylaw14_wakes.mono _
      | exact loan_Capitalize.mono _ _ _ _ _ _ _ _ _ _ _ _ _ _
      | exact loan_Close.mono _ _ _ _ _ _ _ _ _ _ _ _ _ _ _
      | exact loan_Draw.mono _ _ _ _ _ _ _ _ _ _ _ _ _ _ _
      | exact loan_Fee.mono _ _ _ _ _ _ _ _ _ _ _ _ _ _ _
      | exact loan_Owes.mono _ _ _ _ _ _ _ _ _ _ _ _ _ _
      | exact loan_Pay.mono _ _ _ _ _ _ _ _ _ _ _ _ _ _ _ _ _
      | exact loan_Turn.mono _ _ _ _ _ _ _ _ _ _ _ _ _ _ _ _
      | exact LeO.none _
      | refine LeO.ite ?_ ?_
      | refine LeO.bind ?_ (fun _ => ?_)
    · intro y0 y1 y2 y3 y4 y5 y6 y7 y8 y9 y10 y11 y12 y13 y14
      unfold annuitylaw14_LoanOwes.j3
      repeat' first
      | (with_reducible exact ih0 _ _ _ _ _ _ _ _ _ _ _ _ _ _ _ _ _ _ _)
      | (with_reducible exact ih1 _ _ _ _ _ _ _ _ _ _ _ _ _ _ _ _ _ _ _)
      | (with_reducible exact ih2 _ _ _ _ _ _ _ _ _ _ _ _ _ _ _ _ _ _ _)
      | (with_reducible exact ih3 _ _ _ _ _ _ _ _ _ _ _ _ _ _ _)
      | (with_reducible exact ih4 _ _ _ _ _ _ _ _ _ _ _ _ _ _ _)
      | (with_reducible exact annuitylaw14_wakes.mono _)
      | (with_reducible exact loan_Capitalize.mono _ _ _ _ _ _ _ _ _ _ _ _ _ _)
      | (with_reducible exact loan_Close.mono _ _ _ _ _ _ _ _ _ _ _ _ _ _ _)
      | (with_reducible exact loan_Draw.mono _ _ _ _ _ _ _ _ _ _ _ _ _ _ _)
      | (with_reducible exact loan_Fee.mono _ _ _ _ _ _ _ _ _ _ _ _ _ _ _)
      | (with_reducible exact loan_Owes.mono _ _ _ _ _ _ _ _ _ _ _ _ _ _)
      | (with_reducible exact loan_Pay.mono _ _ _ _ _ _ _ _ _ _ _ _ _ _ _ _ _)
      | (with_reducible exact loan_Turn.mono _ _ _ _ _ _ _ _ _ _ _ _ _ _ _ _)
      | (with_reducible exact LeO.refl _)
      | (with_reducible exact LeO.none _)
      | (with_reducible refine LeO.ite ?_ ?_)
      | (with_reducible refine LeO.bind ?_ (fun _ => ?_))
      | exact ih0 _ _ _ _ _ _ _ _ _ _ _ _ _ _ _ _ _ _ _
      | exact ih1 _ _ _ _ _ _ _ _ _ _ _ _ _ _ _ _ _ _ _
      | exact ih2 _ _ _ _ _ _ _ _ _ _ _ _ _ _ _ _ _ _ _
      | exact ih3 _ _ _ _ _ _ _ _ _ _ _ _ _ _ _
      | exact ih4 _ _ _ _ _ _ _ _ _ _ _ _ _ _ _
      | exact annuitylaw14_wakes.mono _
      | exact loan_Capitalize.mono _ _ _ _ _ _ _ _ _ _ _ _ _ _
      | exact loan_Close.mono _ _ _ _ _ _ _ _ _ _ _ _ _ _ _
      | exact loan_Draw.mono _ _ _ _ _ _ _ _ _ _ _ _ _ _ _
      | exact loan_Fee.mono _ _ _ _ _ _ _ _ _ _ _ _ _ _ _
      | exact loan_Owes.mono _ _ _ _ _ _ _ _ _ _ _ _ _ _
      | exact loan_Pay.mono _ _ _ _ _ _ _ _ _ _ _ _ _ _ _ _ _
      | exact loan_Turn.mono _ _ _ _ _ _ _ _ _ _ _ _ _ _ _ _
      | exact LeO.none _
      | refine LeO.ite ?_ ?_
      | refine LeO.bind ?_ (fun _ => ?_)
    · intro y0 y1 y2 y3 y4 y5 y6 y7 y8 y9 y10 y11 y12 y13 y14
      unfold annuitylaw14_LoanOwes.j4
      repeat' first
      | (with_reducible exact ih0 _ _ _ _ _ _ _ _ _ _ _ _ _ _ _ _ _ _ _)
      | (with_reducible exact ih1 _ _ _ _ _ _ _ _ _ _ _ _ _ _ _ _ _ _ _)
      | (with_reducible exact ih2 _ _ _ _ _ _ _ _ _ _ _ _ _ _ _ _ _ _ _)
      | (with_reducible exact ih3 _ _ _ _ _ _ _ _ _ _ _ _ _ _ _)
      | (with_reducible exact ih4 _ _ _ _ _ _ _ _ _ _ _ _ _ _ _)
      | (with_reducible exact annuitylaw14_wakes.mono _)
      | (with_reducible exact loan_Capitalize.mono _ _ _ _ _ _ _ _ _ _ _ _ _ _)
      | (with_reducible exact loan_Close.mono _ _ _ _ _ _ _ _ _ _ _ _ _ _ _)
      | (with_reducible exact loan_Draw.mono _ _ _ _ _ _ _ _ _ _ _ _ _ _ _)
      | (with_reducible exact loan_Fee.mono _ _ _ _ _ _ _ _ _ _ _ _ _ _ _)
      | (with_reducible exact loan_Owes.mono _ _ _ _ _ _ _ _ _ _ _ _ _ _)
      | (with_reducible exact loan_Pay.mono _ _ _ _ _ _ _ _ _ _ _ _ _ _ _ _ _)
      | (with_reducible exact loan_Turn.mono _ _ _ _ _ _ _ _ _ _ _ _ _ _ _ _)
      | (with_reducible exact LeO.refl _)
      | (with_reducible exact LeO.none _)
      | (with_reducible refine LeO.ite ?_ ?_)
      | (with_reducible refine LeO.bind ?_ (fun _ => ?_))
      | exact ih0 _ _ _ _ _ _ _ _ _ _ _ _ _ _ _ _ _ _ _
      | exact ih1 _ _ _ _ _ _ _ _ _ _ _ _ _ _ _ _ _ _ _
      | exact ih2 _ _ _ _ _ _ _ _ _ _ _ _ _ _ _ _ _ _ _
      | exact ih3 _ _ _ _ _ _ _ _ _ _ _ _ _ _ _
      | exact ih4 _ _ _ _ _ _ _ _ _ _ _ _ _ _ _
      | exact annuitylaw14_wakes.mono _
      | exact loan_Capitalize.mono _ _ _ _ _ _ _ _ _ _ _ _ _ _
      | exact loan_Close.mono _ _ _ _ _ _ _ _ _ _ _ _ _ _ _
      | exact loan_Draw.mono _ _ _ _ _ _ _ _ _ _ _ _ _ _ _
      | exact loan_Fee.mono _ _ _ _ _ _ _ _ _ _ _ _ _ _ _
      | exact loan_Owes.mono _ _ _ _ _ _ _ _ _ _ _ _ _ _
      | exact loan_Pay.mono _ _ _ _ _ _ _ _ _ _ _ _ _ _ _ _ _
      | exact loan_Turn.mono _ _ _ _ _ _ _ _ _ _ _ _ _ _ _ _
      | exact LeO.none _
      | refine LeO.ite ?_ ?_
      | refine LeO.bind ?_ (fun _ => ?_)
theorem annuitylaw14_LoanOwes.mono : ∀ a0 a1 a2 a3 a4 a5 a6 a7 a8 a9 a10 a11 a12 a13 a14 a15 a16 a17 k, LeO (annuitylaw14_LoanOwes.f k a0 a1 a2 a3 a4 a5 a6 a7 a8 a9 a10 a11 a12 a13 a14 a15 a16 a17) (annuitylaw14_LoanOwes.f (k + 1) a0 a1 a2 a3 a4 a5 a6 a7 a8 a9 a10 a11 a12 a13 a14 a15 a16 a17) := by
  intro a0 a1 a2 a3 a4 a5 a6 a7 a8 a9 a10 a11 a12 a13 a14 a15 a16 a17 k
  obtain ⟨ih0, ih1, ih2, ih3, ih4⟩ := annuitylaw14_LoanOwes.mono_l k
  unfold annuitylaw14_LoanOwes.f
  repeat' first
      | (with_reducible exact ih0 _ _ _ _ _ _ _ _ _ _ _ _ _ _ _ _ _ _ _)
      | (with_reducible exact ih1 _ _ _ _ _ _ _ _ _ _ _ _ _ _ _ _ _ _ _)
      | (with_reducible exact ih2 _ _ _ _ _ _ _ _ _ _ _ _ _ _ _ _ _ _ _)
      | (with_reducible exact ih3 _ _ _ _ _ _ _ _ _ _ _ _ _ _ _)
      | (with_reducible exact ih4 _ _ _ _ _ _ _ _ _ _ _ _ _ _ _)
      | (with_reducible exact annuitylaw14_wakes.mono _)
      | (with_reducible exact loan_Capitalize.mono _ _ _ _ _ _ _ _ _ _ _ _ _ _)
      | (with_reducible exact loan_Close.mono _ _ _ _ _ _ _ _ _ _ _ _ _ _ _)
      | (with_reducible exact loan_Draw.mono _ _ _ _ _ _ _ _ _ _ _ _ _ _ _)
      | (with_reducible exact loan_Fee.mono _ _ _ _ _ _ _ _ _ _ _ _ _ _ _)
      | (with_reducible exact loan_Owes.mono _ _ _ _ _ _ _ _ _ _ _ _ _ _)
      | (with_reducible exact loan_Pay.mono _ _ _ _ _ _ _ _ _ _ _ _ _ _ _ _ _)
      | (with_reducible exact loan_Turn.mono _ _ _ _ _ _ _ _ _ _ _ _ _ _ _ _)
      | (with_reducible exact LeO.refl _)
      | (with_reducible exact LeO.none _)
      | (with_reducible refine LeO.ite ?_ ?_)
      | (with_reducible refine LeO.bind ?_ (fun _ => ?_))
      | exact ih0 _ _ _ _ _ _ _ _ _ _ _ _ _ _ _ _ _ _ _
      | exact ih1 _ _ _ _ _ _ _ _ _ _ _ _ _ _ _ _ _ _ _
      | exact ih2 _ _ _ _ _ _ _ _ _ _ _ _ _ _ _ _ _ _ _
      | exact ih3 _ _ _ _ _ _ _ _ _ _ _ _ _ _ _
      | exact ih4 _ _ _ _ _ _ _ _ _ _ _ _ _ _ _
      | exact annuitylaw14_wakes.mono _
      | exact loan_Capitalize.mono _ _ _ _ _ _ _ _ _ _ _ _ _ _
      | exact loan_Close.mono _ _ _ _ _ _ _ _ _ _ _ _ _ _ _
      | exact loan_Draw.mono _ _ _ _ _ _ _ _ _ _ _ _ _ _ _
      | exact loan_Fee.mono _ _ _ _ _ _ _ _ _ _ _ _ _ _ _
      | exact loan_Owes.mono _ _ _ _ _ _ _ _ _ _ _ _ _ _
      | exact loan_Pay.mono _ _ _ _ _ _ _ _ _ _ _ _ _ _ _ _ _
      | exact loan_Turn.mono _ _ _ _ _ _ _ _ _ _ _ _ _ _ _ _
      | exact LeO.none _
      | refine LeO.ite ?_ ?_
      | refine LeO.bind ?_ (fun _ => ?_)
def annuitylaw14_LoanOwes.T29 : Bool × List (List Nat × List Nat) := (true, [([], []), ([], []), ([1], [1]), ([2], [2]), ([0, 3, 2], [0, 3]), ([4], [4]), ([5], [5]), ([5], [5]), ([5], [5]), ([], []), ([9, 6, 4, 0, 1, 2, 3, 4, 5, 6, 9], [6, 9]), ([7, 10, 0, 1, 2, 3, 4, 5, 6, 7, 9, 10], [7]), ([8, 11, 0, 1, 2, 3, 4, 5, 6, 7, 8, 9, 10, 11], [8])])
def annuitylaw14_LoanOwes.B29 : List Nat := [0, 0, 2, 6, 15, 31, 63, 63, 63, 0, 639, 1791, 4095]
theorem annuitylaw14_LoanOwes.tab29 : rtab .any (opsOf Try.f4 29) = annuitylaw14_LoanOwes.T29 := by kernel_rfl
theorem annuitylaw14_LoanOwes.bits29 : waitsOk annuitylaw14_LoanOwes.T29.2 annuitylaw14_LoanOwes.B29 = true := by kernel_rfl
def annuitylaw14_LoanOwes.T33 : Bool × List (List Nat × List Nat) := (true, [([], []), ([0], [0]), ([1], [1]), ([2], [2]), ([2], [2]), ([3, 4, 2], [2, 3, 4]), ([2, 5], [2, 5]), ([6, 2], [6]), ([7], [7]), ([8, 7], [7, 8]), ([7, 9], [7, 9]), ([10, 7], [10]), ([11], [11]), ([12, 11], [11, 12]), ([11, 13], [11, 13]), ([14, 11], [14]), ([15], [15]), ([16, 15, 15], [15, 16]), ([15, 17], [15, 17]), ([18, 17], [18]), ([19], [19]), ([20, 19], [19, 20]), ([19], [19]), ([22, 19, 19], [19, 22]), ([23, 19], [19, 23]), ([21, 24, 19], [19, 21, 24]), ([19, 25], [19, 25]), ([26, 23], [26]), ([27, 27], [27]), ([27, 28], [27, 28]), ([29, 28, 0, 1, 2, 3, 4, 5, 6, 7, 8, 9, 10, 11, 12, 13, 14, 15, 16, 17, 18, 19, 20, 21, 22, 23, 24, 25, 26, 27, 28, 29], [29])])
def annuitylaw14_LoanOwes.B33 : List Nat := [0, 1, 3, 7, 7, 31, 63, 127, 255, 511, 1023, 2047, 4095, 8191, 16383, 32767, 65535, 131071, 262143, 524287, 1048575, 2097151, 1048575, 5242879, 13631487, 33554431, 67108863, 134217727, 268435455, 536870911, 1073741823]
theorem annuitylaw14_LoanOwes.tab33 : rtab .any (opsOf Try.f4 33) = annuitylaw14_LoanOwes.T33 := by kernel_rfl
theorem annuitylaw14_LoanOwes.bits33 : waitsOk annuitylaw14_LoanOwes.T33.2 annuitylaw14_LoanOwes.B33 = true := by kernel_rfl
/-- What is left of the law's body behind so many of its parts. -/
noncomputable def annuitylaw14_LoanOwes.tl : Nat → Code
  | 0 => Try.f4.body.getD .skip
  | n + 1 => match annuitylaw14_LoanOwes.tl n with
    | .seq _ b => b
    | c => c
end Go.Proofs.Ytmbenmiakjhgeaa.P
