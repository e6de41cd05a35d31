/- Functions of the program as plain Lean functions (several texts as one). -/
import Derived.Test.YtakcepffodipfaaZaa
import Derived.Test.YtakcepffodipfaaPx0
import Derived.Test.YtakcepffodipfaaPx13
import Derived.Test.YtakcepffodipfaaPx14
import Derived.Test.YtakcepffodipfaaPx12
namespace Go.Proofs.Ytakcepffodipfaa.P
open Go.RowKit Go.Proofs.YtakcepffodipfaaW.PrintWords Go.Proofs.YtakcepffodipfaaW.PrintLast Go.Proofs.YtakcepffodipfaaW.PrintMore
attribute [local go_sem] max2_int min2_int max_two min_two max_three min_three max_four min_four   -- for this text's walks alone
set_option linter.unusedVariables false
set_option linter.unusedSimpArgs false

/-! ### annuityref21_weights: function 20 -/
mutual
def annuityref21_weights.l0 : Nat → List (S31) → Int → Option (List Int × Int × Int)
 | 0, _, _ => none
 | k + 1, x0, x5 => if x5 < (x0.length : Int) then (if 0 ≤ x5 then ((annuityref14_Good.f ((rd_T31 x0 x5).f0) ((rd_T31 x0 x5).f1) ((rd_T31 x0 x5).f2) ((rd_T31 x0 x5).f3) ((rd_T31 x0 x5).f4) ((rd_T31 x0 x5).f5) ((rd_T31 x0 x5).f6) ((rd_T31 x0 x5).f7) ((rd_T31 x0 x5).f8) ((rd_T31 x0 x5).f9) ((rd_T31 x0 x5).f10) ((rd_T31 x0 x5).f11) ((rd_T31 x0 x5).f12)).bind fun t247 => (if t247 = true then (if ((rd_T31 x0 x5).f8) = 0 then (if ((rd_T31 x0 x5).f12) > 1000000 then (some (([] : List Int), 0, 1)) else (annuityref21_weights.l0 k x0 (wrap64 (x5 + 1)))) else (some (([] : List Int), 0, 1))) else (some (([] : List Int), 0, 1)))) else (none)) else (if (x0.length : Int) < 2 then (some (([] : List Int), 0, 64)) else (annuityref21_weights.l1 k x0 ([] : List Int) 0))
def annuityref21_weights.l1 : Nat → List (S31) → List Int → Int → Option (List Int × Int × Int)
 | 0, _, _, _ => none
 | k + 1, x0, x6, x7 => if x7 < (x0.length : Int) then (if 0 ≤ x7 then ((annuityref14_Owes.f ((rd_T31 x0 x7).f0) ((rd_T31 x0 x7).f1) ((rd_T31 x0 x7).f2) ((rd_T31 x0 x7).f3) ((rd_T31 x0 x7).f4) ((rd_T31 x0 x7).f5) ((rd_T31 x0 x7).f6) ((rd_T31 x0 x7).f7) ((rd_T31 x0 x7).f8) ((rd_T31 x0 x7).f9) ((rd_T31 x0 x7).f10) ((rd_T31 x0 x7).f11) ((rd_T31 x0 x7).f12)).bind fun bt251 => (if bt251.2 = 0 then (if x6.length < 17592186044416 then (annuityref21_weights.l1 k x0 (x6 ++ [bt251.1]) (wrap64 (x7 + 1))) else (none)) else (some (([] : List Int), 0, bt251.2)))) else (none)) else ((annuityref01_Sum.f k x6).bind fun bt256 => (if bt256.2 = 0 then (if bt256.1 = 0 then (some (([] : List Int), 0, 64)) else (some (x6, bt256.1, 0))) else (some (([] : List Int), 0, bt256.2))))
end
def annuityref21_weights.f (k : Nat) (l0 : List (S31)) : Option (List Int × Int × Int) := if (l0.length : Int) > 16 then (some (([] : List Int), 0, 1)) else (annuityref21_weights.l0 k l0 0)
/-! ### annuityref01_Mul: function 35 -/
def annuityref01_Mul.f (a0 : Int) (a1 : Int) : Option (Int × Int) := some (IntKind.u64.wrap ((IntKind.u64.wrap ((IntKind.u64.wrap ((a0 / 4294967296) * (a1 / 4294967296))) + ((IntKind.u64.wrap ((IntKind.u64.wrap ((a0 / 4294967296) * (Go.bits .and .u64 a1 4294967295))) + ((IntKind.u64.wrap ((Go.bits .and .u64 a0 4294967295) * (Go.bits .and .u64 a1 4294967295))) / 4294967296))) / 4294967296))) + ((IntKind.u64.wrap ((IntKind.u64.wrap ((Go.bits .and .u64 a0 4294967295) * (a1 / 4294967296))) + (Go.bits .and .u64 (IntKind.u64.wrap ((IntKind.u64.wrap ((a0 / 4294967296) * (Go.bits .and .u64 a1 4294967295))) + ((IntKind.u64.wrap ((Go.bits .and .u64 a0 4294967295) * (Go.bits .and .u64 a1 4294967295))) / 4294967296))) 4294967295))) / 4294967296)), IntKind.u64.wrap ((IntKind.u64.wrap ((IntKind.u64.wrap ((IntKind.u64.wrap ((Go.bits .and .u64 a0 4294967295) * (a1 / 4294967296))) + (Go.bits .and .u64 (IntKind.u64.wrap ((IntKind.u64.wrap ((a0 / 4294967296) * (Go.bits .and .u64 a1 4294967295))) + ((IntKind.u64.wrap ((Go.bits .and .u64 a0 4294967295) * (Go.bits .and .u64 a1 4294967295))) / 4294967296))) 4294967295))) * 4294967296)) + (Go.bits .and .u64 (IntKind.u64.wrap ((Go.bits .and .u64 a0 4294967295) * (Go.bits .and .u64 a1 4294967295))) 4294967295)))
/-! ### annuityref01_Div: function 36 -/
mutual
def annuityref01_Div.j0 : Nat → Int → Int → Int → Bool → Option (Int × Int × Bool)
 | 0, _, _, _, _ => none
 | k + 1, x0, x1, x2, x17 => if x17 = true then (some (0, 0, false)) else (annuityref01_Div.l0 k x1 x2 0 x0 63)
def annuityref01_Div.l0 : Nat → Int → Int → Int → Int → Int → Option (Int × Int × Bool)
 | 0, _, _, _, _, _ => none
 | k + 1, x1, x2, x7, x8, x9 => if x9 ≥ 0 then (if 0 ≤ (IntKind.u64.wrap (x9)) then (if (x8 / 9223372036854775808) = 1 then (annuityref01_Div.l0 k x1 x2 (IntKind.u64.wrap ((IntKind.u64.wrap (x7 * 2)) + 1)) (IntKind.u64.wrap ((IntKind.u64.wrap ((IntKind.u64.wrap (x8 * 2)) + (Go.bits .and .u64 (shr .u64 x1 (IntKind.u64.wrap (x9))) 1))) - x2)) (wrap64 (x9 - 1))) else (if (IntKind.u64.wrap ((IntKind.u64.wrap (x8 * 2)) + (Go.bits .and .u64 (shr .u64 x1 (IntKind.u64.wrap (x9))) 1))) ≥ x2 then (annuityref01_Div.l0 k x1 x2 (IntKind.u64.wrap ((IntKind.u64.wrap (x7 * 2)) + 1)) (IntKind.u64.wrap ((IntKind.u64.wrap ((IntKind.u64.wrap (x8 * 2)) + (Go.bits .and .u64 (shr .u64 x1 (IntKind.u64.wrap (x9))) 1))) - x2)) (wrap64 (x9 - 1))) else (annuityref01_Div.l0 k x1 x2 (IntKind.u64.wrap (x7 * 2)) (IntKind.u64.wrap ((IntKind.u64.wrap (x8 * 2)) + (Go.bits .and .u64 (shr .u64 x1 (IntKind.u64.wrap (x9))) 1))) (wrap64 (x9 - 1))))) else (none)) else (some (x7, x8, true))
end
def annuityref01_Div.f (k : Nat) (a0 : Int) (a1 : Int) (a2 : Int) : Option (Int × Int × Bool) := if a2 = 0 then (annuityref01_Div.j0 k a0 a1 a2 true) else (annuityref01_Div.j0 k a0 a1 a2 (decide (a0 ≥ a2)))
/-! ### annuityref21_up: function 21 -/
def annuityref21_up.l0 : Nat → List Int → List Int → Int → Int → Int → Int → Option (Int)
 | 0, _, _, _, _, _, _ => none
 | k + 1, x0, x1, x2, x7, x8, x9 => if x9 < (x0.length : Int) then (if 0 ≤ x9 then (if x9 < (x1.length : Int) then ((annuityref01_Mul.f (IntKind.u64.wrap (rd x0 x9)) (IntKind.u64.wrap (rd x1 x9))).bind fun bt262 => ((annuityref01_Div.f k bt262.1 bt262.2 (IntKind.u64.wrap (x2))).bind fun bt265 => (if (wrap64 (x8 + (wrap64 (bt265.2.1)))) ≥ x2 then (annuityref21_up.l0 k x0 x1 x2 (wrap64 ((wrap64 (x7 + (wrap64 (bt265.1)))) + 1)) (wrap64 ((wrap64 (x8 + (wrap64 (bt265.2.1)))) - x2)) (wrap64 (x9 + 1))) else (annuityref21_up.l0 k x0 x1 x2 (wrap64 (x7 + (wrap64 (bt265.1)))) (wrap64 (x8 + (wrap64 (bt265.2.1)))) (wrap64 (x9 + 1)))))) else (none)) else (none)) else (if x8 > 0 then (some (wrap64 (x7 + 1))) else (some x7))
def annuityref21_up.f (k : Nat) (l0 : List Int) (l1 : List Int) (a2 : Int) : Option (Int) := annuityref21_up.l0 k l0 l1 a2 0 0 0
/-! ### annuityref21_Rate: function 9 -/
def annuityref21_Rate.l0 : Nat → List (S31) → List Int → Int → List Int → Int → Option (Int × Int)
  | 0, _, _, _, _, _ => none
  | k + 1, x0, x4, x5, x7, x8 => if x8 < (x0.length : Int) then (if 0 ≤ x8 then (if x7.length < 17592186044416 then (annuityref21_Rate.l0 k x0 x4 x5 (x7 ++ [(rd_T31 x0 x8).f5]) (wrap64 (x8 + 1))) else (none)) else (none)) else ((annuityref21_up.f k x4 x7 x5).bind fun t278 => (some (mn (wrap64 ((wrap64 (Int.tdiv (wrap64 (t278 + 1249)) 1250)) * 1250)) 1000000, 0)))
def annuityref21_Rate.f (k : Nat) (l0 : List (S31)) : Option (Int × Int) := (annuityref21_weights.f k l0).bind fun bt269 => (if bt269.2.2 = 0 then (annuityref21_Rate.l0 k l0 bt269.1 bt269.2.1 ([] : List Int) 0) else (some (0, bt269.2.2)))
/-! ### annuityref21_Count: function 11 -/
def annuityref21_Count.l0 : Nat → List (S31) → List Int → Int → List Int → Int → Option (Int × Int)
  | 0, _, _, _, _, _ => none
  | k + 1, x0, x4, x5, x7, x8 => if x8 < (x0.length : Int) then (if 0 ≤ x8 then (if x7.length < 17592186044416 then (annuityref21_Count.l0 k x0 x4 x5 (x7 ++ [(rd_T31 x0 x8).f12]) (wrap64 (x8 + 1))) else (none)) else (none)) else ((annuityref21_up.f k x4 x7 x5).bind fun t288 => (some (t288, 0)))
def annuityref21_Count.f (k : Nat) (l0 : List (S31)) : Option (Int × Int) := (annuityref21_weights.f k l0).bind fun bt279 => (if bt279.2.2 = 0 then (annuityref21_Count.l0 k l0 bt279.1 bt279.2.1 ([] : List Int) 0) else (some (0, bt279.2.2)))
/-! ### annuityref04_Good: function 26 -/
/-! ### annuityref15_money: function 57 -/
def annuityref15_money.f (a0 : Int) : Option (Bool) := if a0 ≥ 0 then ((annuityref01_Good.f a0).bind fun t289 => (some t289)) else (some false)
/-! ### annuityref01_MulDiv: function 73 -/
mutual
def annuityref01_MulDiv.j0 : Nat → Int → Int → Int → Int → Bool → Option (Int × Int)
 | 0, _, _, _, _, _ => none
 | k + 1, x0, x1, x2, x3, x31 => if x31 = true then (some (0, 1)) else ((annuityref01_Mul.f (IntKind.u64.wrap (x0)) (IntKind.u64.wrap (x1))).bind fun bt290 => ((annuityref01_Div.f k bt290.1 bt290.2 (IntKind.u64.wrap (x2))).bind fun bt293 => (if bt293.2.2 = true then (annuityref01_MulDiv.j1 k x2 x3 (decide (bt293.1 > 10000000000000)) bt293.1 bt293.2.1 bt293.2.2) else (annuityref01_MulDiv.j1 k x2 x3 true bt293.1 bt293.2.1 bt293.2.2))))
def annuityref01_MulDiv.j1 : Nat → Int → Int → Bool → Int → Int → Bool → Option (Int × Int)
 | 0, _, _, _, _, _, _ => none
 | k + 1, x2, x3, x51, x297000, x297001, x297002 => if x51 = true then (some (0, 14)) else (if x3 = 1 then (annuityref01_MulDiv.j2 k x2 x3 (wrap64 (x297000)) (decide (x297001 > 0)) x297000 x297001 x297002) else (annuityref01_MulDiv.j2 k x2 x3 (wrap64 (x297000)) false x297000 x297001 x297002))
def annuityref01_MulDiv.j2 : Nat → Int → Int → Int → Bool → Int → Int → Bool → Option (Int × Int)
 | 0, _, _, _, _, _, _, _ => none
 | k + 1, x2, x3, x12, x55, x297000, x297001, x297002 => if x55 = true then (if (wrap64 (x12 + 1)) > 10000000000000 then (some (0, 14)) else (some (wrap64 (x12 + 1), 0))) else (if x3 = 2 then (if x297001 > (IntKind.u64.wrap ((IntKind.u64.wrap (x2)) - x297001)) then (annuityref01_MulDiv.j3 k x12 true) else (if x297001 = (IntKind.u64.wrap ((IntKind.u64.wrap (x2)) - x297001)) then (annuityref01_MulDiv.j3 k x12 ((Int.tmod x12 2) == 1)) else (annuityref01_MulDiv.j3 k x12 false))) else (if x12 > 10000000000000 then (some (0, 14)) else (some (x12, 0))))
def annuityref01_MulDiv.j3 : Nat → Int → Bool → Option (Int × Int)
 | 0, _, _ => none
 | k + 1, x12, x87 => if x87 = true then (if (wrap64 (x12 + 1)) > 10000000000000 then (some (0, 14)) else (some (wrap64 (x12 + 1), 0))) else (if x12 > 10000000000000 then (some (0, 14)) else (some (x12, 0)))
end
def annuityref01_MulDiv.f (k : Nat) (a0 : Int) (a1 : Int) (a2 : Int) (a3 : Int) : Option (Int × Int) := if a0 < 0 then (annuityref01_MulDiv.j0 k a0 a1 a2 a3 true) else (if a1 < 0 then (annuityref01_MulDiv.j0 k a0 a1 a2 a3 true) else (if a2 ≤ 0 then (annuityref01_MulDiv.j0 k a0 a1 a2 a3 true) else (if a3 < 0 then (annuityref01_MulDiv.j0 k a0 a1 a2 a3 true) else (annuityref01_MulDiv.j0 k a0 a1 a2 a3 (decide (a3 > 2))))))
/-! ### annuityref15_Month: function 71 -/
def annuityref15_Month.j0 : Nat → Int → Int → Int → Bool → Option (Int × Int)
 | 0, _, _, _, _ => none
 | k + 1, x0, x1, x2, x26 => if x26 = true then (some (0, 1)) else ((annuityref01_MulDiv.f k x0 x2 12000000 1).bind fun bt299 => (if bt299.2 = 0 then ((annuityref01_Add.f x0 bt299.1).bind fun bt301 => (if bt301.2 = 0 then (some (mx 0 (wrap64 (bt301.1 - x1)), 0)) else (some (0, bt301.2)))) else (some (0, bt299.2))))
def annuityref15_Month.f (k : Nat) (a0 : Int) (a1 : Int) (a2 : Int) : Option (Int × Int) := (annuityref15_money.f a0).bind fun t297 => (if t297 = true then ((annuityref15_money.f a1).bind fun t298 => (if t298 = true then (if a2 < 0 then (annuityref15_Month.j0 k a0 a1 a2 true) else (annuityref15_Month.j0 k a0 a1 a2 (decide (a2 > 1000000)))) else (annuityref15_Month.j0 k a0 a1 a2 true))) else (annuityref15_Month.j0 k a0 a1 a2 true))
/-! ### annuityref15_Table: function 67 -/
mutual
def annuityref15_Table.j0 : Nat → Int → Int → Int → Int → Bool → Option (List Int × Int)
 | 0, _, _, _, _, _ => none
 | k + 1, x0, x1, x2, x3, x37 => if x37 = true then (some (([] : List Int), 1)) else (annuityref15_Table.l0 k x0 x1 x2 x3 ([] : List Int) 0)
def annuityref15_Table.l0 : Nat → Int → Int → Int → Int → List Int → Int → Option (List Int × Int)
 | 0, _, _, _, _, _, _ => none
 | k + 1, x0, x1, x2, x3, x10, x11 => if x11 < x3 then ((annuityref15_Month.f k x0 x1 x2).bind fun bt305 => (if bt305.2 = 0 then (if x10.length < 17592186044416 then (annuityref15_Table.l0 k bt305.1 x1 x2 x3 (x10 ++ [bt305.1]) (wrap64 (x11 + 1))) else (none)) else (some (([] : List Int), bt305.2)))) else (some (x10, 0))
end
def annuityref15_Table.f (k : Nat) (a0 : Int) (a1 : Int) (a2 : Int) (a3 : Int) : Option (List Int × Int) := (annuityref15_money.f a0).bind fun t303 => (if t303 = true then ((annuityref15_money.f a1).bind fun t304 => (if t304 = true then (if a2 < 0 then (annuityref15_Table.j0 k a0 a1 a2 a3 true) else (if a2 > 1000000 then (annuityref15_Table.j0 k a0 a1 a2 a3 true) else (if a3 < 0 then (annuityref15_Table.j0 k a0 a1 a2 a3 true) else (annuityref15_Table.j0 k a0 a1 a2 a3 (decide (a3 > 360)))))) else (annuityref15_Table.j0 k a0 a1 a2 a3 true))) else (annuityref15_Table.j0 k a0 a1 a2 a3 true))
/-! ### annuityref15_Left: function 58 -/
def annuityref15_Left.f (k : Nat) (a0 : Int) (a1 : Int) (a2 : Int) (a3 : Int) : Option (Int × Int) := (annuityref15_Table.f k a0 a1 a2 a3).bind fun bt310 => (if bt310.2 = 0 then (if (bt310.1.length : Int) > 0 then (if 0 ≤ (wrap64 ((bt310.1.length : Int) - 1)) then (if (wrap64 ((bt310.1.length : Int) - 1)) < (bt310.1.length : Int) then (some (rd bt310.1 (wrap64 ((bt310.1.length : Int) - 1)), 0)) else (none)) else (none)) else (some (a0, 0))) else (some (0, bt310.2)))
/-! ### annuityref15_Of: function 41 -/
mutual
def annuityref15_Of.j0 : Nat → Int → Int → Int → Bool → Option (Int × Int)
 | 0, _, _, _, _ => none
 | k + 1, x0, x1, x2, x34 => if x34 = true then (some (0, 1)) else ((annuityref15_Left.f k x0 10000000000000 x1 x2).bind fun bt316 => (if bt316.2 = 0 then (annuityref15_Of.j1 k x0 x1 x2 (-1) 10000000000000 (bt316.1 != 0)) else (annuityref15_Of.j1 k x0 x1 x2 (-1) 10000000000000 true)))
def annuityref15_Of.j1 : Nat → Int → Int → Int → Int → Int → Bool → Option (Int × Int)
 | 0, _, _, _, _, _, _ => none
 | k + 1, x0, x1, x2, x8, x9, x48 => if x48 = true then (some (0, 14)) else (annuityref15_Of.l0 k x0 x1 x2 x8 x9 0)
def annuityref15_Of.l0 : Nat → Int → Int → Int → Int → Int → Int → Option (Int × Int)
 | 0, _, _, _, _, _, _ => none
 | k + 1, x0, x1, x2, x8, x9, x12 => if x12 < 60 then (annuityref15_Of.j3 k x0 x1 x2 x8 x9 x12 (decide ((wrap64 (x9 - x8)) > 1))) else (annuityref15_Of.j3 k x0 x1 x2 x8 x9 x12 false)
def annuityref15_Of.j3 : Nat → Int → Int → Int → Int → Int → Int → Bool → Option (Int × Int)
 | 0, _, _, _, _, _, _, _ => none
 | k + 1, x0, x1, x2, x8, x9, x12, x56 => if x56 = true then ((annuityref15_Left.f k x0 (wrap64 (x8 + (wrap64 (Int.tdiv (wrap64 (x9 - x8)) 2)))) x1 x2).bind fun bt318 => (if bt318.2 = 0 then (if bt318.1 = 0 then (annuityref15_Of.l0 k x0 x1 x2 x8 (wrap64 (x8 + (wrap64 (Int.tdiv (wrap64 (x9 - x8)) 2)))) (wrap64 (x12 + 1))) else (annuityref15_Of.l0 k x0 x1 x2 (wrap64 (x8 + (wrap64 (Int.tdiv (wrap64 (x9 - x8)) 2)))) x9 (wrap64 (x12 + 1)))) else (annuityref15_Of.l0 k x0 x1 x2 (wrap64 (x8 + (wrap64 (Int.tdiv (wrap64 (x9 - x8)) 2)))) x9 (wrap64 (x12 + 1))))) else (some (x9, 0))
end
def annuityref15_Of.f (k : Nat) (a0 : Int) (a1 : Int) (a2 : Int) : Option (Int × Int) := (annuityref15_money.f a0).bind fun t315 => (if t315 = true then (if a1 < 0 then (annuityref15_Of.j0 k a0 a1 a2 true) else (if a1 > 1000000 then (annuityref15_Of.j0 k a0 a1 a2 true) else (if a2 < 1 then (annuityref15_Of.j0 k a0 a1 a2 true) else (annuityref15_Of.j0 k a0 a1 a2 (decide (a2 > 360)))))) else (annuityref15_Of.j0 k a0 a1 a2 true))
/-! ### annuityref18_Set: function 27 -/
def annuityref18_Set.f (k : Nat) (a0_0 : Int) (a0_1 : Int) (a0_2 : Int) (a0_3 : Int) (a0_4 : Int) (a0_5 : Int) (a0_6 : Bool) (a0_7 : Int) (a0_8 : Int) (a0_9 : Int) (a0_10 : Int) (a0_11 : Int) (a0_12 : Int) : Option (Int × Int × Int × Int × Int × Int × Bool × Int × Int × Int × Int × Int × Int × Int) := (annuityref14_Good.f a0_0 a0_1 a0_2 a0_3 a0_4 a0_5 a0_6 a0_7 a0_8 a0_9 a0_10 a0_11 a0_12).bind fun t322 => (if t322 = true then (if a0_8 = 0 then ((annuityref15_Of.f k a0_1 a0_5 120).bind fun bt323 => (if bt323.2 = 0 then ((annuityref15_Of.f k a0_1 a0_5 300).bind fun bt325 => (if bt325.2 = 0 then (some (a0_0, a0_1, a0_2, a0_3, a0_4, a0_5, a0_6, a0_7, a0_8, a0_9, bt323.1, bt325.1, a0_12, 0)) else (some (0, 0, 0, 0, 0, 0, false, 0, 0, 0, 0, 0, 0, bt325.2)))) else (some (0, 0, 0, 0, 0, 0, false, 0, 0, 0, 0, 0, 0, bt323.2)))) else (some (0, 0, 0, 0, 0, 0, false, 0, 0, 0, 0, 0, 0, 61))) else (some (0, 0, 0, 0, 0, 0, false, 0, 0, 0, 0, 0, 0, 1)))
/-! ### annuityref21_Join: function 13 -/
mutual
def annuityref21_Join.j0 : Nat → List (S31) → Int → Int → List Int → Int → Int → Bool → Option (Int × Int × Int × Int × Int × Int × Bool × Int × Int × Int × Int × Int × Int × Int)
 | 0, _, _, _, _, _, _, _ => none
 | k + 1, x0, x1, x2, x8, x9, x10, x31 => if x31 = true then (some (0, 0, 0, 0, 0, 0, false, 0, 0, 0, 0, 0, 0, 1)) else (if x10 = 0 then (annuityref21_Join.j1 k x0 x1 x2 x9 x10 ((x8.length : Int) == 0)) else (annuityref21_Join.j1 k x0 x1 x2 x9 x10 true))
def annuityref21_Join.j1 : Nat → List (S31) → Int → Int → Int → Int → Bool → Option (Int × Int × Int × Int × Int × Int × Bool × Int × Int × Int × Int × Int × Int × Int)
 | 0, _, _, _, _, _, _ => none
 | k + 1, x0, x1, x2, x9, x10, x39 => if x39 = true then (some (0, 0, 0, 0, 0, 0, false, 0, 0, 0, 0, 0, 0, x10)) else ((annuityref21_Rate.f k x0).bind fun bt334 => ((annuityref21_Count.f k x0).bind fun bt336 => ((annuityref18_Set.f k x1 x9 0 0 0 bt334.1 false 5 0 x2 0 0 bt336.1).bind fun bt338 => (some (bt338.1, bt338.2.1, bt338.2.2.1, bt338.2.2.2.1, bt338.2.2.2.2.1, bt338.2.2.2.2.2.1, bt338.2.2.2.2.2.2.1, bt338.2.2.2.2.2.2.2.1, bt338.2.2.2.2.2.2.2.2.1, bt338.2.2.2.2.2.2.2.2.2.1, bt338.2.2.2.2.2.2.2.2.2.2.1, bt338.2.2.2.2.2.2.2.2.2.2.2.1, bt338.2.2.2.2.2.2.2.2.2.2.2.2.1, bt338.2.2.2.2.2.2.2.2.2.2.2.2.2)))))
end
end Go.Proofs.Ytakcepffodipfaa.P
