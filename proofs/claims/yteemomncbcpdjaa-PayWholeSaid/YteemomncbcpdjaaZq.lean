/- The places of loans in their orders: plain definitions. -/
import Derived.Test.YteemomncbcpdjaaPayPlain
namespace Go.Proofs.Yteemomncbcpdjaa.P
open Go.RowKit Go.Proofs.YteemomncbcpdjaaW.PrintWords Go.Proofs.YteemomncbcpdjaaW.PrintLast Go.Proofs.YteemomncbcpdjaaW.PrintMore Go.Proofs.Yteemomncbcpdjaa.Plain
set_option linter.unusedVariables false
set_option linter.unusedSimpArgs false
/-- The places of the loans that are open. -/
def opN (l : List S43) : List Nat := (List.range l.length).filter (fun (i : Nat) => decide ((rd_T43 l (i : Int)).f8 = 0))
/-- By Id, then by place. -/
def idR (l : List S43) (i j : Nat) : Bool := decide ((rd_T43 l (i : Int)).f0 < (rd_T43 l (j : Int)).f0 ∨ (rd_T43 l (i : Int)).f0 = (rd_T43 l (j : Int)).f0 ∧ i < j)
/-- The dearest first, then by Id, then by place. -/
def drR (l : List S43) (i j : Nat) : Bool := decide ((rd_T43 l (j : Int)).f5 < (rd_T43 l (i : Int)).f5 ∨ (rd_T43 l (j : Int)).f5 = (rd_T43 l (i : Int)).f5 ∧ ((rd_T43 l (i : Int)).f0 < (rd_T43 l (j : Int)).f0 ∨ (rd_T43 l (i : Int)).f0 = (rd_T43 l (j : Int)).f0 ∧ i < j))
theorem idR_lin (l : List S43) : Lin (idR l) where
  trans x y z h1 h2 := by simp only [idR, decide_eq_true_eq] at *; omega
  asym x y h1 h2 := by simp only [idR, decide_eq_true_eq] at *; omega
  tot x y h1 h2 := by simp only [idR, decide_eq_true_eq, decide_eq_false_iff_not] at *; omega
theorem drR_lin (l : List S43) : Lin (drR l) where
  trans x y z h1 h2 := by simp only [drR, decide_eq_true_eq] at *; omega
  asym x y h1 h2 := by simp only [drR, decide_eq_true_eq] at *; omega
  tot x y h1 h2 := by simp only [drR, decide_eq_true_eq, decide_eq_false_iff_not] at *; omega
theorem opN_nodup (l : List S43) : (opN l).Nodup := List.nodup_range.filter _
theorem opN_mem {l : List S43} {i : Nat} : i ∈ opN l ↔ i < l.length ∧ (rd_T43 l (i : Int)).f8 = 0 := by unfold opN; simp
/-- The places, as the program tells them. -/
def toI (l : List Nat) : List Int := l.map (fun (i : Nat) => (i : Int))
def plI (l : List S43) : List Nat := srt (idR l) (opN l)
def plD (l : List S43) : List Nat := srt (drR l) (opN l)
end Go.Proofs.Yteemomncbcpdjaa.P
