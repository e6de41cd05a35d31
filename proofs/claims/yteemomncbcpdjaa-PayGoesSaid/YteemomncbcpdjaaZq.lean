/- A part of a proof. -/
import Derived.Test.YteemomncbcpdjaaPayPlain
namespace Go.Proofs.Yteemomncbcpdjaa.P
open Go.RowKit W.PrintWords W.PrintLast W.PrintMore Go.Proofs.Yteemomncbcpdjaa.Plain
set_option linter.unusedVariables false
set_option linter.unusedSimpArgs false
def opN (l : List S43) : List Nat := (List.range l.length).filter (fun (i : Nat) => decide ((qQc l (i : Int)).f8 = 0))
def idR (l : List S43) (i j : Nat) : Bool := decide ((qQc l (i : Int)).f0 < (qQc l (j : Int)).f0 ∨ (qQc l (i : Int)).f0 = (qQc l (j : Int)).f0 ∧ i < j)
def drR (l : List S43) (i j : Nat) : Bool := decide ((qQc l (j : Int)).f5 < (qQc l (i : Int)).f5 ∨ (qQc l (j : Int)).f5 = (qQc l (i : Int)).f5 ∧ ((qQc l (i : Int)).f0 < (qQc l (j : Int)).f0 ∨ (qQc l (i : Int)).f0 = (qQc l (j : Int)).f0 ∧ i < j))
theorem qVa (l : List S43) : Lin (idR l) where
  trans x y z h1 h2 := by simp only [idR, decide_eq_true_eq] at *; omega
  asym x y h1 h2 := by simp only [idR, decide_eq_true_eq] at *; omega
  tot x y h1 h2 := by simp only [idR, decide_eq_true_eq, decide_eq_false_iff_not] at *; omega
theorem qW9 (l : List S43) : Lin (drR l) where
  trans x y z h1 h2 := by simp only [drR, decide_eq_true_eq] at *; omega
  asym x y h1 h2 := by simp only [drR, decide_eq_true_eq] at *; omega
  tot x y h1 h2 := by simp only [drR, decide_eq_true_eq, decide_eq_false_iff_not] at *; omega
theorem qVw (l : List S43) : (opN l).Nodup := List.nodup_range.filter _
theorem qK5 {l : List S43} {i : Nat} : i ∈ opN l ↔ i < l.length ∧ (qQc l (i : Int)).f8 = 0 := by unfold opN; simp
def toI (l : List Nat) : List Int := l.map (fun (i : Nat) => (i : Int))
def plI (l : List S43) : List Nat := srt (idR l) (opN l)
def plD (l : List S43) : List Nat := srt (drR l) (opN l)
end Go.Proofs.Yteemomncbcpdjaa.P
