/-
  No cell of these rows narrows 'for every input' (looked for: loops, veiled, ifaces, maps, wideKeys, modest, calm, conditions, laid).
  DERIVED. THE GIVEN ROWS OF THIS SEAT. 12 by the template 'for every input the law returns true; each argument reads behind the call as it read before'; 0 by the template 'total and deterministic' (their statements: YteeajbnpbagjlaaTotals.lean).
  GIVEN WITH THE SEED: the statements are not yours to turn. If you find one false, say at which input.
  Laid BY PROGRAM, IN A SANDBOX (cutbox-rows.mjs): the forced cells as the released guide's own fill.sh prints them over the translation a9ba4780bc8685cf… (all of the seat's roots in one cut). By AI agents, Wed Nov 11 2026. No macro, syntax, notation, axiom, sorry.
-/
import Derived.Test.YteeajbnpbagjlaaChecked
import GoSem.Claim
import GoSem.ClaimJoined
import GoSem.ClaimMapViews
import Derived.JoinedTies
import Derived.KernelRfl
namespace Go.Proofs.Yteeajbnpbagjlaa
/- THE CELL 'sum', in the pinned program and in every row, IS THE sha256 OF THE DUMP (.gsa) THAT YteeajbnpbagjlaaProg.lean LOADS. Nothing in Lean hashes anything: it is a label: what it is worth is what the hold of that sum in a sandbox is worth. -/
noncomputable def Try.pinned : Pinned := { name := "yteeajbnpbagjlaa", sum := "a9ba4780bc8685cfc296f057d2eeb44b00cafe7e95068bb581bbafcf292eeb07", checked := Try.checked }
namespace Rows
def none {H : Type} : Left H := { results := [], args := [] }

/-- 'annuitylaw01.MoneyDivides': WHATEVER THE INPUT: true; the input reads as it did. -/
def moneyDividesSpec : ChangeSpec := { name := "moneyDivides", fn := fun _ => fun
  | [d1, d2] => { results := [.lit (.bool true)], args := [d1, d2] }
  | _ => none }
def moneyDividesRow : OpenClaim := { program := "yteeajbnpbagjlaa", sum := "a9ba4780bc8685cfc296f057d2eeb44b00cafe7e95068bb581bbafcf292eeb07", func := "annuity/annuitylaw01.MoneyDivides", spec := "moneyDivides", named := ["math/bits.divideError", "math/bits.overflowError"], apart := false }
def MoneyDividesSaid : Prop := moneyDividesRow.holds Try.pinned (OpenSpec.ofChange moneyDividesSpec)

/-- ITS FALSE NEIGHBOUR: 'it returns false'. Refute it at one input. -/
def moneyDividesWrong : ChangeSpec := { name := "moneyDivides", fn := fun _ => fun
  | [d1, d2] => { results := [.lit (.bool false)], args := [d1, d2] }
  | _ => none }
def MoneyDividesWrongFalsely : Prop := moneyDividesRow.holds Try.pinned (OpenSpec.ofChange moneyDividesWrong)

/-- 'annuitylaw01.MoneyWide': WHATEVER THE INPUT: true; the input reads as it did. -/
def moneyWideSpec : ChangeSpec := { name := "moneyWide", fn := fun _ => fun
  | [d1, d2, d3] => { results := [.lit (.bool true)], args := [d1, d2, d3] }
  | _ => none }
def moneyWideRow : OpenClaim := { program := "yteeajbnpbagjlaa", sum := "a9ba4780bc8685cfc296f057d2eeb44b00cafe7e95068bb581bbafcf292eeb07", func := "annuity/annuitylaw01.MoneyWide", spec := "moneyWide", named := ["math/bits.divideError", "math/bits.overflowError"], apart := false }
def MoneyWideSaid : Prop := moneyWideRow.holds Try.pinned (OpenSpec.ofChange moneyWideSpec)

/-- ITS FALSE NEIGHBOUR: 'it returns false'. Refute it at one input. -/
def moneyWideWrong : ChangeSpec := { name := "moneyWide", fn := fun _ => fun
  | [d1, d2, d3] => { results := [.lit (.bool false)], args := [d1, d2, d3] }
  | _ => none }
def MoneyWideWrongFalsely : Prop := moneyWideRow.holds Try.pinned (OpenSpec.ofChange moneyWideWrong)

/-- 'annuitylaw01.MoneyRounds': WHATEVER THE INPUT: true; the input reads as it did. -/
def moneyRoundsSpec : ChangeSpec := { name := "moneyRounds", fn := fun _ => fun
  | [d1, d2, d3] => { results := [.lit (.bool true)], args := [d1, d2, d3] }
  | _ => none }
def moneyRoundsRow : OpenClaim := { program := "yteeajbnpbagjlaa", sum := "a9ba4780bc8685cfc296f057d2eeb44b00cafe7e95068bb581bbafcf292eeb07", func := "annuity/annuitylaw01.MoneyRounds", spec := "moneyRounds", named := ["math/bits.divideError", "math/bits.overflowError"], apart := false }
def MoneyRoundsSaid : Prop := moneyRoundsRow.holds Try.pinned (OpenSpec.ofChange moneyRoundsSpec)

/-- ITS FALSE NEIGHBOUR: 'it returns false'. Refute it at one input. -/
def moneyRoundsWrong : ChangeSpec := { name := "moneyRounds", fn := fun _ => fun
  | [d1, d2, d3] => { results := [.lit (.bool false)], args := [d1, d2, d3] }
  | _ => none }
def MoneyRoundsWrongFalsely : Prop := moneyRoundsRow.holds Try.pinned (OpenSpec.ofChange moneyRoundsWrong)

/-- 'annuitylaw01.MoneyOrder': WHATEVER THE INPUT: true; the input reads as it did. -/
def moneyOrderSpec : ChangeSpec := { name := "moneyOrder", fn := fun _ => fun
  | [d1, d2, d3] => { results := [.lit (.bool true)], args := [d1, d2, d3] }
  | _ => none }
def moneyOrderRow : OpenClaim := { program := "yteeajbnpbagjlaa", sum := "a9ba4780bc8685cfc296f057d2eeb44b00cafe7e95068bb581bbafcf292eeb07", func := "annuity/annuitylaw01.MoneyOrder", spec := "moneyOrder", named := ["math/bits.divideError", "math/bits.overflowError"], apart := false }
def MoneyOrderSaid : Prop := moneyOrderRow.holds Try.pinned (OpenSpec.ofChange moneyOrderSpec)

/-- ITS FALSE NEIGHBOUR: 'it returns false'. Refute it at one input. -/
def moneyOrderWrong : ChangeSpec := { name := "moneyOrder", fn := fun _ => fun
  | [d1, d2, d3] => { results := [.lit (.bool false)], args := [d1, d2, d3] }
  | _ => none }
def MoneyOrderWrongFalsely : Prop := moneyOrderRow.holds Try.pinned (OpenSpec.ofChange moneyOrderWrong)

/-- 'annuitylaw13.AccrueTells': WHATEVER THE INPUT: true; the input reads as it did. -/
def accrueTellsSpec : ChangeSpec := { name := "accrueTells", fn := fun _ => fun
  | [d1, d2, d3] => { results := [.lit (.bool true)], args := [d1, d2, d3] }
  | _ => none }
def accrueTellsRow : OpenClaim := { program := "yteeajbnpbagjlaa", sum := "a9ba4780bc8685cfc296f057d2eeb44b00cafe7e95068bb581bbafcf292eeb07", func := "annuity/annuitylaw13.AccrueTells", spec := "accrueTells", unfollowed := true, recurses := true, named := ["math/bits.divideError", "math/bits.overflowError"], apart := false }
def AccrueTellsSaid : Prop := accrueTellsRow.holds Try.pinned (OpenSpec.ofChange accrueTellsSpec)

/-- ITS FALSE NEIGHBOUR: 'it returns false'. Refute it at one input. -/
def accrueTellsWrong : ChangeSpec := { name := "accrueTells", fn := fun _ => fun
  | [d1, d2, d3] => { results := [.lit (.bool false)], args := [d1, d2, d3] }
  | _ => none }
def AccrueTellsWrongFalsely : Prop := accrueTellsRow.holds Try.pinned (OpenSpec.ofChange accrueTellsWrong)

/-- 'annuitylaw13.AccrueAdds': WHATEVER THE INPUT: true; the input reads as it did. -/
def accrueAddsSpec : ChangeSpec := { name := "accrueAdds", fn := fun _ => fun
  | [d1, d2, d3] => { results := [.lit (.bool true)], args := [d1, d2, d3] }
  | _ => none }
def accrueAddsRow : OpenClaim := { program := "yteeajbnpbagjlaa", sum := "a9ba4780bc8685cfc296f057d2eeb44b00cafe7e95068bb581bbafcf292eeb07", func := "annuity/annuitylaw13.AccrueAdds", spec := "accrueAdds", unfollowed := true, recurses := true, named := ["math/bits.divideError", "math/bits.overflowError"], apart := false }
def AccrueAddsSaid : Prop := accrueAddsRow.holds Try.pinned (OpenSpec.ofChange accrueAddsSpec)

/-- ITS FALSE NEIGHBOUR: 'it returns false'. Refute it at one input. -/
def accrueAddsWrong : ChangeSpec := { name := "accrueAdds", fn := fun _ => fun
  | [d1, d2, d3] => { results := [.lit (.bool false)], args := [d1, d2, d3] }
  | _ => none }
def AccrueAddsWrongFalsely : Prop := accrueAddsRow.holds Try.pinned (OpenSpec.ofChange accrueAddsWrong)

/-- 'annuitylaw16.StepTells': WHATEVER THE INPUT: true; the input reads as it did. -/
def stepTellsSpec : ChangeSpec := { name := "stepTells", fn := fun _ => fun
  | [d1, d2, d3] => { results := [.lit (.bool true)], args := [d1, d2, d3] }
  | _ => none }
def stepTellsRow : OpenClaim := { program := "yteeajbnpbagjlaa", sum := "a9ba4780bc8685cfc296f057d2eeb44b00cafe7e95068bb581bbafcf292eeb07", func := "annuity/annuitylaw16.StepTells", spec := "stepTells", named := ["math/bits.divideError", "math/bits.overflowError"], apart := false }
def StepTellsSaid : Prop := stepTellsRow.holds Try.pinned (OpenSpec.ofChange stepTellsSpec)

/-- ITS FALSE NEIGHBOUR: 'it returns false'. Refute it at one input. -/
def stepTellsWrong : ChangeSpec := { name := "stepTells", fn := fun _ => fun
  | [d1, d2, d3] => { results := [.lit (.bool false)], args := [d1, d2, d3] }
  | _ => none }
def StepTellsWrongFalsely : Prop := stepTellsRow.holds Try.pinned (OpenSpec.ofChange stepTellsWrong)

/-- 'annuitylaw16.StepRises': WHATEVER THE INPUT: true; the input reads as it did. -/
def stepRisesSpec : ChangeSpec := { name := "stepRises", fn := fun _ => fun
  | [d1, d2, d3] => { results := [.lit (.bool true)], args := [d1, d2, d3] }
  | _ => none }
def stepRisesRow : OpenClaim := { program := "yteeajbnpbagjlaa", sum := "a9ba4780bc8685cfc296f057d2eeb44b00cafe7e95068bb581bbafcf292eeb07", func := "annuity/annuitylaw16.StepRises", spec := "stepRises", named := ["math/bits.divideError", "math/bits.overflowError"], apart := false }
def StepRisesSaid : Prop := stepRisesRow.holds Try.pinned (OpenSpec.ofChange stepRisesSpec)

/-- ITS FALSE NEIGHBOUR: 'it returns false'. Refute it at one input. -/
def stepRisesWrong : ChangeSpec := { name := "stepRises", fn := fun _ => fun
  | [d1, d2, d3] => { results := [.lit (.bool false)], args := [d1, d2, d3] }
  | _ => none }
def StepRisesWrongFalsely : Prop := stepRisesRow.holds Try.pinned (OpenSpec.ofChange stepRisesWrong)

/-- 'annuitylaw13.AccrueTakes': WHATEVER THE INPUT: true; the input reads as it did. -/
def accrueTakesSpec : ChangeSpec := { name := "accrueTakes", fn := fun _ => fun
  | [d1, d2] => { results := [.lit (.bool true)], args := [d1, d2] }
  | _ => none }
def accrueTakesRow : OpenClaim := { program := "yteeajbnpbagjlaa", sum := "a9ba4780bc8685cfc296f057d2eeb44b00cafe7e95068bb581bbafcf292eeb07", func := "annuity/annuitylaw13.AccrueTakes", spec := "accrueTakes", unfollowed := true, recurses := true, named := ["math/bits.divideError", "math/bits.overflowError"], apart := false }
def AccrueTakesSaid : Prop := accrueTakesRow.holds Try.pinned (OpenSpec.ofChange accrueTakesSpec)

/-- ITS FALSE NEIGHBOUR: 'it returns false'. Refute it at one input. -/
def accrueTakesWrong : ChangeSpec := { name := "accrueTakes", fn := fun _ => fun
  | [d1, d2] => { results := [.lit (.bool false)], args := [d1, d2] }
  | _ => none }
def AccrueTakesWrongFalsely : Prop := accrueTakesRow.holds Try.pinned (OpenSpec.ofChange accrueTakesWrong)

/-- 'annuitylaw13.AccrueMore': WHATEVER THE INPUT: true; the input reads as it did. -/
def accrueMoreSpec : ChangeSpec := { name := "accrueMore", fn := fun _ => fun
  | [d1, d2, d3] => { results := [.lit (.bool true)], args := [d1, d2, d3] }
  | _ => none }
def accrueMoreRow : OpenClaim := { program := "yteeajbnpbagjlaa", sum := "a9ba4780bc8685cfc296f057d2eeb44b00cafe7e95068bb581bbafcf292eeb07", func := "annuity/annuitylaw13.AccrueMore", spec := "accrueMore", unfollowed := true, recurses := true, named := ["math/bits.divideError", "math/bits.overflowError"], apart := false }
def AccrueMoreSaid : Prop := accrueMoreRow.holds Try.pinned (OpenSpec.ofChange accrueMoreSpec)

/-- ITS FALSE NEIGHBOUR: 'it returns false'. Refute it at one input. -/
def accrueMoreWrong : ChangeSpec := { name := "accrueMore", fn := fun _ => fun
  | [d1, d2, d3] => { results := [.lit (.bool false)], args := [d1, d2, d3] }
  | _ => none }
def AccrueMoreWrongFalsely : Prop := accrueMoreRow.holds Try.pinned (OpenSpec.ofChange accrueMoreWrong)

/-- 'annuitylaw01.MoneyAdds': WHATEVER THE INPUT: true; the input reads as it did. -/
def moneyAddsSpec : ChangeSpec := { name := "moneyAdds", fn := fun _ => fun
  | [d1, d2, d3] => { results := [.lit (.bool true)], args := [d1, d2, d3] }
  | _ => none }
def moneyAddsRow : OpenClaim := { program := "yteeajbnpbagjlaa", sum := "a9ba4780bc8685cfc296f057d2eeb44b00cafe7e95068bb581bbafcf292eeb07", func := "annuity/annuitylaw01.MoneyAdds", spec := "moneyAdds", unfollowed := true, recurses := true, named := ["math/bits.divideError", "math/bits.overflowError"], apart := false }
def MoneyAddsSaid : Prop := moneyAddsRow.holds Try.pinned (OpenSpec.ofChange moneyAddsSpec)

/-- ITS FALSE NEIGHBOUR: 'it returns false'. Refute it at one input. -/
def moneyAddsWrong : ChangeSpec := { name := "moneyAdds", fn := fun _ => fun
  | [d1, d2, d3] => { results := [.lit (.bool false)], args := [d1, d2, d3] }
  | _ => none }
def MoneyAddsWrongFalsely : Prop := moneyAddsRow.holds Try.pinned (OpenSpec.ofChange moneyAddsWrong)

/-- 'annuitylaw01.MoneyBack': WHATEVER THE INPUT: true; the input reads as it did. -/
def moneyBackSpec : ChangeSpec := { name := "moneyBack", fn := fun _ => fun
  | [d1, d2] => { results := [.lit (.bool true)], args := [d1, d2] }
  | _ => none }
def moneyBackRow : OpenClaim := { program := "yteeajbnpbagjlaa", sum := "a9ba4780bc8685cfc296f057d2eeb44b00cafe7e95068bb581bbafcf292eeb07", func := "annuity/annuitylaw01.MoneyBack", spec := "moneyBack", unfollowed := true, recurses := true, named := ["math/bits.divideError", "math/bits.overflowError"], apart := false }
def MoneyBackSaid : Prop := moneyBackRow.holds Try.pinned (OpenSpec.ofChange moneyBackSpec)

/-- ITS FALSE NEIGHBOUR: 'it returns false'. Refute it at one input. -/
def moneyBackWrong : ChangeSpec := { name := "moneyBack", fn := fun _ => fun
  | [d1, d2] => { results := [.lit (.bool false)], args := [d1, d2] }
  | _ => none }
def MoneyBackWrongFalsely : Prop := moneyBackRow.holds Try.pinned (OpenSpec.ofChange moneyBackWrong)

/- THE SECOND FORM. 'bulk': how many values and letters a reading holds, each counted each time it is reached (what is shared counts as often as it is met; a slice's spare places count too). A statement '..UptoSaid' is the law's where the arguments, and the package variables that the reading takes, are together of bulk at most 1048576: NARROWER than '..Said'. Prove '..Said' where nothing that the law and all that it calls make is longer than what came in: it says more and counts as full. Else prove '..UptoSaid'. A law counts once. -/
mutual
def uptoBulk {H : Type} : DataW H → Nat
  | .lit (.string bytes) => bytes.length + 1
  | .lit _ => 1
  | .nil => 1
  | .ptr d => uptoBulk d + 1
  | .slice elems spare => uptoBulkAll elems + uptoBulkAll spare + 1
  | .agg parts => uptoBulkAll parts + 1
  | .iface _ d => uptoBulk d + 1
  | .map entries => uptoBulkEntries entries + 1
  | .held _ => 1
def uptoBulkAll {H : Type} : List (DataW H) → Nat
  | [] => 0
  | d :: r => uptoBulk d + uptoBulkAll r
def uptoBulkEntries {H : Type} : List (Lit × DataW H) → Nat
  | [] => 0
  | x :: r => uptoBulkEntry x + uptoBulkEntries r
def uptoBulkEntry {H : Type} : Lit × DataW H → Nat
  | (.string bytes, d) => bytes.length + uptoBulk d + 1
  | (_, d) => uptoBulk d + 1
 end
def uptoSmall : (H : Type) → List (DataW H) → Bool := fun _ ds => decide (uptoBulkAll ds ≤ 1048576)
def OpenSpec.upto (s : _root_.Go.ChangeSpec) : _root_.Go.OpenSpec := { _root_.Go.OpenSpec.ofChange s with cond := some uptoSmall }

/-- 'annuitylaw01.MoneyDivides', WHERE WHAT IT READS IS OF BULK AT MOST 1048576: true; the input reads as it did. -/
def moneyDividesUptoRow : OpenClaim := { program := "yteeajbnpbagjlaa", sum := "a9ba4780bc8685cfc296f057d2eeb44b00cafe7e95068bb581bbafcf292eeb07", func := "annuity/annuitylaw01.MoneyDivides", spec := "moneyDivides", named := ["math/bits.divideError", "math/bits.overflowError"], apart := false, narrowed := true }
def MoneyDividesUptoSaid : Prop := moneyDividesUptoRow.holds Try.pinned (OpenSpec.upto moneyDividesSpec)

/-- 'annuitylaw01.MoneyWide', WHERE WHAT IT READS IS OF BULK AT MOST 1048576: true; the input reads as it did. -/
def moneyWideUptoRow : OpenClaim := { program := "yteeajbnpbagjlaa", sum := "a9ba4780bc8685cfc296f057d2eeb44b00cafe7e95068bb581bbafcf292eeb07", func := "annuity/annuitylaw01.MoneyWide", spec := "moneyWide", named := ["math/bits.divideError", "math/bits.overflowError"], apart := false, narrowed := true }
def MoneyWideUptoSaid : Prop := moneyWideUptoRow.holds Try.pinned (OpenSpec.upto moneyWideSpec)

/-- 'annuitylaw01.MoneyRounds', WHERE WHAT IT READS IS OF BULK AT MOST 1048576: true; the input reads as it did. -/
def moneyRoundsUptoRow : OpenClaim := { program := "yteeajbnpbagjlaa", sum := "a9ba4780bc8685cfc296f057d2eeb44b00cafe7e95068bb581bbafcf292eeb07", func := "annuity/annuitylaw01.MoneyRounds", spec := "moneyRounds", named := ["math/bits.divideError", "math/bits.overflowError"], apart := false, narrowed := true }
def MoneyRoundsUptoSaid : Prop := moneyRoundsUptoRow.holds Try.pinned (OpenSpec.upto moneyRoundsSpec)

/-- 'annuitylaw01.MoneyOrder', WHERE WHAT IT READS IS OF BULK AT MOST 1048576: true; the input reads as it did. -/
def moneyOrderUptoRow : OpenClaim := { program := "yteeajbnpbagjlaa", sum := "a9ba4780bc8685cfc296f057d2eeb44b00cafe7e95068bb581bbafcf292eeb07", func := "annuity/annuitylaw01.MoneyOrder", spec := "moneyOrder", named := ["math/bits.divideError", "math/bits.overflowError"], apart := false, narrowed := true }
def MoneyOrderUptoSaid : Prop := moneyOrderUptoRow.holds Try.pinned (OpenSpec.upto moneyOrderSpec)

/-- 'annuitylaw13.AccrueTells', WHERE WHAT IT READS IS OF BULK AT MOST 1048576: true; the input reads as it did. -/
def accrueTellsUptoRow : OpenClaim := { program := "yteeajbnpbagjlaa", sum := "a9ba4780bc8685cfc296f057d2eeb44b00cafe7e95068bb581bbafcf292eeb07", func := "annuity/annuitylaw13.AccrueTells", spec := "accrueTells", unfollowed := true, recurses := true, named := ["math/bits.divideError", "math/bits.overflowError"], apart := false, narrowed := true }
def AccrueTellsUptoSaid : Prop := accrueTellsUptoRow.holds Try.pinned (OpenSpec.upto accrueTellsSpec)

/-- 'annuitylaw13.AccrueAdds', WHERE WHAT IT READS IS OF BULK AT MOST 1048576: true; the input reads as it did. -/
def accrueAddsUptoRow : OpenClaim := { program := "yteeajbnpbagjlaa", sum := "a9ba4780bc8685cfc296f057d2eeb44b00cafe7e95068bb581bbafcf292eeb07", func := "annuity/annuitylaw13.AccrueAdds", spec := "accrueAdds", unfollowed := true, recurses := true, named := ["math/bits.divideError", "math/bits.overflowError"], apart := false, narrowed := true }
def AccrueAddsUptoSaid : Prop := accrueAddsUptoRow.holds Try.pinned (OpenSpec.upto accrueAddsSpec)

/-- 'annuitylaw16.StepTells', WHERE WHAT IT READS IS OF BULK AT MOST 1048576: true; the input reads as it did. -/
def stepTellsUptoRow : OpenClaim := { program := "yteeajbnpbagjlaa", sum := "a9ba4780bc8685cfc296f057d2eeb44b00cafe7e95068bb581bbafcf292eeb07", func := "annuity/annuitylaw16.StepTells", spec := "stepTells", named := ["math/bits.divideError", "math/bits.overflowError"], apart := false, narrowed := true }
def StepTellsUptoSaid : Prop := stepTellsUptoRow.holds Try.pinned (OpenSpec.upto stepTellsSpec)

/-- 'annuitylaw16.StepRises', WHERE WHAT IT READS IS OF BULK AT MOST 1048576: true; the input reads as it did. -/
def stepRisesUptoRow : OpenClaim := { program := "yteeajbnpbagjlaa", sum := "a9ba4780bc8685cfc296f057d2eeb44b00cafe7e95068bb581bbafcf292eeb07", func := "annuity/annuitylaw16.StepRises", spec := "stepRises", named := ["math/bits.divideError", "math/bits.overflowError"], apart := false, narrowed := true }
def StepRisesUptoSaid : Prop := stepRisesUptoRow.holds Try.pinned (OpenSpec.upto stepRisesSpec)

/-- 'annuitylaw13.AccrueTakes', WHERE WHAT IT READS IS OF BULK AT MOST 1048576: true; the input reads as it did. -/
def accrueTakesUptoRow : OpenClaim := { program := "yteeajbnpbagjlaa", sum := "a9ba4780bc8685cfc296f057d2eeb44b00cafe7e95068bb581bbafcf292eeb07", func := "annuity/annuitylaw13.AccrueTakes", spec := "accrueTakes", unfollowed := true, recurses := true, named := ["math/bits.divideError", "math/bits.overflowError"], apart := false, narrowed := true }
def AccrueTakesUptoSaid : Prop := accrueTakesUptoRow.holds Try.pinned (OpenSpec.upto accrueTakesSpec)

/-- 'annuitylaw13.AccrueMore', WHERE WHAT IT READS IS OF BULK AT MOST 1048576: true; the input reads as it did. -/
def accrueMoreUptoRow : OpenClaim := { program := "yteeajbnpbagjlaa", sum := "a9ba4780bc8685cfc296f057d2eeb44b00cafe7e95068bb581bbafcf292eeb07", func := "annuity/annuitylaw13.AccrueMore", spec := "accrueMore", unfollowed := true, recurses := true, named := ["math/bits.divideError", "math/bits.overflowError"], apart := false, narrowed := true }
def AccrueMoreUptoSaid : Prop := accrueMoreUptoRow.holds Try.pinned (OpenSpec.upto accrueMoreSpec)

/-- 'annuitylaw01.MoneyAdds', WHERE WHAT IT READS IS OF BULK AT MOST 1048576: true; the input reads as it did. -/
def moneyAddsUptoRow : OpenClaim := { program := "yteeajbnpbagjlaa", sum := "a9ba4780bc8685cfc296f057d2eeb44b00cafe7e95068bb581bbafcf292eeb07", func := "annuity/annuitylaw01.MoneyAdds", spec := "moneyAdds", unfollowed := true, recurses := true, named := ["math/bits.divideError", "math/bits.overflowError"], apart := false, narrowed := true }
def MoneyAddsUptoSaid : Prop := moneyAddsUptoRow.holds Try.pinned (OpenSpec.upto moneyAddsSpec)

/-- 'annuitylaw01.MoneyBack', WHERE WHAT IT READS IS OF BULK AT MOST 1048576: true; the input reads as it did. -/
def moneyBackUptoRow : OpenClaim := { program := "yteeajbnpbagjlaa", sum := "a9ba4780bc8685cfc296f057d2eeb44b00cafe7e95068bb581bbafcf292eeb07", func := "annuity/annuitylaw01.MoneyBack", spec := "moneyBack", unfollowed := true, recurses := true, named := ["math/bits.divideError", "math/bits.overflowError"], apart := false, narrowed := true }
def MoneyBackUptoSaid : Prop := moneyBackUptoRow.holds Try.pinned (OpenSpec.upto moneyBackSpec)

end Rows
end Go.Proofs.Yteeajbnpbagjlaa
