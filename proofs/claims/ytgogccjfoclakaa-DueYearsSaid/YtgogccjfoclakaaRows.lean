/-
  No cell of these rows narrows 'for every input' (looked for: loops, veiled, ifaces, maps, wideKeys, modest, calm, conditions, laid).
  DERIVED. THE GIVEN ROWS OF THIS SEAT. 11 by the template 'for every input the law returns true; each argument reads behind the call as it read before'; 0 by the template 'total and deterministic' (their statements: YtgogccjfoclakaaTotals.lean).
  GIVEN WITH THE SEED: the statements are not yours to turn. If you find one false, say at which input.
  Laid BY PROGRAM, IN A SANDBOX (cutbox-rows.mjs): the forced cells as the released guide's own fill.sh prints them over the translation 941830dd929ff41c… (all of the seat's roots in one cut). By AI agents, Wed Nov 11 2026. No macro, syntax, notation, axiom, sorry.
-/
import Derived.Test.YtgogccjfoclakaaChecked
import GoSem.Claim
import GoSem.ClaimJoined
import GoSem.ClaimMapViews
import Derived.JoinedTies
import Derived.KernelRfl
namespace Go.Proofs.Ytgogccjfoclakaa
/- THE CELL 'sum', in the pinned program and in every row, IS THE sha256 OF THE DUMP (.gsa) THAT YtgogccjfoclakaaProg.lean LOADS. Nothing in Lean hashes anything: it is a label: what it is worth is what the hold of that sum in a sandbox is worth. -/
noncomputable def Try.pinned : Pinned := { name := "ytgogccjfoclakaa", sum := "941830dd929ff41cc7fa92c5b9625da8277452a171af60e159f9690cf8591fa0", checked := Try.checked }
namespace Rows
def none {H : Type} : Left H := { results := [], args := [] }

/-- 'annuitylaw04.DateNumbers': WHATEVER THE INPUT: true; the input reads as it did. -/
def dateNumbersSpec : ChangeSpec := { name := "dateNumbers", fn := fun _ => fun
  | [d1, d2, d3] => { results := [.lit (.bool true)], args := [d1, d2, d3] }
  | _ => none }
def dateNumbersRow : OpenClaim := { program := "ytgogccjfoclakaa", sum := "941830dd929ff41cc7fa92c5b9625da8277452a171af60e159f9690cf8591fa0", func := "annuity/annuitylaw04.DateNumbers", spec := "dateNumbers", unfollowed := true, recurses := true, apart := false }
def DateNumbersSaid : Prop := dateNumbersRow.holds Try.pinned (OpenSpec.ofChange dateNumbersSpec)

/-- ITS FALSE NEIGHBOUR: 'it returns false'. Refute it at one input. -/
def dateNumbersWrong : ChangeSpec := { name := "dateNumbers", fn := fun _ => fun
  | [d1, d2, d3] => { results := [.lit (.bool false)], args := [d1, d2, d3] }
  | _ => none }
def DateNumbersWrongFalsely : Prop := dateNumbersRow.holds Try.pinned (OpenSpec.ofChange dateNumbersWrong)

/-- 'annuitylaw04.DateAdds': WHATEVER THE INPUT: true; the input reads as it did. -/
def dateAddsSpec : ChangeSpec := { name := "dateAdds", fn := fun _ => fun
  | [d1, d2] => { results := [.lit (.bool true)], args := [d1, d2] }
  | _ => none }
def dateAddsRow : OpenClaim := { program := "ytgogccjfoclakaa", sum := "941830dd929ff41cc7fa92c5b9625da8277452a171af60e159f9690cf8591fa0", func := "annuity/annuitylaw04.DateAdds", spec := "dateAdds", unfollowed := true, recurses := true, apart := false }
def DateAddsSaid : Prop := dateAddsRow.holds Try.pinned (OpenSpec.ofChange dateAddsSpec)

/-- ITS FALSE NEIGHBOUR: 'it returns false'. Refute it at one input. -/
def dateAddsWrong : ChangeSpec := { name := "dateAdds", fn := fun _ => fun
  | [d1, d2] => { results := [.lit (.bool false)], args := [d1, d2] }
  | _ => none }
def DateAddsWrongFalsely : Prop := dateAddsRow.holds Try.pinned (OpenSpec.ofChange dateAddsWrong)

/-- 'annuitylaw04.DateBack': WHATEVER THE INPUT: true; the input reads as it did. -/
def dateBackSpec : ChangeSpec := { name := "dateBack", fn := fun _ => fun
  | [d] => { results := [.lit (.bool true)], args := [d] }
  | _ => none }
def dateBackRow : OpenClaim := { program := "ytgogccjfoclakaa", sum := "941830dd929ff41cc7fa92c5b9625da8277452a171af60e159f9690cf8591fa0", func := "annuity/annuitylaw04.DateBack", spec := "dateBack", unfollowed := true, recurses := true, apart := false }
def DateBackSaid : Prop := dateBackRow.holds Try.pinned (OpenSpec.ofChange dateBackSpec)

/-- ITS FALSE NEIGHBOUR: 'it returns false'. Refute it at one input. -/
def dateBackWrong : ChangeSpec := { name := "dateBack", fn := fun _ => fun
  | [d] => { results := [.lit (.bool false)], args := [d] }
  | _ => none }
def DateBackWrongFalsely : Prop := dateBackRow.holds Try.pinned (OpenSpec.ofChange dateBackWrong)

/-- 'annuitylaw04.DateOrder': WHATEVER THE INPUT: true; the input reads as it did. -/
def dateOrderSpec : ChangeSpec := { name := "dateOrder", fn := fun _ => fun
  | [d1, d2, d3] => { results := [.lit (.bool true)], args := [d1, d2, d3] }
  | _ => none }
def dateOrderRow : OpenClaim := { program := "ytgogccjfoclakaa", sum := "941830dd929ff41cc7fa92c5b9625da8277452a171af60e159f9690cf8591fa0", func := "annuity/annuitylaw04.DateOrder", spec := "dateOrder", unfollowed := true, recurses := true, apart := false }
def DateOrderSaid : Prop := dateOrderRow.holds Try.pinned (OpenSpec.ofChange dateOrderSpec)

/-- ITS FALSE NEIGHBOUR: 'it returns false'. Refute it at one input. -/
def dateOrderWrong : ChangeSpec := { name := "dateOrder", fn := fun _ => fun
  | [d1, d2, d3] => { results := [.lit (.bool false)], args := [d1, d2, d3] }
  | _ => none }
def DateOrderWrongFalsely : Prop := dateOrderRow.holds Try.pinned (OpenSpec.ofChange dateOrderWrong)

/-- 'annuitylaw04.DateCivil': WHATEVER THE INPUT: true; the input reads as it did. -/
def dateCivilSpec : ChangeSpec := { name := "dateCivil", fn := fun _ => fun
  | [d1, d2] => { results := [.lit (.bool true)], args := [d1, d2] }
  | _ => none }
def dateCivilRow : OpenClaim := { program := "ytgogccjfoclakaa", sum := "941830dd929ff41cc7fa92c5b9625da8277452a171af60e159f9690cf8591fa0", func := "annuity/annuitylaw04.DateCivil", spec := "dateCivil", unfollowed := true, recurses := true, apart := false }
def DateCivilSaid : Prop := dateCivilRow.holds Try.pinned (OpenSpec.ofChange dateCivilSpec)

/-- ITS FALSE NEIGHBOUR: 'it returns false'. Refute it at one input. -/
def dateCivilWrong : ChangeSpec := { name := "dateCivil", fn := fun _ => fun
  | [d1, d2] => { results := [.lit (.bool false)], args := [d1, d2] }
  | _ => none }
def DateCivilWrongFalsely : Prop := dateCivilRow.holds Try.pinned (OpenSpec.ofChange dateCivilWrong)

/-- 'annuitylaw04.DateMonths': WHATEVER THE INPUT: true; the input reads as it did. -/
def dateMonthsSpec : ChangeSpec := { name := "dateMonths", fn := fun _ => fun
  | [d1, d2] => { results := [.lit (.bool true)], args := [d1, d2] }
  | _ => none }
def dateMonthsRow : OpenClaim := { program := "ytgogccjfoclakaa", sum := "941830dd929ff41cc7fa92c5b9625da8277452a171af60e159f9690cf8591fa0", func := "annuity/annuitylaw04.DateMonths", spec := "dateMonths", unfollowed := true, recurses := true, apart := false }
def DateMonthsSaid : Prop := dateMonthsRow.holds Try.pinned (OpenSpec.ofChange dateMonthsSpec)

/-- ITS FALSE NEIGHBOUR: 'it returns false'. Refute it at one input. -/
def dateMonthsWrong : ChangeSpec := { name := "dateMonths", fn := fun _ => fun
  | [d1, d2] => { results := [.lit (.bool false)], args := [d1, d2] }
  | _ => none }
def DateMonthsWrongFalsely : Prop := dateMonthsRow.holds Try.pinned (OpenSpec.ofChange dateMonthsWrong)

/-- 'annuitylaw05.DueMonths': WHATEVER THE INPUT: true; the input reads as it did. -/
def dueMonthsSpec : ChangeSpec := { name := "dueMonths", fn := fun _ => fun
  | [d1, d2] => { results := [.lit (.bool true)], args := [d1, d2] }
  | _ => none }
def dueMonthsRow : OpenClaim := { program := "ytgogccjfoclakaa", sum := "941830dd929ff41cc7fa92c5b9625da8277452a171af60e159f9690cf8591fa0", func := "annuity/annuitylaw05.DueMonths", spec := "dueMonths", unfollowed := true, recurses := true, apart := false }
def DueMonthsSaid : Prop := dueMonthsRow.holds Try.pinned (OpenSpec.ofChange dueMonthsSpec)

/-- ITS FALSE NEIGHBOUR: 'it returns false'. Refute it at one input. -/
def dueMonthsWrong : ChangeSpec := { name := "dueMonths", fn := fun _ => fun
  | [d1, d2] => { results := [.lit (.bool false)], args := [d1, d2] }
  | _ => none }
def DueMonthsWrongFalsely : Prop := dueMonthsRow.holds Try.pinned (OpenSpec.ofChange dueMonthsWrong)

/-- 'annuitylaw05.DueTells': WHATEVER THE INPUT: true; the input reads as it did. -/
def dueTellsSpec : ChangeSpec := { name := "dueTells", fn := fun _ => fun
  | [d1, d2, d3] => { results := [.lit (.bool true)], args := [d1, d2, d3] }
  | _ => none }
def dueTellsRow : OpenClaim := { program := "ytgogccjfoclakaa", sum := "941830dd929ff41cc7fa92c5b9625da8277452a171af60e159f9690cf8591fa0", func := "annuity/annuitylaw05.DueTells", spec := "dueTells", unfollowed := true, recurses := true, apart := false }
def DueTellsSaid : Prop := dueTellsRow.holds Try.pinned (OpenSpec.ofChange dueTellsSpec)

/-- ITS FALSE NEIGHBOUR: 'it returns false'. Refute it at one input. -/
def dueTellsWrong : ChangeSpec := { name := "dueTells", fn := fun _ => fun
  | [d1, d2, d3] => { results := [.lit (.bool false)], args := [d1, d2, d3] }
  | _ => none }
def DueTellsWrongFalsely : Prop := dueTellsRow.holds Try.pinned (OpenSpec.ofChange dueTellsWrong)

/-- 'annuitylaw05.DueParts': WHATEVER THE INPUT: true; the input reads as it did. -/
def duePartsSpec : ChangeSpec := { name := "dueParts", fn := fun _ => fun
  | [d1, d2, d3] => { results := [.lit (.bool true)], args := [d1, d2, d3] }
  | _ => none }
def duePartsRow : OpenClaim := { program := "ytgogccjfoclakaa", sum := "941830dd929ff41cc7fa92c5b9625da8277452a171af60e159f9690cf8591fa0", func := "annuity/annuitylaw05.DueParts", spec := "dueParts", unfollowed := true, recurses := true, apart := false }
def DuePartsSaid : Prop := duePartsRow.holds Try.pinned (OpenSpec.ofChange duePartsSpec)

/-- ITS FALSE NEIGHBOUR: 'it returns false'. Refute it at one input. -/
def duePartsWrong : ChangeSpec := { name := "dueParts", fn := fun _ => fun
  | [d1, d2, d3] => { results := [.lit (.bool false)], args := [d1, d2, d3] }
  | _ => none }
def DuePartsWrongFalsely : Prop := duePartsRow.holds Try.pinned (OpenSpec.ofChange duePartsWrong)

/-- 'annuitylaw05.DueWhole': WHATEVER THE INPUT: true; the input reads as it did. -/
def dueWholeSpec : ChangeSpec := { name := "dueWhole", fn := fun _ => fun
  | [d1, d2, d3] => { results := [.lit (.bool true)], args := [d1, d2, d3] }
  | _ => none }
def dueWholeRow : OpenClaim := { program := "ytgogccjfoclakaa", sum := "941830dd929ff41cc7fa92c5b9625da8277452a171af60e159f9690cf8591fa0", func := "annuity/annuitylaw05.DueWhole", spec := "dueWhole", unfollowed := true, recurses := true, apart := false }
def DueWholeSaid : Prop := dueWholeRow.holds Try.pinned (OpenSpec.ofChange dueWholeSpec)

/-- ITS FALSE NEIGHBOUR: 'it returns false'. Refute it at one input. -/
def dueWholeWrong : ChangeSpec := { name := "dueWhole", fn := fun _ => fun
  | [d1, d2, d3] => { results := [.lit (.bool false)], args := [d1, d2, d3] }
  | _ => none }
def DueWholeWrongFalsely : Prop := dueWholeRow.holds Try.pinned (OpenSpec.ofChange dueWholeWrong)

/-- 'annuitylaw05.DueYears': WHATEVER THE INPUT: true; the input reads as it did. -/
def dueYearsSpec : ChangeSpec := { name := "dueYears", fn := fun _ => fun
  | [d1, d2, d3] => { results := [.lit (.bool true)], args := [d1, d2, d3] }
  | _ => none }
def dueYearsRow : OpenClaim := { program := "ytgogccjfoclakaa", sum := "941830dd929ff41cc7fa92c5b9625da8277452a171af60e159f9690cf8591fa0", func := "annuity/annuitylaw05.DueYears", spec := "dueYears", unfollowed := true, recurses := true, apart := false }
def DueYearsSaid : Prop := dueYearsRow.holds Try.pinned (OpenSpec.ofChange dueYearsSpec)

/-- ITS FALSE NEIGHBOUR: 'it returns false'. Refute it at one input. -/
def dueYearsWrong : ChangeSpec := { name := "dueYears", fn := fun _ => fun
  | [d1, d2, d3] => { results := [.lit (.bool false)], args := [d1, d2, d3] }
  | _ => none }
def DueYearsWrongFalsely : Prop := dueYearsRow.holds Try.pinned (OpenSpec.ofChange dueYearsWrong)

/- THE SECOND FORM. 'bulk': how many values and letters a reading holds, each counted each time it is reached (what is shared counts as often as it is met; a slice's spare places count too). A statement '..UptoSaid' is the law's where the arguments, and the package variables that the reading takes, are together of bulk at most 1048576: NARROWER than '..Said'. Prove '..Said' where nothing that the law and all that it calls make is longer than what came in: it says more and counts as full. Else prove '..UptoSaid'. A law counts once. -/
mutual
def uptoBulk {H : Type} : DataW H → Nat
  | .lit (.string bytes) => bytes.length + 1
  | .lit _ => 1
  | .nil => 1
  | .ptr d => uptoBulk d + 1
  | .slice elems spare => uptoBulkAll elems + uptoBulkAll spare + 1
  | .agg parts => uptoBulkAll parts + 1
  | .iface _ d => uptoBulk d + 1
  | .map entries => uptoBulkEntries entries + 1
  | .held _ => 1
def uptoBulkAll {H : Type} : List (DataW H) → Nat
  | [] => 0
  | d :: r => uptoBulk d + uptoBulkAll r
def uptoBulkEntries {H : Type} : List (Lit × DataW H) → Nat
  | [] => 0
  | x :: r => uptoBulkEntry x + uptoBulkEntries r
def uptoBulkEntry {H : Type} : Lit × DataW H → Nat
  | (.string bytes, d) => bytes.length + uptoBulk d + 1
  | (_, d) => uptoBulk d + 1
 end
def uptoSmall : (H : Type) → List (DataW H) → Bool := fun _ ds => decide (uptoBulkAll ds ≤ 1048576)
def OpenSpec.upto (s : _root_.Go.ChangeSpec) : _root_.Go.OpenSpec := { _root_.Go.OpenSpec.ofChange s with cond := some uptoSmall }

/-- 'annuitylaw04.DateNumbers', WHERE WHAT IT READS IS OF BULK AT MOST 1048576: true; the input reads as it did. -/
def dateNumbersUptoRow : OpenClaim := { program := "ytgogccjfoclakaa", sum := "941830dd929ff41cc7fa92c5b9625da8277452a171af60e159f9690cf8591fa0", func := "annuity/annuitylaw04.DateNumbers", spec := "dateNumbers", unfollowed := true, recurses := true, apart := false, narrowed := true }
def DateNumbersUptoSaid : Prop := dateNumbersUptoRow.holds Try.pinned (OpenSpec.upto dateNumbersSpec)

/-- 'annuitylaw04.DateAdds', WHERE WHAT IT READS IS OF BULK AT MOST 1048576: true; the input reads as it did. -/
def dateAddsUptoRow : OpenClaim := { program := "ytgogccjfoclakaa", sum := "941830dd929ff41cc7fa92c5b9625da8277452a171af60e159f9690cf8591fa0", func := "annuity/annuitylaw04.DateAdds", spec := "dateAdds", unfollowed := true, recurses := true, apart := false, narrowed := true }
def DateAddsUptoSaid : Prop := dateAddsUptoRow.holds Try.pinned (OpenSpec.upto dateAddsSpec)

/-- 'annuitylaw04.DateBack', WHERE WHAT IT READS IS OF BULK AT MOST 1048576: true; the input reads as it did. -/
def dateBackUptoRow : OpenClaim := { program := "ytgogccjfoclakaa", sum := "941830dd929ff41cc7fa92c5b9625da8277452a171af60e159f9690cf8591fa0", func := "annuity/annuitylaw04.DateBack", spec := "dateBack", unfollowed := true, recurses := true, apart := false, narrowed := true }
def DateBackUptoSaid : Prop := dateBackUptoRow.holds Try.pinned (OpenSpec.upto dateBackSpec)

/-- 'annuitylaw04.DateOrder', WHERE WHAT IT READS IS OF BULK AT MOST 1048576: true; the input reads as it did. -/
def dateOrderUptoRow : OpenClaim := { program := "ytgogccjfoclakaa", sum := "941830dd929ff41cc7fa92c5b9625da8277452a171af60e159f9690cf8591fa0", func := "annuity/annuitylaw04.DateOrder", spec := "dateOrder", unfollowed := true, recurses := true, apart := false, narrowed := true }
def DateOrderUptoSaid : Prop := dateOrderUptoRow.holds Try.pinned (OpenSpec.upto dateOrderSpec)

/-- 'annuitylaw04.DateCivil', WHERE WHAT IT READS IS OF BULK AT MOST 1048576: true; the input reads as it did. -/
def dateCivilUptoRow : OpenClaim := { program := "ytgogccjfoclakaa", sum := "941830dd929ff41cc7fa92c5b9625da8277452a171af60e159f9690cf8591fa0", func := "annuity/annuitylaw04.DateCivil", spec := "dateCivil", unfollowed := true, recurses := true, apart := false, narrowed := true }
def DateCivilUptoSaid : Prop := dateCivilUptoRow.holds Try.pinned (OpenSpec.upto dateCivilSpec)

/-- 'annuitylaw04.DateMonths', WHERE WHAT IT READS IS OF BULK AT MOST 1048576: true; the input reads as it did. -/
def dateMonthsUptoRow : OpenClaim := { program := "ytgogccjfoclakaa", sum := "941830dd929ff41cc7fa92c5b9625da8277452a171af60e159f9690cf8591fa0", func := "annuity/annuitylaw04.DateMonths", spec := "dateMonths", unfollowed := true, recurses := true, apart := false, narrowed := true }
def DateMonthsUptoSaid : Prop := dateMonthsUptoRow.holds Try.pinned (OpenSpec.upto dateMonthsSpec)

/-- 'annuitylaw05.DueMonths', WHERE WHAT IT READS IS OF BULK AT MOST 1048576: true; the input reads as it did. -/
def dueMonthsUptoRow : OpenClaim := { program := "ytgogccjfoclakaa", sum := "941830dd929ff41cc7fa92c5b9625da8277452a171af60e159f9690cf8591fa0", func := "annuity/annuitylaw05.DueMonths", spec := "dueMonths", unfollowed := true, recurses := true, apart := false, narrowed := true }
def DueMonthsUptoSaid : Prop := dueMonthsUptoRow.holds Try.pinned (OpenSpec.upto dueMonthsSpec)

/-- 'annuitylaw05.DueTells', WHERE WHAT IT READS IS OF BULK AT MOST 1048576: true; the input reads as it did. -/
def dueTellsUptoRow : OpenClaim := { program := "ytgogccjfoclakaa", sum := "941830dd929ff41cc7fa92c5b9625da8277452a171af60e159f9690cf8591fa0", func := "annuity/annuitylaw05.DueTells", spec := "dueTells", unfollowed := true, recurses := true, apart := false, narrowed := true }
def DueTellsUptoSaid : Prop := dueTellsUptoRow.holds Try.pinned (OpenSpec.upto dueTellsSpec)

/-- 'annuitylaw05.DueParts', WHERE WHAT IT READS IS OF BULK AT MOST 1048576: true; the input reads as it did. -/
def duePartsUptoRow : OpenClaim := { program := "ytgogccjfoclakaa", sum := "941830dd929ff41cc7fa92c5b9625da8277452a171af60e159f9690cf8591fa0", func := "annuity/annuitylaw05.DueParts", spec := "dueParts", unfollowed := true, recurses := true, apart := false, narrowed := true }
def DuePartsUptoSaid : Prop := duePartsUptoRow.holds Try.pinned (OpenSpec.upto duePartsSpec)

/-- 'annuitylaw05.DueWhole', WHERE WHAT IT READS IS OF BULK AT MOST 1048576: true; the input reads as it did. -/
def dueWholeUptoRow : OpenClaim := { program := "ytgogccjfoclakaa", sum := "941830dd929ff41cc7fa92c5b9625da8277452a171af60e159f9690cf8591fa0", func := "annuity/annuitylaw05.DueWhole", spec := "dueWhole", unfollowed := true, recurses := true, apart := false, narrowed := true }
def DueWholeUptoSaid : Prop := dueWholeUptoRow.holds Try.pinned (OpenSpec.upto dueWholeSpec)

/-- 'annuitylaw05.DueYears', WHERE WHAT IT READS IS OF BULK AT MOST 1048576: true; the input reads as it did. -/
def dueYearsUptoRow : OpenClaim := { program := "ytgogccjfoclakaa", sum := "941830dd929ff41cc7fa92c5b9625da8277452a171af60e159f9690cf8591fa0", func := "annuity/annuitylaw05.DueYears", spec := "dueYears", unfollowed := true, recurses := true, apart := false, narrowed := true }
def DueYearsUptoSaid : Prop := dueYearsUptoRow.holds Try.pinned (OpenSpec.upto dueYearsSpec)

end Rows
end Go.Proofs.Ytgogccjfoclakaa
