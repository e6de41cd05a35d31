/-
  No cell of these rows narrows 'for every input' (looked for: loops, veiled, ifaces, maps, wideKeys, modest, calm, conditions, laid).
  DERIVED. THE GIVEN ROWS OF THIS SEAT. 5 by the template 'for every input the law returns true; each argument reads behind the call as it read before'; 0 by the template 'total and deterministic' (their statements: YtibjbgfphhmogaaTotals.lean).
  GIVEN WITH THE SEED: the statements are not yours to turn. If you find one false, say at which input.
  Laid BY PROGRAM, IN A SANDBOX (cutbox-rows.mjs): the forced cells as the released guide's own fill.sh prints them over the translation e24a3c46f8c36fbf… (all of the seat's roots in one cut). By AI agents, Wed Nov 11 2026. No macro, syntax, notation, axiom, sorry.
-/
import Derived.Test.YtibjbgfphhmogaaChecked
import GoSem.Claim
import GoSem.ClaimJoined
import GoSem.ClaimMapViews
import Derived.JoinedTies
import Derived.KernelRfl
namespace Go.Proofs.Ytibjbgfphhmogaa
/- THE CELL 'sum', in the pinned program and in every row, IS THE sha256 OF THE DUMP (.gsa) THAT YtibjbgfphhmogaaProg.lean LOADS. Nothing in Lean hashes anything: it is a label: what it is worth is what the hold of that sum in a sandbox is worth. -/
noncomputable def Try.pinned : Pinned := { name := "ytibjbgfphhmogaa", sum := "e24a3c46f8c36fbf1572b9d897a00b401765d079143689355bfb58d6acb01f7b", checked := Try.checked }
namespace Rows
def none {H : Type} : Left H := { results := [], args := [] }

/-- 'annuitylaw19.BillIssues': WHATEVER THE INPUT: true; the input reads as it did. -/
def billIssuesSpec : ChangeSpec := { name := "billIssues", fn := fun _ => fun
  | [d1, d2, d3] => { results := [.lit (.bool true)], args := [d1, d2, d3] }
  | _ => none }
def billIssuesRow : OpenClaim := { program := "ytibjbgfphhmogaa", sum := "e24a3c46f8c36fbf1572b9d897a00b401765d079143689355bfb58d6acb01f7b", func := "annuity/annuitylaw19.BillIssues", spec := "billIssues", unfollowed := true, recurses := true, apart := false }
def BillIssuesSaid : Prop := billIssuesRow.holds Try.pinned (OpenSpec.ofChange billIssuesSpec)

/-- ITS FALSE NEIGHBOUR: 'it returns false'. Refute it at one input. -/
def billIssuesWrong : ChangeSpec := { name := "billIssues", fn := fun _ => fun
  | [d1, d2, d3] => { results := [.lit (.bool false)], args := [d1, d2, d3] }
  | _ => none }
def BillIssuesWrongFalsely : Prop := billIssuesRow.holds Try.pinned (OpenSpec.ofChange billIssuesWrong)

/-- 'annuitylaw19.BillCredits': WHATEVER THE INPUT: true; the input reads as it did. -/
def billCreditsSpec : ChangeSpec := { name := "billCredits", fn := fun _ => fun
  | [d1, d2, d3] => { results := [.lit (.bool true)], args := [d1, d2, d3] }
  | _ => none }
def billCreditsRow : OpenClaim := { program := "ytibjbgfphhmogaa", sum := "e24a3c46f8c36fbf1572b9d897a00b401765d079143689355bfb58d6acb01f7b", func := "annuity/annuitylaw19.BillCredits", spec := "billCredits", unfollowed := true, recurses := true, apart := false }
def BillCreditsSaid : Prop := billCreditsRow.holds Try.pinned (OpenSpec.ofChange billCreditsSpec)

/-- ITS FALSE NEIGHBOUR: 'it returns false'. Refute it at one input. -/
def billCreditsWrong : ChangeSpec := { name := "billCredits", fn := fun _ => fun
  | [d1, d2, d3] => { results := [.lit (.bool false)], args := [d1, d2, d3] }
  | _ => none }
def BillCreditsWrongFalsely : Prop := billCreditsRow.holds Try.pinned (OpenSpec.ofChange billCreditsWrong)

/-- 'annuitylaw19.BillAll': WHATEVER THE INPUT: true; the input reads as it did. -/
def billAllSpec : ChangeSpec := { name := "billAll", fn := fun _ => fun
  | [d1, d2, d3] => { results := [.lit (.bool true)], args := [d1, d2, d3] }
  | _ => none }
def billAllRow : OpenClaim := { program := "ytibjbgfphhmogaa", sum := "e24a3c46f8c36fbf1572b9d897a00b401765d079143689355bfb58d6acb01f7b", func := "annuity/annuitylaw19.BillAll", spec := "billAll", unfollowed := true, recurses := true, apart := false }
def BillAllSaid : Prop := billAllRow.holds Try.pinned (OpenSpec.ofChange billAllSpec)

/-- ITS FALSE NEIGHBOUR: 'it returns false'. Refute it at one input. -/
def billAllWrong : ChangeSpec := { name := "billAll", fn := fun _ => fun
  | [d1, d2, d3] => { results := [.lit (.bool false)], args := [d1, d2, d3] }
  | _ => none }
def BillAllWrongFalsely : Prop := billAllRow.holds Try.pinned (OpenSpec.ofChange billAllWrong)

/-- 'annuitylaw19.BillTells': WHATEVER THE INPUT: true; the input reads as it did. -/
def billTellsSpec : ChangeSpec := { name := "billTells", fn := fun _ => fun
  | [d1, d2, d3] => { results := [.lit (.bool true)], args := [d1, d2, d3] }
  | _ => none }
def billTellsRow : OpenClaim := { program := "ytibjbgfphhmogaa", sum := "e24a3c46f8c36fbf1572b9d897a00b401765d079143689355bfb58d6acb01f7b", func := "annuity/annuitylaw19.BillTells", spec := "billTells", unfollowed := true, recurses := true, apart := false }
def BillTellsSaid : Prop := billTellsRow.holds Try.pinned (OpenSpec.ofChange billTellsSpec)

/-- ITS FALSE NEIGHBOUR: 'it returns false'. Refute it at one input. -/
def billTellsWrong : ChangeSpec := { name := "billTells", fn := fun _ => fun
  | [d1, d2, d3] => { results := [.lit (.bool false)], args := [d1, d2, d3] }
  | _ => none }
def BillTellsWrongFalsely : Prop := billTellsRow.holds Try.pinned (OpenSpec.ofChange billTellsWrong)

/-- 'annuitylaw19.BillAhead': WHATEVER THE INPUT: true; the input reads as it did. -/
def billAheadSpec : ChangeSpec := { name := "billAhead", fn := fun _ => fun
  | [d1, d2, d3] => { results := [.lit (.bool true)], args := [d1, d2, d3] }
  | _ => none }
def billAheadRow : OpenClaim := { program := "ytibjbgfphhmogaa", sum := "e24a3c46f8c36fbf1572b9d897a00b401765d079143689355bfb58d6acb01f7b", func := "annuity/annuitylaw19.BillAhead", spec := "billAhead", unfollowed := true, recurses := true, apart := false }
def BillAheadSaid : Prop := billAheadRow.holds Try.pinned (OpenSpec.ofChange billAheadSpec)

/-- ITS FALSE NEIGHBOUR: 'it returns false'. Refute it at one input. -/
def billAheadWrong : ChangeSpec := { name := "billAhead", fn := fun _ => fun
  | [d1, d2, d3] => { results := [.lit (.bool false)], args := [d1, d2, d3] }
  | _ => none }
def BillAheadWrongFalsely : Prop := billAheadRow.holds Try.pinned (OpenSpec.ofChange billAheadWrong)

/- THE SECOND FORM. 'bulk': how many values and letters a reading holds, each counted each time it is reached (what is shared counts as often as it is met; a slice's spare places count too). A statement '..UptoSaid' is the law's where the arguments, and the package variables that the reading takes, are together of bulk at most 1048576: NARROWER than '..Said'. Prove '..Said' where nothing that the law and all that it calls make is longer than what came in: it says more and counts as full. Else prove '..UptoSaid'. A law counts once. -/
mutual
def uptoBulk {H : Type} : DataW H → Nat
  | .lit (.string bytes) => bytes.length + 1
  | .lit _ => 1
  | .nil => 1
  | .ptr d => uptoBulk d + 1
  | .slice elems spare => uptoBulkAll elems + uptoBulkAll spare + 1
  | .agg parts => uptoBulkAll parts + 1
  | .iface _ d => uptoBulk d + 1
  | .map entries => uptoBulkEntries entries + 1
  | .held _ => 1
def uptoBulkAll {H : Type} : List (DataW H) → Nat
  | [] => 0
  | d :: r => uptoBulk d + uptoBulkAll r
def uptoBulkEntries {H : Type} : List (Lit × DataW H) → Nat
  | [] => 0
  | x :: r => uptoBulkEntry x + uptoBulkEntries r
def uptoBulkEntry {H : Type} : Lit × DataW H → Nat
  | (.string bytes, d) => bytes.length + uptoBulk d + 1
  | (_, d) => uptoBulk d + 1
 end
def uptoSmall : (H : Type) → List (DataW H) → Bool := fun _ ds => decide (uptoBulkAll ds ≤ 1048576)
def OpenSpec.upto (s : _root_.Go.ChangeSpec) : _root_.Go.OpenSpec := { _root_.Go.OpenSpec.ofChange s with cond := some uptoSmall }

/-- 'annuitylaw19.BillIssues', WHERE WHAT IT READS IS OF BULK AT MOST 1048576: true; the input reads as it did. -/
def billIssuesUptoRow : OpenClaim := { program := "ytibjbgfphhmogaa", sum := "e24a3c46f8c36fbf1572b9d897a00b401765d079143689355bfb58d6acb01f7b", func := "annuity/annuitylaw19.BillIssues", spec := "billIssues", unfollowed := true, recurses := true, apart := false, narrowed := true }
def BillIssuesUptoSaid : Prop := billIssuesUptoRow.holds Try.pinned (OpenSpec.upto billIssuesSpec)

/-- 'annuitylaw19.BillCredits', WHERE WHAT IT READS IS OF BULK AT MOST 1048576: true; the input reads as it did. -/
def billCreditsUptoRow : OpenClaim := { program := "ytibjbgfphhmogaa", sum := "e24a3c46f8c36fbf1572b9d897a00b401765d079143689355bfb58d6acb01f7b", func := "annuity/annuitylaw19.BillCredits", spec := "billCredits", unfollowed := true, recurses := true, apart := false, narrowed := true }
def BillCreditsUptoSaid : Prop := billCreditsUptoRow.holds Try.pinned (OpenSpec.upto billCreditsSpec)

/-- 'annuitylaw19.BillAll', WHERE WHAT IT READS IS OF BULK AT MOST 1048576: true; the input reads as it did. -/
def billAllUptoRow : OpenClaim := { program := "ytibjbgfphhmogaa", sum := "e24a3c46f8c36fbf1572b9d897a00b401765d079143689355bfb58d6acb01f7b", func := "annuity/annuitylaw19.BillAll", spec := "billAll", unfollowed := true, recurses := true, apart := false, narrowed := true }
def BillAllUptoSaid : Prop := billAllUptoRow.holds Try.pinned (OpenSpec.upto billAllSpec)

/-- 'annuitylaw19.BillTells', WHERE WHAT IT READS IS OF BULK AT MOST 1048576: true; the input reads as it did. -/
def billTellsUptoRow : OpenClaim := { program := "ytibjbgfphhmogaa", sum := "e24a3c46f8c36fbf1572b9d897a00b401765d079143689355bfb58d6acb01f7b", func := "annuity/annuitylaw19.BillTells", spec := "billTells", unfollowed := true, recurses := true, apart := false, narrowed := true }
def BillTellsUptoSaid : Prop := billTellsUptoRow.holds Try.pinned (OpenSpec.upto billTellsSpec)

/-- 'annuitylaw19.BillAhead', WHERE WHAT IT READS IS OF BULK AT MOST 1048576: true; the input reads as it did. -/
def billAheadUptoRow : OpenClaim := { program := "ytibjbgfphhmogaa", sum := "e24a3c46f8c36fbf1572b9d897a00b401765d079143689355bfb58d6acb01f7b", func := "annuity/annuitylaw19.BillAhead", spec := "billAhead", unfollowed := true, recurses := true, apart := false, narrowed := true }
def BillAheadUptoSaid : Prop := billAheadUptoRow.holds Try.pinned (OpenSpec.upto billAheadSpec)

end Rows
end Go.Proofs.Ytibjbgfphhmogaa
