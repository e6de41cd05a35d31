/-
  No cell of these rows narrows 'for every input' (looked for: loops, veiled, ifaces, maps, wideKeys, modest, calm, conditions, laid).
  DERIVED. THE GIVEN ROWS OF THIS SEAT. 5 by the template 'for every input the law returns true; each argument reads behind the call as it read before'; 0 by the template 'total and deterministic' (their statements: YtmbenmiakjhgeaaTotals.lean).
  GIVEN WITH THE SEED: the statements are not yours to turn. If you find one false, say at which input.
  Laid BY PROGRAM, IN A SANDBOX (cutbox-rows.mjs): the forced cells as the released guide's own fill.sh prints them over the translation 2271002e49b4bae2… (all of the seat's roots in one cut). By AI agents, Wed Nov 11 2026. No macro, syntax, notation, axiom, sorry.
-/
import Derived.Test.YtmbenmiakjhgeaaChecked
import GoSem.Claim
import GoSem.ClaimJoined
import GoSem.ClaimMapViews
import Derived.JoinedTies
import Derived.KernelRfl
namespace Go.Proofs.Ytmbenmiakjhgeaa
/- THE CELL 'sum', in the pinned program and in every row, IS THE sha256 OF THE DUMP (.gsa) THAT YtmbenmiakjhgeaaProg.lean LOADS. Nothing in Lean hashes anything: it is a label: what it is worth is what the hold of that sum in a sandbox is worth. -/
noncomputable def Try.pinned : Pinned := { name := "ytmbenmiakjhgeaa", sum := "2271002e49b4bae2bf8eecce693da792a5b0eda282af6a3b61a22b38c3f018b7", checked := Try.checked }
namespace Rows
def none {H : Type} : Left H := { results := [], args := [] }

/-- 'annuitylaw14.LoanTurns': WHATEVER THE INPUT: true; the input reads as it did. -/
def loanTurnsSpec : ChangeSpec := { name := "loanTurns", fn := fun _ => fun
  | [d1, d2, d3] => { results := [.lit (.bool true)], args := [d1, d2, d3] }
  | _ => none }
def loanTurnsRow : OpenClaim := { program := "ytmbenmiakjhgeaa", sum := "2271002e49b4bae2bf8eecce693da792a5b0eda282af6a3b61a22b38c3f018b7", func := "annuity/annuitylaw14.LoanTurns", spec := "loanTurns", unfollowed := true, recurses := true, apart := false }
def LoanTurnsSaid : Prop := loanTurnsRow.holds Try.pinned (OpenSpec.ofChange loanTurnsSpec)

/-- ITS FALSE NEIGHBOUR: 'it returns false'. Refute it at one input. -/
def loanTurnsWrong : ChangeSpec := { name := "loanTurns", fn := fun _ => fun
  | [d1, d2, d3] => { results := [.lit (.bool false)], args := [d1, d2, d3] }
  | _ => none }
def LoanTurnsWrongFalsely : Prop := loanTurnsRow.holds Try.pinned (OpenSpec.ofChange loanTurnsWrong)

/-- 'annuitylaw14.LoanOwes': WHATEVER THE INPUT: true; the input reads as it did. -/
def loanOwesSpec : ChangeSpec := { name := "loanOwes", fn := fun _ => fun
  | [d1, d2, d3] => { results := [.lit (.bool true)], args := [d1, d2, d3] }
  | _ => none }
def loanOwesRow : OpenClaim := { program := "ytmbenmiakjhgeaa", sum := "2271002e49b4bae2bf8eecce693da792a5b0eda282af6a3b61a22b38c3f018b7", func := "annuity/annuitylaw14.LoanOwes", spec := "loanOwes", unfollowed := true, recurses := true, apart := false }
def LoanOwesSaid : Prop := loanOwesRow.holds Try.pinned (OpenSpec.ofChange loanOwesSpec)

/-- ITS FALSE NEIGHBOUR: 'it returns false'. Refute it at one input. -/
def loanOwesWrong : ChangeSpec := { name := "loanOwes", fn := fun _ => fun
  | [d1, d2, d3] => { results := [.lit (.bool false)], args := [d1, d2, d3] }
  | _ => none }
def LoanOwesWrongFalsely : Prop := loanOwesRow.holds Try.pinned (OpenSpec.ofChange loanOwesWrong)

/-- 'annuitylaw14.LoanSubsidy': WHATEVER THE INPUT: true; the input reads as it did. -/
def loanSubsidySpec : ChangeSpec := { name := "loanSubsidy", fn := fun _ => fun
  | [d1, d2, d3] => { results := [.lit (.bool true)], args := [d1, d2, d3] }
  | _ => none }
def loanSubsidyRow : OpenClaim := { program := "ytmbenmiakjhgeaa", sum := "2271002e49b4bae2bf8eecce693da792a5b0eda282af6a3b61a22b38c3f018b7", func := "annuity/annuitylaw14.LoanSubsidy", spec := "loanSubsidy", unfollowed := true, recurses := true, named := ["math/bits.divideError", "math/bits.overflowError"], apart := false }
def LoanSubsidySaid : Prop := loanSubsidyRow.holds Try.pinned (OpenSpec.ofChange loanSubsidySpec)

/-- ITS FALSE NEIGHBOUR: 'it returns false'. Refute it at one input. -/
def loanSubsidyWrong : ChangeSpec := { name := "loanSubsidy", fn := fun _ => fun
  | [d1, d2, d3] => { results := [.lit (.bool false)], args := [d1, d2, d3] }
  | _ => none }
def LoanSubsidyWrongFalsely : Prop := loanSubsidyRow.holds Try.pinned (OpenSpec.ofChange loanSubsidyWrong)

/-- 'annuitylaw14.LoanDays': WHATEVER THE INPUT: true; the input reads as it did. -/
def loanDaysSpec : ChangeSpec := { name := "loanDays", fn := fun _ => fun
  | [d1, d2] => { results := [.lit (.bool true)], args := [d1, d2] }
  | _ => none }
def loanDaysRow : OpenClaim := { program := "ytmbenmiakjhgeaa", sum := "2271002e49b4bae2bf8eecce693da792a5b0eda282af6a3b61a22b38c3f018b7", func := "annuity/annuitylaw14.LoanDays", spec := "loanDays", unfollowed := true, recurses := true, named := ["math/bits.divideError", "math/bits.overflowError"], apart := false }
def LoanDaysSaid : Prop := loanDaysRow.holds Try.pinned (OpenSpec.ofChange loanDaysSpec)

/-- ITS FALSE NEIGHBOUR: 'it returns false'. Refute it at one input. -/
def loanDaysWrong : ChangeSpec := { name := "loanDays", fn := fun _ => fun
  | [d1, d2] => { results := [.lit (.bool false)], args := [d1, d2] }
  | _ => none }
def LoanDaysWrongFalsely : Prop := loanDaysRow.holds Try.pinned (OpenSpec.ofChange loanDaysWrong)

/-- 'annuitylaw14.LoanTells': WHATEVER THE INPUT: true; the input reads as it did. -/
def loanTellsSpec : ChangeSpec := { name := "loanTells", fn := fun _ => fun
  | [d1, d2] => { results := [.lit (.bool true)], args := [d1, d2] }
  | _ => none }
def loanTellsRow : OpenClaim := { program := "ytmbenmiakjhgeaa", sum := "2271002e49b4bae2bf8eecce693da792a5b0eda282af6a3b61a22b38c3f018b7", func := "annuity/annuitylaw14.LoanTells", spec := "loanTells", unfollowed := true, recurses := true, named := ["math/bits.divideError", "math/bits.overflowError"], apart := false }
def LoanTellsSaid : Prop := loanTellsRow.holds Try.pinned (OpenSpec.ofChange loanTellsSpec)

/-- ITS FALSE NEIGHBOUR: 'it returns false'. Refute it at one input. -/
def loanTellsWrong : ChangeSpec := { name := "loanTells", fn := fun _ => fun
  | [d1, d2] => { results := [.lit (.bool false)], args := [d1, d2] }
  | _ => none }
def LoanTellsWrongFalsely : Prop := loanTellsRow.holds Try.pinned (OpenSpec.ofChange loanTellsWrong)

/- THE SECOND FORM. 'bulk': how many values and letters a reading holds, each counted each time it is reached (what is shared counts as often as it is met; a slice's spare places count too). A statement '..UptoSaid' is the law's where the arguments, and the package variables that the reading takes, are together of bulk at most 1048576: NARROWER than '..Said'. Prove '..Said' where nothing that the law and all that it calls make is longer than what came in: it says more and counts as full. Else prove '..UptoSaid'. A law counts once. -/
mutual
def uptoBulk {H : Type} : DataW H → Nat
  | .lit (.string bytes) => bytes.length + 1
  | .lit _ => 1
  | .nil => 1
  | .ptr d => uptoBulk d + 1
  | .slice elems spare => uptoBulkAll elems + uptoBulkAll spare + 1
  | .agg parts => uptoBulkAll parts + 1
  | .iface _ d => uptoBulk d + 1
  | .map entries => uptoBulkEntries entries + 1
  | .held _ => 1
def uptoBulkAll {H : Type} : List (DataW H) → Nat
  | [] => 0
  | d :: r => uptoBulk d + uptoBulkAll r
def uptoBulkEntries {H : Type} : List (Lit × DataW H) → Nat
  | [] => 0
  | x :: r => uptoBulkEntry x + uptoBulkEntries r
def uptoBulkEntry {H : Type} : Lit × DataW H → Nat
  | (.string bytes, d) => bytes.length + uptoBulk d + 1
  | (_, d) => uptoBulk d + 1
 end
def uptoSmall : (H : Type) → List (DataW H) → Bool := fun _ ds => decide (uptoBulkAll ds ≤ 1048576)
def OpenSpec.upto (s : _root_.Go.ChangeSpec) : _root_.Go.OpenSpec := { _root_.Go.OpenSpec.ofChange s with cond := some uptoSmall }

/-- 'annuitylaw14.LoanTurns', WHERE WHAT IT READS IS OF BULK AT MOST 1048576: true; the input reads as it did. -/
def loanTurnsUptoRow : OpenClaim := { program := "ytmbenmiakjhgeaa", sum := "2271002e49b4bae2bf8eecce693da792a5b0eda282af6a3b61a22b38c3f018b7", func := "annuity/annuitylaw14.LoanTurns", spec := "loanTurns", unfollowed := true, recurses := true, apart := false, narrowed := true }
def LoanTurnsUptoSaid : Prop := loanTurnsUptoRow.holds Try.pinned (OpenSpec.upto loanTurnsSpec)

/-- 'annuitylaw14.LoanOwes', WHERE WHAT IT READS IS OF BULK AT MOST 1048576: true; the input reads as it did. -/
def loanOwesUptoRow : OpenClaim := { program := "ytmbenmiakjhgeaa", sum := "2271002e49b4bae2bf8eecce693da792a5b0eda282af6a3b61a22b38c3f018b7", func := "annuity/annuitylaw14.LoanOwes", spec := "loanOwes", unfollowed := true, recurses := true, apart := false, narrowed := true }
def LoanOwesUptoSaid : Prop := loanOwesUptoRow.holds Try.pinned (OpenSpec.upto loanOwesSpec)

/-- 'annuitylaw14.LoanSubsidy', WHERE WHAT IT READS IS OF BULK AT MOST 1048576: true; the input reads as it did. -/
def loanSubsidyUptoRow : OpenClaim := { program := "ytmbenmiakjhgeaa", sum := "2271002e49b4bae2bf8eecce693da792a5b0eda282af6a3b61a22b38c3f018b7", func := "annuity/annuitylaw14.LoanSubsidy", spec := "loanSubsidy", unfollowed := true, recurses := true, named := ["math/bits.divideError", "math/bits.overflowError"], apart := false, narrowed := true }
def LoanSubsidyUptoSaid : Prop := loanSubsidyUptoRow.holds Try.pinned (OpenSpec.upto loanSubsidySpec)

/-- 'annuitylaw14.LoanDays', WHERE WHAT IT READS IS OF BULK AT MOST 1048576: true; the input reads as it did. -/
def loanDaysUptoRow : OpenClaim := { program := "ytmbenmiakjhgeaa", sum := "2271002e49b4bae2bf8eecce693da792a5b0eda282af6a3b61a22b38c3f018b7", func := "annuity/annuitylaw14.LoanDays", spec := "loanDays", unfollowed := true, recurses := true, named := ["math/bits.divideError", "math/bits.overflowError"], apart := false, narrowed := true }
def LoanDaysUptoSaid : Prop := loanDaysUptoRow.holds Try.pinned (OpenSpec.upto loanDaysSpec)

/-- 'annuitylaw14.LoanTells', WHERE WHAT IT READS IS OF BULK AT MOST 1048576: true; the input reads as it did. -/
def loanTellsUptoRow : OpenClaim := { program := "ytmbenmiakjhgeaa", sum := "2271002e49b4bae2bf8eecce693da792a5b0eda282af6a3b61a22b38c3f018b7", func := "annuity/annuitylaw14.LoanTells", spec := "loanTells", unfollowed := true, recurses := true, named := ["math/bits.divideError", "math/bits.overflowError"], apart := false, narrowed := true }
def LoanTellsUptoSaid : Prop := loanTellsUptoRow.holds Try.pinned (OpenSpec.upto loanTellsSpec)

end Rows
end Go.Proofs.Ytmbenmiakjhgeaa
