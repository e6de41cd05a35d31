/-
  No cell of these rows narrows 'for every input' (looked for: loops, veiled, ifaces, maps, wideKeys, modest, calm, conditions, laid).
  DERIVED. THE GIVEN ROWS OF THIS SEAT. 12 by the template 'for every input the law returns true; each argument reads behind the call as it read before'; 0 by the template 'total and deterministic' (their statements: YtgobgjokelbngaaTotals.lean).
  GIVEN WITH THE SEED: the statements are not yours to turn. If you find one false, say at which input.
  Laid BY PROGRAM, IN A SANDBOX (cutbox-rows.mjs): the forced cells as the released guide's own fill.sh prints them over the translation 7861518c1a7ce16e… (all of the seat's roots in one cut). By AI agents, Wed Nov 11 2026. No macro, syntax, notation, axiom, sorry.
-/
import Derived.Test.YtgobgjokelbngaaChecked
import GoSem.Claim
import GoSem.ClaimJoined
import GoSem.ClaimMapViews
import Derived.JoinedTies
import Derived.KernelRfl
namespace Go.Proofs.Ytgobgjokelbngaa
/- THE CELL 'sum', in the pinned program and in every row, IS THE sha256 OF THE DUMP (.gsa) THAT YtgobgjokelbngaaProg.lean LOADS. Nothing in Lean hashes anything: it is a label: what it is worth is what the hold of that sum in a sandbox is worth. -/
noncomputable def Try.pinned : Pinned := { name := "ytgobgjokelbngaa", sum := "7861518c1a7ce16e63cb65296799c5993c8064fb69034e1f00f587add293fad9", checked := Try.checked }
namespace Rows
def none {H : Type} : Left H := { results := [], args := [] }

/-- 'annuitylaw14.LoanTurns': WHATEVER THE INPUT: true; the input reads as it did. -/
def loanTurnsSpec : ChangeSpec := { name := "loanTurns", fn := fun _ => fun
  | [d1, d2, d3] => { results := [.lit (.bool true)], args := [d1, d2, d3] }
  | _ => none }
def loanTurnsRow : OpenClaim := { program := "ytgobgjokelbngaa", sum := "7861518c1a7ce16e63cb65296799c5993c8064fb69034e1f00f587add293fad9", func := "annuity/annuitylaw14.LoanTurns", spec := "loanTurns", unfollowed := true, recurses := true, apart := false }
def LoanTurnsSaid : Prop := loanTurnsRow.holds Try.pinned (OpenSpec.ofChange loanTurnsSpec)

/-- ITS FALSE NEIGHBOUR: 'it returns false'. Refute it at one input. -/
def loanTurnsWrong : ChangeSpec := { name := "loanTurns", fn := fun _ => fun
  | [d1, d2, d3] => { results := [.lit (.bool false)], args := [d1, d2, d3] }
  | _ => none }
def LoanTurnsWrongFalsely : Prop := loanTurnsRow.holds Try.pinned (OpenSpec.ofChange loanTurnsWrong)

/-- 'annuitylaw14.LoanOwes': WHATEVER THE INPUT: true; the input reads as it did. -/
def loanOwesSpec : ChangeSpec := { name := "loanOwes", fn := fun _ => fun
  | [d1, d2, d3] => { results := [.lit (.bool true)], args := [d1, d2, d3] }
  | _ => none }
def loanOwesRow : OpenClaim := { program := "ytgobgjokelbngaa", sum := "7861518c1a7ce16e63cb65296799c5993c8064fb69034e1f00f587add293fad9", func := "annuity/annuitylaw14.LoanOwes", spec := "loanOwes", unfollowed := true, recurses := true, apart := false }
def LoanOwesSaid : Prop := loanOwesRow.holds Try.pinned (OpenSpec.ofChange loanOwesSpec)

/-- ITS FALSE NEIGHBOUR: 'it returns false'. Refute it at one input. -/
def loanOwesWrong : ChangeSpec := { name := "loanOwes", fn := fun _ => fun
  | [d1, d2, d3] => { results := [.lit (.bool false)], args := [d1, d2, d3] }
  | _ => none }
def LoanOwesWrongFalsely : Prop := loanOwesRow.holds Try.pinned (OpenSpec.ofChange loanOwesWrong)

/-- 'annuitylaw17.IncomeTells': WHATEVER THE INPUT: true; the input reads as it did. -/
def incomeTellsSpec : ChangeSpec := { name := "incomeTells", fn := fun _ => fun
  | [d1, d2, d3] => { results := [.lit (.bool true)], args := [d1, d2, d3] }
  | _ => none }
def incomeTellsRow : OpenClaim := { program := "ytgobgjokelbngaa", sum := "7861518c1a7ce16e63cb65296799c5993c8064fb69034e1f00f587add293fad9", func := "annuity/annuitylaw17.IncomeTells", spec := "incomeTells", named := ["math/bits.divideError", "math/bits.overflowError"], apart := false }
def IncomeTellsSaid : Prop := incomeTellsRow.holds Try.pinned (OpenSpec.ofChange incomeTellsSpec)

/-- ITS FALSE NEIGHBOUR: 'it returns false'. Refute it at one input. -/
def incomeTellsWrong : ChangeSpec := { name := "incomeTells", fn := fun _ => fun
  | [d1, d2, d3] => { results := [.lit (.bool false)], args := [d1, d2, d3] }
  | _ => none }
def IncomeTellsWrongFalsely : Prop := incomeTellsRow.holds Try.pinned (OpenSpec.ofChange incomeTellsWrong)

/-- 'annuitylaw17.IncomeFair': WHATEVER THE INPUT: true; the input reads as it did. -/
def incomeFairSpec : ChangeSpec := { name := "incomeFair", fn := fun _ => fun
  | [d1, d2, d3] => { results := [.lit (.bool true)], args := [d1, d2, d3] }
  | _ => none }
def incomeFairRow : OpenClaim := { program := "ytgobgjokelbngaa", sum := "7861518c1a7ce16e63cb65296799c5993c8064fb69034e1f00f587add293fad9", func := "annuity/annuitylaw17.IncomeFair", spec := "incomeFair", named := ["math/bits.divideError", "math/bits.overflowError"], apart := false }
def IncomeFairSaid : Prop := incomeFairRow.holds Try.pinned (OpenSpec.ofChange incomeFairSpec)

/-- ITS FALSE NEIGHBOUR: 'it returns false'. Refute it at one input. -/
def incomeFairWrong : ChangeSpec := { name := "incomeFair", fn := fun _ => fun
  | [d1, d2, d3] => { results := [.lit (.bool false)], args := [d1, d2, d3] }
  | _ => none }
def IncomeFairWrongFalsely : Prop := incomeFairRow.holds Try.pinned (OpenSpec.ofChange incomeFairWrong)

/-- 'annuitylaw15.LevelOf': WHATEVER THE INPUT: true; the input reads as it did. -/
def levelOfSpec : ChangeSpec := { name := "levelOf", fn := fun _ => fun
  | [d1, d2, d3] => { results := [.lit (.bool true)], args := [d1, d2, d3] }
  | _ => none }
def levelOfRow : OpenClaim := { program := "ytgobgjokelbngaa", sum := "7861518c1a7ce16e63cb65296799c5993c8064fb69034e1f00f587add293fad9", func := "annuity/annuitylaw15.LevelOf", spec := "levelOf", unfollowed := true, recurses := true, named := ["math/bits.divideError", "math/bits.overflowError"], apart := false }
def LevelOfSaid : Prop := levelOfRow.holds Try.pinned (OpenSpec.ofChange levelOfSpec)

/-- ITS FALSE NEIGHBOUR: 'it returns false'. Refute it at one input. -/
def levelOfWrong : ChangeSpec := { name := "levelOf", fn := fun _ => fun
  | [d1, d2, d3] => { results := [.lit (.bool false)], args := [d1, d2, d3] }
  | _ => none }
def LevelOfWrongFalsely : Prop := levelOfRow.holds Try.pinned (OpenSpec.ofChange levelOfWrong)

/-- 'annuitylaw15.LevelLeast': WHATEVER THE INPUT: true; the input reads as it did. -/
def levelLeastSpec : ChangeSpec := { name := "levelLeast", fn := fun _ => fun
  | [d1, d2, d3] => { results := [.lit (.bool true)], args := [d1, d2, d3] }
  | _ => none }
def levelLeastRow : OpenClaim := { program := "ytgobgjokelbngaa", sum := "7861518c1a7ce16e63cb65296799c5993c8064fb69034e1f00f587add293fad9", func := "annuity/annuitylaw15.LevelLeast", spec := "levelLeast", unfollowed := true, recurses := true, named := ["math/bits.divideError", "math/bits.overflowError"], apart := false }
def LevelLeastSaid : Prop := levelLeastRow.holds Try.pinned (OpenSpec.ofChange levelLeastSpec)

/-- ITS FALSE NEIGHBOUR: 'it returns false'. Refute it at one input. -/
def levelLeastWrong : ChangeSpec := { name := "levelLeast", fn := fun _ => fun
  | [d1, d2, d3] => { results := [.lit (.bool false)], args := [d1, d2, d3] }
  | _ => none }
def LevelLeastWrongFalsely : Prop := levelLeastRow.holds Try.pinned (OpenSpec.ofChange levelLeastWrong)

/-- 'annuitylaw15.LevelMore': WHATEVER THE INPUT: true; the input reads as it did. -/
def levelMoreSpec : ChangeSpec := { name := "levelMore", fn := fun _ => fun
  | [d1, d2, d3] => { results := [.lit (.bool true)], args := [d1, d2, d3] }
  | _ => none }
def levelMoreRow : OpenClaim := { program := "ytgobgjokelbngaa", sum := "7861518c1a7ce16e63cb65296799c5993c8064fb69034e1f00f587add293fad9", func := "annuity/annuitylaw15.LevelMore", spec := "levelMore", unfollowed := true, recurses := true, named := ["math/bits.divideError", "math/bits.overflowError"], apart := false }
def LevelMoreSaid : Prop := levelMoreRow.holds Try.pinned (OpenSpec.ofChange levelMoreSpec)

/-- ITS FALSE NEIGHBOUR: 'it returns false'. Refute it at one input. -/
def levelMoreWrong : ChangeSpec := { name := "levelMore", fn := fun _ => fun
  | [d1, d2, d3] => { results := [.lit (.bool false)], args := [d1, d2, d3] }
  | _ => none }
def LevelMoreWrongFalsely : Prop := levelMoreRow.holds Try.pinned (OpenSpec.ofChange levelMoreWrong)

/-- 'annuitylaw15.LevelSums': WHATEVER THE INPUT: true; the input reads as it did. -/
def levelSumsSpec : ChangeSpec := { name := "levelSums", fn := fun _ => fun
  | [d1, d2, d3] => { results := [.lit (.bool true)], args := [d1, d2, d3] }
  | _ => none }
def levelSumsRow : OpenClaim := { program := "ytgobgjokelbngaa", sum := "7861518c1a7ce16e63cb65296799c5993c8064fb69034e1f00f587add293fad9", func := "annuity/annuitylaw15.LevelSums", spec := "levelSums", unfollowed := true, recurses := true, named := ["math/bits.divideError", "math/bits.overflowError"], apart := false }
def LevelSumsSaid : Prop := levelSumsRow.holds Try.pinned (OpenSpec.ofChange levelSumsSpec)

/-- ITS FALSE NEIGHBOUR: 'it returns false'. Refute it at one input. -/
def levelSumsWrong : ChangeSpec := { name := "levelSums", fn := fun _ => fun
  | [d1, d2, d3] => { results := [.lit (.bool false)], args := [d1, d2, d3] }
  | _ => none }
def LevelSumsWrongFalsely : Prop := levelSumsRow.holds Try.pinned (OpenSpec.ofChange levelSumsWrong)

/-- 'annuitylaw15.LevelGoes': WHATEVER THE INPUT: true; the input reads as it did. -/
def levelGoesSpec : ChangeSpec := { name := "levelGoes", fn := fun _ => fun
  | [d1, d2, d3] => { results := [.lit (.bool true)], args := [d1, d2, d3] }
  | _ => none }
def levelGoesRow : OpenClaim := { program := "ytgobgjokelbngaa", sum := "7861518c1a7ce16e63cb65296799c5993c8064fb69034e1f00f587add293fad9", func := "annuity/annuitylaw15.LevelGoes", spec := "levelGoes", unfollowed := true, recurses := true, named := ["math/bits.divideError", "math/bits.overflowError"], apart := false }
def LevelGoesSaid : Prop := levelGoesRow.holds Try.pinned (OpenSpec.ofChange levelGoesSpec)

/-- ITS FALSE NEIGHBOUR: 'it returns false'. Refute it at one input. -/
def levelGoesWrong : ChangeSpec := { name := "levelGoes", fn := fun _ => fun
  | [d1, d2, d3] => { results := [.lit (.bool false)], args := [d1, d2, d3] }
  | _ => none }
def LevelGoesWrongFalsely : Prop := levelGoesRow.holds Try.pinned (OpenSpec.ofChange levelGoesWrong)

/-- 'annuitylaw14.LoanSubsidy': WHATEVER THE INPUT: true; the input reads as it did. -/
def loanSubsidySpec : ChangeSpec := { name := "loanSubsidy", fn := fun _ => fun
  | [d1, d2, d3] => { results := [.lit (.bool true)], args := [d1, d2, d3] }
  | _ => none }
def loanSubsidyRow : OpenClaim := { program := "ytgobgjokelbngaa", sum := "7861518c1a7ce16e63cb65296799c5993c8064fb69034e1f00f587add293fad9", func := "annuity/annuitylaw14.LoanSubsidy", spec := "loanSubsidy", unfollowed := true, recurses := true, named := ["math/bits.divideError", "math/bits.overflowError"], apart := false }
def LoanSubsidySaid : Prop := loanSubsidyRow.holds Try.pinned (OpenSpec.ofChange loanSubsidySpec)

/-- ITS FALSE NEIGHBOUR: 'it returns false'. Refute it at one input. -/
def loanSubsidyWrong : ChangeSpec := { name := "loanSubsidy", fn := fun _ => fun
  | [d1, d2, d3] => { results := [.lit (.bool false)], args := [d1, d2, d3] }
  | _ => none }
def LoanSubsidyWrongFalsely : Prop := loanSubsidyRow.holds Try.pinned (OpenSpec.ofChange loanSubsidyWrong)

/-- 'annuitylaw14.LoanDays': WHATEVER THE INPUT: true; the input reads as it did. -/
def loanDaysSpec : ChangeSpec := { name := "loanDays", fn := fun _ => fun
  | [d1, d2] => { results := [.lit (.bool true)], args := [d1, d2] }
  | _ => none }
def loanDaysRow : OpenClaim := { program := "ytgobgjokelbngaa", sum := "7861518c1a7ce16e63cb65296799c5993c8064fb69034e1f00f587add293fad9", func := "annuity/annuitylaw14.LoanDays", spec := "loanDays", unfollowed := true, recurses := true, named := ["math/bits.divideError", "math/bits.overflowError"], apart := false }
def LoanDaysSaid : Prop := loanDaysRow.holds Try.pinned (OpenSpec.ofChange loanDaysSpec)

/-- ITS FALSE NEIGHBOUR: 'it returns false'. Refute it at one input. -/
def loanDaysWrong : ChangeSpec := { name := "loanDays", fn := fun _ => fun
  | [d1, d2] => { results := [.lit (.bool false)], args := [d1, d2] }
  | _ => none }
def LoanDaysWrongFalsely : Prop := loanDaysRow.holds Try.pinned (OpenSpec.ofChange loanDaysWrong)

/-- 'annuitylaw14.LoanTells': WHATEVER THE INPUT: true; the input reads as it did. -/
def loanTellsSpec : ChangeSpec := { name := "loanTells", fn := fun _ => fun
  | [d1, d2] => { results := [.lit (.bool true)], args := [d1, d2] }
  | _ => none }
def loanTellsRow : OpenClaim := { program := "ytgobgjokelbngaa", sum := "7861518c1a7ce16e63cb65296799c5993c8064fb69034e1f00f587add293fad9", func := "annuity/annuitylaw14.LoanTells", spec := "loanTells", unfollowed := true, recurses := true, named := ["math/bits.divideError", "math/bits.overflowError"], apart := false }
def LoanTellsSaid : Prop := loanTellsRow.holds Try.pinned (OpenSpec.ofChange loanTellsSpec)

/-- ITS FALSE NEIGHBOUR: 'it returns false'. Refute it at one input. -/
def loanTellsWrong : ChangeSpec := { name := "loanTells", fn := fun _ => fun
  | [d1, d2] => { results := [.lit (.bool false)], args := [d1, d2] }
  | _ => none }
def LoanTellsWrongFalsely : Prop := loanTellsRow.holds Try.pinned (OpenSpec.ofChange loanTellsWrong)

/- THE SECOND FORM. 'bulk': how many values and letters a reading holds, each counted each time it is reached (what is shared counts as often as it is met; a slice's spare places count too). A statement '..UptoSaid' is the law's where the arguments, and the package variables that the reading takes, are together of bulk at most 1048576: NARROWER than '..Said'. Prove '..Said' where nothing that the law and all that it calls make is longer than what came in: it says more and counts as full. Else prove '..UptoSaid'. A law counts once. -/
mutual
def uptoBulk {H : Type} : DataW H → Nat
  | .lit (.string bytes) => bytes.length + 1
  | .lit _ => 1
  | .nil => 1
  | .ptr d => uptoBulk d + 1
  | .slice elems spare => uptoBulkAll elems + uptoBulkAll spare + 1
  | .agg parts => uptoBulkAll parts + 1
  | .iface _ d => uptoBulk d + 1
  | .map entries => uptoBulkEntries entries + 1
  | .held _ => 1
def uptoBulkAll {H : Type} : List (DataW H) → Nat
  | [] => 0
  | d :: r => uptoBulk d + uptoBulkAll r
def uptoBulkEntries {H : Type} : List (Lit × DataW H) → Nat
  | [] => 0
  | x :: r => uptoBulkEntry x + uptoBulkEntries r
def uptoBulkEntry {H : Type} : Lit × DataW H → Nat
  | (.string bytes, d) => bytes.length + uptoBulk d + 1
  | (_, d) => uptoBulk d + 1
 end
def uptoSmall : (H : Type) → List (DataW H) → Bool := fun _ ds => decide (uptoBulkAll ds ≤ 1048576)
def OpenSpec.upto (s : _root_.Go.ChangeSpec) : _root_.Go.OpenSpec := { _root_.Go.OpenSpec.ofChange s with cond := some uptoSmall }

/-- 'annuitylaw14.LoanTurns', WHERE WHAT IT READS IS OF BULK AT MOST 1048576: true; the input reads as it did. -/
def loanTurnsUptoRow : OpenClaim := { program := "ytgobgjokelbngaa", sum := "7861518c1a7ce16e63cb65296799c5993c8064fb69034e1f00f587add293fad9", func := "annuity/annuitylaw14.LoanTurns", spec := "loanTurns", unfollowed := true, recurses := true, apart := false, narrowed := true }
def LoanTurnsUptoSaid : Prop := loanTurnsUptoRow.holds Try.pinned (OpenSpec.upto loanTurnsSpec)

/-- 'annuitylaw14.LoanOwes', WHERE WHAT IT READS IS OF BULK AT MOST 1048576: true; the input reads as it did. -/
def loanOwesUptoRow : OpenClaim := { program := "ytgobgjokelbngaa", sum := "7861518c1a7ce16e63cb65296799c5993c8064fb69034e1f00f587add293fad9", func := "annuity/annuitylaw14.LoanOwes", spec := "loanOwes", unfollowed := true, recurses := true, apart := false, narrowed := true }
def LoanOwesUptoSaid : Prop := loanOwesUptoRow.holds Try.pinned (OpenSpec.upto loanOwesSpec)

/-- 'annuitylaw17.IncomeTells', WHERE WHAT IT READS IS OF BULK AT MOST 1048576: true; the input reads as it did. -/
def incomeTellsUptoRow : OpenClaim := { program := "ytgobgjokelbngaa", sum := "7861518c1a7ce16e63cb65296799c5993c8064fb69034e1f00f587add293fad9", func := "annuity/annuitylaw17.IncomeTells", spec := "incomeTells", named := ["math/bits.divideError", "math/bits.overflowError"], apart := false, narrowed := true }
def IncomeTellsUptoSaid : Prop := incomeTellsUptoRow.holds Try.pinned (OpenSpec.upto incomeTellsSpec)

/-- 'annuitylaw17.IncomeFair', WHERE WHAT IT READS IS OF BULK AT MOST 1048576: true; the input reads as it did. -/
def incomeFairUptoRow : OpenClaim := { program := "ytgobgjokelbngaa", sum := "7861518c1a7ce16e63cb65296799c5993c8064fb69034e1f00f587add293fad9", func := "annuity/annuitylaw17.IncomeFair", spec := "incomeFair", named := ["math/bits.divideError", "math/bits.overflowError"], apart := false, narrowed := true }
def IncomeFairUptoSaid : Prop := incomeFairUptoRow.holds Try.pinned (OpenSpec.upto incomeFairSpec)

/-- 'annuitylaw15.LevelOf', WHERE WHAT IT READS IS OF BULK AT MOST 1048576: true; the input reads as it did. -/
def levelOfUptoRow : OpenClaim := { program := "ytgobgjokelbngaa", sum := "7861518c1a7ce16e63cb65296799c5993c8064fb69034e1f00f587add293fad9", func := "annuity/annuitylaw15.LevelOf", spec := "levelOf", unfollowed := true, recurses := true, named := ["math/bits.divideError", "math/bits.overflowError"], apart := false, narrowed := true }
def LevelOfUptoSaid : Prop := levelOfUptoRow.holds Try.pinned (OpenSpec.upto levelOfSpec)

/-- 'annuitylaw15.LevelLeast', WHERE WHAT IT READS IS OF BULK AT MOST 1048576: true; the input reads as it did. -/
def levelLeastUptoRow : OpenClaim := { program := "ytgobgjokelbngaa", sum := "7861518c1a7ce16e63cb65296799c5993c8064fb69034e1f00f587add293fad9", func := "annuity/annuitylaw15.LevelLeast", spec := "levelLeast", unfollowed := true, recurses := true, named := ["math/bits.divideError", "math/bits.overflowError"], apart := false, narrowed := true }
def LevelLeastUptoSaid : Prop := levelLeastUptoRow.holds Try.pinned (OpenSpec.upto levelLeastSpec)

/-- 'annuitylaw15.LevelMore', WHERE WHAT IT READS IS OF BULK AT MOST 1048576: true; the input reads as it did. -/
def levelMoreUptoRow : OpenClaim := { program := "ytgobgjokelbngaa", sum := "7861518c1a7ce16e63cb65296799c5993c8064fb69034e1f00f587add293fad9", func := "annuity/annuitylaw15.LevelMore", spec := "levelMore", unfollowed := true, recurses := true, named := ["math/bits.divideError", "math/bits.overflowError"], apart := false, narrowed := true }
def LevelMoreUptoSaid : Prop := levelMoreUptoRow.holds Try.pinned (OpenSpec.upto levelMoreSpec)

/-- 'annuitylaw15.LevelSums', WHERE WHAT IT READS IS OF BULK AT MOST 1048576: true; the input reads as it did. -/
def levelSumsUptoRow : OpenClaim := { program := "ytgobgjokelbngaa", sum := "7861518c1a7ce16e63cb65296799c5993c8064fb69034e1f00f587add293fad9", func := "annuity/annuitylaw15.LevelSums", spec := "levelSums", unfollowed := true, recurses := true, named := ["math/bits.divideError", "math/bits.overflowError"], apart := false, narrowed := true }
def LevelSumsUptoSaid : Prop := levelSumsUptoRow.holds Try.pinned (OpenSpec.upto levelSumsSpec)

/-- 'annuitylaw15.LevelGoes', WHERE WHAT IT READS IS OF BULK AT MOST 1048576: true; the input reads as it did. -/
def levelGoesUptoRow : OpenClaim := { program := "ytgobgjokelbngaa", sum := "7861518c1a7ce16e63cb65296799c5993c8064fb69034e1f00f587add293fad9", func := "annuity/annuitylaw15.LevelGoes", spec := "levelGoes", unfollowed := true, recurses := true, named := ["math/bits.divideError", "math/bits.overflowError"], apart := false, narrowed := true }
def LevelGoesUptoSaid : Prop := levelGoesUptoRow.holds Try.pinned (OpenSpec.upto levelGoesSpec)

/-- 'annuitylaw14.LoanSubsidy', WHERE WHAT IT READS IS OF BULK AT MOST 1048576: true; the input reads as it did. -/
def loanSubsidyUptoRow : OpenClaim := { program := "ytgobgjokelbngaa", sum := "7861518c1a7ce16e63cb65296799c5993c8064fb69034e1f00f587add293fad9", func := "annuity/annuitylaw14.LoanSubsidy", spec := "loanSubsidy", unfollowed := true, recurses := true, named := ["math/bits.divideError", "math/bits.overflowError"], apart := false, narrowed := true }
def LoanSubsidyUptoSaid : Prop := loanSubsidyUptoRow.holds Try.pinned (OpenSpec.upto loanSubsidySpec)

/-- 'annuitylaw14.LoanDays', WHERE WHAT IT READS IS OF BULK AT MOST 1048576: true; the input reads as it did. -/
def loanDaysUptoRow : OpenClaim := { program := "ytgobgjokelbngaa", sum := "7861518c1a7ce16e63cb65296799c5993c8064fb69034e1f00f587add293fad9", func := "annuity/annuitylaw14.LoanDays", spec := "loanDays", unfollowed := true, recurses := true, named := ["math/bits.divideError", "math/bits.overflowError"], apart := false, narrowed := true }
def LoanDaysUptoSaid : Prop := loanDaysUptoRow.holds Try.pinned (OpenSpec.upto loanDaysSpec)

/-- 'annuitylaw14.LoanTells', WHERE WHAT IT READS IS OF BULK AT MOST 1048576: true; the input reads as it did. -/
def loanTellsUptoRow : OpenClaim := { program := "ytgobgjokelbngaa", sum := "7861518c1a7ce16e63cb65296799c5993c8064fb69034e1f00f587add293fad9", func := "annuity/annuitylaw14.LoanTells", spec := "loanTells", unfollowed := true, recurses := true, named := ["math/bits.divideError", "math/bits.overflowError"], apart := false, narrowed := true }
def LoanTellsUptoSaid : Prop := loanTellsUptoRow.holds Try.pinned (OpenSpec.upto loanTellsSpec)

end Rows
end Go.Proofs.Ytgobgjokelbngaa
