/-
  No cell of these rows narrows 'for every input' (looked for: loops, veiled, ifaces, maps, wideKeys, modest, calm, conditions, laid).
  DERIVED. THE GIVEN ROWS OF THIS SEAT. 5 by the template 'for every input the law returns true; each argument reads behind the call as it read before'; 0 by the template 'total and deterministic' (their statements: YtpbonoecjlafcaaTotals.lean).
  GIVEN WITH THE SEED: the statements are not yours to turn. If you find one false, say at which input.
  Laid BY PROGRAM, IN A SANDBOX (cutbox-rows.mjs): the forced cells as the released guide's own fill.sh prints them over the translation edc329f80c505c24… (all of the seat's roots in one cut). By AI agents, Wed Nov 11 2026. No macro, syntax, notation, axiom, sorry.
-/
import Derived.Test.YtpbonoecjlafcaaChecked
import GoSem.Claim
import GoSem.ClaimJoined
import GoSem.ClaimMapViews
import Derived.JoinedTies
import Derived.KernelRfl
namespace Go.Proofs.Ytpbonoecjlafcaa
/- THE CELL 'sum', in the pinned program and in every row, IS THE sha256 OF THE DUMP (.gsa) THAT YtpbonoecjlafcaaProg.lean LOADS. Nothing in Lean hashes anything: it is a label: what it is worth is what the hold of that sum in a sandbox is worth. -/
noncomputable def Try.pinned : Pinned := { name := "ytpbonoecjlafcaa", sum := "edc329f80c505c24a518596e06166eea92a40d8f951f36d89375a51f3079c4fe", checked := Try.checked }
namespace Rows
def none {H : Type} : Left H := { results := [], args := [] }

/-- 'annuitylaw02.ShareSplits': WHATEVER THE INPUT: true; the input reads as it did. -/
def shareSplitsSpec : ChangeSpec := { name := "shareSplits", fn := fun _ => fun
  | [d1, d2] => { results := [.lit (.bool true)], args := [d1, d2] }
  | _ => none }
def shareSplitsRow : OpenClaim := { program := "ytpbonoecjlafcaa", sum := "edc329f80c505c24a518596e06166eea92a40d8f951f36d89375a51f3079c4fe", func := "annuity/annuitylaw02.ShareSplits", spec := "shareSplits", unfollowed := true, recurses := true, named := ["math/bits.divideError", "math/bits.overflowError"], apart := false }
def ShareSplitsSaid : Prop := shareSplitsRow.holds Try.pinned (OpenSpec.ofChange shareSplitsSpec)

/-- ITS FALSE NEIGHBOUR: 'it returns false'. Refute it at one input. -/
def shareSplitsWrong : ChangeSpec := { name := "shareSplits", fn := fun _ => fun
  | [d1, d2] => { results := [.lit (.bool false)], args := [d1, d2] }
  | _ => none }
def ShareSplitsWrongFalsely : Prop := shareSplitsRow.holds Try.pinned (OpenSpec.ofChange shareSplitsWrong)

/-- 'annuitylaw02.ShareFills': WHATEVER THE INPUT: true; the input reads as it did. -/
def shareFillsSpec : ChangeSpec := { name := "shareFills", fn := fun _ => fun
  | [d1, d2] => { results := [.lit (.bool true)], args := [d1, d2] }
  | _ => none }
def shareFillsRow : OpenClaim := { program := "ytpbonoecjlafcaa", sum := "edc329f80c505c24a518596e06166eea92a40d8f951f36d89375a51f3079c4fe", func := "annuity/annuitylaw02.ShareFills", spec := "shareFills", unfollowed := true, recurses := true, named := ["math/bits.divideError", "math/bits.overflowError"], apart := false }
def ShareFillsSaid : Prop := shareFillsRow.holds Try.pinned (OpenSpec.ofChange shareFillsSpec)

/-- ITS FALSE NEIGHBOUR: 'it returns false'. Refute it at one input. -/
def shareFillsWrong : ChangeSpec := { name := "shareFills", fn := fun _ => fun
  | [d1, d2] => { results := [.lit (.bool false)], args := [d1, d2] }
  | _ => none }
def ShareFillsWrongFalsely : Prop := shareFillsRow.holds Try.pinned (OpenSpec.ofChange shareFillsWrong)

/-- 'annuitylaw02.ShareFair': WHATEVER THE INPUT: true; the input reads as it did. -/
def shareFairSpec : ChangeSpec := { name := "shareFair", fn := fun _ => fun
  | [d1, d2] => { results := [.lit (.bool true)], args := [d1, d2] }
  | _ => none }
def shareFairRow : OpenClaim := { program := "ytpbonoecjlafcaa", sum := "edc329f80c505c24a518596e06166eea92a40d8f951f36d89375a51f3079c4fe", func := "annuity/annuitylaw02.ShareFair", spec := "shareFair", unfollowed := true, recurses := true, named := ["math/bits.divideError", "math/bits.overflowError"], apart := false }
def ShareFairSaid : Prop := shareFairRow.holds Try.pinned (OpenSpec.ofChange shareFairSpec)

/-- ITS FALSE NEIGHBOUR: 'it returns false'. Refute it at one input. -/
def shareFairWrong : ChangeSpec := { name := "shareFair", fn := fun _ => fun
  | [d1, d2] => { results := [.lit (.bool false)], args := [d1, d2] }
  | _ => none }
def ShareFairWrongFalsely : Prop := shareFairRow.holds Try.pinned (OpenSpec.ofChange shareFairWrong)

/-- 'annuitylaw02.ShareFull': WHATEVER THE INPUT: true; the input reads as it did. -/
def shareFullSpec : ChangeSpec := { name := "shareFull", fn := fun _ => fun
  | [d1, d2] => { results := [.lit (.bool true)], args := [d1, d2] }
  | _ => none }
def shareFullRow : OpenClaim := { program := "ytpbonoecjlafcaa", sum := "edc329f80c505c24a518596e06166eea92a40d8f951f36d89375a51f3079c4fe", func := "annuity/annuitylaw02.ShareFull", spec := "shareFull", unfollowed := true, recurses := true, named := ["math/bits.divideError", "math/bits.overflowError"], apart := false }
def ShareFullSaid : Prop := shareFullRow.holds Try.pinned (OpenSpec.ofChange shareFullSpec)

/-- ITS FALSE NEIGHBOUR: 'it returns false'. Refute it at one input. -/
def shareFullWrong : ChangeSpec := { name := "shareFull", fn := fun _ => fun
  | [d1, d2] => { results := [.lit (.bool false)], args := [d1, d2] }
  | _ => none }
def ShareFullWrongFalsely : Prop := shareFullRow.holds Try.pinned (OpenSpec.ofChange shareFullWrong)

/-- 'annuitylaw02.ShareScaled': WHATEVER THE INPUT: true; the input reads as it did. -/
def shareScaledSpec : ChangeSpec := { name := "shareScaled", fn := fun _ => fun
  | [d1, d2, d3] => { results := [.lit (.bool true)], args := [d1, d2, d3] }
  | _ => none }
def shareScaledRow : OpenClaim := { program := "ytpbonoecjlafcaa", sum := "edc329f80c505c24a518596e06166eea92a40d8f951f36d89375a51f3079c4fe", func := "annuity/annuitylaw02.ShareScaled", spec := "shareScaled", unfollowed := true, recurses := true, named := ["math/bits.divideError", "math/bits.overflowError"], apart := false }
def ShareScaledSaid : Prop := shareScaledRow.holds Try.pinned (OpenSpec.ofChange shareScaledSpec)

/-- ITS FALSE NEIGHBOUR: 'it returns false'. Refute it at one input. -/
def shareScaledWrong : ChangeSpec := { name := "shareScaled", fn := fun _ => fun
  | [d1, d2, d3] => { results := [.lit (.bool false)], args := [d1, d2, d3] }
  | _ => none }
def ShareScaledWrongFalsely : Prop := shareScaledRow.holds Try.pinned (OpenSpec.ofChange shareScaledWrong)

/- THE SECOND FORM. 'bulk': how many values and letters a reading holds, each counted each time it is reached (what is shared counts as often as it is met; a slice's spare places count too). A statement '..UptoSaid' is the law's where the arguments, and the package variables that the reading takes, are together of bulk at most 1048576: NARROWER than '..Said'. Prove '..Said' where nothing that the law and all that it calls make is longer than what came in: it says more and counts as full. Else prove '..UptoSaid'. A law counts once. -/
mutual
def uptoBulk {H : Type} : DataW H → Nat
  | .lit (.string bytes) => bytes.length + 1
  | .lit _ => 1
  | .nil => 1
  | .ptr d => uptoBulk d + 1
  | .slice elems spare => uptoBulkAll elems + uptoBulkAll spare + 1
  | .agg parts => uptoBulkAll parts + 1
  | .iface _ d => uptoBulk d + 1
  | .map entries => uptoBulkEntries entries + 1
  | .held _ => 1
def uptoBulkAll {H : Type} : List (DataW H) → Nat
  | [] => 0
  | d :: r => uptoBulk d + uptoBulkAll r
def uptoBulkEntries {H : Type} : List (Lit × DataW H) → Nat
  | [] => 0
  | x :: r => uptoBulkEntry x + uptoBulkEntries r
def uptoBulkEntry {H : Type} : Lit × DataW H → Nat
  | (.string bytes, d) => bytes.length + uptoBulk d + 1
  | (_, d) => uptoBulk d + 1
 end
def uptoSmall : (H : Type) → List (DataW H) → Bool := fun _ ds => decide (uptoBulkAll ds ≤ 1048576)
def OpenSpec.upto (s : _root_.Go.ChangeSpec) : _root_.Go.OpenSpec := { _root_.Go.OpenSpec.ofChange s with cond := some uptoSmall }

/-- 'annuitylaw02.ShareSplits', WHERE WHAT IT READS IS OF BULK AT MOST 1048576: true; the input reads as it did. -/
def shareSplitsUptoRow : OpenClaim := { program := "ytpbonoecjlafcaa", sum := "edc329f80c505c24a518596e06166eea92a40d8f951f36d89375a51f3079c4fe", func := "annuity/annuitylaw02.ShareSplits", spec := "shareSplits", unfollowed := true, recurses := true, named := ["math/bits.divideError", "math/bits.overflowError"], apart := false, narrowed := true }
def ShareSplitsUptoSaid : Prop := shareSplitsUptoRow.holds Try.pinned (OpenSpec.upto shareSplitsSpec)

/-- 'annuitylaw02.ShareFills', WHERE WHAT IT READS IS OF BULK AT MOST 1048576: true; the input reads as it did. -/
def shareFillsUptoRow : OpenClaim := { program := "ytpbonoecjlafcaa", sum := "edc329f80c505c24a518596e06166eea92a40d8f951f36d89375a51f3079c4fe", func := "annuity/annuitylaw02.ShareFills", spec := "shareFills", unfollowed := true, recurses := true, named := ["math/bits.divideError", "math/bits.overflowError"], apart := false, narrowed := true }
def ShareFillsUptoSaid : Prop := shareFillsUptoRow.holds Try.pinned (OpenSpec.upto shareFillsSpec)

/-- 'annuitylaw02.ShareFair', WHERE WHAT IT READS IS OF BULK AT MOST 1048576: true; the input reads as it did. -/
def shareFairUptoRow : OpenClaim := { program := "ytpbonoecjlafcaa", sum := "edc329f80c505c24a518596e06166eea92a40d8f951f36d89375a51f3079c4fe", func := "annuity/annuitylaw02.ShareFair", spec := "shareFair", unfollowed := true, recurses := true, named := ["math/bits.divideError", "math/bits.overflowError"], apart := false, narrowed := true }
def ShareFairUptoSaid : Prop := shareFairUptoRow.holds Try.pinned (OpenSpec.upto shareFairSpec)

/-- 'annuitylaw02.ShareFull', WHERE WHAT IT READS IS OF BULK AT MOST 1048576: true; the input reads as it did. -/
def shareFullUptoRow : OpenClaim := { program := "ytpbonoecjlafcaa", sum := "edc329f80c505c24a518596e06166eea92a40d8f951f36d89375a51f3079c4fe", func := "annuity/annuitylaw02.ShareFull", spec := "shareFull", unfollowed := true, recurses := true, named := ["math/bits.divideError", "math/bits.overflowError"], apart := false, narrowed := true }
def ShareFullUptoSaid : Prop := shareFullUptoRow.holds Try.pinned (OpenSpec.upto shareFullSpec)

/-- 'annuitylaw02.ShareScaled', WHERE WHAT IT READS IS OF BULK AT MOST 1048576: true; the input reads as it did. -/
def shareScaledUptoRow : OpenClaim := { program := "ytpbonoecjlafcaa", sum := "edc329f80c505c24a518596e06166eea92a40d8f951f36d89375a51f3079c4fe", func := "annuity/annuitylaw02.ShareScaled", spec := "shareScaled", unfollowed := true, recurses := true, named := ["math/bits.divideError", "math/bits.overflowError"], apart := false, narrowed := true }
def ShareScaledUptoSaid : Prop := shareScaledUptoRow.holds Try.pinned (OpenSpec.upto shareScaledSpec)

end Rows
end Go.Proofs.Ytpbonoecjlafcaa
