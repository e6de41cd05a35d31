/-
  No cell of these rows narrows 'for every input' (looked for: loops, veiled, ifaces, maps, wideKeys, modest, calm, conditions, laid).
  DERIVED. THE GIVEN ROWS OF THIS SEAT. 4 by the template 'for every input the law returns true; each argument reads behind the call as it read before'; 0 by the template 'total and deterministic' (their statements: YteemomncbcpdjaaTotals.lean).
  GIVEN WITH THE SEED: the statements are not yours to turn. If you find one false, say at which input.
  Laid BY PROGRAM, IN A SANDBOX (cutbox-rows.mjs): the forced cells as the released guide's own fill.sh prints them over the translation 4d215292f7eb2820… (all of the seat's roots in one cut). By AI agents, Wed Nov 11 2026. No macro, syntax, notation, axiom, sorry.
-/
import Derived.Test.YteemomncbcpdjaaChecked
import GoSem.Claim
import GoSem.ClaimJoined
import GoSem.ClaimMapViews
import Derived.JoinedTies
import Derived.KernelRfl
namespace Go.Proofs.Yteemomncbcpdjaa
/- THE CELL 'sum', in the pinned program and in every row, IS THE sha256 OF THE DUMP (.gsa) THAT YteemomncbcpdjaaProg.lean LOADS. Nothing in Lean hashes anything: it is a label: what it is worth is what the hold of that sum in a sandbox is worth. -/
noncomputable def Try.pinned : Pinned := { name := "yteemomncbcpdjaa", sum := "4d215292f7eb28203173fa25d1ecb469b7141548c12c9e2b1700fc8ad890fcf6", checked := Try.checked }
namespace Rows
def none {H : Type} : Left H := { results := [], args := [] }

/-- 'annuitylaw20.PayGoes': WHATEVER THE INPUT: true; the input reads as it did. -/
def payGoesSpec : ChangeSpec := { name := "payGoes", fn := fun _ => fun
  | [d1, d2] => { results := [.lit (.bool true)], args := [d1, d2] }
  | _ => none }
def payGoesRow : OpenClaim := { program := "yteemomncbcpdjaa", sum := "4d215292f7eb28203173fa25d1ecb469b7141548c12c9e2b1700fc8ad890fcf6", func := "annuity/annuitylaw20.PayGoes", spec := "payGoes", unfollowed := true, recurses := true, apart := false }
def PayGoesSaid : Prop := payGoesRow.holds Try.pinned (OpenSpec.ofChange payGoesSpec)

/-- ITS FALSE NEIGHBOUR: 'it returns false'. Refute it at one input. -/
def payGoesWrong : ChangeSpec := { name := "payGoes", fn := fun _ => fun
  | [d1, d2] => { results := [.lit (.bool false)], args := [d1, d2] }
  | _ => none }
def PayGoesWrongFalsely : Prop := payGoesRow.holds Try.pinned (OpenSpec.ofChange payGoesWrong)

/-- 'annuitylaw20.PayWhole': WHATEVER THE INPUT: true; the input reads as it did. -/
def payWholeSpec : ChangeSpec := { name := "payWhole", fn := fun _ => fun
  | [d1, d2] => { results := [.lit (.bool true)], args := [d1, d2] }
  | _ => none }
def payWholeRow : OpenClaim := { program := "yteemomncbcpdjaa", sum := "4d215292f7eb28203173fa25d1ecb469b7141548c12c9e2b1700fc8ad890fcf6", func := "annuity/annuitylaw20.PayWhole", spec := "payWhole", unfollowed := true, recurses := true, apart := false }
def PayWholeSaid : Prop := payWholeRow.holds Try.pinned (OpenSpec.ofChange payWholeSpec)

/-- ITS FALSE NEIGHBOUR: 'it returns false'. Refute it at one input. -/
def payWholeWrong : ChangeSpec := { name := "payWhole", fn := fun _ => fun
  | [d1, d2] => { results := [.lit (.bool false)], args := [d1, d2] }
  | _ => none }
def PayWholeWrongFalsely : Prop := payWholeRow.holds Try.pinned (OpenSpec.ofChange payWholeWrong)

/-- 'annuitylaw20.PayTwice': WHATEVER THE INPUT: true; the input reads as it did. -/
def payTwiceSpec : ChangeSpec := { name := "payTwice", fn := fun _ => fun
  | [d1, d2] => { results := [.lit (.bool true)], args := [d1, d2] }
  | _ => none }
def payTwiceRow : OpenClaim := { program := "yteemomncbcpdjaa", sum := "4d215292f7eb28203173fa25d1ecb469b7141548c12c9e2b1700fc8ad890fcf6", func := "annuity/annuitylaw20.PayTwice", spec := "payTwice", unfollowed := true, recurses := true, apart := false }
def PayTwiceSaid : Prop := payTwiceRow.holds Try.pinned (OpenSpec.ofChange payTwiceSpec)

/-- ITS FALSE NEIGHBOUR: 'it returns false'. Refute it at one input. -/
def payTwiceWrong : ChangeSpec := { name := "payTwice", fn := fun _ => fun
  | [d1, d2] => { results := [.lit (.bool false)], args := [d1, d2] }
  | _ => none }
def PayTwiceWrongFalsely : Prop := payTwiceRow.holds Try.pinned (OpenSpec.ofChange payTwiceWrong)

/-- 'annuitylaw20.PayFirst': WHATEVER THE INPUT: true; the input reads as it did. -/
def payFirstSpec : ChangeSpec := { name := "payFirst", fn := fun _ => fun
  | [d1, d2] => { results := [.lit (.bool true)], args := [d1, d2] }
  | _ => none }
def payFirstRow : OpenClaim := { program := "yteemomncbcpdjaa", sum := "4d215292f7eb28203173fa25d1ecb469b7141548c12c9e2b1700fc8ad890fcf6", func := "annuity/annuitylaw20.PayFirst", spec := "payFirst", unfollowed := true, recurses := true, apart := false }
def PayFirstSaid : Prop := payFirstRow.holds Try.pinned (OpenSpec.ofChange payFirstSpec)

/-- ITS FALSE NEIGHBOUR: 'it returns false'. Refute it at one input. -/
def payFirstWrong : ChangeSpec := { name := "payFirst", fn := fun _ => fun
  | [d1, d2] => { results := [.lit (.bool false)], args := [d1, d2] }
  | _ => none }
def PayFirstWrongFalsely : Prop := payFirstRow.holds Try.pinned (OpenSpec.ofChange payFirstWrong)

/- THE SECOND FORM. 'bulk': how many values and letters a reading holds, each counted each time it is reached (what is shared counts as often as it is met; a slice's spare places count too). A statement '..UptoSaid' is the law's where the arguments, and the package variables that the reading takes, are together of bulk at most 1048576: NARROWER than '..Said'. Prove '..Said' where nothing that the law and all that it calls make is longer than what came in: it says more and counts as full. Else prove '..UptoSaid'. A law counts once. -/
mutual
def uptoBulk {H : Type} : DataW H → Nat
  | .lit (.string bytes) => bytes.length + 1
  | .lit _ => 1
  | .nil => 1
  | .ptr d => uptoBulk d + 1
  | .slice elems spare => uptoBulkAll elems + uptoBulkAll spare + 1
  | .agg parts => uptoBulkAll parts + 1
  | .iface _ d => uptoBulk d + 1
  | .map entries => uptoBulkEntries entries + 1
  | .held _ => 1
def uptoBulkAll {H : Type} : List (DataW H) → Nat
  | [] => 0
  | d :: r => uptoBulk d + uptoBulkAll r
def uptoBulkEntries {H : Type} : List (Lit × DataW H) → Nat
  | [] => 0
  | x :: r => uptoBulkEntry x + uptoBulkEntries r
def uptoBulkEntry {H : Type} : Lit × DataW H → Nat
  | (.string bytes, d) => bytes.length + uptoBulk d + 1
  | (_, d) => uptoBulk d + 1
 end
def uptoSmall : (H : Type) → List (DataW H) → Bool := fun _ ds => decide (uptoBulkAll ds ≤ 1048576)
def OpenSpec.upto (s : _root_.Go.ChangeSpec) : _root_.Go.OpenSpec := { _root_.Go.OpenSpec.ofChange s with cond := some uptoSmall }

/-- 'annuitylaw20.PayGoes', WHERE WHAT IT READS IS OF BULK AT MOST 1048576: true; the input reads as it did. -/
def payGoesUptoRow : OpenClaim := { program := "yteemomncbcpdjaa", sum := "4d215292f7eb28203173fa25d1ecb469b7141548c12c9e2b1700fc8ad890fcf6", func := "annuity/annuitylaw20.PayGoes", spec := "payGoes", unfollowed := true, recurses := true, apart := false, narrowed := true }
def PayGoesUptoSaid : Prop := payGoesUptoRow.holds Try.pinned (OpenSpec.upto payGoesSpec)

/-- 'annuitylaw20.PayWhole', WHERE WHAT IT READS IS OF BULK AT MOST 1048576: true; the input reads as it did. -/
def payWholeUptoRow : OpenClaim := { program := "yteemomncbcpdjaa", sum := "4d215292f7eb28203173fa25d1ecb469b7141548c12c9e2b1700fc8ad890fcf6", func := "annuity/annuitylaw20.PayWhole", spec := "payWhole", unfollowed := true, recurses := true, apart := false, narrowed := true }
def PayWholeUptoSaid : Prop := payWholeUptoRow.holds Try.pinned (OpenSpec.upto payWholeSpec)

/-- 'annuitylaw20.PayTwice', WHERE WHAT IT READS IS OF BULK AT MOST 1048576: true; the input reads as it did. -/
def payTwiceUptoRow : OpenClaim := { program := "yteemomncbcpdjaa", sum := "4d215292f7eb28203173fa25d1ecb469b7141548c12c9e2b1700fc8ad890fcf6", func := "annuity/annuitylaw20.PayTwice", spec := "payTwice", unfollowed := true, recurses := true, apart := false, narrowed := true }
def PayTwiceUptoSaid : Prop := payTwiceUptoRow.holds Try.pinned (OpenSpec.upto payTwiceSpec)

/-- 'annuitylaw20.PayFirst', WHERE WHAT IT READS IS OF BULK AT MOST 1048576: true; the input reads as it did. -/
def payFirstUptoRow : OpenClaim := { program := "yteemomncbcpdjaa", sum := "4d215292f7eb28203173fa25d1ecb469b7141548c12c9e2b1700fc8ad890fcf6", func := "annuity/annuitylaw20.PayFirst", spec := "payFirst", unfollowed := true, recurses := true, apart := false, narrowed := true }
def PayFirstUptoSaid : Prop := payFirstUptoRow.holds Try.pinned (OpenSpec.upto payFirstSpec)

end Rows
end Go.Proofs.Yteemomncbcpdjaa
