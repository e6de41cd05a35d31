/-
  No cell of these rows narrows 'for every input' (looked for: loops, veiled, ifaces, maps, wideKeys, modest, calm, conditions, laid).
  DERIVED. THE GIVEN ROWS OF THIS SEAT. 2 by the template 'for every input the law returns true; each argument reads behind the call as it read before'; 0 by the template 'total and deterministic' (their statements: YtlhcohipnieidaaTotals.lean).
  GIVEN WITH THE SEED: the statements are not yours to turn. If you find one false, say at which input.
  Laid BY PROGRAM, IN A SANDBOX (cutbox-rows.mjs): the forced cells as the released guide's own fill.sh prints them over the translation 777741ce7d89efd4… (all of the seat's roots in one cut). By AI agents, Wed Nov 11 2026. No macro, syntax, notation, axiom, sorry.
-/
import Derived.Test.YtlhcohipnieidaaChecked
import GoSem.Claim
import GoSem.ClaimJoined
import GoSem.ClaimMapViews
import Derived.JoinedTies
import Derived.KernelRfl
namespace Go.Proofs.Ytlhcohipnieidaa
/- THE CELL 'sum', in the pinned program and in every row, IS THE sha256 OF THE DUMP (.gsa) THAT YtlhcohipnieidaaProg.lean LOADS. Nothing in Lean hashes anything: it is a label: what it is worth is what the hold of that sum in a sandbox is worth. -/
noncomputable def Try.pinned : Pinned := { name := "ytlhcohipnieidaa", sum := "777741ce7d89efd45771e0a964d8232c0792f6dde64e06200b99bbc7cec45926", checked := Try.checked }
namespace Rows
def none {H : Type} : Left H := { results := [], args := [] }

/-- 'annuitylaw18.PlanSets': WHATEVER THE INPUT: true; the input reads as it did. -/
def planSetsSpec : ChangeSpec := { name := "planSets", fn := fun _ => fun
  | [d] => { results := [.lit (.bool true)], args := [d] }
  | _ => none }
def planSetsRow : OpenClaim := { program := "ytlhcohipnieidaa", sum := "777741ce7d89efd45771e0a964d8232c0792f6dde64e06200b99bbc7cec45926", func := "annuity/annuitylaw18.PlanSets", spec := "planSets", unfollowed := true, recurses := true, named := ["math/bits.divideError", "math/bits.overflowError"], apart := false }
def PlanSetsSaid : Prop := planSetsRow.holds Try.pinned (OpenSpec.ofChange planSetsSpec)

/-- ITS FALSE NEIGHBOUR: 'it returns false'. Refute it at one input. -/
def planSetsWrong : ChangeSpec := { name := "planSets", fn := fun _ => fun
  | [d] => { results := [.lit (.bool false)], args := [d] }
  | _ => none }
def PlanSetsWrongFalsely : Prop := planSetsRow.holds Try.pinned (OpenSpec.ofChange planSetsWrong)

/-- 'annuitylaw18.PlanLapses': WHATEVER THE INPUT: true; the input reads as it did. -/
def planLapsesSpec : ChangeSpec := { name := "planLapses", fn := fun _ => fun
  | [d1, d2, d3] => { results := [.lit (.bool true)], args := [d1, d2, d3] }
  | _ => none }
def planLapsesRow : OpenClaim := { program := "ytlhcohipnieidaa", sum := "777741ce7d89efd45771e0a964d8232c0792f6dde64e06200b99bbc7cec45926", func := "annuity/annuitylaw18.PlanLapses", spec := "planLapses", unfollowed := true, recurses := true, named := ["math/bits.divideError", "math/bits.overflowError"], apart := false }
def PlanLapsesSaid : Prop := planLapsesRow.holds Try.pinned (OpenSpec.ofChange planLapsesSpec)

/-- ITS FALSE NEIGHBOUR: 'it returns false'. Refute it at one input. -/
def planLapsesWrong : ChangeSpec := { name := "planLapses", fn := fun _ => fun
  | [d1, d2, d3] => { results := [.lit (.bool false)], args := [d1, d2, d3] }
  | _ => none }
def PlanLapsesWrongFalsely : Prop := planLapsesRow.holds Try.pinned (OpenSpec.ofChange planLapsesWrong)

/- THE SECOND FORM. 'bulk': how many values and letters a reading holds, each counted each time it is reached (what is shared counts as often as it is met; a slice's spare places count too). A statement '..UptoSaid' is the law's where the arguments, and the package variables that the reading takes, are together of bulk at most 1048576: NARROWER than '..Said'. Prove '..Said' where nothing that the law and all that it calls make is longer than what came in: it says more and counts as full. Else prove '..UptoSaid'. A law counts once. -/
mutual
def uptoBulk {H : Type} : DataW H → Nat
  | .lit (.string bytes) => bytes.length + 1
  | .lit _ => 1
  | .nil => 1
  | .ptr d => uptoBulk d + 1
  | .slice elems spare => uptoBulkAll elems + uptoBulkAll spare + 1
  | .agg parts => uptoBulkAll parts + 1
  | .iface _ d => uptoBulk d + 1
  | .map entries => uptoBulkEntries entries + 1
  | .held _ => 1
def uptoBulkAll {H : Type} : List (DataW H) → Nat
  | [] => 0
  | d :: r => uptoBulk d + uptoBulkAll r
def uptoBulkEntries {H : Type} : List (Lit × DataW H) → Nat
  | [] => 0
  | x :: r => uptoBulkEntry x + uptoBulkEntries r
def uptoBulkEntry {H : Type} : Lit × DataW H → Nat
  | (.string bytes, d) => bytes.length + uptoBulk d + 1
  | (_, d) => uptoBulk d + 1
 end
def uptoSmall : (H : Type) → List (DataW H) → Bool := fun _ ds => decide (uptoBulkAll ds ≤ 1048576)
def OpenSpec.upto (s : _root_.Go.ChangeSpec) : _root_.Go.OpenSpec := { _root_.Go.OpenSpec.ofChange s with cond := some uptoSmall }

/-- 'annuitylaw18.PlanSets', WHERE WHAT IT READS IS OF BULK AT MOST 1048576: true; the input reads as it did. -/
def planSetsUptoRow : OpenClaim := { program := "ytlhcohipnieidaa", sum := "777741ce7d89efd45771e0a964d8232c0792f6dde64e06200b99bbc7cec45926", func := "annuity/annuitylaw18.PlanSets", spec := "planSets", unfollowed := true, recurses := true, named := ["math/bits.divideError", "math/bits.overflowError"], apart := false, narrowed := true }
def PlanSetsUptoSaid : Prop := planSetsUptoRow.holds Try.pinned (OpenSpec.upto planSetsSpec)

/-- 'annuitylaw18.PlanLapses', WHERE WHAT IT READS IS OF BULK AT MOST 1048576: true; the input reads as it did. -/
def planLapsesUptoRow : OpenClaim := { program := "ytlhcohipnieidaa", sum := "777741ce7d89efd45771e0a964d8232c0792f6dde64e06200b99bbc7cec45926", func := "annuity/annuitylaw18.PlanLapses", spec := "planLapses", unfollowed := true, recurses := true, named := ["math/bits.divideError", "math/bits.overflowError"], apart := false, narrowed := true }
def PlanLapsesUptoSaid : Prop := planLapsesUptoRow.holds Try.pinned (OpenSpec.upto planLapsesSpec)

end Rows
end Go.Proofs.Ytlhcohipnieidaa
