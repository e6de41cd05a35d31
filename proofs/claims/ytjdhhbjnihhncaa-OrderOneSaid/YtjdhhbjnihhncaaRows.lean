/-
  No cell of these rows narrows 'for every input' (looked for: loops, veiled, ifaces, maps, wideKeys, modest, calm, conditions, laid).
  DERIVED. THE GIVEN ROWS OF THIS SEAT. 3 by the template 'for every input the law returns true; each argument reads behind the call as it read before'; 0 by the template 'total and deterministic' (their statements: YtjdhhbjnihhncaaTotals.lean).
  GIVEN WITH THE SEED: the statements are not yours to turn. If you find one false, say at which input.
  Laid BY PROGRAM, IN A SANDBOX (cutbox-rows.mjs): the forced cells as the released guide's own fill.sh prints them over the translation 691321b1e66df77d… (all of the seat's roots in one cut). By AI agents, Wed Nov 11 2026. No macro, syntax, notation, axiom, sorry.
-/
import Derived.Test.YtjdhhbjnihhncaaChecked
import GoSem.Claim
import GoSem.ClaimJoined
import GoSem.ClaimMapViews
import Derived.JoinedTies
import Derived.KernelRfl
namespace Go.Proofs.Ytjdhhbjnihhncaa
/- THE CELL 'sum', in the pinned program and in every row, IS THE sha256 OF THE DUMP (.gsa) THAT YtjdhhbjnihhncaaProg.lean LOADS. Nothing in Lean hashes anything: it is a label: what it is worth is what the hold of that sum in a sandbox is worth. -/
noncomputable def Try.pinned : Pinned := { name := "ytjdhhbjnihhncaa", sum := "691321b1e66df77d96d84fabc5d9cebb5bde83f8601f7c89275e53ab8dc9a359", checked := Try.checked }
namespace Rows
def none {H : Type} : Left H := { results := [], args := [] }

/-- 'annuitylaw23.OrderTells': WHATEVER THE INPUT: true; the input reads as it did. -/
def orderTellsSpec : ChangeSpec := { name := "orderTells", fn := fun _ => fun
  | [d1, d2, d3] => { results := [.lit (.bool true)], args := [d1, d2, d3] }
  | _ => none }
def orderTellsRow : OpenClaim := { program := "ytjdhhbjnihhncaa", sum := "691321b1e66df77d96d84fabc5d9cebb5bde83f8601f7c89275e53ab8dc9a359", func := "annuity/annuitylaw23.OrderTells", spec := "orderTells", inPlace := ["slices.overlaps[annuity/api.Event]", "math.Float64bits"], unfollowed := true, recurses := true, apart := false }
def OrderTellsSaid : Prop := orderTellsRow.holds Try.pinned (OpenSpec.ofChange orderTellsSpec)

/-- ITS FALSE NEIGHBOUR: 'it returns false'. Refute it at one input. -/
def orderTellsWrong : ChangeSpec := { name := "orderTells", fn := fun _ => fun
  | [d1, d2, d3] => { results := [.lit (.bool false)], args := [d1, d2, d3] }
  | _ => none }
def OrderTellsWrongFalsely : Prop := orderTellsRow.holds Try.pinned (OpenSpec.ofChange orderTellsWrong)

/-- 'annuitylaw23.OrderOne': WHATEVER THE INPUT: true; the input reads as it did. -/
def orderOneSpec : ChangeSpec := { name := "orderOne", fn := fun _ => fun
  | [d1, d2] => { results := [.lit (.bool true)], args := [d1, d2] }
  | _ => none }
def orderOneRow : OpenClaim := { program := "ytjdhhbjnihhncaa", sum := "691321b1e66df77d96d84fabc5d9cebb5bde83f8601f7c89275e53ab8dc9a359", func := "annuity/annuitylaw23.OrderOne", spec := "orderOne", inPlace := ["slices.overlaps[annuity/api.Event]", "math.Float64bits"], unfollowed := true, recurses := true, apart := false }
def OrderOneSaid : Prop := orderOneRow.holds Try.pinned (OpenSpec.ofChange orderOneSpec)

/-- ITS FALSE NEIGHBOUR: 'it returns false'. Refute it at one input. -/
def orderOneWrong : ChangeSpec := { name := "orderOne", fn := fun _ => fun
  | [d1, d2] => { results := [.lit (.bool false)], args := [d1, d2] }
  | _ => none }
def OrderOneWrongFalsely : Prop := orderOneRow.holds Try.pinned (OpenSpec.ofChange orderOneWrong)

/-- 'annuitylaw23.OrderLast': WHATEVER THE INPUT: true; the input reads as it did. -/
def orderLastSpec : ChangeSpec := { name := "orderLast", fn := fun _ => fun
  | [d1, d2] => { results := [.lit (.bool true)], args := [d1, d2] }
  | _ => none }
def orderLastRow : OpenClaim := { program := "ytjdhhbjnihhncaa", sum := "691321b1e66df77d96d84fabc5d9cebb5bde83f8601f7c89275e53ab8dc9a359", func := "annuity/annuitylaw23.OrderLast", spec := "orderLast", inPlace := ["slices.overlaps[annuity/api.Event]", "math.Float64bits"], unfollowed := true, recurses := true, apart := false }
def OrderLastSaid : Prop := orderLastRow.holds Try.pinned (OpenSpec.ofChange orderLastSpec)

/-- ITS FALSE NEIGHBOUR: 'it returns false'. Refute it at one input. -/
def orderLastWrong : ChangeSpec := { name := "orderLast", fn := fun _ => fun
  | [d1, d2] => { results := [.lit (.bool false)], args := [d1, d2] }
  | _ => none }
def OrderLastWrongFalsely : Prop := orderLastRow.holds Try.pinned (OpenSpec.ofChange orderLastWrong)

/- THE SECOND FORM. 'bulk': how many values and letters a reading holds, each counted each time it is reached (what is shared counts as often as it is met; a slice's spare places count too). A statement '..UptoSaid' is the law's where the arguments, and the package variables that the reading takes, are together of bulk at most 1048576: NARROWER than '..Said'. Prove '..Said' where nothing that the law and all that it calls make is longer than what came in: it says more and counts as full. Else prove '..UptoSaid'. A law counts once. -/
mutual
def uptoBulk {H : Type} : DataW H → Nat
  | .lit (.string bytes) => bytes.length + 1
  | .lit _ => 1
  | .nil => 1
  | .ptr d => uptoBulk d + 1
  | .slice elems spare => uptoBulkAll elems + uptoBulkAll spare + 1
  | .agg parts => uptoBulkAll parts + 1
  | .iface _ d => uptoBulk d + 1
  | .map entries => uptoBulkEntries entries + 1
  | .held _ => 1
def uptoBulkAll {H : Type} : List (DataW H) → Nat
  | [] => 0
  | d :: r => uptoBulk d + uptoBulkAll r
def uptoBulkEntries {H : Type} : List (Lit × DataW H) → Nat
  | [] => 0
  | x :: r => uptoBulkEntry x + uptoBulkEntries r
def uptoBulkEntry {H : Type} : Lit × DataW H → Nat
  | (.string bytes, d) => bytes.length + uptoBulk d + 1
  | (_, d) => uptoBulk d + 1
 end
def uptoSmall : (H : Type) → List (DataW H) → Bool := fun _ ds => decide (uptoBulkAll ds ≤ 1048576)
def OpenSpec.upto (s : _root_.Go.ChangeSpec) : _root_.Go.OpenSpec := { _root_.Go.OpenSpec.ofChange s with cond := some uptoSmall }

/-- 'annuitylaw23.OrderTells', WHERE WHAT IT READS IS OF BULK AT MOST 1048576: true; the input reads as it did. -/
def orderTellsUptoRow : OpenClaim := { program := "ytjdhhbjnihhncaa", sum := "691321b1e66df77d96d84fabc5d9cebb5bde83f8601f7c89275e53ab8dc9a359", func := "annuity/annuitylaw23.OrderTells", spec := "orderTells", inPlace := ["slices.overlaps[annuity/api.Event]", "math.Float64bits"], unfollowed := true, recurses := true, apart := false, narrowed := true }
def OrderTellsUptoSaid : Prop := orderTellsUptoRow.holds Try.pinned (OpenSpec.upto orderTellsSpec)

/-- 'annuitylaw23.OrderOne', WHERE WHAT IT READS IS OF BULK AT MOST 1048576: true; the input reads as it did. -/
def orderOneUptoRow : OpenClaim := { program := "ytjdhhbjnihhncaa", sum := "691321b1e66df77d96d84fabc5d9cebb5bde83f8601f7c89275e53ab8dc9a359", func := "annuity/annuitylaw23.OrderOne", spec := "orderOne", inPlace := ["slices.overlaps[annuity/api.Event]", "math.Float64bits"], unfollowed := true, recurses := true, apart := false, narrowed := true }
def OrderOneUptoSaid : Prop := orderOneUptoRow.holds Try.pinned (OpenSpec.upto orderOneSpec)

/-- 'annuitylaw23.OrderLast', WHERE WHAT IT READS IS OF BULK AT MOST 1048576: true; the input reads as it did. -/
def orderLastUptoRow : OpenClaim := { program := "ytjdhhbjnihhncaa", sum := "691321b1e66df77d96d84fabc5d9cebb5bde83f8601f7c89275e53ab8dc9a359", func := "annuity/annuitylaw23.OrderLast", spec := "orderLast", inPlace := ["slices.overlaps[annuity/api.Event]", "math.Float64bits"], unfollowed := true, recurses := true, apart := false, narrowed := true }
def OrderLastUptoSaid : Prop := orderLastUptoRow.holds Try.pinned (OpenSpec.upto orderLastSpec)

end Rows
end Go.Proofs.Ytjdhhbjnihhncaa
