/-
  No cell of these rows narrows 'for every input' (looked for: loops, veiled, ifaces, maps, wideKeys, modest, calm, conditions, laid).
  DERIVED. THE GIVEN ROWS OF THIS SEAT. 3 by the template 'for every input the law returns true; each argument reads behind the call as it read before'; 0 by the template 'total and deterministic' (their statements: YtakcepffodipfaaTotals.lean).
  GIVEN WITH THE SEED: the statements are not yours to turn. If you find one false, say at which input.
  Laid BY PROGRAM, IN A SANDBOX (cutbox-rows.mjs): the forced cells as the released guide's own fill.sh prints them over the translation 75ec1a6b8f9a6bea… (all of the seat's roots in one cut). By AI agents, Wed Nov 11 2026. No macro, syntax, notation, axiom, sorry.
-/
import Derived.Test.YtakcepffodipfaaChecked
import GoSem.Claim
import GoSem.ClaimJoined
import GoSem.ClaimMapViews
import Derived.JoinedTies
import Derived.KernelRfl
namespace Go.Proofs.Ytakcepffodipfaa
/- THE CELL 'sum', in the pinned program and in every row, IS THE sha256 OF THE DUMP (.gsa) THAT YtakcepffodipfaaProg.lean LOADS. Nothing in Lean hashes anything: it is a label: what it is worth is what the hold of that sum in a sandbox is worth. -/
noncomputable def Try.pinned : Pinned := { name := "ytakcepffodipfaa", sum := "75ec1a6b8f9a6bea90e8e7511b2e711fbd34b2e6a420379902c870c9569fa858", checked := Try.checked }
namespace Rows
def none {H : Type} : Left H := { results := [], args := [] }

/-- 'annuitylaw21.BlendTells': WHATEVER THE INPUT: true; the input reads as it did. -/
def blendTellsSpec : ChangeSpec := { name := "blendTells", fn := fun _ => fun
  | [d1, d2, d3] => { results := [.lit (.bool true)], args := [d1, d2, d3] }
  | _ => none }
def blendTellsRow : OpenClaim := { program := "ytakcepffodipfaa", sum := "75ec1a6b8f9a6bea90e8e7511b2e711fbd34b2e6a420379902c870c9569fa858", func := "annuity/annuitylaw21.BlendTells", spec := "blendTells", inPlace := ["math/bits.Add64"], unfollowed := true, recurses := true, named := ["math/bits.divideError", "math/bits.overflowError"], apart := false }
def BlendTellsSaid : Prop := blendTellsRow.holds Try.pinned (OpenSpec.ofChange blendTellsSpec)

/-- ITS FALSE NEIGHBOUR: 'it returns false'. Refute it at one input. -/
def blendTellsWrong : ChangeSpec := { name := "blendTells", fn := fun _ => fun
  | [d1, d2, d3] => { results := [.lit (.bool false)], args := [d1, d2, d3] }
  | _ => none }
def BlendTellsWrongFalsely : Prop := blendTellsRow.holds Try.pinned (OpenSpec.ofChange blendTellsWrong)

/-- 'annuitylaw21.BlendBetween': WHATEVER THE INPUT: true; the input reads as it did. -/
def blendBetweenSpec : ChangeSpec := { name := "blendBetween", fn := fun _ => fun
  | [d1, d2] => { results := [.lit (.bool true)], args := [d1, d2] }
  | _ => none }
def blendBetweenRow : OpenClaim := { program := "ytakcepffodipfaa", sum := "75ec1a6b8f9a6bea90e8e7511b2e711fbd34b2e6a420379902c870c9569fa858", func := "annuity/annuitylaw21.BlendBetween", spec := "blendBetween", inPlace := ["math/bits.Add64"], unfollowed := true, recurses := true, named := ["math/bits.divideError", "math/bits.overflowError"], apart := false }
def BlendBetweenSaid : Prop := blendBetweenRow.holds Try.pinned (OpenSpec.ofChange blendBetweenSpec)

/-- ITS FALSE NEIGHBOUR: 'it returns false'. Refute it at one input. -/
def blendBetweenWrong : ChangeSpec := { name := "blendBetween", fn := fun _ => fun
  | [d1, d2] => { results := [.lit (.bool false)], args := [d1, d2] }
  | _ => none }
def BlendBetweenWrongFalsely : Prop := blendBetweenRow.holds Try.pinned (OpenSpec.ofChange blendBetweenWrong)

/-- 'annuitylaw21.BlendOrder': WHATEVER THE INPUT: true; the input reads as it did. -/
def blendOrderSpec : ChangeSpec := { name := "blendOrder", fn := fun _ => fun
  | [d1, d2] => { results := [.lit (.bool true)], args := [d1, d2] }
  | _ => none }
def blendOrderRow : OpenClaim := { program := "ytakcepffodipfaa", sum := "75ec1a6b8f9a6bea90e8e7511b2e711fbd34b2e6a420379902c870c9569fa858", func := "annuity/annuitylaw21.BlendOrder", spec := "blendOrder", inPlace := ["math/bits.Add64"], unfollowed := true, recurses := true, named := ["math/bits.divideError", "math/bits.overflowError"], apart := false }
def BlendOrderSaid : Prop := blendOrderRow.holds Try.pinned (OpenSpec.ofChange blendOrderSpec)

/-- ITS FALSE NEIGHBOUR: 'it returns false'. Refute it at one input. -/
def blendOrderWrong : ChangeSpec := { name := "blendOrder", fn := fun _ => fun
  | [d1, d2] => { results := [.lit (.bool false)], args := [d1, d2] }
  | _ => none }
def BlendOrderWrongFalsely : Prop := blendOrderRow.holds Try.pinned (OpenSpec.ofChange blendOrderWrong)

/- THE SECOND FORM. 'bulk': how many values and letters a reading holds, each counted each time it is reached (what is shared counts as often as it is met; a slice's spare places count too). A statement '..UptoSaid' is the law's where the arguments, and the package variables that the reading takes, are together of bulk at most 1048576: NARROWER than '..Said'. Prove '..Said' where nothing that the law and all that it calls make is longer than what came in: it says more and counts as full. Else prove '..UptoSaid'. A law counts once. -/
mutual
def uptoBulk {H : Type} : DataW H → Nat
  | .lit (.string bytes) => bytes.length + 1
  | .lit _ => 1
  | .nil => 1
  | .ptr d => uptoBulk d + 1
  | .slice elems spare => uptoBulkAll elems + uptoBulkAll spare + 1
  | .agg parts => uptoBulkAll parts + 1
  | .iface _ d => uptoBulk d + 1
  | .map entries => uptoBulkEntries entries + 1
  | .held _ => 1
def uptoBulkAll {H : Type} : List (DataW H) → Nat
  | [] => 0
  | d :: r => uptoBulk d + uptoBulkAll r
def uptoBulkEntries {H : Type} : List (Lit × DataW H) → Nat
  | [] => 0
  | x :: r => uptoBulkEntry x + uptoBulkEntries r
def uptoBulkEntry {H : Type} : Lit × DataW H → Nat
  | (.string bytes, d) => bytes.length + uptoBulk d + 1
  | (_, d) => uptoBulk d + 1
 end
def uptoSmall : (H : Type) → List (DataW H) → Bool := fun _ ds => decide (uptoBulkAll ds ≤ 1048576)
def OpenSpec.upto (s : _root_.Go.ChangeSpec) : _root_.Go.OpenSpec := { _root_.Go.OpenSpec.ofChange s with cond := some uptoSmall }

/-- 'annuitylaw21.BlendTells', WHERE WHAT IT READS IS OF BULK AT MOST 1048576: true; the input reads as it did. -/
def blendTellsUptoRow : OpenClaim := { program := "ytakcepffodipfaa", sum := "75ec1a6b8f9a6bea90e8e7511b2e711fbd34b2e6a420379902c870c9569fa858", func := "annuity/annuitylaw21.BlendTells", spec := "blendTells", inPlace := ["math/bits.Add64"], unfollowed := true, recurses := true, named := ["math/bits.divideError", "math/bits.overflowError"], apart := false, narrowed := true }
def BlendTellsUptoSaid : Prop := blendTellsUptoRow.holds Try.pinned (OpenSpec.upto blendTellsSpec)

/-- 'annuitylaw21.BlendBetween', WHERE WHAT IT READS IS OF BULK AT MOST 1048576: true; the input reads as it did. -/
def blendBetweenUptoRow : OpenClaim := { program := "ytakcepffodipfaa", sum := "75ec1a6b8f9a6bea90e8e7511b2e711fbd34b2e6a420379902c870c9569fa858", func := "annuity/annuitylaw21.BlendBetween", spec := "blendBetween", inPlace := ["math/bits.Add64"], unfollowed := true, recurses := true, named := ["math/bits.divideError", "math/bits.overflowError"], apart := false, narrowed := true }
def BlendBetweenUptoSaid : Prop := blendBetweenUptoRow.holds Try.pinned (OpenSpec.upto blendBetweenSpec)

/-- 'annuitylaw21.BlendOrder', WHERE WHAT IT READS IS OF BULK AT MOST 1048576: true; the input reads as it did. -/
def blendOrderUptoRow : OpenClaim := { program := "ytakcepffodipfaa", sum := "75ec1a6b8f9a6bea90e8e7511b2e711fbd34b2e6a420379902c870c9569fa858", func := "annuity/annuitylaw21.BlendOrder", spec := "blendOrder", inPlace := ["math/bits.Add64"], unfollowed := true, recurses := true, named := ["math/bits.divideError", "math/bits.overflowError"], apart := false, narrowed := true }
def BlendOrderUptoSaid : Prop := blendOrderUptoRow.holds Try.pinned (OpenSpec.upto blendOrderSpec)

end Rows
end Go.Proofs.Ytakcepffodipfaa
