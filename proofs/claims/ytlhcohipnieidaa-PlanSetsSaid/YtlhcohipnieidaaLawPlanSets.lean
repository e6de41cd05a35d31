/- PlanSets: What the plans will ask of any loan a month, or that it can't be (P18.2). The given statement, for every input; no condition beyond the row's own. -/
import Derived.Test.YtlhcohipnieidaaRows
import Derived.Test.YtlhcohipnieidaaPx34
import Derived.Test.YtlhcohipnieidaaPurePlanSets
import Derived.WalkKit
import Derived.ProofKit
import Derived.OpenShut
import Derived.ShutString
import Derived.ChangeOld
import Derived.Below
import Derived.SizedLaws
import Derived.Test.YtlhcohipnieidaaWAll
namespace Go.Proofs.Ytlhcohipnieidaa.planSets
open Go.ChangeShapes Go.WideShapes Go.ChangeAt Go.RowKit
open Go.ChangeMaps (open_string shut_string)
set_option linter.unusedVariables false
theorem own : ownKnob Try.prog.godebug = none := by kernel_rfl
theorem laidOut : laidOutB Try.prog = true := by kernel_rfl
def IsRow (k : IntKind) (w : World) (a : Option Addr) (len cap : Nat) (zs : List Int) : Prop :=
  (a = none ∧ len = 0 ∧ cap = 0 ∧ zs = []) ∨
  ∃ x, a = some x ∧ len ≤ cap ∧ cap ≤ maxLen ∧ zs.length = cap ∧ (∀ i, i < zs.length → w.cell? (x.add i) = some (.int k (zs.getD i 0))) ∧ ∀ n ∈ zs, (Lit.int k n).wf = true
set_option linter.constructorNameAsVariable false
theorem arrayOf23 {α : Type} {cs : Array α} (h : cs.size = 13) : ∃ c0 c1 c2 c3 c4 c5 c6 c7 c8 c9 c10 c11 c12, cs = #[c0, c1, c2, c3, c4, c5, c6, c7, c8, c9, c10, c11, c12] := by
  obtain ⟨l⟩ := cs
  match l, h with
  | [c0, c1, c2, c3, c4, c5, c6, c7, c8, c9, c10, c11, c12], _ => exact ⟨c0, c1, c2, c3, c4, c5, c6, c7, c8, c9, c10, c11, c12, rfl⟩
theorem listOf23 {α : Type} {cs : List α} (h : cs.length = 13) : ∃ c0 c1 c2 c3 c4 c5 c6 c7 c8 c9 c10 c11 c12, cs = [c0, c1, c2, c3, c4, c5, c6, c7, c8, c9, c10, c11, c12] := by
  match cs, h with
  | [c0, c1, c2, c3, c4, c5, c6, c7, c8, c9, c10, c11, c12], _ => exact ⟨c0, c1, c2, c3, c4, c5, c6, c7, c8, c9, c10, c11, c12, rfl⟩
theorem openA23 {H : Type} {enc : TypeId × Value → H} {w : World} {base : Nat} {sp : Nat → Bool} {held : Bool} {r : Reach} {b0 : Nat} {v : Value} {d : DataW H} {p : List MemPlace}
    (hval : Value.okWide Try.prog w r b0 23 v) (hd : DataW.Trod enc Try.prog w base sp held 23 v d p) :
    ∃ (x0 : Int) (x1 : Int) (x2 : Int) (x3 : Int) (x4 : Int) (x5 : Int) (x6 : Bool) (x7 : Int) (x8 : Int) (x9 : Int) (x10 : Int) (x11 : Int) (x12 : Int), v = .agg #[.int .i64 x0, .int .i64 x1, .int .i64 x2, .int .i64 x3, .int .i64 x4, .int .i64 x5, .bool x6, .int .i64 x7, .int .i64 x8, .int .i64 x9, .int .i64 x10, .int .i64 x11, .int .i64 x12] ∧ (Lit.int .i64 x0).wf = true ∧ (Lit.int .i64 x1).wf = true ∧ (Lit.int .i64 x2).wf = true ∧ (Lit.int .i64 x3).wf = true ∧ (Lit.int .i64 x4).wf = true ∧ (Lit.int .i64 x5).wf = true ∧ (Lit.int .i64 x7).wf = true ∧ (Lit.int .i64 x8).wf = true ∧ (Lit.int .i64 x9).wf = true ∧ (Lit.int .i64 x10).wf = true ∧ (Lit.int .i64 x11).wf = true ∧ (Lit.int .i64 x12).wf = true := by
  have hc2 : Try.prog.cellsOf 2 = 1 := by kernel_rfl
  have hc3 : Try.prog.cellsOf 3 = 1 := by kernel_rfl
  have hc4 : Try.prog.cellsOf 4 = 1 := by kernel_rfl
  have hc23 : Try.prog.cellsOf 23 = 13 := by kernel_rfl
  obtain ⟨cs, rfl, hsz⟩ : ∃ cs, v = .agg cs ∧ cs.size = Try.prog.cellsOf 23 := by
    simp only [Value.okWide, Try.underlying23] at hval
    obtain ⟨cs, h1, h2, _⟩ := hval
    exact ⟨cs, h1, h2⟩
  obtain ⟨c0, c1, c2, c3, c4, c5, c6, c7, c8, c9, c10, c11, c12, rfl⟩ := arrayOf23 (hsz.trans hc23)
  obtain ⟨fuel, hy⟩ := hd
  obtain ⟨ys, m, _, hx, _, hl, hf⟩ := Go.DataW.trod_struct Try.underlying23 hy
  obtain ⟨y0, y1, y2, y3, y4, y5, y6, y7, y8, y9, y10, y11, y12, rfl⟩ := listOf23 hl
  have h0 := hf 0 _ rfl
  simp [hc3, Value.cells] at h0
  obtain ⟨x0, e0, _, s0⟩ := Go.DataW.trod_int Try.underlying3 h0
  simp at e0
  subst e0
  have h1 := hf 1 _ rfl
  simp [hc2, Value.cells] at h1
  obtain ⟨x1, e1, _, s1⟩ := Go.DataW.trod_int Try.underlying2 h1
  simp at e1
  subst e1
  have h2 := hf 2 _ rfl
  simp [hc2, Value.cells] at h2
  obtain ⟨x2, e2, _, s2⟩ := Go.DataW.trod_int Try.underlying2 h2
  simp at e2
  subst e2
  have h3 := hf 3 _ rfl
  simp [hc2, Value.cells] at h3
  obtain ⟨x3, e3, _, s3⟩ := Go.DataW.trod_int Try.underlying2 h3
  simp at e3
  subst e3
  have h4 := hf 4 _ rfl
  simp [hc2, Value.cells] at h4
  obtain ⟨x4, e4, _, s4⟩ := Go.DataW.trod_int Try.underlying2 h4
  simp at e4
  subst e4
  have h5 := hf 5 _ rfl
  simp [hc3, Value.cells] at h5
  obtain ⟨x5, e5, _, s5⟩ := Go.DataW.trod_int Try.underlying3 h5
  simp at e5
  subst e5
  have h6 := hf 6 _ rfl
  simp [hc4, Value.cells] at h6
  obtain ⟨x6, e6, _⟩ := Go.DataW.trod_bool Try.underlying4 h6
  simp at e6
  subst e6
  have h7 := hf 7 _ rfl
  simp [hc3, Value.cells] at h7
  obtain ⟨x7, e7, _, s7⟩ := Go.DataW.trod_int Try.underlying3 h7
  simp at e7
  subst e7
  have h8 := hf 8 _ rfl
  simp [hc3, Value.cells] at h8
  obtain ⟨x8, e8, _, s8⟩ := Go.DataW.trod_int Try.underlying3 h8
  simp at e8
  subst e8
  have h9 := hf 9 _ rfl
  simp [hc3, Value.cells] at h9
  obtain ⟨x9, e9, _, s9⟩ := Go.DataW.trod_int Try.underlying3 h9
  simp at e9
  subst e9
  have h10 := hf 10 _ rfl
  simp [hc2, Value.cells] at h10
  obtain ⟨x10, e10, _, s10⟩ := Go.DataW.trod_int Try.underlying2 h10
  simp at e10
  subst e10
  have h11 := hf 11 _ rfl
  simp [hc2, Value.cells] at h11
  obtain ⟨x11, e11, _, s11⟩ := Go.DataW.trod_int Try.underlying2 h11
  simp at e11
  subst e11
  have h12 := hf 12 _ rfl
  simp [hc3, Value.cells] at h12
  obtain ⟨x12, e12, _, s12⟩ := Go.DataW.trod_int Try.underlying3 h12
  simp at e12
  subst e12
  exact ⟨x0, x1, x2, x3, x4, x5, x6, x7, x8, x9, x10, x11, x12, rfl, s0, s1, s2, s3, s4, s5, s7, s8, s9, s10, s11, s12⟩
set_option maxRecDepth 100000 in
theorem lifted (os : Os) (started : os.Started) (H : Type) (enc : TypeId × Value → H) :
    ReturnsInHanded {} Try.checked os 3 .any (Rows.planSetsSpec.pre6 enc Try.prog Try.f3 Rows.planSetsRow.domain false) (Rows.planSetsSpec.post enc Try.prog Try.f3 false true false false) := by
  refine returnsInHanded_of_change_sized (C := Try.checked) own started (by kernel_rfl) Try.func3
    (ChangeSpec.witness6 (enc := enc) (C := Try.checked) false ⟨#[], #[.agg #[.int .i64 0, .int .i64 0, .int .i64 0, .int .i64 0, .int .i64 0, .int .i64 0, .bool false, .int .i64 0, .int .i64 0, .int .i64 0, .int .i64 0, .int .i64 0, .int .i64 0]], []⟩ 8 (by kernel_rfl) (by kernel_rfl) (by kernel_rfl) (by kernel_rfl)) ?_
  intro W base args ds gs before hval0 hW hcnd hsz0 _
  have hsz : (DataW.weightsEach Try.prog (Try.f3.params.toList ++ Rows.planSetsSpec.plain.varTypes Try.prog) (ds ++ gs)).all (· ≤ reachBytes) = true := hsz0
  have hval : ∀ (j : Nat) t v, Try.f3.params[j]? = some t → args[j]? = some v → Value.okWide Try.prog W .any base t v := hval0
  have hW' := hW
  obtain ⟨p, q, hA0, hV, rfl, hfz, hnd⟩ := hW
  have hA : DataW.TrodAll enc Try.prog W 0 (fun _ => true) true Try.f3.params.toList args.toList ds p := hA0
  rw [Try.params3] at hA hval hsz
  obtain ⟨v0, vs0, d0, ds0, p0, q0, hargs, rfl, rfl, h0, r0⟩ := trodAll_cons hA
  obtain ⟨rfl, rfl, rfl⟩ := trodAll_nil r0
  obtain rfl : args = #[v0] := by cases args; simp_all
  obtain ⟨rfl, rfl⟩ := trodVars_none hV
  have k0 := h0
  have lt0 : ∀ x ∈ p0, x.block < W.heap.size := by obtain ⟨m, hm⟩ := k0; exact DataW.trod_lt m _ _ _ hm
  obtain ⟨a0_0, a0_1, a0_2, a0_3, a0_4, a0_5, a0_6, a0_7, a0_8, a0_9, a0_10, a0_11, a0_12, rfl, w0_0, w0_1, w0_2, w0_3, w0_4, w0_5, w0_7, w0_8, w0_9, w0_10, w0_11, w0_12⟩ := openA23 (hval 0 23 v0 rfl rfl) h0
  clear hA0 hval0 hsz0 hsz
  refine (P.annuitylaw18_PlanSets.walk Pure.PlanSets a0_0 a0_1 a0_2 a0_3 a0_4 a0_5 a0_6 a0_7 a0_8 a0_9 a0_10 a0_11 a0_12 W w0_0 w0_1 w0_2 w0_3 w0_4 w0_5 w0_7 w0_8 w0_9 w0_10 w0_11 w0_12).mono fun e W' ⟨he, bel⟩ => ?_
  subst he
  exact ⟨_, rfl, _, _, _, [], _, [], hW', trodAll_mk1 (shut_bool Try.underlying4 _), (trodAll_cons_mk (Below.trod laidOut (by kernel_rfl) (of_decide_eq_true (by kernel_rfl)) k0 bel lt0) trodAll_mk0), rfl, bel.frame _, fun h => by cases h⟩
theorem over : Rows.planSetsRow.holds Try.pinned (OpenSpec.ofChange Rows.planSetsSpec) :=
  OpenClaim.holds_of_wide 3 Try.f3 rfl rfl rfl rfl rfl rfl rfl ⟨rfl, rfl, rfl, rfl, rfl⟩ rfl rfl rfl rfl rfl (by kernel_rfl) Try.func3 (by kernel_rfl)
    (of_decide_eq_true (by kernel_rfl)) (by unfold Func.isWrapper; first | (rw [if_pos (by decide +kernel)]; kernel_rfl) | (rw [if_neg (by decide +kernel)]; exact ⟨rfl, rfl⟩))
    (fun os started H enc _ => lifted os started H enc)
theorem proved : Rows.PlanSetsSaid := over
#print axioms proved
end Go.Proofs.Ytlhcohipnieidaa.planSets
namespace Go.Proofs.Ytlhcohipnieidaa
/-- The row, under a short name, for the claim. -/
theorem planSets_holds : Rows.PlanSetsSaid := planSets.proved
end Go.Proofs.Ytlhcohipnieidaa
