/- LevelMore: Who pays more has no more left; who owes more, at a higher rate, in fewer months, pays no less a month (P15.3; no word of the document's). The given statement, for every input; no condition beyond the row's own. -/
import Derived.Test.YtgobgjokelbngaaRows
import Derived.Test.YtgobgjokelbngaaPx34
import Derived.Test.YtgobgjokelbngaaPureLevelMore
import Derived.WalkKit
import Derived.ProofKit
import Derived.OpenShut
import Derived.ShutString
import Derived.ChangeOld
import Derived.Below
import Derived.SizedLaws
import Derived.Test.YtgobgjokelbngaaWSized
namespace Go.Proofs.Ytgobgjokelbngaa.levelMore
open Go.ChangeShapes Go.WideShapes Go.ChangeAt Go.RowKit
open Go.ChangeMaps (open_string shut_string)
set_option linter.unusedVariables false
theorem own : ownKnob Try.prog.godebug = none := by kernel_rfl
theorem laidOut : laidOutB Try.prog = true := by kernel_rfl
def IsRow (k : IntKind) (w : World) (a : Option Addr) (len cap : Nat) (zs : List Int) : Prop :=
  (a = none ∧ len = 0 ∧ cap = 0 ∧ zs = []) ∨
  ∃ x, a = some x ∧ len ≤ cap ∧ cap ≤ maxLen ∧ zs.length = cap ∧ (∀ i, i < zs.length → w.cell? (x.add i) = some (.int k (zs.getD i 0))) ∧ ∀ n ∈ zs, (Lit.int k n).wf = true
set_option linter.constructorNameAsVariable false
theorem arrayOf55 {α : Type} {cs : Array α} (h : cs.size = 2) : ∃ c0 c1, cs = #[c0, c1] := by
  obtain ⟨l⟩ := cs
  match l, h with
  | [c0, c1], _ => exact ⟨c0, c1, rfl⟩
theorem listOf55 {α : Type} {cs : List α} (h : cs.length = 2) : ∃ c0 c1, cs = [c0, c1] := by
  match cs, h with
  | [c0, c1], _ => exact ⟨c0, c1, rfl⟩
theorem openA55 {H : Type} {enc : TypeId × Value → H} {w : World} {base : Nat} {sp : Nat → Bool} {held : Bool} {r : Reach} {b0 : Nat} {v : Value} {d : DataW H} {p : List MemPlace}
    (hval : Value.okWide Try.prog w r b0 55 v) (hd : DataW.Trod enc Try.prog w base sp held 55 v d p) :
    ∃ (x0 : Int) (x1 : Int), v = .agg #[.int .u32 x0, .int .u32 x1] ∧ (Lit.int .u32 x0).wf = true ∧ (Lit.int .u32 x1).wf = true := by
  have hc54 : Try.prog.cellsOf 54 = 1 := by kernel_rfl
  have hc55 : Try.prog.cellsOf 55 = 2 := by kernel_rfl
  obtain ⟨cs, rfl, hsz⟩ : ∃ cs, v = .agg cs ∧ cs.size = Try.prog.cellsOf 55 := by
    simp only [Value.okWide, Try.underlying55] at hval
    obtain ⟨cs, h1, h2, _⟩ := hval
    exact ⟨cs, h1, h2⟩
  obtain ⟨c0, c1, rfl⟩ := arrayOf55 (hsz.trans hc55)
  obtain ⟨fuel, hy⟩ := hd
  obtain ⟨ys, m, _, hx, _, hl, hf⟩ := Go.DataW.trod_array Try.underlying55 hy
  obtain ⟨y0, y1, rfl⟩ := listOf55 hl
  have h0 := hf 0 (by omega)
  simp [hc54, Value.cells] at h0
  obtain ⟨x0, e0, _, s0⟩ := Go.DataW.trod_int Try.underlying54 h0
  simp at e0
  subst e0
  have h1 := hf 1 (by omega)
  simp [hc54, Value.cells] at h1
  obtain ⟨x1, e1, _, s1⟩ := Go.DataW.trod_int Try.underlying54 h1
  simp at e1
  subst e1
  exact ⟨x0, x1, rfl, s0, s1⟩
theorem arrayOf63 {α : Type} {cs : Array α} (h : cs.size = 4) : ∃ c0 c1 c2 c3, cs = #[c0, c1, c2, c3] := by
  obtain ⟨l⟩ := cs
  match l, h with
  | [c0, c1, c2, c3], _ => exact ⟨c0, c1, c2, c3, rfl⟩
theorem listOf63 {α : Type} {cs : List α} (h : cs.length = 4) : ∃ c0 c1 c2 c3, cs = [c0, c1, c2, c3] := by
  match cs, h with
  | [c0, c1, c2, c3], _ => exact ⟨c0, c1, c2, c3, rfl⟩
theorem openA63 {H : Type} {enc : TypeId × Value → H} {w : World} {base : Nat} {sp : Nat → Bool} {held : Bool} {r : Reach} {b0 : Nat} {v : Value} {d : DataW H} {p : List MemPlace}
    (hval : Value.okWide Try.prog w r b0 63 v) (hd : DataW.Trod enc Try.prog w base sp held 63 v d p) :
    ∃ (x0 : Int) (x1 : Int) (x2 : Int) (x3 : Int), v = .agg #[.int .u16 x0, .int .u16 x1, .int .u16 x2, .int .u16 x3] ∧ (Lit.int .u16 x0).wf = true ∧ (Lit.int .u16 x1).wf = true ∧ (Lit.int .u16 x2).wf = true ∧ (Lit.int .u16 x3).wf = true := by
  have hc62 : Try.prog.cellsOf 62 = 1 := by kernel_rfl
  have hc63 : Try.prog.cellsOf 63 = 4 := by kernel_rfl
  obtain ⟨cs, rfl, hsz⟩ : ∃ cs, v = .agg cs ∧ cs.size = Try.prog.cellsOf 63 := by
    simp only [Value.okWide, Try.underlying63] at hval
    obtain ⟨cs, h1, h2, _⟩ := hval
    exact ⟨cs, h1, h2⟩
  obtain ⟨c0, c1, c2, c3, rfl⟩ := arrayOf63 (hsz.trans hc63)
  obtain ⟨fuel, hy⟩ := hd
  obtain ⟨ys, m, _, hx, _, hl, hf⟩ := Go.DataW.trod_array Try.underlying63 hy
  obtain ⟨y0, y1, y2, y3, rfl⟩ := listOf63 hl
  have h0 := hf 0 (by omega)
  simp [hc62, Value.cells] at h0
  obtain ⟨x0, e0, _, s0⟩ := Go.DataW.trod_int Try.underlying62 h0
  simp at e0
  subst e0
  have h1 := hf 1 (by omega)
  simp [hc62, Value.cells] at h1
  obtain ⟨x1, e1, _, s1⟩ := Go.DataW.trod_int Try.underlying62 h1
  simp at e1
  subst e1
  have h2 := hf 2 (by omega)
  simp [hc62, Value.cells] at h2
  obtain ⟨x2, e2, _, s2⟩ := Go.DataW.trod_int Try.underlying62 h2
  simp at e2
  subst e2
  have h3 := hf 3 (by omega)
  simp [hc62, Value.cells] at h3
  obtain ⟨x3, e3, _, s3⟩ := Go.DataW.trod_int Try.underlying62 h3
  simp at e3
  subst e3
  exact ⟨x0, x1, x2, x3, rfl, s0, s1, s2, s3⟩
set_option maxRecDepth 100000 in
theorem lifted (os : Os) (started : os.Started) (H : Type) (enc : TypeId × Value → H) :
    ReturnsInHanded {} Try.checked os 9 .any (Rows.levelMoreSpec.pre6 enc Try.prog Try.f9 Rows.levelMoreRow.domain false) (Rows.levelMoreSpec.post enc Try.prog Try.f9 false true false false) := by
  refine returnsInHanded_of_change_sized (C := Try.checked) own started (by kernel_rfl) Try.func9
    (ChangeSpec.witness6 (enc := enc) (C := Try.checked) false ⟨#[], #[.agg #[.int .u32 0, .int .u32 0], .agg #[.int .u32 0, .int .u32 0], .agg #[.int .u16 0, .int .u16 0, .int .u16 0, .int .u16 0]], []⟩ 8 (by kernel_rfl) (by kernel_rfl) (by kernel_rfl) (by kernel_rfl)) ?_
  intro W base args ds gs before hval0 hW hcnd hsz0 _
  have hsz : (DataW.weightsEach Try.prog (Try.f9.params.toList ++ Rows.levelMoreSpec.plain.varTypes Try.prog) (ds ++ gs)).all (· ≤ reachBytes) = true := hsz0
  have hval : ∀ (j : Nat) t v, Try.f9.params[j]? = some t → args[j]? = some v → Value.okWide Try.prog W .any base t v := hval0
  have hW' := hW
  obtain ⟨p, q, hA0, hV, rfl, hfz, hnd⟩ := hW
  have hA : DataW.TrodAll enc Try.prog W 0 (fun _ => true) true Try.f9.params.toList args.toList ds p := hA0
  rw [Try.params9] at hA hval hsz
  obtain ⟨v0, vs0, d0, ds0, p0, q0, hargs, rfl, rfl, h0, r0⟩ := trodAll_cons hA
  obtain ⟨v1, vs1, d1, ds1, p1, q1, rfl, rfl, rfl, h1, r1⟩ := trodAll_cons r0
  obtain ⟨v2, vs2, d2, ds2, p2, q2, rfl, rfl, rfl, h2, r2⟩ := trodAll_cons r1
  obtain ⟨rfl, rfl, rfl⟩ := trodAll_nil r2
  obtain rfl : args = #[v0, v1, v2] := by cases args; simp_all
  obtain ⟨rfl, rfl⟩ := trodVars_none hV
  have k0 := h0
  have lt0 : ∀ x ∈ p0, x.block < W.heap.size := by obtain ⟨m, hm⟩ := k0; exact DataW.trod_lt m _ _ _ hm
  obtain ⟨a0_0, a0_1, rfl, w0_0, w0_1⟩ := openA55 (hval 0 55 v0 rfl rfl) h0
  have k1 := h1
  have lt1 : ∀ x ∈ p1, x.block < W.heap.size := by obtain ⟨m, hm⟩ := k1; exact DataW.trod_lt m _ _ _ hm
  obtain ⟨a1_0, a1_1, rfl, w1_0, w1_1⟩ := openA55 (hval 1 55 v1 rfl rfl) h1
  have k2 := h2
  have lt2 : ∀ x ∈ p2, x.block < W.heap.size := by obtain ⟨m, hm⟩ := k2; exact DataW.trod_lt m _ _ _ hm
  obtain ⟨a2_0, a2_1, a2_2, a2_3, rfl, w2_0, w2_1, w2_2, w2_3⟩ := openA63 (hval 2 63 v2 rfl rfl) h2
  clear hA0 hval0 hsz0 hsz
  refine (P.annuitylaw15_LevelMore.walk Pure.LevelMore a0_0 a0_1 a1_0 a1_1 a2_0 a2_1 a2_2 a2_3 W w0_0 w0_1 w1_0 w1_1 w2_0 w2_1 w2_2 w2_3).mono fun e W' ⟨he, bel⟩ => ?_
  subst he
  exact ⟨_, rfl, _, _, _, [], _, [], hW', trodAll_mk1 (shut_bool Try.underlying4 _), (trodAll_cons_mk (Below.trod laidOut (by kernel_rfl) (of_decide_eq_true (by kernel_rfl)) k0 bel lt0) (trodAll_cons_mk (Below.trod laidOut (by kernel_rfl) (of_decide_eq_true (by kernel_rfl)) k1 bel lt1) (trodAll_cons_mk (Below.trod laidOut (by kernel_rfl) (of_decide_eq_true (by kernel_rfl)) k2 bel lt2) trodAll_mk0))), rfl, bel.frame _, fun h => by cases h⟩
theorem over : Rows.levelMoreRow.holds Try.pinned (OpenSpec.ofChange Rows.levelMoreSpec) :=
  OpenClaim.holds_of_wide 9 Try.f9 rfl rfl rfl rfl rfl rfl rfl ⟨rfl, rfl, rfl, rfl, rfl⟩ rfl rfl rfl rfl rfl (by kernel_rfl) Try.func9 (by kernel_rfl)
    (of_decide_eq_true (by kernel_rfl)) (by unfold Func.isWrapper; first | (rw [if_pos (by decide +kernel)]; kernel_rfl) | (rw [if_neg (by decide +kernel)]; exact ⟨rfl, rfl⟩))
    (fun os started H enc _ => lifted os started H enc)
theorem proved : Rows.LevelMoreSaid := over
#print axioms proved
end Go.Proofs.Ytgobgjokelbngaa.levelMore
namespace Go.Proofs.Ytgobgjokelbngaa
/-- The row, under a short name, for the claim. -/
theorem levelMore_holds : Rows.LevelMoreSaid := levelMore.proved
end Go.Proofs.Ytgobgjokelbngaa
