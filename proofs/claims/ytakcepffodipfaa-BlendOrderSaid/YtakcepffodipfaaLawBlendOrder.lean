/- BlendOrder: In whatever order the loans stand, rate and count are the same; a loan that is two with half each counts the same (P21.1; no word of the document's). The given statement, for every input; no condition beyond the row's own. -/
import Derived.Deep.Slices
import Derived.Test.YtakcepffodipfaaRows
import Derived.Test.YtakcepffodipfaaPx32
import Derived.Test.YtakcepffodipfaaPureBlendOrder
import Derived.WalkKit
import Derived.ProofKit
import Derived.OpenShut
import Derived.ShutString
import Derived.ChangeOld
import Derived.Below
import Derived.SizedLaws
import Derived.Test.YtakcepffodipfaaWAll
namespace Go.Proofs.Ytakcepffodipfaa.blendOrder
open Go.ChangeShapes Go.WideShapes Go.ChangeAt Go.RowKit
open Go.ChangeMaps (open_string shut_string)
open Go.Proofs.YtakcepffodipfaaW.PrintWords
set_option linter.unusedVariables false
theorem own : ownKnob Try.prog.godebug = none := by kernel_rfl
theorem laidOut : laidOutB Try.prog = true := by kernel_rfl
def IsRow (k : IntKind) (w : World) (a : Option Addr) (len cap : Nat) (zs : List Int) : Prop :=
  (a = none ∧ len = 0 ∧ cap = 0 ∧ zs = []) ∨
  ∃ x, a = some x ∧ len ≤ cap ∧ cap ≤ maxLen ∧ zs.length = cap ∧ (∀ i, i < zs.length → w.cell? (x.add i) = some (.int k (zs.getD i 0))) ∧ ∀ n ∈ zs, (Lit.int k n).wf = true
/-- Cells read as one stretch, one by one. -/
theorem cells_get {w : World} {base : Nat} {a : Addr} {n : Nat} {cs : List Value} (h : w.cells? base a n = some cs) : cs.length = n ∧ ∀ (i : Nat) (u : Value), cs[i]? = some u → w.cell? (a.add i) = some u := by
  unfold World.cells? at h
  split at h
  · have hl : cs.length = n := by simpa using mapM_some_length h
    refine ⟨hl, fun i u hu => ?_⟩
    have hi : i < n := by rw [← hl]; exact (List.getElem?_eq_some_iff.1 hu).1
    have := mapM_some_get h i i (by simp [hi])
    rw [this]; exact hu
  · cases h
/-- What a law's slice of structs holds, and how long it is. -/
theorem rows_of {α H : Type} {enc : TypeId × Value → H} {P : Program} {W : World} {base : Nat} {spare : Nat → Bool} {held : Bool} {t e : TypeId} {a : Option Addr} {len cap : Nat} {dt : DataW H} {ps : List MemPlace} {ts : List TypeId} {ds : List (DataW H)} {j : Nat}
    {d : Kd α} {wf : α → Prop} {B : Nat} (hsz : (DataW.weightsEach P ts ds).all (· ≤ reachBytes) = true) (ht : ts[j]? = some t) (hd : ds[j]? = some dt) (hu : P.underlying t = some (.slice e)) (hc : P.cellsOf e = d.sz) (hB : P.bytesOf e = B)
    (hel : ∀ (n : Nat) (cs : List Value) (y : DataW H × List MemPlace), DataW.trod enc P W base spare held n e cs = some y → ∃ x : α, d.K W x cs ∧ wf x)
    (h : DataW.Trod enc P W base spare held t (.slice a len cap) dt ps) :
    ∃ l : List α, l.length = len ∧ len ≤ cap ∧ len ≤ maxLen ∧ Kd.C d W a len l ∧ (∀ x ∈ l, wf x) ∧ len * B ≤ 140737488351232 := by
  obtain ⟨fuel, hf⟩ := h
  rcases Go.Deep.open_slice hu hf with ⟨hcs, hx⟩ | ⟨ad, l0, c0, m, n, D, Pl, hcs, hb, hl, hm, hm2, hx, hel2⟩
  · simp [Value.cells] at hcs
    obtain ⟨rfl, rfl, rfl⟩ := hcs
    exact ⟨[], rfl, Nat.le_refl _, Nat.zero_le _, ⟨rfl, by omega, fun h => absurd h (by omega)⟩, (fun x hx => absurd hx (by simp)), (by omega)⟩
  · simp [Value.cells] at hcs
    obtain ⟨rfl, rfl, rfl⟩ := hcs
    have hml : len ≤ m := by rw [hm2]; split <;> omega
    have hmx : maxLen ≤ 9223372036854775807 := by decide
    have ex : ∀ i : Fin len, ∃ x : α, ∃ cs', W.cells? base (ad.add (i.val * P.cellsOf e)) (P.cellsOf e) = some cs' ∧ d.K W x cs' ∧ wf x := fun i => by
      obtain ⟨cs', h1, h2⟩ := hel2 i.val (by have := i.isLt; omega)
      obtain ⟨x, h3, h4⟩ := hel _ _ _ h2
      exact ⟨x, cs', h1, h3, h4⟩
    refine ⟨List.ofFn (fun i => Classical.choose (ex i)), by simp, hl, by omega, ⟨by simp, by omega, fun _ => ⟨ad, rfl, fun j p hp => ?_⟩⟩, fun x hx => ?_, ?_⟩
    · have hj : j < len := by have := (List.getElem?_eq_some_iff.1 hp).1; simpa using this
      have hp2 : Classical.choose (ex ⟨j, hj⟩) = p := by
        have := (List.getElem?_eq_some_iff.1 hp).2
        simpa using this
      obtain ⟨cs', h1, h2, _⟩ := Classical.choose_spec (ex ⟨j, hj⟩)
      rw [hp2] at h2
      obtain ⟨g1, g2⟩ := cells_get h1
      refine ⟨cs', g1.trans hc, h2, fun i u hi => ?_⟩
      have := g2 i u hi
      rw [Addr.add_add, hc] at this
      exact this
    · obtain ⟨i, hi⟩ := List.mem_ofFn.1 hx
      obtain ⟨cs', h1, h2, h3⟩ := Classical.choose_spec (ex i)
      rw [hi] at h3
      exact h3
    · obtain ⟨hx1, _⟩ := Prod.mk.inj hx
      subst hx1
      have z := sized_slice hsz ht hd hu
      rw [hB] at z
      simp only [List.length_map, List.length_range] at z
      exact Nat.le_trans (Nat.mul_le_mul_right _ (by omega)) z
theorem listE31 {α : Type} {cs : List α} (h : cs.length = 13) : ∃ c0 c1 c2 c3 c4 c5 c6 c7 c8 c9 c10 c11 c12, cs = [c0, c1, c2, c3, c4, c5, c6, c7, c8, c9, c10, c11, c12] := by
  match cs, h with
  | [c0, c1, c2, c3, c4, c5, c6, c7, c8, c9, c10, c11, c12], _ => exact ⟨c0, c1, c2, c3, c4, c5, c6, c7, c8, c9, c10, c11, c12, rfl⟩
theorem el31 {H : Type} {enc : TypeId × Value → H} {W : World} {held : Bool} (n : Nat) (cs : List Value) (y : DataW H × List MemPlace) (hy : DataW.trod enc Try.prog W 0 (fun _ => true) held n 31 cs = some y) : ∃ x : P.S31, P.k31.K W x cs ∧ P.annuitylaw21_BlendOrder.wf31 x := by
  have hc2 : Try.prog.cellsOf 2 = 1 := by kernel_rfl
  have hc3 : Try.prog.cellsOf 3 = 1 := by kernel_rfl
  have hc4 : Try.prog.cellsOf 4 = 1 := by kernel_rfl
  have hc31 : Try.prog.cellsOf 31 = 13 := by kernel_rfl
  obtain ⟨ys, m, _, hx, hcl, hl, hf⟩ := Go.DataW.trod_struct Try.underlying31 hy
  obtain ⟨y0, y1, y2, y3, y4, y5, y6, y7, y8, y9, y10, y11, y12, rfl⟩ := listE31 hl
  obtain ⟨c0, c1, c2, c3, c4, c5, c6, c7, c8, c9, c10, c11, c12, rfl⟩ := listE31 (hcl.trans hc31)
  have h0 := hf 0 _ rfl
  simp [hc3] at h0
  obtain ⟨x0, e0, _, s0⟩ := Go.DataW.trod_int Try.underlying3 h0
  simp at e0
  subst e0
  have h1 := hf 1 _ rfl
  simp [hc2] at h1
  obtain ⟨x1, e1, _, s1⟩ := Go.DataW.trod_int Try.underlying2 h1
  simp at e1
  subst e1
  have h2 := hf 2 _ rfl
  simp [hc2] at h2
  obtain ⟨x2, e2, _, s2⟩ := Go.DataW.trod_int Try.underlying2 h2
  simp at e2
  subst e2
  have h3 := hf 3 _ rfl
  simp [hc2] at h3
  obtain ⟨x3, e3, _, s3⟩ := Go.DataW.trod_int Try.underlying2 h3
  simp at e3
  subst e3
  have h4 := hf 4 _ rfl
  simp [hc2] at h4
  obtain ⟨x4, e4, _, s4⟩ := Go.DataW.trod_int Try.underlying2 h4
  simp at e4
  subst e4
  have h5 := hf 5 _ rfl
  simp [hc3] at h5
  obtain ⟨x5, e5, _, s5⟩ := Go.DataW.trod_int Try.underlying3 h5
  simp at e5
  subst e5
  have h6 := hf 6 _ rfl
  simp [hc4] at h6
  obtain ⟨x6, e6, _⟩ := Go.DataW.trod_bool Try.underlying4 h6
  simp at e6
  subst e6
  have h7 := hf 7 _ rfl
  simp [hc3] at h7
  obtain ⟨x7, e7, _, s7⟩ := Go.DataW.trod_int Try.underlying3 h7
  simp at e7
  subst e7
  have h8 := hf 8 _ rfl
  simp [hc3] at h8
  obtain ⟨x8, e8, _, s8⟩ := Go.DataW.trod_int Try.underlying3 h8
  simp at e8
  subst e8
  have h9 := hf 9 _ rfl
  simp [hc3] at h9
  obtain ⟨x9, e9, _, s9⟩ := Go.DataW.trod_int Try.underlying3 h9
  simp at e9
  subst e9
  have h10 := hf 10 _ rfl
  simp [hc2] at h10
  obtain ⟨x10, e10, _, s10⟩ := Go.DataW.trod_int Try.underlying2 h10
  simp at e10
  subst e10
  have h11 := hf 11 _ rfl
  simp [hc2] at h11
  obtain ⟨x11, e11, _, s11⟩ := Go.DataW.trod_int Try.underlying2 h11
  simp at e11
  subst e11
  have h12 := hf 12 _ rfl
  simp [hc3] at h12
  obtain ⟨x12, e12, _, s12⟩ := Go.DataW.trod_int Try.underlying3 h12
  simp at e12
  subst e12
  exact ⟨⟨x0, x1, x2, x3, x4, x5, x6, x7, x8, x9, x10, x11, x12⟩, P.k31_mk W ⟨x0, x1, x2, x3, x4, x5, x6, x7, x8, x9, x10, x11, x12⟩, s0, s1, s2, s3, s4, s5, s7, s8, s9, s10, s11, s12⟩
set_option maxRecDepth 100000 in
theorem lifted (os : Os) (started : os.Started) (H : Type) (enc : TypeId × Value → H) :
    ReturnsInHanded {} Try.checked os 5 .any (Rows.blendOrderSpec.pre6 enc Try.prog Try.f5 Rows.blendOrderRow.domain false) (Rows.blendOrderSpec.post enc Try.prog Try.f5 false true false false) := by
  refine returnsInHanded_of_change_sized (C := Try.checked) own started (by kernel_rfl) Try.func5
    (ChangeSpec.witness6 (enc := enc) (C := Try.checked) false ⟨#[], #[.slice none 0 0, .int .i64 0], []⟩ 8 (by kernel_rfl) (by kernel_rfl) (by kernel_rfl) (by kernel_rfl)) ?_
  intro W base args ds gs before hval0 hW hcnd hsz0 _
  have hsz : (DataW.weightsEach Try.prog (Try.f5.params.toList ++ Rows.blendOrderSpec.plain.varTypes Try.prog) (ds ++ gs)).all (· ≤ reachBytes) = true := hsz0
  have hval : ∀ (j : Nat) t v, Try.f5.params[j]? = some t → args[j]? = some v → Value.okWide Try.prog W .any base t v := hval0
  have hW' := hW
  obtain ⟨p, q, hA0, hV, rfl, hfz, hnd⟩ := hW
  have hA : DataW.TrodAll enc Try.prog W 0 (fun _ => true) true Try.f5.params.toList args.toList ds p := hA0
  rw [Try.params5] at hA hval hsz
  obtain ⟨v0, vs0, d0, ds0, p0, q0, hargs, rfl, rfl, h0, r0⟩ := trodAll_cons hA
  obtain ⟨v1, vs1, d1, ds1, p1, q1, rfl, rfl, rfl, h1, r1⟩ := trodAll_cons r0
  obtain ⟨rfl, rfl, rfl⟩ := trodAll_nil r1
  obtain rfl : args = #[v0, v1] := by cases args; simp_all
  obtain ⟨rfl, rfl⟩ := trodVars_none hV
  obtain ⟨a0, len0, cap0, rfl⟩ := okWide_slice Try.underlying22 (hval 0 22 v0 rfl rfl)
  have k0 := h0
  have lt0 : ∀ x ∈ p0, x.block < W.heap.size := by obtain ⟨m, hm⟩ := k0; exact DataW.trod_lt m _ _ _ hm
  obtain ⟨l0, rfl, hc0, hm0, hr0, hw0, y0⟩ := rows_of (d := P.k31) (wf := P.annuitylaw21_BlendOrder.wf31) (B := 104) hsz (j := 0) (t := 22) rfl rfl Try.underlying22 (by kernel_rfl) (by kernel_rfl) el31 h0
  obtain ⟨a1, rfl, rfl, rfl, w1⟩ := open_int Try.underlying3 (hval 1 3 v1 rfl rfl) h1
  clear hA0 hval0 hsz0 hsz
  refine (P.annuitylaw21_BlendOrder.walk Pure.BlendOrder a0 cap0 l0 a1 W hr0 hc0 hm0 y0 hw0 w1).mono fun e W' ⟨he, bel⟩ => ?_
  subst he
  exact ⟨_, rfl, _, _, _, [], _, [], hW', trodAll_mk1 (shut_bool Try.underlying4 _), (trodAll_cons_mk (Below.trod laidOut (by kernel_rfl) (of_decide_eq_true (by kernel_rfl)) k0 bel lt0) (trodAll_cons_mk (shut_int Try.underlying3 w1) trodAll_mk0)), rfl, bel.frame _, fun h => by cases h⟩
theorem over : Rows.blendOrderRow.holds Try.pinned (OpenSpec.ofChange Rows.blendOrderSpec) :=
  OpenClaim.holds_of_wide 5 Try.f5 rfl rfl rfl rfl rfl rfl rfl ⟨rfl, rfl, rfl, rfl, rfl⟩ rfl rfl rfl rfl rfl (by kernel_rfl) Try.func5 (by kernel_rfl)
    (of_decide_eq_true (by kernel_rfl)) (by unfold Func.isWrapper; first | (rw [if_pos (by decide +kernel)]; kernel_rfl) | (rw [if_neg (by decide +kernel)]; exact ⟨rfl, rfl⟩))
    (fun os started H enc _ => lifted os started H enc)
theorem proved : Rows.BlendOrderSaid := over
#print axioms proved
end Go.Proofs.Ytakcepffodipfaa.blendOrder
namespace Go.Proofs.Ytakcepffodipfaa
/-- The row, under a short name, for the claim. -/
theorem blendOrder_holds : Rows.BlendOrderSaid := blendOrder.proved
end Go.Proofs.Ytakcepffodipfaa
