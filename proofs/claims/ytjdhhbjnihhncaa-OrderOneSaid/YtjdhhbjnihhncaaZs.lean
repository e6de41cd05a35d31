/- order.Sort: a copy, sorted: slices.Clone, then slices.SortStableFunc at events. -/
import Derived.Test.YtjdhhbjnihhncaaZaa
import Derived.Test.YtjdhhbjnihhncaaZw
import Derived.Test.YtjdhhbjnihhncaaZc
import Derived.Test.YtjdhhbjnihhncaaSstable
namespace Go.Proofs.Ytjdhhbjnihhncaa.P
open Go.RowKit Go.Proofs.YtjdhhbjnihhncaaW.PrintWords Go.Proofs.YtjdhhbjnihhncaaW.PrintLast Go.Proofs.YtjdhhbjnihhncaaW.PrintMore
attribute [local go_sem] run_store_float max2_int min2_int max_two min_two max_three min_three max_four min_four   -- for this text's walks alone
set_option linter.unusedVariables false
set_option linter.unusedSimpArgs false
/-! ### A row of events as the sort is told it -/
section
open Go.Shelf Go.Sort
variable {α : Type} [Inhabited α] (p : α → S26)
theorem evC_len (x : S26) : (evC x).length = 11 := rfl
theorem evC_one (x : S26) : ∀ v ∈ evC x, v.oneCell' = true := by
  intro v hv
  unfold evC at hv
  simp only [List.mem_cons, List.not_mem_nil, or_false] at hv
  rcases hv with h | h | h | h | h | h | h | h | h | h | h <;> subst h <;> rfl
theorem hold_of_C {w : World} {g cap : Nat} {cs : Array Value} (d : Array α) (hC : Kd.C k26 w (some ⟨g, 0, none⟩) d.size (d.toList.map p)) (hG : w.heap[g]? = some (.cells cs 26 (0, 0))) : HoldsK (fun x => evC (p x)) 11 w g 0 d := by
  intro t ht
  rw [size_flatK] at ht
  rw [get_flatK _ _ _ _ ht]
  have hj : t / 11 < d.size := by omega
  have hm : t % 11 < 11 := Nat.mod_lt _ (by decide)
  obtain ⟨ad, e, hc⟩ := hC.2.2 (by omega)
  cases e
  obtain ⟨c, hs, hr, hcell⟩ := hc (t / 11) (p d[t / 11]!) (by rw [List.getElem?_map, Array.getElem?_toList, Array.getElem?_eq_getElem hj, getElem!_pos d _ hj]; rfl)
  have he : c = evC (p d[t / 11]!) := k26_open hr
  subst he
  refine ⟨?_, blk_frozen hG _⟩
  generalize d[t / 11]! = y at hcell
  have := hcell (t % 11) _ (List.getElem?_eq_getElem (show t % 11 < (evC (p y)).length from hm))
  rw [show (⟨g, 0, none⟩ : Addr).add (t / 11 * k26.sz + t % 11) = ⟨g, 0 + t, none⟩ from by
    have e2 : t / 11 * k26.sz + t % 11 = t := by show t / 11 * 11 + t % 11 = t; omega
    rw [e2, Nat.zero_add]
    unfold Addr.add
    simp
    exact fun h => h.symm] at this
  rw [this, getElem!_pos (evC (p y)) (t % 11) (show t % 11 < (evC (p y)).length from hm)]
  rfl
theorem swk_below {g : Nat} {d : Array α} {W w' : World} {enc : α → List Value} (hS : SWK enc 11 W g 0 d w') {base : Nat} (hb : base ≤ g) (hg : g < W.heap.size) : RowKit.Below base W w' := by
  obtain ⟨m, os, rfl⟩ := hS
  unfold sortWorldK putRowK putRow mapBlock grow Sort.ahead
  refine ⟨rfl, rfl, rfl, by simp, fun k hk => ?_⟩
  show ((W.heap.modify g _) ++ os)[k]? = _
  rw [Array.getElem?_append_left (by rw [Array.size_modify]; omega), Array.getElem?_modify, if_neg (by omega)]
theorem swk_blk {g : Nat} {d : Array α} {W w' : World} {enc : α → List Value} (hS : SWK enc 11 W g 0 d w') {cs : Array Value} (hG : W.heap[g]? = some (.cells cs 26 (0, 0))) : ∃ cs', w'.heap[g]? = some (.cells cs' 26 (0, 0)) ∧ cs'.size = cs.size := by
  obtain ⟨m, os, rfl⟩ := hS
  have hg : g < W.heap.size := (Array.getElem?_eq_some_iff.1 hG).1
  refine ⟨putCells id 0 (flatK enc 11 d) cs, ?_, by simp [putCells]⟩
  unfold sortWorldK putRowK putRow mapBlock grow Sort.ahead
  show ((W.heap.modify g _) ++ os)[g]? = _
  rw [Array.getElem?_append_left (by simpa using hg), Array.getElem?_modify, if_pos rfl, hG]
  rfl
theorem R_of_hold {w : World} {g cap base : Nat} {cs : Array Value} {d : Array α} (hH : HoldsK (fun x => evC (p x)) 11 w g 0 d) (hG : w.heap[g]? = some (.cells cs 26 (0, 0))) (hcs : cs.size = cap * 11) (hc : d.size ≤ cap) (hm : cap ≤ maxLen) (hb : base ≤ g) :
    Kd.R k26 26 w base (fun _ => True) (.slice (some ⟨g, 0, none⟩) d.size cap) (d.toList.map p) := by
  have hl : (d.toList.map p).length = d.size := by simp
  refine ⟨fun _ _ => trivial, cs.toList.take (d.size * 11), ⟨?_, .inr ⟨g, cap, cs, by rw [hl], hb, hG, by omega, hm, hcs, by rw [hl]; rfl⟩⟩, ?_, ?_⟩
  · rw [hl, List.length_take, Array.length_toList, hcs]
    show min (d.size * 11) (cap * 11) = d.size * 11
    omega
  · rw [hl, List.length_take, Array.length_toList, hcs]
    show min (d.size * 11) (cap * 11) = d.size * 11
    omega
  · intro j x hx
    rw [List.getElem?_map, Array.getElem?_toList] at hx
    obtain ⟨y, hy, rfl⟩ := Option.map_eq_some_iff.1 hx
    obtain ⟨hj, hy⟩ := Array.getElem?_eq_some_iff.1 hy
    have hmk := k26_mkM w base (fun k => True ∧ some k ≠ (Value.slice (some ⟨g, 0, none⟩) d.size cap).ownBlock) (p y)
    have e : ((cs.toList.take (d.size * 11)).drop (j * k26.sz)).take k26.sz = evC (p y) := by
      show ((cs.toList.take (d.size * 11)).drop (j * 11)).take 11 = evC (p y)
      apply List.ext_getElem
      · simp only [List.length_take, List.length_drop, Array.length_toList, evC_len]; omega
      · intro i h1 h2
        have hi : i < 11 := h2
        have hcell := (hH.cell (i := j) (c := i) hj hi).1
        rw [blk_cell hG] at hcell
        have hq : d[j]! = y := by rw [getElem!_pos d j hj, hy]
        rw [hq, getElem!_pos (evC (p y)) i hi] at hcell
        have hlt : 0 + j * 11 + i < cs.size := by omega
        rw [Array.getElem?_eq_getElem hlt] at hcell
        have hcell := Option.some.inj hcell
        refine Eq.trans ?_ hcell
        simp only [List.getElem_take, List.getElem_drop, Array.getElem_toList, Nat.zero_add]
    rw [e]
    exact hmk
end
instance : Inhabited S26 := ⟨z26⟩
theorem ext_all {β : Type} {n : Nat} (x : Array β) (h : x.size = n) : x.extract 0 n = x := by subst h; exact Array.extract_size
section
open Go.Shelf Go.Sort
theorem sort_row (g cap base : Nat) (l : List S26) (W0 : World) (hR : Kd.R k26 26 W0 base (fun _ => True) (.slice (some ⟨g, 0, none⟩) l.length cap) l) (hn : l.length ≤ 100000) :
    Calls Try.prog 23 #[.slice (some ⟨g, 0, none⟩) l.length cap, .func (.func 12) #[] #[]] W0 fun e w' => e = .returned (.tuple #[]) ∧
      Kd.R k26 26 w' base (fun _ => True) (.slice (some ⟨g, 0, none⟩) l.length cap) (sortE l) ∧ RowKit.Below base W0 w' := by
  obtain ⟨inner, ho⟩ := Kd.R_own hR
  rcases ho.2 with ⟨h, _⟩ | ⟨g', cap', cs, he, hb, hG, hlc, hcm, hcs, _⟩
  · cases h
  injection he with he _ h4
  injection he with he
  injection he with he
  subst he h4
  have hg : g < W0.heap.size := (Array.getElem?_eq_some_iff.1 hG).1
  have hds : l.zipIdx.toArray.size = l.length := by simp
  have hmap : l.zipIdx.toArray.toList.map Prod.fst = l := by simp [List.zipIdx_map_fst]
  have hH : HoldsK (fun x : S26 × Nat => evC x.1) 11 W0 g 0 l.zipIdx.toArray := hold_of_C (cap := cap) (p := Prod.fst) l.zipIdx.toArray (by rw [hmap, hds]; exact (Kd.R_reads' hR).2.2) hG
  have hRw : RowK (fun x : S26 × Nat => evC x.1) 11 W0 g 0 l.zipIdx.toArray := ⟨fun x => evC_len _, fun x => evC_one _, hH, hg⟩
  have hcmp : CmpLays Try.prog 12 #[] (fun x : S26 × Nat => evC x.1) 11 (fun x y => cmE x.1 y.1) g 0 l.length W0 := fun m os dk _ x y => cmE_calls x.1 y.1 _
  refine (St.sortStable 11 (fun w => by kernel_rfl) (fun x : S26 × Nat => evC x.1) (fun x y => cmE x.1 y.1) RlT RlT_tr 12 #[] g 0 l.length cap l.zipIdx.toArray W0 (fun args w => rfl) hcmp hRw hds (by omega) l.zipIdx.toArray W0 hds (SWK.start hH) ?_).mono ?_
  · intro i j _ hij hj
    have hi : i < l.length := by omega
    have ei : l.zipIdx.toArray[i]! = (l[i], i) := by rw [getElem!_pos _ i (by rw [hds]; exact hi)]; simp
    have ej : l.zipIdx.toArray[j]! = (l[j], j) := by rw [getElem!_pos _ j (by rw [hds]; exact hj)]; simp
    rw [ei, ej]
    unfold St.Crs ltOf RlT
    have := cmE_flip l[i] l[j]
    exact ⟨fun h => .inl (of_decide_eq_true h), fun h => by have h := of_decide_eq_false h; dsimp only at *; omega⟩
  · rintro e w' ⟨rfl, d, hS, hM⟩
    have hsd : d.size = l.length := by have := hM.1.1; rw [hds] at this; exact this
    have hp : d.toList.Perm l.zipIdx := by
      have := hM.1.2.2
      rw [ext_all d hsd, ext_all _ hds] at this
      simpa using this
    have hw : d.toList.Pairwise RlT := by
      rw [List.pairwise_iff_getElem]
      intro i j hi hj hij
      have hi' : i < d.size := by simpa using hi
      have hj' : j < d.size := by simpa using hj
      have := hM.2 i j (Nat.zero_le _) hij (by omega)
      rw [getElem!_pos d j hj', getElem!_pos d i hi'] at this
      simpa using this
    obtain ⟨cs', hG', hcs'⟩ := swk_blk hS hG
    have hHd : HoldsK (fun x : S26 × Nat => evC x.1) 11 w' g 0 d := hS.holds hg hH (by rw [hsd, hds])
    have hF := R_of_hold (p := Prod.fst) (base := base) hHd hG' (cap := cap) (by rw [hcs', hcs]; rfl) (by omega) hcm hb
    rw [sorted_is l d.toList hp hw, hsd] at hF
    exact ⟨rfl, hF, swk_below hS hb hg⟩
end
/-! ### The sort of no events -/
set_option maxHeartbeats 8000000 in
theorem ins_nil (f : Value) (w : World) : Calls Try.prog 39 #[.slice none 0 0, .int .i64 0, .int .i64 0, f] w fun e w' => e = .returned (.tuple #[]) ∧ Below w.heap.size w w' := by
  have HB := Aside0.mk (Below.refl w.heap.size w)
  go_enter Try.func39, Try.ntmps39
  go_wp2
  go_loopg [8] 0 (fun kx v wr => v = .int .i64 1 ∧ Aside0 (Below w.heap.size w wr))
  case atStart => exact ⟨by first | rfl | go_num, HB⟩
  case round =>
    clear HB
    obtain ⟨rfl, HB⟩ := hrel
    go_wp2
    go_end0
    exact ⟨rfl, HB.out⟩
set_option maxHeartbeats 8000000 in
theorem stable_nil (f : Value) (w : World) : Calls Try.prog 33 #[.slice none 0 0, .int .i64 0, f] w fun e w' => e = .returned (.tuple #[]) ∧ Below w.heap.size w w' := by
  have HB := Aside0.mk (Below.refl w.heap.size w)
  go_enter Try.func33, Try.ntmps33
  go_wp2
  go_loopg [7, 8] 0 (fun kx v1 v2 wr => v1 = .int .i64 0 ∧ v2 = .int .i64 20 ∧ Aside0 (Below w.heap.size w wr))
  case atStart => exact ⟨rfl, rfl, HB⟩
  case round =>
    clear HB
    obtain ⟨rfl, rfl, HB⟩ := hrel
    go_wp2_with (go_at_call 39; refine (ins_nil f _).mono ?_; rintro e w2 ⟨rfl, hb⟩; have n_ := Aside0.mk (below_step (by exact h0q HB.out) hb); clear HB hb; have HB := n_; clear n_)
    go_loopg [6] 0 (fun kx v wr => v = .int .i64 20 ∧ Aside0 (Below w.heap.size w wr))
    case atStart => exact ⟨rfl, HB⟩
    case round =>
      clear HB
      obtain ⟨rfl, HB⟩ := hrel
      go_wp2
      go_end0
      exact ⟨rfl, HB.out⟩
set_option maxHeartbeats 8000000 in
theorem sort_nil (f : Value) (w : World) : Calls Try.prog 23 #[.slice none 0 0, f] w fun e w' => e = .returned (.tuple #[]) ∧ Below w.heap.size w w' := by
  have HB := Aside0.mk (Below.refl w.heap.size w)
  go_enter Try.func23, Try.ntmps23
  go_wp2_with (go_at_call 33; refine (stable_nil f _).mono ?_; rintro e w2 ⟨rfl, hb⟩; have n_ := Aside0.mk (below_step (by exact h0q HB.out) hb); clear HB hb; have HB := n_; clear n_)
  go_end0
  exact ⟨rfl, HB.out⟩
/-! ### order.Sort -/
theorem sort_any (base : Nat) (l : List S26) (v : Value) (W0 : World) (hR : Kd.R k26 26 W0 base (fun _ => True) v l) (hn : l.length ≤ 100000) (hw : base ≤ W0.heap.size) :
    Calls Try.prog 23 #[v, .func (.func 12) #[] #[]] W0 fun e w' => e = .returned (.tuple #[]) ∧
      Kd.R k26 26 w' base (fun _ => True) v (sortE l) ∧ RowKit.Below base W0 w' := by
  obtain ⟨inner, ho⟩ := Kd.R_own hR
  rcases ho.2 with ⟨rfl, h0⟩ | ⟨g, cap, cs, rfl, hb, hG, hlc, hcm, hcs, _⟩
  · obtain rfl := List.eq_nil_of_length_eq_zero h0
    exact (sort_nil _ W0).mono fun e w' ⟨h1, h2⟩ => ⟨h1, Kd.R_nil _ _ _ _ _, h2.mono hw⟩
  · exact sort_row g cap base l W0 hR hn
def order_Sort.f (k : Nat) (l0 : List S26) : Option (List S26) := if l0.length ≤ 100000 then some (sortE l0) else none
set_option maxHeartbeats 8000000 in
set_option maxRecDepth 100000 in
theorem order_Sort.calls (k : Nat) (A0 : Option Addr) (c0 : Nat) (l0 : List S26) (r : List S26) (w : World) (hr0 : Kd.C k26 w A0 l0.length l0) (hc0 : l0.length ≤ c0) (h : order_Sort.f k l0 = some r) :
    Calls Try.prog 7 #[.slice A0 l0.length c0] w fun e w' => ∃ v0_ : Value, e = .returned v0_ ∧ Kd.R k26 26 w' w.heap.size (fun _ => True) v0_ r ∧ Below w.heap.size w w' := by
  by_cases c : l0.length ≤ 100000
  case neg => rw [order_Sort.f, if_neg c] at h; cases h
  rw [order_Sort.f, if_pos c] at h
  obtain rfl := Option.some.inj h
  clear h
  have HC := Aside0.mk (api_Event_22.calls k A0 c0 l0 l0 w hr0 hc0 (by rw [api_Event_22.f, if_pos c]))
  have HL := Aside0.mk c
  have HB := Aside0.mk (Below.refl w.heap.size w)
  clear hr0 c hc0
  obtain ⟨n, hn⟩ : ∃ n, l0.length = n := ⟨_, rfl⟩
  rw [hn] at HC ⊢
  clear hn
  go_enter Try.func7, Try.ntmps7
  go_wp2_with (first | (go_at_call 22; refine HC.out.mono ?_; rintro e w2 ⟨v1, rfl, ho, hb⟩; have HO := Aside0.mk (sort_any w.heap.size l0 v1 w2 ho HL.out hb.size); have HB2 := Aside0.mk hb; clear ho hb) | (go_at_call 23; refine HO.out.mono ?_; rintro e w3 ⟨rfl, ho, hb⟩; have HF := Aside0.mk ho; have HB3 := Aside0.mk hb; clear ho hb))
  go_ret
  exact ⟨_, rfl, HF.out, HB2.out.trans HB3.out⟩
end Go.Proofs.Ytjdhhbjnihhncaa.P
