/- slices.Insert of one event: walked by hand, on each of its roads. -/
import Derived.Test.YtjdhhbjnihhncaaZs
import Derived.Shelf.Spec.SlicesInsertGrow
namespace Go.Proofs.Ytjdhhbjnihhncaa.P
open Go.RowKit Go.Proofs.YtjdhhbjnihhncaaW.PrintWords Go.Proofs.YtjdhhbjnihhncaaW.PrintLast Go.Proofs.YtjdhhbjnihhncaaW.PrintMore
attribute [local go_sem] run_store_float max2_int min2_int max_two min_two max_three min_three max_four min_four   -- for this text's walks alone
set_option linter.unusedVariables false
set_option linter.unusedSimpArgs false
/-! ### Rows of events, flat -/
def flE (l : List S26) : List Value := l.flatMap evC
theorem flE_len (l : List S26) : (flE l).length = l.length * 11 := by
  induction l with
  | nil => rfl
  | cons x l ih => show (evC x ++ flE l).length = _; rw [List.length_append, ih, evC_len, List.length_cons]; omega
theorem flE_app (l m : List S26) : flE (l ++ m) = flE l ++ flE m := List.flatMap_append
theorem flE_one (l : List S26) : ∀ v ∈ flE l, v.oneCell' = true := by
  intro v hv
  obtain ⟨x, _, hx⟩ := List.mem_flatMap.1 hv
  exact evC_one x v hx
theorem flE_drop (l : List S26) (i : Nat) : flE (l.drop i) = (flE l).drop (i * 11) := by
  have h : flE l = flE (l.take i) ++ flE (l.drop i) := by rw [← flE_app, List.take_append_drop]
  by_cases c : i ≤ l.length
  · have hl : (flE (l.take i)).length = i * 11 := by rw [flE_len, List.length_take]; omega
    conv => rhs; rw [h]
    rw [List.drop_left' hl]
  · have e : (flE l).length ≤ i * 11 := by rw [flE_len]; omega
    rw [List.drop_of_length_le (show l.length ≤ i by omega), List.drop_of_length_le e]; rfl
theorem flE_take (l : List S26) (i : Nat) : flE (l.take i) = (flE l).take (i * 11) := by
  have h : flE l = flE (l.take i) ++ flE (l.drop i) := by rw [← flE_app, List.take_append_drop]
  by_cases c : i ≤ l.length
  · have hl : (flE (l.take i)).length = i * 11 := by rw [flE_len, List.length_take]; omega
    conv => rhs; rw [h]
    rw [List.take_left' hl]
  · have e : (flE l).length ≤ i * 11 := by rw [flE_len]; omega
    rw [List.take_of_length_le (show l.length ≤ i by omega), List.take_of_length_le e]
theorem reps_flat {R : S26 → List Value → Prop} (hR : ∀ x c, R x c → c = evC x) : ∀ (l : List S26) (cs : List Value), Reps R 11 l cs → cs = flE l := by
  intro l
  induction l with
  | nil => intro cs h; exact List.eq_nil_of_length_eq_zero (by have := h.1; simpa using this)
  | cons x l ih =>
    intro cs h
    have h0 := hR _ _ (h.2 0 x rfl)
    rw [Nat.zero_mul, List.drop_zero] at h0
    have h1 := ih (cs.drop 11) ⟨by have := h.1; rw [List.length_drop, this, List.length_cons]; omega, fun j p hp => by
      have := h.2 (j + 1) p (by simpa using hp)
      rw [List.drop_drop]
      rwa [show (j + 1) * 11 = 11 + j * 11 by omega] at this⟩
    show cs = evC x ++ flE l
    rw [← h0, ← h1, List.take_append_drop]
theorem flat_reps {R : S26 → List Value → Prop} (hR : ∀ x, R x (evC x)) : ∀ (l : List S26), Reps R 11 l (flE l) := by
  intro l
  refine ⟨flE_len l, fun j p hp => ?_⟩
  obtain ⟨hj, e⟩ := List.getElem?_eq_some_iff.1 hp
  rw [← flE_drop, List.drop_eq_getElem_cons hj, e]
  show R p ((evC p ++ flE (l.drop (j + 1))).take 11)
  rw [List.take_append_of_le_length (by rw [evC_len]; omega), List.take_of_length_le (by rw [evC_len]; omega)]
  exact hR p
/-- What an own row of events is, flat. -/
theorem R_flat {w : World} {base : Nat} {ok : Nat → Prop} {v : Value} {l : List S26} (h : Kd.R k26 26 w base ok v l) : (v = .slice none 0 0 ∧ l = []) ∨ ∃ g cap cur, v = .slice (some ⟨g, 0, none⟩) l.length cap ∧ base ≤ g ∧ w.heap[g]? = some (.cells cur 26 (0, 0)) ∧ l.length ≤ cap ∧ cap ≤ maxLen ∧ cur.size = cap * 11 ∧ cur.toList.take (l.length * 11) = flE l := by
  obtain ⟨_, inner, ho, hr⟩ := h
  have hi := reps_flat (fun x c hx => k26_openM hx) l inner hr
  rcases ho.2 with ⟨rfl, h0⟩ | ⟨g, cap, cur, rfl, hb, hG, hlc, hcm, hcs, ht⟩
  · exact .inl ⟨rfl, List.eq_nil_of_length_eq_zero h0⟩
  · exact .inr ⟨g, cap, cur, rfl, hb, hG, hlc, hcm, hcs, by rw [← hi]; exact ht⟩
theorem flat_R {w : World} {base : Nat} {ok : Nat → Prop} {l : List S26} {g cap : Nat} {cur : Array Value} (hok : ok g) (hb : base ≤ g) (hG : w.heap[g]? = some (.cells cur 26 (0, 0))) (hlc : l.length ≤ cap) (hcm : cap ≤ maxLen) (hcs : cur.size = cap * 11) (ht : cur.toList.take (l.length * 11) = flE l) : Kd.R k26 26 w base ok (.slice (some ⟨g, 0, none⟩) l.length cap) l :=
  ⟨fun k hk => by simp [Value.ownBlock] at hk; subst hk; exact hok, flE l, ⟨flE_len l, .inr ⟨g, cap, cur, rfl, hb, hG, hlc, hcm, hcs, ht⟩⟩, flat_reps (fun x => k26_mkM _ _ _ x) l⟩
/-- copy, at elements of several cells, into a row of one's own. -/
theorem copy_rowK {P : Program} (w : World) (dT sT ty elem : TypeId) (g o dLen dCap : Nat) (a : Addr) (sLen sCap n sz : Nat) (cur : Array Value) (t : TypeId) (cs : List Value)
    (hu : P.underlying dT = some (.slice elem)) (hs : (P.info? elem).map (·.size) = some sz)
    (hg : w.heap[g]? = some (.cells cur t (0, 0))) (hn : n = Nat.min sLen dLen) (hl : cs.length = n * sz)
    (hsrc : ∀ j v, cs[j]? = some v → w.cell? (a.add j) = some v) (hfit : o + cs.length ≤ cur.size) (h1 : ∀ v ∈ cs, v.oneCell' = true) :
    (Builtin.copy_ #[dT, sT] ty #[.slice (some ⟨g, o, none⟩) dLen dCap, .slice (some a) sLen sCap]).run P w =
      .ok (goInt n) (w.setRow g (cur.toList.take o ++ cs ++ cur.toList.drop (o + cs.length)).toArray) := by
  have hl2 := run_firstCells_some (P := P) w sz n a sLen sCap cs hl hsrc
  have hst := run_storeCells_at P g o t cs 0 cur w hg (by simpa using hfit) h1
  cases hq : P.info? elem with
  | none => simp [hq] at hs
  | some i =>
    have hi : i.size = sz := by simpa [hq] using hs
    have hz : (Go.sizeOf elem).run P w = .ok sz w := by simp [sizeOf, typeInfo, hq, hi]
    simp [Builtin.copy_, run_underlying hu, Builtin.lenOf, hz, ← hn, hl2, hst]
theorem shape_of {w : World} {g : Nat} {cur : Array Value} {t : TypeId} (hG : w.heap[g]? = some (.cells cur t (0, 0))) : w.shape? g = some (t, cur.size) := by unfold World.shape?; rw [hG]
/-- What lies behind one place in a row, shifted; then the one laid there. -/
theorem shift_flat {l : List S26} {n i cap : Nat} {cur : List Value} (x : S26) (hn : l.length = n) (hi : i < n) (hroom : n + 1 ≤ cap) (hcs : cur.length = cap * 11) (ht : cur.take (n * 11) = flE l) :
    ((cur.take ((i + 1) * 11) ++ flE (l.drop i) ++ cur.drop ((i + 1) * 11 + (flE (l.drop i)).length)).take (i * 11) ++ evC x ++ (cur.take ((i + 1) * 11) ++ flE (l.drop i) ++ cur.drop ((i + 1) * 11 + (flE (l.drop i)).length)).drop (i * 11 + (evC x).length)).take ((n + 1) * 11) = flE (l.take i ++ x :: l.drop i) := by
  have hd : (flE (l.drop i)).length = (n - i) * 11 := by rw [flE_len, List.length_drop, hn]
  have h1 : (cur.take ((i + 1) * 11)).length = (i + 1) * 11 := by rw [List.length_take, hcs]; omega
  have h2 : cur.take (i * 11) = flE (l.take i) := by rw [flE_take, ← ht, List.take_take, Nat.min_eq_left (by omega)]
  generalize cur.drop ((i + 1) * 11 + (flE (l.drop i)).length) = Z
  have e1 : (cur.take ((i + 1) * 11) ++ flE (l.drop i) ++ Z).take (i * 11) = flE (l.take i) := by
    rw [List.append_assoc, List.take_append_of_le_length (by rw [h1]; omega), List.take_take, Nat.min_eq_left (by omega), h2]
  have e2 : (cur.take ((i + 1) * 11) ++ flE (l.drop i) ++ Z).drop (i * 11 + (evC x).length) = flE (l.drop i) ++ Z := by
    rw [evC_len, List.append_assoc, show i * 11 + 11 = (i + 1) * 11 by omega, List.drop_left' h1]
  have h3 : (flE (l.take i) ++ evC x ++ flE (l.drop i)).length = (n + 1) * 11 := by
    rw [List.length_append, List.length_append, hd, evC_len, flE_len, List.length_take, hn]; omega
  rw [e1, e2, ← List.append_assoc, List.take_left' h3, flE_app, List.append_assoc]
  rfl
set_option maxHeartbeats 4000000 in
set_option maxRecDepth 100000 in
/-- There is room, and the place is not the last one: in place. -/
theorem insert_shift (g cap n i : Nat) (l : List S26) (x : S26) (cur : Array Value) (vb vc : Nat) (vcur : Array Value) (w : World) (hn : l.length = n) (hi : i < n) (hroom : n + 1 ≤ cap) (hcm : cap ≤ maxLen) (hn2 : n ≤ 100000)
    (hG : w.heap[g]? = some (.cells cur 26 (0, 0))) (hcs : cur.size = cap * 11) (ht : cur.toList.take (n * 11) = flE l) (hV : w.heap[vb]? = some (.cells vcur 26 (0, 0))) (hv : vcur.toList.take 11 = evC x) (hne : vb ≠ g) :
    Calls Try.prog 26 #[.slice (some ⟨g, 0, none⟩) n cap, .int .i64 i, .slice (some ⟨vb, 0, none⟩) 1 vc] w fun e w' =>
      e = .returned (.slice (some ⟨g, 0, none⟩) (n + 1) cap) ∧ ∃ cur', w' = w.drew.setRow g cur' ∧ cur'.size = cur.size ∧ cur'.toList.take ((n + 1) * 11) = flE (l.take i ++ x :: l.drop i) := by
  have hsz : (Try.prog.info? 26).map (·.size) = some 11 := by kernel_rfl
  have hc63 : cap ≤ 9223372036854775807 := by unfold maxLen at hcm; omega
  have hfl := shift_flat (cap := cap) x hn hi hroom (by rw [Array.length_toList]; exact hcs) ht
  have hd : (flE (l.drop i)).length = (n - i) * 11 := by rw [flE_len, List.length_drop, hn]
  have hcg : ∀ j v, (flE l)[j]? = some v → w.cell? ⟨g, j, none⟩ = some v := fun j v hj => by
    rw [blk_cell hG]
    rw [← ht, List.getElem?_take] at hj
    split at hj
    · rwa [Array.getElem?_toList] at hj
    · cases hj
  have hcv : ∀ j v, (evC x)[j]? = some v → w.cell? ⟨vb, j, none⟩ = some v := fun j v hj => by
    rw [blk_cell hV]
    rw [← hv, List.getElem?_take] at hj
    split at hj
    · rwa [Array.getElem?_toList] at hj
    · cases hj
  obtain ⟨cur1, hcur1⟩ : ∃ c : Array Value, c = (cur.toList.take ((i + 1) * 11) ++ flE (l.drop i) ++ cur.toList.drop ((i + 1) * 11 + (flE (l.drop i)).length)).toArray := ⟨_, rfl⟩
  have hs1 : cur1.size = cur.size := by
    rw [hcur1]
    simp only [List.size_toArray, List.length_append, List.length_take, List.length_drop, Array.length_toList, hd, hcs]
    omega
  obtain ⟨cur2, hcur2⟩ : ∃ c : Array Value, c = (cur1.toList.take (i * 11) ++ evC x ++ cur1.toList.drop (i * 11 + (evC x).length)).toArray := ⟨_, rfl⟩
  have hs2 : cur2.size = cur.size := by
    rw [hcur2]
    simp only [List.size_toArray, List.length_append, List.length_take, List.length_drop, Array.length_toList, evC_len, hs1, hcs]
    omega
  have hf2 : cur2.toList.take ((n + 1) * 11) = flE (l.take i ++ x :: l.drop i) := by rw [hcur2, hcur1]; exact hfl
  have hov : ∀ o lb cb, (callFunc 34 #[.slice (some ⟨vb, 0, none⟩) 1 vc, .slice (some ⟨g, o, none⟩) lb cb]).run Try.prog w = .ok (.value (.bool false)) w := fun o lb cb => by
    rw [run_callFunc_extern Try.func34 (by kernel_rfl) (by kernel_rfl) (by kernel_rfl) (e := Extern.SlicesOverlaps.overlaps #[22, 22] #[4]) (by kernel_rfl),
      Lib.run_overlaps_apart w 22 4 26 Try.underlying22 11 (fun w => by kernel_rfl) ⟨vb, 0, none⟩ ⟨g, o, none⟩ 1 vc lb cb hne 26 26 vcur.size cur.size (shape_of hV) (shape_of hG) (by omega) (blk_frozen hV _) (blk_frozen hV _)]
    rfl
  have hcp1 : ∀ ty dc sc, (Builtin.copy_ #[22, 22] ty #[.slice (some ⟨g, (i + 1) * 11, none⟩) (n - i) dc, .slice (some ⟨g, i * 11, none⟩) (n + 1 - i) sc]).run Try.prog w.drew = .ok (goInt (n - i : Nat)) (w.drew.setRow g cur1) := fun ty dc sc => by
    rw [hcur1]
    refine copy_rowK w.drew 22 22 ty 26 g ((i + 1) * 11) (n - i) dc ⟨g, i * 11, none⟩ (n + 1 - i) sc (n - i) 11 cur 26 (flE (l.drop i)) Try.underlying22 hsz hG (by show n - i = min _ _; omega) hd (fun j v hj => ?_) (by rw [hd, hcs]; omega) (flE_one _)
    rw [Addr.add_lit]
    show w.cell? _ = _
    rw [flE_drop, List.getElem?_drop] at hj
    exact hcg _ v hj
  have hcp2 : ∀ (W : World), W = w.drew.setRow g cur1 → ∀ ty dc, (Builtin.copy_ #[22, 22] ty #[.slice (some ⟨g, i * 11, none⟩) (n + 1 - i) dc, .slice (some ⟨vb, 0, none⟩) 1 vc]).run Try.prog W = .ok (goInt 1) (w.drew.setRow g cur2) := fun W hW ty dc => by
    have hG1 : W.heap[g]? = some (.cells cur1 26 (0, 0)) := by rw [hW]; exact setRow_heap w.drew g cur cur1 26 (0, 0) hG
    have := copy_rowK W 22 22 ty 26 g (i * 11) (n + 1 - i) dc ⟨vb, 0, none⟩ 1 vc 1 11 cur1 26 (evC x) Try.underlying22 hsz hG1 (by show 1 = min _ _; omega) rfl (fun j v hj => by
      rw [Addr.add_lit, Nat.zero_add, hW]
      have h := hcv j v hj
      rw [← h]
      exact World.cell?_of_block (setRow_other w.drew g vb cur1 hne)) (by rw [evC_len, hs1, hcs]; omega) (evC_one x)
    rw [this, ← hcur2, hW, setRow_setRow]
    rfl
  have HF := Aside0.mk hf2
  have HS := Aside0.mk hs2
  have hz2 : ¬ ((i : Int) = (n : Int)) := by omega
  have mixed := St.mixed
  have hw1 : IntKind.i64.wrap ((i : Int) + 1) = (i : Int) + 1 := by rw [IntKind.wrap_i64]; omega
  have hb1 : (0 : Int) ≤ (i : Int) + 1 := by omega
  have hin : i ≤ n := by omega
  have htn : ((i : Int) + 1).toNat = i + 1 := by omega
  have hb2 : ¬ (cap = i + 1) := by omega
  have hb3 : (i : Int) ≤ (n : Int) + 1 := by omega
  have hb4 : ¬ (cap = i) := by omega
  have hb5 : ¬ ((n : Int) + 1 > (cap : Int)) := by omega
  clear hfl hd hcg hcv hcur1 hs1 hcur2 hs2 hf2 hn ht hcs hG hV hv hcm
  go_enter Try.func26, Try.ntmps26
  go_wp2_with (simp only [hov])
  go_region_law_o (refine step_copy_runI rfl _ _ 22 22 rfl _ _ (by simp [Act.eval, Act.put]) (by simp [Act.eval, Act.put]) (hcp1 _ _ _) ?_)
  go_wp2_with (at_builtin; refine wpList_copy_runI _ rfl _ _ 22 22 rfl _ _ rfl rfl (hcp2 _ rfl _ _) ?_)
  go_ret
  exact ⟨rfl, cur2, rfl, HS.out, HF.out⟩
theorem grow_flat {l : List S26} {n i : Nat} {row : List Value} (x : S26) (hn : l.length = n) (hi : i ≤ n) (hrow : (n + 1) * 11 ≤ row.length) (ht : row.take (i * 11) = flE (l.take i)) :
    ((row.take (i * 11) ++ evC x ++ row.drop (i * 11 + (evC x).length)).take ((i + 1) * 11) ++ flE (l.drop i) ++ (row.take (i * 11) ++ evC x ++ row.drop (i * 11 + (evC x).length)).drop ((i + 1) * 11 + (flE (l.drop i)).length)).take ((n + 1) * 11) = flE (l.take i ++ x :: l.drop i) := by
  have hd : (flE (l.drop i)).length = (n - i) * 11 := by rw [flE_len, List.length_drop, hn]
  have h1 : (row.take (i * 11) ++ evC x).length = (i + 1) * 11 := by rw [List.length_append, List.length_take, evC_len]; omega
  generalize row.drop (i * 11 + (evC x).length) = Z
  rw [List.take_left' h1]
  generalize (row.take (i * 11) ++ evC x ++ Z).drop ((i + 1) * 11 + (flE (l.drop i)).length) = Y
  have h3 : (row.take (i * 11) ++ evC x ++ flE (l.drop i)).length = (n + 1) * 11 := by rw [List.length_append, h1, hd]; omega
  rw [List.take_left' h3, ht, flE_app, List.append_assoc]
  rfl
set_option maxHeartbeats 4000000 in
set_option maxRecDepth 100000 in
/-- There is no room, and the place is not the last one: a new row. -/
theorem insert_grow (g cap n i : Nat) (l : List S26) (x : S26) (cur : Array Value) (vb vc : Nat) (vcur : Array Value) (w : World) (hn : l.length = n) (hi : i < n) (hnc : n ≤ cap) (hroom : cap < n + 1) (hn2 : n ≤ 100000)
    (hG : w.heap[g]? = some (.cells cur 26 (0, 0))) (ht : cur.toList.take (n * 11) = flE l) (hV : w.heap[vb]? = some (.cells vcur 26 (0, 0))) (hv : vcur.toList.take 11 = evC x) :
    Calls Try.prog 26 #[.slice (some ⟨g, 0, none⟩) n cap, .int .i64 i, .slice (some ⟨vb, 0, none⟩) 1 vc] w fun e w' =>
      ∃ G, e = .returned (.slice (some ⟨w.heap.size, 0, none⟩) (n + 1) G) ∧ n + 1 ≤ G ∧ G ≤ maxLen ∧ Below w.heap.size w w' ∧ ∃ cur', w'.heap[w.heap.size]? = some (.cells cur' 26 (0, 0)) ∧ cur'.size = G * 11 ∧ cur'.toList.take ((n + 1) * 11) = flE (l.take i ++ x :: l.drop i) := by
  obtain ⟨i0, hi0, hz0, hzs, hzb⟩ := Go.info_parts info26
  have hsz : (Try.prog.info? 26).map (·.size) = some 11 := by kernel_rfl
  have hgw : g < w.heap.size := (Array.getElem?_eq_some_iff.1 hG).1
  have hvw : vb < w.heap.size := (Array.getElem?_eq_some_iff.1 hV).1
  have hcg : ∀ j v, (flE l)[j]? = some v → w.cell? ⟨g, j, none⟩ = some v := fun j v hj => by
    rw [blk_cell hG]
    rw [← ht, List.getElem?_take] at hj
    split at hj
    · rwa [Array.getElem?_toList] at hj
    · cases hj
  have hcv : ∀ j v, (evC x)[j]? = some v → w.cell? ⟨vb, j, none⟩ = some v := fun j v hj => by
    rw [blk_cell hV]
    rw [← hv, List.getElem?_take] at hj
    split at hj
    · rwa [Array.getElem?_toList] at hj
    · cases hj
  have hd : (flE (l.drop i)).length = (n - i) * 11 := by rw [flE_len, List.length_drop, hn]
  have htl : (flE (l.take i)).length = i * 11 := by rw [flE_len, List.length_take]; omega
  have hold : (Builtin.firstCells i0.size i (.slice (some ⟨g, 0, none⟩) i cap)).run Try.prog w.drew = .ok (flE (l.take i)).toArray w.drew := by
    rw [hzs]
    exact run_firstCells_some w.drew 11 i ⟨g, 0, none⟩ i cap (flE (l.take i)) htl (fun j v hj => by
      rw [Addr.add_lit, Nat.zero_add]
      rw [flE_take, List.getElem?_take] at hj
      split at hj
      · exact hcg j v hj
      · cases hj)
  have hkk : (n : Int) + 1 - (i : Int) = ((n + 1 - i : Nat) : Int) := by omega
  have hik : i + (n + 1 - i) = n + 1 := by omega
  obtain ⟨G, hG0⟩ : ∃ G, G = grownCap w (n + 1) cap 26 := ⟨_, rfl⟩
  obtain ⟨ROW, hROW⟩ : ∃ ROW : Array Value, ROW = (flE (l.take i)).toArray ++ Builtin.zeroCells (Value.agg #[(.int .i64 0), (.int .i64 0), (.int .u32 0), (.int .i64 0), (.int .i64 0), (.float .f64 0), (.float .f64 0), (.bool false), (.int .i64 0), (.int .i64 0), (.int .i64 0)]).cells (n + 1 - i) ++ Builtin.zeroCells (Value.agg #[(.int .i64 0), (.int .i64 0), (.int .u32 0), (.int .i64 0), (.int .i64 0), (.float .f64 0), (.float .f64 0), (.bool false), (.int .i64 0), (.int .i64 0), (.int .i64 0)]).cells (G - (n + 1)) := ⟨_, rfl⟩
  have hGn : n + 1 ≤ G := by rw [hG0]; exact grownCap_ge w _ _ _
  have hGm : G ≤ maxLen := by rw [hG0]; exact grownCap_le_maxLen w (n + 1) cap 26 (by unfold maxLen; omega)
  have hRs : ROW.size = G * 11 := by
    rw [hROW]
    simp only [Array.size_append, List.size_toArray, htl, Builtin.zeroCells, Value.cells]
    simp
    omega
  have hRt : ROW.toList.take (i * 11) = flE (l.take i) := by
    rw [hROW]
    simp only [Array.toList_append, List.append_assoc]
    rw [List.take_left' htl]
  have hrz : ∀ ty, (Builtin.append_ #[22, 3] ty #[.slice (some ⟨g, 0, none⟩) i cap, .int .i64 ((n : Int) + 1 - (i : Int))]).run Try.prog w =
      .ok (.slice (some ⟨w.heap.size, 0, none⟩) (n + 1) G) (w.drew.alloc (.cells ROW 26)) := fun ty => by
    have h := Lib.run_append_grow_zeros w 22 3 ty 26 i0 _ .i64 .i64 Try.underlying22 Try.underlying3 hi0 hz0 (some ⟨g, 0, none⟩) i cap (flE (l.take i)) hold (n + 1 - i) (by omega) (by rw [hzs]; decide) (by omega) (by omega) (by rw [hzb]; omega) (by rw [hzb, hik]; exact growslice_fits hroom (by omega))
    rw [hik, ← hG0, ← hROW] at h
    rw [hkk]
    exact h
  obtain ⟨W1, hW1⟩ : ∃ W1, W1 = w.drew.alloc (.cells ROW 26) := ⟨_, rfl⟩
  have hWn : W1.heap[w.heap.size]? = some (.cells ROW 26 (0, 0)) := by rw [hW1]; exact blk_new w.drew _
  have hW1b : Below w.heap.size w W1 := by rw [hW1]; exact below_alloc (below_drew1 (Below.refl _ _)) _
  obtain ⟨row1, hrow1⟩ : ∃ c : Array Value, c = (ROW.toList.take (i * 11) ++ evC x ++ ROW.toList.drop (i * 11 + (evC x).length)).toArray := ⟨_, rfl⟩
  have hs1 : row1.size = ROW.size := by
    rw [hrow1]
    simp only [List.size_toArray, List.length_append, List.length_take, List.length_drop, Array.length_toList, evC_len, hRs]
    omega
  obtain ⟨row2, hrow2⟩ : ∃ c : Array Value, c = (row1.toList.take ((i + 1) * 11) ++ flE (l.drop i) ++ row1.toList.drop ((i + 1) * 11 + (flE (l.drop i)).length)).toArray := ⟨_, rfl⟩
  have hs2 : row2.size = ROW.size := by
    rw [hrow2]
    simp only [List.size_toArray, List.length_append, List.length_take, List.length_drop, Array.length_toList, hd, hs1, hRs]
    omega
  have hf2 : row2.toList.take ((n + 1) * 11) = flE (l.take i ++ x :: l.drop i) := by
    rw [hrow2, hrow1]
    exact grow_flat x hn (by omega) (by rw [Array.length_toList, hRs]; omega) hRt
  have hcpA : ∀ (W : World), W = W1 → ∀ ty dc, (Builtin.copy_ #[22, 22] ty #[.slice (some ⟨w.heap.size, i * 11, none⟩) (n + 1 - i) dc, .slice (some ⟨vb, 0, none⟩) 1 vc]).run Try.prog W = .ok (goInt 1) (W1.setRow w.heap.size row1) := fun W hW ty dc => by
    subst hW
    rw [hrow1]
    refine copy_rowK W 22 22 ty 26 w.heap.size (i * 11) (n + 1 - i) dc ⟨vb, 0, none⟩ 1 vc 1 11 ROW 26 (evC x) Try.underlying22 hsz hWn (by show 1 = min _ _; omega) rfl (fun j v hj => ?_) (by rw [evC_len, hRs]; omega) (evC_one x)
    rw [Addr.add_lit, Nat.zero_add, hW1b.cell hvw]
    exact hcv j v hj
  have hcpB : ∀ (W : World), W = (W1.setRow w.heap.size row1).drew → ∀ ty dc sc, (Builtin.copy_ #[22, 22] ty #[.slice (some ⟨w.heap.size, (i + 1) * 11, none⟩) (n - i) dc, .slice (some ⟨g, i * 11, none⟩) (n - i) sc]).run Try.prog W = .ok (goInt (n - i : Nat)) (W1.setRow w.heap.size row2).drew := fun W hW ty dc sc => by
    have hG1 : W.heap[w.heap.size]? = some (.cells row1 26 (0, 0)) := by rw [hW]; exact setRow_heap W1 w.heap.size ROW row1 26 (0, 0) hWn
    have := copy_rowK W 22 22 ty 26 w.heap.size ((i + 1) * 11) (n - i) dc ⟨g, i * 11, none⟩ (n - i) sc (n - i) 11 row1 26 (flE (l.drop i)) Try.underlying22 hsz hG1 (by show n - i = min _ _; omega) hd (fun j v hj => by
      rw [Addr.add_lit, hW]
      rw [flE_drop, List.getElem?_drop] at hj
      have h := hcg _ v hj
      rw [← hW1b.cell (p := ⟨g, i * 11 + j, none⟩) hgw] at h
      rw [← h]
      exact World.cell?_of_block (setRow_other W1 w.heap.size g row1 (by show g ≠ w.heap.size; omega))) (by rw [hd, hs1, hRs]; omega) (flE_one _)
    rw [this, ← hrow2, hW]
    show Result.ok _ ((W1.setRow w.heap.size row1).setRow w.heap.size row2).drew = _
    rw [setRow_setRow]
  have HF := Aside0.mk hf2
  have HS := Aside0.mk (hs2.trans hRs)
  have HGN := Aside0.mk hGn
  have HGM := Aside0.mk hGm
  have HBW : Aside0 (Below w.heap.size w (W1.setRow w.heap.size row2).drew) := ⟨by
    refine below_drew1 ⟨hW1b.os, hW1b.tape, hW1b.output, by rw [setRow_size]; exact hW1b.size, fun k hk => ?_⟩
    rw [setRow_other W1 w.heap.size k row2 (by omega)]
    exact hW1b.block k hk⟩
  have HWN : Aside0 ((W1.setRow w.heap.size row2).drew.heap[w.heap.size]? = some (.cells row2 26 (0, 0))) := ⟨setRow_heap W1 w.heap.size ROW row2 26 (0, 0) hWn⟩
  have hGm63 : G ≤ 9223372036854775807 := by unfold maxLen at hGm; omega
  have hz2 : ¬ ((i : Int) = (n : Int)) := by omega
  have hz3 : (cap : Int) < (n : Int) + 1 := by omega
  have hz4 : (n : Int) + 1 > (cap : Int) := hz3
  have mixed := St.mixed
  have hw1 : IntKind.i64.wrap ((i : Int) + 1) = (i : Int) + 1 := by rw [IntKind.wrap_i64]; omega
  have hb1 : (0 : Int) ≤ (i : Int) + 1 := by omega
  have hin : i ≤ n := by omega
  have htn : ((i : Int) + 1).toNat = i + 1 := by omega
  have hGi : ¬ (G = i) := by omega
  have hGim : ¬ (G = i + 1) := by omega
  have hci : ¬ (cap = i) := by omega
  have hb3 : (i : Int) ≤ (n : Int) := by omega
  subst hW1
  have hE1 : w.drew.alloc (.cells ROW 26) = (w.alloc (.cells ROW 26)).drew := rfl
  clear hcg hcv hd htl hold hkk hik hG0 hROW hRs hRt hWn hW1b hrow1 hs1 hrow2 hs2 hf2 hn ht hG hV hv hgw hvw hGn hGm hz0 hzs hzb hi0
  go_enter Try.func26, Try.ntmps26
  go_wp2_with (first
    | (at_builtin; refine Lib.wpList_append_run _ rfl _ _ _ _ rfl _ _ rfl rfl _ _ (hrz _) ?_)
    | (at_builtin; refine wpList_copy_runI _ rfl _ _ 22 22 rfl _ _ rfl rfl (hcpA _ rfl _ _) ?_))
  go_region_law_o (refine step_copy_runI rfl _ _ 22 22 rfl (.slice (some ⟨w.heap.size, (i + 1) * 11, none⟩) (n - i) (G - (i + 1))) (.slice (some ⟨g, i * 11, none⟩) (n - i) (cap - i)) (by simp [Act.eval, Act.put]) (by simp [Act.eval, Act.put]) (hcpB _ rfl 3 (G - (i + 1)) (cap - i)) ?_)
  go_wp2
  go_ret
  exact ⟨G, rfl, HGN.out, HGM.out, HBW.out, row2, HWN.out, HS.out, HF.out⟩
set_option maxHeartbeats 4000000 in
set_option maxRecDepth 100000 in
/-- Behind the last one. -/
theorem insert_end (A : Option Addr) (c base : Nat) (l : List S26) (x : S26) (n vb vc : Nat) (w : World) (hn : l.length = n) (hn2 : n ≤ 100000) (hR : Kd.R k26 26 w base (fun _ => True) (.slice A n c) l) (hV : Kd.C k26 w (some ⟨vb, 0, none⟩) 1 [x]) (hb : base ≤ w.heap.size) :
    Calls Try.prog 26 #[.slice A n c, .int .i64 n, .slice (some ⟨vb, 0, none⟩) 1 vc] w fun e w' =>
      ∃ v', e = .returned v' ∧ Kd.R k26 26 w' base (fun _ => True) v' (l ++ [x]) ∧ w.grownBy w' (Value.slice A n c).ownBlock ∧ (v'.ownBlock = (Value.slice A n c).ownBlock ∨ ∃ b, v'.ownBlock = some b ∧ w.heap.size ≤ b) := by
  have HR := Aside0.mk hR
  have HV := Aside0.mk hV
  have HB := Aside0.mk hb
  have HL := Aside0.mk (show (l.length + 1) * 88 ≤ 140737488355328 by omega)
  have mixed := St.mixed
  have hnc : n ≤ c := (Kd.R_reads' hR).2.1
  clear hR hV hb hn
  rcases Nat.eq_or_lt_of_le hnc with h | h
  · subst h
    clear hnc
    go_enter Try.func26, Try.ntmps26
    go_wp2_with ((with_reducible refine gate_builtin (b := .append) (xs := #[.tmp 23, .tmp 24]) rfl ?_); at_builtin; refine Kd.R_append_rows k26 (w0 := w) base rfl (.tmp 23) (.tmp 24) 22 26 (.agg #[(.int .i64 0), (.int .i64 0), (.int .u32 0), (.int .i64 0), (.int .i64 0), (.float .f64 0), (.float .f64 0), (.bool false), (.int .i64 0), (.int .i64 0), (.int .i64 0)]) 88 rfl Try.underlying22 info26 rfl (by decide) (by omega) (.slice A n n) l [x] (some ⟨vb, 0, none⟩) 1 vc (fun _ => True) (fun _ => False) rfl rfl HR.out HV.out (fun _ _ h => h) (fun _ h => h.elim) (fun _ _ => trivial) (Below.refl _ _) HB.out HL.out ?_; intro v1 w1 ho hb1 hg hat; have HO := Aside0.mk ho; have HG := Aside0.mk hg; have HA := Aside0.mk hat; clear ho hb1 hg hat)
    go_ret
    exact ⟨_, rfl, HO.out, HG.out, HA.out⟩
  · have hne : ¬ (c = n) := by omega
    go_enter Try.func26, Try.ntmps26
    go_wp2_with ((with_reducible refine gate_builtin (b := .append) (xs := #[.tmp 23, .tmp 24]) rfl ?_); at_builtin; refine Kd.R_append_rows k26 (w0 := w) base rfl (.tmp 23) (.tmp 24) 22 26 (.agg #[(.int .i64 0), (.int .i64 0), (.int .u32 0), (.int .i64 0), (.int .i64 0), (.float .f64 0), (.float .f64 0), (.bool false), (.int .i64 0), (.int .i64 0), (.int .i64 0)]) 88 rfl Try.underlying22 info26 rfl (by decide) (by omega) (.slice A n c) l [x] (some ⟨vb, 0, none⟩) 1 vc (fun _ => True) (fun _ => False) rfl rfl HR.out HV.out (fun _ _ h => h) (fun _ h => h.elim) (fun _ _ => trivial) (Below.refl _ _) HB.out HL.out ?_; intro v1 w1 ho hb1 hg hat; have HO := Aside0.mk ho; have HG := Aside0.mk hg; have HA := Aside0.mk hat; clear ho hb1 hg hat)
    go_ret
    exact ⟨_, rfl, HO.out, HG.out, HA.out⟩
/-- slices.Insert of one event into a row of one's own. -/
theorem insert_ev (v vv : Value) (base b2 : Nat) (ok2 : Nat → Prop) (l : List S26) (x : S26) (i : Nat) (w : World) (hi : i ≤ l.length) (hn : l.length ≤ 100000) (hR : Kd.R k26 26 w base (fun _ => True) v l) (hV : Kd.R k26 26 w b2 ok2 vv [x]) (hd : ∀ k, v.ownBlock = some k → vv.ownBlock ≠ some k) (hb : base ≤ w.heap.size) :
    Calls Try.prog 26 #[v, .int .i64 i, vv] w fun e w' =>
      ∃ v', e = .returned v' ∧ Kd.R k26 26 w' base (fun _ => True) v' (l.take i ++ x :: l.drop i) ∧ w.grownBy w' v.ownBlock ∧ (v'.ownBlock = v.ownBlock ∨ ∃ b, v'.ownBlock = some b ∧ w.heap.size ≤ b) := by
  rcases R_flat hV with ⟨_, h⟩ | ⟨vb, vc, vcur, rfl, _, hVG, hvl, hvm, hvs, hvt⟩
  · cases h
  have hv : vcur.toList.take 11 = evC x := by
    have : vcur.toList.take (1 * 11) = evC x ++ [] := hvt
    simpa using this
  have hVC : Kd.C k26 w (some ⟨vb, 0, none⟩) 1 [x] := (Kd.R_reads' hV).2.2
  rcases Nat.lt_or_ge i l.length with c | c
  · rcases R_flat hR with ⟨_, h⟩ | ⟨g, cap, cur, rfl, hgb, hG, hlc, hcm, hcs, ht⟩
    · subst h; simp at c
    by_cases r : l.length + 1 ≤ cap
    · refine (insert_shift g cap l.length i l x cur vb vc vcur w rfl c r hcm hn hG hcs ht hVG hv (fun e => hd g rfl (by rw [e]; rfl))).mono ?_
      rintro e w' ⟨rfl, cur', rfl, h1, h2⟩
      have hln : (l.take i ++ x :: l.drop i).length = l.length + 1 := by simp; omega
      refine ⟨_, rfl, ?_, ⟨rfl, rfl, rfl, by simp, fun k hk hne => setRow_other w.drew g k cur' (fun e => hne (by rw [e]; rfl))⟩, .inl rfl⟩
      have := flat_R (ok := fun _ => True) (base := base) (l := l.take i ++ x :: l.drop i) (w := w.drew.setRow g cur') trivial hgb (setRow_heap w.drew g cur cur' 26 (0, 0) hG) (cap := cap) (by omega) hcm (by rw [h1, hcs]) (by rw [hln]; exact h2)
      rw [hln] at this
      exact this
    · refine (insert_grow g cap l.length i l x cur vb vc vcur w rfl c hlc (by omega) hn hG ht hVG hv).mono ?_
      rintro e w' ⟨G, rfl, h1, h2, hbw, cur', h3, h4, h5⟩
      have hln : (l.take i ++ x :: l.drop i).length = l.length + 1 := by simp; omega
      refine ⟨_, rfl, ?_, ⟨hbw.os, hbw.tape, hbw.output, hbw.size, fun k hk _ => hbw.block k hk⟩, .inr ⟨w.heap.size, rfl, Nat.le_refl _⟩⟩
      have := flat_R (ok := fun _ => True) (base := base) (l := l.take i ++ x :: l.drop i) (w := w') trivial hb h3 (cap := G) (by omega) h2 h4 (by rw [hln]; exact h5)
      rw [hln] at this
      exact this
  · obtain rfl : i = l.length := by omega
    obtain ⟨A, cc, rfl⟩ := Kd.R_slice hR
    rw [List.take_length, List.drop_length]
    exact insert_end A cc base l x l.length vb vc w rfl hn hR hVC hb
end Go.Proofs.Ytjdhhbjnihhncaa.P
