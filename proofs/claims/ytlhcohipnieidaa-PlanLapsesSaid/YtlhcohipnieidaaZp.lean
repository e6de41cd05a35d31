/- share.places: the places of a row of numbers, the greatest first, of as great ones the first: slices.SortStableFunc at the closure that compares. -/
import Derived.Test.YtlhcohipnieidaaSstable
import Derived.Test.YtlhcohipnieidaaPx25
import Derived.LoopN
import Derived.BigQuiet
namespace Go.Proofs.Ytlhcohipnieidaa.P
open Go.RowKit Go.Proofs.YtlhcohipnieidaaW.PrintWords Go.Proofs.YtlhcohipnieidaaW.PrintLast Go.Proofs.YtlhcohipnieidaaW.PrintMore
attribute [local go_sem] max2_int min2_int max_two min_two max_three min_three max_four min_four   -- for this text's walks alone
set_option linter.unusedVariables false
set_option linter.unusedSimpArgs false
/-- One stands before another one: it is greater, or as great, and before it. -/
def plR (l : List Int) (x y : Nat) : Prop := rd l y < rd l x ∨ (rd l x = rd l y ∧ x < y)
instance (l : List Int) (x y : Nat) : Decidable (plR l x y) := by unfold plR; infer_instance
def plIns (l : List Int) (x : Nat) : List Nat → List Nat
  | [] => [x]
  | y :: r => if plR l x y then x :: y :: r else y :: plIns l x r
/-- The places of a row of numbers, in that order. -/
def plc (l : List Int) : List Nat := (List.range l.length).foldr (plIns l) []
theorem plR_trans {l : List Int} {x y z : Nat} (h1 : plR l x y) (h2 : plR l y z) : plR l x z := by unfold plR at *; omega
theorem plR_irrefl {l : List Int} {x y : Nat} (h1 : plR l x y) (h2 : plR l y x) : False := by unfold plR at *; omega
theorem plR_total {l : List Int} {x y : Nat} (h : x ≠ y) (h1 : ¬ plR l x y) : plR l y x := by unfold plR at *; omega
theorem plIns_perm (l : List Int) (x : Nat) : ∀ L : List Nat, (plIns l x L).Perm (x :: L) := by
  intro L
  induction L with
  | nil => exact List.Perm.refl _
  | cons y r ih =>
    unfold plIns
    by_cases c : plR l x y
    · rw [if_pos c]
    · rw [if_neg c]; exact (List.Perm.cons y ih).trans (List.Perm.swap x y r)
theorem plc_perm0 (l : List Int) : ∀ L : List Nat, (L.foldr (plIns l) []).Perm L := by
  intro L
  induction L with
  | nil => exact List.Perm.refl _
  | cons x L ih => exact (plIns_perm l x _).trans (List.Perm.cons x ih)
theorem plc_perm (l : List Int) : (plc l).Perm (List.range l.length) := plc_perm0 l _
theorem plIns_pw (l : List Int) (x : Nat) : ∀ L : List Nat, x ∉ L → L.Pairwise (plR l) → (plIns l x L).Pairwise (plR l) := by
  intro L
  induction L with
  | nil => intro _ _; exact List.pairwise_singleton _ _
  | cons y r ih =>
    intro hx hp
    have hp2 := List.pairwise_cons.1 hp
    unfold plIns
    by_cases c : plR l x y
    · rw [if_pos c]
      refine List.pairwise_cons.2 ⟨fun z hz => ?_, hp⟩
      rcases List.mem_cons.1 hz with e | e
      · rw [e]; exact c
      · exact plR_trans c (hp2.1 z e)
    · rw [if_neg c]
      refine List.pairwise_cons.2 ⟨fun z hz => ?_, ih (fun h => hx (List.mem_cons_of_mem _ h)) hp2.2⟩
      rcases List.mem_cons.1 ((plIns_perm l x r).mem_iff.1 hz) with e | e
      · rw [e]; exact plR_total (fun e2 => hx (by rw [e2]; exact List.mem_cons_self ..)) c
      · exact hp2.1 z e
theorem plc_pw0 (l : List Int) : ∀ L : List Nat, L.Nodup → (L.foldr (plIns l) []).Pairwise (plR l) := by
  intro L
  induction L with
  | nil => intro _; exact List.Pairwise.nil
  | cons x L ih =>
    intro h
    have h2 := List.nodup_cons.1 h
    exact plIns_pw l x _ (fun hx => h2.1 ((plc_perm0 l L).mem_iff.1 hx)) (ih h2.2)
theorem plc_pw (l : List Int) : (plc l).Pairwise (plR l) := plc_pw0 l _ List.nodup_range
/-- Whatever row of all the places stands in that order is it. -/
theorem plc_unique {l : List Int} {L : List Nat} (h1 : L.Perm (List.range l.length)) (h2 : L.Pairwise (plR l)) : L = plc l :=
  List.Perm.eq_of_pairwise (le := plR l) (fun a b _ _ h3 h4 => (plR_irrefl h3 h4).elim) h2 (plc_pw l) (h1.trans (plc_perm l).symm)

/-! ### The sort's world -/
section
open Go.Shelf Go.Sort
variable {α : Type} [Inhabited α]
theorem sw_below {v : α → Int} {g : Nat} {d : Array α} {W w' : World} (hS : SW (fun x => Value.int .i64 (v x)) W g 0 d w') {base : Nat} (hb : base ≤ g) (hg : g < W.heap.size) : RowKit.Below base W w' := by
  obtain ⟨m, os, rfl⟩ := hS
  unfold sortWorld putRow mapBlock grow Sort.ahead
  refine ⟨rfl, rfl, rfl, by simp, fun k hk => ?_⟩
  show ((W.heap.modify g _) ++ os)[k]? = _
  rw [Array.getElem?_append_left (by rw [Array.size_modify]; omega), Array.getElem?_modify, if_neg (by omega)]
theorem sw_own {v : α → Int} {g : Nat} {d : Array α} {W w' : World} (hS : SW (fun x => Value.int .i64 (v x)) W g 0 d w') {base : Nat} (hb : base ≤ g) {cs : Array Value} (hG : W.heap[g]? = some (.cells cs 3 (0, 0))) (hn : cs.size = d.size) (hm : d.size ≤ maxLen) :
    w'.ownsRow base 3 1 (.slice (some ⟨g, 0, none⟩) d.size d.size) d.size (nums .i64 (d.toList.map v)) := by
  obtain ⟨m, os, rfl⟩ := hS
  have hg : g < W.heap.size := (Array.getElem?_eq_some_iff.1 hG).1
  refine ⟨by simp [nums], .inr ⟨g, d.size, putCells (fun x => Value.int .i64 (v x)) 0 d cs, rfl, hb, ?_, Nat.le_refl _, hm, by simp [putCells, hn], ?_⟩⟩
  · unfold sortWorld putRow mapBlock grow Sort.ahead
    show ((W.heap.modify g _) ++ os)[g]? = _
    rw [Array.getElem?_append_left (by simpa using hg), Array.getElem?_modify, if_pos rfl, hG]
    rfl
  · rw [List.take_of_length_le (by simp [putCells, hn])]
    apply List.ext_getElem
    · simp [putCells, nums, hn]
    · intro k h1 h2
      have hk : k < d.size := by simpa [putCells, hn] using h1
      simp only [putCells, Array.getElem_toList, Array.getElem_mapIdx, nums, List.getElem_map]
      rw [if_pos (by omega), Nat.sub_zero, getElem!_pos d k hk]
end
/-! ### The closure that compares -/
def plCmp (l : List Int) (x y : Nat) : Int := if rd l y < rd l x then -1 else if rd l y > rd l x then 1 else 0
theorem plCmp_lt {l : List Int} {x y : Nat} : plCmp l x y < 0 ↔ rd l y < rd l x := by
  unfold plCmp
  by_cases c : rd l y < rd l x
  · rw [if_pos c]; exact ⟨fun _ => c, fun _ => by omega⟩
  · rw [if_neg c]
    by_cases c2 : rd l y > rd l x
    · rw [if_pos c2]; exact ⟨fun h => by omega, fun h => absurd h c⟩
    · rw [if_neg c2]; exact ⟨fun h => by omega, fun h => absurd h c⟩
theorem plCmp_f (l : List Int) (x y : Nat) : cmp_Compare_uint64.f (rd l y) (rd l x) = some (plCmp l x y) := by
  unfold cmp_Compare_uint64.f cmp_isNaN_uint64.f plCmp
  rw [bne_self_eq_false, bne_self_eq_false]
  simp only [Option.bind_some, Bool.false_eq_true, if_false]
  split
  · rfl
  · split <;> rfl
set_option maxHeartbeats 8000000 in
set_option maxRecDepth 100000 in
theorem share_places.cmp (B : Nat) (A0 : Option Addr) (c0 : Nat) (l0 : List Int) (x y : Nat) (hx : x < l0.length) (hy : y < l0.length) (w : World) (hB : w.heap[B]? = some (.cells #[.slice A0 l0.length c0] 94 (0, 0))) (hC : Kd.C (Kd.int .u64) w A0 l0.length l0) :
    Calls Try.prog 84 #[.int .i64 x, .int .i64 y, .pointer (some ⟨B, 0, none⟩)] w fun e w' => e = .returned (.int .i64 (plCmp l0 x y)) ∧ Drawn0 w w' := by
  obtain ⟨ad, ea, h1⟩ := Kd.at_int hC (x : Int) (by omega) (by omega)
  cases ea
  obtain ⟨ad2, ea2, h2⟩ := Kd.at_int hC (y : Int) (by omega) (by omega)
  cases ea2
  have hq := plCmp_f l0 x y
  simp only [Int.toNat_natCast] at h1 h2
  have b : w.cell? ⟨B, 0, none⟩ = some (.slice (some ad) l0.length c0) := (blk_cell hB 0).trans rfl
  have p1 : (0 : Int) ≤ x := by omega
  have p2 : (x : Int) < (l0.length : Int) := by omega
  have q1 : (0 : Int) ≤ y := by omega
  have q2 : (y : Int) < (l0.length : Int) := by omega
  obtain ⟨vx, hvx⟩ : ∃ v, rd l0 (x : Int) = v := ⟨_, rfl⟩
  obtain ⟨vy, hvy⟩ : ∃ v, rd l0 (y : Int) = v := ⟨_, rfl⟩
  obtain ⟨n, hn⟩ : ∃ n, l0.length = n := ⟨_, rfl⟩
  obtain ⟨r, hr⟩ : ∃ r, plCmp l0 x y = r := ⟨_, rfl⟩
  rw [hvx] at h1 hq
  rw [hvy] at h2 hq
  rw [hr] at hq ⊢
  rw [hn] at b p2 q2
  have HQ : Aside _ := hq
  clear hC hB hx hy hvx hvy hq hr hn
  go_enter Try.func84, Try.ntmps84
  go_wp2
  go_quiet (first | (go_at_call 85; refine Calls.quiet_of ((cmp_Compare_uint64.calls vy vx r _ HQ.out).mono (fun e w' ⟨h1, h2⟩ => ⟨h1, h2.out⟩))))
  go_wp2
  go_ret
  exact ⟨by first | rfl | (simp; done), by repeat (first | exact Drawn0.refl _ | apply Drawn0.step)⟩
open Go.Shelf Go.Sort in
theorem share_places.lays (B g : Nat) (A0 : Option Addr) (c0 : Nat) (l0 : List Int) (m : Nat) (hm : l0.length = m + 1) (w W0 : World) (hB : W0.heap[B]? = some (.cells #[.slice A0 l0.length c0] 94 (0, 0))) (hBg : B < g)
    (hC : Kd.C (Kd.int .u64) w A0 l0.length l0) (hL : RowKit.Below w.heap.size w W0) (hwg : w.heap.size ≤ g) (hg : g < W0.heap.size) :
    CmpLays1 Try.prog 84 #[.pointer (some ⟨B, 0, none⟩)] (fun x : Fin (m + 1) => Value.int .i64 ((x.val : Nat) : Int)) (fun x y => plCmp l0 x.val y.val) g 0 (m + 1) W0 := by
  intro q os dk hs x y
  have hS : SW (fun x : Fin (m + 1) => Value.int .i64 ((x.val : Nat) : Int)) W0 g 0 dk (sortWorld (fun x : Fin (m + 1) => Value.int .i64 ((x.val : Nat) : Int)) W0 g 0 q dk os) := ⟨q, os, rfl⟩
  have hb := sw_below (base := g) hS (Nat.le_refl _) hg
  have hb2 := sw_below (base := w.heap.size) hS hwg hg
  refine (share_places.cmp B A0 c0 l0 x.val y.val (by omega) (by omega) _ ((hb.block B hBg).trans hB) (Kd.C_below hC (hL.trans hb2))).mono ?_
  rintro e w' ⟨rfl, hD⟩
  obtain ⟨n, rfl⟩ := hD.out
  exact ⟨rfl, n, #[], by rw [grow_empty]⟩
/-- The places from 0 on, as far as they have been laid. -/
def seqF (i n : Nat) : List Int := (List.range i).map (fun (j : Nat) => (j : Int)) ++ List.replicate (n - i) 0
theorem seqF_set {i n : Nat} (h : i < n) : (seqF i n).set i (i : Int) = seqF (i + 1) n := by
  unfold seqF
  rw [show n - i = (n - (i + 1)) + 1 by omega, List.replicate_succ, List.set_append_right _ _ (by simp), List.range_succ, List.map_append, List.append_assoc]
  simp
theorem seqF_rd {j n : Nat} (h : j < n) : rd (seqF n n) (j : Int) = (j : Int) := by
  unfold seqF rd
  rw [Nat.sub_self, List.replicate_zero, List.append_nil, Int.toNat_natCast, List.getD_eq_getElem?_getD]
  simp [h]
theorem seqF_zero (n : Nat) : seqF 0 n = List.replicate n 0 := by simp [seqF]
/-- A row of the family's elements, as the sort is told it. -/
theorem fin_get (m j : Nat) (h : j < m + 1) : (Array.ofFn (fun i : Fin (m + 1) => i))[j]! = ⟨j, h⟩ := by
  rw [getElem!_pos _ j (by simpa using h)]; simp
theorem ext_all {β : Type} {n : Nat} (x : Array β) (h : x.size = n) : x.extract 0 n = x := by subst h; exact Array.extract_size
open Go.Shelf Go.Sort in
theorem places_list {l0 : List Int} {m : Nat} (hm : l0.length = m + 1) {d : Array (Fin (m + 1))} (h : St.MG (fun x y : Fin (m + 1) => plR l0 x.val y.val) 0 (m + 1) (Array.ofFn (fun i : Fin (m + 1) => i)) d) : d.toList.map (fun x : Fin (m + 1) => ((x.val : Nat) : Int)) = (plc l0).map (fun (k : Nat) => (k : Int)) := by
  have hs : d.size = m + 1 := by have := h.1.1; simpa using this
  have hp : d.toList.Perm (Array.ofFn (fun i : Fin (m + 1) => i)).toList := by
    have := h.1.2.2
    rw [ext_all d hs, ext_all (Array.ofFn (fun i : Fin (m + 1) => i)) (by simp)] at this
    exact this
  have hL : d.toList.map (fun x : Fin (m + 1) => x.val) = plc l0 := by
    apply plc_unique
    · refine (hp.map _).trans ?_
      rw [hm, Array.toList_ofFn]
      refine List.Perm.of_eq ?_
      apply List.ext_getElem
      · simp
      · intro k h1 h2; simp only [List.getElem_map, List.getElem_ofFn, List.getElem_range]
    · rw [List.pairwise_map, List.pairwise_iff_getElem]
      intro i j hi hj hij
      have hi' : i < d.size := by simpa using hi
      have hj' : j < d.size := by simpa using hj
      have := h.2 i j (Nat.zero_le _) hij (by omega)
      rw [getElem!_pos d j hj', getElem!_pos d i hi'] at this
      simpa using this
  rw [← hL, List.map_map]
  rfl
def share_places_uint64.f (k : Nat) (l0 : List Int) : Option (List Int) := if 1 ≤ l0.length ∧ l0.length ≤ 1000000 then some ((plc l0).map (fun (k : Nat) => (k : Int))) else none
open Go.Shelf Go.Sort in
/-- The call of the sort, from the world in which the places are laid. -/
theorem share_places.sort (B g : Nat) (A0 : Option Addr) (c0 : Nat) (l0 : List Int) (n : Nat) (hn1 : 1 ≤ n) (hn2 : n ≤ 1000000) (hn : l0.length = n) (w W0 : World) (hB : W0.heap[B]? = some (.cells #[.slice A0 n c0] 94 (0, 0))) (hBg : B < g)
    (hC : Kd.C (Kd.int .u64) w A0 n l0) (hL : RowKit.Below w.heap.size w W0) (hwg : w.heap.size ≤ g)
    (hO : W0.ownsRow w.heap.size 3 1 (.slice (some ⟨g, 0, none⟩) n n) n (nums .i64 (seqF n n))) :
    Calls Try.prog 83 #[.slice (some ⟨g, 0, none⟩) n n, .func (.func 84) #[] #[.pointer (some ⟨B, 0, none⟩)]] W0 fun e w' => e = .returned (.tuple #[]) ∧
      w'.ownsRow w.heap.size 3 1 (.slice (some ⟨g, 0, none⟩) n n) n (nums .i64 ((plc l0).map (fun (k : Nat) => (k : Int)))) ∧ RowKit.Below w.heap.size w w' := by
  obtain ⟨m, rfl⟩ : ∃ m, n = m + 1 := ⟨n - 1, by omega⟩
  have hG : ∃ cs, W0.heap[g]? = some (.cells cs 3 (0, 0)) ∧ cs.size = m + 1 := by
    rcases hO.2 with ⟨h, _⟩ | ⟨g', cap, cur, he, _, hh, _, _, hsz, _⟩
    · cases h
    · injection he with he h2 h3
      injection he with he
      injection he with he
      subst he
      exact ⟨cur, hh, by omega⟩
  obtain ⟨cs, hG, hcs⟩ := hG
  have hg : g < W0.heap.size := (Array.getElem?_eq_some_iff.1 hG).1
  have hds : (Array.ofFn (fun i : Fin (m + 1) => i)).size = m + 1 := by simp
  have hH : Holds (fun x : Fin (m + 1) => Value.int .i64 ((x.val : Nat) : Int)) W0 g 0 (Array.ofFn (fun i : Fin (m + 1) => i)) := by
    intro j hj
    have hj' : j < m + 1 := by omega
    have := own_at hO (j : Int) (by omega) (by omega)
    rw [Int.toNat_natCast, seqF_rd hj'] at this
    rw [fin_get m j hj', Nat.zero_add]
    exact this
  have hR : Row1 (fun x : Fin (m + 1) => Value.int .i64 ((x.val : Nat) : Int)) W0 g 0 (Array.ofFn (fun i : Fin (m + 1) => i)) := ⟨fun x => rfl, hH, hg⟩
  refine (St.sortStable (fun x : Fin (m + 1) => ((x.val : Nat) : Int)) (fun x y => plCmp l0 x.val y.val) (fun x y => plR l0 x.val y.val) (fun x y z h1 h2 => plR_trans h1 h2) _ _ g 0 (m + 1) (m + 1) (Array.ofFn (fun i : Fin (m + 1) => i)) W0 ?_
    (share_places.lays B g A0 c0 l0 m hn w W0 (by rw [hn]; exact hB) hBg (by rw [hn]; exact hC) hL hwg hg) hR hds (by omega) (Array.ofFn (fun i : Fin (m + 1) => i)) W0 hds (SW.start hH) ?_).mono ?_
  · intro args w; rfl
  · intro i j _ hij hj
    rw [fin_get m i (by omega), fin_get m j hj]
    unfold St.Crs ltOf
    constructor
    · intro h
      have := plCmp_lt.1 (of_decide_eq_true h)
      unfold plR; left; exact this
    · intro h
      have := fun h2 => (of_decide_eq_false h) (plCmp_lt.2 h2)
      unfold plR
      show rd l0 (j : Int) < rd l0 (i : Int) ∨ (rd l0 (i : Int) = rd l0 (j : Int) ∧ i < j)
      have h3 : ¬ rd l0 (i : Int) < rd l0 (j : Int) := this
      omega
  · rintro e w' ⟨rfl, d, hS, hM⟩
    have hsd : d.size = m + 1 := by have := hM.1.1; rw [hds] at this; exact this
    have := sw_own hS hwg hG (by omega) (by simp only [maxLen]; omega)
    rw [places_list hn hM, hsd] at this
    exact ⟨rfl, this, hL.trans (sw_below hS hwg hg)⟩
set_option maxHeartbeats 8000000 in
set_option maxRecDepth 100000 in
theorem share_places_uint64.calls (k : Nat) (A0 : Option Addr) (c0 : Nat) (l0 : List Int) (r1 : List Int) (w : World) (hr0 : Kd.C (Kd.int .u64) w A0 l0.length l0) (hc0 : l0.length ≤ c0) (h : share_places_uint64.f k l0 = some r1) :
    Calls Try.prog 68 #[.slice A0 l0.length c0] w fun e w' => ∃ v0_ : Value, e = .returned v0_ ∧ Kd.R (Kd.int .i64) 3 w' w.heap.size (fun _ => True) v0_ r1 ∧ Below w.heap.size w w' := by
  by_cases c : 1 ≤ l0.length ∧ l0.length ≤ 1000000
  case neg => rw [share_places_uint64.f, if_neg c] at h; cases h
  rw [share_places_uint64.f, if_pos c] at h
  obtain rfl := (Option.some.inj h).symm
  clear h
  have HC := Aside0.mk hr0
  clear hr0
  obtain ⟨n, hn⟩ : ∃ n, l0.length = n := ⟨_, rfl⟩
  rw [hn] at HC c hc0 ⊢
  have hn1 := c.1
  have hn2 := c.2
  have HN := Aside0.mk hn
  clear c hn
  have hmf : ∀ (fn : Fn) (first cap : Array Value) (w : World), (Instr.makeFunc fn first cap).run Try.prog w = .ok (.func fn first cap) w := fun _ _ _ _ => rfl
  have hmk := print_make (P := Try.prog) 46 3 .i64 8 Try.underlying46 (by kernel_rfl) (by omega) n (by omega)
  go_enter Try.func68, Try.ntmps68
  go_upto_region 2 with (fail)
  obtain ⟨W, hW⟩ : ∃ W, W = (w.alloc (Obj.cells #[.slice A0 n c0] 94)).alloc (Obj.cells (madeCells #[.int .i64 0] n) 3) := ⟨_, rfl⟩
  have hB : W.heap[w.heap.size]? = some (.cells #[.slice A0 n c0] 94 (0, 0)) := by rw [hW]; exact blk_alloc (blk_new w _) _
  have hO : W.ownsRow w.heap.size 3 1 (.slice (some ⟨w.heap.size + 1, 0, none⟩) n n) n (nums .i64 (List.replicate n 0)) := by
    have := own_made (w.alloc (Obj.cells #[.slice A0 n c0] 94)) w.heap.size 3 .i64 n (by simp) (by omega)
    rw [hW]; simpa using this
  have hL : Below w.heap.size w W := by rw [hW]; exact ((Below.refl _ _).alloc (Nat.le_refl _) _).alloc (by simp) _
  try simp only [World.heap_size_alloc, World.size_alloc]
  rw [← hW]
  clear hW
  have OO := Aside0.mk hO
  have BB := Aside0.mk hB
  have LL := Aside0.mk hL
  clear hO hB hL
  go_wp2
  go_loopg [10] n (fun kx s1 wr => ∃ (i : Nat), s1 = .int .i64 i ∧ i ≤ n ∧ n - i ≤ kx ∧ Aside0 (wr.ownsRow w.heap.size 3 1 (.slice (some ⟨w.heap.size + 1, 0, none⟩) n n) n (nums .i64 (seqF i n))) ∧
    Aside0 (wr.heap[w.heap.size]? = some (.cells #[.slice A0 n c0] 94 (0, 0))) ∧ Aside0 (Below w.heap.size w wr))
  case atStart => exact ⟨0, rfl, by omega, by omega, by rw [seqF_zero]; exact OO, BB, LL⟩
  case round =>
    clear OO BB LL
    obtain ⟨i, rfl, hin, hkx, OO, BB, LL⟩ := hrel
    by_cases hlt : i < n
    · have hltz : (i : Int) < (n : Int) := by omega
      obtain ⟨hc, hf⟩ := own_at OO.out (i : Int) (by omega) hltz
      obtain ⟨ho, hg⟩ := own_store OO.out (i : Int) (i : Int)
      rw [Int.toNat_natCast, seqF_set hlt] at ho
      rw [Int.toNat_natCast] at hg hc hf
      have O2 := Aside0.mk ho
      have B2 := Aside0.mk (blk_far (p := ⟨w.heap.size + 1, i, none⟩) BB.out (by simp) (.int .i64 i))
      have L2 := Aside0.mk (LL.out.setCell (p := ⟨w.heap.size + 1, i, none⟩) (by simp) (.int .i64 i))
      have p1 : (0 : Int) ≤ (i : Int) := by omega
      clear ho hg
      go_wp2
      go_roundg (n - (i + 1))
      case measure => omega
      case rel => exact ⟨i + 1, by first | rfl | go_num, by omega, Nat.le_refl _, O2, B2, L2⟩
    · have hltz : ¬ (i : Int) < (n : Int) := by omega
      obtain rfl : i = n := by omega
      have HS := share_places.sort w.heap.size (w.heap.size + 1) A0 c0 l0 i hn1 hn2 HN.out w wr BB.out (by omega) HC.out LL.out (by omega) OO.out
      clear OO BB LL
      go_wp2_with (go_at_call 83; refine HS.mono ?_; rintro e w1 ⟨rfl, hO, hL⟩)
      go_ret
      have hlen : ((plc l0).map (fun (k : Nat) => (k : Int))).length = i := by rw [List.length_map, (plc_perm l0).length_eq, List.length_range, HN.out]
      exact ⟨_, rfl, Kd.R_of_own (by rw [hlen]; exact hO) (fun _ _ => trivial), hL⟩
end Go.Proofs.Ytlhcohipnieidaa.P
