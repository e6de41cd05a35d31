/- A part of a proof. -/
import Derived.Test.YteemomncbcpdjaaZaa
import Derived.Test.YteemomncbcpdjaaZsu
import Derived.Test.YteemomncbcpdjaaZq
import Derived.Test.YteemomncbcpdjaaZk
import Derived.Test.YteemomncbcpdjaaSstable
import Derived.LoopN
import Derived.BigQuiet
namespace Go.Proofs.Yteemomncbcpdjaa.P
open Go.RowKit W.PrintWords W.PrintLast W.PrintMore Go.Proofs.Yteemomncbcpdjaa.Plain
attribute [local go_sem] qZs qZq qZ5 qZ6 qZk qZl qZt qZp
set_option linter.unusedVariables false
set_option linter.unusedSimpArgs false
open Go.Shelf Go.Sort in
theorem qXp {w w' : World} (h : RowKit.Below w.heap.size w w') (hd : w.drawn ≤ w'.drawn) : ∃ n os, w' = grow (w.drewN n) os := by
  obtain ⟨h1, h2, h3, h4, h5⟩ := h
  refine ⟨w'.drawn - w.drawn, w'.heap.extract w.heap.size w'.heap.size, ?_⟩
  have e : w.heap ++ w'.heap.extract w.heap.size w'.heap.size = w'.heap := by
    apply Array.ext
    · simp; omega
    · intro i hi1 hi2
      by_cases c : i < w.heap.size
      · rw [Array.getElem_append_left c]
        have := h5 i c
        rw [Array.getElem?_eq_getElem hi2, Array.getElem?_eq_getElem c] at this
        exact (Option.some.inj this).symm
      · rw [Array.getElem_append_right (by omega), Array.getElem_extract]
        congr 1; omega
  have e2 : (w.drewN (w'.drawn - w.drawn)).drawn = w'.drawn := by show w.drawn + (w'.drawn - w.drawn) = w'.drawn; omega
  cases w'
  unfold grow
  show _ = World.mk (w.heap ++ _) _ _ _ _
  rw [e]
  simp only at h1 h2 h3 e2 ⊢
  subst h1 h2 h3
  congr 1
  exact e2.symm
section
open Go.Shelf Go.Sort
variable {α : Type} [Inhabited α]
theorem qVp {v : α → Int} {g : Nat} {d : Array α} {W w' : World} (hS : SW (fun x => Value.int .i64 (v x)) W g 0 d w') {base : Nat} (hb : base ≤ g) (hg : g < W.heap.size) : RowKit.Below base W w' := by
  obtain ⟨m, os, rfl⟩ := hS
  unfold sortWorld putRow mapBlock grow Sort.ahead
  refine ⟨rfl, rfl, rfl, by simp, fun k hk => ?_⟩
  show ((W.heap.modify g _) ++ os)[k]? = _
  rw [Array.getElem?_append_left (by rw [Array.size_modify]; omega), Array.getElem?_modify, if_neg (by omega)]
theorem sw_own {v : α → Int} {g : Nat} {d : Array α} {W w' : World} (hS : SW (fun x => Value.int .i64 (v x)) W g 0 d w') {base : Nat} (hb : base ≤ g) {cs : Array Value} {cap : Nat} (hG : W.heap[g]? = some (.cells cs 3 (0, 0))) (hn : cs.size = cap) (hc : d.size ≤ cap) (hm : cap ≤ maxLen) :
    w'.ownsRow base 3 1 (.slice (some ⟨g, 0, none⟩) d.size cap) d.size (nums .i64 (d.toList.map v)) := by
  obtain ⟨m, os, rfl⟩ := hS
  have hg : g < W.heap.size := (Array.getElem?_eq_some_iff.1 hG).1
  refine ⟨by simp [nums], .inr ⟨g, cap, putCells (fun x => Value.int .i64 (v x)) 0 d cs, rfl, hb, ?_, hc, hm, by simp [putCells, hn], ?_⟩⟩
  · unfold sortWorld putRow mapBlock grow Sort.ahead
    show ((W.heap.modify g _) ++ os)[g]? = _
    rw [Array.getElem?_append_left (by simpa using hg), Array.getElem?_modify, if_pos rfl, hG]
    rfl
  · apply List.ext_getElem
    · simp [putCells, nums, hn]; omega
    · intro k h1 h2
      have hk : k < d.size := by simp [nums] at h2; exact h2
      simp only [putCells, List.getElem_take, Array.getElem_toList, Array.getElem_mapIdx, nums, List.getElem_map]
      rw [if_pos (by omega), Nat.sub_zero, getElem!_pos d k hk]
theorem qJc {β : Type} {n : Nat} (x : Array β) (h : x.size = n) : x.extract 0 n = x := by subst h; exact Array.extract_size
end
section
open Go.Shelf Go.Sort
set_option maxHeartbeats 8000000 in
set_option maxRecDepth 100000 in
theorem qYt.cmp (g : Nat) (eg : ∀ args w, (callFunc g args).run Try.prog w = .ok (.enter g args) w) (cf : S43 → S43 → Int) (hcf : ∀ (x y : S43) (w1 : World), Calls Try.prog g #[.agg #[.int .i64 x.f0, .int .i64 x.f1, .int .i64 x.f2, .int .i64 x.f3, .int .i64 x.f4, .int .i64 x.f5, .bool x.f6, .int .i64 x.f7, .int .i64 x.f8, .int .i64 x.f9, .int .i64 x.f10, .int .i64 x.f11, .int .i64 x.f12], .agg #[.int .i64 y.f0, .int .i64 y.f1, .int .i64 y.f2, .int .i64 y.f3, .int .i64 y.f4, .int .i64 y.f5, .bool y.f6, .int .i64 y.f7, .int .i64 y.f8, .int .i64 y.f9, .int .i64 y.f10, .int .i64 y.f11, .int .i64 y.f12]] w1 fun e w' => e = .returned (.int .i64 (cf x y)) ∧ ∃ n os, w' = grow (w1.drewN n) os)
    (Bf B : Nat) (A0 : Option Addr) (c0 : Nat) (l0 : List S43) (x y : Nat) (hx : x < l0.length) (hy : y < l0.length) (w : World) (hF : w.heap[Bf]? = some (.cells #[.func (.func g) #[] #[]] 53 (0, 0))) (hB : w.heap[B]? = some (.cells #[.slice A0 l0.length c0] 22 (0, 0))) (hC : Kd.C k43 w A0 l0.length l0) :
    Calls Try.prog 41 #[.int .i64 x, .int .i64 y, .pointer (some ⟨Bf, 0, none⟩), .pointer (some ⟨B, 0, none⟩)] w fun e w' => e = .returned (.int .i64 (cf (qQc l0 x) (qQc l0 y))) ∧ ∃ n os, w' = grow (w.drewN n) os := by
  have hu43 := Try.underlying43
  obtain ⟨ad, ea, u0, u1, u2, u3, u4, u5, u6, u7, u8, u9, u10, u11, u12⟩ := qYl hC (x : Int) (by omega) (by omega)
  cases ea
  obtain ⟨ad2, ea2, v0, v1, v2, v3, v4, v5, v6, v7, v8, v9, v10, v11, v12⟩ := qYl hC (y : Int) (by omega) (by omega)
  cases ea2
  have hcc := hcf (qQc l0 x) (qQc l0 y)
  simp only [Int.toNat_natCast] at u0 u1 u2 u3 u4 u5 u6 u7 u8 u9 u10 u11 u12 v0 v1 v2 v3 v4 v5 v6 v7 v8 v9 v10 v11 v12
  have bF : w.cell? ⟨Bf, 0, none⟩ = some (.func (.func g) #[] #[]) := (qQa hF 0).trans rfl
  have bB : w.cell? ⟨B, 0, none⟩ = some (.slice (some ad) l0.length c0) := (qQa hB 0).trans rfl
  have p1 : (0 : Int) ≤ x := by omega
  have p2 : (x : Int) < (l0.length : Int) := by omega
  have q1 : (0 : Int) ≤ y := by omega
  have q2 : (y : Int) < (l0.length : Int) := by omega
  obtain ⟨X, hX⟩ : ∃ v, qQc l0 (x : Int) = v := ⟨_, rfl⟩
  obtain ⟨Y, hY⟩ : ∃ v, qQc l0 (y : Int) = v := ⟨_, rfl⟩
  obtain ⟨n, hn⟩ : ∃ n, l0.length = n := ⟨_, rfl⟩
  rw [hX] at u0 u1 u2 u3 u4 u5 u6 u7 u8 u9 u10 u11 u12 hcc
  rw [hY] at v0 v1 v2 v3 v4 v5 v6 v7 v8 v9 v10 v11 v12 hcc
  rw [hX, hY]
  rw [hn] at bB p2 q2
  obtain ⟨r, hr⟩ : ∃ r, cf X Y = r := ⟨_, rfl⟩
  rw [hr] at hcc ⊢
  obtain ⟨a0, a1, a2, a3, a4, a5, a6, a7, a8, a9, a10, a11, a12⟩ := X
  obtain ⟨b0, b1, b2, b3, b4, b5, b6, b7, b8, b9, b10, b11, b12⟩ := Y
  dsimp only at u0 u1 u2 u3 u4 u5 u6 u7 u8 u9 u10 u11 u12 v0 v1 v2 v3 v4 v5 v6 v7 v8 v9 v10 v11 v12 hcc
  have HC : Aside _ := hcc
  have ug0 := cell_grown (World.block_lt_of_cell? w _ u0) u0
  have ug1 := cell_grown (World.block_lt_of_cell? w _ u1) u1
  have ug2 := cell_grown (World.block_lt_of_cell? w _ u2) u2
  have ug3 := cell_grown (World.block_lt_of_cell? w _ u3) u3
  have ug4 := cell_grown (World.block_lt_of_cell? w _ u4) u4
  have ug5 := cell_grown (World.block_lt_of_cell? w _ u5) u5
  have ug6 := cell_grown (World.block_lt_of_cell? w _ u6) u6
  have ug7 := cell_grown (World.block_lt_of_cell? w _ u7) u7
  have ug8 := cell_grown (World.block_lt_of_cell? w _ u8) u8
  have ug9 := cell_grown (World.block_lt_of_cell? w _ u9) u9
  have ug10 := cell_grown (World.block_lt_of_cell? w _ u10) u10
  have ug11 := cell_grown (World.block_lt_of_cell? w _ u11) u11
  have ug12 := cell_grown (World.block_lt_of_cell? w _ u12) u12
  have vg0 := cell_grown (World.block_lt_of_cell? w _ v0) v0
  have vg1 := cell_grown (World.block_lt_of_cell? w _ v1) v1
  have vg2 := cell_grown (World.block_lt_of_cell? w _ v2) v2
  have vg3 := cell_grown (World.block_lt_of_cell? w _ v3) v3
  have vg4 := cell_grown (World.block_lt_of_cell? w _ v4) v4
  have vg5 := cell_grown (World.block_lt_of_cell? w _ v5) v5
  have vg6 := cell_grown (World.block_lt_of_cell? w _ v6) v6
  have vg7 := cell_grown (World.block_lt_of_cell? w _ v7) v7
  have vg8 := cell_grown (World.block_lt_of_cell? w _ v8) v8
  have vg9 := cell_grown (World.block_lt_of_cell? w _ v9) v9
  have vg10 := cell_grown (World.block_lt_of_cell? w _ v10) v10
  have vg11 := cell_grown (World.block_lt_of_cell? w _ v11) v11
  have vg12 := cell_grown (World.block_lt_of_cell? w _ v12) v12
  have gF := cell_grown (World.block_lt_of_cell? w _ bF) bF
  have gB := cell_grown (World.block_lt_of_cell? w _ bB) bB
  clear hC hB hF hx hy hX hY hn hr hcc hcf u0 u1 u2 u3 u4 u5 u6 u7 u8 u9 u10 u11 u12 v0 v1 v2 v3 v4 v5 v6 v7 v8 v9 v10 v11 v12 bF bB
  have hmix : Try.prog.follows .mixedOrders = true := by kernel_rfl
  go_enter Try.func41, Try.ntmps41
  go_wp2
  go_quiet_grown (first | (go_at_fn g; refine Calls.grown_of (HC.out _)))
  go_wp2
  go_ret
  exact ⟨by first | rfl | (simp; done), _, _, rfl⟩
end
def opP (l : List S43) (i : Nat) : List Nat := (List.range i).filter (fun (j : Nat) => decide ((qQc l (j : Int)).f8 = 0))
theorem qKg (l : List S43) : opP l l.length = opN l := rfl
theorem qY4 (l : List S43) (i : Nat) : opP l (i + 1) = if (qQc l (i : Int)).f8 = 0 then opP l i ++ [i] else opP l i := by
  unfold opP
  rw [List.range_succ, List.filter_append]
  by_cases c : (qQc l (i : Int)).f8 = 0
  · rw [if_pos c, List.filter_cons_of_pos (by simp [c])]; rfl
  · rw [if_neg c, List.filter_cons_of_neg (by simp [c])]; simp
theorem qW3 (l : List S43) (i : Nat) : (opP l i).length ≤ i := by
  have := List.length_filter_le (fun (j : Nat) => decide ((qQc l (j : Int)).f8 = 0)) (List.range i)
  rw [List.length_range] at this; exact this
theorem qK9 {l : List S43} {i j : Nat} (h : j ∈ opP l i) : j < i := by unfold opP at h; simpa using (List.mem_filter.1 h).1
theorem qXk (l : List S43) (i : Nat) : (opP l i).Pairwise (· < ·) := List.Pairwise.filter _ List.pairwise_lt_range
section
open Go.Shelf Go.Sort
def opF (m : Nat) (L : List Nat) : Array (Fin (m + 1)) := (L.map (fun i => Fin.ofNat (m + 1) i)).toArray
theorem qWm (m : Nat) (L : List Nat) : (opF m L).size = L.length := by simp [opF]
theorem qJd {m : Nat} {L : List Nat} (h : ∀ i ∈ L, i < m + 1) : (opF m L).toList.map (fun x : Fin (m + 1) => x.val) = L := by
  unfold opF
  rw [List.map_map]
  conv => rhs; rw [← List.map_id L]
  exact List.map_congr_left (fun i hi => Nat.mod_eq_of_lt (h i hi))
theorem qKf {m : Nat} {L : List Nat} (h : ∀ i ∈ L, i < m + 1) (j : Nat) (hj : j < L.length) : ((opF m L)[j]!).val = L[j] := by
  rw [getElem!_pos _ j (by rw [qWm]; exact hj)]
  have := congrArg (fun l => l[j]?) (qJd h)
  simp only [List.getElem?_map, List.getElem?_eq_getElem hj, Array.getElem?_toList] at this
  rw [Array.getElem?_eq_getElem (by rw [qWm]; exact hj)] at this
  simpa using this
theorem qYt.lays (g : Nat) (eg : ∀ args w, (callFunc g args).run Try.prog w = .ok (.enter g args) w) (cf : S43 → S43 → Int) (hcf : ∀ (x y : S43) (w1 : World), Calls Try.prog g #[.agg #[.int .i64 x.f0, .int .i64 x.f1, .int .i64 x.f2, .int .i64 x.f3, .int .i64 x.f4, .int .i64 x.f5, .bool x.f6, .int .i64 x.f7, .int .i64 x.f8, .int .i64 x.f9, .int .i64 x.f10, .int .i64 x.f11, .int .i64 x.f12], .agg #[.int .i64 y.f0, .int .i64 y.f1, .int .i64 y.f2, .int .i64 y.f3, .int .i64 y.f4, .int .i64 y.f5, .bool y.f6, .int .i64 y.f7, .int .i64 y.f8, .int .i64 y.f9, .int .i64 y.f10, .int .i64 y.f11, .int .i64 y.f12]] w1 fun e w' => e = .returned (.int .i64 (cf x y)) ∧ ∃ n os, w' = grow (w1.drewN n) os)
    (Bf B gg size : Nat) (A0 : Option Addr) (c0 : Nat) (l0 : List S43) (m : Nat) (hm : l0.length = m + 1) (w W0 : World) (hF : W0.heap[Bf]? = some (.cells #[.func (.func g) #[] #[]] 53 (0, 0))) (hB : W0.heap[B]? = some (.cells #[.slice A0 l0.length c0] 22 (0, 0))) (hBf : Bf < gg) (hBg : B < gg)
    (hC : Kd.C k43 w A0 l0.length l0) (hL : RowKit.Below w.heap.size w W0) (hwg : w.heap.size ≤ gg) (hg : gg < W0.heap.size) :
    CmpLays1 Try.prog 41 #[.pointer (some ⟨Bf, 0, none⟩), .pointer (some ⟨B, 0, none⟩)] (fun x : Fin (m + 1) => Value.int .i64 ((x.val : Nat) : Int)) (fun x y => cf (qQc l0 ((x.val : Nat) : Int)) (qQc l0 ((y.val : Nat) : Int))) gg 0 size W0 := by
  intro q os dk hs x y
  have hS : SW (fun x : Fin (m + 1) => Value.int .i64 ((x.val : Nat) : Int)) W0 gg 0 dk (sortWorld (fun x : Fin (m + 1) => Value.int .i64 ((x.val : Nat) : Int)) W0 gg 0 q dk os) := ⟨q, os, rfl⟩
  have hb := qVp (base := gg) hS (Nat.le_refl _) hg
  have hb2 := qVp (base := w.heap.size) hS hwg hg
  exact qYt.cmp g eg cf hcf Bf B A0 c0 l0 x.val y.val (by omega) (by omega) _ ((hb.block Bf hBf).trans hF) ((hb.block B hBg).trans hB) (Kd.qZw hC (hL.trans hb2))
theorem qKi {m : Nat} {R : Nat → Nat → Bool} (hR : Lin R) {L : List Nat} (hn : L.Nodup) (hlt : ∀ i ∈ L, i < m + 1) {d : Array (Fin (m + 1))} (h : St.MG (fun x y : Fin (m + 1) => R x.val y.val = true) 0 L.length (opF m L) d) : d.toList.map (fun x : Fin (m + 1) => x.val) = srt R L := by
  have hs : d.size = L.length := by have := h.1.1; rw [qWm] at this; exact this
  have hp : d.toList.Perm (opF m L).toList := by
    have := h.1.2.2
    rw [qJc d hs, qJc (opF m L) (qWm m L)] at this
    exact this
  apply qVi hR hn
  · have := hp.map (fun x : Fin (m + 1) => x.val)
    rwa [qJd hlt] at this
  · rw [List.pairwise_map, List.pairwise_iff_getElem]
    intro i j hi hj hij
    have hi' : i < d.size := by simpa using hi
    have hj' : j < d.size := by simpa using hj
    have := h.2 i j (Nat.zero_le _) hij (by omega)
    rw [getElem!_pos d j hj', getElem!_pos d i hi'] at this
    simpa using this
theorem qYt.sort (g : Nat) (eg : ∀ args w, (callFunc g args).run Try.prog w = .ok (.enter g args) w) (cf : S43 → S43 → Int) (hcf : ∀ (x y : S43) (w1 : World), Calls Try.prog g #[.agg #[.int .i64 x.f0, .int .i64 x.f1, .int .i64 x.f2, .int .i64 x.f3, .int .i64 x.f4, .int .i64 x.f5, .bool x.f6, .int .i64 x.f7, .int .i64 x.f8, .int .i64 x.f9, .int .i64 x.f10, .int .i64 x.f11, .int .i64 x.f12], .agg #[.int .i64 y.f0, .int .i64 y.f1, .int .i64 y.f2, .int .i64 y.f3, .int .i64 y.f4, .int .i64 y.f5, .bool y.f6, .int .i64 y.f7, .int .i64 y.f8, .int .i64 y.f9, .int .i64 y.f10, .int .i64 y.f11, .int .i64 y.f12]] w1 fun e w' => e = .returned (.int .i64 (cf x y)) ∧ ∃ n os, w' = grow (w1.drewN n) os)
    (R : Nat → Nat → Bool) (hR : Lin R) (Bf B gg cap : Nat) (A0 : Option Addr) (c0 : Nat) (l0 : List S43) (hcr : ∀ i j : Nat, i < j → (cf (qQc l0 (j : Int)) (qQc l0 (i : Int)) < 0 → R j i = true) ∧ (0 ≤ cf (qQc l0 (j : Int)) (qQc l0 (i : Int)) → R i j = true))
    (n : Nat) (hn1 : 1 ≤ n) (hn2 : n ≤ 100000) (hn : l0.length = n) (w W0 : World) (hF : W0.heap[Bf]? = some (.cells #[.func (.func g) #[] #[]] 53 (0, 0))) (hB : W0.heap[B]? = some (.cells #[.slice A0 n c0] 22 (0, 0))) (hBf : Bf < gg) (hBg : B < gg)
    (hC : Kd.C k43 w A0 n l0) (hL : RowKit.Below w.heap.size w W0) (hwg : w.heap.size ≤ gg) (L : List Nat) (hLn : L.length ≤ n) (hLp : L.Pairwise (· < ·)) (hLt : ∀ i ∈ L, i < n)
    (hO : W0.ownsRow w.heap.size 3 1 (.slice (some ⟨gg, 0, none⟩) L.length cap) L.length (nums .i64 (toI L))) :
    Calls Try.prog 40 #[.slice (some ⟨gg, 0, none⟩) L.length cap, .func (.func 41) #[] #[.pointer (some ⟨Bf, 0, none⟩), .pointer (some ⟨B, 0, none⟩)]] W0 fun e w' => e = .returned (.tuple #[]) ∧
      w'.ownsRow w.heap.size 3 1 (.slice (some ⟨gg, 0, none⟩) L.length cap) L.length (nums .i64 (toI (srt R L))) ∧ RowKit.Below w.heap.size w w' := by
  obtain ⟨m, rfl⟩ : ∃ m, n = m + 1 := ⟨n - 1, by omega⟩
  have hLd : L.Nodup := hLp.imp (fun h => Nat.ne_of_lt h)
  have hG : ∃ cs, W0.heap[gg]? = some (.cells cs 3 (0, 0)) ∧ cs.size = cap ∧ L.length ≤ cap ∧ cap ≤ maxLen := by
    rcases hO.2 with ⟨h, _⟩ | ⟨g', cap', cur, he, _, hh, h1, h2, hsz, _⟩
    · cases h
    · injection he with he h3 h4
      injection he with he
      injection he with he
      subst he h4
      exact ⟨cur, hh, by omega, h1, h2⟩
  obtain ⟨cs, hG, hcs, hlc, hcm⟩ := hG
  have hg : gg < W0.heap.size := (Array.getElem?_eq_some_iff.1 hG).1
  have hds := qWm m L
  have hH : Holds (fun x : Fin (m + 1) => Value.int .i64 ((x.val : Nat) : Int)) W0 gg 0 (opF m L) := by
    intro j hj
    have hj' : j < L.length := by omega
    have := own_at hO (j : Int) (by omega) (by omega)
    rw [Int.toNat_natCast] at this
    dsimp only
    rw [qKf hLt j hj', Nat.zero_add]
    have e : rd (toI L) (j : Int) = ((L[j] : Nat) : Int) := by unfold rd toI; rw [Int.toNat_natCast, List.getD_eq_getElem?_getD]; simp [hj']
    rwa [e] at this
  have hRw : Row1 (fun x : Fin (m + 1) => Value.int .i64 ((x.val : Nat) : Int)) W0 gg 0 (opF m L) := ⟨fun x => rfl, hH, hg⟩
  refine (St.sortStable (fun x : Fin (m + 1) => ((x.val : Nat) : Int)) (fun x y => cf (qQc l0 ((x.val : Nat) : Int)) (qQc l0 ((y.val : Nat) : Int))) (fun x y => R x.val y.val = true) (fun x y z h1 h2 => hR.trans _ _ _ h1 h2) _ _ gg 0 L.length cap (opF m L) W0 ?_
    (qYt.lays g eg cf hcf Bf B gg L.length A0 c0 l0 m hn w W0 hF (by rw [hn]; exact hB) hBf hBg (by rw [hn]; exact hC) hL hwg hg) hRw hds (by omega) (opF m L) W0 hds (SW.start hH) ?_).mono ?_
  · intro args w; rfl
  · intro i j _ hij hj
    have hi : i < L.length := by omega
    have hlt : L[i] < L[j] := (List.pairwise_iff_getElem.1 hLp) i j hi hj hij
    have hc := hcr _ _ hlt
    unfold St.Crs ltOf
    rw [← qKf hLt i hi, ← qKf hLt j hj] at hc
    exact ⟨fun h => hc.1 (of_decide_eq_true h), fun h => hc.2 (Int.not_lt.1 (of_decide_eq_false h))⟩
  · rintro e w' ⟨rfl, d, hS, hM⟩
    have hsd : d.size = L.length := by have := hM.1.1; rw [hds] at this; exact this
    have := sw_own hS hwg hG hcs (by omega) hcm
    have e : d.toList.map (fun x : Fin (m + 1) => ((x.val : Nat) : Int)) = toI (srt R L) := by rw [← qKi hR hLd hLt hM]; unfold toI; rw [List.map_map]; rfl
    rw [e, hsd] at this
    exact ⟨rfl, this, hL.trans (qVp hS hwg hg)⟩
end
set_option maxHeartbeats 8000000 in
theorem zZd (f : Value) (w : World) : Calls Try.prog 55 #[.slice none 0 0, .int .i64 0, .int .i64 0, f] w fun e w' => e = .returned (.tuple #[]) ∧ Below w.heap.size w w' := by
  have HB := am (Below.refl w.heap.size w)
  go_enter Try.func55, Try.ntmps55
  go_wp2
  go_loopg [8] 0 (fun kx v wr => v = .int .i64 1 ∧ Aside0 (Below w.heap.size w wr))
  case atStart => exact ⟨by first | rfl | go_num, HB⟩
  case round =>
    clear HB
    obtain ⟨rfl, HB⟩ := hrel
    go_wp2
    go_end0
    exact ⟨rfl, HB.out⟩
set_option maxHeartbeats 8000000 in
theorem qK0 (f : Value) (w : World) : Calls Try.prog 51 #[.slice none 0 0, .int .i64 0, f] w fun e w' => e = .returned (.tuple #[]) ∧ Below w.heap.size w w' := by
  have HB := am (Below.refl w.heap.size w)
  go_enter Try.func51, Try.ntmps51
  go_wp2
  go_loopg [7, 8] 0 (fun kx v1 v2 wr => v1 = .int .i64 0 ∧ v2 = .int .i64 20 ∧ Aside0 (Below w.heap.size w wr))
  case atStart => exact ⟨rfl, rfl, HB⟩
  case round =>
    clear HB
    obtain ⟨rfl, rfl, HB⟩ := hrel
    go_wp2_with (go_at_call 55; refine (zZd f _).mono ?_; rintro e w2 ⟨rfl, hb⟩; have n_ := am (qQn (by exact h0q HB.out) hb); clear HB hb; have HB := n_; clear n_)
    go_loopg [6] 0 (fun kx v wr => v = .int .i64 20 ∧ Aside0 (Below w.heap.size w wr))
    case atStart => exact ⟨rfl, HB⟩
    case round =>
      clear HB
      obtain ⟨rfl, HB⟩ := hrel
      go_wp2
      go_end0
      exact ⟨rfl, HB.out⟩
set_option maxHeartbeats 8000000 in
theorem zQy (f : Value) (w : World) : Calls Try.prog 40 #[.slice none 0 0, f] w fun e w' => e = .returned (.tuple #[]) ∧ Below w.heap.size w w' := by
  have HB := am (Below.refl w.heap.size w)
  go_enter Try.func40, Try.ntmps40
  go_wp2_with (go_at_call 51; refine (qK0 f _).mono ?_; rintro e w2 ⟨rfl, hb⟩; have n_ := am (qQn (by exact h0q HB.out) hb); clear HB hb; have HB := n_; clear n_)
  go_end0
  exact ⟨rfl, HB.out⟩
open Go.Shelf Go.Sort in
set_option maxHeartbeats 8000000 in
set_option maxRecDepth 100000 in
theorem qYt.calls0 (g : Nat) (eg : ∀ args w, (callFunc g args).run Try.prog w = .ok (.enter g args) w) (cf : S43 → S43 → Int) (hcf : ∀ (x y : S43) (w1 : World), Calls Try.prog g #[.agg #[.int .i64 x.f0, .int .i64 x.f1, .int .i64 x.f2, .int .i64 x.f3, .int .i64 x.f4, .int .i64 x.f5, .bool x.f6, .int .i64 x.f7, .int .i64 x.f8, .int .i64 x.f9, .int .i64 x.f10, .int .i64 x.f11, .int .i64 x.f12], .agg #[.int .i64 y.f0, .int .i64 y.f1, .int .i64 y.f2, .int .i64 y.f3, .int .i64 y.f4, .int .i64 y.f5, .bool y.f6, .int .i64 y.f7, .int .i64 y.f8, .int .i64 y.f9, .int .i64 y.f10, .int .i64 y.f11, .int .i64 y.f12]] w1 fun e w' => e = .returned (.int .i64 (cf x y)) ∧ ∃ n os, w' = grow (w1.drewN n) os)
    (R : Nat → Nat → Bool) (hR : Lin R) (A0 : Option Addr) (c0 : Nat) (l0 : List S43) (hcr : ∀ i j : Nat, i < j → (cf (qQc l0 (j : Int)) (qQc l0 (i : Int)) < 0 → R j i = true) ∧ (0 ≤ cf (qQc l0 (j : Int)) (qQc l0 (i : Int)) → R i j = true))
    (hn2 : l0.length ≤ 100000) (w : World) (hr0 : Kd.C k43 w A0 l0.length l0) :
    Calls Try.prog 22 #[.slice A0 l0.length c0, .func (.func g) #[] #[]] w fun e w' => ∃ v0_ : Value, e = .returned v0_ ∧ Kd.R (Kd.int .i64) 3 w' w.heap.size (fun _ => True) v0_ (toI (srt R (opN l0))) ∧ RowKit.Below w.heap.size w w' := by
  have hu43 := Try.underlying43
  obtain ⟨n, hn⟩ : ∃ n, l0.length = n := ⟨_, rfl⟩
  rw [hn] at hr0 hn2 ⊢
  have HN := am hn
  have HCF : Aside _ := hcf
  have HCR := am hcr
  clear hn hcf hcr
  have HC := am hr0
  clear hr0
  have hmf : ∀ (fn : Fn) (first cap : Array Value) (w : World), (Instr.makeFunc fn first cap).run Try.prog w = .ok (.func fn first cap) w := fun _ _ _ _ => rfl
  go_enter Try.func22, Try.ntmps22
  go_upto_region 1 with (fail)
  obtain ⟨W, hW⟩ : ∃ W, W = (w.alloc (Obj.cells #[.slice A0 n c0] 22)).alloc (Obj.cells #[.func (.func g) #[] #[]] 53) := ⟨_, rfl⟩
  have hB : W.heap[w.heap.size]? = some (.cells #[.slice A0 n c0] 22 (0, 0)) := by rw [hW]; exact qQo (qYn w _) _
  have hF : W.heap[w.heap.size + 1]? = some (.cells #[.func (.func g) #[] #[]] 53 (0, 0)) := by
    have := qYn (w.alloc (Obj.cells #[.slice A0 n c0] 22)) (.cells #[.func (.func g) #[] #[]] 53 (0, 0))
    rw [hW]; simpa using this
  have hL : RowKit.Below w.heap.size w W := by rw [hW]; exact ((RowKit.Below.refl _ _).alloc (Nat.le_refl _) _).alloc (by simp) _
  have hsz : W.heap.size = w.heap.size + 2 := by rw [hW]; simp
  try simp only [World.heap_size_alloc, World.size_alloc]
  rw [← hW]
  clear hW
  obtain ⟨B, hBe⟩ : ∃ B, B = w.heap.size := ⟨_, rfl⟩
  rw [← hBe] at hB hF ⊢
  obtain ⟨Bf, hFe⟩ : ∃ B', B' = B + 1 := ⟨_, rfl⟩
  rw [← hFe] at hF ⊢
  have HF := am hF
  have HBx := am hB
  have HL := am hL
  have HSZ := am (show B + 2 = W.heap.size ∧ Bf + 1 = W.heap.size ∧ w.heap.size ≤ W.heap.size by omega)
  have HR0 := am (Kd.qZw HC.out hL)
  have bB : W.cell? ⟨B, 0, none⟩ = some (.slice A0 n c0) := (qQa hB 0).trans rfl
  have HB := am (RowKit.Below.refl W.heap.size W)
  clear hF hB hL hBe hFe hsz
  (go_wp2; (try (go_step3; go_wp2)); (try (go_step3; go_wp2)))
  clear bB
  go_loopg [5, 10] n (fun kx v5 v10 wr => ∃ (i : Nat) (V5 : Value), V5 = v5 ∧ v10 = .int .i64 i ∧ i ≤ n ∧ n - i ≤ kx ∧ Aside0 (Kd.R (Kd.int .i64) 3 wr W.heap.size (fun _ => True) V5 (toI (opP l0 i))) ∧ Aside0 (opP l0 i = [] → V5 = .slice none 0 0) ∧ Aside0 (RowKit.Below W.heap.size W wr))
  case atStart => exact ⟨0, _, rfl, by first | rfl | go_num, by omega, by omega, ⟨Kd.R_nil _ _ _ _ _⟩, ⟨fun _ => rfl⟩, HB⟩
  case round =>
    clear HB
    obtain ⟨i, V5, rfl, rfl, hin, hkx, HO_3, HV5, HB⟩ := hrel
    by_cases hlt : i < n
    · obtain ⟨x8_1, h8⟩ : ∃ z : Int, z = (i : Int) := ⟨_, rfl⟩
      obtain ⟨x3_1, h3⟩ : ∃ z : List Int, z = toI (opP l0 i) := ⟨_, rfl⟩
      have hs := qY4 l0 i
      have hln := qW3 l0 i
      have hl3 : x3_1.length ≤ 100000 := by rw [h3]; unfold toI; rw [List.length_map]; omega
      rw [← h8] at hs ⊢
      rw [← h3] at HO_3
      have p103 : 0 ≤ x8_1 := by omega
      have q103 : x8_1 < (n : Int) := by omega
      have HS := am hs
      have H3 := am h3
      have H8 := am h8
      have HI := am (show i + 1 ≤ n by omega)
      have LMc6 := am (show x3_1.length < 17592186044416 by omega)
      clear hs h3 hln hl3 h8 hlt hin
      obtain ⟨ad103, e103, u0, u1, u2, u3, u4, u5, u6, u7, u8, u9, u10, u11, u12⟩ := qYl HR0.out x8_1 p103 q103
      cases e103
      replace u0 := (HB.out.cell (World.block_lt_of_cell? W _ u0)).trans u0
      replace u1 := (HB.out.cell (World.block_lt_of_cell? W _ u1)).trans u1
      replace u2 := (HB.out.cell (World.block_lt_of_cell? W _ u2)).trans u2
      replace u3 := (HB.out.cell (World.block_lt_of_cell? W _ u3)).trans u3
      replace u4 := (HB.out.cell (World.block_lt_of_cell? W _ u4)).trans u4
      replace u5 := (HB.out.cell (World.block_lt_of_cell? W _ u5)).trans u5
      replace u6 := (HB.out.cell (World.block_lt_of_cell? W _ u6)).trans u6
      replace u7 := (HB.out.cell (World.block_lt_of_cell? W _ u7)).trans u7
      replace u8 := (HB.out.cell (World.block_lt_of_cell? W _ u8)).trans u8
      replace u9 := (HB.out.cell (World.block_lt_of_cell? W _ u9)).trans u9
      replace u10 := (HB.out.cell (World.block_lt_of_cell? W _ u10)).trans u10
      replace u11 := (HB.out.cell (World.block_lt_of_cell? W _ u11)).trans u11
      replace u12 := (HB.out.cell (World.block_lt_of_cell? W _ u12)).trans u12
      have c2b0 : decide (x8_1 < (n : Int)) = true := decide_eq_true q103
      replace p103 := eq_true p103
      replace q103 := eq_true q103
      by_cases c5 : ((qQc l0 x8_1).f8) = 0
      · have c5b0 : (((qQc l0 x8_1).f8) == 0) = true := beq_iff_eq.mpr c5
        have c5b1 : (((qQc l0 x8_1).f8) != 0) = false := bne_eq_false_iff_eq.mpr c5
        have hsp : toI (opP l0 (i + 1)) = x3_1 ++ [x8_1] := by rw [HS.out, if_pos c5, H3.out, H8.out]; simp [toI]
        clear c5 HS H3
        obtain ⟨y105, hy105⟩ : ∃ y_ : List Int, y_ = (x3_1 ++ [x8_1]) := ⟨_, rfl⟩
        rw [← hy105] at hsp
        have Ny105 := am hy105
        have HSP := am hsp
        clear hy105 hsp
        go_wp2_with (first | ((with_reducible refine qZj (N := 7) rfl ?_); refine qZu ?hg (N := 7) ?hd (cs := #[.int .i64 0, .int .i64 0, .int .i64 0, .int .i64 0, .int .i64 0, .int .i64 0, .bool false, .int .i64 0, .int .i64 0, .int .i64 0, .int .i64 0, .int .i64 0, .int .i64 0]) (t := 43) ?hr ?_; (case hd => rfl); (case hg => rfl); (case hr => first | (go_simp; done) | (go_simp; rfl)); intro gb104 hg w7 hbox hb; have n0_ := am (Kd.qQw (by exact rq HO_3.out) hb); have n1_ := am (qQn (by exact h0q HB.out) hb); have n2_ := am (hbox); have n3_ := am ((by rw [hg]; exact (qQh (by exact h0q HB.out)) : W.heap.size ≤ gb104)); have n4_ := am ((by rw [hg]; exact (qQh (by exact h0q HB.out)) : W.heap.size ≤ gb104)); clear HO_3; clear HB; have HO_3 := n0_; have HB := n1_; have BK104 := n2_; have GW104 := n3_; have GE104 := n4_; clear n0_ n1_ n2_ n3_ n4_; clear hb hbox hg; have hz8 := lc13 BK104.out) | ((with_reducible refine qYj (b := .append) (xs := #[.tmp 18, .tmp 20]) rfl ?_); at_builtin; refine Kd.qXr (Kd.int .i64) (w0 := W) W.heap.size rfl (.tmp 18) (.tmp 20) 35 3 (.int .i64 0) 8 rfl Try.underlying35 info3 rfl (by decide) (by omega) V5 x3_1 x8_1 [.int .i64 x8_1] (fun _ => True) (fun _ => False) rfl (by first | (go_simp; done) | (go_simp; rfl)) ?aP (fun _ hk => hk.elim) ?aF ?aO ?aB ?aS ?aL ?_; (case aP => exact rfl); (case aB => exact (by exact h1q HB.out GE104.out)); (case aF => exact (fun _ _ => trivial)); (case aO => exact (by (with_reducible repeat (first | apply Kd.qQs | apply Kd.qQq | apply Kd.qQt)); exact Kd.qQv (Kd.R_far (p := ⟨gb104, 12, none⟩) (Kd.R_far (p := ⟨gb104, 11, none⟩) (Kd.R_far (p := ⟨gb104, 10, none⟩) (Kd.R_far (p := ⟨gb104, 9, none⟩) (Kd.R_far (p := ⟨gb104, 8, none⟩) (Kd.R_far (p := ⟨gb104, 7, none⟩) (Kd.R_far (p := ⟨gb104, 6, none⟩) (Kd.R_far (p := ⟨gb104, 5, none⟩) (Kd.R_far (p := ⟨gb104, 4, none⟩) (Kd.R_far (p := ⟨gb104, 3, none⟩) (Kd.R_far (p := ⟨gb104, 2, none⟩) (Kd.R_far (p := ⟨gb104, 1, none⟩) (Kd.R_far (p := ⟨gb104, 0, none⟩) (Kd.qZc HO_3.out BK104.out (by decide)) (fun _ hk => hk.2) (.int .i64 ((qQc l0 x8_1).f0))) (fun _ hk => hk.2) (.int .i64 ((qQc l0 x8_1).f1))) (fun _ hk => hk.2) (.int .i64 ((qQc l0 x8_1).f2))) (fun _ hk => hk.2) (.int .i64 ((qQc l0 x8_1).f3))) (fun _ hk => hk.2) (.int .i64 ((qQc l0 x8_1).f4))) (fun _ hk => hk.2) (.int .i64 ((qQc l0 x8_1).f5))) (fun _ hk => hk.2) (.bool ((qQc l0 x8_1).f6))) (fun _ hk => hk.2) (.int .i64 ((qQc l0 x8_1).f7))) (fun _ hk => hk.2) (.int .i64 ((qQc l0 x8_1).f8))) (fun _ hk => hk.2) (.int .i64 ((qQc l0 x8_1).f9))) (fun _ hk => hk.2) (.int .i64 ((qQc l0 x8_1).f10))) (fun _ hk => hk.2) (.int .i64 ((qQc l0 x8_1).f11))) (fun _ hk => hk.2) (.int .i64 ((qQc l0 x8_1).f12))) (fun _ hk => trivial))); (case aS => exact (qQh (by exact h1q HB.out GE104.out))); (case aL => have := LMc6.out; omega); intro v106 w9 ho hb hg hat; rw [← Ny105.out] at ho; have n0_ := am (qYc (g := gb104) (o := .cells #[.int .i64 ((qQc l0 x8_1).f0), .int .i64 ((qQc l0 x8_1).f1), .int .i64 ((qQc l0 x8_1).f2), .int .i64 ((qQc l0 x8_1).f3), .int .i64 ((qQc l0 x8_1).f4), .int .i64 ((qQc l0 x8_1).f5), .bool ((qQc l0 x8_1).f6), .int .i64 ((qQc l0 x8_1).f7), .int .i64 ((qQc l0 x8_1).f8), .int .i64 ((qQc l0 x8_1).f9), .int .i64 ((qQc l0 x8_1).f10), .int .i64 ((qQc l0 x8_1).f11), .int .i64 ((qQc l0 x8_1).f12)] 43 (0, 0)) (by (with_reducible repeat (first | refine qQm ?_ _ | refine qQk ?_ | refine qQo ?_ _)); apply qY6; (with_reducible repeat (first | refine qQm ?_ _ | refine qQk ?_ | refine qQo ?_ _)); exact BK104.out) hg (Kd.R_ne HO_3.out BK104.out (by decide))); have n1_ := am (hb); have n2_ := am (ho); clear BK104; clear HB; clear HO_3; have BK104 := n0_; have HB := n1_; have HO107 := n2_; clear n0_ n1_ n2_; clear ho hb hg hat))
        go_roundg (n - (i + 1))
        case measure => have := HI.out; omega
        case rel => exact ⟨i + 1, _, rfl, (by have := HI.out; rw [H8.out]; first | rfl | (go_num; done) | (congr 1; rw [wrap64]; omega) | (simp; omega)), HI.out, Nat.le_refl _, ⟨by rw [HSP.out]; (with_reducible repeat (first | apply Kd.qQs | apply Kd.qQq | apply Kd.qQt)); exact HO107.out⟩, ⟨fun h => by have h2 := HSP.out; rw [h] at h2; have h3 := Ny105.out; rw [← h2] at h3; exact absurd h3 (by simp [toI])⟩, ⟨by exact h1q HB.out GE104.out⟩⟩
      · have c5b0 : (((qQc l0 x8_1).f8) == 0) = false := beq_eq_false_iff_ne.mpr c5
        have c5b1 : (((qQc l0 x8_1).f8) != 0) = true := bne_iff_ne.mpr c5
        have hs2 : opP l0 (i + 1) = opP l0 i := by rw [HS.out, if_neg c5]
        have hsp : toI (opP l0 (i + 1)) = x3_1 := by rw [hs2, H3.out]
        have HS2 := am hs2
        clear c5 HS H3 hs2
        have HSP := am hsp
        clear hsp
        go_wp2_with (first | ((with_reducible refine qZj (N := 7) rfl ?_); refine qZu ?hg (N := 7) ?hd (cs := #[.int .i64 0, .int .i64 0, .int .i64 0, .int .i64 0, .int .i64 0, .int .i64 0, .bool false, .int .i64 0, .int .i64 0, .int .i64 0, .int .i64 0, .int .i64 0, .int .i64 0]) (t := 43) ?hr ?_; (case hd => rfl); (case hg => rfl); (case hr => first | (go_simp; done) | (go_simp; rfl)); intro gb104 hg w10 hbox hb; have n0_ := am (Kd.qQw (by exact rq HO_3.out) hb); have n1_ := am (qQn (by exact h0q HB.out) hb); have n2_ := am (hbox); have n3_ := am ((by rw [hg]; exact (qQh (by exact h0q HB.out)) : W.heap.size ≤ gb104)); have n4_ := am ((by rw [hg]; exact (qQh (by exact h0q HB.out)) : W.heap.size ≤ gb104)); clear HO_3; clear HB; have HO_3 := n0_; have HB := n1_; have BK104 := n2_; have GW104 := n3_; have GE104 := n4_; clear n0_ n1_ n2_ n3_ n4_; clear hb hbox hg; have hz11 := lc13 BK104.out))
        go_roundg (n - (i + 1))
        case measure => have := HI.out; omega
        case rel => exact ⟨i + 1, _, rfl, (by have := HI.out; rw [H8.out]; first | rfl | (go_num; done) | (congr 1; rw [wrap64]; omega) | (simp; omega)), HI.out, Nat.le_refl _, ⟨by rw [HSP.out]; (with_reducible repeat (first | apply Kd.qQs | apply Kd.qQq | apply Kd.qQt)); exact Kd.qQv (Kd.R_far (p := ⟨gb104, 12, none⟩) (Kd.R_far (p := ⟨gb104, 11, none⟩) (Kd.R_far (p := ⟨gb104, 10, none⟩) (Kd.R_far (p := ⟨gb104, 9, none⟩) (Kd.R_far (p := ⟨gb104, 8, none⟩) (Kd.R_far (p := ⟨gb104, 7, none⟩) (Kd.R_far (p := ⟨gb104, 6, none⟩) (Kd.R_far (p := ⟨gb104, 5, none⟩) (Kd.R_far (p := ⟨gb104, 4, none⟩) (Kd.R_far (p := ⟨gb104, 3, none⟩) (Kd.R_far (p := ⟨gb104, 2, none⟩) (Kd.R_far (p := ⟨gb104, 1, none⟩) (Kd.R_far (p := ⟨gb104, 0, none⟩) (Kd.qZc HO_3.out BK104.out (by decide)) (fun _ hk => hk.2) (.int .i64 ((qQc l0 x8_1).f0))) (fun _ hk => hk.2) (.int .i64 ((qQc l0 x8_1).f1))) (fun _ hk => hk.2) (.int .i64 ((qQc l0 x8_1).f2))) (fun _ hk => hk.2) (.int .i64 ((qQc l0 x8_1).f3))) (fun _ hk => hk.2) (.int .i64 ((qQc l0 x8_1).f4))) (fun _ hk => hk.2) (.int .i64 ((qQc l0 x8_1).f5))) (fun _ hk => hk.2) (.bool ((qQc l0 x8_1).f6))) (fun _ hk => hk.2) (.int .i64 ((qQc l0 x8_1).f7))) (fun _ hk => hk.2) (.int .i64 ((qQc l0 x8_1).f8))) (fun _ hk => hk.2) (.int .i64 ((qQc l0 x8_1).f9))) (fun _ hk => hk.2) (.int .i64 ((qQc l0 x8_1).f10))) (fun _ hk => hk.2) (.int .i64 ((qQc l0 x8_1).f11))) (fun _ hk => hk.2) (.int .i64 ((qQc l0 x8_1).f12))) (fun _ hk => trivial)⟩, ⟨fun h => HV5.out (by have h2 := HS2.out; rw [h] at h2; exact h2.symm)⟩, ⟨by exact h1q HB.out GE104.out⟩⟩
    · have hltz : ¬ (i : Int) < (n : Int) := by omega
      obtain rfl : i = n := by omega
      have hO := Kd.qVo HO_3.out
      have hop : opP l0 i = opN l0 := by have := HN.out; rw [← qKg, this]
      have hsq := HSZ.out
      rw [hop] at hO
      rw [show (toI (opN l0)).length = (opN l0).length by simp [toI]] at hO
      have hlen : (toI (srt R (opN l0))).length = (opN l0).length := by simp [toI, (qY7 R (opN l0)).length_eq]
      rcases (show V5 = .slice none 0 0 ∧ (opN l0).length = 0 ∨ 1 ≤ i ∧ ∃ g cap, V5 = .slice (some ⟨g, 0, none⟩) (opN l0).length cap ∧ W.heap.size ≤ g by
        rcases Nat.eq_zero_or_pos (opN l0).length with h | h
        · exact .inl ⟨HV5.out (by rw [hop]; exact List.eq_nil_of_length_eq_zero h), h⟩
        · rcases hO.2 with h2 | ⟨g, cap, cur, he, hg, _⟩
          · exact absurd h2.2 (by omega)
          · refine .inr ⟨?_, g, cap, he, hg⟩
            have := qW3 l0 i
            rw [hop] at this; omega) with ⟨rfl, hz⟩ | ⟨hp1, gg, cap, rfl, hgg⟩
      · have e0 : opN l0 = [] := List.eq_nil_of_length_eq_zero hz
        have E0 := am e0
        clear hO hop hlen hz e0
        go_wp2_with (go_at_call 40; refine (zQy _ _).mono ?_; rintro e w1 ⟨rfl, hb⟩; have n_ := am (qQn (by exact h0q HB.out) hb); clear HB hb; have HB := n_; clear n_)
        try (go_step3; go_wp2)
        try (go_step3; go_wp2)
        try simp only [Exit.noGoto_ret]
        go_ret
        refine ⟨_, rfl, ?_, HL.out.trans (HB.out.mono (by omega))⟩
        rw [E0.out]
        exact Kd.R_nil _ _ _ _ _
      · have HSo := qYt.sort g eg cf HCF.out R hR Bf B gg cap A0 c0 l0 HCR.out i hp1 hn2 HN.out w wr ((HB.out.block Bf (by omega)).trans HF.out) ((HB.out.block B (by omega)).trans HBx.out) (by omega) (by omega) HC.out (HL.out.trans (HB.out.mono hsq.2.2)) (by omega) (opN l0) (by rw [← hop]; exact qW3 _ _) (by rw [← hop]; exact qXk _ _) (by rw [← hop]; exact fun j hj => qK9 hj) (qVf hO hsq.2.2)
        have HLEN := am hlen
        clear hO hop hlen
        obtain ⟨nl, hnl⟩ : ∃ q, q = (opN l0).length := ⟨_, rfl⟩
        rw [← hnl] at HSo ⊢
        have HNL := am hnl
        have HS2 := am HSo
        clear hnl HSo
        go_wp2_with (go_at_call 40; go_loud (refine HS2.out.mono ?_; rintro e w1 ⟨rfl, hO, hL⟩))
        try (go_step3; go_wp2)
        try (go_step3; go_wp2)
        try simp only [Exit.noGoto_ret]
        go_ret
        refine ⟨_, rfl, Kd.qKv ?_ (fun _ _ => trivial), hL⟩
        rw [HLEN.out, ← HNL.out]
        exact hO
theorem qJr (x y : Int) : cmp_Compare_int.f x y = some (if x < y then -1 else if x > y then 1 else 0) := by
  unfold cmp_Compare_int.f cmp_isNaN_int.f
  rw [bne_self_eq_false, bne_self_eq_false]
  simp only [Option.bind_some, Bool.false_eq_true, if_false]
  split
  · rfl
  · split <;> rfl
def cfI (x y : S43) : Int := if x.f0 < y.f0 then -1 else if x.f0 > y.f0 then 1 else 0
def cfP (x y : S43) : Int := if y.f5 < x.f5 then -1 else if y.f5 > x.f5 then 1 else 0
def cfD (x y : S43) : Int := if cfP x y ≠ 0 then cfP x y else cfI x y
open Go.Shelf Go.Sort in
theorem qJy (x y : S43) (w1 : World) : Calls Try.prog 23 #[.agg #[.int .i64 x.f0, .int .i64 x.f1, .int .i64 x.f2, .int .i64 x.f3, .int .i64 x.f4, .int .i64 x.f5, .bool x.f6, .int .i64 x.f7, .int .i64 x.f8, .int .i64 x.f9, .int .i64 x.f10, .int .i64 x.f11, .int .i64 x.f12], .agg #[.int .i64 y.f0, .int .i64 y.f1, .int .i64 y.f2, .int .i64 y.f3, .int .i64 y.f4, .int .i64 y.f5, .bool y.f6, .int .i64 y.f7, .int .i64 y.f8, .int .i64 y.f9, .int .i64 y.f10, .int .i64 y.f11, .int .i64 y.f12]] w1 fun e w' => e = .returned (.int .i64 (cfI x y)) ∧ ∃ n os, w' = grow (w1.drewN n) os :=
  (qX0.calls x.f0 x.f1 x.f2 x.f3 x.f4 x.f5 x.f6 x.f7 x.f8 x.f9 x.f10 x.f11 x.f12 y.f0 y.f1 y.f2 y.f3 y.f4 y.f5 y.f6 y.f7 y.f8 y.f9 y.f10 y.f11 y.f12 (cfI x y) w1 (by unfold qX0.f cfI; rw [qJr]; rfl)).mono (fun e w' ⟨h1, h2, h3⟩ => ⟨h1, qXp h2 h3⟩)
theorem or_f (a b : Int) : qZ2.f 4 [a, b] = some (if a ≠ 0 then a else b) := by
  have w1 : wrap64 1 = 1 := by unfold wrap64; omega
  have w2 : wrap64 2 = 2 := by unfold wrap64; omega
  unfold qZ2.f
  by_cases c1 : a = 0
  · by_cases c2 : b = 0
    · subst c1 c2; simp [qZ2.l0, rd, w1, w2]
    · subst c1; simp [qZ2.l0, rd, c2, w1, w2]
  · simp [qZ2.l0, rd, c1, w1, w2]
open Go.Shelf Go.Sort in
theorem qK6 (x y : S43) (w1 : World) : Calls Try.prog 34 #[.agg #[.int .i64 x.f0, .int .i64 x.f1, .int .i64 x.f2, .int .i64 x.f3, .int .i64 x.f4, .int .i64 x.f5, .bool x.f6, .int .i64 x.f7, .int .i64 x.f8, .int .i64 x.f9, .int .i64 x.f10, .int .i64 x.f11, .int .i64 x.f12], .agg #[.int .i64 y.f0, .int .i64 y.f1, .int .i64 y.f2, .int .i64 y.f3, .int .i64 y.f4, .int .i64 y.f5, .bool y.f6, .int .i64 y.f7, .int .i64 y.f8, .int .i64 y.f9, .int .i64 y.f10, .int .i64 y.f11, .int .i64 y.f12]] w1 fun e w' => e = .returned (.int .i64 (cfD x y)) ∧ ∃ n os, w' = grow (w1.drewN n) os :=
  (qYb.calls 4 x.f0 x.f1 x.f2 x.f3 x.f4 x.f5 x.f6 x.f7 x.f8 x.f9 x.f10 x.f11 x.f12 y.f0 y.f1 y.f2 y.f3 y.f4 y.f5 y.f6 y.f7 y.f8 y.f9 y.f10 y.f11 y.f12 (cfD x y) w1 (by unfold qYb.f; rw [qJr, qJr]; show (qZ2.f 4 [cfP x y, cfI x y]).bind _ = _; rw [or_f]; rfl)).mono (fun e w' ⟨h1, h2, h3⟩ => ⟨h1, qXp h2 h3⟩)
theorem cfI_cr (l : List S43) (i j : Nat) (h : i < j) : (cfI (qQc l (j : Int)) (qQc l (i : Int)) < 0 → idR l j i = true) ∧ (0 ≤ cfI (qQc l (j : Int)) (qQc l (i : Int)) → idR l i j = true) := by
  simp only [idR, decide_eq_true_eq, cfI]
  constructor
  · intro h2; repeat' split at h2
    all_goals first | omega | (exfalso; omega)
  · intro h2; repeat' split at h2
    all_goals first | omega | (exfalso; omega)
theorem cfD_cr (l : List S43) (i j : Nat) (h : i < j) : (cfD (qQc l (j : Int)) (qQc l (i : Int)) < 0 → drR l j i = true) ∧ (0 ≤ cfD (qQc l (j : Int)) (qQc l (i : Int)) → drR l i j = true) := by
  simp only [drR, decide_eq_true_eq, cfD, cfP, cfI]
  constructor
  · intro h2; repeat' split at h2
    all_goals first | omega | (exfalso; omega)
  · intro h2; repeat' split at h2
    all_goals first | omega | (exfalso; omega)
def qYd.f (k : Nat) (l0 : List S43) : Option (List Int) := if l0.length ≤ 100000 then some (toI (plI l0)) else none
theorem qYd.calls (k : Nat) (A0 : Option Addr) (c0 : Nat) (l0 : List S43) (r : List Int) (w : World) (hr0 : Kd.C k43 w A0 l0.length l0) (hc0 : l0.length ≤ c0) (h : qYd.f k l0 = some r) :
    Calls Try.prog 22 #[.slice A0 l0.length c0, .func (.func 23) #[] #[]] w fun e w' => ∃ v0_ : Value, e = .returned v0_ ∧ Kd.R (Kd.int .i64) 3 w' w.heap.size (fun _ => True) v0_ r ∧ Below w.heap.size w w' := by
  by_cases c : l0.length ≤ 100000
  case neg => rw [qYd.f, if_neg c] at h; cases h
  rw [qYd.f, if_pos c] at h
  obtain rfl := Option.some.inj h
  exact qYt.calls0 23 (fun _ _ => rfl) cfI qJy (idR l0) (qVa l0) A0 c0 l0 (cfI_cr l0) c w hr0
def qZ9.f (k : Nat) (l0 : List S43) : Option (List Int) := if l0.length ≤ 100000 then some (toI (plD l0)) else none
theorem qZ9.calls (k : Nat) (A0 : Option Addr) (c0 : Nat) (l0 : List S43) (r : List Int) (w : World) (hr0 : Kd.C k43 w A0 l0.length l0) (hc0 : l0.length ≤ c0) (h : qZ9.f k l0 = some r) :
    Calls Try.prog 22 #[.slice A0 l0.length c0, .func (.func 34) #[] #[]] w fun e w' => ∃ v0_ : Value, e = .returned v0_ ∧ Kd.R (Kd.int .i64) 3 w' w.heap.size (fun _ => True) v0_ r ∧ Below w.heap.size w w' := by
  by_cases c : l0.length ≤ 100000
  case neg => rw [qZ9.f, if_neg c] at h; cases h
  rw [qZ9.f, if_pos c] at h
  obtain rfl := Option.some.inj h
  exact qYt.calls0 34 (fun _ _ => rfl) cfD qK6 (drR l0) (qW9 l0) A0 c0 l0 (cfD_cr l0) c w hr0
end Go.Proofs.Yteemomncbcpdjaa.P
