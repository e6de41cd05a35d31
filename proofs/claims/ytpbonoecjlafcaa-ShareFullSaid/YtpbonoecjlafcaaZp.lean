/- share.places at three weights that are alike: walked by hand (slices.SortStableFunc's insertion sort among it). -/
import Derived.Test.YtpbonoecjlafcaaPx3
import Derived.LoopN
import Derived.BigQuiet
namespace Go.Proofs.Ytpbonoecjlafcaa.P
open Go.RowKit Go.Proofs.YtpbonoecjlafcaaW.PrintWords Go.Proofs.YtpbonoecjlafcaaW.PrintLast Go.Proofs.YtpbonoecjlafcaaW.PrintMore
attribute [local go_sem] max2_int min2_int max_two min_two max_three min_three max_four min_four   -- for this text's walks alone
set_option linter.unusedVariables false
set_option linter.unusedSimpArgs false
-- BEGIN
theorem share_places.cmp11 : cmp_Compare_uint64.f 1 1 = some 0 := by decide
set_option maxHeartbeats 8000000 in
set_option maxRecDepth 100000 in
theorem share_places.cmp (B : Nat) (A0 : Option Addr) (c0 : Nat) (x y : Nat) (hx : x < 3) (hy : y < 3) (w : World) (hB : w.heap[B]? = some (.cells #[.slice A0 3 c0] 45 (0, 0))) (hC : Kd.C (Kd.int .u64) w A0 3 [1, 1, 1]) :
    Calls Try.prog 31 #[.int .i64 x, .int .i64 y, .pointer (some ⟨B, 0, none⟩)] w fun e w' => e = .returned (.int .i64 0) ∧ Drawn0 w w' := by
  obtain ⟨ad, ea, h1⟩ := Kd.at_int hC (x : Int) (by omega) (by omega)
  cases ea
  obtain ⟨ad2, ea2, h2⟩ := Kd.at_int hC (y : Int) (by omega) (by omega)
  cases ea2
  simp only [Int.toNat_natCast] at h1 h2
  have e1 : rd [1, 1, 1] (x : Int) = 1 := by rcases (show x = 0 ∨ x = 1 ∨ x = 2 by omega) with rfl | rfl | rfl <;> rfl
  have e2 : rd [1, 1, 1] (y : Int) = 1 := by rcases (show y = 0 ∨ y = 1 ∨ y = 2 by omega) with rfl | rfl | rfl <;> rfl
  rw [e1] at h1
  rw [e2] at h2
  have b : w.cell? ⟨B, 0, none⟩ = some (.slice (some ad) 3 c0) := (blk_cell hB 0).trans rfl
  have p1 : (0 : Int) ≤ x := by omega
  have p2 : (x : Int) < 3 := by omega
  have q1 : (0 : Int) ≤ y := by omega
  have q2 : (y : Int) < 3 := by omega
  clear hC hB e1 e2 hx hy
  go_enter Try.func31, Try.ntmps31
  go_wp2
  go_quiet (first | (go_at_call 32; refine Calls.quiet_of ((cmp_Compare_uint64.calls 1 1 0 _ share_places.cmp11).mono (fun e w' ⟨h1, h2⟩ => ⟨h1, h2.out⟩))))
  go_wp2
  go_ret
  exact ⟨by first | rfl | (simp; done), by repeat (first | exact Drawn0.refl _ | apply Drawn0.step)⟩
set_option maxHeartbeats 8000000 in
set_option maxRecDepth 100000 in
theorem share_places.ins (B g : Nat) (A0 : Option Addr) (c0 : Nat) (w : World) (hG : w.heap[g]? = some (.cells #[.int .i64 0, .int .i64 1, .int .i64 2] 3 (0, 0))) (hB : w.heap[B]? = some (.cells #[.slice A0 3 c0] 45 (0, 0))) (hC : Kd.C (Kd.int .u64) w A0 3 [1, 1, 1]) :
    Calls Try.prog 39 #[.slice (some ⟨g, 0, none⟩) 3 3, .int .i64 0, .int .i64 3, .func (.func 31) #[] #[.pointer (some ⟨B, 0, none⟩)]] w fun e w' => e = .returned (.tuple #[]) ∧ Drawn0 w w' := by
  have H10 : Aside0 (∀ n, Calls Try.prog 31 #[.int .i64 1, .int .i64 0, .pointer (some ⟨B, 0, none⟩)] (w.drewN n) fun e w' => e = .returned (.int .i64 0) ∧ ∃ q, w' = (w.drewN n).drewN q) := ⟨fun n => (share_places.cmp B A0 c0 1 0 (by omega) (by omega) _ (blk_drewN hB n) (Kd.C_drewN hC n)).mono (fun e w' ⟨h1, h2⟩ => ⟨h1, h2.out⟩)⟩
  have G := Aside0.mk hG
  have BB := Aside0.mk hB
  have CC := Aside0.mk hC
  have d0 : w.cell? ⟨g, 0, none⟩ = some (.int .i64 0) := (blk_cell hG 0).trans rfl
  have d1 : w.cell? ⟨g, 1, none⟩ = some (.int .i64 1) := (blk_cell hG 1).trans rfl
  clear hG hB hC
  go_enter Try.func39, Try.ntmps39
  go_wp2
  refine wp_loop_rounds 3 ?_
  rw [rounds_succ]
  go_wp2
  refine wp_loop_rounds 1 ?_
  rw [rounds_succ]
  go_wp2
  go_quiet (first | (go_at_call 31; refine Calls.quiet_of (H10.out _)))
  clear d0 d1
  generalize hW : w.drewN nq = w1
  have hG : w1.heap[g]? = some (.cells #[.int .i64 0, .int .i64 1, .int .i64 2] 3 (0, 0)) := by rw [← hW]; exact blk_drewN G.out _
  have hB : w1.heap[B]? = some (.cells #[.slice A0 3 c0] 45 (0, 0)) := by rw [← hW]; exact blk_drewN BB.out _
  have hC : Kd.C (Kd.int .u64) w1 A0 3 [1, 1, 1] := by rw [← hW]; exact Kd.C_drewN CC.out _
  have H21 : Aside0 (∀ n, Calls Try.prog 31 #[.int .i64 2, .int .i64 1, .pointer (some ⟨B, 0, none⟩)] (w1.drewN n) fun e w' => e = .returned (.int .i64 0) ∧ ∃ q, w' = (w1.drewN n).drewN q) := ⟨fun n => (share_places.cmp B A0 c0 2 1 (by omega) (by omega) _ (blk_drewN hB n) (Kd.C_drewN hC n)).mono (fun e w' ⟨h1, h2⟩ => ⟨h1, h2.out⟩)⟩
  have d1 : w1.cell? ⟨g, 1, none⟩ = some (.int .i64 1) := (blk_cell hG 1).trans rfl
  have d2 : w1.cell? ⟨g, 2, none⟩ = some (.int .i64 2) := (blk_cell hG 2).trans rfl
  have HD : Aside0 (Drawn0 w w1) := ⟨by rw [← hW]; exact (Drawn0.refl _).step _⟩
  clear hG hB hC hW
  go_wp2
  rw [rounds_succ]
  go_wp2
  refine wp_loop_rounds 1 ?_
  rw [rounds_succ]
  go_wp2
  go_quiet (first | (go_at_call 31; refine Calls.quiet_of (H21.out _)))
  go_wp2
  rw [rounds_succ]
  go_wp2
  go_end0
  exact ⟨by first | rfl | (simp; done), HD.out.step _⟩
set_option maxHeartbeats 8000000 in
set_option maxRecDepth 100000 in
theorem share_places.stable (B g : Nat) (A0 : Option Addr) (c0 : Nat) (w : World) (hG : w.heap[g]? = some (.cells #[.int .i64 0, .int .i64 1, .int .i64 2] 3 (0, 0))) (hB : w.heap[B]? = some (.cells #[.slice A0 3 c0] 45 (0, 0))) (hC : Kd.C (Kd.int .u64) w A0 3 [1, 1, 1]) :
    Calls Try.prog 36 #[.slice (some ⟨g, 0, none⟩) 3 3, .int .i64 3, .func (.func 31) #[] #[.pointer (some ⟨B, 0, none⟩)]] w fun e w' => e = .returned (.tuple #[]) ∧ Drawn0 w w' := by
  have HI := Aside0.mk (share_places.ins B g A0 c0 w hG hB hC)
  clear hG hB hC
  go_enter Try.func36, Try.ntmps36
  go_wp2
  refine wp_loop_rounds 1 ?_
  rw [rounds_succ]
  go_wp2_with (go_at_call 39; refine HI.out.mono ?_; rintro e w' ⟨rfl, ⟨nd, rfl⟩⟩)
  refine wp_loop_rounds 1 ?_
  rw [rounds_succ]
  go_wp2
  go_end0
  exact ⟨by first | rfl | (simp; done), (Drawn0.refl _).step _⟩
set_option maxHeartbeats 8000000 in
set_option maxRecDepth 100000 in
theorem share_places.sort (B g : Nat) (A0 : Option Addr) (c0 : Nat) (w : World) (hG : w.heap[g]? = some (.cells #[.int .i64 0, .int .i64 1, .int .i64 2] 3 (0, 0))) (hB : w.heap[B]? = some (.cells #[.slice A0 3 c0] 45 (0, 0))) (hC : Kd.C (Kd.int .u64) w A0 3 [1, 1, 1]) :
    Calls Try.prog 30 #[.slice (some ⟨g, 0, none⟩) 3 3, .func (.func 31) #[] #[.pointer (some ⟨B, 0, none⟩)]] w fun e w' => e = .returned (.tuple #[]) ∧ Drawn0 w w' := by
  have HI := Aside0.mk (share_places.stable B g A0 c0 w hG hB hC)
  clear hG hB hC
  go_enter Try.func30, Try.ntmps30
  go_wp2_with (go_at_call 36; refine HI.out.mono ?_; rintro e w' ⟨rfl, ⟨nd, rfl⟩⟩)
  go_end0
  exact ⟨by first | rfl | (simp; done), (Drawn0.refl _).step _⟩
def share_places_uint64.f (k : Nat) (l0 : List Int) : Option (List Int) := if l0 = [1, 1, 1] then some [0, 1, 2] else none
theorem share_places_uint64.mono : ∀ (l0 : List Int) k, LeO (share_places_uint64.f k l0) (share_places_uint64.f (k + 1) l0) := fun _ _ => LeO.refl _
set_option maxHeartbeats 8000000 in
set_option maxRecDepth 100000 in
theorem share_places_uint64.calls (k : Nat) (A0 : Option Addr) (c0 : Nat) (l0 : List Int) (r1 : List Int) (w : World) (hr0 : Kd.C (Kd.int .u64) w A0 l0.length l0) (hc0 : l0.length ≤ c0) (h : share_places_uint64.f k l0 = some r1) :
    Calls Try.prog 19 #[.slice A0 l0.length c0] w fun e w' => ∃ v0_ : Value, e = .returned v0_ ∧ Kd.R (Kd.int .i64) 3 w' w.heap.size (fun _ => True) v0_ r1 ∧ Below w.heap.size w w' := by
  by_cases c : l0 = [1, 1, 1]
  case neg => rw [share_places_uint64.f, if_neg c] at h; cases h
  subst c
  rw [share_places_uint64.f, if_pos rfl] at h
  obtain rfl := (Option.some.inj h).symm
  clear h
  have HC := Aside0.mk hr0
  clear hr0
  have hmf : ∀ (fn : Fn) (first cap : Array Value) (w : World), (Instr.makeFunc fn first cap).run Try.prog w = .ok (.func fn first cap) w := fun _ _ _ _ => rfl
  have hmk : ∀ (W : World), (Instr.makeSlice 51 (.int .i64 3) (.int .i64 3)).run Try.prog W = .ok (.slice (some ⟨W.heap.size, 0, none⟩) 3 3) (W.alloc (.cells #[.int .i64 0, .int .i64 0, .int .i64 0] 3)) := by
    intro W
    obtain ⟨i0, hi, hzz⟩ := Option.map_eq_some_iff.1 (show (Try.prog.info? 3).map (fun i => (i.zero, i.size, i.bytes)) = some (some (.int .i64 0), 1, 8) by kernel_rfl)
    simp only [Prod.mk.injEq] at hzz
    obtain ⟨hz0, hz1, hz2⟩ := hzz
    have h := run_make (P := Try.prog) W 51 3 i0 (.int .i64 0) Try.underlying51 hi hz0 .i64 .i64 3 3 (by omega) (by omega) (by rw [hz2]; decide) (by omega)
    rw [hz1, show madeCells (Value.int .i64 0).cells ((3 : Int).toNat * 1) = #[.int .i64 0, .int .i64 0, .int .i64 0] by first | rfl | (simp [madeCells, Value.cells, Array.range_succ]; done) | (apply Array.ext'; simp [madeCells, Value.cells, List.range_succ]; done)] at h
    exact h
  show Calls Try.prog 19 #[.slice A0 3 c0] w _
  go_enter Try.func19, Try.ntmps19
  go_upto_region 2 with (fail)
  obtain ⟨W, hW⟩ : ∃ W, W = (w.alloc (Obj.cells #[.slice A0 3 c0] 45)).alloc (Obj.cells #[.int .i64 0, .int .i64 0, .int .i64 0] 3) := ⟨_, rfl⟩
  have hB : W.heap[w.heap.size]? = some (.cells #[.slice A0 3 c0] 45 (0, 0)) := by rw [hW]; exact blk_alloc (blk_new w _) _
  have hG : W.heap[w.heap.size + 1]? = some (.cells #[.int .i64 0, .int .i64 0, .int .i64 0] 3 (0, 0)) := by
    have := blk_new (w.alloc (Obj.cells #[.slice A0 3 c0] 45)) (Obj.cells #[.int .i64 0, .int .i64 0, .int .i64 0] 3)
    rw [hW]; simpa using this
  have hL : Below w.heap.size w W := by rw [hW]; exact ((Below.refl _ _).alloc (Nat.le_refl _) _).alloc (by simp) _
  try simp only [World.heap_size_alloc, World.size_alloc]
  rw [← hW]
  clear hW
  have G1 := blk_put (cs' := #[.int .i64 0, .int .i64 0, .int .i64 0]) hG 0 (.int .i64 0) rfl
  have G2 := blk_put (cs' := #[.int .i64 0, .int .i64 1, .int .i64 0]) G1 1 (.int .i64 1) rfl
  have G3 := blk_put (cs' := #[.int .i64 0, .int .i64 1, .int .i64 2]) G2 2 (.int .i64 2) rfl
  have B3 := blk_far (p := ⟨w.heap.size + 1, 2, none⟩) (blk_far (p := ⟨w.heap.size + 1, 1, none⟩) (blk_far (p := ⟨w.heap.size + 1, 0, none⟩) hB (by simp) (.int .i64 0)) (by simp) (.int .i64 1)) (by simp) (.int .i64 2)
  have L3 := ((hL.setCell (p := ⟨w.heap.size + 1, 0, none⟩) (by simp) (.int .i64 0)).setCell (p := ⟨w.heap.size + 1, 1, none⟩) (by simp) (.int .i64 1)).setCell (p := ⟨w.heap.size + 1, 2, none⟩) (by simp) (.int .i64 2)
  have HS := Aside0.mk (share_places.sort w.heap.size (w.heap.size + 1) A0 c0 _ G3 B3 (Kd.C_below HC.out L3))
  have GG := Aside0.mk G3
  have LL := Aside0.mk L3
  have s0 : W.cell? ⟨w.heap.size + 1, 0, none⟩ = some (.int .i64 0) := (blk_cell hG 0).trans rfl
  have s1 : (W.setCell ⟨w.heap.size + 1, 0, none⟩ (.int .i64 0)).cell? ⟨w.heap.size + 1, 1, none⟩ = some (.int .i64 0) := (blk_cell G1 1).trans rfl
  have s2 : ((W.setCell ⟨w.heap.size + 1, 0, none⟩ (.int .i64 0)).setCell ⟨w.heap.size + 1, 1, none⟩ (.int .i64 1)).cell? ⟨w.heap.size + 1, 2, none⟩ = some (.int .i64 0) := (blk_cell G2 2).trans rfl
  have f0 := blk_frozen hG 0
  have f1 := blk_frozen G1 1
  have f2 := blk_frozen G2 2
  clear hB hG hL G1 G2 G3 B3 L3
  go_wp2
  refine wp_loop_rounds 4 ?_
  rw [rounds_succ]
  go_wp2
  rw [rounds_succ]
  go_wp2
  rw [rounds_succ]
  go_wp2
  rw [rounds_succ]
  go_wp2_with (go_at_call 30; refine HS.out.mono ?_; rintro e w1 ⟨rfl, ⟨nd, rfl⟩⟩)
  go_ret
  have G4 := blk_drewN GG.out nd
  have L4 := pw_below_drewN LL.out nd
  exact ⟨_, rfl, Kd.R_of_own ⟨rfl, .inr ⟨w.heap.size + 1, 3, _, rfl, by omega, G4, by simp, by decide, rfl, rfl⟩⟩ (fun _ _ => trivial), L4⟩
end Go.Proofs.Ytpbonoecjlafcaa.P
