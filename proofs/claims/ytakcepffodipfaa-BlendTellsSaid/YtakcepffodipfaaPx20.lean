/- Functions of the program as plain Lean functions, and proofs that its calls come to just their answers, where they tell one (written by a program of this session). -/
import Derived.Test.YtakcepffodipfaaZaa
import Derived.Test.YtakcepffodipfaaPx0
import Derived.Test.YtakcepffodipfaaPx16
namespace Go.Proofs.Ytakcepffodipfaa.P
open Go.RowKit Go.Proofs.YtakcepffodipfaaW.PrintWords Go.Proofs.YtakcepffodipfaaW.PrintLast Go.Proofs.YtakcepffodipfaaW.PrintMore
attribute [local go_sem] max2_int min2_int max_two min_two max_three min_three max_four min_four   -- for this text's walks alone
set_option linter.unusedVariables false
set_option linter.unusedSimpArgs false

/-! ### annuityref01_MulDiv: function 73 -/
mutual
def annuityref01_MulDiv.j0 : Nat → Int → Int → Int → Int → Bool → Option (Int × Int)
 | 0, _, _, _, _, _ => none
 | k + 1, x0, x1, x2, x3, x31 => if x31 = true then (some (0, 1)) else ((annuityref01_Mul.f (IntKind.u64.wrap (x0)) (IntKind.u64.wrap (x1))).bind fun bt290 => ((annuityref01_Div.f k bt290.1 bt290.2 (IntKind.u64.wrap (x2))).bind fun bt293 => (if bt293.2.2 = true then (annuityref01_MulDiv.j1 k x2 x3 (decide (bt293.1 > 10000000000000)) bt293.1 bt293.2.1 bt293.2.2) else (annuityref01_MulDiv.j1 k x2 x3 true bt293.1 bt293.2.1 bt293.2.2))))
def annuityref01_MulDiv.j1 : Nat → Int → Int → Bool → Int → Int → Bool → Option (Int × Int)
 | 0, _, _, _, _, _, _ => none
 | k + 1, x2, x3, x51, x297000, x297001, x297002 => if x51 = true then (some (0, 14)) else (if x3 = 1 then (annuityref01_MulDiv.j2 k x2 x3 (wrap64 (x297000)) (decide (x297001 > 0)) x297000 x297001 x297002) else (annuityref01_MulDiv.j2 k x2 x3 (wrap64 (x297000)) false x297000 x297001 x297002))
def annuityref01_MulDiv.j2 : Nat → Int → Int → Int → Bool → Int → Int → Bool → Option (Int × Int)
 | 0, _, _, _, _, _, _, _ => none
 | k + 1, x2, x3, x12, x55, x297000, x297001, x297002 => if x55 = true then (if (wrap64 (x12 + 1)) > 10000000000000 then (some (0, 14)) else (some (wrap64 (x12 + 1), 0))) else (if x3 = 2 then (if x297001 > (IntKind.u64.wrap ((IntKind.u64.wrap (x2)) - x297001)) then (annuityref01_MulDiv.j3 k x12 true) else (if x297001 = (IntKind.u64.wrap ((IntKind.u64.wrap (x2)) - x297001)) then (annuityref01_MulDiv.j3 k x12 ((Int.tmod x12 2) == 1)) else (annuityref01_MulDiv.j3 k x12 false))) else (if x12 > 10000000000000 then (some (0, 14)) else (some (x12, 0))))
def annuityref01_MulDiv.j3 : Nat → Int → Bool → Option (Int × Int)
 | 0, _, _ => none
 | k + 1, x12, x87 => if x87 = true then (if (wrap64 (x12 + 1)) > 10000000000000 then (some (0, 14)) else (some (wrap64 (x12 + 1), 0))) else (if x12 > 10000000000000 then (some (0, 14)) else (some (x12, 0)))
end
def annuityref01_MulDiv.f (k : Nat) (a0 : Int) (a1 : Int) (a2 : Int) (a3 : Int) : Option (Int × Int) := if a0 < 0 then (annuityref01_MulDiv.j0 k a0 a1 a2 a3 true) else (if a1 < 0 then (annuityref01_MulDiv.j0 k a0 a1 a2 a3 true) else (if a2 ≤ 0 then (annuityref01_MulDiv.j0 k a0 a1 a2 a3 true) else (if a3 < 0 then (annuityref01_MulDiv.j0 k a0 a1 a2 a3 true) else (annuityref01_MulDiv.j0 k a0 a1 a2 a3 (decide (a3 > 2))))))
set_option maxHeartbeats 8000000 in
set_option maxRecDepth 100000 in
theorem annuityref01_MulDiv.calls (k : Nat) (a0 : Int) (a1 : Int) (a2 : Int) (a3 : Int) (r1 : Int) (r2 : Int) (w : World) (h : annuityref01_MulDiv.f k a0 a1 a2 a3 = some (r1, r2)) :
  Calls Try.prog 73 #[.int .i64 a0, .int .i64 a1, .int .i64 a2, .int .i64 a3] w fun e w' => e = .returned (.tuple #[.int .i64 r1, .int .i64 r2]) ∧ Below w.heap.size w w' := by
 have hu67 := Try.underlying67
 have hu70 := Try.underlying70
 have HB := Aside0.mk (Below.refl w.heap.size w)
 have H : (if a0 < 0 then (annuityref01_MulDiv.j0 k a0 a1 a2 a3 true) else (if a1 < 0 then (annuityref01_MulDiv.j0 k a0 a1 a2 a3 true) else (if a2 ≤ 0 then (annuityref01_MulDiv.j0 k a0 a1 a2 a3 true) else (if a3 < 0 then (annuityref01_MulDiv.j0 k a0 a1 a2 a3 true) else (annuityref01_MulDiv.j0 k a0 a1 a2 a3 (decide (a3 > 2))))))) = some (r1, r2) := h
 clear h
 have HC5 := Aside0.mk H
 clear H
 go_enter Try.func73, Try.ntmps73
 go_upto_region 1 with (fail)
 go_cut [31] (fun v31 wc => ∃ (kq : Nat) (x31_4 : Bool), v31 = .bool x31_4 ∧ Aside0 (annuityref01_MulDiv.j0 kq a0 a1 a2 a3 x31_4 = some (r1, r2)) ∧ Aside0 (kq ≤ k) ∧ Aside0 (Below w.heap.size w wc))
 case first =>
  have H := HC5.out
  clear HC5
  by_cases c6 : a0 < 0
  ·rw [if_pos c6] at H
   have c6b0 : decide (a0 < 0) = true := decide_eq_true c6
   clear c6
   (first | rw [c6b0] | (simp only [i64_w, i32_w]; rw [c6b0]) | skip)
   have H' := Aside0.mk H
   clear H
   go_wp2
   go_meet
   case rel => exact ⟨_, (true), (by first | rfl | (simp; done) | (simp [*]; done)), H', ⟨by first | omega | exact Nat.le_refl _⟩, ⟨by exact h0q HB.out⟩⟩
  rw [if_neg c6] at H
  have c6b0 : decide (a0 < 0) = false := decide_eq_false c6
  clear c6
  (first | rw [c6b0] | (simp only [i64_w, i32_w]; rw [c6b0]) | skip)
  by_cases c7 : a1 < 0
  ·rw [if_pos c7] at H
   have c7b0 : decide (a1 < 0) = true := decide_eq_true c7
   clear c7
   have H' := Aside0.mk H
   clear H
   go_wp2
   go_meet
   case rel => exact ⟨_, (true), (by first | rfl | (simp; done) | (simp [*]; done)), H', ⟨by first | omega | exact Nat.le_refl _⟩, ⟨by exact h0q HB.out⟩⟩
  rw [if_neg c7] at H
  have c7b0 : decide (a1 < 0) = false := decide_eq_false c7
  clear c7
  by_cases c8 : a2 ≤ 0
  ·rw [if_pos c8] at H
   have c8b0 : decide (a2 ≤ 0) = true := decide_eq_true c8
   clear c8
   have H' := Aside0.mk H
   clear H
   go_wp2
   go_meet
   case rel => exact ⟨_, (true), (by first | rfl | (simp; done) | (simp [*]; done)), H', ⟨by first | omega | exact Nat.le_refl _⟩, ⟨by exact h0q HB.out⟩⟩
  rw [if_neg c8] at H
  have c8b0 : decide (a2 ≤ 0) = false := decide_eq_false c8
  clear c8
  by_cases c9 : a3 < 0
  ·rw [if_pos c9] at H
   have c9b0 : decide (a3 < 0) = true := decide_eq_true c9
   clear c9
   have H' := Aside0.mk H
   clear H
   go_wp2
   go_meet
   case rel => exact ⟨_, (true), (by first | rfl | (simp; done) | (simp [*]; done)), H', ⟨by first | omega | exact Nat.le_refl _⟩, ⟨by exact h0q HB.out⟩⟩
  rw [if_neg c9] at H
  have c9b0 : decide (a3 < 0) = false := decide_eq_false c9
  clear c9
  have H' := Aside0.mk H
  clear H
  go_wp2
  go_meet
  case rel => exact ⟨_, (decide (a3 > 2)), (by first | rfl | (simp; done) | (simp [*]; done)), H', ⟨by first | omega | exact Nat.le_refl _⟩, ⟨by exact h0q HB.out⟩⟩
 case rest =>
  clear HC5
  try clear c6
  try clear c6b0
  try clear c7
  try clear c7b0
  try clear c8
  try clear c8b0
  try clear c9
  try clear c9b0
  obtain ⟨kq, x31_4, rfl, HA, HJ4, HB⟩ := hcut
  rcases kq with _ | kj4
  ·exact absurd HA.out (by simp [annuityref01_MulDiv.j0])
  have H := HA.out
  clear HA
  simp only [annuityref01_MulDiv.j0] at H
  by_cases c10 : x31_4 = true
  ·subst c10
   have H1 : (some (0, 1)) = some (r1, r2) := by rw [if_pos rfl] at H; exact H
   clear H
   have H := H1
   clear H1
   simp only [Option.some.injEq, Prod.mk.injEq] at H
   obtain ⟨rfl, rfl⟩ := H
   go_wp2
   go_ret2
   exact ⟨by first | rfl | (simp [errW_none, errW_some] <;> rfl) | (simp [*, errW_none, errW_some] <;> rfl), by exact h0q HB.out⟩
  replace c10 := Bool.eq_false_iff.mpr c10
  subst c10
  have H1 : ((annuityref01_Mul.f (IntKind.u64.wrap (a0)) (IntKind.u64.wrap (a1))).bind fun bt290 => ((annuityref01_Div.f kj4 bt290.1 bt290.2 (IntKind.u64.wrap (a2))).bind fun bt293 => (if bt293.2.2 = true then (annuityref01_MulDiv.j1 kj4 a2 a3 (decide (bt293.1 > 10000000000000)) bt293.1 bt293.2.1 bt293.2.2) else (annuityref01_MulDiv.j1 kj4 a2 a3 true bt293.1 bt293.2.1 bt293.2.2)))) = some (r1, r2) := by rw [if_neg (show ¬ (false = true) by decide)] at H; exact H
  clear H
  have H := H1
  clear H1
  replace H := Option.bind_eq_some_iff.mp H
  obtain ⟨⟨t290, t291⟩, A110, H⟩ := H
  replace H : ((annuityref01_Div.f kj4 t290 t291 (IntKind.u64.wrap (a2))).bind fun bt293 => (if bt293.2.2 = true then (annuityref01_MulDiv.j1 kj4 a2 a3 (decide (bt293.1 > 10000000000000)) bt293.1 bt293.2.1 bt293.2.2) else (annuityref01_MulDiv.j1 kj4 a2 a3 true bt293.1 bt293.2.1 bt293.2.2))) = some (r1, r2) := H
  have A11 := Aside0.mk A110
  clear A110
  replace H := Option.bind_eq_some_iff.mp H
  obtain ⟨⟨t293, t294, t295⟩, A120, H⟩ := H
  replace H : (if t295 = true then (annuityref01_MulDiv.j1 kj4 a2 a3 (decide (t293 > 10000000000000)) t293 t294 t295) else (annuityref01_MulDiv.j1 kj4 a2 a3 true t293 t294 t295)) = some (r1, r2) := H
  have A12 := Aside0.mk A120
  clear A120
  have HC13 := Aside0.mk H
  clear H
  go_upto_region 5 with (first | ((with_reducible refine gate_callee (f := 35) rfl ?_); refine goesL_ (some 36) rfl rfl Try.func35 (by kernel_rfl) rfl #[.int .u64 (IntKind.u64.wrap (a0)), .int .u64 (IntKind.u64.wrap (a1))] rfl (by (try simp only [List.map_toArray, List.map_cons, List.map_nil]); first | done | rfl | (simp only [List.length_drop, List.length_take]; rfl)) ?_; (with_reducible refine (annuityref01_Mul.calls (IntKind.u64.wrap (a0)) (IntKind.u64.wrap (a1)) t290 t291 _ A11.out).mono ?_); rintro e w14 ⟨rfl, hb⟩; refine ⟨_, rfl, ?_⟩; have n0_ := Aside0.mk (below_step (by exact h0q HB.out) hb); clear HB; have HB := n0_; clear n0_; (try clear hb); (try clear hb2); (try clear hk); (try clear hi)) | ((with_reducible refine gate_dst (N := 10) rfl ?_); refine box_event ?hg (N := 10) ?hd (cs := #[.int .u64 0, .int .u64 0]) (t := 67) ?hr ?_; (case hd => rfl); (case hg => rfl); (case hr => first | (go_simp; done) | (go_simp; rfl)); intro gb292 hg w15 hbox hb; have n0_ := Aside0.mk (below_step (by exact h0q HB.out) hb); have n1_ := Aside0.mk (hbox); have n2_ := Aside0.mk ((by rw [hg]; exact (below_size (by exact h0q HB.out)) : w.heap.size ≤ gb292)); have n3_ := Aside0.mk ((by rw [hg]; exact (below_size (by exact h0q HB.out)) : w.heap.size ≤ gb292)); clear HB; have HB := n0_; have BK292 := n1_; have GW292 := n2_; have GE292 := n3_; clear n0_ n1_ n2_ n3_; clear hb hbox hg; have hcz16_0 : w15.cell? ⟨gb292, 0, none⟩ = some (.int .u64 0) := (blk_cell BK292.out 0).trans rfl; have hcz16_1 : w15.cell? ⟨gb292, 1, none⟩ = some (.int .u64 0) := (blk_cell BK292.out 1).trans rfl; have hfz16_0 := blk_frozen BK292.out 0; have hfz16_1 := blk_frozen BK292.out 1) | ((with_reducible refine gate_callee (f := 36) rfl ?_); refine goesL_ (some 43) rfl rfl Try.func36 (by kernel_rfl) rfl #[.int .u64 t290, .int .u64 t291, .int .u64 (IntKind.u64.wrap (a2))] rfl (by (try simp only [List.map_toArray, List.map_cons, List.map_nil]); first | done | rfl | (simp only [List.length_drop, List.length_take]; rfl)) ?_; (with_reducible refine (annuityref01_Div.calls kj4 t290 t291 (IntKind.u64.wrap (a2)) t293 t294 t295 _ A12.out).mono ?_); rintro e w17 ⟨rfl, hb⟩; refine ⟨_, rfl, ?_⟩; have n0_ := Aside0.mk (blk_below (g := gb292) (o := .cells #[.int .u64 t290, .int .u64 t291] 67 (0, 0)) (by (with_reducible repeat (first | refine blk_drewN ?_ _ | refine blk_drew ?_ | refine blk_alloc ?_ _)); refine blk_put (cs := #[.int .u64 t290, .int .u64 0]) ?_ 1 _ rfl; (with_reducible repeat (first | refine blk_drewN ?_ _ | refine blk_drew ?_ | refine blk_alloc ?_ _)); refine blk_put (cs := #[.int .u64 0, .int .u64 0]) ?_ 0 _ rfl; (with_reducible repeat (first | refine blk_drewN ?_ _ | refine blk_drew ?_ | refine blk_alloc ?_ _)); exact BK292.out) hb); have n1_ := Aside0.mk (below_step (by exact h1q HB.out GE292.out) hb); clear BK292; clear HB; have BK292 := n0_; have HB := n1_; clear n0_ n1_; (try clear hb); (try clear hb2); (try clear hk); (try clear hi)) | ((with_reducible refine gate_dst (N := 11) rfl ?_); refine box_event ?hg (N := 11) ?hd (cs := #[.int .u64 0, .int .u64 0, .bool false]) (t := 70) ?hr ?_; (case hd => rfl); (case hg => rfl); (case hr => first | (go_simp; done) | (go_simp; rfl)); intro gb296 hg w18 hbox hb; have n0_ := Aside0.mk (blk_below (g := gb292) (Up.up BK292.out) hb); have n1_ := Aside0.mk (below_step (by exact h1q HB.out GE292.out) hb); have n2_ := Aside0.mk (hbox); have n3_ := Aside0.mk ((by rw [hg]; exact (below_size (by exact h1q HB.out GE292.out)) : w.heap.size ≤ gb296)); have n4_ := Aside0.mk ((by rw [hg]; exact (below_size (by exact h1q HB.out GE292.out)) : w.heap.size ≤ gb296)); have n5_ := Aside0.mk ((by rw [hg]; exact Nat.ne_of_lt (blk_lt (g := gb292) (Up.up BK292.out)) : gb292 ≠ gb296)); have n6_ := Aside0.mk ((by rw [hg]; exact Nat.ne_of_gt (blk_lt (g := gb292) (Up.up BK292.out)) : gb296 ≠ gb292)); clear BK292; clear HB; have BK292 := n0_; have HB := n1_; have BK296 := n2_; have GW296 := n3_; have GE296 := n4_; have NB292_296 := n5_; have NB296_292 := n6_; clear n0_ n1_ n2_ n3_ n4_ n5_ n6_; clear hb hbox hg; have hnb19 := NB296_292.out; have hnc19 := NB292_296.out; have hcz20_0 : w18.cell? ⟨gb296, 0, none⟩ = some (.int .u64 0) := (blk_cell BK296.out 0).trans rfl; have hcz20_1 : w18.cell? ⟨gb296, 1, none⟩ = some (.int .u64 0) := (blk_cell BK296.out 1).trans rfl; have hcz20_2 : w18.cell? ⟨gb296, 2, none⟩ = some (.bool false) := (blk_cell BK296.out 2).trans rfl; have hfz20_0 := blk_frozen BK296.out 0; have hfz20_1 := blk_frozen BK296.out 1; have hfz20_2 := blk_frozen BK296.out 2))
  (try simp only [Act.put, List.setIfInBounds_toArray, List.set_cons_zero, List.set_cons_succ])
  go_cut [51] (fun v51 wc => ∃ (kq : Nat) (x51_12 : Bool), v51 = .bool x51_12 ∧ Aside0 (annuityref01_MulDiv.j1 kq a2 a3 x51_12 t293 t294 t295 = some (r1, r2)) ∧ Aside0 (kq ≤ kj4) ∧ Aside0 (wc.heap[gb292]? = some (.cells #[.int .u64 t290, .int .u64 t291] 67 (0, 0))) ∧ Aside0 (wc.heap[gb296]? = some (.cells #[.int .u64 t293, .int .u64 t294, .bool t295] 70 (0, 0))) ∧ Aside0 (Below w.heap.size w wc))
  case first =>
   have H := HC13.out
   clear HC13
   by_cases c21 : t295 = true
   ·subst c21
    have H1 : (annuityref01_MulDiv.j1 kj4 a2 a3 (decide (t293 > 10000000000000)) t293 t294 true) = some (r1, r2) := by rw [if_pos rfl] at H; exact H
    clear H
    have H := H1
    clear H1
    have H' := Aside0.mk H
    clear H
    have hnb22 := NB296_292.out
    have hnc22 := NB292_296.out
    have hcz23_0 : w18.cell? ⟨gb296, 0, none⟩ = some (.int .u64 0) := (blk_cell BK296.out 0).trans rfl
    have hcz23_1 : w18.cell? ⟨gb296, 1, none⟩ = some (.int .u64 0) := (blk_cell BK296.out 1).trans rfl
    have hcz23_2 : w18.cell? ⟨gb296, 2, none⟩ = some (.bool false) := (blk_cell BK296.out 2).trans rfl
    have hfz23_0 := blk_frozen BK296.out 0
    have hfz23_1 := blk_frozen BK296.out 1
    have hfz23_2 := blk_frozen BK296.out 2
    go_wp2
    go_meet
    case rel => exact ⟨_, (decide (t293 > 10000000000000)), (by first | rfl | (simp; done) | (simp [*]; done)), H', ⟨by have := HJ4.out; first | omega | exact Nat.le_refl _⟩, ⟨by (iterate 3 ((with_reducible repeat (first | refine blk_drewN ?_ _ | refine blk_drew ?_ | refine blk_alloc ?_ _)); refine blk_far ?_ NB292_296.out _)); (with_reducible repeat (first | refine blk_drewN ?_ _ | refine blk_drew ?_ | refine blk_alloc ?_ _)); exact BK292.out⟩, ⟨by (with_reducible repeat (first | refine blk_drewN ?_ _ | refine blk_drew ?_ | refine blk_alloc ?_ _)); refine blk_put (cs := #[.int .u64 t293, .int .u64 t294, .bool false]) ?_ 2 _ rfl; (with_reducible repeat (first | refine blk_drewN ?_ _ | refine blk_drew ?_ | refine blk_alloc ?_ _)); refine blk_put (cs := #[.int .u64 t293, .int .u64 0, .bool false]) ?_ 1 _ rfl; (with_reducible repeat (first | refine blk_drewN ?_ _ | refine blk_drew ?_ | refine blk_alloc ?_ _)); refine blk_put (cs := #[.int .u64 0, .int .u64 0, .bool false]) ?_ 0 _ rfl; (with_reducible repeat (first | refine blk_drewN ?_ _ | refine blk_drew ?_ | refine blk_alloc ?_ _)); exact BK296.out⟩, ⟨by exact h2q HB.out GE292.out GE296.out⟩⟩
   replace c21 := Bool.eq_false_iff.mpr c21
   subst c21
   have H1 : (annuityref01_MulDiv.j1 kj4 a2 a3 true t293 t294 false) = some (r1, r2) := by rw [if_neg (show ¬ (false = true) by decide)] at H; exact H
   clear H
   have H := H1
   clear H1
   have H' := Aside0.mk H
   clear H
   have hnb24 := NB296_292.out
   have hnc24 := NB292_296.out
   have hcz25_0 : w18.cell? ⟨gb296, 0, none⟩ = some (.int .u64 0) := (blk_cell BK296.out 0).trans rfl
   have hcz25_1 : w18.cell? ⟨gb296, 1, none⟩ = some (.int .u64 0) := (blk_cell BK296.out 1).trans rfl
   have hcz25_2 : w18.cell? ⟨gb296, 2, none⟩ = some (.bool false) := (blk_cell BK296.out 2).trans rfl
   have hfz25_0 := blk_frozen BK296.out 0
   have hfz25_1 := blk_frozen BK296.out 1
   have hfz25_2 := blk_frozen BK296.out 2
   go_wp2
   go_meet
   case rel => exact ⟨_, (true), (by first | rfl | (simp; done) | (simp [*]; done)), H', ⟨by have := HJ4.out; first | omega | exact Nat.le_refl _⟩, ⟨by (iterate 3 ((with_reducible repeat (first | refine blk_drewN ?_ _ | refine blk_drew ?_ | refine blk_alloc ?_ _)); refine blk_far ?_ NB292_296.out _)); (with_reducible repeat (first | refine blk_drewN ?_ _ | refine blk_drew ?_ | refine blk_alloc ?_ _)); exact BK292.out⟩, ⟨by (with_reducible repeat (first | refine blk_drewN ?_ _ | refine blk_drew ?_ | refine blk_alloc ?_ _)); refine blk_put (cs := #[.int .u64 t293, .int .u64 t294, .bool false]) ?_ 2 _ rfl; (with_reducible repeat (first | refine blk_drewN ?_ _ | refine blk_drew ?_ | refine blk_alloc ?_ _)); refine blk_put (cs := #[.int .u64 t293, .int .u64 0, .bool false]) ?_ 1 _ rfl; (with_reducible repeat (first | refine blk_drewN ?_ _ | refine blk_drew ?_ | refine blk_alloc ?_ _)); refine blk_put (cs := #[.int .u64 0, .int .u64 0, .bool false]) ?_ 0 _ rfl; (with_reducible repeat (first | refine blk_drewN ?_ _ | refine blk_drew ?_ | refine blk_alloc ?_ _)); exact BK296.out⟩, ⟨by exact h2q HB.out GE292.out GE296.out⟩⟩
  case rest =>
   clear HC13
   try clear c6
   try clear c6b0
   try clear c7
   try clear c7b0
   try clear c8
   try clear c8b0
   try clear c9
   try clear c9b0
   try clear c10
   try clear c21
   try clear hcz16_0
   try clear hcz16_1
   try clear hcz20_0
   try clear hcz20_1
   try clear hcz20_2
   try clear hcz23_0
   try clear hcz23_1
   try clear hcz23_2
   try clear hcz25_0
   try clear hcz25_1
   try clear hcz25_2
   try clear hfz16_0
   try clear hfz16_1
   try clear hfz20_0
   try clear hfz20_1
   try clear hfz20_2
   try clear hfz23_0
   try clear hfz23_1
   try clear hfz23_2
   try clear hfz25_0
   try clear hfz25_1
   try clear hfz25_2
   obtain ⟨kq, x51_12, rfl, HA, HJ12, BK292, BK296, HB⟩ := hcut
   rcases kq with _ | kj12
   ·exact absurd HA.out (by simp [annuityref01_MulDiv.j1])
   have H := HA.out
   clear HA
   simp only [annuityref01_MulDiv.j1] at H
   by_cases c26 : x51_12 = true
   ·subst c26
    have H1 : (some (0, 14)) = some (r1, r2) := by rw [if_pos rfl] at H; exact H
    clear H
    have H := H1
    clear H1
    simp only [Option.some.injEq, Prod.mk.injEq] at H
    obtain ⟨rfl, rfl⟩ := H
    go_wp2
    go_ret2
    exact ⟨by first | rfl | (simp [errW_none, errW_some] <;> rfl) | (simp [*, errW_none, errW_some] <;> rfl), by exact h2q HB.out GE292.out GE296.out⟩
   replace c26 := Bool.eq_false_iff.mpr c26
   subst c26
   have H1 : (if a3 = 1 then (annuityref01_MulDiv.j2 kj12 a2 a3 (wrap64 (t293)) (decide (t294 > 0)) t293 t294 t295) else (annuityref01_MulDiv.j2 kj12 a2 a3 (wrap64 (t293)) false t293 t294 t295)) = some (r1, r2) := by rw [if_neg (show ¬ (false = true) by decide)] at H; exact H
   clear H
   have H := H1
   clear H1
   have HC27 := Aside0.mk H
   clear H
   have hnb28 := NB296_292.out
   have hnc28 := NB292_296.out
   have hcz29_0 : wc.cell? ⟨gb296, 0, none⟩ = some (.int .u64 t293) := (blk_cell BK296.out 0).trans rfl
   have hcz29_1 : wc.cell? ⟨gb296, 1, none⟩ = some (.int .u64 t294) := (blk_cell BK296.out 1).trans rfl
   have hcz29_2 : wc.cell? ⟨gb296, 2, none⟩ = some (.bool t295) := (blk_cell BK296.out 2).trans rfl
   have hfz29_0 := blk_frozen BK296.out 0
   have hfz29_1 := blk_frozen BK296.out 1
   have hfz29_2 := blk_frozen BK296.out 2
   go_upto_region 8 with (fail)
   go_cut [55] (fun v55 wc => ∃ (kq : Nat) (x55_26 : Bool), v55 = .bool x55_26 ∧ Aside0 (annuityref01_MulDiv.j2 kq a2 a3 (wrap64 (t293)) x55_26 t293 t294 t295 = some (r1, r2)) ∧ Aside0 (kq ≤ kj12) ∧ Aside0 (wc.heap[gb292]? = some (.cells #[.int .u64 t290, .int .u64 t291] 67 (0, 0))) ∧ Aside0 (wc.heap[gb296]? = some (.cells #[.int .u64 t293, .int .u64 t294, .bool t295] 70 (0, 0))) ∧ Aside0 (Below w.heap.size w wc))
   case first =>
    have H := HC27.out
    clear HC27
    by_cases c30 : a3 = 1
    case neg =>
     rw [if_neg c30] at H
     have c30b0 : (a3 == 1) = false := beq_eq_false_iff_ne.mpr c30
     have c30b1 : (a3 != 1) = true := bne_iff_ne.mpr c30
     (first | rw [c30b0] | (simp only [i64_w, i32_w]; rw [c30b0]) | skip)
     have H' := Aside0.mk H
     clear H
     go_wp2
     go_meet
     case rel => exact ⟨_, (false), (by first | rfl | (simp; done) | (simp [*]; done)), H', ⟨by have := HJ4.out; have := HJ12.out; first | omega | exact Nat.le_refl _⟩, ⟨by exact bb BK292.out⟩, ⟨by exact bb BK296.out⟩, ⟨by exact h2q HB.out GE292.out GE296.out⟩⟩
    rw [if_pos c30] at H
    have c30b0 : (a3 == 1) = true := beq_iff_eq.mpr c30
    have c30b1 : (a3 != 1) = false := bne_eq_false_iff_eq.mpr c30
    clear c30
    (first | rw [c30b0] | (simp only [i64_w, i32_w]; rw [c30b0]) | skip)
    have H' := Aside0.mk H
    clear H
    have hnb31 := NB296_292.out
    have hnc31 := NB292_296.out
    have hcz32_0 : wc.cell? ⟨gb296, 0, none⟩ = some (.int .u64 t293) := (blk_cell BK296.out 0).trans rfl
    have hcz32_1 : wc.cell? ⟨gb296, 1, none⟩ = some (.int .u64 t294) := (blk_cell BK296.out 1).trans rfl
    have hcz32_2 : wc.cell? ⟨gb296, 2, none⟩ = some (.bool t295) := (blk_cell BK296.out 2).trans rfl
    have hfz32_0 := blk_frozen BK296.out 0
    have hfz32_1 := blk_frozen BK296.out 1
    have hfz32_2 := blk_frozen BK296.out 2
    go_wp2
    go_meet
    case rel => exact ⟨_, (decide (t294 > 0)), (by first | rfl | (simp; done) | (simp [*]; done)), H', ⟨by have := HJ4.out; have := HJ12.out; first | omega | exact Nat.le_refl _⟩, ⟨by exact bb BK292.out⟩, ⟨by exact bb BK296.out⟩, ⟨by exact h2q HB.out GE292.out GE296.out⟩⟩
   case rest =>
    clear HC27
    try clear c6
    try clear c6b0
    try clear c7
    try clear c7b0
    try clear c8
    try clear c8b0
    try clear c9
    try clear c9b0
    try clear c10
    try clear c21
    try clear c26
    try clear c30
    try clear c30b0 c30b1
    try clear hcz16_0
    try clear hcz16_1
    try clear hcz20_0
    try clear hcz20_1
    try clear hcz20_2
    try clear hcz23_0
    try clear hcz23_1
    try clear hcz23_2
    try clear hcz25_0
    try clear hcz25_1
    try clear hcz25_2
    try clear hcz29_0
    try clear hcz29_1
    try clear hcz29_2
    try clear hcz32_0
    try clear hcz32_1
    try clear hcz32_2
    try clear hfz16_0
    try clear hfz16_1
    try clear hfz20_0
    try clear hfz20_1
    try clear hfz20_2
    try clear hfz23_0
    try clear hfz23_1
    try clear hfz23_2
    try clear hfz25_0
    try clear hfz25_1
    try clear hfz25_2
    try clear hfz29_0
    try clear hfz29_1
    try clear hfz29_2
    try clear hfz32_0
    try clear hfz32_1
    try clear hfz32_2
    obtain ⟨kq, x55_26, rfl, HA, HJ26, BK292, BK296, HB⟩ := hcut
    rcases kq with _ | kj26
    ·exact absurd HA.out (by simp [annuityref01_MulDiv.j2])
    have H := HA.out
    clear HA
    simp only [annuityref01_MulDiv.j2] at H
    by_cases c33 : x55_26 = true
    ·subst c33
     have H1 : (if (wrap64 ((wrap64 (t293)) + 1)) > 10000000000000 then (some (0, 14)) else (some (wrap64 ((wrap64 (t293)) + 1), 0))) = some (r1, r2) := by rw [if_pos rfl] at H; exact H
     clear H
     have H := H1
     clear H1
     by_cases c34 : (wrap64 ((wrap64 (t293)) + 1)) > 10000000000000
     ·rw [if_pos c34] at H
      have c34b0 : decide (10000000000000 < (wrap64 ((wrap64 (t293)) + 1))) = true := decide_eq_true c34
      clear c34
      simp only [Option.some.injEq, Prod.mk.injEq] at H
      obtain ⟨rfl, rfl⟩ := H
      go_wp2
      go_ret2
      exact ⟨by first | rfl | (simp [errW_none, errW_some] <;> rfl) | (simp [*, errW_none, errW_some] <;> rfl), by exact h2q HB.out GE292.out GE296.out⟩
     rw [if_neg c34] at H
     have c34b0 : decide (10000000000000 < (wrap64 ((wrap64 (t293)) + 1))) = false := decide_eq_false c34
     clear c34
     simp only [Option.some.injEq, Prod.mk.injEq] at H
     obtain ⟨rfl, rfl⟩ := H
     go_wp2
     go_ret2
     exact ⟨by first | rfl | (simp [errW_none, errW_some] <;> rfl) | (simp [*, errW_none, errW_some] <;> rfl), by exact h2q HB.out GE292.out GE296.out⟩
    replace c33 := Bool.eq_false_iff.mpr c33
    subst c33
    have H1 : (if a3 = 2 then (if t294 > (IntKind.u64.wrap ((IntKind.u64.wrap (a2)) - t294)) then (annuityref01_MulDiv.j3 kj26 (wrap64 (t293)) true) else (if t294 = (IntKind.u64.wrap ((IntKind.u64.wrap (a2)) - t294)) then (annuityref01_MulDiv.j3 kj26 (wrap64 (t293)) ((Int.tmod (wrap64 (t293)) 2) == 1)) else (annuityref01_MulDiv.j3 kj26 (wrap64 (t293)) false))) else (if (wrap64 (t293)) > 10000000000000 then (some (0, 14)) else (some ((wrap64 (t293)), 0)))) = some (r1, r2) := by rw [if_neg (show ¬ (false = true) by decide)] at H; exact H
    clear H
    have H := H1
    clear H1
    by_cases c35 : a3 = 2
    case neg =>
     rw [if_neg c35] at H
     have c35b0 : (a3 == 2) = false := beq_eq_false_iff_ne.mpr c35
     have c35b1 : (a3 != 2) = true := bne_iff_ne.mpr c35
     by_cases c50 : (wrap64 (t293)) > 10000000000000
     ·rw [if_pos c50] at H
      have c50b0 : decide (10000000000000 < (wrap64 (t293))) = true := decide_eq_true c50
      clear c50
      simp only [Option.some.injEq, Prod.mk.injEq] at H
      obtain ⟨rfl, rfl⟩ := H
      go_wp2
      go_ret2
      exact ⟨by first | rfl | (simp [errW_none, errW_some] <;> rfl) | (simp [*, errW_none, errW_some] <;> rfl), by exact h2q HB.out GE292.out GE296.out⟩
     rw [if_neg c50] at H
     have c50b0 : decide (10000000000000 < (wrap64 (t293))) = false := decide_eq_false c50
     clear c50
     simp only [Option.some.injEq, Prod.mk.injEq] at H
     obtain ⟨rfl, rfl⟩ := H
     go_wp2
     go_ret2
     exact ⟨by first | rfl | (simp [errW_none, errW_some] <;> rfl) | (simp [*, errW_none, errW_some] <;> rfl), by exact h2q HB.out GE292.out GE296.out⟩

    rw [if_pos c35] at H
    have c35b0 : (a3 == 2) = true := beq_iff_eq.mpr c35
    have c35b1 : (a3 != 2) = false := bne_eq_false_iff_eq.mpr c35
    clear c35
    have HC36 := Aside0.mk H
    clear H
    have hnb37 := NB296_292.out
    have hnc37 := NB292_296.out
    have hcz38_0 : wc.cell? ⟨gb296, 0, none⟩ = some (.int .u64 t293) := (blk_cell BK296.out 0).trans rfl
    have hcz38_1 : wc.cell? ⟨gb296, 1, none⟩ = some (.int .u64 t294) := (blk_cell BK296.out 1).trans rfl
    have hcz38_2 : wc.cell? ⟨gb296, 2, none⟩ = some (.bool t295) := (blk_cell BK296.out 2).trans rfl
    have hfz38_0 := blk_frozen BK296.out 0
    have hfz38_1 := blk_frozen BK296.out 1
    have hfz38_2 := blk_frozen BK296.out 2
    go_upto_region 12 with (fail)
    go_cut [87] (fun v87 wc => ∃ (kq : Nat) (x87_35 : Bool), v87 = .bool x87_35 ∧ Aside0 (annuityref01_MulDiv.j3 kq (wrap64 (t293)) x87_35 = some (r1, r2)) ∧ Aside0 (kq ≤ kj26) ∧ Aside0 (wc.heap[gb292]? = some (.cells #[.int .u64 t290, .int .u64 t291] 67 (0, 0))) ∧ Aside0 (wc.heap[gb296]? = some (.cells #[.int .u64 t293, .int .u64 t294, .bool t295] 70 (0, 0))) ∧ Aside0 (Below w.heap.size w wc))
    case first =>
     have H := HC36.out
     clear HC36
     by_cases c39 : t294 > (IntKind.u64.wrap ((IntKind.u64.wrap (a2)) - t294))
     ·rw [if_pos c39] at H
      have c39b0 : decide ((IntKind.u64.wrap ((IntKind.u64.wrap (a2)) - t294)) < t294) = true := decide_eq_true c39
      clear c39
      (first | rw [c39b0] | (simp only [i64_w, i32_w]; rw [c39b0]) | skip)
      have H' := Aside0.mk H
      clear H
      have hnb40 := NB296_292.out
      have hnc40 := NB292_296.out
      have hcz41_0 : wc.cell? ⟨gb296, 0, none⟩ = some (.int .u64 t293) := (blk_cell BK296.out 0).trans rfl
      have hcz41_1 : wc.cell? ⟨gb296, 1, none⟩ = some (.int .u64 t294) := (blk_cell BK296.out 1).trans rfl
      have hcz41_2 : wc.cell? ⟨gb296, 2, none⟩ = some (.bool t295) := (blk_cell BK296.out 2).trans rfl
      have hfz41_0 := blk_frozen BK296.out 0
      have hfz41_1 := blk_frozen BK296.out 1
      have hfz41_2 := blk_frozen BK296.out 2
      go_wp2
      go_meet
      case rel => exact ⟨_, (true), (by first | rfl | (simp; done) | (simp [*]; done)), H', ⟨by have := HJ4.out; have := HJ12.out; have := HJ26.out; first | omega | exact Nat.le_refl _⟩, ⟨by exact bb BK292.out⟩, ⟨by exact bb BK296.out⟩, ⟨by exact h2q HB.out GE292.out GE296.out⟩⟩
     rw [if_neg c39] at H
     have c39b0 : decide ((IntKind.u64.wrap ((IntKind.u64.wrap (a2)) - t294)) < t294) = false := decide_eq_false c39
     clear c39
     (first | rw [c39b0] | (simp only [i64_w, i32_w]; rw [c39b0]) | skip)
     by_cases c42 : t294 = (IntKind.u64.wrap ((IntKind.u64.wrap (a2)) - t294))
     case neg =>
      rw [if_neg c42] at H
      have c42b0 : (t294 == (IntKind.u64.wrap ((IntKind.u64.wrap (a2)) - t294))) = false := beq_eq_false_iff_ne.mpr c42
      have c42b1 : (t294 != (IntKind.u64.wrap ((IntKind.u64.wrap (a2)) - t294))) = true := bne_iff_ne.mpr c42
      have H' := Aside0.mk H
      clear H
      have hnb45 := NB296_292.out
      have hnc45 := NB292_296.out
      have hcz46_0 : wc.cell? ⟨gb296, 0, none⟩ = some (.int .u64 t293) := (blk_cell BK296.out 0).trans rfl
      have hcz46_1 : wc.cell? ⟨gb296, 1, none⟩ = some (.int .u64 t294) := (blk_cell BK296.out 1).trans rfl
      have hcz46_2 : wc.cell? ⟨gb296, 2, none⟩ = some (.bool t295) := (blk_cell BK296.out 2).trans rfl
      have hfz46_0 := blk_frozen BK296.out 0
      have hfz46_1 := blk_frozen BK296.out 1
      have hfz46_2 := blk_frozen BK296.out 2
      go_wp2
      go_meet
      case rel => exact ⟨_, (false), (by first | rfl | (simp; done) | (simp [*]; done)), H', ⟨by have := HJ4.out; have := HJ12.out; have := HJ26.out; first | omega | exact Nat.le_refl _⟩, ⟨by exact bb BK292.out⟩, ⟨by exact bb BK296.out⟩, ⟨by exact h2q HB.out GE292.out GE296.out⟩⟩
     rw [if_pos c42] at H
     have c42b0 : (t294 == (IntKind.u64.wrap ((IntKind.u64.wrap (a2)) - t294))) = true := beq_iff_eq.mpr c42
     have c42b1 : (t294 != (IntKind.u64.wrap ((IntKind.u64.wrap (a2)) - t294))) = false := bne_eq_false_iff_eq.mpr c42
     clear c42
     have H' := Aside0.mk H
     clear H
     have hnb43 := NB296_292.out
     have hnc43 := NB292_296.out
     have hcz44_0 : wc.cell? ⟨gb296, 0, none⟩ = some (.int .u64 t293) := (blk_cell BK296.out 0).trans rfl
     have hcz44_1 : wc.cell? ⟨gb296, 1, none⟩ = some (.int .u64 t294) := (blk_cell BK296.out 1).trans rfl
     have hcz44_2 : wc.cell? ⟨gb296, 2, none⟩ = some (.bool t295) := (blk_cell BK296.out 2).trans rfl
     have hfz44_0 := blk_frozen BK296.out 0
     have hfz44_1 := blk_frozen BK296.out 1
     have hfz44_2 := blk_frozen BK296.out 2
     go_wp2
     go_meet
     case rel => exact ⟨_, (((Int.tmod (wrap64 (t293)) 2) == 1)), (by first | rfl | (simp; done) | (simp [*]; done)), H', ⟨by have := HJ4.out; have := HJ12.out; have := HJ26.out; first | omega | exact Nat.le_refl _⟩, ⟨by exact bb BK292.out⟩, ⟨by exact bb BK296.out⟩, ⟨by exact h2q HB.out GE292.out GE296.out⟩⟩
    case rest =>
     clear HC36
     try clear c6
     try clear c6b0
     try clear c7
     try clear c7b0
     try clear c8
     try clear c8b0
     try clear c9
     try clear c9b0
     try clear c10
     try clear c21
     try clear c26
     try clear c30
     try clear c30b0 c30b1
     try clear c33
     try clear c34
     try clear c34b0
     try clear c35
     try clear c35b0 c35b1
     try clear c39
     try clear c39b0
     try clear c42
     try clear c42b0 c42b1
     try clear hcz16_0
     try clear hcz16_1
     try clear hcz20_0
     try clear hcz20_1
     try clear hcz20_2
     try clear hcz23_0
     try clear hcz23_1
     try clear hcz23_2
     try clear hcz25_0
     try clear hcz25_1
     try clear hcz25_2
     try clear hcz29_0
     try clear hcz29_1
     try clear hcz29_2
     try clear hcz32_0
     try clear hcz32_1
     try clear hcz32_2
     try clear hcz38_0
     try clear hcz38_1
     try clear hcz38_2
     try clear hcz41_0
     try clear hcz41_1
     try clear hcz41_2
     try clear hcz44_0
     try clear hcz44_1
     try clear hcz44_2
     try clear hcz46_0
     try clear hcz46_1
     try clear hcz46_2
     try clear hfz16_0
     try clear hfz16_1
     try clear hfz20_0
     try clear hfz20_1
     try clear hfz20_2
     try clear hfz23_0
     try clear hfz23_1
     try clear hfz23_2
     try clear hfz25_0
     try clear hfz25_1
     try clear hfz25_2
     try clear hfz29_0
     try clear hfz29_1
     try clear hfz29_2
     try clear hfz32_0
     try clear hfz32_1
     try clear hfz32_2
     try clear hfz38_0
     try clear hfz38_1
     try clear hfz38_2
     try clear hfz41_0
     try clear hfz41_1
     try clear hfz41_2
     try clear hfz44_0
     try clear hfz44_1
     try clear hfz44_2
     try clear hfz46_0
     try clear hfz46_1
     try clear hfz46_2
     obtain ⟨kq, x87_35, rfl, HA, HJ35, BK292, BK296, HB⟩ := hcut
     rcases kq with _ | kj35
     ·exact absurd HA.out (by simp [annuityref01_MulDiv.j3])
     have H := HA.out
     clear HA
     simp only [annuityref01_MulDiv.j3] at H
     by_cases c47 : x87_35 = true
     ·subst c47
      have H1 : (if (wrap64 ((wrap64 (t293)) + 1)) > 10000000000000 then (some (0, 14)) else (some (wrap64 ((wrap64 (t293)) + 1), 0))) = some (r1, r2) := by rw [if_pos rfl] at H; exact H
      clear H
      have H := H1
      clear H1
      by_cases c48 : (wrap64 ((wrap64 (t293)) + 1)) > 10000000000000
      ·rw [if_pos c48] at H
       have c48b0 : decide (10000000000000 < (wrap64 ((wrap64 (t293)) + 1))) = true := decide_eq_true c48
       clear c48
       simp only [Option.some.injEq, Prod.mk.injEq] at H
       obtain ⟨rfl, rfl⟩ := H
       go_wp2
       go_ret2
       exact ⟨by first | rfl | (simp [errW_none, errW_some] <;> rfl) | (simp [*, errW_none, errW_some] <;> rfl), by exact h2q HB.out GE292.out GE296.out⟩
      rw [if_neg c48] at H
      have c48b0 : decide (10000000000000 < (wrap64 ((wrap64 (t293)) + 1))) = false := decide_eq_false c48
      clear c48
      simp only [Option.some.injEq, Prod.mk.injEq] at H
      obtain ⟨rfl, rfl⟩ := H
      go_wp2
      go_ret2
      exact ⟨by first | rfl | (simp [errW_none, errW_some] <;> rfl) | (simp [*, errW_none, errW_some] <;> rfl), by exact h2q HB.out GE292.out GE296.out⟩
     replace c47 := Bool.eq_false_iff.mpr c47
     subst c47
     have H1 : (if (wrap64 (t293)) > 10000000000000 then (some (0, 14)) else (some ((wrap64 (t293)), 0))) = some (r1, r2) := by rw [if_neg (show ¬ (false = true) by decide)] at H; exact H
     clear H
     have H := H1
     clear H1
     by_cases c49 : (wrap64 (t293)) > 10000000000000
     ·rw [if_pos c49] at H
      have c49b0 : decide (10000000000000 < (wrap64 (t293))) = true := decide_eq_true c49
      clear c49
      simp only [Option.some.injEq, Prod.mk.injEq] at H
      obtain ⟨rfl, rfl⟩ := H
      go_wp2
      go_ret2
      exact ⟨by first | rfl | (simp [errW_none, errW_some] <;> rfl) | (simp [*, errW_none, errW_some] <;> rfl), by exact h2q HB.out GE292.out GE296.out⟩
     rw [if_neg c49] at H
     have c49b0 : decide (10000000000000 < (wrap64 (t293))) = false := decide_eq_false c49
     clear c49
     simp only [Option.some.injEq, Prod.mk.injEq] at H
     obtain ⟨rfl, rfl⟩ := H
     go_wp2
     go_ret2
     exact ⟨by first | rfl | (simp [errW_none, errW_some] <;> rfl) | (simp [*, errW_none, errW_some] <;> rfl), by exact h2q HB.out GE292.out GE296.out⟩
end Go.Proofs.Ytakcepffodipfaa.P
