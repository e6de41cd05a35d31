/- A part of a proof. -/
import Derived.Test.YtlhcohipnieidaaZaa
import Derived.Test.YtlhcohipnieidaaZsu
import Derived.Test.YtlhcohipnieidaaPx0
import Derived.Test.YtlhcohipnieidaaPx25
import Derived.Test.YtlhcohipnieidaaPx28
namespace Go.Proofs.Ytlhcohipnieidaa.P
open Go.RowKit Go.Proofs.YtlhcohipnieidaaW.PrintWords Go.Proofs.YtlhcohipnieidaaW.PrintLast Go.Proofs.YtlhcohipnieidaaW.PrintMore
attribute [local go_sem] max2_int min2_int max_two min_two max_three min_three max_four min_four   -- for this text's walks alone
set_option linter.unusedVariables false
set_option linter.unusedSimpArgs false
def plan_shares.l0 : Nat → Int → List Int → Bool → List (S23) → Int → Int → Option (List Int × Int)
 | 0, _, _, _, _, _, _ => none
 | k + 1, x8, x10, x11, x30, x31, x32 => if x32 < x31 then (if 0 ≤ x32 then (if x32 < (x30.length : Int) then (if x32 < (x10.length : Int) then ((some (x10.set (x32 : Int).toNat ((rd_T23 x30 x32).f1) : List Int)).bind fun y298 => (if x11 = true then (plan_shares.l0 k x8 y298 true x30 x31 (wrap64 (x32 + 1))) else (plan_shares.l0 k x8 y298 (decide (((rd_T23 x30 x32).f1) > 0)) x30 x31 (wrap64 (x32 + 1))))) else (none)) else (none)) else (none)) else (if x11 = true then ((share_Split.f k x8 x10).bind fun bt299 => (some (bt299.1, bt299.2))) else (some (x10, 0)))
def plan_shares.f (k : Nat) (a0_0 : Int) (l0_1 : List Int) (a1_0 : Int) (l1_1 : List (S23)) (a1_2 : Int) (a1_3 : Int) (a1_4 : Int) (a1_5 : Int) (l1_6 : List (S147)) (a1_7 : Int) (a1_8 : Int) (a1_9 : Int) (a1_10 : Int) (a1_11 : Int) (a1_12 : Int) (l2 : List (S23)) : Option (List Int × Int) := (income_Ask.f k l0_1 a1_5 a1_4).bind fun bt291 => (if bt291.2 = 0 then (if 0 ≤ (l2.length : Int) then (if ((l2.length : Int) : Int).toNat ≤ 35184372088832 then (plan_shares.l0 k bt291.1 (List.replicate ((l2.length : Int) : Int).toNat 0) false l2 (l2.length : Int) 0) else (none)) else (none)) else (some (([] : List Int), bt291.2)))
set_option maxHeartbeats 8000000 in
set_option maxRecDepth 100000 in
theorem plan_shares.calls (k : Nat) (a0_0 : Int) (A0_1 : Option Addr) (c0_1 : Nat) (l0_1 : List Int) (a1_0 : Int) (A1_1 : Option Addr) (c1_1 : Nat) (l1_1 : List (S23)) (a1_2 : Int) (a1_3 : Int) (a1_4 : Int) (a1_5 : Int) (A1_6 : Option Addr) (c1_6 : Nat) (l1_6 : List (S147)) (a1_7 : Int) (a1_8 : Int) (a1_9 : Int) (a1_10 : Int) (a1_11 : Int) (a1_12 : Int) (A2 : Option Addr) (c2 : Nat) (l2 : List (S23)) (r1 : List Int) (r2 : Int) (w : World) (hr0_1 : Kd.C (Kd.int .i64) w A0_1 l0_1.length l0_1) (hc0_1 : l0_1.length ≤ c0_1) (hr1_1 : Kd.C k23 w A1_1 l1_1.length l1_1) (hc1_1 : l1_1.length ≤ c1_1) (hr1_6 : Kd.C k147 w A1_6 l1_6.length l1_6) (hc1_6 : l1_6.length ≤ c1_6) (hr2 : Kd.C k23 w A2 l2.length l2) (hc2 : l2.length ≤ c2) (h : plan_shares.f k a0_0 l0_1 a1_0 l1_1 a1_2 a1_3 a1_4 a1_5 l1_6 a1_7 a1_8 a1_9 a1_10 a1_11 a1_12 l2 = some (r1, r2)) :
  Calls Try.prog 36 #[.agg #[.int .i64 a0_0, .slice A0_1 l0_1.length c0_1], .agg #[.int .i64 a1_0, .slice A1_1 l1_1.length c1_1, .int .i64 a1_2, .int .i64 a1_3, .int .i64 a1_4, .int .i64 a1_5, .slice A1_6 l1_6.length c1_6, .int .i64 a1_7, .int .i64 a1_8, .int .i64 a1_9, .int .i64 a1_10, .int .i64 a1_11, .int .i64 a1_12], .slice A2 l2.length c2] w fun e w' => ∃ v0_ : Value, e = .returned (.tuple #[v0_, .int .i64 r2]) ∧ Kd.R (Kd.int .i64) 2 w' w.heap.size (fun _ => True) v0_ r1 ∧ Below w.heap.size w w' := by
 have hu51 := Try.underlying51
 have hu38 := Try.underlying38
 have hu23 := Try.underlying23
 have HR0_1 := am hr0_1
 have HC0_1 := am hc0_1
 clear hr0_1 hc0_1
 have HR1_1 := am hr1_1
 have HC1_1 := am hc1_1
 clear hr1_1 hc1_1
 have HR1_6 := am hr1_6
 have HC1_6 := am hc1_6
 clear hr1_6 hc1_6
 have HR2 := am hr2
 have HC2 := am hc2
 clear hr2 hc2
 have HB := am (Below.refl w.heap.size w)
 have H : ((income_Ask.f k l0_1 a1_5 a1_4).bind fun bt291 => (if bt291.2 = 0 then (if 0 ≤ (l2.length : Int) then (if ((l2.length : Int) : Int).toNat ≤ 35184372088832 then (plan_shares.l0 k bt291.1 (List.replicate ((l2.length : Int) : Int).toNat 0) false l2 (l2.length : Int) 0) else (none)) else (none)) else (some (([] : List Int), bt291.2)))) = some (r1, r2) := h
 clear h
 replace H := Option.bind_eq_some_iff.mp H
 obtain ⟨⟨t291, t292⟩, A40, H⟩ := H
 replace H : (if t292 = 0 then (if 0 ≤ (l2.length : Int) then (if ((l2.length : Int) : Int).toNat ≤ 35184372088832 then (plan_shares.l0 k t291 (List.replicate ((l2.length : Int) : Int).toNat 0) false l2 (l2.length : Int) 0) else (none)) else (none)) else (some (([] : List Int), t292))) = some (r1, r2) := H
 have A4 := am A40
 clear A40
 by_cases c5 : t292 = 0
 ·rw [if_pos c5] at H
  have c5b0 : (t292 == 0) = true := beq_iff_eq.mpr c5
  have c5b1 : (t292 != 0) = false := bne_eq_false_iff_eq.mpr c5
  clear c5
  by_cases c6 : 0 ≤ (l2.length : Int)
  ·rw [if_pos c6] at H
   have c6b0 := eq_true c6
   have c6b1 : decide (0 ≤ (l2.length : Int)) = true := decide_eq_true c6
   clear c6
   by_cases c7 : ((l2.length : Int) : Int).toNat ≤ 35184372088832
   ·rw [if_pos c7] at H
    have c7b0 := eq_true c7
    have c7b1 : decide (((l2.length : Int) : Int).toNat ≤ 35184372088832) = true := decide_eq_true c7
    clear c7
    obtain ⟨y293, hy293⟩ : ∃ y_ : List Int, y_ = (List.replicate ((l2.length : Int) : Int).toNat 0) := ⟨_, rfl⟩
    replace H : (plan_shares.l0 k t291 y293 false l2 (l2.length : Int) 0) = some (r1, r2) := by first | (rw [hy293]; with_reducible exact H) | (have H2_ := (Option.bind_some _ _).symm.trans H; rw [hy293]; with_reducible exact H2_) | (have H2_ := (Option.bind_some _ _).symm.trans H; with_reducible exact H2_) | with_reducible exact H | (rw [hy293]; exact H) | exact H
    have Ny293 := am hy293
    clear hy293
    have H' := am H
    clear H
    go_enter Try.func36, Try.ntmps36
    go_wp2_with (first | ((with_reducible refine gate_dst (N := 3) rfl ?_); refine box_event ?hg (N := 3) ?hd (cs := #[.int .i64 a0_0, .slice A0_1 l0_1.length c0_1]) (t := 51) ?hr ?_; (case hd => rfl); (case hg => rfl); (case hr => first | (go_simp; done) | (go_simp; rfl)); intro gb289 hg w8 hbox hb; have n0_ := am (below_step (by exact h0q HB.out) hb); have n1_ := am (hbox); have n2_ := am ((by rw [hg]; exact (below_size (by exact h0q HB.out)) : w.heap.size ≤ gb289)); have n3_ := am ((by rw [hg]; exact (below_size (by exact h0q HB.out)) : w.heap.size ≤ gb289)); clear HB; have HB := n0_; have BK289 := n1_; have GW289 := n2_; have GE289 := n3_; clear n0_ n1_ n2_ n3_; clear hb hbox hg) | ((with_reducible refine gate_dst (N := 4) rfl ?_); refine box_event ?hg (N := 4) ?hd (cs := #[.int .i64 a1_0, .slice A1_1 l1_1.length c1_1, .int .i64 a1_2, .int .i64 a1_3, .int .i64 a1_4, .int .i64 a1_5, .slice A1_6 l1_6.length c1_6, .int .i64 a1_7, .int .i64 a1_8, .int .i64 a1_9, .int .i64 a1_10, .int .i64 a1_11, .int .i64 a1_12]) (t := 38) ?hr ?_; (case hd => rfl); (case hg => rfl); (case hr => first | (go_simp; done) | (go_simp; rfl)); intro gb290 hg w9 hbox hb; have n0_ := am (blk_below (g := gb289) (Up.up BK289.out) hb); have n1_ := am (below_step (by exact h1q HB.out GE289.out) hb); have n2_ := am (hbox); have n3_ := am ((by rw [hg]; exact (below_size (by exact h1q HB.out GE289.out)) : w.heap.size ≤ gb290)); have n4_ := am ((by rw [hg]; exact (below_size (by exact h1q HB.out GE289.out)) : w.heap.size ≤ gb290)); have n5_ := am ((by rw [hg]; exact Nat.ne_of_lt (blk_lt (g := gb289) (Up.up BK289.out)) : gb289 ≠ gb290)); have n6_ := am ((by rw [hg]; exact Nat.ne_of_gt (blk_lt (g := gb289) (Up.up BK289.out)) : gb290 ≠ gb289)); clear BK289; clear HB; have BK289 := n0_; have HB := n1_; have BK290 := n2_; have GW290 := n3_; have GE290 := n4_; have NB289_290 := n5_; have NB290_289 := n6_; clear n0_ n1_ n2_ n3_ n4_ n5_ n6_; clear hb hbox hg; have hnb10 := NB289_290.out; have hnc10 := NB290_289.out; have hcz11_0 : w9.cell? ⟨gb289, 0, none⟩ = some (.int .i64 a0_0) := (blk_cell BK289.out 0).trans rfl; have hcz11_1 : w9.cell? ⟨gb289, 1, none⟩ = some (.slice A0_1 l0_1.length c0_1) := (blk_cell BK289.out 1).trans rfl; have hfz11_0 := blk_frozen BK289.out 0; have hfz11_1 := blk_frozen BK289.out 1; have hz12 := lc13 BK290.out) | ((with_reducible refine gate_callee (f := 51) rfl ?_); refine goesL_ (some 21) rfl rfl Try.func51 (by kernel_rfl) rfl #[.slice A0_1 l0_1.length c0_1, .int .i64 a1_5, .int .i64 a1_4] rfl ml ?_; (with_reducible refine (income_Ask.calls k _ _ l0_1 a1_5 a1_4 t291 t292 _ ?side1 ?side2 A4.out).mono ?_); (case side1 => exact cq ((Kd.C_below HR0_1.out HB.out))); (case side2 => exact HC0_1.out); rintro e w13 ⟨rfl, hb⟩; refine ⟨_, rfl, ?_⟩; have n0_ := am (blk_below (g := gb289) (Up.up BK289.out) hb); have n1_ := am (blk_below (g := gb290) (Up.up BK290.out) hb); have n2_ := am (below_step (by exact h2q HB.out GE289.out GE290.out) hb); clear BK289; clear BK290; clear HB; have BK289 := n0_; have BK290 := n1_; have HB := n2_; clear n0_ n1_ n2_; (try clear hb); (try clear hb2); (try clear hk); (try clear hi)) | ((with_reducible refine gate_dst (N := 29) rfl ?_); refine Kd.R_make (Kd.int .i64) _ 2 rfl (N := 29) rfl 47 _ _ rfl (l2.length : Int) rfl rfl Try.underlying47 (.int .i64 0) 8 info2 rfl (by decide) (by omega) 0 (ok := fun _ => True) (okp := fun _ => True) rfl (fun _ hk => hk) trivial (yd) (Nat.le_trans (Nat.mul_le_mul_right _ (yd : (l2.length : Int).toNat ≤ 35184372088832)) (by omega)) (Below.refl _ _) (Nat.le_refl _) ?_; intro v294 w14 ho15 hb hg_ hnew_; clear hg_ hnew_; (first | rw [← Ny293.out] at ho15 | (simp only [Int.reduceToNat] at ho15; rw [← Ny293.out] at ho15)); have n0_ := am (Kd.R_lower ho15 (below_size (by exact h2q HB.out GE289.out GE290.out))); have n1_ := am (blk_below (g := gb289) (Up.up BK289.out) hb); have n2_ := am (blk_below (g := gb290) (Up.up BK290.out) hb); have n3_ := am (below_step (by exact h2q HB.out GE289.out GE290.out) hb); clear BK289; clear BK290; clear HB; have HO295 := n0_; have BK289 := n1_; have BK290 := n2_; have HB := n3_; clear n0_ n1_ n2_ n3_; clear hb ho15))
    go_loopg [11, 32] k (fun kq v11 v32 w' => ∃ (x10_1 : List Int) (x11_1 : Bool) (x32_1 : Int), v11 = .bool x11_1 ∧ v32 = .int .i64 x32_1 ∧ Aside0 (plan_shares.l0 kq t291 x10_1 x11_1 l2 (l2.length : Int) x32_1 = some (r1, r2)) ∧ Aside0 (kq ≤ k) ∧ Aside0 (Kd.R (Kd.int .i64) 2 w' w.heap.size (fun _ => True) v294 x10_1) ∧ Aside0 (w'.heap[gb289]? = some (.cells #[.int .i64 a0_0, (.slice A0_1 l0_1.length c0_1)] 51 (0, 0))) ∧ Aside0 (w'.heap[gb290]? = some (.cells #[.int .i64 a1_0, (.slice A1_1 l1_1.length c1_1), .int .i64 a1_2, .int .i64 a1_3, .int .i64 a1_4, .int .i64 a1_5, (.slice A1_6 l1_6.length c1_6), .int .i64 a1_7, .int .i64 a1_8, .int .i64 a1_9, .int .i64 a1_10, .int .i64 a1_11, .int .i64 a1_12] 38 (0, 0))) ∧ Aside0 (Below w.heap.size w w'))
    case atStart => exact ⟨(y293), (false), (0), (by first | rfl | (simp; done) | (simp [*]; done)), (by first | rfl | (simp; done) | (simp [*]; done)), H', ⟨Nat.le_refl _⟩, ⟨by exact rq HO295.out⟩, ⟨by exact bb BK289.out⟩, ⟨by exact bb BK290.out⟩, ⟨by exact h2q HB.out GE289.out GE290.out⟩⟩
    case round =>
     clear H'
     try clear c2
     try clear c5
     try clear c5b0 c5b1
     try clear c6
     try clear c6b0 c6b1
     try clear c7
     try clear c7b0 c7b1
     try clear hcz11_0
     try clear hcz11_1
     try clear hz12
     try clear hfz11_0
     try clear hfz11_1
     obtain ⟨x10_1, x11_1, x32_1, rfl, rfl, HA, HK1, HO_10, BK289, BK290, HB⟩ := hrel
     rcases gk with _ | k1
     ·exact absurd HA.out (by simp [plan_shares.l0])
     have H := HA.out
     clear HA
     simp only [plan_shares.l0] at H
     by_cases c16 : x32_1 < (l2.length : Int)
     ·rw [if_pos c16] at H
      have c16b0 : decide (x32_1 < (l2.length : Int)) = true := decide_eq_true c16
      clear c16
      by_cases c17 : 0 ≤ x32_1
      ·rw [if_pos c17] at H
       have c17b0 : decide (0 ≤ x32_1) = true := decide_eq_true c17
       clear c17
       by_cases c18 : x32_1 < (l2.length : Int)
       ·rw [if_pos c18] at H
        have c18b0 : decide (x32_1 < (l2.length : Int)) = true := decide_eq_true c18
        clear c18
        by_cases c19 : x32_1 < (x10_1.length : Int)
        ·rw [if_pos c19] at H
         have c19b0 : decide (x32_1 < (x10_1.length : Int)) = true := decide_eq_true c19
         clear c19
         obtain ⟨y298, hy298⟩ : ∃ y_ : List Int, y_ = (x10_1.set (x32_1 : Int).toNat ((rd_T23 l2 x32_1).f1)) := ⟨_, rfl⟩
         replace H : (if x11_1 = true then (plan_shares.l0 k1 t291 y298 true l2 (l2.length : Int) (wrap64 (x32_1 + 1))) else (plan_shares.l0 k1 t291 y298 (decide (((rd_T23 l2 x32_1).f1) > 0)) l2 (l2.length : Int) (wrap64 (x32_1 + 1)))) = some (r1, r2) := by first | (rw [hy298]; with_reducible exact H) | (have H2_ := (Option.bind_some _ _).symm.trans H; rw [hy298]; with_reducible exact H2_) | (have H2_ := (Option.bind_some _ _).symm.trans H; with_reducible exact H2_) | with_reducible exact H | (rw [hy298]; exact H) | exact H
         have Ny298 := am hy298
         clear hy298
         by_cases c21 : x11_1 = true
         ·subst c21
          have H1 : (plan_shares.l0 k1 t291 y298 true l2 (l2.length : Int) (wrap64 (x32_1 + 1))) = some (r1, r2) := by rw [if_pos rfl] at H; exact H
          clear H
          have H := H1
          clear H1
          have H' := am H
          clear H
          have p296 : 0 ≤ (x32_1 : Int) := yd
          have q296 : x32_1 < (l2.length : Int) := yd
          obtain ⟨ad296, e296, hx296_0, hx296_1, hx296_2, hx296_3, hx296_4, hx296_5, hx296_6, hx296_7, hx296_8, hx296_9, hx296_10, hx296_11, hx296_12⟩ := at_T23 HR2.out x32_1 p296 q296
          cases e296
          replace hx296_0 := hxb HB.out hx296_0
          replace hx296_1 := hxb HB.out hx296_1
          replace hx296_2 := hxb HB.out hx296_2
          replace hx296_3 := hxb HB.out hx296_3
          replace hx296_4 := hxb HB.out hx296_4
          replace hx296_5 := hxb HB.out hx296_5
          replace hx296_6 := hxb HB.out hx296_6
          replace hx296_7 := hxb HB.out hx296_7
          replace hx296_8 := hxb HB.out hx296_8
          replace hx296_9 := hxb HB.out hx296_9
          replace hx296_10 := hxb HB.out hx296_10
          replace hx296_11 := hxb HB.out hx296_11
          replace hx296_12 := hxb HB.out hx296_12
          replace p296 := eq_true p296
          replace q296 := eq_true q296
          go_wp2_with (first | ((with_reducible refine gate_dst (N := 13) rfl ?_); refine box_event ?hg (N := 13) ?hd (cs := #[.int .i64 0, .int .i64 0, .int .i64 0, .int .i64 0, .int .i64 0, .int .i64 0, .bool false, .int .i64 0, .int .i64 0, .int .i64 0, .int .i64 0, .int .i64 0, .int .i64 0]) (t := 23) ?hr ?_; (case hd => rfl); (case hg => rfl); (case hr => first | (go_simp; done) | (go_simp; rfl)); intro gb297 hg w22 hbox hb; have n0_ := am (Kd.R_below (by exact rq HO_10.out) hb); have n1_ := am (blk_below (g := gb289) (Up.up BK289.out) hb); have n2_ := am (blk_below (g := gb290) (Up.up BK290.out) hb); have n3_ := am (below_step (by exact h2q HB.out GE289.out GE290.out) hb); have n4_ := am (hbox); have n5_ := am ((by rw [hg]; exact (below_size (by exact h2q HB.out GE289.out GE290.out)) : w.heap.size ≤ gb297)); have n6_ := am ((by rw [hg]; exact (below_size (by exact h2q HB.out GE289.out GE290.out)) : w.heap.size ≤ gb297)); have n7_ := am ((by rw [hg]; exact Nat.ne_of_lt (blk_lt (g := gb289) (Up.up BK289.out)) : gb289 ≠ gb297)); have n8_ := am ((by rw [hg]; exact Nat.ne_of_gt (blk_lt (g := gb289) (Up.up BK289.out)) : gb297 ≠ gb289)); have n9_ := am ((by rw [hg]; exact Nat.ne_of_lt (blk_lt (g := gb290) (Up.up BK290.out)) : gb290 ≠ gb297)); have n10_ := am ((by rw [hg]; exact Nat.ne_of_gt (blk_lt (g := gb290) (Up.up BK290.out)) : gb297 ≠ gb290)); clear HO_10; clear BK289; clear BK290; clear HB; have HO_10 := n0_; have BK289 := n1_; have BK290 := n2_; have HB := n3_; have BK297 := n4_; have GW297 := n5_; have GE297 := n6_; have NB289_297 := n7_; have NB297_289 := n8_; have NB290_297 := n9_; have NB297_290 := n10_; clear n0_ n1_ n2_ n3_ n4_ n5_ n6_ n7_ n8_ n9_ n10_; clear hb hbox hg; have hnb23 := NB297_289.out; have hnc23 := NB289_297.out; have hnb24 := NB297_290.out; have hnc24 := NB290_297.out; have hz25 := lc13 BK297.out) | ((with_reducible refine gate_store (t := 23) (p := 13) rfl ?_); refine store_event (t := 23) (p := 13) (v := ?vo_w26) (w1 := (((((((((((((w22.setCell ⟨gb297, 0, none⟩ (.int .i64 ((rd_T23 l2 x32_1).f0))).setCell ⟨gb297, 1, none⟩ (.int .i64 ((rd_T23 l2 x32_1).f1))).setCell ⟨gb297, 2, none⟩ (.int .i64 ((rd_T23 l2 x32_1).f2))).setCell ⟨gb297, 3, none⟩ (.int .i64 ((rd_T23 l2 x32_1).f3))).setCell ⟨gb297, 4, none⟩ (.int .i64 ((rd_T23 l2 x32_1).f4))).setCell ⟨gb297, 5, none⟩ (.int .i64 ((rd_T23 l2 x32_1).f5))).setCell ⟨gb297, 6, none⟩ (.bool ((rd_T23 l2 x32_1).f6))).setCell ⟨gb297, 7, none⟩ (.int .i64 ((rd_T23 l2 x32_1).f7))).setCell ⟨gb297, 8, none⟩ (.int .i64 ((rd_T23 l2 x32_1).f8))).setCell ⟨gb297, 9, none⟩ (.int .i64 ((rd_T23 l2 x32_1).f9))).setCell ⟨gb297, 10, none⟩ (.int .i64 ((rd_T23 l2 x32_1).f10))).setCell ⟨gb297, 11, none⟩ (.int .i64 ((rd_T23 l2 x32_1).f11))).setCell ⟨gb297, 12, none⟩ (.int .i64 ((rd_T23 l2 x32_1).f12)))) ?hg ?ho ?hn ?hr ?_; (case ho => rfl); (case hg => rfl); (case hn => rfl); (case hr => first | (go_simp; done) | (go_simp; rfl)); intro w26 hw; have n0_ : Aside0 (Kd.R (Kd.int .i64) 2 w26 w.heap.size (fun _ => True) v294 x10_1) := ⟨(by rw [hw]; exact (by (with_reducible repeat (first | apply Kd.R_alloc | apply Kd.R_drewN | apply Kd.R_drew)); exact Kd.R_mono (Kd.R_far (p := ⟨gb297, 12, none⟩) (Kd.R_far (p := ⟨gb297, 11, none⟩) (Kd.R_far (p := ⟨gb297, 10, none⟩) (Kd.R_far (p := ⟨gb297, 9, none⟩) (Kd.R_far (p := ⟨gb297, 8, none⟩) (Kd.R_far (p := ⟨gb297, 7, none⟩) (Kd.R_far (p := ⟨gb297, 6, none⟩) (Kd.R_far (p := ⟨gb297, 5, none⟩) (Kd.R_far (p := ⟨gb297, 4, none⟩) (Kd.R_far (p := ⟨gb297, 3, none⟩) (Kd.R_far (p := ⟨gb297, 2, none⟩) (Kd.R_far (p := ⟨gb297, 1, none⟩) (Kd.R_far (p := ⟨gb297, 0, none⟩) (Kd.R_types HO_10.out BK297.out (by decide)) (fun _ hk => hk.2) (.int .i64 ((rd_T23 l2 x32_1).f0))) (fun _ hk => hk.2) (.int .i64 ((rd_T23 l2 x32_1).f1))) (fun _ hk => hk.2) (.int .i64 ((rd_T23 l2 x32_1).f2))) (fun _ hk => hk.2) (.int .i64 ((rd_T23 l2 x32_1).f3))) (fun _ hk => hk.2) (.int .i64 ((rd_T23 l2 x32_1).f4))) (fun _ hk => hk.2) (.int .i64 ((rd_T23 l2 x32_1).f5))) (fun _ hk => hk.2) (.bool ((rd_T23 l2 x32_1).f6))) (fun _ hk => hk.2) (.int .i64 ((rd_T23 l2 x32_1).f7))) (fun _ hk => hk.2) (.int .i64 ((rd_T23 l2 x32_1).f8))) (fun _ hk => hk.2) (.int .i64 ((rd_T23 l2 x32_1).f9))) (fun _ hk => hk.2) (.int .i64 ((rd_T23 l2 x32_1).f10))) (fun _ hk => hk.2) (.int .i64 ((rd_T23 l2 x32_1).f11))) (fun _ hk => hk.2) (.int .i64 ((rd_T23 l2 x32_1).f12))) (fun _ hk => trivial)))⟩; have n1_ : Aside0 (w26.heap[gb289]? = some (.cells #[.int .i64 a0_0, .slice A0_1 l0_1.length c0_1] 51 (0, 0))) := ⟨(by rw [hw]; exact (by (iterate 13 ((with_reducible repeat (first | refine blk_drewN ?_ _ | refine blk_drew ?_ | refine blk_alloc ?_ _)); refine blk_far ?_ NB289_297.out _)); (with_reducible repeat (first | refine blk_drewN ?_ _ | refine blk_drew ?_ | refine blk_alloc ?_ _)); exact BK289.out))⟩; have n2_ : Aside0 (w26.heap[gb290]? = some (.cells #[.int .i64 a1_0, .slice A1_1 l1_1.length c1_1, .int .i64 a1_2, .int .i64 a1_3, .int .i64 a1_4, .int .i64 a1_5, .slice A1_6 l1_6.length c1_6, .int .i64 a1_7, .int .i64 a1_8, .int .i64 a1_9, .int .i64 a1_10, .int .i64 a1_11, .int .i64 a1_12] 38 (0, 0))) := ⟨(by rw [hw]; exact (by (iterate 13 ((with_reducible repeat (first | refine blk_drewN ?_ _ | refine blk_drew ?_ | refine blk_alloc ?_ _)); refine blk_far ?_ NB290_297.out _)); (with_reducible repeat (first | refine blk_drewN ?_ _ | refine blk_drew ?_ | refine blk_alloc ?_ _)); exact BK290.out))⟩; have n3_ : Aside0 (w26.heap[gb297]? = some (.cells #[.int .i64 ((rd_T23 l2 x32_1).f0), .int .i64 ((rd_T23 l2 x32_1).f1), .int .i64 ((rd_T23 l2 x32_1).f2), .int .i64 ((rd_T23 l2 x32_1).f3), .int .i64 ((rd_T23 l2 x32_1).f4), .int .i64 ((rd_T23 l2 x32_1).f5), .bool ((rd_T23 l2 x32_1).f6), .int .i64 ((rd_T23 l2 x32_1).f7), .int .i64 ((rd_T23 l2 x32_1).f8), .int .i64 ((rd_T23 l2 x32_1).f9), .int .i64 ((rd_T23 l2 x32_1).f10), .int .i64 ((rd_T23 l2 x32_1).f11), .int .i64 ((rd_T23 l2 x32_1).f12)] 23 (0, 0))) := ⟨(by rw [hw]; exact (by (with_reducible repeat (first | refine blk_drewN ?_ _ | refine blk_drew ?_ | refine blk_alloc ?_ _)); apply blk_put13b; (with_reducible repeat (first | refine blk_drewN ?_ _ | refine blk_drew ?_ | refine blk_alloc ?_ _)); exact BK297.out))⟩; have n4_ : Aside0 (Below w.heap.size w w26) := ⟨(by rw [hw]; exact (by exact h3q HB.out GE289.out GE290.out GE297.out))⟩; clear hw; clear HO_10; clear BK289; clear BK290; clear BK297; clear HB; have HO_10 := n0_; have BK289 := n1_; have BK290 := n2_; have BK297 := n3_; have HB := n4_; clear n0_ n1_ n2_ n3_ n4_; have hz27 := lc13 BK297.out; have p20 : 0 ≤ (x32_1 : Int) := yd; have q20 : (x32_1 : Int) < ((x10_1.length : Int) : Int) := yd; obtain ⟨go20, co20, eo20, gb20, gl20, cl20, HG20⟩ := Kd.R_form HO_10.out (by omega); (first | cases eo20 | (injection eo20 with ea_ en_ ec_; (first | subst ea_ | (injection ea_ with ea_; subst ea_)); subst ec_; clear en_)); have GB20 := am gb20; have GG20 := am HG20; clear gb20 gl20 HG20; obtain ⟨hx20_0, hf20_0⟩ := Kd.R_celln 0 HO_10.out (x32_1 : Int) p20 q20; replace p20 := eq_true p20; replace q20 := eq_true q20; obtain ⟨hy28_, hz28_⟩ := Kd.R_celln 0 HO_10.out (x32_1 : Int) (yd) (yd); have HP28 := Kd.R_putg HO_10.out (x32_1 : Int) ((rd_T23 l2 x32_1).f1)) | ((with_reducible refine gate_store (t := 2) (p := 41) rfl ?_); refine store_event (t := 2) (p := 41) (v := ?vo_w29) (w1 := (w26.setCell ⟨go20, (x32_1 : Int).toNat, none⟩ (.int .i64 ((rd_T23 l2 x32_1).f1)))) ?hg ?ho ?hn ?hr ?_; (case ho => rfl); (case hg => rfl); (case hn => rfl); (case hr => first | (go_simp; done) | (go_simp; rfl)); intro w29 hw; have hg : w26.grownBy w29 (some go20) := (by rw [hw]; exact HP28.2); have hp_ : Kd.R (Kd.int .i64) 2 w29 w.heap.size (fun _ => True) (.slice (some ⟨go20, 0, none⟩) x10_1.length co20) y298 := (by rw [hw, Ny298.out]; exact HP28.1); clear HP28; have n0_ := am (hp_); have n1_ := am (blk_grown (g := gb289) (Up.up BK289.out) hg (Kd.R_ne HO_10.out BK289.out (by decide))); have n2_ := am (blk_grown (g := gb290) (Up.up BK290.out) hg (Kd.R_ne HO_10.out BK290.out (by decide))); have n3_ := am (blk_grown (g := gb297) (Up.up BK297.out) hg (Kd.R_ne HO_10.out BK297.out (by decide))); have n4_ := am ((by rw [hw]; exact below_set (HB.out) GB20.out : Below w.heap.size w w29)); clear HO_10; clear BK289; clear BK290; clear BK297; clear HB; have HO_10 := n0_; have BK289 := n1_; have BK290 := n2_; have BK297 := n3_; have HB := n4_; clear n0_ n1_ n2_ n3_ n4_; clear hg hw hp_))
          go_roundg k1
          case measure => have := HK1.out; omega
          case rel => exact ⟨(y298), (true), (wrap64 (x32_1 + 1)), (by first | rfl | (simp; done) | (simp [*]; done)), (by first | rfl | (simp; done) | (simp [*]; done)), H', ⟨by have := HK1.out; omega⟩, ⟨by exact rq HO_10.out⟩, ⟨by exact bb BK289.out⟩, ⟨by exact bb BK290.out⟩, ⟨by exact h3q HB.out GE289.out GE290.out GE297.out⟩⟩
         ·replace c21 := Bool.eq_false_iff.mpr c21
          subst c21
          have H1 : (plan_shares.l0 k1 t291 y298 (decide (((rd_T23 l2 x32_1).f1) > 0)) l2 (l2.length : Int) (wrap64 (x32_1 + 1))) = some (r1, r2) := by rw [if_neg (show ¬ (false = true) by decide)] at H; exact H
          clear H
          have H := H1
          clear H1
          have H' := am H
          clear H
          have p296 : 0 ≤ (x32_1 : Int) := yd
          have q296 : x32_1 < (l2.length : Int) := yd
          obtain ⟨ad296, e296, hx296_0, hx296_1, hx296_2, hx296_3, hx296_4, hx296_5, hx296_6, hx296_7, hx296_8, hx296_9, hx296_10, hx296_11, hx296_12⟩ := at_T23 HR2.out x32_1 p296 q296
          cases e296
          replace hx296_0 := hxb HB.out hx296_0
          replace hx296_1 := hxb HB.out hx296_1
          replace hx296_2 := hxb HB.out hx296_2
          replace hx296_3 := hxb HB.out hx296_3
          replace hx296_4 := hxb HB.out hx296_4
          replace hx296_5 := hxb HB.out hx296_5
          replace hx296_6 := hxb HB.out hx296_6
          replace hx296_7 := hxb HB.out hx296_7
          replace hx296_8 := hxb HB.out hx296_8
          replace hx296_9 := hxb HB.out hx296_9
          replace hx296_10 := hxb HB.out hx296_10
          replace hx296_11 := hxb HB.out hx296_11
          replace hx296_12 := hxb HB.out hx296_12
          replace p296 := eq_true p296
          replace q296 := eq_true q296
          go_wp2_with (first | ((with_reducible refine gate_dst (N := 13) rfl ?_); refine box_event ?hg (N := 13) ?hd (cs := #[.int .i64 0, .int .i64 0, .int .i64 0, .int .i64 0, .int .i64 0, .int .i64 0, .bool false, .int .i64 0, .int .i64 0, .int .i64 0, .int .i64 0, .int .i64 0, .int .i64 0]) (t := 23) ?hr ?_; (case hd => rfl); (case hg => rfl); (case hr => first | (go_simp; done) | (go_simp; rfl)); intro gb297 hg w30 hbox hb; have n0_ := am (Kd.R_below (by exact rq HO_10.out) hb); have n1_ := am (blk_below (g := gb289) (Up.up BK289.out) hb); have n2_ := am (blk_below (g := gb290) (Up.up BK290.out) hb); have n3_ := am (below_step (by exact h2q HB.out GE289.out GE290.out) hb); have n4_ := am (hbox); have n5_ := am ((by rw [hg]; exact (below_size (by exact h2q HB.out GE289.out GE290.out)) : w.heap.size ≤ gb297)); have n6_ := am ((by rw [hg]; exact (below_size (by exact h2q HB.out GE289.out GE290.out)) : w.heap.size ≤ gb297)); have n7_ := am ((by rw [hg]; exact Nat.ne_of_lt (blk_lt (g := gb289) (Up.up BK289.out)) : gb289 ≠ gb297)); have n8_ := am ((by rw [hg]; exact Nat.ne_of_gt (blk_lt (g := gb289) (Up.up BK289.out)) : gb297 ≠ gb289)); have n9_ := am ((by rw [hg]; exact Nat.ne_of_lt (blk_lt (g := gb290) (Up.up BK290.out)) : gb290 ≠ gb297)); have n10_ := am ((by rw [hg]; exact Nat.ne_of_gt (blk_lt (g := gb290) (Up.up BK290.out)) : gb297 ≠ gb290)); clear HO_10; clear BK289; clear BK290; clear HB; have HO_10 := n0_; have BK289 := n1_; have BK290 := n2_; have HB := n3_; have BK297 := n4_; have GW297 := n5_; have GE297 := n6_; have NB289_297 := n7_; have NB297_289 := n8_; have NB290_297 := n9_; have NB297_290 := n10_; clear n0_ n1_ n2_ n3_ n4_ n5_ n6_ n7_ n8_ n9_ n10_; clear hb hbox hg; have hnb31 := NB297_289.out; have hnc31 := NB289_297.out; have hnb32 := NB297_290.out; have hnc32 := NB290_297.out; have hz33 := lc13 BK297.out) | ((with_reducible refine gate_store (t := 23) (p := 13) rfl ?_); refine store_event (t := 23) (p := 13) (v := ?vo_w34) (w1 := (((((((((((((w30.setCell ⟨gb297, 0, none⟩ (.int .i64 ((rd_T23 l2 x32_1).f0))).setCell ⟨gb297, 1, none⟩ (.int .i64 ((rd_T23 l2 x32_1).f1))).setCell ⟨gb297, 2, none⟩ (.int .i64 ((rd_T23 l2 x32_1).f2))).setCell ⟨gb297, 3, none⟩ (.int .i64 ((rd_T23 l2 x32_1).f3))).setCell ⟨gb297, 4, none⟩ (.int .i64 ((rd_T23 l2 x32_1).f4))).setCell ⟨gb297, 5, none⟩ (.int .i64 ((rd_T23 l2 x32_1).f5))).setCell ⟨gb297, 6, none⟩ (.bool ((rd_T23 l2 x32_1).f6))).setCell ⟨gb297, 7, none⟩ (.int .i64 ((rd_T23 l2 x32_1).f7))).setCell ⟨gb297, 8, none⟩ (.int .i64 ((rd_T23 l2 x32_1).f8))).setCell ⟨gb297, 9, none⟩ (.int .i64 ((rd_T23 l2 x32_1).f9))).setCell ⟨gb297, 10, none⟩ (.int .i64 ((rd_T23 l2 x32_1).f10))).setCell ⟨gb297, 11, none⟩ (.int .i64 ((rd_T23 l2 x32_1).f11))).setCell ⟨gb297, 12, none⟩ (.int .i64 ((rd_T23 l2 x32_1).f12)))) ?hg ?ho ?hn ?hr ?_; (case ho => rfl); (case hg => rfl); (case hn => rfl); (case hr => first | (go_simp; done) | (go_simp; rfl)); intro w34 hw; have n0_ : Aside0 (Kd.R (Kd.int .i64) 2 w34 w.heap.size (fun _ => True) v294 x10_1) := ⟨(by rw [hw]; exact (by (with_reducible repeat (first | apply Kd.R_alloc | apply Kd.R_drewN | apply Kd.R_drew)); exact Kd.R_mono (Kd.R_far (p := ⟨gb297, 12, none⟩) (Kd.R_far (p := ⟨gb297, 11, none⟩) (Kd.R_far (p := ⟨gb297, 10, none⟩) (Kd.R_far (p := ⟨gb297, 9, none⟩) (Kd.R_far (p := ⟨gb297, 8, none⟩) (Kd.R_far (p := ⟨gb297, 7, none⟩) (Kd.R_far (p := ⟨gb297, 6, none⟩) (Kd.R_far (p := ⟨gb297, 5, none⟩) (Kd.R_far (p := ⟨gb297, 4, none⟩) (Kd.R_far (p := ⟨gb297, 3, none⟩) (Kd.R_far (p := ⟨gb297, 2, none⟩) (Kd.R_far (p := ⟨gb297, 1, none⟩) (Kd.R_far (p := ⟨gb297, 0, none⟩) (Kd.R_types HO_10.out BK297.out (by decide)) (fun _ hk => hk.2) (.int .i64 ((rd_T23 l2 x32_1).f0))) (fun _ hk => hk.2) (.int .i64 ((rd_T23 l2 x32_1).f1))) (fun _ hk => hk.2) (.int .i64 ((rd_T23 l2 x32_1).f2))) (fun _ hk => hk.2) (.int .i64 ((rd_T23 l2 x32_1).f3))) (fun _ hk => hk.2) (.int .i64 ((rd_T23 l2 x32_1).f4))) (fun _ hk => hk.2) (.int .i64 ((rd_T23 l2 x32_1).f5))) (fun _ hk => hk.2) (.bool ((rd_T23 l2 x32_1).f6))) (fun _ hk => hk.2) (.int .i64 ((rd_T23 l2 x32_1).f7))) (fun _ hk => hk.2) (.int .i64 ((rd_T23 l2 x32_1).f8))) (fun _ hk => hk.2) (.int .i64 ((rd_T23 l2 x32_1).f9))) (fun _ hk => hk.2) (.int .i64 ((rd_T23 l2 x32_1).f10))) (fun _ hk => hk.2) (.int .i64 ((rd_T23 l2 x32_1).f11))) (fun _ hk => hk.2) (.int .i64 ((rd_T23 l2 x32_1).f12))) (fun _ hk => trivial)))⟩; have n1_ : Aside0 (w34.heap[gb289]? = some (.cells #[.int .i64 a0_0, .slice A0_1 l0_1.length c0_1] 51 (0, 0))) := ⟨(by rw [hw]; exact (by (iterate 13 ((with_reducible repeat (first | refine blk_drewN ?_ _ | refine blk_drew ?_ | refine blk_alloc ?_ _)); refine blk_far ?_ NB289_297.out _)); (with_reducible repeat (first | refine blk_drewN ?_ _ | refine blk_drew ?_ | refine blk_alloc ?_ _)); exact BK289.out))⟩; have n2_ : Aside0 (w34.heap[gb290]? = some (.cells #[.int .i64 a1_0, .slice A1_1 l1_1.length c1_1, .int .i64 a1_2, .int .i64 a1_3, .int .i64 a1_4, .int .i64 a1_5, .slice A1_6 l1_6.length c1_6, .int .i64 a1_7, .int .i64 a1_8, .int .i64 a1_9, .int .i64 a1_10, .int .i64 a1_11, .int .i64 a1_12] 38 (0, 0))) := ⟨(by rw [hw]; exact (by (iterate 13 ((with_reducible repeat (first | refine blk_drewN ?_ _ | refine blk_drew ?_ | refine blk_alloc ?_ _)); refine blk_far ?_ NB290_297.out _)); (with_reducible repeat (first | refine blk_drewN ?_ _ | refine blk_drew ?_ | refine blk_alloc ?_ _)); exact BK290.out))⟩; have n3_ : Aside0 (w34.heap[gb297]? = some (.cells #[.int .i64 ((rd_T23 l2 x32_1).f0), .int .i64 ((rd_T23 l2 x32_1).f1), .int .i64 ((rd_T23 l2 x32_1).f2), .int .i64 ((rd_T23 l2 x32_1).f3), .int .i64 ((rd_T23 l2 x32_1).f4), .int .i64 ((rd_T23 l2 x32_1).f5), .bool ((rd_T23 l2 x32_1).f6), .int .i64 ((rd_T23 l2 x32_1).f7), .int .i64 ((rd_T23 l2 x32_1).f8), .int .i64 ((rd_T23 l2 x32_1).f9), .int .i64 ((rd_T23 l2 x32_1).f10), .int .i64 ((rd_T23 l2 x32_1).f11), .int .i64 ((rd_T23 l2 x32_1).f12)] 23 (0, 0))) := ⟨(by rw [hw]; exact (by (with_reducible repeat (first | refine blk_drewN ?_ _ | refine blk_drew ?_ | refine blk_alloc ?_ _)); apply blk_put13b; (with_reducible repeat (first | refine blk_drewN ?_ _ | refine blk_drew ?_ | refine blk_alloc ?_ _)); exact BK297.out))⟩; have n4_ : Aside0 (Below w.heap.size w w34) := ⟨(by rw [hw]; exact (by exact h3q HB.out GE289.out GE290.out GE297.out))⟩; clear hw; clear HO_10; clear BK289; clear BK290; clear BK297; clear HB; have HO_10 := n0_; have BK289 := n1_; have BK290 := n2_; have BK297 := n3_; have HB := n4_; clear n0_ n1_ n2_ n3_ n4_; have hz35 := lc13 BK297.out; have p20 : 0 ≤ (x32_1 : Int) := yd; have q20 : (x32_1 : Int) < ((x10_1.length : Int) : Int) := yd; obtain ⟨go20, co20, eo20, gb20, gl20, cl20, HG20⟩ := Kd.R_form HO_10.out (by omega); (first | cases eo20 | (injection eo20 with ea_ en_ ec_; (first | subst ea_ | (injection ea_ with ea_; subst ea_)); subst ec_; clear en_)); have GB20 := am gb20; have GG20 := am HG20; clear gb20 gl20 HG20; obtain ⟨hx20_0, hf20_0⟩ := Kd.R_celln 0 HO_10.out (x32_1 : Int) p20 q20; replace p20 := eq_true p20; replace q20 := eq_true q20; obtain ⟨hy36_, hz36_⟩ := Kd.R_celln 0 HO_10.out (x32_1 : Int) (yd) (yd); have HP36 := Kd.R_putg HO_10.out (x32_1 : Int) ((rd_T23 l2 x32_1).f1)) | ((with_reducible refine gate_store (t := 2) (p := 41) rfl ?_); refine store_event (t := 2) (p := 41) (v := ?vo_w37) (w1 := (w34.setCell ⟨go20, (x32_1 : Int).toNat, none⟩ (.int .i64 ((rd_T23 l2 x32_1).f1)))) ?hg ?ho ?hn ?hr ?_; (case ho => rfl); (case hg => rfl); (case hn => rfl); (case hr => first | (go_simp; done) | (go_simp; rfl)); intro w37 hw; have hg : w34.grownBy w37 (some go20) := (by rw [hw]; exact HP36.2); have hp_ : Kd.R (Kd.int .i64) 2 w37 w.heap.size (fun _ => True) (.slice (some ⟨go20, 0, none⟩) x10_1.length co20) y298 := (by rw [hw, Ny298.out]; exact HP36.1); clear HP36; have n0_ := am (hp_); have n1_ := am (blk_grown (g := gb289) (Up.up BK289.out) hg (Kd.R_ne HO_10.out BK289.out (by decide))); have n2_ := am (blk_grown (g := gb290) (Up.up BK290.out) hg (Kd.R_ne HO_10.out BK290.out (by decide))); have n3_ := am (blk_grown (g := gb297) (Up.up BK297.out) hg (Kd.R_ne HO_10.out BK297.out (by decide))); have n4_ := am ((by rw [hw]; exact below_set (HB.out) GB20.out : Below w.heap.size w w37)); clear HO_10; clear BK289; clear BK290; clear BK297; clear HB; have HO_10 := n0_; have BK289 := n1_; have BK290 := n2_; have BK297 := n3_; have HB := n4_; clear n0_ n1_ n2_ n3_ n4_; clear hg hw hp_; have hz38 := lc13 BK297.out))
          go_roundg k1
          case measure => have := HK1.out; omega
          case rel => exact ⟨(y298), (decide (((rd_T23 l2 x32_1).f1) > 0)), (wrap64 (x32_1 + 1)), (by first | rfl | (simp; done) | (simp [*]; done)), (by first | rfl | (simp; done) | (simp [*]; done)), H', ⟨by have := HK1.out; omega⟩, ⟨by exact rq HO_10.out⟩, ⟨by exact bb BK289.out⟩, ⟨by exact bb BK290.out⟩, ⟨by exact h3q HB.out GE289.out GE290.out GE297.out⟩⟩
        ·rw [if_neg c19] at H
         exact absurd H (by simp)
       ·rw [if_neg c18] at H
        exact absurd H (by simp)
      ·rw [if_neg c17] at H
       exact absurd H (by simp)
     ·rw [if_neg c16] at H
      have c16b0 : decide (x32_1 < (l2.length : Int)) = false := decide_eq_false c16
      clear c16
      by_cases c39 : x11_1 = true
      ·subst c39
       have H1 : ((share_Split.f k1 t291 x10_1).bind fun bt299 => (some (bt299.1, bt299.2))) = some (r1, r2) := by rw [if_pos rfl] at H; exact H
       clear H
       have H := H1
       clear H1
       replace H := Option.bind_eq_some_iff.mp H
       obtain ⟨⟨t299, t300⟩, A400, H⟩ := H
       replace H : (some (t299, t300)) = some (r1, r2) := H
       have A40 := am A400
       clear A400
       simp only [Option.some.injEq, Prod.mk.injEq] at H
       obtain ⟨rfl, rfl⟩ := H
       obtain ⟨Ao41, co41, eo41⟩ := Kd.R_slice HO_10.out
       subst eo41
       go_wp2_with (first | ((with_reducible refine gate_callee (f := 52) rfl ?_); refine goesL_ (some 54) rfl rfl Try.func52 (by kernel_rfl) rfl #[.int .i64 t291, .slice Ao41 x10_1.length co41] rfl ml ?_; (with_reducible refine (share_Split.calls k1 t291 _ _ x10_1 t299 t300 _ ?side1 ?side2 A40.out).mono ?_); (case side1 => exact cq ((Kd.R_reads' HO_10.out).2.2)); (case side2 => exact (Kd.R_reads' HO_10.out).2.1); rintro e w42 ⟨v301, rfl, ho0, hb⟩; refine ⟨_, rfl, ?_⟩; have n0_ := am (Kd.R_elder' (by exact rq HO_10.out) (Kd.R_base ho0) hb); have n1_ := am (Kd.R_lower (Kd.R_new' ho0 (Kd.R_lt (by exact rq HO_10.out))) (below_size (by exact h2q HB.out GE289.out GE290.out))); have n2_ := am (blk_below (g := gb289) (Up.up BK289.out) hb); have n3_ := am (blk_below (g := gb290) (Up.up BK290.out) hb); have n4_ := am (below_step (by exact h2q HB.out GE289.out GE290.out) hb); clear HO_10; clear BK289; clear BK290; clear HB; have HO_10 := n0_; have HO302 := n1_; have BK289 := n2_; have BK290 := n3_; have HB := n4_; clear n0_ n1_ n2_ n3_ n4_; (try clear hb); (try clear hb2); (try clear hk); (try clear hi); (try clear ho0)))
       go_ret2
       exact ⟨_, er, by (with_reducible repeat (first | apply Kd.R_alloc | apply Kd.R_drewN | apply Kd.R_drew)); exact Kd.R_mono HO302.out (fun _ hk => trivial), by exact h2q HB.out GE289.out GE290.out⟩
      ·replace c39 := Bool.eq_false_iff.mpr c39
       subst c39
       have H1 : (some (x10_1, 0)) = some (r1, r2) := by rw [if_neg (show ¬ (false = true) by decide)] at H; exact H
       clear H
       have H := H1
       clear H1
       simp only [Option.some.injEq, Prod.mk.injEq] at H
       obtain ⟨rfl, rfl⟩ := H
       go_wp2
       go_ret2
       exact ⟨_, er, by (with_reducible repeat (first | apply Kd.R_alloc | apply Kd.R_drewN | apply Kd.R_drew)); exact HO_10.out, by exact h2q HB.out GE289.out GE290.out⟩
   ·rw [if_neg c7] at H
    exact absurd H (by simp)
  ·rw [if_neg c6] at H
   exact absurd H (by simp)
 ·rw [if_neg c5] at H
  have c5b0 : (t292 == 0) = false := beq_eq_false_iff_ne.mpr c5
  have c5b1 : (t292 != 0) = true := bne_iff_ne.mpr c5
  simp only [Option.some.injEq, Prod.mk.injEq] at H
  obtain ⟨rfl, rfl⟩ := H
  go_enter Try.func36, Try.ntmps36
  go_wp2_with (first | ((with_reducible refine gate_dst (N := 3) rfl ?_); refine box_event ?hg (N := 3) ?hd (cs := #[.int .i64 a0_0, .slice A0_1 l0_1.length c0_1]) (t := 51) ?hr ?_; (case hd => rfl); (case hg => rfl); (case hr => first | (go_simp; done) | (go_simp; rfl)); intro gb289 hg w43 hbox hb; have n0_ := am (below_step (by exact h0q HB.out) hb); have n1_ := am (hbox); have n2_ := am ((by rw [hg]; exact (below_size (by exact h0q HB.out)) : w.heap.size ≤ gb289)); have n3_ := am ((by rw [hg]; exact (below_size (by exact h0q HB.out)) : w.heap.size ≤ gb289)); clear HB; have HB := n0_; have BK289 := n1_; have GW289 := n2_; have GE289 := n3_; clear n0_ n1_ n2_ n3_; clear hb hbox hg) | ((with_reducible refine gate_dst (N := 4) rfl ?_); refine box_event ?hg (N := 4) ?hd (cs := #[.int .i64 a1_0, .slice A1_1 l1_1.length c1_1, .int .i64 a1_2, .int .i64 a1_3, .int .i64 a1_4, .int .i64 a1_5, .slice A1_6 l1_6.length c1_6, .int .i64 a1_7, .int .i64 a1_8, .int .i64 a1_9, .int .i64 a1_10, .int .i64 a1_11, .int .i64 a1_12]) (t := 38) ?hr ?_; (case hd => rfl); (case hg => rfl); (case hr => first | (go_simp; done) | (go_simp; rfl)); intro gb290 hg w44 hbox hb; have n0_ := am (blk_below (g := gb289) (Up.up BK289.out) hb); have n1_ := am (below_step (by exact h1q HB.out GE289.out) hb); have n2_ := am (hbox); have n3_ := am ((by rw [hg]; exact (below_size (by exact h1q HB.out GE289.out)) : w.heap.size ≤ gb290)); have n4_ := am ((by rw [hg]; exact (below_size (by exact h1q HB.out GE289.out)) : w.heap.size ≤ gb290)); have n5_ := am ((by rw [hg]; exact Nat.ne_of_lt (blk_lt (g := gb289) (Up.up BK289.out)) : gb289 ≠ gb290)); have n6_ := am ((by rw [hg]; exact Nat.ne_of_gt (blk_lt (g := gb289) (Up.up BK289.out)) : gb290 ≠ gb289)); clear BK289; clear HB; have BK289 := n0_; have HB := n1_; have BK290 := n2_; have GW290 := n3_; have GE290 := n4_; have NB289_290 := n5_; have NB290_289 := n6_; clear n0_ n1_ n2_ n3_ n4_ n5_ n6_; clear hb hbox hg; have hnb45 := NB289_290.out; have hnc45 := NB290_289.out; have hcz46_0 : w44.cell? ⟨gb289, 0, none⟩ = some (.int .i64 a0_0) := (blk_cell BK289.out 0).trans rfl; have hcz46_1 : w44.cell? ⟨gb289, 1, none⟩ = some (.slice A0_1 l0_1.length c0_1) := (blk_cell BK289.out 1).trans rfl; have hfz46_0 := blk_frozen BK289.out 0; have hfz46_1 := blk_frozen BK289.out 1; have hz47 := lc13 BK290.out) | ((with_reducible refine gate_callee (f := 51) rfl ?_); refine goesL_ (some 21) rfl rfl Try.func51 (by kernel_rfl) rfl #[.slice A0_1 l0_1.length c0_1, .int .i64 a1_5, .int .i64 a1_4] rfl ml ?_; (with_reducible refine (income_Ask.calls k _ _ l0_1 a1_5 a1_4 t291 t292 _ ?side1 ?side2 A4.out).mono ?_); (case side1 => exact cq ((Kd.C_below HR0_1.out HB.out))); (case side2 => exact HC0_1.out); rintro e w48 ⟨rfl, hb⟩; refine ⟨_, rfl, ?_⟩; have n0_ := am (blk_below (g := gb289) (Up.up BK289.out) hb); have n1_ := am (blk_below (g := gb290) (Up.up BK290.out) hb); have n2_ := am (below_step (by exact h2q HB.out GE289.out GE290.out) hb); clear BK289; clear BK290; clear HB; have BK289 := n0_; have BK290 := n1_; have HB := n2_; clear n0_ n1_ n2_; (try clear hb); (try clear hb2); (try clear hk); (try clear hi)))
  go_ret2
  exact ⟨_, er, by first | exact Kd.R_nil _ _ _ _ _ | exact Kd.N_nil _ _ _ _ _ | exact Kd.V_nil _ _ _ _ _ | exact Kd.Q_nil _ _ _ _ _ | exact Kd.S_nil _ _ _ _ _, by exact h2q HB.out GE289.out GE290.out⟩
end Go.Proofs.Ytlhcohipnieidaa.P
