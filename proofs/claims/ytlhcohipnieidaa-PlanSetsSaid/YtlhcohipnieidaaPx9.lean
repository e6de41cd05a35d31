/- Functions of the program as plain Lean functions (several texts as one). -/
import Derived.Test.YtlhcohipnieidaaZaa
import Derived.Test.YtlhcohipnieidaaZsu
import Derived.Test.YtlhcohipnieidaaPx0
import Derived.Test.YtlhcohipnieidaaPx1
namespace Go.Proofs.Ytlhcohipnieidaa.P
open Go.RowKit Go.Proofs.YtlhcohipnieidaaW.PrintWords Go.Proofs.YtlhcohipnieidaaW.PrintLast Go.Proofs.YtlhcohipnieidaaW.PrintMore
attribute [local go_sem] max2_int min2_int max_two min_two max_three min_three max_four min_four   -- for this text's walks alone
set_option linter.unusedVariables false
set_option linter.unusedSimpArgs false
def plan_Set.f (k : Nat) (a0_0 : Int) (a0_1 : Int) (a0_2 : Int) (a0_3 : Int) (a0_4 : Int) (a0_5 : Int) (a0_6 : Bool) (a0_7 : Int) (a0_8 : Int) (a0_9 : Int) (a0_10 : Int) (a0_11 : Int) (a0_12 : Int) : Option (Int × Int × Int × Int × Int × Int × Bool × Int × Int × Int × Int × Int × Int × Int) := (loan_Good.f k a0_0 a0_1 a0_2 a0_3 a0_4 a0_5 a0_6 a0_7 a0_8 a0_9 a0_10 a0_11 a0_12).bind fun t136 => (if t136 = true then (if a0_8 = 0 then ((level_Of.f k a0_1 a0_5 120).bind fun bt137 => (if bt137.2 = 0 then ((level_Of.f k a0_1 a0_5 300).bind fun bt139 => (if bt139.2 = 0 then (some (a0_0, a0_1, a0_2, a0_3, a0_4, a0_5, a0_6, a0_7, a0_8, a0_9, bt137.1, bt139.1, a0_12, 0)) else (some (0, 0, 0, 0, 0, 0, false, 0, 0, 0, 0, 0, 0, bt139.2)))) else (some (0, 0, 0, 0, 0, 0, false, 0, 0, 0, 0, 0, 0, bt137.2)))) else (some (0, 0, 0, 0, 0, 0, false, 0, 0, 0, 0, 0, 0, 61))) else (some (0, 0, 0, 0, 0, 0, false, 0, 0, 0, 0, 0, 0, 1)))
set_option maxHeartbeats 8000000 in
set_option maxRecDepth 100000 in
theorem plan_Set.calls (k : Nat) (a0_0 : Int) (a0_1 : Int) (a0_2 : Int) (a0_3 : Int) (a0_4 : Int) (a0_5 : Int) (a0_6 : Bool) (a0_7 : Int) (a0_8 : Int) (a0_9 : Int) (a0_10 : Int) (a0_11 : Int) (a0_12 : Int) (r1 : Int) (r2 : Int) (r3 : Int) (r4 : Int) (r5 : Int) (r6 : Int) (r7 : Bool) (r8 : Int) (r9 : Int) (r10 : Int) (r11 : Int) (r12 : Int) (r13 : Int) (r14 : Int) (w : World) (h : plan_Set.f k a0_0 a0_1 a0_2 a0_3 a0_4 a0_5 a0_6 a0_7 a0_8 a0_9 a0_10 a0_11 a0_12 = some (r1, r2, r3, r4, r5, r6, r7, r8, r9, r10, r11, r12, r13, r14)) :
  Calls Try.prog 5 #[.agg #[.int .i64 a0_0, .int .i64 a0_1, .int .i64 a0_2, .int .i64 a0_3, .int .i64 a0_4, .int .i64 a0_5, .bool a0_6, .int .i64 a0_7, .int .i64 a0_8, .int .i64 a0_9, .int .i64 a0_10, .int .i64 a0_11, .int .i64 a0_12]] w fun e w' => e = .returned (.tuple #[.agg #[.int .i64 r1, .int .i64 r2, .int .i64 r3, .int .i64 r4, .int .i64 r5, .int .i64 r6, .bool r7, .int .i64 r8, .int .i64 r9, .int .i64 r10, .int .i64 r11, .int .i64 r12, .int .i64 r13], .int .i64 r14]) ∧ Below w.heap.size w w' := by
 have hu23 := Try.underlying23
 have HB := am (Below.refl w.heap.size w)
 have H : ((loan_Good.f k a0_0 a0_1 a0_2 a0_3 a0_4 a0_5 a0_6 a0_7 a0_8 a0_9 a0_10 a0_11 a0_12).bind fun t136 => (if t136 = true then (if a0_8 = 0 then ((level_Of.f k a0_1 a0_5 120).bind fun bt137 => (if bt137.2 = 0 then ((level_Of.f k a0_1 a0_5 300).bind fun bt139 => (if bt139.2 = 0 then (some (a0_0, a0_1, a0_2, a0_3, a0_4, a0_5, a0_6, a0_7, a0_8, a0_9, bt137.1, bt139.1, a0_12, 0)) else (some (0, 0, 0, 0, 0, 0, false, 0, 0, 0, 0, 0, 0, bt139.2)))) else (some (0, 0, 0, 0, 0, 0, false, 0, 0, 0, 0, 0, 0, bt137.2)))) else (some (0, 0, 0, 0, 0, 0, false, 0, 0, 0, 0, 0, 0, 61))) else (some (0, 0, 0, 0, 0, 0, false, 0, 0, 0, 0, 0, 0, 1)))) = some (r1, r2, r3, r4, r5, r6, r7, r8, r9, r10, r11, r12, r13, r14) := h
 clear h
 replace H := Option.bind_eq_some_iff.mp H
 obtain ⟨t136, A20, H⟩ := H
 replace H : (if t136 = true then (if a0_8 = 0 then ((level_Of.f k a0_1 a0_5 120).bind fun bt137 => (if bt137.2 = 0 then ((level_Of.f k a0_1 a0_5 300).bind fun bt139 => (if bt139.2 = 0 then (some (a0_0, a0_1, a0_2, a0_3, a0_4, a0_5, a0_6, a0_7, a0_8, a0_9, bt137.1, bt139.1, a0_12, 0)) else (some (0, 0, 0, 0, 0, 0, false, 0, 0, 0, 0, 0, 0, bt139.2)))) else (some (0, 0, 0, 0, 0, 0, false, 0, 0, 0, 0, 0, 0, bt137.2)))) else (some (0, 0, 0, 0, 0, 0, false, 0, 0, 0, 0, 0, 0, 61))) else (some (0, 0, 0, 0, 0, 0, false, 0, 0, 0, 0, 0, 0, 1))) = some (r1, r2, r3, r4, r5, r6, r7, r8, r9, r10, r11, r12, r13, r14) := H
 have A2 := am A20
 clear A20
 by_cases c3 : t136 = true
 ·subst c3
  have H1 : (if a0_8 = 0 then ((level_Of.f k a0_1 a0_5 120).bind fun bt137 => (if bt137.2 = 0 then ((level_Of.f k a0_1 a0_5 300).bind fun bt139 => (if bt139.2 = 0 then (some (a0_0, a0_1, a0_2, a0_3, a0_4, a0_5, a0_6, a0_7, a0_8, a0_9, bt137.1, bt139.1, a0_12, 0)) else (some (0, 0, 0, 0, 0, 0, false, 0, 0, 0, 0, 0, 0, bt139.2)))) else (some (0, 0, 0, 0, 0, 0, false, 0, 0, 0, 0, 0, 0, bt137.2)))) else (some (0, 0, 0, 0, 0, 0, false, 0, 0, 0, 0, 0, 0, 61))) = some (r1, r2, r3, r4, r5, r6, r7, r8, r9, r10, r11, r12, r13, r14) := by rw [if_pos rfl] at H; exact H
  clear H
  have H := H1
  clear H1
  by_cases c4 : a0_8 = 0
  ·rw [if_pos c4] at H
   have c4b0 : (a0_8 == 0) = true := beq_iff_eq.mpr c4
   have c4b1 : (a0_8 != 0) = false := bne_eq_false_iff_eq.mpr c4
   clear c4
   replace H := Option.bind_eq_some_iff.mp H
   obtain ⟨⟨t137, t138⟩, A50, H⟩ := H
   replace H : (if t138 = 0 then ((level_Of.f k a0_1 a0_5 300).bind fun bt139 => (if bt139.2 = 0 then (some (a0_0, a0_1, a0_2, a0_3, a0_4, a0_5, a0_6, a0_7, a0_8, a0_9, t137, bt139.1, a0_12, 0)) else (some (0, 0, 0, 0, 0, 0, false, 0, 0, 0, 0, 0, 0, bt139.2)))) else (some (0, 0, 0, 0, 0, 0, false, 0, 0, 0, 0, 0, 0, t138))) = some (r1, r2, r3, r4, r5, r6, r7, r8, r9, r10, r11, r12, r13, r14) := H
   have A5 := am A50
   clear A50
   by_cases c6 : t138 = 0
   ·rw [if_pos c6] at H
    have c6b0 : (t138 == 0) = true := beq_iff_eq.mpr c6
    have c6b1 : (t138 != 0) = false := bne_eq_false_iff_eq.mpr c6
    clear c6
    replace H := Option.bind_eq_some_iff.mp H
    obtain ⟨⟨t139, t140⟩, A70, H⟩ := H
    replace H : (if t140 = 0 then (some (a0_0, a0_1, a0_2, a0_3, a0_4, a0_5, a0_6, a0_7, a0_8, a0_9, t137, t139, a0_12, 0)) else (some (0, 0, 0, 0, 0, 0, false, 0, 0, 0, 0, 0, 0, t140))) = some (r1, r2, r3, r4, r5, r6, r7, r8, r9, r10, r11, r12, r13, r14) := H
    have A7 := am A70
    clear A70
    by_cases c8 : t140 = 0
    ·rw [if_pos c8] at H
     have c8b0 : (t140 == 0) = true := beq_iff_eq.mpr c8
     have c8b1 : (t140 != 0) = false := bne_eq_false_iff_eq.mpr c8
     clear c8
     simp only [Option.some.injEq, Prod.mk.injEq] at H
     obtain ⟨rfl, rfl, rfl, rfl, rfl, rfl, rfl, rfl, rfl, rfl, rfl, rfl, rfl, rfl⟩ := H
     go_enter Try.func5, Try.ntmps5
     go_wp2_with (first | ((with_reducible refine gate_dst (N := 1) rfl ?_); refine box_event ?hg (N := 1) ?hd (cs := #[.int .i64 a0_0, .int .i64 a0_1, .int .i64 a0_2, .int .i64 a0_3, .int .i64 a0_4, .int .i64 a0_5, .bool a0_6, .int .i64 a0_7, .int .i64 a0_8, .int .i64 a0_9, .int .i64 a0_10, .int .i64 a0_11, .int .i64 a0_12]) (t := 23) ?hr ?_; (case hd => rfl); (case hg => rfl); (case hr => first | (go_simp; done) | (go_simp; rfl)); intro gb134 hg w9 hbox hb; have n0_ := am (below_step (by exact h0q HB.out) hb); have n1_ := am (hbox); have n2_ := am ((by rw [hg]; exact (below_size (by exact h0q HB.out)) : w.heap.size ≤ gb134)); have n3_ := am ((by rw [hg]; exact (below_size (by exact h0q HB.out)) : w.heap.size ≤ gb134)); clear HB; have HB := n0_; have BK134 := n1_; have GW134 := n2_; have GE134 := n3_; clear n0_ n1_ n2_ n3_; clear hb hbox hg) | ((with_reducible refine gate_dst (N := 2) rfl ?_); refine box_event ?hg (N := 2) ?hd (cs := #[.int .i64 0, .int .i64 0, .int .i64 0, .int .i64 0, .int .i64 0, .int .i64 0, .bool false, .int .i64 0, .int .i64 0, .int .i64 0, .int .i64 0, .int .i64 0, .int .i64 0]) (t := 23) ?hr ?_; (case hd => rfl); (case hg => rfl); (case hr => first | (go_simp; done) | (go_simp; rfl)); intro gb135 hg w10 hbox hb; have n0_ := am (blk_below (g := gb134) (Up.up BK134.out) hb); have n1_ := am (below_step (by exact h1q HB.out GE134.out) hb); have n2_ := am (hbox); have n3_ := am ((by rw [hg]; exact (below_size (by exact h1q HB.out GE134.out)) : w.heap.size ≤ gb135)); have n4_ := am ((by rw [hg]; exact (below_size (by exact h1q HB.out GE134.out)) : w.heap.size ≤ gb135)); have n5_ := am ((by rw [hg]; exact Nat.ne_of_lt (blk_lt (g := gb134) (Up.up BK134.out)) : gb134 ≠ gb135)); have n6_ := am ((by rw [hg]; exact Nat.ne_of_gt (blk_lt (g := gb134) (Up.up BK134.out)) : gb135 ≠ gb134)); clear BK134; clear HB; have BK134 := n0_; have HB := n1_; have BK135 := n2_; have GW135 := n3_; have GE135 := n4_; have NB134_135 := n5_; have NB135_134 := n6_; clear n0_ n1_ n2_ n3_ n4_ n5_ n6_; clear hb hbox hg; have hnb11 := NB134_135.out; have hnc11 := NB135_134.out; have hz12 := lc13 BK134.out) | ((with_reducible refine gate_callee (f := 11) rfl ?_); refine goesL_ (some 9) rfl rfl Try.func11 (by kernel_rfl) rfl #[.agg #[.int .i64 a0_0, .int .i64 a0_1, .int .i64 a0_2, .int .i64 a0_3, .int .i64 a0_4, .int .i64 a0_5, .bool a0_6, .int .i64 a0_7, .int .i64 a0_8, .int .i64 a0_9, .int .i64 a0_10, .int .i64 a0_11, .int .i64 a0_12]] rfl ml ?_; (with_reducible refine (loan_Good.calls k a0_0 a0_1 a0_2 a0_3 a0_4 a0_5 a0_6 a0_7 a0_8 a0_9 a0_10 a0_11 a0_12 true _ A2.out).mono ?_); rintro e w13 ⟨rfl, hb⟩; refine ⟨_, rfl, ?_⟩; have n0_ := am (blk_below (g := gb134) (Up.up BK134.out) hb); have n1_ := am (blk_below (g := gb135) (Up.up BK135.out) hb); have n2_ := am (below_step (by exact h2q HB.out GE134.out GE135.out) hb); clear BK134; clear BK135; clear HB; have BK134 := n0_; have BK135 := n1_; have HB := n2_; clear n0_ n1_ n2_; (try clear hb); (try clear hb2); (try clear hk); (try clear hi); have hz14 := lc13 BK134.out) | ((with_reducible refine gate_callee (f := 12) rfl ?_); refine goesL_ (some 22) rfl rfl Try.func12 (by kernel_rfl) rfl #[.int .i64 a0_1, .int .i64 a0_5, .int .i64 120] rfl ml ?_; (with_reducible refine (level_Of.calls k a0_1 a0_5 120 t137 t138 _ A5.out).mono ?_); rintro e w15 ⟨rfl, hb⟩; refine ⟨_, rfl, ?_⟩; have n0_ := am (blk_below (g := gb134) (Up.up BK134.out) hb); have n1_ := am (blk_below (g := gb135) (Up.up BK135.out) hb); have n2_ := am (below_step (by exact h2q HB.out GE134.out GE135.out) hb); clear BK134; clear BK135; clear HB; have BK134 := n0_; have BK135 := n1_; have HB := n2_; clear n0_ n1_ n2_; (try clear hb); (try clear hb2); (try clear hk); (try clear hi); have hz16 := lc13 BK134.out) | ((with_reducible refine gate_callee (f := 12) rfl ?_); refine goesL_ (some 34) rfl rfl Try.func12 (by kernel_rfl) rfl #[.int .i64 a0_1, .int .i64 a0_5, .int .i64 300] rfl ml ?_; (with_reducible refine (level_Of.calls k a0_1 a0_5 300 t139 t140 _ A7.out).mono ?_); rintro e w17 ⟨rfl, hb⟩; refine ⟨_, rfl, ?_⟩; have n0_ := am (blk_below (g := gb134) (Up.up BK134.out) hb); have n1_ := am (blk_below (g := gb135) (Up.up BK135.out) hb); have n2_ := am (below_step (by exact h2q HB.out GE134.out GE135.out) hb); clear BK134; clear BK135; clear HB; have BK134 := n0_; have BK135 := n1_; have HB := n2_; clear n0_ n1_ n2_; (try clear hb); (try clear hb2); (try clear hk); (try clear hi); have hz18 := lc13 BK134.out; have hz19 := lc13 BK135.out))
     refine bodyPost_ret (results_ct rfl _ _ gb135 23 #[.int .i64 a0_0, .int .i64 a0_1, .int .i64 a0_2, .int .i64 a0_3, .int .i64 a0_4, .int .i64 a0_5, .bool a0_6, .int .i64 a0_7, .int .i64 a0_8, .int .i64 a0_9, .int .i64 t137, .int .i64 t139, .int .i64 a0_12] (0, 0) _ rfl (by (with_reducible repeat (first | refine blk_drewN ?_ _ | refine blk_drew ?_ | refine blk_alloc ?_ _)); apply blk_put13b; (iterate 2 ((with_reducible repeat (first | refine blk_drewN ?_ _ | refine blk_drew ?_ | refine blk_alloc ?_ _)); refine blk_far ?_ NB135_134.out _)); (with_reducible repeat (first | refine blk_drewN ?_ _ | refine blk_drew ?_ | refine blk_alloc ?_ _)); exact BK135.out) Try.underlying23 rfl (by kernel_rfl)) rfl ?_
     exact ⟨er, by exact h2q HB.out GE134.out GE135.out⟩
    ·rw [if_neg c8] at H
     have c8b0 : (t140 == 0) = false := beq_eq_false_iff_ne.mpr c8
     have c8b1 : (t140 != 0) = true := bne_iff_ne.mpr c8
     simp only [Option.some.injEq, Prod.mk.injEq] at H
     obtain ⟨rfl, rfl, rfl, rfl, rfl, rfl, rfl, rfl, rfl, rfl, rfl, rfl, rfl, rfl⟩ := H
     go_enter Try.func5, Try.ntmps5
     go_wp2_with (first | ((with_reducible refine gate_dst (N := 1) rfl ?_); refine box_event ?hg (N := 1) ?hd (cs := #[.int .i64 a0_0, .int .i64 a0_1, .int .i64 a0_2, .int .i64 a0_3, .int .i64 a0_4, .int .i64 a0_5, .bool a0_6, .int .i64 a0_7, .int .i64 a0_8, .int .i64 a0_9, .int .i64 a0_10, .int .i64 a0_11, .int .i64 a0_12]) (t := 23) ?hr ?_; (case hd => rfl); (case hg => rfl); (case hr => first | (go_simp; done) | (go_simp; rfl)); intro gb134 hg w20 hbox hb; have n0_ := am (below_step (by exact h0q HB.out) hb); have n1_ := am (hbox); have n2_ := am ((by rw [hg]; exact (below_size (by exact h0q HB.out)) : w.heap.size ≤ gb134)); have n3_ := am ((by rw [hg]; exact (below_size (by exact h0q HB.out)) : w.heap.size ≤ gb134)); clear HB; have HB := n0_; have BK134 := n1_; have GW134 := n2_; have GE134 := n3_; clear n0_ n1_ n2_ n3_; clear hb hbox hg) | ((with_reducible refine gate_dst (N := 2) rfl ?_); refine box_event ?hg (N := 2) ?hd (cs := #[.int .i64 0, .int .i64 0, .int .i64 0, .int .i64 0, .int .i64 0, .int .i64 0, .bool false, .int .i64 0, .int .i64 0, .int .i64 0, .int .i64 0, .int .i64 0, .int .i64 0]) (t := 23) ?hr ?_; (case hd => rfl); (case hg => rfl); (case hr => first | (go_simp; done) | (go_simp; rfl)); intro gb135 hg w21 hbox hb; have n0_ := am (blk_below (g := gb134) (Up.up BK134.out) hb); have n1_ := am (below_step (by exact h1q HB.out GE134.out) hb); have n2_ := am (hbox); have n3_ := am ((by rw [hg]; exact (below_size (by exact h1q HB.out GE134.out)) : w.heap.size ≤ gb135)); have n4_ := am ((by rw [hg]; exact (below_size (by exact h1q HB.out GE134.out)) : w.heap.size ≤ gb135)); have n5_ := am ((by rw [hg]; exact Nat.ne_of_lt (blk_lt (g := gb134) (Up.up BK134.out)) : gb134 ≠ gb135)); have n6_ := am ((by rw [hg]; exact Nat.ne_of_gt (blk_lt (g := gb134) (Up.up BK134.out)) : gb135 ≠ gb134)); clear BK134; clear HB; have BK134 := n0_; have HB := n1_; have BK135 := n2_; have GW135 := n3_; have GE135 := n4_; have NB134_135 := n5_; have NB135_134 := n6_; clear n0_ n1_ n2_ n3_ n4_ n5_ n6_; clear hb hbox hg; have hnb22 := NB134_135.out; have hnc22 := NB135_134.out; have hz23 := lc13 BK134.out) | ((with_reducible refine gate_callee (f := 11) rfl ?_); refine goesL_ (some 9) rfl rfl Try.func11 (by kernel_rfl) rfl #[.agg #[.int .i64 a0_0, .int .i64 a0_1, .int .i64 a0_2, .int .i64 a0_3, .int .i64 a0_4, .int .i64 a0_5, .bool a0_6, .int .i64 a0_7, .int .i64 a0_8, .int .i64 a0_9, .int .i64 a0_10, .int .i64 a0_11, .int .i64 a0_12]] rfl ml ?_; (with_reducible refine (loan_Good.calls k a0_0 a0_1 a0_2 a0_3 a0_4 a0_5 a0_6 a0_7 a0_8 a0_9 a0_10 a0_11 a0_12 true _ A2.out).mono ?_); rintro e w24 ⟨rfl, hb⟩; refine ⟨_, rfl, ?_⟩; have n0_ := am (blk_below (g := gb134) (Up.up BK134.out) hb); have n1_ := am (blk_below (g := gb135) (Up.up BK135.out) hb); have n2_ := am (below_step (by exact h2q HB.out GE134.out GE135.out) hb); clear BK134; clear BK135; clear HB; have BK134 := n0_; have BK135 := n1_; have HB := n2_; clear n0_ n1_ n2_; (try clear hb); (try clear hb2); (try clear hk); (try clear hi); have hz25 := lc13 BK134.out) | ((with_reducible refine gate_callee (f := 12) rfl ?_); refine goesL_ (some 22) rfl rfl Try.func12 (by kernel_rfl) rfl #[.int .i64 a0_1, .int .i64 a0_5, .int .i64 120] rfl ml ?_; (with_reducible refine (level_Of.calls k a0_1 a0_5 120 t137 t138 _ A5.out).mono ?_); rintro e w26 ⟨rfl, hb⟩; refine ⟨_, rfl, ?_⟩; have n0_ := am (blk_below (g := gb134) (Up.up BK134.out) hb); have n1_ := am (blk_below (g := gb135) (Up.up BK135.out) hb); have n2_ := am (below_step (by exact h2q HB.out GE134.out GE135.out) hb); clear BK134; clear BK135; clear HB; have BK134 := n0_; have BK135 := n1_; have HB := n2_; clear n0_ n1_ n2_; (try clear hb); (try clear hb2); (try clear hk); (try clear hi); have hz27 := lc13 BK134.out) | ((with_reducible refine gate_callee (f := 12) rfl ?_); refine goesL_ (some 34) rfl rfl Try.func12 (by kernel_rfl) rfl #[.int .i64 a0_1, .int .i64 a0_5, .int .i64 300] rfl ml ?_; (with_reducible refine (level_Of.calls k a0_1 a0_5 300 t139 t140 _ A7.out).mono ?_); rintro e w28 ⟨rfl, hb⟩; refine ⟨_, rfl, ?_⟩; have n0_ := am (blk_below (g := gb134) (Up.up BK134.out) hb); have n1_ := am (blk_below (g := gb135) (Up.up BK135.out) hb); have n2_ := am (below_step (by exact h2q HB.out GE134.out GE135.out) hb); clear BK134; clear BK135; clear HB; have BK134 := n0_; have BK135 := n1_; have HB := n2_; clear n0_ n1_ n2_; (try clear hb); (try clear hb2); (try clear hk); (try clear hi); have hz29 := lc13 BK135.out))
     refine bodyPost_ret (results_ct rfl _ _ gb135 23 #[.int .i64 0, .int .i64 0, .int .i64 0, .int .i64 0, .int .i64 0, .int .i64 0, .bool false, .int .i64 0, .int .i64 0, .int .i64 0, .int .i64 0, .int .i64 0, .int .i64 0] (0, 0) _ rfl (by (with_reducible repeat (first | refine blk_drewN ?_ _ | refine blk_drew ?_ | refine blk_alloc ?_ _)); apply blk_put13b; (with_reducible repeat (first | refine blk_drewN ?_ _ | refine blk_drew ?_ | refine blk_alloc ?_ _)); exact BK135.out) Try.underlying23 rfl (by kernel_rfl)) rfl ?_
     exact ⟨er, by exact h2q HB.out GE134.out GE135.out⟩
   ·rw [if_neg c6] at H
    have c6b0 : (t138 == 0) = false := beq_eq_false_iff_ne.mpr c6
    have c6b1 : (t138 != 0) = true := bne_iff_ne.mpr c6
    simp only [Option.some.injEq, Prod.mk.injEq] at H
    obtain ⟨rfl, rfl, rfl, rfl, rfl, rfl, rfl, rfl, rfl, rfl, rfl, rfl, rfl, rfl⟩ := H
    go_enter Try.func5, Try.ntmps5
    go_wp2_with (first | ((with_reducible refine gate_dst (N := 1) rfl ?_); refine box_event ?hg (N := 1) ?hd (cs := #[.int .i64 a0_0, .int .i64 a0_1, .int .i64 a0_2, .int .i64 a0_3, .int .i64 a0_4, .int .i64 a0_5, .bool a0_6, .int .i64 a0_7, .int .i64 a0_8, .int .i64 a0_9, .int .i64 a0_10, .int .i64 a0_11, .int .i64 a0_12]) (t := 23) ?hr ?_; (case hd => rfl); (case hg => rfl); (case hr => first | (go_simp; done) | (go_simp; rfl)); intro gb134 hg w30 hbox hb; have n0_ := am (below_step (by exact h0q HB.out) hb); have n1_ := am (hbox); have n2_ := am ((by rw [hg]; exact (below_size (by exact h0q HB.out)) : w.heap.size ≤ gb134)); have n3_ := am ((by rw [hg]; exact (below_size (by exact h0q HB.out)) : w.heap.size ≤ gb134)); clear HB; have HB := n0_; have BK134 := n1_; have GW134 := n2_; have GE134 := n3_; clear n0_ n1_ n2_ n3_; clear hb hbox hg) | ((with_reducible refine gate_dst (N := 2) rfl ?_); refine box_event ?hg (N := 2) ?hd (cs := #[.int .i64 0, .int .i64 0, .int .i64 0, .int .i64 0, .int .i64 0, .int .i64 0, .bool false, .int .i64 0, .int .i64 0, .int .i64 0, .int .i64 0, .int .i64 0, .int .i64 0]) (t := 23) ?hr ?_; (case hd => rfl); (case hg => rfl); (case hr => first | (go_simp; done) | (go_simp; rfl)); intro gb135 hg w31 hbox hb; have n0_ := am (blk_below (g := gb134) (Up.up BK134.out) hb); have n1_ := am (below_step (by exact h1q HB.out GE134.out) hb); have n2_ := am (hbox); have n3_ := am ((by rw [hg]; exact (below_size (by exact h1q HB.out GE134.out)) : w.heap.size ≤ gb135)); have n4_ := am ((by rw [hg]; exact (below_size (by exact h1q HB.out GE134.out)) : w.heap.size ≤ gb135)); have n5_ := am ((by rw [hg]; exact Nat.ne_of_lt (blk_lt (g := gb134) (Up.up BK134.out)) : gb134 ≠ gb135)); have n6_ := am ((by rw [hg]; exact Nat.ne_of_gt (blk_lt (g := gb134) (Up.up BK134.out)) : gb135 ≠ gb134)); clear BK134; clear HB; have BK134 := n0_; have HB := n1_; have BK135 := n2_; have GW135 := n3_; have GE135 := n4_; have NB134_135 := n5_; have NB135_134 := n6_; clear n0_ n1_ n2_ n3_ n4_ n5_ n6_; clear hb hbox hg; have hnb32 := NB134_135.out; have hnc32 := NB135_134.out; have hz33 := lc13 BK134.out) | ((with_reducible refine gate_callee (f := 11) rfl ?_); refine goesL_ (some 9) rfl rfl Try.func11 (by kernel_rfl) rfl #[.agg #[.int .i64 a0_0, .int .i64 a0_1, .int .i64 a0_2, .int .i64 a0_3, .int .i64 a0_4, .int .i64 a0_5, .bool a0_6, .int .i64 a0_7, .int .i64 a0_8, .int .i64 a0_9, .int .i64 a0_10, .int .i64 a0_11, .int .i64 a0_12]] rfl ml ?_; (with_reducible refine (loan_Good.calls k a0_0 a0_1 a0_2 a0_3 a0_4 a0_5 a0_6 a0_7 a0_8 a0_9 a0_10 a0_11 a0_12 true _ A2.out).mono ?_); rintro e w34 ⟨rfl, hb⟩; refine ⟨_, rfl, ?_⟩; have n0_ := am (blk_below (g := gb134) (Up.up BK134.out) hb); have n1_ := am (blk_below (g := gb135) (Up.up BK135.out) hb); have n2_ := am (below_step (by exact h2q HB.out GE134.out GE135.out) hb); clear BK134; clear BK135; clear HB; have BK134 := n0_; have BK135 := n1_; have HB := n2_; clear n0_ n1_ n2_; (try clear hb); (try clear hb2); (try clear hk); (try clear hi); have hz35 := lc13 BK134.out) | ((with_reducible refine gate_callee (f := 12) rfl ?_); refine goesL_ (some 22) rfl rfl Try.func12 (by kernel_rfl) rfl #[.int .i64 a0_1, .int .i64 a0_5, .int .i64 120] rfl ml ?_; (with_reducible refine (level_Of.calls k a0_1 a0_5 120 t137 t138 _ A5.out).mono ?_); rintro e w36 ⟨rfl, hb⟩; refine ⟨_, rfl, ?_⟩; have n0_ := am (blk_below (g := gb134) (Up.up BK134.out) hb); have n1_ := am (blk_below (g := gb135) (Up.up BK135.out) hb); have n2_ := am (below_step (by exact h2q HB.out GE134.out GE135.out) hb); clear BK134; clear BK135; clear HB; have BK134 := n0_; have BK135 := n1_; have HB := n2_; clear n0_ n1_ n2_; (try clear hb); (try clear hb2); (try clear hk); (try clear hi); have hz37 := lc13 BK135.out))
    refine bodyPost_ret (results_ct rfl _ _ gb135 23 #[.int .i64 0, .int .i64 0, .int .i64 0, .int .i64 0, .int .i64 0, .int .i64 0, .bool false, .int .i64 0, .int .i64 0, .int .i64 0, .int .i64 0, .int .i64 0, .int .i64 0] (0, 0) _ rfl (by (with_reducible repeat (first | refine blk_drewN ?_ _ | refine blk_drew ?_ | refine blk_alloc ?_ _)); apply blk_put13b; (with_reducible repeat (first | refine blk_drewN ?_ _ | refine blk_drew ?_ | refine blk_alloc ?_ _)); exact BK135.out) Try.underlying23 rfl (by kernel_rfl)) rfl ?_
    exact ⟨er, by exact h2q HB.out GE134.out GE135.out⟩
  ·rw [if_neg c4] at H
   have c4b0 : (a0_8 == 0) = false := beq_eq_false_iff_ne.mpr c4
   have c4b1 : (a0_8 != 0) = true := bne_iff_ne.mpr c4
   simp only [Option.some.injEq, Prod.mk.injEq] at H
   obtain ⟨rfl, rfl, rfl, rfl, rfl, rfl, rfl, rfl, rfl, rfl, rfl, rfl, rfl, rfl⟩ := H
   go_enter Try.func5, Try.ntmps5
   go_wp2_with (first | ((with_reducible refine gate_dst (N := 1) rfl ?_); refine box_event ?hg (N := 1) ?hd (cs := #[.int .i64 a0_0, .int .i64 a0_1, .int .i64 a0_2, .int .i64 a0_3, .int .i64 a0_4, .int .i64 a0_5, .bool a0_6, .int .i64 a0_7, .int .i64 a0_8, .int .i64 a0_9, .int .i64 a0_10, .int .i64 a0_11, .int .i64 a0_12]) (t := 23) ?hr ?_; (case hd => rfl); (case hg => rfl); (case hr => first | (go_simp; done) | (go_simp; rfl)); intro gb134 hg w38 hbox hb; have n0_ := am (below_step (by exact h0q HB.out) hb); have n1_ := am (hbox); have n2_ := am ((by rw [hg]; exact (below_size (by exact h0q HB.out)) : w.heap.size ≤ gb134)); have n3_ := am ((by rw [hg]; exact (below_size (by exact h0q HB.out)) : w.heap.size ≤ gb134)); clear HB; have HB := n0_; have BK134 := n1_; have GW134 := n2_; have GE134 := n3_; clear n0_ n1_ n2_ n3_; clear hb hbox hg) | ((with_reducible refine gate_dst (N := 2) rfl ?_); refine box_event ?hg (N := 2) ?hd (cs := #[.int .i64 0, .int .i64 0, .int .i64 0, .int .i64 0, .int .i64 0, .int .i64 0, .bool false, .int .i64 0, .int .i64 0, .int .i64 0, .int .i64 0, .int .i64 0, .int .i64 0]) (t := 23) ?hr ?_; (case hd => rfl); (case hg => rfl); (case hr => first | (go_simp; done) | (go_simp; rfl)); intro gb135 hg w39 hbox hb; have n0_ := am (blk_below (g := gb134) (Up.up BK134.out) hb); have n1_ := am (below_step (by exact h1q HB.out GE134.out) hb); have n2_ := am (hbox); have n3_ := am ((by rw [hg]; exact (below_size (by exact h1q HB.out GE134.out)) : w.heap.size ≤ gb135)); have n4_ := am ((by rw [hg]; exact (below_size (by exact h1q HB.out GE134.out)) : w.heap.size ≤ gb135)); have n5_ := am ((by rw [hg]; exact Nat.ne_of_lt (blk_lt (g := gb134) (Up.up BK134.out)) : gb134 ≠ gb135)); have n6_ := am ((by rw [hg]; exact Nat.ne_of_gt (blk_lt (g := gb134) (Up.up BK134.out)) : gb135 ≠ gb134)); clear BK134; clear HB; have BK134 := n0_; have HB := n1_; have BK135 := n2_; have GW135 := n3_; have GE135 := n4_; have NB134_135 := n5_; have NB135_134 := n6_; clear n0_ n1_ n2_ n3_ n4_ n5_ n6_; clear hb hbox hg; have hnb40 := NB134_135.out; have hnc40 := NB135_134.out; have hz41 := lc13 BK134.out) | ((with_reducible refine gate_callee (f := 11) rfl ?_); refine goesL_ (some 9) rfl rfl Try.func11 (by kernel_rfl) rfl #[.agg #[.int .i64 a0_0, .int .i64 a0_1, .int .i64 a0_2, .int .i64 a0_3, .int .i64 a0_4, .int .i64 a0_5, .bool a0_6, .int .i64 a0_7, .int .i64 a0_8, .int .i64 a0_9, .int .i64 a0_10, .int .i64 a0_11, .int .i64 a0_12]] rfl ml ?_; (with_reducible refine (loan_Good.calls k a0_0 a0_1 a0_2 a0_3 a0_4 a0_5 a0_6 a0_7 a0_8 a0_9 a0_10 a0_11 a0_12 true _ A2.out).mono ?_); rintro e w42 ⟨rfl, hb⟩; refine ⟨_, rfl, ?_⟩; have n0_ := am (blk_below (g := gb134) (Up.up BK134.out) hb); have n1_ := am (blk_below (g := gb135) (Up.up BK135.out) hb); have n2_ := am (below_step (by exact h2q HB.out GE134.out GE135.out) hb); clear BK134; clear BK135; clear HB; have BK134 := n0_; have BK135 := n1_; have HB := n2_; clear n0_ n1_ n2_; (try clear hb); (try clear hb2); (try clear hk); (try clear hi); have hz43 := lc13 BK134.out; have hz44 := lc13 BK135.out))
   refine bodyPost_ret (results_ct rfl _ _ gb135 23 #[.int .i64 0, .int .i64 0, .int .i64 0, .int .i64 0, .int .i64 0, .int .i64 0, .bool false, .int .i64 0, .int .i64 0, .int .i64 0, .int .i64 0, .int .i64 0, .int .i64 0] (0, 0) _ rfl (by (with_reducible repeat (first | refine blk_drewN ?_ _ | refine blk_drew ?_ | refine blk_alloc ?_ _)); apply blk_put13b; (with_reducible repeat (first | refine blk_drewN ?_ _ | refine blk_drew ?_ | refine blk_alloc ?_ _)); exact BK135.out) Try.underlying23 rfl (by kernel_rfl)) rfl ?_
   exact ⟨er, by exact h2q HB.out GE134.out GE135.out⟩
 ·replace c3 := Bool.eq_false_iff.mpr c3
  subst c3
  have H1 : (some (0, 0, 0, 0, 0, 0, false, 0, 0, 0, 0, 0, 0, 1)) = some (r1, r2, r3, r4, r5, r6, r7, r8, r9, r10, r11, r12, r13, r14) := by rw [if_neg (show ¬ (false = true) by decide)] at H; exact H
  clear H
  have H := H1
  clear H1
  simp only [Option.some.injEq, Prod.mk.injEq] at H
  obtain ⟨rfl, rfl, rfl, rfl, rfl, rfl, rfl, rfl, rfl, rfl, rfl, rfl, rfl, rfl⟩ := H
  go_enter Try.func5, Try.ntmps5
  go_wp2_with (first | ((with_reducible refine gate_dst (N := 1) rfl ?_); refine box_event ?hg (N := 1) ?hd (cs := #[.int .i64 a0_0, .int .i64 a0_1, .int .i64 a0_2, .int .i64 a0_3, .int .i64 a0_4, .int .i64 a0_5, .bool a0_6, .int .i64 a0_7, .int .i64 a0_8, .int .i64 a0_9, .int .i64 a0_10, .int .i64 a0_11, .int .i64 a0_12]) (t := 23) ?hr ?_; (case hd => rfl); (case hg => rfl); (case hr => first | (go_simp; done) | (go_simp; rfl)); intro gb134 hg w45 hbox hb; have n0_ := am (below_step (by exact h0q HB.out) hb); have n1_ := am (hbox); have n2_ := am ((by rw [hg]; exact (below_size (by exact h0q HB.out)) : w.heap.size ≤ gb134)); have n3_ := am ((by rw [hg]; exact (below_size (by exact h0q HB.out)) : w.heap.size ≤ gb134)); clear HB; have HB := n0_; have BK134 := n1_; have GW134 := n2_; have GE134 := n3_; clear n0_ n1_ n2_ n3_; clear hb hbox hg) | ((with_reducible refine gate_dst (N := 2) rfl ?_); refine box_event ?hg (N := 2) ?hd (cs := #[.int .i64 0, .int .i64 0, .int .i64 0, .int .i64 0, .int .i64 0, .int .i64 0, .bool false, .int .i64 0, .int .i64 0, .int .i64 0, .int .i64 0, .int .i64 0, .int .i64 0]) (t := 23) ?hr ?_; (case hd => rfl); (case hg => rfl); (case hr => first | (go_simp; done) | (go_simp; rfl)); intro gb135 hg w46 hbox hb; have n0_ := am (blk_below (g := gb134) (Up.up BK134.out) hb); have n1_ := am (below_step (by exact h1q HB.out GE134.out) hb); have n2_ := am (hbox); have n3_ := am ((by rw [hg]; exact (below_size (by exact h1q HB.out GE134.out)) : w.heap.size ≤ gb135)); have n4_ := am ((by rw [hg]; exact (below_size (by exact h1q HB.out GE134.out)) : w.heap.size ≤ gb135)); have n5_ := am ((by rw [hg]; exact Nat.ne_of_lt (blk_lt (g := gb134) (Up.up BK134.out)) : gb134 ≠ gb135)); have n6_ := am ((by rw [hg]; exact Nat.ne_of_gt (blk_lt (g := gb134) (Up.up BK134.out)) : gb135 ≠ gb134)); clear BK134; clear HB; have BK134 := n0_; have HB := n1_; have BK135 := n2_; have GW135 := n3_; have GE135 := n4_; have NB134_135 := n5_; have NB135_134 := n6_; clear n0_ n1_ n2_ n3_ n4_ n5_ n6_; clear hb hbox hg; have hnb47 := NB134_135.out; have hnc47 := NB135_134.out; have hz48 := lc13 BK134.out) | ((with_reducible refine gate_callee (f := 11) rfl ?_); refine goesL_ (some 9) rfl rfl Try.func11 (by kernel_rfl) rfl #[.agg #[.int .i64 a0_0, .int .i64 a0_1, .int .i64 a0_2, .int .i64 a0_3, .int .i64 a0_4, .int .i64 a0_5, .bool a0_6, .int .i64 a0_7, .int .i64 a0_8, .int .i64 a0_9, .int .i64 a0_10, .int .i64 a0_11, .int .i64 a0_12]] rfl ml ?_; (with_reducible refine (loan_Good.calls k a0_0 a0_1 a0_2 a0_3 a0_4 a0_5 a0_6 a0_7 a0_8 a0_9 a0_10 a0_11 a0_12 false _ A2.out).mono ?_); rintro e w49 ⟨rfl, hb⟩; refine ⟨_, rfl, ?_⟩; have n0_ := am (blk_below (g := gb134) (Up.up BK134.out) hb); have n1_ := am (blk_below (g := gb135) (Up.up BK135.out) hb); have n2_ := am (below_step (by exact h2q HB.out GE134.out GE135.out) hb); clear BK134; clear BK135; clear HB; have BK134 := n0_; have BK135 := n1_; have HB := n2_; clear n0_ n1_ n2_; (try clear hb); (try clear hb2); (try clear hk); (try clear hi); have hz50 := lc13 BK135.out))
  refine bodyPost_ret (results_ct rfl _ _ gb135 23 #[.int .i64 0, .int .i64 0, .int .i64 0, .int .i64 0, .int .i64 0, .int .i64 0, .bool false, .int .i64 0, .int .i64 0, .int .i64 0, .int .i64 0, .int .i64 0, .int .i64 0] (0, 0) _ rfl (by (with_reducible repeat (first | refine blk_drewN ?_ _ | refine blk_drew ?_ | refine blk_alloc ?_ _)); apply blk_put13b; (with_reducible repeat (first | refine blk_drewN ?_ _ | refine blk_drew ?_ | refine blk_alloc ?_ _)); exact BK135.out) Try.underlying23 rfl (by kernel_rfl)) rfl ?_
  exact ⟨er, by exact h2q HB.out GE134.out GE135.out⟩
def annuityref01_Good.f (a0 : Int) : Option (Bool) := if a0 ≥ (-10000000000000) then (some (decide (a0 ≤ 10000000000000))) else (some false)
set_option maxHeartbeats 8000000 in
set_option maxRecDepth 100000 in
theorem annuityref01_Good.calls (a0 : Int) (r : Bool) (w : World) (h : annuityref01_Good.f a0 = some r) :
  Calls Try.prog 42 #[.int .i64 a0] w fun e w' => e = .returned (.bool r) ∧ Drawn0 w w' := by
 have H : (if a0 ≥ (-10000000000000) then (some (decide (a0 ≤ 10000000000000))) else (some false)) = some r := h
 clear h
 by_cases c2 : a0 ≥ (-10000000000000)
 ·rw [if_pos c2] at H
  have c2b0 : decide ((-10000000000000) ≤ a0) = true := decide_eq_true c2
  clear c2
  obtain rfl := Option.some.inj H
  go_enter Try.func42, Try.ntmps42
  go_wp2
  go_ret
  exact ⟨by first | rfl | (simp; done) | (simp [*]; done), by repeat (first | exact Drawn0.refl _ | apply Drawn0.step)⟩
 ·rw [if_neg c2] at H
  have c2b0 : decide ((-10000000000000) ≤ a0) = false := decide_eq_false c2
  clear c2
  obtain rfl := Option.some.inj H
  go_enter Try.func42, Try.ntmps42
  go_wp2
  go_ret
  exact ⟨by first | rfl | (simp; done) | (simp [*]; done), by repeat (first | exact Drawn0.refl _ | apply Drawn0.step)⟩
def annuityref14_money.f (a0 : Int) : Option (Bool) := if a0 ≥ 0 then ((annuityref01_Good.f a0).bind fun t141 => (some t141)) else (some false)
set_option maxHeartbeats 8000000 in
set_option maxRecDepth 100000 in
theorem annuityref14_money.calls (a0 : Int) (r : Bool) (w : World) (h : annuityref14_money.f a0 = some r) :
  Calls Try.prog 25 #[.int .i64 a0] w fun e w' => e = .returned (.bool r) ∧ Drawn0 w w' := by
 have H : (if a0 ≥ 0 then ((annuityref01_Good.f a0).bind fun t141 => (some t141)) else (some false)) = some r := h
 clear h
 by_cases c2 : a0 ≥ 0
 ·rw [if_pos c2] at H
  have c2b0 : decide (0 ≤ a0) = true := decide_eq_true c2
  clear c2
  replace H := Option.bind_eq_some_iff.mp H
  obtain ⟨t141, A30, H⟩ := H
  replace H : (some t141) = some r := H
  have A3 := am A30
  clear A30
  obtain rfl := Option.some.inj H
  go_enter Try.func25, Try.ntmps25
  go_wp2_with (first | (go_at_call 42; (with_reducible refine (annuityref01_Good.calls a0 t141 _ A3.out).mono ?_); rintro e w' ⟨rfl, ⟨nd, rfl⟩⟩))
  go_ret
  exact ⟨by first | rfl | (simp; done) | (simp [*]; done), by repeat (first | exact Drawn0.refl _ | apply Drawn0.step)⟩
 ·rw [if_neg c2] at H
  have c2b0 : decide (0 ≤ a0) = false := decide_eq_false c2
  clear c2
  obtain rfl := Option.some.inj H
  go_enter Try.func25, Try.ntmps25
  go_wp2
  go_ret
  exact ⟨by first | rfl | (simp; done) | (simp [*]; done), by repeat (first | exact Drawn0.refl _ | apply Drawn0.step)⟩
def annuityref14_micro.f (a0 : Int) : Option (Bool) := if a0 ≥ 0 then (some (decide (a0 ≤ 1000000000000000000))) else (some false)
set_option maxHeartbeats 8000000 in
set_option maxRecDepth 100000 in
theorem annuityref14_micro.calls (a0 : Int) (r : Bool) (w : World) (h : annuityref14_micro.f a0 = some r) :
  Calls Try.prog 26 #[.int .i64 a0] w fun e w' => e = .returned (.bool r) ∧ Drawn0 w w' := by
 have H : (if a0 ≥ 0 then (some (decide (a0 ≤ 1000000000000000000))) else (some false)) = some r := h
 clear h
 by_cases c2 : a0 ≥ 0
 ·rw [if_pos c2] at H
  have c2b0 : decide (0 ≤ a0) = true := decide_eq_true c2
  clear c2
  obtain rfl := Option.some.inj H
  go_enter Try.func26, Try.ntmps26
  go_wp2
  go_ret
  exact ⟨by first | rfl | (simp; done) | (simp [*]; done), by repeat (first | exact Drawn0.refl _ | apply Drawn0.step)⟩
 ·rw [if_neg c2] at H
  have c2b0 : decide (0 ≤ a0) = false := decide_eq_false c2
  clear c2
  obtain rfl := Option.some.inj H
  go_enter Try.func26, Try.ntmps26
  go_wp2
  go_ret
  exact ⟨by first | rfl | (simp; done) | (simp [*]; done), by repeat (first | exact Drawn0.refl _ | apply Drawn0.step)⟩
def annuityref14_Good.f (a0_0 : Int) (a0_1 : Int) (a0_2 : Int) (a0_3 : Int) (a0_4 : Int) (a0_5 : Int) (a0_6 : Bool) (a0_7 : Int) (a0_8 : Int) (a0_9 : Int) (a0_10 : Int) (a0_11 : Int) (a0_12 : Int) : Option (Bool) := if a0_0 < 1 then (some false) else (if a0_0 > 1000 then (some false) else ((annuityref14_money.f a0_1).bind fun t143 => (if t143 = true then ((annuityref14_money.f a0_4).bind fun t144 => (if t144 = true then ((annuityref14_micro.f a0_2).bind fun t145 => (if t145 = true then ((annuityref14_micro.f a0_3).bind fun t146 => (if t146 = true then (if a0_5 < 0 then (some false) else (if a0_5 > 1000000 then (some false) else (if a0_7 < 1 then (some false) else (if a0_7 > 5 then (some false) else (if a0_8 < 0 then (some false) else (if a0_8 > 4 then (some false) else (if a0_9 < (-1) then (some false) else (if a0_9 > 87658 then (some false) else ((annuityref14_money.f a0_10).bind fun t147 => (if t147 = true then ((annuityref14_money.f a0_11).bind fun t148 => (if t148 = true then (if a0_12 < 0 then (some false) else (if a0_8 = 0 then (some true) else (if a0_1 = 0 then (if a0_2 = 0 then (some (a0_4 == 0)) else (some false)) else (some false)))) else (some false))) else (some false))))))))))) else (some false))) else (some false))) else (some false))) else (some false))))
set_option maxHeartbeats 8000000 in
set_option maxRecDepth 100000 in
theorem annuityref14_Good.calls (a0_0 : Int) (a0_1 : Int) (a0_2 : Int) (a0_3 : Int) (a0_4 : Int) (a0_5 : Int) (a0_6 : Bool) (a0_7 : Int) (a0_8 : Int) (a0_9 : Int) (a0_10 : Int) (a0_11 : Int) (a0_12 : Int) (r : Bool) (w : World) (h : annuityref14_Good.f a0_0 a0_1 a0_2 a0_3 a0_4 a0_5 a0_6 a0_7 a0_8 a0_9 a0_10 a0_11 a0_12 = some r) :
  Calls Try.prog 13 #[.agg #[.int .i64 a0_0, .int .i64 a0_1, .int .i64 a0_2, .int .i64 a0_3, .int .i64 a0_4, .int .i64 a0_5, .bool a0_6, .int .i64 a0_7, .int .i64 a0_8, .int .i64 a0_9, .int .i64 a0_10, .int .i64 a0_11, .int .i64 a0_12]] w fun e w' => e = .returned (.bool r) ∧ Below w.heap.size w w' := by
 have hu23 := Try.underlying23
 have HB := am (Below.refl w.heap.size w)
 have H : (if a0_0 < 1 then (some false) else (if a0_0 > 1000 then (some false) else ((annuityref14_money.f a0_1).bind fun t143 => (if t143 = true then ((annuityref14_money.f a0_4).bind fun t144 => (if t144 = true then ((annuityref14_micro.f a0_2).bind fun t145 => (if t145 = true then ((annuityref14_micro.f a0_3).bind fun t146 => (if t146 = true then (if a0_5 < 0 then (some false) else (if a0_5 > 1000000 then (some false) else (if a0_7 < 1 then (some false) else (if a0_7 > 5 then (some false) else (if a0_8 < 0 then (some false) else (if a0_8 > 4 then (some false) else (if a0_9 < (-1) then (some false) else (if a0_9 > 87658 then (some false) else ((annuityref14_money.f a0_10).bind fun t147 => (if t147 = true then ((annuityref14_money.f a0_11).bind fun t148 => (if t148 = true then (if a0_12 < 0 then (some false) else (if a0_8 = 0 then (some true) else (if a0_1 = 0 then (if a0_2 = 0 then (some (a0_4 == 0)) else (some false)) else (some false)))) else (some false))) else (some false))))))))))) else (some false))) else (some false))) else (some false))) else (some false))))) = some r := h
 clear h
 by_cases c2 : a0_0 < 1
 ·rw [if_pos c2] at H
  have c2b0 : decide (a0_0 < 1) = true := decide_eq_true c2
  clear c2
  obtain rfl := Option.some.inj H
  go_enter Try.func13, Try.ntmps13
  go_wp2_with (first | ((with_reducible refine gate_dst (N := 1) rfl ?_); refine box_event ?hg (N := 1) ?hd (cs := #[.int .i64 a0_0, .int .i64 a0_1, .int .i64 a0_2, .int .i64 a0_3, .int .i64 a0_4, .int .i64 a0_5, .bool a0_6, .int .i64 a0_7, .int .i64 a0_8, .int .i64 a0_9, .int .i64 a0_10, .int .i64 a0_11, .int .i64 a0_12]) (t := 23) ?hr ?_; (case hd => rfl); (case hg => rfl); (case hr => first | (go_simp; done) | (go_simp; rfl)); intro gb142 hg w3 hbox hb; have n0_ := am (below_step (by exact h0q HB.out) hb); have n1_ := am (hbox); have n2_ := am ((by rw [hg]; exact (below_size (by exact h0q HB.out)) : w.heap.size ≤ gb142)); have n3_ := am ((by rw [hg]; exact (below_size (by exact h0q HB.out)) : w.heap.size ≤ gb142)); clear HB; have HB := n0_; have BK142 := n1_; have GW142 := n2_; have GE142 := n3_; clear n0_ n1_ n2_ n3_; clear hb hbox hg; have hz4 := lc13 BK142.out))
  go_ret
  exact ⟨er, by exact h1q HB.out GE142.out⟩
 rw [if_neg c2] at H
 have c2b0 : decide (a0_0 < 1) = false := decide_eq_false c2
 clear c2
 by_cases c5 : a0_0 > 1000
 ·rw [if_pos c5] at H
  have c5b0 : decide (1000 < a0_0) = true := decide_eq_true c5
  clear c5
  obtain rfl := Option.some.inj H
  go_enter Try.func13, Try.ntmps13
  go_wp2_with (first | ((with_reducible refine gate_dst (N := 1) rfl ?_); refine box_event ?hg (N := 1) ?hd (cs := #[.int .i64 a0_0, .int .i64 a0_1, .int .i64 a0_2, .int .i64 a0_3, .int .i64 a0_4, .int .i64 a0_5, .bool a0_6, .int .i64 a0_7, .int .i64 a0_8, .int .i64 a0_9, .int .i64 a0_10, .int .i64 a0_11, .int .i64 a0_12]) (t := 23) ?hr ?_; (case hd => rfl); (case hg => rfl); (case hr => first | (go_simp; done) | (go_simp; rfl)); intro gb142 hg w6 hbox hb; have n0_ := am (below_step (by exact h0q HB.out) hb); have n1_ := am (hbox); have n2_ := am ((by rw [hg]; exact (below_size (by exact h0q HB.out)) : w.heap.size ≤ gb142)); have n3_ := am ((by rw [hg]; exact (below_size (by exact h0q HB.out)) : w.heap.size ≤ gb142)); clear HB; have HB := n0_; have BK142 := n1_; have GW142 := n2_; have GE142 := n3_; clear n0_ n1_ n2_ n3_; clear hb hbox hg; have hz7 := lc13 BK142.out))
  go_ret
  exact ⟨er, by exact h1q HB.out GE142.out⟩
 rw [if_neg c5] at H
 have c5b0 : decide (1000 < a0_0) = false := decide_eq_false c5
 clear c5
 replace H := Option.bind_eq_some_iff.mp H
 obtain ⟨t143, A80, H⟩ := H
 replace H : (if t143 = true then ((annuityref14_money.f a0_4).bind fun t144 => (if t144 = true then ((annuityref14_micro.f a0_2).bind fun t145 => (if t145 = true then ((annuityref14_micro.f a0_3).bind fun t146 => (if t146 = true then (if a0_5 < 0 then (some false) else (if a0_5 > 1000000 then (some false) else (if a0_7 < 1 then (some false) else (if a0_7 > 5 then (some false) else (if a0_8 < 0 then (some false) else (if a0_8 > 4 then (some false) else (if a0_9 < (-1) then (some false) else (if a0_9 > 87658 then (some false) else ((annuityref14_money.f a0_10).bind fun t147 => (if t147 = true then ((annuityref14_money.f a0_11).bind fun t148 => (if t148 = true then (if a0_12 < 0 then (some false) else (if a0_8 = 0 then (some true) else (if a0_1 = 0 then (if a0_2 = 0 then (some (a0_4 == 0)) else (some false)) else (some false)))) else (some false))) else (some false))))))))))) else (some false))) else (some false))) else (some false))) else (some false)) = some r := H
 have A8 := am A80
 clear A80
 by_cases c9 : t143 = true
 case neg =>
  replace c9 := Bool.eq_false_iff.mpr c9
  subst c9
  have H1 : (some false) = some r := by rw [if_neg (show ¬ (false = true) by decide)] at H; exact H
  clear H
  have H := H1
  clear H1
  obtain rfl := Option.some.inj H
  go_enter Try.func13, Try.ntmps13
  go_wp2_with (first | ((with_reducible refine gate_dst (N := 1) rfl ?_); refine box_event ?hg (N := 1) ?hd (cs := #[.int .i64 a0_0, .int .i64 a0_1, .int .i64 a0_2, .int .i64 a0_3, .int .i64 a0_4, .int .i64 a0_5, .bool a0_6, .int .i64 a0_7, .int .i64 a0_8, .int .i64 a0_9, .int .i64 a0_10, .int .i64 a0_11, .int .i64 a0_12]) (t := 23) ?hr ?_; (case hd => rfl); (case hg => rfl); (case hr => first | (go_simp; done) | (go_simp; rfl)); intro gb142 hg w68 hbox hb; have n0_ := am (below_step (by exact h0q HB.out) hb); have n1_ := am (hbox); have n2_ := am ((by rw [hg]; exact (below_size (by exact h0q HB.out)) : w.heap.size ≤ gb142)); have n3_ := am ((by rw [hg]; exact (below_size (by exact h0q HB.out)) : w.heap.size ≤ gb142)); clear HB; have HB := n0_; have BK142 := n1_; have GW142 := n2_; have GE142 := n3_; clear n0_ n1_ n2_ n3_; clear hb hbox hg; have hz69 := lc13 BK142.out) | (go_at_call 25; (with_reducible refine (annuityref14_money.calls a0_1 false _ A8.out).mono ?_); rintro e w' ⟨rfl, ⟨nd, rfl⟩⟩))
  go_ret
  exact ⟨er, by exact h1q HB.out GE142.out⟩
 subst c9
 have H1 : ((annuityref14_money.f a0_4).bind fun t144 => (if t144 = true then ((annuityref14_micro.f a0_2).bind fun t145 => (if t145 = true then ((annuityref14_micro.f a0_3).bind fun t146 => (if t146 = true then (if a0_5 < 0 then (some false) else (if a0_5 > 1000000 then (some false) else (if a0_7 < 1 then (some false) else (if a0_7 > 5 then (some false) else (if a0_8 < 0 then (some false) else (if a0_8 > 4 then (some false) else (if a0_9 < (-1) then (some false) else (if a0_9 > 87658 then (some false) else ((annuityref14_money.f a0_10).bind fun t147 => (if t147 = true then ((annuityref14_money.f a0_11).bind fun t148 => (if t148 = true then (if a0_12 < 0 then (some false) else (if a0_8 = 0 then (some true) else (if a0_1 = 0 then (if a0_2 = 0 then (some (a0_4 == 0)) else (some false)) else (some false)))) else (some false))) else (some false))))))))))) else (some false))) else (some false))) else (some false))) = some r := by rw [if_pos rfl] at H; exact H
 clear H
 have H := H1
 clear H1
 replace H := Option.bind_eq_some_iff.mp H
 obtain ⟨t144, A100, H⟩ := H
 replace H : (if t144 = true then ((annuityref14_micro.f a0_2).bind fun t145 => (if t145 = true then ((annuityref14_micro.f a0_3).bind fun t146 => (if t146 = true then (if a0_5 < 0 then (some false) else (if a0_5 > 1000000 then (some false) else (if a0_7 < 1 then (some false) else (if a0_7 > 5 then (some false) else (if a0_8 < 0 then (some false) else (if a0_8 > 4 then (some false) else (if a0_9 < (-1) then (some false) else (if a0_9 > 87658 then (some false) else ((annuityref14_money.f a0_10).bind fun t147 => (if t147 = true then ((annuityref14_money.f a0_11).bind fun t148 => (if t148 = true then (if a0_12 < 0 then (some false) else (if a0_8 = 0 then (some true) else (if a0_1 = 0 then (if a0_2 = 0 then (some (a0_4 == 0)) else (some false)) else (some false)))) else (some false))) else (some false))))))))))) else (some false))) else (some false))) else (some false)) = some r := H
 have A10 := am A100
 clear A100
 by_cases c11 : t144 = true
 case neg =>
  replace c11 := Bool.eq_false_iff.mpr c11
  subst c11
  have H1 : (some false) = some r := by rw [if_neg (show ¬ (false = true) by decide)] at H; exact H
  clear H
  have H := H1
  clear H1
  obtain rfl := Option.some.inj H
  go_enter Try.func13, Try.ntmps13
  go_wp2_with (first | ((with_reducible refine gate_dst (N := 1) rfl ?_); refine box_event ?hg (N := 1) ?hd (cs := #[.int .i64 a0_0, .int .i64 a0_1, .int .i64 a0_2, .int .i64 a0_3, .int .i64 a0_4, .int .i64 a0_5, .bool a0_6, .int .i64 a0_7, .int .i64 a0_8, .int .i64 a0_9, .int .i64 a0_10, .int .i64 a0_11, .int .i64 a0_12]) (t := 23) ?hr ?_; (case hd => rfl); (case hg => rfl); (case hr => first | (go_simp; done) | (go_simp; rfl)); intro gb142 hg w66 hbox hb; have n0_ := am (below_step (by exact h0q HB.out) hb); have n1_ := am (hbox); have n2_ := am ((by rw [hg]; exact (below_size (by exact h0q HB.out)) : w.heap.size ≤ gb142)); have n3_ := am ((by rw [hg]; exact (below_size (by exact h0q HB.out)) : w.heap.size ≤ gb142)); clear HB; have HB := n0_; have BK142 := n1_; have GW142 := n2_; have GE142 := n3_; clear n0_ n1_ n2_ n3_; clear hb hbox hg; have hz67 := lc13 BK142.out) | (go_at_call 25; (with_reducible refine (annuityref14_money.calls a0_1 true _ A8.out).mono ?_); rintro e w' ⟨rfl, ⟨nd, rfl⟩⟩) | (go_at_call 25; (with_reducible refine (annuityref14_money.calls a0_4 false _ A10.out).mono ?_); rintro e w' ⟨rfl, ⟨nd, rfl⟩⟩))
  go_ret
  exact ⟨er, by exact h1q HB.out GE142.out⟩
 subst c11
 have H1 : ((annuityref14_micro.f a0_2).bind fun t145 => (if t145 = true then ((annuityref14_micro.f a0_3).bind fun t146 => (if t146 = true then (if a0_5 < 0 then (some false) else (if a0_5 > 1000000 then (some false) else (if a0_7 < 1 then (some false) else (if a0_7 > 5 then (some false) else (if a0_8 < 0 then (some false) else (if a0_8 > 4 then (some false) else (if a0_9 < (-1) then (some false) else (if a0_9 > 87658 then (some false) else ((annuityref14_money.f a0_10).bind fun t147 => (if t147 = true then ((annuityref14_money.f a0_11).bind fun t148 => (if t148 = true then (if a0_12 < 0 then (some false) else (if a0_8 = 0 then (some true) else (if a0_1 = 0 then (if a0_2 = 0 then (some (a0_4 == 0)) else (some false)) else (some false)))) else (some false))) else (some false))))))))))) else (some false))) else (some false))) = some r := by rw [if_pos rfl] at H; exact H
 clear H
 have H := H1
 clear H1
 replace H := Option.bind_eq_some_iff.mp H
 obtain ⟨t145, A120, H⟩ := H
 replace H : (if t145 = true then ((annuityref14_micro.f a0_3).bind fun t146 => (if t146 = true then (if a0_5 < 0 then (some false) else (if a0_5 > 1000000 then (some false) else (if a0_7 < 1 then (some false) else (if a0_7 > 5 then (some false) else (if a0_8 < 0 then (some false) else (if a0_8 > 4 then (some false) else (if a0_9 < (-1) then (some false) else (if a0_9 > 87658 then (some false) else ((annuityref14_money.f a0_10).bind fun t147 => (if t147 = true then ((annuityref14_money.f a0_11).bind fun t148 => (if t148 = true then (if a0_12 < 0 then (some false) else (if a0_8 = 0 then (some true) else (if a0_1 = 0 then (if a0_2 = 0 then (some (a0_4 == 0)) else (some false)) else (some false)))) else (some false))) else (some false))))))))))) else (some false))) else (some false)) = some r := H
 have A12 := am A120
 clear A120
 by_cases c13 : t145 = true
 case neg =>
  replace c13 := Bool.eq_false_iff.mpr c13
  subst c13
  have H1 : (some false) = some r := by rw [if_neg (show ¬ (false = true) by decide)] at H; exact H
  clear H
  have H := H1
  clear H1
  obtain rfl := Option.some.inj H
  go_enter Try.func13, Try.ntmps13
  go_wp2_with (first | ((with_reducible refine gate_dst (N := 1) rfl ?_); refine box_event ?hg (N := 1) ?hd (cs := #[.int .i64 a0_0, .int .i64 a0_1, .int .i64 a0_2, .int .i64 a0_3, .int .i64 a0_4, .int .i64 a0_5, .bool a0_6, .int .i64 a0_7, .int .i64 a0_8, .int .i64 a0_9, .int .i64 a0_10, .int .i64 a0_11, .int .i64 a0_12]) (t := 23) ?hr ?_; (case hd => rfl); (case hg => rfl); (case hr => first | (go_simp; done) | (go_simp; rfl)); intro gb142 hg w64 hbox hb; have n0_ := am (below_step (by exact h0q HB.out) hb); have n1_ := am (hbox); have n2_ := am ((by rw [hg]; exact (below_size (by exact h0q HB.out)) : w.heap.size ≤ gb142)); have n3_ := am ((by rw [hg]; exact (below_size (by exact h0q HB.out)) : w.heap.size ≤ gb142)); clear HB; have HB := n0_; have BK142 := n1_; have GW142 := n2_; have GE142 := n3_; clear n0_ n1_ n2_ n3_; clear hb hbox hg; have hz65 := lc13 BK142.out) | (go_at_call 25; (with_reducible refine (annuityref14_money.calls a0_1 true _ A8.out).mono ?_); rintro e w' ⟨rfl, ⟨nd, rfl⟩⟩) | (go_at_call 25; (with_reducible refine (annuityref14_money.calls a0_4 true _ A10.out).mono ?_); rintro e w' ⟨rfl, ⟨nd, rfl⟩⟩) | (go_at_call 26; (with_reducible refine (annuityref14_micro.calls a0_2 false _ A12.out).mono ?_); rintro e w' ⟨rfl, ⟨nd, rfl⟩⟩))
  go_ret
  exact ⟨er, by exact h1q HB.out GE142.out⟩
 subst c13
 have H1 : ((annuityref14_micro.f a0_3).bind fun t146 => (if t146 = true then (if a0_5 < 0 then (some false) else (if a0_5 > 1000000 then (some false) else (if a0_7 < 1 then (some false) else (if a0_7 > 5 then (some false) else (if a0_8 < 0 then (some false) else (if a0_8 > 4 then (some false) else (if a0_9 < (-1) then (some false) else (if a0_9 > 87658 then (some false) else ((annuityref14_money.f a0_10).bind fun t147 => (if t147 = true then ((annuityref14_money.f a0_11).bind fun t148 => (if t148 = true then (if a0_12 < 0 then (some false) else (if a0_8 = 0 then (some true) else (if a0_1 = 0 then (if a0_2 = 0 then (some (a0_4 == 0)) else (some false)) else (some false)))) else (some false))) else (some false))))))))))) else (some false))) = some r := by rw [if_pos rfl] at H; exact H
 clear H
 have H := H1
 clear H1
 replace H := Option.bind_eq_some_iff.mp H
 obtain ⟨t146, A140, H⟩ := H
 replace H : (if t146 = true then (if a0_5 < 0 then (some false) else (if a0_5 > 1000000 then (some false) else (if a0_7 < 1 then (some false) else (if a0_7 > 5 then (some false) else (if a0_8 < 0 then (some false) else (if a0_8 > 4 then (some false) else (if a0_9 < (-1) then (some false) else (if a0_9 > 87658 then (some false) else ((annuityref14_money.f a0_10).bind fun t147 => (if t147 = true then ((annuityref14_money.f a0_11).bind fun t148 => (if t148 = true then (if a0_12 < 0 then (some false) else (if a0_8 = 0 then (some true) else (if a0_1 = 0 then (if a0_2 = 0 then (some (a0_4 == 0)) else (some false)) else (some false)))) else (some false))) else (some false))))))))))) else (some false)) = some r := H
 have A14 := am A140
 clear A140
 by_cases c15 : t146 = true
 case neg =>
  replace c15 := Bool.eq_false_iff.mpr c15
  subst c15
  have H1 : (some false) = some r := by rw [if_neg (show ¬ (false = true) by decide)] at H; exact H
  clear H
  have H := H1
  clear H1
  obtain rfl := Option.some.inj H
  go_enter Try.func13, Try.ntmps13
  go_wp2_with (first | ((with_reducible refine gate_dst (N := 1) rfl ?_); refine box_event ?hg (N := 1) ?hd (cs := #[.int .i64 a0_0, .int .i64 a0_1, .int .i64 a0_2, .int .i64 a0_3, .int .i64 a0_4, .int .i64 a0_5, .bool a0_6, .int .i64 a0_7, .int .i64 a0_8, .int .i64 a0_9, .int .i64 a0_10, .int .i64 a0_11, .int .i64 a0_12]) (t := 23) ?hr ?_; (case hd => rfl); (case hg => rfl); (case hr => first | (go_simp; done) | (go_simp; rfl)); intro gb142 hg w62 hbox hb; have n0_ := am (below_step (by exact h0q HB.out) hb); have n1_ := am (hbox); have n2_ := am ((by rw [hg]; exact (below_size (by exact h0q HB.out)) : w.heap.size ≤ gb142)); have n3_ := am ((by rw [hg]; exact (below_size (by exact h0q HB.out)) : w.heap.size ≤ gb142)); clear HB; have HB := n0_; have BK142 := n1_; have GW142 := n2_; have GE142 := n3_; clear n0_ n1_ n2_ n3_; clear hb hbox hg; have hz63 := lc13 BK142.out) | (go_at_call 25; (with_reducible refine (annuityref14_money.calls a0_1 true _ A8.out).mono ?_); rintro e w' ⟨rfl, ⟨nd, rfl⟩⟩) | (go_at_call 25; (with_reducible refine (annuityref14_money.calls a0_4 true _ A10.out).mono ?_); rintro e w' ⟨rfl, ⟨nd, rfl⟩⟩) | (go_at_call 26; (with_reducible refine (annuityref14_micro.calls a0_2 true _ A12.out).mono ?_); rintro e w' ⟨rfl, ⟨nd, rfl⟩⟩) | (go_at_call 26; (with_reducible refine (annuityref14_micro.calls a0_3 false _ A14.out).mono ?_); rintro e w' ⟨rfl, ⟨nd, rfl⟩⟩))
  go_ret
  exact ⟨er, by exact h1q HB.out GE142.out⟩
 subst c15
 have H1 : (if a0_5 < 0 then (some false) else (if a0_5 > 1000000 then (some false) else (if a0_7 < 1 then (some false) else (if a0_7 > 5 then (some false) else (if a0_8 < 0 then (some false) else (if a0_8 > 4 then (some false) else (if a0_9 < (-1) then (some false) else (if a0_9 > 87658 then (some false) else ((annuityref14_money.f a0_10).bind fun t147 => (if t147 = true then ((annuityref14_money.f a0_11).bind fun t148 => (if t148 = true then (if a0_12 < 0 then (some false) else (if a0_8 = 0 then (some true) else (if a0_1 = 0 then (if a0_2 = 0 then (some (a0_4 == 0)) else (some false)) else (some false)))) else (some false))) else (some false))))))))))) = some r := by rw [if_pos rfl] at H; exact H
 clear H
 have H := H1
 clear H1
 by_cases c16 : a0_5 < 0
 ·rw [if_pos c16] at H
  have c16b0 : decide (a0_5 < 0) = true := decide_eq_true c16
  clear c16
  obtain rfl := Option.some.inj H
  go_enter Try.func13, Try.ntmps13
  go_wp2_with (first | ((with_reducible refine gate_dst (N := 1) rfl ?_); refine box_event ?hg (N := 1) ?hd (cs := #[.int .i64 a0_0, .int .i64 a0_1, .int .i64 a0_2, .int .i64 a0_3, .int .i64 a0_4, .int .i64 a0_5, .bool a0_6, .int .i64 a0_7, .int .i64 a0_8, .int .i64 a0_9, .int .i64 a0_10, .int .i64 a0_11, .int .i64 a0_12]) (t := 23) ?hr ?_; (case hd => rfl); (case hg => rfl); (case hr => first | (go_simp; done) | (go_simp; rfl)); intro gb142 hg w17 hbox hb; have n0_ := am (below_step (by exact h0q HB.out) hb); have n1_ := am (hbox); have n2_ := am ((by rw [hg]; exact (below_size (by exact h0q HB.out)) : w.heap.size ≤ gb142)); have n3_ := am ((by rw [hg]; exact (below_size (by exact h0q HB.out)) : w.heap.size ≤ gb142)); clear HB; have HB := n0_; have BK142 := n1_; have GW142 := n2_; have GE142 := n3_; clear n0_ n1_ n2_ n3_; clear hb hbox hg; have hz18 := lc13 BK142.out) | (go_at_call 25; (with_reducible refine (annuityref14_money.calls a0_1 true _ A8.out).mono ?_); rintro e w' ⟨rfl, ⟨nd, rfl⟩⟩) | (go_at_call 25; (with_reducible refine (annuityref14_money.calls a0_4 true _ A10.out).mono ?_); rintro e w' ⟨rfl, ⟨nd, rfl⟩⟩) | (go_at_call 26; (with_reducible refine (annuityref14_micro.calls a0_2 true _ A12.out).mono ?_); rintro e w' ⟨rfl, ⟨nd, rfl⟩⟩) | (go_at_call 26; (with_reducible refine (annuityref14_micro.calls a0_3 true _ A14.out).mono ?_); rintro e w' ⟨rfl, ⟨nd, rfl⟩⟩))
  go_ret
  exact ⟨er, by exact h1q HB.out GE142.out⟩
 rw [if_neg c16] at H
 have c16b0 : decide (a0_5 < 0) = false := decide_eq_false c16
 clear c16
 by_cases c19 : a0_5 > 1000000
 ·rw [if_pos c19] at H
  have c19b0 : decide (1000000 < a0_5) = true := decide_eq_true c19
  clear c19
  obtain rfl := Option.some.inj H
  go_enter Try.func13, Try.ntmps13
  go_wp2_with (first | ((with_reducible refine gate_dst (N := 1) rfl ?_); refine box_event ?hg (N := 1) ?hd (cs := #[.int .i64 a0_0, .int .i64 a0_1, .int .i64 a0_2, .int .i64 a0_3, .int .i64 a0_4, .int .i64 a0_5, .bool a0_6, .int .i64 a0_7, .int .i64 a0_8, .int .i64 a0_9, .int .i64 a0_10, .int .i64 a0_11, .int .i64 a0_12]) (t := 23) ?hr ?_; (case hd => rfl); (case hg => rfl); (case hr => first | (go_simp; done) | (go_simp; rfl)); intro gb142 hg w20 hbox hb; have n0_ := am (below_step (by exact h0q HB.out) hb); have n1_ := am (hbox); have n2_ := am ((by rw [hg]; exact (below_size (by exact h0q HB.out)) : w.heap.size ≤ gb142)); have n3_ := am ((by rw [hg]; exact (below_size (by exact h0q HB.out)) : w.heap.size ≤ gb142)); clear HB; have HB := n0_; have BK142 := n1_; have GW142 := n2_; have GE142 := n3_; clear n0_ n1_ n2_ n3_; clear hb hbox hg; have hz21 := lc13 BK142.out) | (go_at_call 25; (with_reducible refine (annuityref14_money.calls a0_1 true _ A8.out).mono ?_); rintro e w' ⟨rfl, ⟨nd, rfl⟩⟩) | (go_at_call 25; (with_reducible refine (annuityref14_money.calls a0_4 true _ A10.out).mono ?_); rintro e w' ⟨rfl, ⟨nd, rfl⟩⟩) | (go_at_call 26; (with_reducible refine (annuityref14_micro.calls a0_2 true _ A12.out).mono ?_); rintro e w' ⟨rfl, ⟨nd, rfl⟩⟩) | (go_at_call 26; (with_reducible refine (annuityref14_micro.calls a0_3 true _ A14.out).mono ?_); rintro e w' ⟨rfl, ⟨nd, rfl⟩⟩))
  go_ret
  exact ⟨er, by exact h1q HB.out GE142.out⟩
 rw [if_neg c19] at H
 have c19b0 : decide (1000000 < a0_5) = false := decide_eq_false c19
 clear c19
 by_cases c22 : a0_7 < 1
 ·rw [if_pos c22] at H
  have c22b0 : decide (a0_7 < 1) = true := decide_eq_true c22
  clear c22
  obtain rfl := Option.some.inj H
  go_enter Try.func13, Try.ntmps13
  go_wp2_with (first | ((with_reducible refine gate_dst (N := 1) rfl ?_); refine box_event ?hg (N := 1) ?hd (cs := #[.int .i64 a0_0, .int .i64 a0_1, .int .i64 a0_2, .int .i64 a0_3, .int .i64 a0_4, .int .i64 a0_5, .bool a0_6, .int .i64 a0_7, .int .i64 a0_8, .int .i64 a0_9, .int .i64 a0_10, .int .i64 a0_11, .int .i64 a0_12]) (t := 23) ?hr ?_; (case hd => rfl); (case hg => rfl); (case hr => first | (go_simp; done) | (go_simp; rfl)); intro gb142 hg w23 hbox hb; have n0_ := am (below_step (by exact h0q HB.out) hb); have n1_ := am (hbox); have n2_ := am ((by rw [hg]; exact (below_size (by exact h0q HB.out)) : w.heap.size ≤ gb142)); have n3_ := am ((by rw [hg]; exact (below_size (by exact h0q HB.out)) : w.heap.size ≤ gb142)); clear HB; have HB := n0_; have BK142 := n1_; have GW142 := n2_; have GE142 := n3_; clear n0_ n1_ n2_ n3_; clear hb hbox hg; have hz24 := lc13 BK142.out) | (go_at_call 25; (with_reducible refine (annuityref14_money.calls a0_1 true _ A8.out).mono ?_); rintro e w' ⟨rfl, ⟨nd, rfl⟩⟩) | (go_at_call 25; (with_reducible refine (annuityref14_money.calls a0_4 true _ A10.out).mono ?_); rintro e w' ⟨rfl, ⟨nd, rfl⟩⟩) | (go_at_call 26; (with_reducible refine (annuityref14_micro.calls a0_2 true _ A12.out).mono ?_); rintro e w' ⟨rfl, ⟨nd, rfl⟩⟩) | (go_at_call 26; (with_reducible refine (annuityref14_micro.calls a0_3 true _ A14.out).mono ?_); rintro e w' ⟨rfl, ⟨nd, rfl⟩⟩))
  go_ret
  exact ⟨er, by exact h1q HB.out GE142.out⟩
 rw [if_neg c22] at H
 have c22b0 : decide (a0_7 < 1) = false := decide_eq_false c22
 clear c22
 by_cases c25 : a0_7 > 5
 ·rw [if_pos c25] at H
  have c25b0 : decide (5 < a0_7) = true := decide_eq_true c25
  clear c25
  obtain rfl := Option.some.inj H
  go_enter Try.func13, Try.ntmps13
  go_wp2_with (first | ((with_reducible refine gate_dst (N := 1) rfl ?_); refine box_event ?hg (N := 1) ?hd (cs := #[.int .i64 a0_0, .int .i64 a0_1, .int .i64 a0_2, .int .i64 a0_3, .int .i64 a0_4, .int .i64 a0_5, .bool a0_6, .int .i64 a0_7, .int .i64 a0_8, .int .i64 a0_9, .int .i64 a0_10, .int .i64 a0_11, .int .i64 a0_12]) (t := 23) ?hr ?_; (case hd => rfl); (case hg => rfl); (case hr => first | (go_simp; done) | (go_simp; rfl)); intro gb142 hg w26 hbox hb; have n0_ := am (below_step (by exact h0q HB.out) hb); have n1_ := am (hbox); have n2_ := am ((by rw [hg]; exact (below_size (by exact h0q HB.out)) : w.heap.size ≤ gb142)); have n3_ := am ((by rw [hg]; exact (below_size (by exact h0q HB.out)) : w.heap.size ≤ gb142)); clear HB; have HB := n0_; have BK142 := n1_; have GW142 := n2_; have GE142 := n3_; clear n0_ n1_ n2_ n3_; clear hb hbox hg; have hz27 := lc13 BK142.out) | (go_at_call 25; (with_reducible refine (annuityref14_money.calls a0_1 true _ A8.out).mono ?_); rintro e w' ⟨rfl, ⟨nd, rfl⟩⟩) | (go_at_call 25; (with_reducible refine (annuityref14_money.calls a0_4 true _ A10.out).mono ?_); rintro e w' ⟨rfl, ⟨nd, rfl⟩⟩) | (go_at_call 26; (with_reducible refine (annuityref14_micro.calls a0_2 true _ A12.out).mono ?_); rintro e w' ⟨rfl, ⟨nd, rfl⟩⟩) | (go_at_call 26; (with_reducible refine (annuityref14_micro.calls a0_3 true _ A14.out).mono ?_); rintro e w' ⟨rfl, ⟨nd, rfl⟩⟩))
  go_ret
  exact ⟨er, by exact h1q HB.out GE142.out⟩
 rw [if_neg c25] at H
 have c25b0 : decide (5 < a0_7) = false := decide_eq_false c25
 clear c25
 by_cases c28 : a0_8 < 0
 ·rw [if_pos c28] at H
  have c28b0 : decide (a0_8 < 0) = true := decide_eq_true c28
  clear c28
  obtain rfl := Option.some.inj H
  go_enter Try.func13, Try.ntmps13
  go_wp2_with (first | ((with_reducible refine gate_dst (N := 1) rfl ?_); refine box_event ?hg (N := 1) ?hd (cs := #[.int .i64 a0_0, .int .i64 a0_1, .int .i64 a0_2, .int .i64 a0_3, .int .i64 a0_4, .int .i64 a0_5, .bool a0_6, .int .i64 a0_7, .int .i64 a0_8, .int .i64 a0_9, .int .i64 a0_10, .int .i64 a0_11, .int .i64 a0_12]) (t := 23) ?hr ?_; (case hd => rfl); (case hg => rfl); (case hr => first | (go_simp; done) | (go_simp; rfl)); intro gb142 hg w29 hbox hb; have n0_ := am (below_step (by exact h0q HB.out) hb); have n1_ := am (hbox); have n2_ := am ((by rw [hg]; exact (below_size (by exact h0q HB.out)) : w.heap.size ≤ gb142)); have n3_ := am ((by rw [hg]; exact (below_size (by exact h0q HB.out)) : w.heap.size ≤ gb142)); clear HB; have HB := n0_; have BK142 := n1_; have GW142 := n2_; have GE142 := n3_; clear n0_ n1_ n2_ n3_; clear hb hbox hg; have hz30 := lc13 BK142.out) | (go_at_call 25; (with_reducible refine (annuityref14_money.calls a0_1 true _ A8.out).mono ?_); rintro e w' ⟨rfl, ⟨nd, rfl⟩⟩) | (go_at_call 25; (with_reducible refine (annuityref14_money.calls a0_4 true _ A10.out).mono ?_); rintro e w' ⟨rfl, ⟨nd, rfl⟩⟩) | (go_at_call 26; (with_reducible refine (annuityref14_micro.calls a0_2 true _ A12.out).mono ?_); rintro e w' ⟨rfl, ⟨nd, rfl⟩⟩) | (go_at_call 26; (with_reducible refine (annuityref14_micro.calls a0_3 true _ A14.out).mono ?_); rintro e w' ⟨rfl, ⟨nd, rfl⟩⟩))
  go_ret
  exact ⟨er, by exact h1q HB.out GE142.out⟩
 rw [if_neg c28] at H
 have c28b0 : decide (a0_8 < 0) = false := decide_eq_false c28
 clear c28
 by_cases c31 : a0_8 > 4
 ·rw [if_pos c31] at H
  have c31b0 : decide (4 < a0_8) = true := decide_eq_true c31
  clear c31
  obtain rfl := Option.some.inj H
  go_enter Try.func13, Try.ntmps13
  go_wp2_with (first | ((with_reducible refine gate_dst (N := 1) rfl ?_); refine box_event ?hg (N := 1) ?hd (cs := #[.int .i64 a0_0, .int .i64 a0_1, .int .i64 a0_2, .int .i64 a0_3, .int .i64 a0_4, .int .i64 a0_5, .bool a0_6, .int .i64 a0_7, .int .i64 a0_8, .int .i64 a0_9, .int .i64 a0_10, .int .i64 a0_11, .int .i64 a0_12]) (t := 23) ?hr ?_; (case hd => rfl); (case hg => rfl); (case hr => first | (go_simp; done) | (go_simp; rfl)); intro gb142 hg w32 hbox hb; have n0_ := am (below_step (by exact h0q HB.out) hb); have n1_ := am (hbox); have n2_ := am ((by rw [hg]; exact (below_size (by exact h0q HB.out)) : w.heap.size ≤ gb142)); have n3_ := am ((by rw [hg]; exact (below_size (by exact h0q HB.out)) : w.heap.size ≤ gb142)); clear HB; have HB := n0_; have BK142 := n1_; have GW142 := n2_; have GE142 := n3_; clear n0_ n1_ n2_ n3_; clear hb hbox hg; have hz33 := lc13 BK142.out) | (go_at_call 25; (with_reducible refine (annuityref14_money.calls a0_1 true _ A8.out).mono ?_); rintro e w' ⟨rfl, ⟨nd, rfl⟩⟩) | (go_at_call 25; (with_reducible refine (annuityref14_money.calls a0_4 true _ A10.out).mono ?_); rintro e w' ⟨rfl, ⟨nd, rfl⟩⟩) | (go_at_call 26; (with_reducible refine (annuityref14_micro.calls a0_2 true _ A12.out).mono ?_); rintro e w' ⟨rfl, ⟨nd, rfl⟩⟩) | (go_at_call 26; (with_reducible refine (annuityref14_micro.calls a0_3 true _ A14.out).mono ?_); rintro e w' ⟨rfl, ⟨nd, rfl⟩⟩))
  go_ret
  exact ⟨er, by exact h1q HB.out GE142.out⟩
 rw [if_neg c31] at H
 have c31b0 : decide (4 < a0_8) = false := decide_eq_false c31
 clear c31
 by_cases c34 : a0_9 < (-1)
 ·rw [if_pos c34] at H
  have c34b0 : decide (a0_9 < (-1)) = true := decide_eq_true c34
  clear c34
  obtain rfl := Option.some.inj H
  go_enter Try.func13, Try.ntmps13
  go_wp2_with (first | ((with_reducible refine gate_dst (N := 1) rfl ?_); refine box_event ?hg (N := 1) ?hd (cs := #[.int .i64 a0_0, .int .i64 a0_1, .int .i64 a0_2, .int .i64 a0_3, .int .i64 a0_4, .int .i64 a0_5, .bool a0_6, .int .i64 a0_7, .int .i64 a0_8, .int .i64 a0_9, .int .i64 a0_10, .int .i64 a0_11, .int .i64 a0_12]) (t := 23) ?hr ?_; (case hd => rfl); (case hg => rfl); (case hr => first | (go_simp; done) | (go_simp; rfl)); intro gb142 hg w35 hbox hb; have n0_ := am (below_step (by exact h0q HB.out) hb); have n1_ := am (hbox); have n2_ := am ((by rw [hg]; exact (below_size (by exact h0q HB.out)) : w.heap.size ≤ gb142)); have n3_ := am ((by rw [hg]; exact (below_size (by exact h0q HB.out)) : w.heap.size ≤ gb142)); clear HB; have HB := n0_; have BK142 := n1_; have GW142 := n2_; have GE142 := n3_; clear n0_ n1_ n2_ n3_; clear hb hbox hg; have hz36 := lc13 BK142.out) | (go_at_call 25; (with_reducible refine (annuityref14_money.calls a0_1 true _ A8.out).mono ?_); rintro e w' ⟨rfl, ⟨nd, rfl⟩⟩) | (go_at_call 25; (with_reducible refine (annuityref14_money.calls a0_4 true _ A10.out).mono ?_); rintro e w' ⟨rfl, ⟨nd, rfl⟩⟩) | (go_at_call 26; (with_reducible refine (annuityref14_micro.calls a0_2 true _ A12.out).mono ?_); rintro e w' ⟨rfl, ⟨nd, rfl⟩⟩) | (go_at_call 26; (with_reducible refine (annuityref14_micro.calls a0_3 true _ A14.out).mono ?_); rintro e w' ⟨rfl, ⟨nd, rfl⟩⟩))
  go_ret
  exact ⟨er, by exact h1q HB.out GE142.out⟩
 rw [if_neg c34] at H
 have c34b0 : decide (a0_9 < (-1)) = false := decide_eq_false c34
 clear c34
 by_cases c37 : a0_9 > 87658
 ·rw [if_pos c37] at H
  have c37b0 : decide (87658 < a0_9) = true := decide_eq_true c37
  clear c37
  obtain rfl := Option.some.inj H
  go_enter Try.func13, Try.ntmps13
  go_wp2_with (first | ((with_reducible refine gate_dst (N := 1) rfl ?_); refine box_event ?hg (N := 1) ?hd (cs := #[.int .i64 a0_0, .int .i64 a0_1, .int .i64 a0_2, .int .i64 a0_3, .int .i64 a0_4, .int .i64 a0_5, .bool a0_6, .int .i64 a0_7, .int .i64 a0_8, .int .i64 a0_9, .int .i64 a0_10, .int .i64 a0_11, .int .i64 a0_12]) (t := 23) ?hr ?_; (case hd => rfl); (case hg => rfl); (case hr => first | (go_simp; done) | (go_simp; rfl)); intro gb142 hg w38 hbox hb; have n0_ := am (below_step (by exact h0q HB.out) hb); have n1_ := am (hbox); have n2_ := am ((by rw [hg]; exact (below_size (by exact h0q HB.out)) : w.heap.size ≤ gb142)); have n3_ := am ((by rw [hg]; exact (below_size (by exact h0q HB.out)) : w.heap.size ≤ gb142)); clear HB; have HB := n0_; have BK142 := n1_; have GW142 := n2_; have GE142 := n3_; clear n0_ n1_ n2_ n3_; clear hb hbox hg; have hz39 := lc13 BK142.out) | (go_at_call 25; (with_reducible refine (annuityref14_money.calls a0_1 true _ A8.out).mono ?_); rintro e w' ⟨rfl, ⟨nd, rfl⟩⟩) | (go_at_call 25; (with_reducible refine (annuityref14_money.calls a0_4 true _ A10.out).mono ?_); rintro e w' ⟨rfl, ⟨nd, rfl⟩⟩) | (go_at_call 26; (with_reducible refine (annuityref14_micro.calls a0_2 true _ A12.out).mono ?_); rintro e w' ⟨rfl, ⟨nd, rfl⟩⟩) | (go_at_call 26; (with_reducible refine (annuityref14_micro.calls a0_3 true _ A14.out).mono ?_); rintro e w' ⟨rfl, ⟨nd, rfl⟩⟩))
  go_ret
  exact ⟨er, by exact h1q HB.out GE142.out⟩
 rw [if_neg c37] at H
 have c37b0 : decide (87658 < a0_9) = false := decide_eq_false c37
 clear c37
 replace H := Option.bind_eq_some_iff.mp H
 obtain ⟨t147, A400, H⟩ := H
 replace H : (if t147 = true then ((annuityref14_money.f a0_11).bind fun t148 => (if t148 = true then (if a0_12 < 0 then (some false) else (if a0_8 = 0 then (some true) else (if a0_1 = 0 then (if a0_2 = 0 then (some (a0_4 == 0)) else (some false)) else (some false)))) else (some false))) else (some false)) = some r := H
 have A40 := am A400
 clear A400
 by_cases c41 : t147 = true
 case neg =>
  replace c41 := Bool.eq_false_iff.mpr c41
  subst c41
  have H1 : (some false) = some r := by rw [if_neg (show ¬ (false = true) by decide)] at H; exact H
  clear H
  have H := H1
  clear H1
  obtain rfl := Option.some.inj H
  go_enter Try.func13, Try.ntmps13
  go_wp2_with (first | ((with_reducible refine gate_dst (N := 1) rfl ?_); refine box_event ?hg (N := 1) ?hd (cs := #[.int .i64 a0_0, .int .i64 a0_1, .int .i64 a0_2, .int .i64 a0_3, .int .i64 a0_4, .int .i64 a0_5, .bool a0_6, .int .i64 a0_7, .int .i64 a0_8, .int .i64 a0_9, .int .i64 a0_10, .int .i64 a0_11, .int .i64 a0_12]) (t := 23) ?hr ?_; (case hd => rfl); (case hg => rfl); (case hr => first | (go_simp; done) | (go_simp; rfl)); intro gb142 hg w60 hbox hb; have n0_ := am (below_step (by exact h0q HB.out) hb); have n1_ := am (hbox); have n2_ := am ((by rw [hg]; exact (below_size (by exact h0q HB.out)) : w.heap.size ≤ gb142)); have n3_ := am ((by rw [hg]; exact (below_size (by exact h0q HB.out)) : w.heap.size ≤ gb142)); clear HB; have HB := n0_; have BK142 := n1_; have GW142 := n2_; have GE142 := n3_; clear n0_ n1_ n2_ n3_; clear hb hbox hg; have hz61 := lc13 BK142.out) | (go_at_call 25; (with_reducible refine (annuityref14_money.calls a0_1 true _ A8.out).mono ?_); rintro e w' ⟨rfl, ⟨nd, rfl⟩⟩) | (go_at_call 25; (with_reducible refine (annuityref14_money.calls a0_4 true _ A10.out).mono ?_); rintro e w' ⟨rfl, ⟨nd, rfl⟩⟩) | (go_at_call 26; (with_reducible refine (annuityref14_micro.calls a0_2 true _ A12.out).mono ?_); rintro e w' ⟨rfl, ⟨nd, rfl⟩⟩) | (go_at_call 26; (with_reducible refine (annuityref14_micro.calls a0_3 true _ A14.out).mono ?_); rintro e w' ⟨rfl, ⟨nd, rfl⟩⟩) | (go_at_call 25; (with_reducible refine (annuityref14_money.calls a0_10 false _ A40.out).mono ?_); rintro e w' ⟨rfl, ⟨nd, rfl⟩⟩))
  go_ret
  exact ⟨er, by exact h1q HB.out GE142.out⟩
 subst c41
 have H1 : ((annuityref14_money.f a0_11).bind fun t148 => (if t148 = true then (if a0_12 < 0 then (some false) else (if a0_8 = 0 then (some true) else (if a0_1 = 0 then (if a0_2 = 0 then (some (a0_4 == 0)) else (some false)) else (some false)))) else (some false))) = some r := by rw [if_pos rfl] at H; exact H
 clear H
 have H := H1
 clear H1
 replace H := Option.bind_eq_some_iff.mp H
 obtain ⟨t148, A420, H⟩ := H
 replace H : (if t148 = true then (if a0_12 < 0 then (some false) else (if a0_8 = 0 then (some true) else (if a0_1 = 0 then (if a0_2 = 0 then (some (a0_4 == 0)) else (some false)) else (some false)))) else (some false)) = some r := H
 have A42 := am A420
 clear A420
 by_cases c43 : t148 = true
 case neg =>
  replace c43 := Bool.eq_false_iff.mpr c43
  subst c43
  have H1 : (some false) = some r := by rw [if_neg (show ¬ (false = true) by decide)] at H; exact H
  clear H
  have H := H1
  clear H1
  obtain rfl := Option.some.inj H
  go_enter Try.func13, Try.ntmps13
  go_wp2_with (first | ((with_reducible refine gate_dst (N := 1) rfl ?_); refine box_event ?hg (N := 1) ?hd (cs := #[.int .i64 a0_0, .int .i64 a0_1, .int .i64 a0_2, .int .i64 a0_3, .int .i64 a0_4, .int .i64 a0_5, .bool a0_6, .int .i64 a0_7, .int .i64 a0_8, .int .i64 a0_9, .int .i64 a0_10, .int .i64 a0_11, .int .i64 a0_12]) (t := 23) ?hr ?_; (case hd => rfl); (case hg => rfl); (case hr => first | (go_simp; done) | (go_simp; rfl)); intro gb142 hg w58 hbox hb; have n0_ := am (below_step (by exact h0q HB.out) hb); have n1_ := am (hbox); have n2_ := am ((by rw [hg]; exact (below_size (by exact h0q HB.out)) : w.heap.size ≤ gb142)); have n3_ := am ((by rw [hg]; exact (below_size (by exact h0q HB.out)) : w.heap.size ≤ gb142)); clear HB; have HB := n0_; have BK142 := n1_; have GW142 := n2_; have GE142 := n3_; clear n0_ n1_ n2_ n3_; clear hb hbox hg; have hz59 := lc13 BK142.out) | (go_at_call 25; (with_reducible refine (annuityref14_money.calls a0_1 true _ A8.out).mono ?_); rintro e w' ⟨rfl, ⟨nd, rfl⟩⟩) | (go_at_call 25; (with_reducible refine (annuityref14_money.calls a0_4 true _ A10.out).mono ?_); rintro e w' ⟨rfl, ⟨nd, rfl⟩⟩) | (go_at_call 26; (with_reducible refine (annuityref14_micro.calls a0_2 true _ A12.out).mono ?_); rintro e w' ⟨rfl, ⟨nd, rfl⟩⟩) | (go_at_call 26; (with_reducible refine (annuityref14_micro.calls a0_3 true _ A14.out).mono ?_); rintro e w' ⟨rfl, ⟨nd, rfl⟩⟩) | (go_at_call 25; (with_reducible refine (annuityref14_money.calls a0_10 true _ A40.out).mono ?_); rintro e w' ⟨rfl, ⟨nd, rfl⟩⟩) | (go_at_call 25; (with_reducible refine (annuityref14_money.calls a0_11 false _ A42.out).mono ?_); rintro e w' ⟨rfl, ⟨nd, rfl⟩⟩))
  go_ret
  exact ⟨er, by exact h1q HB.out GE142.out⟩
 subst c43
 have H1 : (if a0_12 < 0 then (some false) else (if a0_8 = 0 then (some true) else (if a0_1 = 0 then (if a0_2 = 0 then (some (a0_4 == 0)) else (some false)) else (some false)))) = some r := by rw [if_pos rfl] at H; exact H
 clear H
 have H := H1
 clear H1
 by_cases c44 : a0_12 < 0
 ·rw [if_pos c44] at H
  have c44b0 : decide (a0_12 < 0) = true := decide_eq_true c44
  clear c44
  obtain rfl := Option.some.inj H
  go_enter Try.func13, Try.ntmps13
  go_wp2_with (first | ((with_reducible refine gate_dst (N := 1) rfl ?_); refine box_event ?hg (N := 1) ?hd (cs := #[.int .i64 a0_0, .int .i64 a0_1, .int .i64 a0_2, .int .i64 a0_3, .int .i64 a0_4, .int .i64 a0_5, .bool a0_6, .int .i64 a0_7, .int .i64 a0_8, .int .i64 a0_9, .int .i64 a0_10, .int .i64 a0_11, .int .i64 a0_12]) (t := 23) ?hr ?_; (case hd => rfl); (case hg => rfl); (case hr => first | (go_simp; done) | (go_simp; rfl)); intro gb142 hg w45 hbox hb; have n0_ := am (below_step (by exact h0q HB.out) hb); have n1_ := am (hbox); have n2_ := am ((by rw [hg]; exact (below_size (by exact h0q HB.out)) : w.heap.size ≤ gb142)); have n3_ := am ((by rw [hg]; exact (below_size (by exact h0q HB.out)) : w.heap.size ≤ gb142)); clear HB; have HB := n0_; have BK142 := n1_; have GW142 := n2_; have GE142 := n3_; clear n0_ n1_ n2_ n3_; clear hb hbox hg; have hz46 := lc13 BK142.out) | (go_at_call 25; (with_reducible refine (annuityref14_money.calls a0_1 true _ A8.out).mono ?_); rintro e w' ⟨rfl, ⟨nd, rfl⟩⟩) | (go_at_call 25; (with_reducible refine (annuityref14_money.calls a0_4 true _ A10.out).mono ?_); rintro e w' ⟨rfl, ⟨nd, rfl⟩⟩) | (go_at_call 26; (with_reducible refine (annuityref14_micro.calls a0_2 true _ A12.out).mono ?_); rintro e w' ⟨rfl, ⟨nd, rfl⟩⟩) | (go_at_call 26; (with_reducible refine (annuityref14_micro.calls a0_3 true _ A14.out).mono ?_); rintro e w' ⟨rfl, ⟨nd, rfl⟩⟩) | (go_at_call 25; (with_reducible refine (annuityref14_money.calls a0_10 true _ A40.out).mono ?_); rintro e w' ⟨rfl, ⟨nd, rfl⟩⟩) | (go_at_call 25; (with_reducible refine (annuityref14_money.calls a0_11 true _ A42.out).mono ?_); rintro e w' ⟨rfl, ⟨nd, rfl⟩⟩))
  go_ret
  exact ⟨er, by exact h1q HB.out GE142.out⟩
 rw [if_neg c44] at H
 have c44b0 : decide (a0_12 < 0) = false := decide_eq_false c44
 clear c44
 by_cases c47 : a0_8 = 0
 ·rw [if_pos c47] at H
  have c47b0 : (a0_8 == 0) = true := beq_iff_eq.mpr c47
  have c47b1 : (a0_8 != 0) = false := bne_eq_false_iff_eq.mpr c47
  clear c47
  obtain rfl := Option.some.inj H
  go_enter Try.func13, Try.ntmps13
  go_wp2_with (first | ((with_reducible refine gate_dst (N := 1) rfl ?_); refine box_event ?hg (N := 1) ?hd (cs := #[.int .i64 a0_0, .int .i64 a0_1, .int .i64 a0_2, .int .i64 a0_3, .int .i64 a0_4, .int .i64 a0_5, .bool a0_6, .int .i64 a0_7, .int .i64 a0_8, .int .i64 a0_9, .int .i64 a0_10, .int .i64 a0_11, .int .i64 a0_12]) (t := 23) ?hr ?_; (case hd => rfl); (case hg => rfl); (case hr => first | (go_simp; done) | (go_simp; rfl)); intro gb142 hg w48 hbox hb; have n0_ := am (below_step (by exact h0q HB.out) hb); have n1_ := am (hbox); have n2_ := am ((by rw [hg]; exact (below_size (by exact h0q HB.out)) : w.heap.size ≤ gb142)); have n3_ := am ((by rw [hg]; exact (below_size (by exact h0q HB.out)) : w.heap.size ≤ gb142)); clear HB; have HB := n0_; have BK142 := n1_; have GW142 := n2_; have GE142 := n3_; clear n0_ n1_ n2_ n3_; clear hb hbox hg; have hz49 := lc13 BK142.out) | (go_at_call 25; (with_reducible refine (annuityref14_money.calls a0_1 true _ A8.out).mono ?_); rintro e w' ⟨rfl, ⟨nd, rfl⟩⟩) | (go_at_call 25; (with_reducible refine (annuityref14_money.calls a0_4 true _ A10.out).mono ?_); rintro e w' ⟨rfl, ⟨nd, rfl⟩⟩) | (go_at_call 26; (with_reducible refine (annuityref14_micro.calls a0_2 true _ A12.out).mono ?_); rintro e w' ⟨rfl, ⟨nd, rfl⟩⟩) | (go_at_call 26; (with_reducible refine (annuityref14_micro.calls a0_3 true _ A14.out).mono ?_); rintro e w' ⟨rfl, ⟨nd, rfl⟩⟩) | (go_at_call 25; (with_reducible refine (annuityref14_money.calls a0_10 true _ A40.out).mono ?_); rintro e w' ⟨rfl, ⟨nd, rfl⟩⟩) | (go_at_call 25; (with_reducible refine (annuityref14_money.calls a0_11 true _ A42.out).mono ?_); rintro e w' ⟨rfl, ⟨nd, rfl⟩⟩))
  go_ret
  exact ⟨er, by exact h1q HB.out GE142.out⟩
 rw [if_neg c47] at H
 have c47b0 : (a0_8 == 0) = false := beq_eq_false_iff_ne.mpr c47
 have c47b1 : (a0_8 != 0) = true := bne_iff_ne.mpr c47
 by_cases c50 : a0_1 = 0
 case neg =>
  rw [if_neg c50] at H
  have c50b0 : (a0_1 == 0) = false := beq_eq_false_iff_ne.mpr c50
  have c50b1 : (a0_1 != 0) = true := bne_iff_ne.mpr c50
  obtain rfl := Option.some.inj H
  go_enter Try.func13, Try.ntmps13
  go_wp2_with (first | ((with_reducible refine gate_dst (N := 1) rfl ?_); refine box_event ?hg (N := 1) ?hd (cs := #[.int .i64 a0_0, .int .i64 a0_1, .int .i64 a0_2, .int .i64 a0_3, .int .i64 a0_4, .int .i64 a0_5, .bool a0_6, .int .i64 a0_7, .int .i64 a0_8, .int .i64 a0_9, .int .i64 a0_10, .int .i64 a0_11, .int .i64 a0_12]) (t := 23) ?hr ?_; (case hd => rfl); (case hg => rfl); (case hr => first | (go_simp; done) | (go_simp; rfl)); intro gb142 hg w56 hbox hb; have n0_ := am (below_step (by exact h0q HB.out) hb); have n1_ := am (hbox); have n2_ := am ((by rw [hg]; exact (below_size (by exact h0q HB.out)) : w.heap.size ≤ gb142)); have n3_ := am ((by rw [hg]; exact (below_size (by exact h0q HB.out)) : w.heap.size ≤ gb142)); clear HB; have HB := n0_; have BK142 := n1_; have GW142 := n2_; have GE142 := n3_; clear n0_ n1_ n2_ n3_; clear hb hbox hg; have hz57 := lc13 BK142.out) | (go_at_call 25; (with_reducible refine (annuityref14_money.calls a0_1 true _ A8.out).mono ?_); rintro e w' ⟨rfl, ⟨nd, rfl⟩⟩) | (go_at_call 25; (with_reducible refine (annuityref14_money.calls a0_4 true _ A10.out).mono ?_); rintro e w' ⟨rfl, ⟨nd, rfl⟩⟩) | (go_at_call 26; (with_reducible refine (annuityref14_micro.calls a0_2 true _ A12.out).mono ?_); rintro e w' ⟨rfl, ⟨nd, rfl⟩⟩) | (go_at_call 26; (with_reducible refine (annuityref14_micro.calls a0_3 true _ A14.out).mono ?_); rintro e w' ⟨rfl, ⟨nd, rfl⟩⟩) | (go_at_call 25; (with_reducible refine (annuityref14_money.calls a0_10 true _ A40.out).mono ?_); rintro e w' ⟨rfl, ⟨nd, rfl⟩⟩) | (go_at_call 25; (with_reducible refine (annuityref14_money.calls a0_11 true _ A42.out).mono ?_); rintro e w' ⟨rfl, ⟨nd, rfl⟩⟩))
  go_ret
  exact ⟨er, by exact h1q HB.out GE142.out⟩
 rw [if_pos c50] at H
 have c50b0 : (a0_1 == 0) = true := beq_iff_eq.mpr c50
 have c50b1 : (a0_1 != 0) = false := bne_eq_false_iff_eq.mpr c50
 clear c50
 by_cases c51 : a0_2 = 0
 case neg =>
  rw [if_neg c51] at H
  have c51b0 : (a0_2 == 0) = false := beq_eq_false_iff_ne.mpr c51
  have c51b1 : (a0_2 != 0) = true := bne_iff_ne.mpr c51
  obtain rfl := Option.some.inj H
  go_enter Try.func13, Try.ntmps13
  go_wp2_with (first | ((with_reducible refine gate_dst (N := 1) rfl ?_); refine box_event ?hg (N := 1) ?hd (cs := #[.int .i64 a0_0, .int .i64 a0_1, .int .i64 a0_2, .int .i64 a0_3, .int .i64 a0_4, .int .i64 a0_5, .bool a0_6, .int .i64 a0_7, .int .i64 a0_8, .int .i64 a0_9, .int .i64 a0_10, .int .i64 a0_11, .int .i64 a0_12]) (t := 23) ?hr ?_; (case hd => rfl); (case hg => rfl); (case hr => first | (go_simp; done) | (go_simp; rfl)); intro gb142 hg w54 hbox hb; have n0_ := am (below_step (by exact h0q HB.out) hb); have n1_ := am (hbox); have n2_ := am ((by rw [hg]; exact (below_size (by exact h0q HB.out)) : w.heap.size ≤ gb142)); have n3_ := am ((by rw [hg]; exact (below_size (by exact h0q HB.out)) : w.heap.size ≤ gb142)); clear HB; have HB := n0_; have BK142 := n1_; have GW142 := n2_; have GE142 := n3_; clear n0_ n1_ n2_ n3_; clear hb hbox hg; have hz55 := lc13 BK142.out) | (go_at_call 25; (with_reducible refine (annuityref14_money.calls a0_1 true _ A8.out).mono ?_); rintro e w' ⟨rfl, ⟨nd, rfl⟩⟩) | (go_at_call 25; (with_reducible refine (annuityref14_money.calls a0_4 true _ A10.out).mono ?_); rintro e w' ⟨rfl, ⟨nd, rfl⟩⟩) | (go_at_call 26; (with_reducible refine (annuityref14_micro.calls a0_2 true _ A12.out).mono ?_); rintro e w' ⟨rfl, ⟨nd, rfl⟩⟩) | (go_at_call 26; (with_reducible refine (annuityref14_micro.calls a0_3 true _ A14.out).mono ?_); rintro e w' ⟨rfl, ⟨nd, rfl⟩⟩) | (go_at_call 25; (with_reducible refine (annuityref14_money.calls a0_10 true _ A40.out).mono ?_); rintro e w' ⟨rfl, ⟨nd, rfl⟩⟩) | (go_at_call 25; (with_reducible refine (annuityref14_money.calls a0_11 true _ A42.out).mono ?_); rintro e w' ⟨rfl, ⟨nd, rfl⟩⟩))
  go_ret
  exact ⟨er, by exact h1q HB.out GE142.out⟩
 rw [if_pos c51] at H
 have c51b0 : (a0_2 == 0) = true := beq_iff_eq.mpr c51
 have c51b1 : (a0_2 != 0) = false := bne_eq_false_iff_eq.mpr c51
 clear c51
 obtain rfl := Option.some.inj H
 go_enter Try.func13, Try.ntmps13
 go_wp2_with (first | ((with_reducible refine gate_dst (N := 1) rfl ?_); refine box_event ?hg (N := 1) ?hd (cs := #[.int .i64 a0_0, .int .i64 a0_1, .int .i64 a0_2, .int .i64 a0_3, .int .i64 a0_4, .int .i64 a0_5, .bool a0_6, .int .i64 a0_7, .int .i64 a0_8, .int .i64 a0_9, .int .i64 a0_10, .int .i64 a0_11, .int .i64 a0_12]) (t := 23) ?hr ?_; (case hd => rfl); (case hg => rfl); (case hr => first | (go_simp; done) | (go_simp; rfl)); intro gb142 hg w52 hbox hb; have n0_ := am (below_step (by exact h0q HB.out) hb); have n1_ := am (hbox); have n2_ := am ((by rw [hg]; exact (below_size (by exact h0q HB.out)) : w.heap.size ≤ gb142)); have n3_ := am ((by rw [hg]; exact (below_size (by exact h0q HB.out)) : w.heap.size ≤ gb142)); clear HB; have HB := n0_; have BK142 := n1_; have GW142 := n2_; have GE142 := n3_; clear n0_ n1_ n2_ n3_; clear hb hbox hg; have hz53 := lc13 BK142.out) | (go_at_call 25; (with_reducible refine (annuityref14_money.calls a0_1 true _ A8.out).mono ?_); rintro e w' ⟨rfl, ⟨nd, rfl⟩⟩) | (go_at_call 25; (with_reducible refine (annuityref14_money.calls a0_4 true _ A10.out).mono ?_); rintro e w' ⟨rfl, ⟨nd, rfl⟩⟩) | (go_at_call 26; (with_reducible refine (annuityref14_micro.calls a0_2 true _ A12.out).mono ?_); rintro e w' ⟨rfl, ⟨nd, rfl⟩⟩) | (go_at_call 26; (with_reducible refine (annuityref14_micro.calls a0_3 true _ A14.out).mono ?_); rintro e w' ⟨rfl, ⟨nd, rfl⟩⟩) | (go_at_call 25; (with_reducible refine (annuityref14_money.calls a0_10 true _ A40.out).mono ?_); rintro e w' ⟨rfl, ⟨nd, rfl⟩⟩) | (go_at_call 25; (with_reducible refine (annuityref14_money.calls a0_11 true _ A42.out).mono ?_); rintro e w' ⟨rfl, ⟨nd, rfl⟩⟩))
 go_ret
 exact ⟨er, by exact h1q HB.out GE142.out⟩
def annuityref15_money.f (a0 : Int) : Option (Bool) := if a0 ≥ 0 then ((annuityref01_Good.f a0).bind fun t149 => (some t149)) else (some false)
set_option maxHeartbeats 8000000 in
set_option maxRecDepth 100000 in
theorem annuityref15_money.calls (a0 : Int) (r : Bool) (w : World) (h : annuityref15_money.f a0 = some r) :
  Calls Try.prog 27 #[.int .i64 a0] w fun e w' => e = .returned (.bool r) ∧ Drawn0 w w' := by
 have H : (if a0 ≥ 0 then ((annuityref01_Good.f a0).bind fun t149 => (some t149)) else (some false)) = some r := h
 clear h
 by_cases c2 : a0 ≥ 0
 case neg =>
  rw [if_neg c2] at H
  have c2b0 : decide (0 ≤ a0) = false := decide_eq_false c2
  clear c2
  obtain rfl := Option.some.inj H
  go_enter Try.func27, Try.ntmps27
  go_wp2
  go_ret
  exact ⟨by first | rfl | (simp; done) | (simp [*]; done), by repeat (first | exact Drawn0.refl _ | apply Drawn0.step)⟩
 rw [if_pos c2] at H
 have c2b0 : decide (0 ≤ a0) = true := decide_eq_true c2
 clear c2
 replace H := Option.bind_eq_some_iff.mp H
 obtain ⟨t149, A30, H⟩ := H
 replace H : (some t149) = some r := H
 have A3 := am A30
 clear A30
 obtain rfl := Option.some.inj H
 go_enter Try.func27, Try.ntmps27
 go_wp2_with (first | (go_at_call 42; (with_reducible refine (annuityref01_Good.calls a0 t149 _ A3.out).mono ?_); rintro e w' ⟨rfl, ⟨nd, rfl⟩⟩))
 go_ret
 exact ⟨by first | rfl | (simp; done) | (simp [*]; done), by repeat (first | exact Drawn0.refl _ | apply Drawn0.step)⟩
def annuityref01_Mul.f (a0 : Int) (a1 : Int) : Option (Int × Int) := some (IntKind.u64.wrap ((IntKind.u64.wrap ((IntKind.u64.wrap ((a0 / 4294967296) * (a1 / 4294967296))) + ((IntKind.u64.wrap ((IntKind.u64.wrap ((a0 / 4294967296) * (Go.bits .and .u64 a1 4294967295))) + ((IntKind.u64.wrap ((Go.bits .and .u64 a0 4294967295) * (Go.bits .and .u64 a1 4294967295))) / 4294967296))) / 4294967296))) + ((IntKind.u64.wrap ((IntKind.u64.wrap ((Go.bits .and .u64 a0 4294967295) * (a1 / 4294967296))) + (Go.bits .and .u64 (IntKind.u64.wrap ((IntKind.u64.wrap ((a0 / 4294967296) * (Go.bits .and .u64 a1 4294967295))) + ((IntKind.u64.wrap ((Go.bits .and .u64 a0 4294967295) * (Go.bits .and .u64 a1 4294967295))) / 4294967296))) 4294967295))) / 4294967296)), IntKind.u64.wrap ((IntKind.u64.wrap ((IntKind.u64.wrap ((IntKind.u64.wrap ((Go.bits .and .u64 a0 4294967295) * (a1 / 4294967296))) + (Go.bits .and .u64 (IntKind.u64.wrap ((IntKind.u64.wrap ((a0 / 4294967296) * (Go.bits .and .u64 a1 4294967295))) + ((IntKind.u64.wrap ((Go.bits .and .u64 a0 4294967295) * (Go.bits .and .u64 a1 4294967295))) / 4294967296))) 4294967295))) * 4294967296)) + (Go.bits .and .u64 (IntKind.u64.wrap ((Go.bits .and .u64 a0 4294967295) * (Go.bits .and .u64 a1 4294967295))) 4294967295)))
set_option maxHeartbeats 8000000 in
set_option maxRecDepth 100000 in
theorem annuityref01_Mul.calls (a0 : Int) (a1 : Int) (r1 : Int) (r2 : Int) (w : World) (h : annuityref01_Mul.f a0 a1 = some (r1, r2)) :
  Calls Try.prog 86 #[.int .u64 a0, .int .u64 a1] w fun e w' => e = .returned (.agg #[.int .u64 r1, .int .u64 r2]) ∧ Below w.heap.size w w' := by
 have hu115 := Try.underlying115
 have HB := am (Below.refl w.heap.size w)
 have H : (some (IntKind.u64.wrap ((IntKind.u64.wrap ((IntKind.u64.wrap ((a0 / 4294967296) * (a1 / 4294967296))) + ((IntKind.u64.wrap ((IntKind.u64.wrap ((a0 / 4294967296) * (Go.bits .and .u64 a1 4294967295))) + ((IntKind.u64.wrap ((Go.bits .and .u64 a0 4294967295) * (Go.bits .and .u64 a1 4294967295))) / 4294967296))) / 4294967296))) + ((IntKind.u64.wrap ((IntKind.u64.wrap ((Go.bits .and .u64 a0 4294967295) * (a1 / 4294967296))) + (Go.bits .and .u64 (IntKind.u64.wrap ((IntKind.u64.wrap ((a0 / 4294967296) * (Go.bits .and .u64 a1 4294967295))) + ((IntKind.u64.wrap ((Go.bits .and .u64 a0 4294967295) * (Go.bits .and .u64 a1 4294967295))) / 4294967296))) 4294967295))) / 4294967296)), IntKind.u64.wrap ((IntKind.u64.wrap ((IntKind.u64.wrap ((IntKind.u64.wrap ((Go.bits .and .u64 a0 4294967295) * (a1 / 4294967296))) + (Go.bits .and .u64 (IntKind.u64.wrap ((IntKind.u64.wrap ((a0 / 4294967296) * (Go.bits .and .u64 a1 4294967295))) + ((IntKind.u64.wrap ((Go.bits .and .u64 a0 4294967295) * (Go.bits .and .u64 a1 4294967295))) / 4294967296))) 4294967295))) * 4294967296)) + (Go.bits .and .u64 (IntKind.u64.wrap ((Go.bits .and .u64 a0 4294967295) * (Go.bits .and .u64 a1 4294967295))) 4294967295)))) = some (r1, r2) := h
 clear h
 simp only [Option.some.injEq, Prod.mk.injEq] at H
 obtain ⟨rfl, rfl⟩ := H
 go_enter Try.func86, Try.ntmps86
 go_wp2_with (first | ((with_reducible refine gate_dst (N := 4) rfl ?_); refine box_event ?hg (N := 4) ?hd (cs := #[.int .u64 0, .int .u64 0]) (t := 115) ?hr ?_; (case hd => rfl); (case hg => rfl); (case hr => first | (go_simp; done) | (go_simp; rfl)); intro gb150 hg w3 hbox hb; have n0_ := am (below_step (by exact h0q HB.out) hb); have n1_ := am (hbox); have n2_ := am ((by rw [hg]; exact (below_size (by exact h0q HB.out)) : w.heap.size ≤ gb150)); have n3_ := am ((by rw [hg]; exact (below_size (by exact h0q HB.out)) : w.heap.size ≤ gb150)); clear HB; have HB := n0_; have BK150 := n1_; have GW150 := n2_; have GE150 := n3_; clear n0_ n1_ n2_ n3_; clear hb hbox hg; have hcz4_0 : w3.cell? ⟨gb150, 0, none⟩ = some (.int .u64 0) := (blk_cell BK150.out 0).trans rfl; have hcz4_1 : w3.cell? ⟨gb150, 1, none⟩ = some (.int .u64 0) := (blk_cell BK150.out 1).trans rfl; have hfz4_0 := blk_frozen BK150.out 0; have hfz4_1 := blk_frozen BK150.out 1))
 refine bodyPost_ret (results_cell_row rfl _ _ gb150 115 #[.int .u64 (IntKind.u64.wrap ((IntKind.u64.wrap ((IntKind.u64.wrap ((a0 / 4294967296) * (a1 / 4294967296))) + ((IntKind.u64.wrap ((IntKind.u64.wrap ((a0 / 4294967296) * (Go.bits .and .u64 a1 4294967295))) + ((IntKind.u64.wrap ((Go.bits .and .u64 a0 4294967295) * (Go.bits .and .u64 a1 4294967295))) / 4294967296))) / 4294967296))) + ((IntKind.u64.wrap ((IntKind.u64.wrap ((Go.bits .and .u64 a0 4294967295) * (a1 / 4294967296))) + (Go.bits .and .u64 (IntKind.u64.wrap ((IntKind.u64.wrap ((a0 / 4294967296) * (Go.bits .and .u64 a1 4294967295))) + ((IntKind.u64.wrap ((Go.bits .and .u64 a0 4294967295) * (Go.bits .and .u64 a1 4294967295))) / 4294967296))) 4294967295))) / 4294967296))), .int .u64 (IntKind.u64.wrap ((IntKind.u64.wrap ((IntKind.u64.wrap ((IntKind.u64.wrap ((Go.bits .and .u64 a0 4294967295) * (a1 / 4294967296))) + (Go.bits .and .u64 (IntKind.u64.wrap ((IntKind.u64.wrap ((a0 / 4294967296) * (Go.bits .and .u64 a1 4294967295))) + ((IntKind.u64.wrap ((Go.bits .and .u64 a0 4294967295) * (Go.bits .and .u64 a1 4294967295))) / 4294967296))) 4294967295))) * 4294967296)) + (Go.bits .and .u64 (IntKind.u64.wrap ((Go.bits .and .u64 a0 4294967295) * (Go.bits .and .u64 a1 4294967295))) 4294967295)))] (0, 0) _ rfl (by (with_reducible repeat (first | refine blk_drewN ?_ _ | refine blk_drew ?_ | refine blk_alloc ?_ _)); refine blk_put (cs := #[.int .u64 (IntKind.u64.wrap ((IntKind.u64.wrap ((IntKind.u64.wrap ((a0 / 4294967296) * (a1 / 4294967296))) + ((IntKind.u64.wrap ((IntKind.u64.wrap ((a0 / 4294967296) * (Go.bits .and .u64 a1 4294967295))) + ((IntKind.u64.wrap ((Go.bits .and .u64 a0 4294967295) * (Go.bits .and .u64 a1 4294967295))) / 4294967296))) / 4294967296))) + ((IntKind.u64.wrap ((IntKind.u64.wrap ((Go.bits .and .u64 a0 4294967295) * (a1 / 4294967296))) + (Go.bits .and .u64 (IntKind.u64.wrap ((IntKind.u64.wrap ((a0 / 4294967296) * (Go.bits .and .u64 a1 4294967295))) + ((IntKind.u64.wrap ((Go.bits .and .u64 a0 4294967295) * (Go.bits .and .u64 a1 4294967295))) / 4294967296))) 4294967295))) / 4294967296))), .int .u64 0]) ?_ 1 _ rfl; (with_reducible repeat (first | refine blk_drewN ?_ _ | refine blk_drew ?_ | refine blk_alloc ?_ _)); refine blk_put (cs := #[.int .u64 0, .int .u64 0]) ?_ 0 _ rfl; (with_reducible repeat (first | refine blk_drewN ?_ _ | refine blk_drew ?_ | refine blk_alloc ?_ _)); exact BK150.out) Try.underlying115 rfl (by kernel_rfl)) rfl ?_
 exact ⟨er, by exact h1q HB.out GE150.out⟩
mutual
def annuityref01_Div.j0 : Nat → Int → Int → Int → Bool → Option (Int × Int × Bool)
 | 0, _, _, _, _ => none
 | k + 1, x0, x1, x2, x17 => if x17 = true then (some (0, 0, false)) else (annuityref01_Div.l0 k x1 x2 0 x0 63)
def annuityref01_Div.l0 : Nat → Int → Int → Int → Int → Int → Option (Int × Int × Bool)
 | 0, _, _, _, _, _ => none
 | k + 1, x1, x2, x7, x8, x9 => if x9 ≥ 0 then (if 0 ≤ (IntKind.u64.wrap (x9)) then (if (x8 / 9223372036854775808) = 1 then (annuityref01_Div.l0 k x1 x2 (IntKind.u64.wrap ((IntKind.u64.wrap (x7 * 2)) + 1)) (IntKind.u64.wrap ((IntKind.u64.wrap ((IntKind.u64.wrap (x8 * 2)) + (Go.bits .and .u64 (shr .u64 x1 (IntKind.u64.wrap (x9))) 1))) - x2)) (wrap64 (x9 - 1))) else (if (IntKind.u64.wrap ((IntKind.u64.wrap (x8 * 2)) + (Go.bits .and .u64 (shr .u64 x1 (IntKind.u64.wrap (x9))) 1))) ≥ x2 then (annuityref01_Div.l0 k x1 x2 (IntKind.u64.wrap ((IntKind.u64.wrap (x7 * 2)) + 1)) (IntKind.u64.wrap ((IntKind.u64.wrap ((IntKind.u64.wrap (x8 * 2)) + (Go.bits .and .u64 (shr .u64 x1 (IntKind.u64.wrap (x9))) 1))) - x2)) (wrap64 (x9 - 1))) else (annuityref01_Div.l0 k x1 x2 (IntKind.u64.wrap (x7 * 2)) (IntKind.u64.wrap ((IntKind.u64.wrap (x8 * 2)) + (Go.bits .and .u64 (shr .u64 x1 (IntKind.u64.wrap (x9))) 1))) (wrap64 (x9 - 1))))) else (none)) else (some (x7, x8, true))
end
def annuityref01_Div.f (k : Nat) (a0 : Int) (a1 : Int) (a2 : Int) : Option (Int × Int × Bool) := if a2 = 0 then (annuityref01_Div.j0 k a0 a1 a2 true) else (annuityref01_Div.j0 k a0 a1 a2 (decide (a0 ≥ a2)))
set_option maxHeartbeats 8000000 in
set_option maxRecDepth 100000 in
theorem annuityref01_Div.calls (k : Nat) (a0 : Int) (a1 : Int) (a2 : Int) (r1 : Int) (r2 : Int) (r3 : Bool) (w : World) (h : annuityref01_Div.f k a0 a1 a2 = some (r1, r2, r3)) :
  Calls Try.prog 87 #[.int .u64 a0, .int .u64 a1, .int .u64 a2] w fun e w' => e = .returned (.agg #[.int .u64 r1, .int .u64 r2, .bool r3]) ∧ Below w.heap.size w w' := by
 have hu118 := Try.underlying118
 have HB := am (Below.refl w.heap.size w)
 have H : (if a2 = 0 then (annuityref01_Div.j0 k a0 a1 a2 true) else (annuityref01_Div.j0 k a0 a1 a2 (decide (a0 ≥ a2)))) = some (r1, r2, r3) := h
 clear h
 have HC4 := am H
 clear H
 go_enter Try.func87, Try.ntmps87
 go_upto_region 1 with (first | ((with_reducible refine gate_dst (N := 6) rfl ?_); refine box_event ?hg (N := 6) ?hd (cs := #[.int .u64 0, .int .u64 0, .bool false]) (t := 118) ?hr ?_; (case hd => rfl); (case hg => rfl); (case hr => first | (go_simp; done) | (go_simp; rfl)); intro gb151 hg w5 hbox hb; have n0_ := am (below_step (by exact h0q HB.out) hb); have n1_ := am (hbox); have n2_ := am ((by rw [hg]; exact (below_size (by exact h0q HB.out)) : w.heap.size ≤ gb151)); have n3_ := am ((by rw [hg]; exact (below_size (by exact h0q HB.out)) : w.heap.size ≤ gb151)); clear HB; have HB := n0_; have BK151 := n1_; have GW151 := n2_; have GE151 := n3_; clear n0_ n1_ n2_ n3_; clear hb hbox hg))
 (try simp only [Act.put, List.setIfInBounds_toArray, List.set_cons_zero, List.set_cons_succ])
 go_cut [17] (fun v17 wc => ∃ (kq : Nat) (x17_3 : Bool), v17 = .bool x17_3 ∧ Aside0 (annuityref01_Div.j0 kq a0 a1 a2 x17_3 = some (r1, r2, r3)) ∧ Aside0 (kq ≤ k) ∧ Aside0 (wc.heap[gb151]? = some (.cells #[.int .u64 0, .int .u64 0, .bool false] 118 (0, 0))) ∧ Aside0 (Below w.heap.size w wc))
 case first =>
  have H := HC4.out
  clear HC4
  by_cases c6 : a2 = 0
  ·rw [if_pos c6] at H
   have c6b0 : (a2 == 0) = true := beq_iff_eq.mpr c6
   have c6b1 : (a2 != 0) = false := bne_eq_false_iff_eq.mpr c6
   clear c6
   (first | rw [c6b0] | (simp only [i64_w, i32_w]; rw [c6b0]) | skip)
   have H' := am H
   clear H
   go_wp2
   go_meet
   case rel => exact ⟨_, (true), (by first | rfl | (simp; done) | (simp [*]; done)), H', ⟨by first | omega | exact Nat.le_refl _⟩, ⟨by exact bb BK151.out⟩, ⟨by exact h1q HB.out GE151.out⟩⟩
  ·rw [if_neg c6] at H
   have c6b0 : (a2 == 0) = false := beq_eq_false_iff_ne.mpr c6
   have c6b1 : (a2 != 0) = true := bne_iff_ne.mpr c6
   (first | rw [c6b0] | (simp only [i64_w, i32_w]; rw [c6b0]) | skip)
   have H' := am H
   clear H
   go_wp2
   go_meet
   case rel => exact ⟨_, (decide (a0 ≥ a2)), (by first | rfl | (simp; done) | (simp [*]; done)), H', ⟨by first | omega | exact Nat.le_refl _⟩, ⟨by exact bb BK151.out⟩, ⟨by exact h1q HB.out GE151.out⟩⟩
 case rest =>
  clear HC4
  try clear c6
  try clear c6b0 c6b1
  obtain ⟨kq, x17_3, rfl, HA, HJ3, BK151, HB⟩ := hcut
  rcases kq with _ | kj3
  ·exact absurd HA.out (by simp [annuityref01_Div.j0])
  have H := HA.out
  clear HA
  simp only [annuityref01_Div.j0] at H
  by_cases c7 : x17_3 = true
  ·subst c7
   have H1 : (some (0, 0, false)) = some (r1, r2, r3) := by rw [if_pos rfl] at H; exact H
   clear H
   have H := H1
   clear H1
   simp only [Option.some.injEq, Prod.mk.injEq] at H
   obtain ⟨rfl, rfl, rfl⟩ := H
   have hcz8_0 : wc.cell? ⟨gb151, 0, none⟩ = some (.int .u64 0) := (blk_cell BK151.out 0).trans rfl
   have hcz8_1 : wc.cell? ⟨gb151, 1, none⟩ = some (.int .u64 0) := (blk_cell BK151.out 1).trans rfl
   have hcz8_2 : wc.cell? ⟨gb151, 2, none⟩ = some (.bool false) := (blk_cell BK151.out 2).trans rfl
   have hfz8_0 := blk_frozen BK151.out 0
   have hfz8_1 := blk_frozen BK151.out 1
   have hfz8_2 := blk_frozen BK151.out 2
   go_wp2
   refine bodyPost_ret (results_cell_row rfl _ _ gb151 118 #[.int .u64 0, .int .u64 0, .bool false] (0, 0) _ rfl (by (with_reducible repeat (first | refine blk_drewN ?_ _ | refine blk_drew ?_ | refine blk_alloc ?_ _)); refine blk_put (cs := #[.int .u64 0, .int .u64 0, .bool false]) ?_ 2 _ rfl; (with_reducible repeat (first | refine blk_drewN ?_ _ | refine blk_drew ?_ | refine blk_alloc ?_ _)); refine blk_put (cs := #[.int .u64 0, .int .u64 0, .bool false]) ?_ 1 _ rfl; (with_reducible repeat (first | refine blk_drewN ?_ _ | refine blk_drew ?_ | refine blk_alloc ?_ _)); refine blk_put (cs := #[.int .u64 0, .int .u64 0, .bool false]) ?_ 0 _ rfl; (with_reducible repeat (first | refine blk_drewN ?_ _ | refine blk_drew ?_ | refine blk_alloc ?_ _)); exact BK151.out) Try.underlying118 rfl (by kernel_rfl)) rfl ?_
   exact ⟨er, by exact h1q HB.out GE151.out⟩
  ·replace c7 := Bool.eq_false_iff.mpr c7
   subst c7
   have H1 : (annuityref01_Div.l0 kj3 a1 a2 0 a0 63) = some (r1, r2, r3) := by rw [if_neg (show ¬ (false = true) by decide)] at H; exact H
   clear H
   have H := H1
   clear H1
   have H' := am H
   clear H
   go_wp2
   go_loopg [7, 8, 9] kj3 (fun kq v7 v8 v9 w' => ∃ (x7_2 : Int) (x8_2 : Int) (x9_2 : Int), v7 = .int .u64 x7_2 ∧ v8 = .int .u64 x8_2 ∧ v9 = .int .i64 x9_2 ∧ Aside0 (annuityref01_Div.l0 kq a1 a2 x7_2 x8_2 x9_2 = some (r1, r2, r3)) ∧ Aside0 (kq ≤ kj3) ∧ Aside0 (w'.heap[gb151]? = some (.cells #[.int .u64 0, .int .u64 0, .bool false] 118 (0, 0))) ∧ Aside0 (Below w.heap.size w w'))
   case atStart => exact ⟨(0), (a0), (63), (by first | rfl | (simp; done) | (simp [*]; done)), (by first | rfl | (simp; done) | (simp [*]; done)), (by first | rfl | (simp; done) | (simp [*]; done)), H', ⟨Nat.le_refl _⟩, ⟨by exact bb BK151.out⟩, ⟨by exact h1q HB.out GE151.out⟩⟩
   case round =>
    clear H'
    try clear c6
    try clear c6b0 c6b1
    try clear c7
    try clear hcz8_0
    try clear hcz8_1
    try clear hcz8_2
    try clear hfz8_0
    try clear hfz8_1
    try clear hfz8_2
    obtain ⟨x7_2, x8_2, x9_2, rfl, rfl, rfl, HA, HK2, BK151, HB⟩ := hrel
    rcases gk with _ | k2
    ·exact absurd HA.out (by simp [annuityref01_Div.l0])
    have H := HA.out
    clear HA
    simp only [annuityref01_Div.l0] at H
    by_cases c9 : x9_2 ≥ 0
    ·rw [if_pos c9] at H
     have c9b0 : decide (0 ≤ x9_2) = true := decide_eq_true c9
     clear c9
     obtain ⟨ji10, hji10⟩ : ∃ j_ : Int, (IntKind.u64.wrap (x9_2)) = j_ := ⟨_, rfl⟩
     replace H : (if 0 ≤ (ji10) then (if (x8_2 / 9223372036854775808) = 1 then (annuityref01_Div.l0 k2 a1 a2 (IntKind.u64.wrap ((IntKind.u64.wrap (x7_2 * 2)) + 1)) (IntKind.u64.wrap ((IntKind.u64.wrap ((IntKind.u64.wrap (x8_2 * 2)) + (Go.bits .and .u64 (shr .u64 a1 (ji10)) 1))) - a2)) (wrap64 (x9_2 - 1))) else (if (IntKind.u64.wrap ((IntKind.u64.wrap (x8_2 * 2)) + (Go.bits .and .u64 (shr .u64 a1 (ji10)) 1))) ≥ a2 then (annuityref01_Div.l0 k2 a1 a2 (IntKind.u64.wrap ((IntKind.u64.wrap (x7_2 * 2)) + 1)) (IntKind.u64.wrap ((IntKind.u64.wrap ((IntKind.u64.wrap (x8_2 * 2)) + (Go.bits .and .u64 (shr .u64 a1 (ji10)) 1))) - a2)) (wrap64 (x9_2 - 1))) else (annuityref01_Div.l0 k2 a1 a2 (IntKind.u64.wrap (x7_2 * 2)) (IntKind.u64.wrap ((IntKind.u64.wrap (x8_2 * 2)) + (Go.bits .and .u64 (shr .u64 a1 (ji10)) 1))) (wrap64 (x9_2 - 1))))) else (none)) = some (r1, r2, r3) := by first | (rw [hji10] at H; exact H) | (simp only [hji10] at H ⊢; exact H)
     by_cases c11 : 0 ≤ (ji10)
     ·rw [if_pos c11] at H
      have c11b0 := eq_true c11
      have c11b1 : decide (0 ≤ (ji10)) = true := decide_eq_true c11
      clear c11
      obtain ⟨ji12, hji12⟩ : ∃ j_ : Int, (shr .u64 a1 (ji10)) = j_ := ⟨_, rfl⟩
      replace H : (if (x8_2 / 9223372036854775808) = 1 then (annuityref01_Div.l0 k2 a1 a2 (IntKind.u64.wrap ((IntKind.u64.wrap (x7_2 * 2)) + 1)) (IntKind.u64.wrap ((IntKind.u64.wrap ((IntKind.u64.wrap (x8_2 * 2)) + (Go.bits .and .u64 (ji12) 1))) - a2)) (wrap64 (x9_2 - 1))) else (if (IntKind.u64.wrap ((IntKind.u64.wrap (x8_2 * 2)) + (Go.bits .and .u64 (ji12) 1))) ≥ a2 then (annuityref01_Div.l0 k2 a1 a2 (IntKind.u64.wrap ((IntKind.u64.wrap (x7_2 * 2)) + 1)) (IntKind.u64.wrap ((IntKind.u64.wrap ((IntKind.u64.wrap (x8_2 * 2)) + (Go.bits .and .u64 (ji12) 1))) - a2)) (wrap64 (x9_2 - 1))) else (annuityref01_Div.l0 k2 a1 a2 (IntKind.u64.wrap (x7_2 * 2)) (IntKind.u64.wrap ((IntKind.u64.wrap (x8_2 * 2)) + (Go.bits .and .u64 (ji12) 1))) (wrap64 (x9_2 - 1))))) = some (r1, r2, r3) := by first | (rw [hji12] at H; exact H) | (simp only [hji12] at H ⊢; exact H)
      have hji12_ : (a1 / 2 ^ min (ji10).toNat 64) = ji12 := hji12
      have hji12z : (ji10) ≤ 64 → (a1 / 2 ^ (ji10).toNat) = ji12 := shr_small hji12
      by_cases c13 : (x8_2 / 9223372036854775808) = 1
      ·rw [if_pos c13] at H
       have c13b0 : ((x8_2 / 9223372036854775808) == 1) = true := beq_iff_eq.mpr c13
       have c13b1 : ((x8_2 / 9223372036854775808) != 1) = false := bne_eq_false_iff_eq.mpr c13
       clear c13
       have H' := am H
       clear H
       go_wp2
       go_roundg k2
       case measure => have := HJ3.out; have := HK2.out; omega
       case rel => exact ⟨(IntKind.u64.wrap ((IntKind.u64.wrap (x7_2 * 2)) + 1)), (IntKind.u64.wrap ((IntKind.u64.wrap ((IntKind.u64.wrap (x8_2 * 2)) + (Go.bits .and .u64 (ji12) 1))) - a2)), (wrap64 (x9_2 - 1)), (by first | rfl | (simp; done) | (simp [*]; done)), (by first | rfl | (simp; done) | (simp only [← hji12] <;> (first | rfl | simp)) | (simp [*]; done)), (by first | rfl | (simp; done) | (simp [*]; done)), H', ⟨by have := HJ3.out; have := HK2.out; omega⟩, ⟨by exact bb BK151.out⟩, ⟨by exact h1q HB.out GE151.out⟩⟩
      ·rw [if_neg c13] at H
       have c13b0 : ((x8_2 / 9223372036854775808) == 1) = false := beq_eq_false_iff_ne.mpr c13
       have c13b1 : ((x8_2 / 9223372036854775808) != 1) = true := bne_iff_ne.mpr c13
       by_cases c14 : (IntKind.u64.wrap ((IntKind.u64.wrap (x8_2 * 2)) + (Go.bits .and .u64 (ji12) 1))) ≥ a2
       ·rw [if_pos c14] at H
        have c14b0 : decide (a2 ≤ (IntKind.u64.wrap ((IntKind.u64.wrap (x8_2 * 2)) + (Go.bits .and .u64 (ji12) 1)))) = true := decide_eq_true c14
        clear c14
        have H' := am H
        clear H
        go_wp2
        go_roundg k2
        case measure => have := HJ3.out; have := HK2.out; omega
        case rel => exact ⟨(IntKind.u64.wrap ((IntKind.u64.wrap (x7_2 * 2)) + 1)), (IntKind.u64.wrap ((IntKind.u64.wrap ((IntKind.u64.wrap (x8_2 * 2)) + (Go.bits .and .u64 (ji12) 1))) - a2)), (wrap64 (x9_2 - 1)), (by first | rfl | (simp; done) | (simp [*]; done)), (by first | rfl | (simp; done) | (simp only [← hji12] <;> (first | rfl | simp)) | (simp [*]; done)), (by first | rfl | (simp; done) | (simp [*]; done)), H', ⟨by have := HJ3.out; have := HK2.out; omega⟩, ⟨by exact bb BK151.out⟩, ⟨by exact h1q HB.out GE151.out⟩⟩
       ·rw [if_neg c14] at H
        have c14b0 : decide (a2 ≤ (IntKind.u64.wrap ((IntKind.u64.wrap (x8_2 * 2)) + (Go.bits .and .u64 (ji12) 1)))) = false := decide_eq_false c14
        clear c14
        have H' := am H
        clear H
        go_wp2
        go_roundg k2
        case measure => have := HJ3.out; have := HK2.out; omega
        case rel => exact ⟨(IntKind.u64.wrap (x7_2 * 2)), (IntKind.u64.wrap ((IntKind.u64.wrap (x8_2 * 2)) + (Go.bits .and .u64 (ji12) 1))), (wrap64 (x9_2 - 1)), (by first | rfl | (simp; done) | (simp [*]; done)), (by first | rfl | (simp; done) | (simp only [← hji12] <;> (first | rfl | simp)) | (simp [*]; done)), (by first | rfl | (simp; done) | (simp [*]; done)), H', ⟨by have := HJ3.out; have := HK2.out; omega⟩, ⟨by exact bb BK151.out⟩, ⟨by exact h1q HB.out GE151.out⟩⟩
     ·rw [if_neg c11] at H
      exact absurd H (by simp)
    ·rw [if_neg c9] at H
     have c9b0 : decide (0 ≤ x9_2) = false := decide_eq_false c9
     clear c9
     simp only [Option.some.injEq, Prod.mk.injEq] at H
     obtain ⟨rfl, rfl, rfl⟩ := H
     have hcz15_0 : wr.cell? ⟨gb151, 0, none⟩ = some (.int .u64 0) := (blk_cell BK151.out 0).trans rfl
     have hcz15_1 : wr.cell? ⟨gb151, 1, none⟩ = some (.int .u64 0) := (blk_cell BK151.out 1).trans rfl
     have hcz15_2 : wr.cell? ⟨gb151, 2, none⟩ = some (.bool false) := (blk_cell BK151.out 2).trans rfl
     have hfz15_0 := blk_frozen BK151.out 0
     have hfz15_1 := blk_frozen BK151.out 1
     have hfz15_2 := blk_frozen BK151.out 2
     go_wp2
     refine bodyPost_ret (results_cell_row rfl _ _ gb151 118 #[.int .u64 x7_2, .int .u64 x8_2, .bool true] (0, 0) _ rfl (by (with_reducible repeat (first | refine blk_drewN ?_ _ | refine blk_drew ?_ | refine blk_alloc ?_ _)); refine blk_put (cs := #[.int .u64 x7_2, .int .u64 x8_2, .bool false]) ?_ 2 _ rfl; (with_reducible repeat (first | refine blk_drewN ?_ _ | refine blk_drew ?_ | refine blk_alloc ?_ _)); refine blk_put (cs := #[.int .u64 x7_2, .int .u64 0, .bool false]) ?_ 1 _ rfl; (with_reducible repeat (first | refine blk_drewN ?_ _ | refine blk_drew ?_ | refine blk_alloc ?_ _)); refine blk_put (cs := #[.int .u64 0, .int .u64 0, .bool false]) ?_ 0 _ rfl; (with_reducible repeat (first | refine blk_drewN ?_ _ | refine blk_drew ?_ | refine blk_alloc ?_ _)); exact BK151.out) Try.underlying118 rfl (by kernel_rfl)) rfl ?_
     exact ⟨er, by exact h1q HB.out GE151.out⟩
mutual
def annuityref01_MulDiv.j0 : Nat → Int → Int → Int → Int → Bool → Option (Int × Int)
 | 0, _, _, _, _, _ => none
 | k + 1, x0, x1, x2, x3, x31 => if x31 = true then (some (0, 1)) else ((annuityref01_Mul.f (IntKind.u64.wrap (x0)) (IntKind.u64.wrap (x1))).bind fun bt152 => ((annuityref01_Div.f k bt152.1 bt152.2 (IntKind.u64.wrap (x2))).bind fun bt155 => (if bt155.2.2 = true then (annuityref01_MulDiv.j1 k x2 x3 (decide (bt155.1 > 10000000000000)) bt155.1 bt155.2.1 bt155.2.2) else (annuityref01_MulDiv.j1 k x2 x3 true bt155.1 bt155.2.1 bt155.2.2))))
def annuityref01_MulDiv.j1 : Nat → Int → Int → Bool → Int → Int → Bool → Option (Int × Int)
 | 0, _, _, _, _, _, _ => none
 | k + 1, x2, x3, x51, x159000, x159001, x159002 => if x51 = true then (some (0, 14)) else (if x3 = 1 then (annuityref01_MulDiv.j2 k x2 x3 (wrap64 (x159000)) (decide (x159001 > 0)) x159000 x159001 x159002) else (annuityref01_MulDiv.j2 k x2 x3 (wrap64 (x159000)) false x159000 x159001 x159002))
def annuityref01_MulDiv.j2 : Nat → Int → Int → Int → Bool → Int → Int → Bool → Option (Int × Int)
 | 0, _, _, _, _, _, _, _ => none
 | k + 1, x2, x3, x12, x55, x159000, x159001, x159002 => if x55 = true then (if (wrap64 (x12 + 1)) > 10000000000000 then (some (0, 14)) else (some (wrap64 (x12 + 1), 0))) else (if x3 = 2 then (if x159001 > (IntKind.u64.wrap ((IntKind.u64.wrap (x2)) - x159001)) then (annuityref01_MulDiv.j3 k x12 true) else (if x159001 = (IntKind.u64.wrap ((IntKind.u64.wrap (x2)) - x159001)) then (annuityref01_MulDiv.j3 k x12 ((Int.tmod x12 2) == 1)) else (annuityref01_MulDiv.j3 k x12 false))) else (if x12 > 10000000000000 then (some (0, 14)) else (some (x12, 0))))
def annuityref01_MulDiv.j3 : Nat → Int → Bool → Option (Int × Int)
 | 0, _, _ => none
 | k + 1, x12, x87 => if x87 = true then (if (wrap64 (x12 + 1)) > 10000000000000 then (some (0, 14)) else (some (wrap64 (x12 + 1), 0))) else (if x12 > 10000000000000 then (some (0, 14)) else (some (x12, 0)))
end
def annuityref01_MulDiv.f (k : Nat) (a0 : Int) (a1 : Int) (a2 : Int) (a3 : Int) : Option (Int × Int) := if a0 < 0 then (annuityref01_MulDiv.j0 k a0 a1 a2 a3 true) else (if a1 < 0 then (annuityref01_MulDiv.j0 k a0 a1 a2 a3 true) else (if a2 ≤ 0 then (annuityref01_MulDiv.j0 k a0 a1 a2 a3 true) else (if a3 < 0 then (annuityref01_MulDiv.j0 k a0 a1 a2 a3 true) else (annuityref01_MulDiv.j0 k a0 a1 a2 a3 (decide (a3 > 2))))))
set_option maxHeartbeats 8000000 in
set_option maxRecDepth 100000 in
theorem annuityref01_MulDiv.calls (k : Nat) (a0 : Int) (a1 : Int) (a2 : Int) (a3 : Int) (r1 : Int) (r2 : Int) (w : World) (h : annuityref01_MulDiv.f k a0 a1 a2 a3 = some (r1, r2)) :
  Calls Try.prog 70 #[.int .i64 a0, .int .i64 a1, .int .i64 a2, .int .i64 a3] w fun e w' => e = .returned (.tuple #[.int .i64 r1, .int .i64 r2]) ∧ Below w.heap.size w w' := by
 have hu115 := Try.underlying115
 have hu118 := Try.underlying118
 have HB := am (Below.refl w.heap.size w)
 have H : (if a0 < 0 then (annuityref01_MulDiv.j0 k a0 a1 a2 a3 true) else (if a1 < 0 then (annuityref01_MulDiv.j0 k a0 a1 a2 a3 true) else (if a2 ≤ 0 then (annuityref01_MulDiv.j0 k a0 a1 a2 a3 true) else (if a3 < 0 then (annuityref01_MulDiv.j0 k a0 a1 a2 a3 true) else (annuityref01_MulDiv.j0 k a0 a1 a2 a3 (decide (a3 > 2))))))) = some (r1, r2) := h
 clear h
 have HC5 := am H
 clear H
 go_enter Try.func70, Try.ntmps70
 go_upto_region 1 with (fail)
 go_cut [31] (fun v31 wc => ∃ (kq : Nat) (x31_4 : Bool), v31 = .bool x31_4 ∧ Aside0 (annuityref01_MulDiv.j0 kq a0 a1 a2 a3 x31_4 = some (r1, r2)) ∧ Aside0 (kq ≤ k) ∧ Aside0 (Below w.heap.size w wc))
 case first =>
  have H := HC5.out
  clear HC5
  by_cases c6 : a0 < 0
  ·rw [if_pos c6] at H
   have c6b0 : decide (a0 < 0) = true := decide_eq_true c6
   clear c6
   (first | rw [c6b0] | (simp only [i64_w, i32_w]; rw [c6b0]) | skip)
   have H' := am H
   clear H
   go_wp2
   go_meet
   case rel => exact ⟨_, (true), (by first | rfl | (simp; done) | (simp [*]; done)), H', ⟨by first | omega | exact Nat.le_refl _⟩, ⟨by exact h0q HB.out⟩⟩
  rw [if_neg c6] at H
  have c6b0 : decide (a0 < 0) = false := decide_eq_false c6
  clear c6
  (first | rw [c6b0] | (simp only [i64_w, i32_w]; rw [c6b0]) | skip)
  by_cases c7 : a1 < 0
  ·rw [if_pos c7] at H
   have c7b0 : decide (a1 < 0) = true := decide_eq_true c7
   clear c7
   have H' := am H
   clear H
   go_wp2
   go_meet
   case rel => exact ⟨_, (true), (by first | rfl | (simp; done) | (simp [*]; done)), H', ⟨by first | omega | exact Nat.le_refl _⟩, ⟨by exact h0q HB.out⟩⟩
  rw [if_neg c7] at H
  have c7b0 : decide (a1 < 0) = false := decide_eq_false c7
  clear c7
  by_cases c8 : a2 ≤ 0
  ·rw [if_pos c8] at H
   have c8b0 : decide (a2 ≤ 0) = true := decide_eq_true c8
   clear c8
   have H' := am H
   clear H
   go_wp2
   go_meet
   case rel => exact ⟨_, (true), (by first | rfl | (simp; done) | (simp [*]; done)), H', ⟨by first | omega | exact Nat.le_refl _⟩, ⟨by exact h0q HB.out⟩⟩
  rw [if_neg c8] at H
  have c8b0 : decide (a2 ≤ 0) = false := decide_eq_false c8
  clear c8
  by_cases c9 : a3 < 0
  ·rw [if_pos c9] at H
   have c9b0 : decide (a3 < 0) = true := decide_eq_true c9
   clear c9
   have H' := am H
   clear H
   go_wp2
   go_meet
   case rel => exact ⟨_, (true), (by first | rfl | (simp; done) | (simp [*]; done)), H', ⟨by first | omega | exact Nat.le_refl _⟩, ⟨by exact h0q HB.out⟩⟩
  rw [if_neg c9] at H
  have c9b0 : decide (a3 < 0) = false := decide_eq_false c9
  clear c9
  have H' := am H
  clear H
  go_wp2
  go_meet
  case rel => exact ⟨_, (decide (a3 > 2)), (by first | rfl | (simp; done) | (simp [*]; done)), H', ⟨by first | omega | exact Nat.le_refl _⟩, ⟨by exact h0q HB.out⟩⟩
 case rest =>
  clear HC5
  try clear c6
  try clear c6b0
  try clear c7
  try clear c7b0
  try clear c8
  try clear c8b0
  try clear c9
  try clear c9b0
  obtain ⟨kq, x31_4, rfl, HA, HJ4, HB⟩ := hcut
  rcases kq with _ | kj4
  ·exact absurd HA.out (by simp [annuityref01_MulDiv.j0])
  have H := HA.out
  clear HA
  simp only [annuityref01_MulDiv.j0] at H
  by_cases c10 : x31_4 = true
  ·subst c10
   have H1 : (some (0, 1)) = some (r1, r2) := by rw [if_pos rfl] at H; exact H
   clear H
   have H := H1
   clear H1
   simp only [Option.some.injEq, Prod.mk.injEq] at H
   obtain ⟨rfl, rfl⟩ := H
   go_wp2
   go_ret2
   exact ⟨er, by exact h0q HB.out⟩
  replace c10 := Bool.eq_false_iff.mpr c10
  subst c10
  have H1 : ((annuityref01_Mul.f (IntKind.u64.wrap (a0)) (IntKind.u64.wrap (a1))).bind fun bt152 => ((annuityref01_Div.f kj4 bt152.1 bt152.2 (IntKind.u64.wrap (a2))).bind fun bt155 => (if bt155.2.2 = true then (annuityref01_MulDiv.j1 kj4 a2 a3 (decide (bt155.1 > 10000000000000)) bt155.1 bt155.2.1 bt155.2.2) else (annuityref01_MulDiv.j1 kj4 a2 a3 true bt155.1 bt155.2.1 bt155.2.2)))) = some (r1, r2) := by rw [if_neg (show ¬ (false = true) by decide)] at H; exact H
  clear H
  have H := H1
  clear H1
  replace H := Option.bind_eq_some_iff.mp H
  obtain ⟨⟨t152, t153⟩, A110, H⟩ := H
  replace H : ((annuityref01_Div.f kj4 t152 t153 (IntKind.u64.wrap (a2))).bind fun bt155 => (if bt155.2.2 = true then (annuityref01_MulDiv.j1 kj4 a2 a3 (decide (bt155.1 > 10000000000000)) bt155.1 bt155.2.1 bt155.2.2) else (annuityref01_MulDiv.j1 kj4 a2 a3 true bt155.1 bt155.2.1 bt155.2.2))) = some (r1, r2) := H
  have A11 := am A110
  clear A110
  replace H := Option.bind_eq_some_iff.mp H
  obtain ⟨⟨t155, t156, t157⟩, A120, H⟩ := H
  replace H : (if t157 = true then (annuityref01_MulDiv.j1 kj4 a2 a3 (decide (t155 > 10000000000000)) t155 t156 t157) else (annuityref01_MulDiv.j1 kj4 a2 a3 true t155 t156 t157)) = some (r1, r2) := H
  have A12 := am A120
  clear A120
  have HC13 := am H
  clear H
  go_upto_region 5 with (first | ((with_reducible refine gate_callee (f := 86) rfl ?_); refine goesL_ (some 36) rfl rfl Try.func86 (by kernel_rfl) rfl #[.int .u64 (IntKind.u64.wrap (a0)), .int .u64 (IntKind.u64.wrap (a1))] rfl ml ?_; (with_reducible refine (annuityref01_Mul.calls (IntKind.u64.wrap (a0)) (IntKind.u64.wrap (a1)) t152 t153 _ A11.out).mono ?_); rintro e w14 ⟨rfl, hb⟩; refine ⟨_, rfl, ?_⟩; have n0_ := am (below_step (by exact h0q HB.out) hb); clear HB; have HB := n0_; clear n0_; (try clear hb); (try clear hb2); (try clear hk); (try clear hi)) | ((with_reducible refine gate_dst (N := 10) rfl ?_); refine box_event ?hg (N := 10) ?hd (cs := #[.int .u64 0, .int .u64 0]) (t := 115) ?hr ?_; (case hd => rfl); (case hg => rfl); (case hr => first | (go_simp; done) | (go_simp; rfl)); intro gb154 hg w15 hbox hb; have n0_ := am (below_step (by exact h0q HB.out) hb); have n1_ := am (hbox); have n2_ := am ((by rw [hg]; exact (below_size (by exact h0q HB.out)) : w.heap.size ≤ gb154)); have n3_ := am ((by rw [hg]; exact (below_size (by exact h0q HB.out)) : w.heap.size ≤ gb154)); clear HB; have HB := n0_; have BK154 := n1_; have GW154 := n2_; have GE154 := n3_; clear n0_ n1_ n2_ n3_; clear hb hbox hg; have hcz16_0 : w15.cell? ⟨gb154, 0, none⟩ = some (.int .u64 0) := (blk_cell BK154.out 0).trans rfl; have hcz16_1 : w15.cell? ⟨gb154, 1, none⟩ = some (.int .u64 0) := (blk_cell BK154.out 1).trans rfl; have hfz16_0 := blk_frozen BK154.out 0; have hfz16_1 := blk_frozen BK154.out 1) | ((with_reducible refine gate_callee (f := 87) rfl ?_); refine goesL_ (some 43) rfl rfl Try.func87 (by kernel_rfl) rfl #[.int .u64 t152, .int .u64 t153, .int .u64 (IntKind.u64.wrap (a2))] rfl ml ?_; (with_reducible refine (annuityref01_Div.calls kj4 t152 t153 (IntKind.u64.wrap (a2)) t155 t156 t157 _ A12.out).mono ?_); rintro e w17 ⟨rfl, hb⟩; refine ⟨_, rfl, ?_⟩; have n0_ := am (blk_below (g := gb154) (o := .cells #[.int .u64 t152, .int .u64 t153] 115 (0, 0)) (by (with_reducible repeat (first | refine blk_drewN ?_ _ | refine blk_drew ?_ | refine blk_alloc ?_ _)); refine blk_put (cs := #[.int .u64 t152, .int .u64 0]) ?_ 1 _ rfl; (with_reducible repeat (first | refine blk_drewN ?_ _ | refine blk_drew ?_ | refine blk_alloc ?_ _)); refine blk_put (cs := #[.int .u64 0, .int .u64 0]) ?_ 0 _ rfl; (with_reducible repeat (first | refine blk_drewN ?_ _ | refine blk_drew ?_ | refine blk_alloc ?_ _)); exact BK154.out) hb); have n1_ := am (below_step (by exact h1q HB.out GE154.out) hb); clear BK154; clear HB; have BK154 := n0_; have HB := n1_; clear n0_ n1_; (try clear hb); (try clear hb2); (try clear hk); (try clear hi)) | ((with_reducible refine gate_dst (N := 11) rfl ?_); refine box_event ?hg (N := 11) ?hd (cs := #[.int .u64 0, .int .u64 0, .bool false]) (t := 118) ?hr ?_; (case hd => rfl); (case hg => rfl); (case hr => first | (go_simp; done) | (go_simp; rfl)); intro gb158 hg w18 hbox hb; have n0_ := am (blk_below (g := gb154) (Up.up BK154.out) hb); have n1_ := am (below_step (by exact h1q HB.out GE154.out) hb); have n2_ := am (hbox); have n3_ := am ((by rw [hg]; exact (below_size (by exact h1q HB.out GE154.out)) : w.heap.size ≤ gb158)); have n4_ := am ((by rw [hg]; exact (below_size (by exact h1q HB.out GE154.out)) : w.heap.size ≤ gb158)); have n5_ := am ((by rw [hg]; exact Nat.ne_of_lt (blk_lt (g := gb154) (Up.up BK154.out)) : gb154 ≠ gb158)); have n6_ := am ((by rw [hg]; exact Nat.ne_of_gt (blk_lt (g := gb154) (Up.up BK154.out)) : gb158 ≠ gb154)); clear BK154; clear HB; have BK154 := n0_; have HB := n1_; have BK158 := n2_; have GW158 := n3_; have GE158 := n4_; have NB154_158 := n5_; have NB158_154 := n6_; clear n0_ n1_ n2_ n3_ n4_ n5_ n6_; clear hb hbox hg; have hnb19 := NB158_154.out; have hnc19 := NB154_158.out; have hcz20_0 : w18.cell? ⟨gb158, 0, none⟩ = some (.int .u64 0) := (blk_cell BK158.out 0).trans rfl; have hcz20_1 : w18.cell? ⟨gb158, 1, none⟩ = some (.int .u64 0) := (blk_cell BK158.out 1).trans rfl; have hcz20_2 : w18.cell? ⟨gb158, 2, none⟩ = some (.bool false) := (blk_cell BK158.out 2).trans rfl; have hfz20_0 := blk_frozen BK158.out 0; have hfz20_1 := blk_frozen BK158.out 1; have hfz20_2 := blk_frozen BK158.out 2))
  (try simp only [Act.put, List.setIfInBounds_toArray, List.set_cons_zero, List.set_cons_succ])
  go_cut [51] (fun v51 wc => ∃ (kq : Nat) (x51_12 : Bool), v51 = .bool x51_12 ∧ Aside0 (annuityref01_MulDiv.j1 kq a2 a3 x51_12 t155 t156 t157 = some (r1, r2)) ∧ Aside0 (kq ≤ kj4) ∧ Aside0 (wc.heap[gb154]? = some (.cells #[.int .u64 t152, .int .u64 t153] 115 (0, 0))) ∧ Aside0 (wc.heap[gb158]? = some (.cells #[.int .u64 t155, .int .u64 t156, .bool t157] 118 (0, 0))) ∧ Aside0 (Below w.heap.size w wc))
  case first =>
   have H := HC13.out
   clear HC13
   by_cases c21 : t157 = true
   ·subst c21
    have H1 : (annuityref01_MulDiv.j1 kj4 a2 a3 (decide (t155 > 10000000000000)) t155 t156 true) = some (r1, r2) := by rw [if_pos rfl] at H; exact H
    clear H
    have H := H1
    clear H1
    have H' := am H
    clear H
    have hnb22 := NB158_154.out
    have hnc22 := NB154_158.out
    have hcz23_0 : w18.cell? ⟨gb158, 0, none⟩ = some (.int .u64 0) := (blk_cell BK158.out 0).trans rfl
    have hcz23_1 : w18.cell? ⟨gb158, 1, none⟩ = some (.int .u64 0) := (blk_cell BK158.out 1).trans rfl
    have hcz23_2 : w18.cell? ⟨gb158, 2, none⟩ = some (.bool false) := (blk_cell BK158.out 2).trans rfl
    have hfz23_0 := blk_frozen BK158.out 0
    have hfz23_1 := blk_frozen BK158.out 1
    have hfz23_2 := blk_frozen BK158.out 2
    go_wp2
    go_meet
    case rel => exact ⟨_, (decide (t155 > 10000000000000)), (by first | rfl | (simp; done) | (simp [*]; done)), H', ⟨by have := HJ4.out; first | omega | exact Nat.le_refl _⟩, ⟨by (iterate 3 ((with_reducible repeat (first | refine blk_drewN ?_ _ | refine blk_drew ?_ | refine blk_alloc ?_ _)); refine blk_far ?_ NB154_158.out _)); (with_reducible repeat (first | refine blk_drewN ?_ _ | refine blk_drew ?_ | refine blk_alloc ?_ _)); exact BK154.out⟩, ⟨by (with_reducible repeat (first | refine blk_drewN ?_ _ | refine blk_drew ?_ | refine blk_alloc ?_ _)); refine blk_put (cs := #[.int .u64 t155, .int .u64 t156, .bool false]) ?_ 2 _ rfl; (with_reducible repeat (first | refine blk_drewN ?_ _ | refine blk_drew ?_ | refine blk_alloc ?_ _)); refine blk_put (cs := #[.int .u64 t155, .int .u64 0, .bool false]) ?_ 1 _ rfl; (with_reducible repeat (first | refine blk_drewN ?_ _ | refine blk_drew ?_ | refine blk_alloc ?_ _)); refine blk_put (cs := #[.int .u64 0, .int .u64 0, .bool false]) ?_ 0 _ rfl; (with_reducible repeat (first | refine blk_drewN ?_ _ | refine blk_drew ?_ | refine blk_alloc ?_ _)); exact BK158.out⟩, ⟨by exact h2q HB.out GE154.out GE158.out⟩⟩
   replace c21 := Bool.eq_false_iff.mpr c21
   subst c21
   have H1 : (annuityref01_MulDiv.j1 kj4 a2 a3 true t155 t156 false) = some (r1, r2) := by rw [if_neg (show ¬ (false = true) by decide)] at H; exact H
   clear H
   have H := H1
   clear H1
   have H' := am H
   clear H
   have hnb24 := NB158_154.out
   have hnc24 := NB154_158.out
   have hcz25_0 : w18.cell? ⟨gb158, 0, none⟩ = some (.int .u64 0) := (blk_cell BK158.out 0).trans rfl
   have hcz25_1 : w18.cell? ⟨gb158, 1, none⟩ = some (.int .u64 0) := (blk_cell BK158.out 1).trans rfl
   have hcz25_2 : w18.cell? ⟨gb158, 2, none⟩ = some (.bool false) := (blk_cell BK158.out 2).trans rfl
   have hfz25_0 := blk_frozen BK158.out 0
   have hfz25_1 := blk_frozen BK158.out 1
   have hfz25_2 := blk_frozen BK158.out 2
   go_wp2
   go_meet
   case rel => exact ⟨_, (true), (by first | rfl | (simp; done) | (simp [*]; done)), H', ⟨by have := HJ4.out; first | omega | exact Nat.le_refl _⟩, ⟨by (iterate 3 ((with_reducible repeat (first | refine blk_drewN ?_ _ | refine blk_drew ?_ | refine blk_alloc ?_ _)); refine blk_far ?_ NB154_158.out _)); (with_reducible repeat (first | refine blk_drewN ?_ _ | refine blk_drew ?_ | refine blk_alloc ?_ _)); exact BK154.out⟩, ⟨by (with_reducible repeat (first | refine blk_drewN ?_ _ | refine blk_drew ?_ | refine blk_alloc ?_ _)); refine blk_put (cs := #[.int .u64 t155, .int .u64 t156, .bool false]) ?_ 2 _ rfl; (with_reducible repeat (first | refine blk_drewN ?_ _ | refine blk_drew ?_ | refine blk_alloc ?_ _)); refine blk_put (cs := #[.int .u64 t155, .int .u64 0, .bool false]) ?_ 1 _ rfl; (with_reducible repeat (first | refine blk_drewN ?_ _ | refine blk_drew ?_ | refine blk_alloc ?_ _)); refine blk_put (cs := #[.int .u64 0, .int .u64 0, .bool false]) ?_ 0 _ rfl; (with_reducible repeat (first | refine blk_drewN ?_ _ | refine blk_drew ?_ | refine blk_alloc ?_ _)); exact BK158.out⟩, ⟨by exact h2q HB.out GE154.out GE158.out⟩⟩
  case rest =>
   clear HC13
   try clear c6
   try clear c6b0
   try clear c7
   try clear c7b0
   try clear c8
   try clear c8b0
   try clear c9
   try clear c9b0
   try clear c10
   try clear c21
   try clear hcz16_0
   try clear hcz16_1
   try clear hcz20_0
   try clear hcz20_1
   try clear hcz20_2
   try clear hcz23_0
   try clear hcz23_1
   try clear hcz23_2
   try clear hcz25_0
   try clear hcz25_1
   try clear hcz25_2
   try clear hfz16_0
   try clear hfz16_1
   try clear hfz20_0
   try clear hfz20_1
   try clear hfz20_2
   try clear hfz23_0
   try clear hfz23_1
   try clear hfz23_2
   try clear hfz25_0
   try clear hfz25_1
   try clear hfz25_2
   obtain ⟨kq, x51_12, rfl, HA, HJ12, BK154, BK158, HB⟩ := hcut
   rcases kq with _ | kj12
   ·exact absurd HA.out (by simp [annuityref01_MulDiv.j1])
   have H := HA.out
   clear HA
   simp only [annuityref01_MulDiv.j1] at H
   by_cases c26 : x51_12 = true
   ·subst c26
    have H1 : (some (0, 14)) = some (r1, r2) := by rw [if_pos rfl] at H; exact H
    clear H
    have H := H1
    clear H1
    simp only [Option.some.injEq, Prod.mk.injEq] at H
    obtain ⟨rfl, rfl⟩ := H
    go_wp2
    go_ret2
    exact ⟨er, by exact h2q HB.out GE154.out GE158.out⟩
   replace c26 := Bool.eq_false_iff.mpr c26
   subst c26
   have H1 : (if a3 = 1 then (annuityref01_MulDiv.j2 kj12 a2 a3 (wrap64 (t155)) (decide (t156 > 0)) t155 t156 t157) else (annuityref01_MulDiv.j2 kj12 a2 a3 (wrap64 (t155)) false t155 t156 t157)) = some (r1, r2) := by rw [if_neg (show ¬ (false = true) by decide)] at H; exact H
   clear H
   have H := H1
   clear H1
   have HC27 := am H
   clear H
   have hnb28 := NB158_154.out
   have hnc28 := NB154_158.out
   have hcz29_0 : wc.cell? ⟨gb158, 0, none⟩ = some (.int .u64 t155) := (blk_cell BK158.out 0).trans rfl
   have hcz29_1 : wc.cell? ⟨gb158, 1, none⟩ = some (.int .u64 t156) := (blk_cell BK158.out 1).trans rfl
   have hcz29_2 : wc.cell? ⟨gb158, 2, none⟩ = some (.bool t157) := (blk_cell BK158.out 2).trans rfl
   have hfz29_0 := blk_frozen BK158.out 0
   have hfz29_1 := blk_frozen BK158.out 1
   have hfz29_2 := blk_frozen BK158.out 2
   go_upto_region 8 with (fail)
   go_cut [55] (fun v55 wc => ∃ (kq : Nat) (x55_26 : Bool), v55 = .bool x55_26 ∧ Aside0 (annuityref01_MulDiv.j2 kq a2 a3 (wrap64 (t155)) x55_26 t155 t156 t157 = some (r1, r2)) ∧ Aside0 (kq ≤ kj12) ∧ Aside0 (wc.heap[gb154]? = some (.cells #[.int .u64 t152, .int .u64 t153] 115 (0, 0))) ∧ Aside0 (wc.heap[gb158]? = some (.cells #[.int .u64 t155, .int .u64 t156, .bool t157] 118 (0, 0))) ∧ Aside0 (Below w.heap.size w wc))
   case first =>
    have H := HC27.out
    clear HC27
    by_cases c30 : a3 = 1
    case neg =>
     rw [if_neg c30] at H
     have c30b0 : (a3 == 1) = false := beq_eq_false_iff_ne.mpr c30
     have c30b1 : (a3 != 1) = true := bne_iff_ne.mpr c30
     (first | rw [c30b0] | (simp only [i64_w, i32_w]; rw [c30b0]) | skip)
     have H' := am H
     clear H
     go_wp2
     go_meet
     case rel => exact ⟨_, (false), (by first | rfl | (simp; done) | (simp [*]; done)), H', ⟨by have := HJ4.out; have := HJ12.out; first | omega | exact Nat.le_refl _⟩, ⟨by exact bb BK154.out⟩, ⟨by exact bb BK158.out⟩, ⟨by exact h2q HB.out GE154.out GE158.out⟩⟩
    rw [if_pos c30] at H
    have c30b0 : (a3 == 1) = true := beq_iff_eq.mpr c30
    have c30b1 : (a3 != 1) = false := bne_eq_false_iff_eq.mpr c30
    clear c30
    (first | rw [c30b0] | (simp only [i64_w, i32_w]; rw [c30b0]) | skip)
    have H' := am H
    clear H
    have hnb31 := NB158_154.out
    have hnc31 := NB154_158.out
    have hcz32_0 : wc.cell? ⟨gb158, 0, none⟩ = some (.int .u64 t155) := (blk_cell BK158.out 0).trans rfl
    have hcz32_1 : wc.cell? ⟨gb158, 1, none⟩ = some (.int .u64 t156) := (blk_cell BK158.out 1).trans rfl
    have hcz32_2 : wc.cell? ⟨gb158, 2, none⟩ = some (.bool t157) := (blk_cell BK158.out 2).trans rfl
    have hfz32_0 := blk_frozen BK158.out 0
    have hfz32_1 := blk_frozen BK158.out 1
    have hfz32_2 := blk_frozen BK158.out 2
    go_wp2
    go_meet
    case rel => exact ⟨_, (decide (t156 > 0)), (by first | rfl | (simp; done) | (simp [*]; done)), H', ⟨by have := HJ4.out; have := HJ12.out; first | omega | exact Nat.le_refl _⟩, ⟨by exact bb BK154.out⟩, ⟨by exact bb BK158.out⟩, ⟨by exact h2q HB.out GE154.out GE158.out⟩⟩
   case rest =>
    clear HC27
    try clear c6
    try clear c6b0
    try clear c7
    try clear c7b0
    try clear c8
    try clear c8b0
    try clear c9
    try clear c9b0
    try clear c10
    try clear c21
    try clear c26
    try clear c30
    try clear c30b0 c30b1
    try clear hcz16_0
    try clear hcz16_1
    try clear hcz20_0
    try clear hcz20_1
    try clear hcz20_2
    try clear hcz23_0
    try clear hcz23_1
    try clear hcz23_2
    try clear hcz25_0
    try clear hcz25_1
    try clear hcz25_2
    try clear hcz29_0
    try clear hcz29_1
    try clear hcz29_2
    try clear hcz32_0
    try clear hcz32_1
    try clear hcz32_2
    try clear hfz16_0
    try clear hfz16_1
    try clear hfz20_0
    try clear hfz20_1
    try clear hfz20_2
    try clear hfz23_0
    try clear hfz23_1
    try clear hfz23_2
    try clear hfz25_0
    try clear hfz25_1
    try clear hfz25_2
    try clear hfz29_0
    try clear hfz29_1
    try clear hfz29_2
    try clear hfz32_0
    try clear hfz32_1
    try clear hfz32_2
    obtain ⟨kq, x55_26, rfl, HA, HJ26, BK154, BK158, HB⟩ := hcut
    rcases kq with _ | kj26
    ·exact absurd HA.out (by simp [annuityref01_MulDiv.j2])
    have H := HA.out
    clear HA
    simp only [annuityref01_MulDiv.j2] at H
    by_cases c33 : x55_26 = true
    ·subst c33
     have H1 : (if (wrap64 ((wrap64 (t155)) + 1)) > 10000000000000 then (some (0, 14)) else (some (wrap64 ((wrap64 (t155)) + 1), 0))) = some (r1, r2) := by rw [if_pos rfl] at H; exact H
     clear H
     have H := H1
     clear H1
     by_cases c34 : (wrap64 ((wrap64 (t155)) + 1)) > 10000000000000
     ·rw [if_pos c34] at H
      have c34b0 : decide (10000000000000 < (wrap64 ((wrap64 (t155)) + 1))) = true := decide_eq_true c34
      clear c34
      simp only [Option.some.injEq, Prod.mk.injEq] at H
      obtain ⟨rfl, rfl⟩ := H
      go_wp2
      go_ret2
      exact ⟨er, by exact h2q HB.out GE154.out GE158.out⟩
     rw [if_neg c34] at H
     have c34b0 : decide (10000000000000 < (wrap64 ((wrap64 (t155)) + 1))) = false := decide_eq_false c34
     clear c34
     simp only [Option.some.injEq, Prod.mk.injEq] at H
     obtain ⟨rfl, rfl⟩ := H
     go_wp2
     go_ret2
     exact ⟨er, by exact h2q HB.out GE154.out GE158.out⟩
    replace c33 := Bool.eq_false_iff.mpr c33
    subst c33
    have H1 : (if a3 = 2 then (if t156 > (IntKind.u64.wrap ((IntKind.u64.wrap (a2)) - t156)) then (annuityref01_MulDiv.j3 kj26 (wrap64 (t155)) true) else (if t156 = (IntKind.u64.wrap ((IntKind.u64.wrap (a2)) - t156)) then (annuityref01_MulDiv.j3 kj26 (wrap64 (t155)) ((Int.tmod (wrap64 (t155)) 2) == 1)) else (annuityref01_MulDiv.j3 kj26 (wrap64 (t155)) false))) else (if (wrap64 (t155)) > 10000000000000 then (some (0, 14)) else (some ((wrap64 (t155)), 0)))) = some (r1, r2) := by rw [if_neg (show ¬ (false = true) by decide)] at H; exact H
    clear H
    have H := H1
    clear H1
    by_cases c35 : a3 = 2
    case neg =>
     rw [if_neg c35] at H
     have c35b0 : (a3 == 2) = false := beq_eq_false_iff_ne.mpr c35
     have c35b1 : (a3 != 2) = true := bne_iff_ne.mpr c35
     by_cases c50 : (wrap64 (t155)) > 10000000000000
     ·rw [if_pos c50] at H
      have c50b0 : decide (10000000000000 < (wrap64 (t155))) = true := decide_eq_true c50
      clear c50
      simp only [Option.some.injEq, Prod.mk.injEq] at H
      obtain ⟨rfl, rfl⟩ := H
      go_wp2
      go_ret2
      exact ⟨er, by exact h2q HB.out GE154.out GE158.out⟩
     rw [if_neg c50] at H
     have c50b0 : decide (10000000000000 < (wrap64 (t155))) = false := decide_eq_false c50
     clear c50
     simp only [Option.some.injEq, Prod.mk.injEq] at H
     obtain ⟨rfl, rfl⟩ := H
     go_wp2
     go_ret2
     exact ⟨er, by exact h2q HB.out GE154.out GE158.out⟩
    rw [if_pos c35] at H
    have c35b0 : (a3 == 2) = true := beq_iff_eq.mpr c35
    have c35b1 : (a3 != 2) = false := bne_eq_false_iff_eq.mpr c35
    clear c35
    have HC36 := am H
    clear H
    have hnb37 := NB158_154.out
    have hnc37 := NB154_158.out
    have hcz38_0 : wc.cell? ⟨gb158, 0, none⟩ = some (.int .u64 t155) := (blk_cell BK158.out 0).trans rfl
    have hcz38_1 : wc.cell? ⟨gb158, 1, none⟩ = some (.int .u64 t156) := (blk_cell BK158.out 1).trans rfl
    have hcz38_2 : wc.cell? ⟨gb158, 2, none⟩ = some (.bool t157) := (blk_cell BK158.out 2).trans rfl
    have hfz38_0 := blk_frozen BK158.out 0
    have hfz38_1 := blk_frozen BK158.out 1
    have hfz38_2 := blk_frozen BK158.out 2
    go_upto_region 12 with (fail)
    go_cut [87] (fun v87 wc => ∃ (kq : Nat) (x87_35 : Bool), v87 = .bool x87_35 ∧ Aside0 (annuityref01_MulDiv.j3 kq (wrap64 (t155)) x87_35 = some (r1, r2)) ∧ Aside0 (kq ≤ kj26) ∧ Aside0 (wc.heap[gb154]? = some (.cells #[.int .u64 t152, .int .u64 t153] 115 (0, 0))) ∧ Aside0 (wc.heap[gb158]? = some (.cells #[.int .u64 t155, .int .u64 t156, .bool t157] 118 (0, 0))) ∧ Aside0 (Below w.heap.size w wc))
    case first =>
     have H := HC36.out
     clear HC36
     by_cases c39 : t156 > (IntKind.u64.wrap ((IntKind.u64.wrap (a2)) - t156))
     ·rw [if_pos c39] at H
      have c39b0 : decide ((IntKind.u64.wrap ((IntKind.u64.wrap (a2)) - t156)) < t156) = true := decide_eq_true c39
      clear c39
      (first | rw [c39b0] | (simp only [i64_w, i32_w]; rw [c39b0]) | skip)
      have H' := am H
      clear H
      have hnb40 := NB158_154.out
      have hnc40 := NB154_158.out
      have hcz41_0 : wc.cell? ⟨gb158, 0, none⟩ = some (.int .u64 t155) := (blk_cell BK158.out 0).trans rfl
      have hcz41_1 : wc.cell? ⟨gb158, 1, none⟩ = some (.int .u64 t156) := (blk_cell BK158.out 1).trans rfl
      have hcz41_2 : wc.cell? ⟨gb158, 2, none⟩ = some (.bool t157) := (blk_cell BK158.out 2).trans rfl
      have hfz41_0 := blk_frozen BK158.out 0
      have hfz41_1 := blk_frozen BK158.out 1
      have hfz41_2 := blk_frozen BK158.out 2
      go_wp2
      go_meet
      case rel => exact ⟨_, (true), (by first | rfl | (simp; done) | (simp [*]; done)), H', ⟨by have := HJ4.out; have := HJ12.out; have := HJ26.out; first | omega | exact Nat.le_refl _⟩, ⟨by exact bb BK154.out⟩, ⟨by exact bb BK158.out⟩, ⟨by exact h2q HB.out GE154.out GE158.out⟩⟩
     rw [if_neg c39] at H
     have c39b0 : decide ((IntKind.u64.wrap ((IntKind.u64.wrap (a2)) - t156)) < t156) = false := decide_eq_false c39
     clear c39
     (first | rw [c39b0] | (simp only [i64_w, i32_w]; rw [c39b0]) | skip)
     by_cases c42 : t156 = (IntKind.u64.wrap ((IntKind.u64.wrap (a2)) - t156))
     case neg =>
      rw [if_neg c42] at H
      have c42b0 : (t156 == (IntKind.u64.wrap ((IntKind.u64.wrap (a2)) - t156))) = false := beq_eq_false_iff_ne.mpr c42
      have c42b1 : (t156 != (IntKind.u64.wrap ((IntKind.u64.wrap (a2)) - t156))) = true := bne_iff_ne.mpr c42
      have H' := am H
      clear H
      have hnb45 := NB158_154.out
      have hnc45 := NB154_158.out
      have hcz46_0 : wc.cell? ⟨gb158, 0, none⟩ = some (.int .u64 t155) := (blk_cell BK158.out 0).trans rfl
      have hcz46_1 : wc.cell? ⟨gb158, 1, none⟩ = some (.int .u64 t156) := (blk_cell BK158.out 1).trans rfl
      have hcz46_2 : wc.cell? ⟨gb158, 2, none⟩ = some (.bool t157) := (blk_cell BK158.out 2).trans rfl
      have hfz46_0 := blk_frozen BK158.out 0
      have hfz46_1 := blk_frozen BK158.out 1
      have hfz46_2 := blk_frozen BK158.out 2
      go_wp2
      go_meet
      case rel => exact ⟨_, (false), (by first | rfl | (simp; done) | (simp [*]; done)), H', ⟨by have := HJ4.out; have := HJ12.out; have := HJ26.out; first | omega | exact Nat.le_refl _⟩, ⟨by exact bb BK154.out⟩, ⟨by exact bb BK158.out⟩, ⟨by exact h2q HB.out GE154.out GE158.out⟩⟩
     rw [if_pos c42] at H
     have c42b0 : (t156 == (IntKind.u64.wrap ((IntKind.u64.wrap (a2)) - t156))) = true := beq_iff_eq.mpr c42
     have c42b1 : (t156 != (IntKind.u64.wrap ((IntKind.u64.wrap (a2)) - t156))) = false := bne_eq_false_iff_eq.mpr c42
     clear c42
     have H' := am H
     clear H
     have hnb43 := NB158_154.out
     have hnc43 := NB154_158.out
     have hcz44_0 : wc.cell? ⟨gb158, 0, none⟩ = some (.int .u64 t155) := (blk_cell BK158.out 0).trans rfl
     have hcz44_1 : wc.cell? ⟨gb158, 1, none⟩ = some (.int .u64 t156) := (blk_cell BK158.out 1).trans rfl
     have hcz44_2 : wc.cell? ⟨gb158, 2, none⟩ = some (.bool t157) := (blk_cell BK158.out 2).trans rfl
     have hfz44_0 := blk_frozen BK158.out 0
     have hfz44_1 := blk_frozen BK158.out 1
     have hfz44_2 := blk_frozen BK158.out 2
     go_wp2
     go_meet
     case rel => exact ⟨_, (((Int.tmod (wrap64 (t155)) 2) == 1)), (by first | rfl | (simp; done) | (simp [*]; done)), H', ⟨by have := HJ4.out; have := HJ12.out; have := HJ26.out; first | omega | exact Nat.le_refl _⟩, ⟨by exact bb BK154.out⟩, ⟨by exact bb BK158.out⟩, ⟨by exact h2q HB.out GE154.out GE158.out⟩⟩
    case rest =>
     clear HC36
     try clear c6
     try clear c6b0
     try clear c7
     try clear c7b0
     try clear c8
     try clear c8b0
     try clear c9
     try clear c9b0
     try clear c10
     try clear c21
     try clear c26
     try clear c30
     try clear c30b0 c30b1
     try clear c33
     try clear c34
     try clear c34b0
     try clear c35
     try clear c35b0 c35b1
     try clear c39
     try clear c39b0
     try clear c42
     try clear c42b0 c42b1
     try clear hcz16_0
     try clear hcz16_1
     try clear hcz20_0
     try clear hcz20_1
     try clear hcz20_2
     try clear hcz23_0
     try clear hcz23_1
     try clear hcz23_2
     try clear hcz25_0
     try clear hcz25_1
     try clear hcz25_2
     try clear hcz29_0
     try clear hcz29_1
     try clear hcz29_2
     try clear hcz32_0
     try clear hcz32_1
     try clear hcz32_2
     try clear hcz38_0
     try clear hcz38_1
     try clear hcz38_2
     try clear hcz41_0
     try clear hcz41_1
     try clear hcz41_2
     try clear hcz44_0
     try clear hcz44_1
     try clear hcz44_2
     try clear hcz46_0
     try clear hcz46_1
     try clear hcz46_2
     try clear hfz16_0
     try clear hfz16_1
     try clear hfz20_0
     try clear hfz20_1
     try clear hfz20_2
     try clear hfz23_0
     try clear hfz23_1
     try clear hfz23_2
     try clear hfz25_0
     try clear hfz25_1
     try clear hfz25_2
     try clear hfz29_0
     try clear hfz29_1
     try clear hfz29_2
     try clear hfz32_0
     try clear hfz32_1
     try clear hfz32_2
     try clear hfz38_0
     try clear hfz38_1
     try clear hfz38_2
     try clear hfz41_0
     try clear hfz41_1
     try clear hfz41_2
     try clear hfz44_0
     try clear hfz44_1
     try clear hfz44_2
     try clear hfz46_0
     try clear hfz46_1
     try clear hfz46_2
     obtain ⟨kq, x87_35, rfl, HA, HJ35, BK154, BK158, HB⟩ := hcut
     rcases kq with _ | kj35
     ·exact absurd HA.out (by simp [annuityref01_MulDiv.j3])
     have H := HA.out
     clear HA
     simp only [annuityref01_MulDiv.j3] at H
     by_cases c47 : x87_35 = true
     ·subst c47
      have H1 : (if (wrap64 ((wrap64 (t155)) + 1)) > 10000000000000 then (some (0, 14)) else (some (wrap64 ((wrap64 (t155)) + 1), 0))) = some (r1, r2) := by rw [if_pos rfl] at H; exact H
      clear H
      have H := H1
      clear H1
      by_cases c48 : (wrap64 ((wrap64 (t155)) + 1)) > 10000000000000
      ·rw [if_pos c48] at H
       have c48b0 : decide (10000000000000 < (wrap64 ((wrap64 (t155)) + 1))) = true := decide_eq_true c48
       clear c48
       simp only [Option.some.injEq, Prod.mk.injEq] at H
       obtain ⟨rfl, rfl⟩ := H
       go_wp2
       go_ret2
       exact ⟨er, by exact h2q HB.out GE154.out GE158.out⟩
      rw [if_neg c48] at H
      have c48b0 : decide (10000000000000 < (wrap64 ((wrap64 (t155)) + 1))) = false := decide_eq_false c48
      clear c48
      simp only [Option.some.injEq, Prod.mk.injEq] at H
      obtain ⟨rfl, rfl⟩ := H
      go_wp2
      go_ret2
      exact ⟨er, by exact h2q HB.out GE154.out GE158.out⟩
     replace c47 := Bool.eq_false_iff.mpr c47
     subst c47
     have H1 : (if (wrap64 (t155)) > 10000000000000 then (some (0, 14)) else (some ((wrap64 (t155)), 0))) = some (r1, r2) := by rw [if_neg (show ¬ (false = true) by decide)] at H; exact H
     clear H
     have H := H1
     clear H1
     by_cases c49 : (wrap64 (t155)) > 10000000000000
     ·rw [if_pos c49] at H
      have c49b0 : decide (10000000000000 < (wrap64 (t155))) = true := decide_eq_true c49
      clear c49
      simp only [Option.some.injEq, Prod.mk.injEq] at H
      obtain ⟨rfl, rfl⟩ := H
      go_wp2
      go_ret2
      exact ⟨er, by exact h2q HB.out GE154.out GE158.out⟩
     rw [if_neg c49] at H
     have c49b0 : decide (10000000000000 < (wrap64 (t155))) = false := decide_eq_false c49
     clear c49
     simp only [Option.some.injEq, Prod.mk.injEq] at H
     obtain ⟨rfl, rfl⟩ := H
     go_wp2
     go_ret2
     exact ⟨er, by exact h2q HB.out GE154.out GE158.out⟩
def annuityref01_Add.f (a0 : Int) (a1 : Int) : Option (Int × Int) := (annuityref01_Good.f a0).bind fun t159 => (if t159 = true then ((annuityref01_Good.f a1).bind fun t160 => (if t160 = true then ((annuityref01_Good.f (wrap64 (a0 + a1))).bind fun t161 => (if t161 = true then (some (wrap64 (a0 + a1), 0)) else (some (0, 14)))) else (some (0, 14)))) else (some (0, 14)))
set_option maxHeartbeats 8000000 in
set_option maxRecDepth 100000 in
theorem annuityref01_Add.calls (a0 : Int) (a1 : Int) (r1 : Int) (r2 : Int) (w : World) (h : annuityref01_Add.f a0 a1 = some (r1, r2)) :
  Calls Try.prog 71 #[.int .i64 a0, .int .i64 a1] w fun e w' => e = .returned (.tuple #[.int .i64 r1, .int .i64 r2]) ∧ Drawn0 w w' := by
 have H : ((annuityref01_Good.f a0).bind fun t159 => (if t159 = true then ((annuityref01_Good.f a1).bind fun t160 => (if t160 = true then ((annuityref01_Good.f (wrap64 (a0 + a1))).bind fun t161 => (if t161 = true then (some (wrap64 (a0 + a1), 0)) else (some (0, 14)))) else (some (0, 14)))) else (some (0, 14)))) = some (r1, r2) := h
 clear h
 replace H := Option.bind_eq_some_iff.mp H
 obtain ⟨t159, A30, H⟩ := H
 replace H : (if t159 = true then ((annuityref01_Good.f a1).bind fun t160 => (if t160 = true then ((annuityref01_Good.f (wrap64 (a0 + a1))).bind fun t161 => (if t161 = true then (some (wrap64 (a0 + a1), 0)) else (some (0, 14)))) else (some (0, 14)))) else (some (0, 14))) = some (r1, r2) := H
 have A3 := am A30
 clear A30
 by_cases c4 : t159 = true
 ·subst c4
  have H1 : ((annuityref01_Good.f a1).bind fun t160 => (if t160 = true then ((annuityref01_Good.f (wrap64 (a0 + a1))).bind fun t161 => (if t161 = true then (some (wrap64 (a0 + a1), 0)) else (some (0, 14)))) else (some (0, 14)))) = some (r1, r2) := by rw [if_pos rfl] at H; exact H
  clear H
  have H := H1
  clear H1
  replace H := Option.bind_eq_some_iff.mp H
  obtain ⟨t160, A50, H⟩ := H
  replace H : (if t160 = true then ((annuityref01_Good.f (wrap64 (a0 + a1))).bind fun t161 => (if t161 = true then (some (wrap64 (a0 + a1), 0)) else (some (0, 14)))) else (some (0, 14))) = some (r1, r2) := H
  have A5 := am A50
  clear A50
  by_cases c6 : t160 = true
  ·subst c6
   have H1 : ((annuityref01_Good.f (wrap64 (a0 + a1))).bind fun t161 => (if t161 = true then (some (wrap64 (a0 + a1), 0)) else (some (0, 14)))) = some (r1, r2) := by rw [if_pos rfl] at H; exact H
   clear H
   have H := H1
   clear H1
   replace H := Option.bind_eq_some_iff.mp H
   obtain ⟨t161, A70, H⟩ := H
   replace H : (if t161 = true then (some (wrap64 (a0 + a1), 0)) else (some (0, 14))) = some (r1, r2) := H
   have A7 := am A70
   clear A70
   by_cases c8 : t161 = true
   ·subst c8
    have H1 : (some (wrap64 (a0 + a1), 0)) = some (r1, r2) := by rw [if_pos rfl] at H; exact H
    clear H
    have H := H1
    clear H1
    simp only [Option.some.injEq, Prod.mk.injEq] at H
    obtain ⟨rfl, rfl⟩ := H
    go_enter Try.func71, Try.ntmps71
    go_wp2_with (first | ((with_reducible refine gate_callee (f := 42) rfl ?_); refine goesL_ (some 7) rfl rfl Try.func42 (by kernel_rfl) rfl #[.int .i64 a0] rfl ml ?_; (with_reducible refine (annuityref01_Good.calls a0 true _ A3.out).mono ?_); rintro e w' ⟨rfl, ⟨nd, rfl⟩⟩; refine ⟨_, rfl, ?_⟩) | (go_at_call 42; (with_reducible refine (annuityref01_Good.calls a1 true _ A5.out).mono ?_); rintro e w' ⟨rfl, ⟨nd, rfl⟩⟩) | (go_at_call 42; (with_reducible refine (annuityref01_Good.calls (wrap64 (a0 + a1)) true _ A7.out).mono ?_); rintro e w' ⟨rfl, ⟨nd, rfl⟩⟩))
    go_ret2
    exact ⟨by first | rfl | (simp; done) | (simp [*]; done), by repeat (first | exact Drawn0.refl _ | apply Drawn0.step)⟩
   ·replace c8 := Bool.eq_false_iff.mpr c8
    subst c8
    have H1 : (some (0, 14)) = some (r1, r2) := by rw [if_neg (show ¬ (false = true) by decide)] at H; exact H
    clear H
    have H := H1
    clear H1
    simp only [Option.some.injEq, Prod.mk.injEq] at H
    obtain ⟨rfl, rfl⟩ := H
    go_enter Try.func71, Try.ntmps71
    go_wp2_with (first | ((with_reducible refine gate_callee (f := 42) rfl ?_); refine goesL_ (some 7) rfl rfl Try.func42 (by kernel_rfl) rfl #[.int .i64 a0] rfl ml ?_; (with_reducible refine (annuityref01_Good.calls a0 true _ A3.out).mono ?_); rintro e w' ⟨rfl, ⟨nd, rfl⟩⟩; refine ⟨_, rfl, ?_⟩) | (go_at_call 42; (with_reducible refine (annuityref01_Good.calls a1 true _ A5.out).mono ?_); rintro e w' ⟨rfl, ⟨nd, rfl⟩⟩) | (go_at_call 42; (with_reducible refine (annuityref01_Good.calls (wrap64 (a0 + a1)) false _ A7.out).mono ?_); rintro e w' ⟨rfl, ⟨nd, rfl⟩⟩))
    go_ret2
    exact ⟨by first | rfl | (simp; done) | (simp [*]; done), by repeat (first | exact Drawn0.refl _ | apply Drawn0.step)⟩
  ·replace c6 := Bool.eq_false_iff.mpr c6
   subst c6
   have H1 : (some (0, 14)) = some (r1, r2) := by rw [if_neg (show ¬ (false = true) by decide)] at H; exact H
   clear H
   have H := H1
   clear H1
   simp only [Option.some.injEq, Prod.mk.injEq] at H
   obtain ⟨rfl, rfl⟩ := H
   go_enter Try.func71, Try.ntmps71
   go_wp2_with (first | ((with_reducible refine gate_callee (f := 42) rfl ?_); refine goesL_ (some 7) rfl rfl Try.func42 (by kernel_rfl) rfl #[.int .i64 a0] rfl ml ?_; (with_reducible refine (annuityref01_Good.calls a0 true _ A3.out).mono ?_); rintro e w' ⟨rfl, ⟨nd, rfl⟩⟩; refine ⟨_, rfl, ?_⟩) | (go_at_call 42; (with_reducible refine (annuityref01_Good.calls a1 false _ A5.out).mono ?_); rintro e w' ⟨rfl, ⟨nd, rfl⟩⟩))
   go_ret2
   exact ⟨by first | rfl | (simp; done) | (simp [*]; done), by repeat (first | exact Drawn0.refl _ | apply Drawn0.step)⟩
 ·replace c4 := Bool.eq_false_iff.mpr c4
  subst c4
  have H1 : (some (0, 14)) = some (r1, r2) := by rw [if_neg (show ¬ (false = true) by decide)] at H; exact H
  clear H
  have H := H1
  clear H1
  simp only [Option.some.injEq, Prod.mk.injEq] at H
  obtain ⟨rfl, rfl⟩ := H
  go_enter Try.func71, Try.ntmps71
  go_wp2_with (first | ((with_reducible refine gate_callee (f := 42) rfl ?_); refine goesL_ (some 7) rfl rfl Try.func42 (by kernel_rfl) rfl #[.int .i64 a0] rfl ml ?_; (with_reducible refine (annuityref01_Good.calls a0 false _ A3.out).mono ?_); rintro e w' ⟨rfl, ⟨nd, rfl⟩⟩; refine ⟨_, rfl, ?_⟩))
  go_ret2
  exact ⟨by first | rfl | (simp; done) | (simp [*]; done), by repeat (first | exact Drawn0.refl _ | apply Drawn0.step)⟩
def annuityref15_Month.j0 : Nat → Int → Int → Int → Bool → Option (Int × Int)
 | 0, _, _, _, _ => none
 | k + 1, x0, x1, x2, x26 => if x26 = true then (some (0, 1)) else ((annuityref01_MulDiv.f k x0 x2 12000000 1).bind fun bt164 => (if bt164.2 = 0 then ((annuityref01_Add.f x0 bt164.1).bind fun bt166 => (if bt166.2 = 0 then (some (mx 0 (wrap64 (bt166.1 - x1)), 0)) else (some (0, bt166.2)))) else (some (0, bt164.2))))
def annuityref15_Month.f (k : Nat) (a0 : Int) (a1 : Int) (a2 : Int) : Option (Int × Int) := (annuityref15_money.f a0).bind fun t162 => (if t162 = true then ((annuityref15_money.f a1).bind fun t163 => (if t163 = true then (if a2 < 0 then (annuityref15_Month.j0 k a0 a1 a2 true) else (annuityref15_Month.j0 k a0 a1 a2 (decide (a2 > 1000000)))) else (annuityref15_Month.j0 k a0 a1 a2 true))) else (annuityref15_Month.j0 k a0 a1 a2 true))
set_option maxHeartbeats 8000000 in
set_option maxRecDepth 100000 in
theorem annuityref15_Month.calls (k : Nat) (a0 : Int) (a1 : Int) (a2 : Int) (r1 : Int) (r2 : Int) (w : World) (h : annuityref15_Month.f k a0 a1 a2 = some (r1, r2)) :
  Calls Try.prog 57 #[.int .i64 a0, .int .i64 a1, .int .i64 a2] w fun e w' => e = .returned (.tuple #[.int .i64 r1, .int .i64 r2]) ∧ Below w.heap.size w w' := by
 have HB := am (Below.refl w.heap.size w)
 have H : ((annuityref15_money.f a0).bind fun t162 => (if t162 = true then ((annuityref15_money.f a1).bind fun t163 => (if t163 = true then (if a2 < 0 then (annuityref15_Month.j0 k a0 a1 a2 true) else (annuityref15_Month.j0 k a0 a1 a2 (decide (a2 > 1000000)))) else (annuityref15_Month.j0 k a0 a1 a2 true))) else (annuityref15_Month.j0 k a0 a1 a2 true))) = some (r1, r2) := h
 clear h
 have HC4 := am H
 clear H
 go_enter Try.func57, Try.ntmps57
 go_upto_region 1 with (fail)
 go_cut [26] (fun v26 wc => ∃ (kq : Nat) (x26_3 : Bool), v26 = .bool x26_3 ∧ Aside0 (annuityref15_Month.j0 kq a0 a1 a2 x26_3 = some (r1, r2)) ∧ Aside0 (kq ≤ k) ∧ Aside0 (Below w.heap.size w wc))
 case first =>
  have H := HC4.out
  clear HC4
  replace H := Option.bind_eq_some_iff.mp H
  obtain ⟨t162, A50, H⟩ := H
  replace H : (if t162 = true then ((annuityref15_money.f a1).bind fun t163 => (if t163 = true then (if a2 < 0 then (annuityref15_Month.j0 k a0 a1 a2 true) else (annuityref15_Month.j0 k a0 a1 a2 (decide (a2 > 1000000)))) else (annuityref15_Month.j0 k a0 a1 a2 true))) else (annuityref15_Month.j0 k a0 a1 a2 true)) = some (r1, r2) := H
  have A5 := am A50
  clear A50
  by_cases c6 : t162 = true
  ·subst c6
   have H1 : ((annuityref15_money.f a1).bind fun t163 => (if t163 = true then (if a2 < 0 then (annuityref15_Month.j0 k a0 a1 a2 true) else (annuityref15_Month.j0 k a0 a1 a2 (decide (a2 > 1000000)))) else (annuityref15_Month.j0 k a0 a1 a2 true))) = some (r1, r2) := by rw [if_pos rfl] at H; exact H
   clear H
   have H := H1
   clear H1
   replace H := Option.bind_eq_some_iff.mp H
   obtain ⟨t163, A70, H⟩ := H
   replace H : (if t163 = true then (if a2 < 0 then (annuityref15_Month.j0 k a0 a1 a2 true) else (annuityref15_Month.j0 k a0 a1 a2 (decide (a2 > 1000000)))) else (annuityref15_Month.j0 k a0 a1 a2 true)) = some (r1, r2) := H
   have A7 := am A70
   clear A70
   by_cases c8 : t163 = true
   ·subst c8
    have H1 : (if a2 < 0 then (annuityref15_Month.j0 k a0 a1 a2 true) else (annuityref15_Month.j0 k a0 a1 a2 (decide (a2 > 1000000)))) = some (r1, r2) := by rw [if_pos rfl] at H; exact H
    clear H
    have H := H1
    clear H1
    by_cases c9 : a2 < 0
    ·rw [if_pos c9] at H
     have c9b0 : decide (a2 < 0) = true := decide_eq_true c9
     clear c9
     (first | rw [c9b0] | (simp only [i64_w, i32_w]; rw [c9b0]) | skip)
     have H' := am H
     clear H
     go_wp2_with (first | ((with_reducible refine gate_callee (f := 27) rfl ?_); refine goesL_ (some 12) rfl rfl Try.func27 (by kernel_rfl) rfl #[.int .i64 a0] rfl ml ?_; (with_reducible refine (annuityref15_money.calls a0 true _ A5.out).mono ?_); rintro e w' ⟨rfl, ⟨nd, rfl⟩⟩; refine ⟨_, rfl, ?_⟩) | (go_at_call 27; (with_reducible refine (annuityref15_money.calls a1 true _ A7.out).mono ?_); rintro e w' ⟨rfl, ⟨nd, rfl⟩⟩))
     go_meet
     case rel => exact ⟨_, (true), (by first | rfl | (simp; done) | (simp [*]; done)), H', ⟨by first | omega | exact Nat.le_refl _⟩, ⟨by exact h0q HB.out⟩⟩
    ·rw [if_neg c9] at H
     have c9b0 : decide (a2 < 0) = false := decide_eq_false c9
     clear c9
     (first | rw [c9b0] | (simp only [i64_w, i32_w]; rw [c9b0]) | skip)
     have H' := am H
     clear H
     go_wp2_with (first | ((with_reducible refine gate_callee (f := 27) rfl ?_); refine goesL_ (some 12) rfl rfl Try.func27 (by kernel_rfl) rfl #[.int .i64 a0] rfl ml ?_; (with_reducible refine (annuityref15_money.calls a0 true _ A5.out).mono ?_); rintro e w' ⟨rfl, ⟨nd, rfl⟩⟩; refine ⟨_, rfl, ?_⟩) | (go_at_call 27; (with_reducible refine (annuityref15_money.calls a1 true _ A7.out).mono ?_); rintro e w' ⟨rfl, ⟨nd, rfl⟩⟩))
     go_meet
     case rel => exact ⟨_, (decide (a2 > 1000000)), (by first | rfl | (simp; done) | (simp [*]; done)), H', ⟨by first | omega | exact Nat.le_refl _⟩, ⟨by exact h0q HB.out⟩⟩
   ·replace c8 := Bool.eq_false_iff.mpr c8
    subst c8
    have H1 : (annuityref15_Month.j0 k a0 a1 a2 true) = some (r1, r2) := by rw [if_neg (show ¬ (false = true) by decide)] at H; exact H
    clear H
    have H := H1
    clear H1
    have H' := am H
    clear H
    go_wp2_with (first | ((with_reducible refine gate_callee (f := 27) rfl ?_); refine goesL_ (some 12) rfl rfl Try.func27 (by kernel_rfl) rfl #[.int .i64 a0] rfl ml ?_; (with_reducible refine (annuityref15_money.calls a0 true _ A5.out).mono ?_); rintro e w' ⟨rfl, ⟨nd, rfl⟩⟩; refine ⟨_, rfl, ?_⟩) | (go_at_call 27; (with_reducible refine (annuityref15_money.calls a1 false _ A7.out).mono ?_); rintro e w' ⟨rfl, ⟨nd, rfl⟩⟩))
    go_meet
    case rel => exact ⟨_, (true), (by first | rfl | (simp; done) | (simp [*]; done)), H', ⟨by first | omega | exact Nat.le_refl _⟩, ⟨by exact h0q HB.out⟩⟩
  ·replace c6 := Bool.eq_false_iff.mpr c6
   subst c6
   have H1 : (annuityref15_Month.j0 k a0 a1 a2 true) = some (r1, r2) := by rw [if_neg (show ¬ (false = true) by decide)] at H; exact H
   clear H
   have H := H1
   clear H1
   have H' := am H
   clear H
   go_wp2_with (first | ((with_reducible refine gate_callee (f := 27) rfl ?_); refine goesL_ (some 12) rfl rfl Try.func27 (by kernel_rfl) rfl #[.int .i64 a0] rfl ml ?_; (with_reducible refine (annuityref15_money.calls a0 false _ A5.out).mono ?_); rintro e w' ⟨rfl, ⟨nd, rfl⟩⟩; refine ⟨_, rfl, ?_⟩))
   go_meet
   case rel => exact ⟨_, (true), (by first | rfl | (simp; done) | (simp [*]; done)), H', ⟨by first | omega | exact Nat.le_refl _⟩, ⟨by exact h0q HB.out⟩⟩
 case rest =>
  clear HC4
  try clear c6
  try clear c8
  try clear c9
  try clear c9b0
  obtain ⟨kq, x26_3, rfl, HA, HJ3, HB⟩ := hcut
  rcases kq with _ | kj3
  ·exact absurd HA.out (by simp [annuityref15_Month.j0])
  have H := HA.out
  clear HA
  simp only [annuityref15_Month.j0] at H
  by_cases c10 : x26_3 = true
  ·subst c10
   have H1 : (some (0, 1)) = some (r1, r2) := by rw [if_pos rfl] at H; exact H
   clear H
   have H := H1
   clear H1
   simp only [Option.some.injEq, Prod.mk.injEq] at H
   obtain ⟨rfl, rfl⟩ := H
   go_wp2
   go_ret2
   exact ⟨er, by exact h0q HB.out⟩
  ·replace c10 := Bool.eq_false_iff.mpr c10
   subst c10
   have H1 : ((annuityref01_MulDiv.f kj3 a0 a2 12000000 1).bind fun bt164 => (if bt164.2 = 0 then ((annuityref01_Add.f a0 bt164.1).bind fun bt166 => (if bt166.2 = 0 then (some (mx 0 (wrap64 (bt166.1 - a1)), 0)) else (some (0, bt166.2)))) else (some (0, bt164.2)))) = some (r1, r2) := by rw [if_neg (show ¬ (false = true) by decide)] at H; exact H
   clear H
   have H := H1
   clear H1
   replace H := Option.bind_eq_some_iff.mp H
   obtain ⟨⟨t164, t165⟩, A110, H⟩ := H
   replace H : (if t165 = 0 then ((annuityref01_Add.f a0 t164).bind fun bt166 => (if bt166.2 = 0 then (some (mx 0 (wrap64 (bt166.1 - a1)), 0)) else (some (0, bt166.2)))) else (some (0, t165))) = some (r1, r2) := H
   have A11 := am A110
   clear A110
   by_cases c12 : t165 = 0
   ·rw [if_pos c12] at H
    have c12b0 : (t165 == 0) = true := beq_iff_eq.mpr c12
    have c12b1 : (t165 != 0) = false := bne_eq_false_iff_eq.mpr c12
    clear c12
    replace H := Option.bind_eq_some_iff.mp H
    obtain ⟨⟨t166, t167⟩, A130, H⟩ := H
    replace H : (if t167 = 0 then (some (mx 0 (wrap64 (t166 - a1)), 0)) else (some (0, t167))) = some (r1, r2) := H
    have A13 := am A130
    clear A130
    by_cases c14 : t167 = 0
    ·rw [if_pos c14] at H
     have c14b0 : (t167 == 0) = true := beq_iff_eq.mpr c14
     have c14b1 : (t167 != 0) = false := bne_eq_false_iff_eq.mpr c14
     clear c14
     obtain ⟨ji15, hji15⟩ : ∃ j_ : Int, (mx 0 (wrap64 (t166 - a1))) = j_ := ⟨_, rfl⟩
     replace H : (some (ji15, 0)) = some (r1, r2) := by first | (rw [hji15] at H; exact H) | (simp only [hji15] at H ⊢; exact H)
     (try rw [hji15] at A11)
     (try rw [hji15] at A13)
     have hji15_ : (if 0 < (wrap64 (t166 - a1)) then (wrap64 (t166 - a1)) else 0) = ji15 := hji15
     simp only [Option.some.injEq, Prod.mk.injEq] at H
     obtain ⟨rfl, rfl⟩ := H
     go_wp2_with (first | ((with_reducible refine gate_callee (f := 70) rfl ?_); refine goesL_ (some 30) rfl rfl Try.func70 (by kernel_rfl) rfl #[.int .i64 a0, .int .i64 a2, .int .i64 12000000, .int .i64 1] rfl ml ?_; (with_reducible refine (annuityref01_MulDiv.calls kj3 a0 a2 12000000 1 t164 t165 _ A11.out).mono ?_); rintro e w16 ⟨rfl, hb⟩; refine ⟨_, rfl, ?_⟩; have n0_ := am (below_step (by exact h0q HB.out) hb); clear HB; have HB := n0_; clear n0_; (try clear hb); (try clear hb2); (try clear hk); (try clear hi)) | ((with_reducible refine gate_callee (f := 71) rfl ?_); refine goesL_ (some 39) rfl rfl Try.func71 (by kernel_rfl) rfl #[.int .i64 a0, .int .i64 t164] rfl ml ?_; (with_reducible refine (annuityref01_Add.calls a0 t164 t166 t167 _ A13.out).mono ?_); rintro e w' ⟨rfl, ⟨nd, rfl⟩⟩; refine ⟨_, rfl, ?_⟩))
     go_ret2
     exact ⟨by first | rfl | (simp [errW_none, errW_some] <;> rfl) | (simp only [← hji15]; first | rfl | (simp [errW_none, errW_some] <;> rfl)) | (simp [*, errW_none, errW_some] <;> rfl), by exact h0q HB.out⟩
    ·rw [if_neg c14] at H
     have c14b0 : (t167 == 0) = false := beq_eq_false_iff_ne.mpr c14
     have c14b1 : (t167 != 0) = true := bne_iff_ne.mpr c14
     simp only [Option.some.injEq, Prod.mk.injEq] at H
     obtain ⟨rfl, rfl⟩ := H
     go_wp2_with (first | ((with_reducible refine gate_callee (f := 70) rfl ?_); refine goesL_ (some 30) rfl rfl Try.func70 (by kernel_rfl) rfl #[.int .i64 a0, .int .i64 a2, .int .i64 12000000, .int .i64 1] rfl ml ?_; (with_reducible refine (annuityref01_MulDiv.calls kj3 a0 a2 12000000 1 t164 t165 _ A11.out).mono ?_); rintro e w17 ⟨rfl, hb⟩; refine ⟨_, rfl, ?_⟩; have n0_ := am (below_step (by exact h0q HB.out) hb); clear HB; have HB := n0_; clear n0_; (try clear hb); (try clear hb2); (try clear hk); (try clear hi)) | ((with_reducible refine gate_callee (f := 71) rfl ?_); refine goesL_ (some 39) rfl rfl Try.func71 (by kernel_rfl) rfl #[.int .i64 a0, .int .i64 t164] rfl ml ?_; (with_reducible refine (annuityref01_Add.calls a0 t164 t166 t167 _ A13.out).mono ?_); rintro e w' ⟨rfl, ⟨nd, rfl⟩⟩; refine ⟨_, rfl, ?_⟩))
     go_ret2
     exact ⟨er, by exact h0q HB.out⟩
   ·rw [if_neg c12] at H
    have c12b0 : (t165 == 0) = false := beq_eq_false_iff_ne.mpr c12
    have c12b1 : (t165 != 0) = true := bne_iff_ne.mpr c12
    simp only [Option.some.injEq, Prod.mk.injEq] at H
    obtain ⟨rfl, rfl⟩ := H
    go_wp2_with (first | ((with_reducible refine gate_callee (f := 70) rfl ?_); refine goesL_ (some 30) rfl rfl Try.func70 (by kernel_rfl) rfl #[.int .i64 a0, .int .i64 a2, .int .i64 12000000, .int .i64 1] rfl ml ?_; (with_reducible refine (annuityref01_MulDiv.calls kj3 a0 a2 12000000 1 t164 t165 _ A11.out).mono ?_); rintro e w18 ⟨rfl, hb⟩; refine ⟨_, rfl, ?_⟩; have n0_ := am (below_step (by exact h0q HB.out) hb); clear HB; have HB := n0_; clear n0_; (try clear hb); (try clear hb2); (try clear hk); (try clear hi)))
    go_ret2
    exact ⟨er, by exact h0q HB.out⟩
mutual
def annuityref15_Table.j0 : Nat → Int → Int → Int → Int → Bool → Option (List Int × Int)
 | 0, _, _, _, _, _ => none
 | k + 1, x0, x1, x2, x3, x37 => if x37 = true then (some (([] : List Int), 1)) else (annuityref15_Table.l0 k x0 x1 x2 x3 ([] : List Int) 0)
def annuityref15_Table.l0 : Nat → Int → Int → Int → Int → List Int → Int → Option (List Int × Int)
 | 0, _, _, _, _, _, _ => none
 | k + 1, x0, x1, x2, x3, x10, x11 => if x11 < x3 then ((annuityref15_Month.f k x0 x1 x2).bind fun bt170 => (if bt170.2 = 0 then (if x10.length < 17592186044416 then (annuityref15_Table.l0 k bt170.1 x1 x2 x3 (x10 ++ [bt170.1]) (wrap64 (x11 + 1))) else (none)) else (some (([] : List Int), bt170.2)))) else (some (x10, 0))
end
def annuityref15_Table.f (k : Nat) (a0 : Int) (a1 : Int) (a2 : Int) (a3 : Int) : Option (List Int × Int) := (annuityref15_money.f a0).bind fun t168 => (if t168 = true then ((annuityref15_money.f a1).bind fun t169 => (if t169 = true then (if a2 < 0 then (annuityref15_Table.j0 k a0 a1 a2 a3 true) else (if a2 > 1000000 then (annuityref15_Table.j0 k a0 a1 a2 a3 true) else (if a3 < 0 then (annuityref15_Table.j0 k a0 a1 a2 a3 true) else (annuityref15_Table.j0 k a0 a1 a2 a3 (decide (a3 > 360)))))) else (annuityref15_Table.j0 k a0 a1 a2 a3 true))) else (annuityref15_Table.j0 k a0 a1 a2 a3 true))
set_option maxHeartbeats 8000000 in
set_option maxRecDepth 100000 in
theorem annuityref15_Table.calls (k : Nat) (a0 : Int) (a1 : Int) (a2 : Int) (a3 : Int) (r1 : List Int) (r2 : Int) (w : World) (h : annuityref15_Table.f k a0 a1 a2 a3 = some (r1, r2)) :
  Calls Try.prog 43 #[.int .i64 a0, .int .i64 a1, .int .i64 a2, .int .i64 a3] w fun e w' => ∃ v0_ : Value, e = .returned (.tuple #[v0_, .int .i64 r2]) ∧ Kd.R (Kd.int .i64) 2 w' w.heap.size (fun _ => True) v0_ r1 ∧ Below w.heap.size w w' := by
 have HB := am (Below.refl w.heap.size w)
 have H : ((annuityref15_money.f a0).bind fun t168 => (if t168 = true then ((annuityref15_money.f a1).bind fun t169 => (if t169 = true then (if a2 < 0 then (annuityref15_Table.j0 k a0 a1 a2 a3 true) else (if a2 > 1000000 then (annuityref15_Table.j0 k a0 a1 a2 a3 true) else (if a3 < 0 then (annuityref15_Table.j0 k a0 a1 a2 a3 true) else (annuityref15_Table.j0 k a0 a1 a2 a3 (decide (a3 > 360)))))) else (annuityref15_Table.j0 k a0 a1 a2 a3 true))) else (annuityref15_Table.j0 k a0 a1 a2 a3 true))) = some (r1, r2) := h
 clear h
 have HC5 := am H
 clear H
 go_enter Try.func43, Try.ntmps43
 go_upto_region 1 with (fail)
 go_cut [37] (fun v37 wc => ∃ (kq : Nat) (x37_4 : Bool), v37 = .bool x37_4 ∧ Aside0 (annuityref15_Table.j0 kq a0 a1 a2 a3 x37_4 = some (r1, r2)) ∧ Aside0 (kq ≤ k) ∧ Aside0 (Below w.heap.size w wc))
 case first =>
  have H := HC5.out
  clear HC5
  replace H := Option.bind_eq_some_iff.mp H
  obtain ⟨t168, A60, H⟩ := H
  replace H : (if t168 = true then ((annuityref15_money.f a1).bind fun t169 => (if t169 = true then (if a2 < 0 then (annuityref15_Table.j0 k a0 a1 a2 a3 true) else (if a2 > 1000000 then (annuityref15_Table.j0 k a0 a1 a2 a3 true) else (if a3 < 0 then (annuityref15_Table.j0 k a0 a1 a2 a3 true) else (annuityref15_Table.j0 k a0 a1 a2 a3 (decide (a3 > 360)))))) else (annuityref15_Table.j0 k a0 a1 a2 a3 true))) else (annuityref15_Table.j0 k a0 a1 a2 a3 true)) = some (r1, r2) := H
  have A6 := am A60
  clear A60
  by_cases c7 : t168 = true
  case neg =>
   replace c7 := Bool.eq_false_iff.mpr c7
   subst c7
   have H1 : (annuityref15_Table.j0 k a0 a1 a2 a3 true) = some (r1, r2) := by rw [if_neg (show ¬ (false = true) by decide)] at H; exact H
   clear H
   have H := H1
   clear H1
   have H' := am H
   clear H
   go_wp2_with (first | ((with_reducible refine gate_callee (f := 27) rfl ?_); refine goesL_ (some 15) rfl rfl Try.func27 (by kernel_rfl) rfl #[.int .i64 a0] rfl ml ?_; (with_reducible refine (annuityref15_money.calls a0 false _ A6.out).mono ?_); rintro e w' ⟨rfl, ⟨nd, rfl⟩⟩; refine ⟨_, rfl, ?_⟩))
   go_meet
   case rel => exact ⟨_, (true), (by first | rfl | (simp; done) | (simp [*]; done)), H', ⟨by first | omega | exact Nat.le_refl _⟩, ⟨by exact h0q HB.out⟩⟩
  subst c7
  have H1 : ((annuityref15_money.f a1).bind fun t169 => (if t169 = true then (if a2 < 0 then (annuityref15_Table.j0 k a0 a1 a2 a3 true) else (if a2 > 1000000 then (annuityref15_Table.j0 k a0 a1 a2 a3 true) else (if a3 < 0 then (annuityref15_Table.j0 k a0 a1 a2 a3 true) else (annuityref15_Table.j0 k a0 a1 a2 a3 (decide (a3 > 360)))))) else (annuityref15_Table.j0 k a0 a1 a2 a3 true))) = some (r1, r2) := by rw [if_pos rfl] at H; exact H
  clear H
  have H := H1
  clear H1
  replace H := Option.bind_eq_some_iff.mp H
  obtain ⟨t169, A80, H⟩ := H
  replace H : (if t169 = true then (if a2 < 0 then (annuityref15_Table.j0 k a0 a1 a2 a3 true) else (if a2 > 1000000 then (annuityref15_Table.j0 k a0 a1 a2 a3 true) else (if a3 < 0 then (annuityref15_Table.j0 k a0 a1 a2 a3 true) else (annuityref15_Table.j0 k a0 a1 a2 a3 (decide (a3 > 360)))))) else (annuityref15_Table.j0 k a0 a1 a2 a3 true)) = some (r1, r2) := H
  have A8 := am A80
  clear A80
  by_cases c9 : t169 = true
  case neg =>
   replace c9 := Bool.eq_false_iff.mpr c9
   subst c9
   have H1 : (annuityref15_Table.j0 k a0 a1 a2 a3 true) = some (r1, r2) := by rw [if_neg (show ¬ (false = true) by decide)] at H; exact H
   clear H
   have H := H1
   clear H1
   have H' := am H
   clear H
   go_wp2_with (first | ((with_reducible refine gate_callee (f := 27) rfl ?_); refine goesL_ (some 15) rfl rfl Try.func27 (by kernel_rfl) rfl #[.int .i64 a0] rfl ml ?_; (with_reducible refine (annuityref15_money.calls a0 true _ A6.out).mono ?_); rintro e w' ⟨rfl, ⟨nd, rfl⟩⟩; refine ⟨_, rfl, ?_⟩) | (go_at_call 27; (with_reducible refine (annuityref15_money.calls a1 false _ A8.out).mono ?_); rintro e w' ⟨rfl, ⟨nd, rfl⟩⟩))
   go_meet
   case rel => exact ⟨_, (true), (by first | rfl | (simp; done) | (simp [*]; done)), H', ⟨by first | omega | exact Nat.le_refl _⟩, ⟨by exact h0q HB.out⟩⟩
  subst c9
  have H1 : (if a2 < 0 then (annuityref15_Table.j0 k a0 a1 a2 a3 true) else (if a2 > 1000000 then (annuityref15_Table.j0 k a0 a1 a2 a3 true) else (if a3 < 0 then (annuityref15_Table.j0 k a0 a1 a2 a3 true) else (annuityref15_Table.j0 k a0 a1 a2 a3 (decide (a3 > 360)))))) = some (r1, r2) := by rw [if_pos rfl] at H; exact H
  clear H
  have H := H1
  clear H1
  by_cases c10 : a2 < 0
  ·rw [if_pos c10] at H
   have c10b0 : decide (a2 < 0) = true := decide_eq_true c10
   clear c10
   (first | rw [c10b0] | (simp only [i64_w, i32_w]; rw [c10b0]) | skip)
   have H' := am H
   clear H
   go_wp2_with (first | ((with_reducible refine gate_callee (f := 27) rfl ?_); refine goesL_ (some 15) rfl rfl Try.func27 (by kernel_rfl) rfl #[.int .i64 a0] rfl ml ?_; (with_reducible refine (annuityref15_money.calls a0 true _ A6.out).mono ?_); rintro e w' ⟨rfl, ⟨nd, rfl⟩⟩; refine ⟨_, rfl, ?_⟩) | (go_at_call 27; (with_reducible refine (annuityref15_money.calls a1 true _ A8.out).mono ?_); rintro e w' ⟨rfl, ⟨nd, rfl⟩⟩))
   go_meet
   case rel => exact ⟨_, (true), (by first | rfl | (simp; done) | (simp [*]; done)), H', ⟨by first | omega | exact Nat.le_refl _⟩, ⟨by exact h0q HB.out⟩⟩
  rw [if_neg c10] at H
  have c10b0 : decide (a2 < 0) = false := decide_eq_false c10
  clear c10
  (first | rw [c10b0] | (simp only [i64_w, i32_w]; rw [c10b0]) | skip)
  by_cases c11 : a2 > 1000000
  ·rw [if_pos c11] at H
   have c11b0 : decide (1000000 < a2) = true := decide_eq_true c11
   clear c11
   have H' := am H
   clear H
   go_wp2_with (first | ((with_reducible refine gate_callee (f := 27) rfl ?_); refine goesL_ (some 15) rfl rfl Try.func27 (by kernel_rfl) rfl #[.int .i64 a0] rfl ml ?_; (with_reducible refine (annuityref15_money.calls a0 true _ A6.out).mono ?_); rintro e w' ⟨rfl, ⟨nd, rfl⟩⟩; refine ⟨_, rfl, ?_⟩) | (go_at_call 27; (with_reducible refine (annuityref15_money.calls a1 true _ A8.out).mono ?_); rintro e w' ⟨rfl, ⟨nd, rfl⟩⟩))
   go_meet
   case rel => exact ⟨_, (true), (by first | rfl | (simp; done) | (simp [*]; done)), H', ⟨by first | omega | exact Nat.le_refl _⟩, ⟨by exact h0q HB.out⟩⟩
  rw [if_neg c11] at H
  have c11b0 : decide (1000000 < a2) = false := decide_eq_false c11
  clear c11
  by_cases c12 : a3 < 0
  ·rw [if_pos c12] at H
   have c12b0 : decide (a3 < 0) = true := decide_eq_true c12
   clear c12
   have H' := am H
   clear H
   go_wp2_with (first | ((with_reducible refine gate_callee (f := 27) rfl ?_); refine goesL_ (some 15) rfl rfl Try.func27 (by kernel_rfl) rfl #[.int .i64 a0] rfl ml ?_; (with_reducible refine (annuityref15_money.calls a0 true _ A6.out).mono ?_); rintro e w' ⟨rfl, ⟨nd, rfl⟩⟩; refine ⟨_, rfl, ?_⟩) | (go_at_call 27; (with_reducible refine (annuityref15_money.calls a1 true _ A8.out).mono ?_); rintro e w' ⟨rfl, ⟨nd, rfl⟩⟩))
   go_meet
   case rel => exact ⟨_, (true), (by first | rfl | (simp; done) | (simp [*]; done)), H', ⟨by first | omega | exact Nat.le_refl _⟩, ⟨by exact h0q HB.out⟩⟩
  rw [if_neg c12] at H
  have c12b0 : decide (a3 < 0) = false := decide_eq_false c12
  clear c12
  have H' := am H
  clear H
  go_wp2_with (first | ((with_reducible refine gate_callee (f := 27) rfl ?_); refine goesL_ (some 15) rfl rfl Try.func27 (by kernel_rfl) rfl #[.int .i64 a0] rfl ml ?_; (with_reducible refine (annuityref15_money.calls a0 true _ A6.out).mono ?_); rintro e w' ⟨rfl, ⟨nd, rfl⟩⟩; refine ⟨_, rfl, ?_⟩) | (go_at_call 27; (with_reducible refine (annuityref15_money.calls a1 true _ A8.out).mono ?_); rintro e w' ⟨rfl, ⟨nd, rfl⟩⟩))
  go_meet
  case rel => exact ⟨_, (decide (a3 > 360)), (by first | rfl | (simp; done) | (simp [*]; done)), H', ⟨by first | omega | exact Nat.le_refl _⟩, ⟨by exact h0q HB.out⟩⟩
 case rest =>
  clear HC5
  try clear c7
  try clear c9
  try clear c10
  try clear c10b0
  try clear c11
  try clear c11b0
  try clear c12
  try clear c12b0
  obtain ⟨kq, x37_4, rfl, HA, HJ4, HB⟩ := hcut
  rcases kq with _ | kj4
  ·exact absurd HA.out (by simp [annuityref15_Table.j0])
  have H := HA.out
  clear HA
  simp only [annuityref15_Table.j0] at H
  by_cases c13 : x37_4 = true
  ·subst c13
   have H1 : (some (([] : List Int), 1)) = some (r1, r2) := by rw [if_pos rfl] at H; exact H
   clear H
   have H := H1
   clear H1
   simp only [Option.some.injEq, Prod.mk.injEq] at H
   obtain ⟨rfl, rfl⟩ := H
   go_wp2
   go_ret2
   exact ⟨_, er, by first | exact Kd.R_nil _ _ _ _ _ | exact Kd.N_nil _ _ _ _ _ | exact Kd.V_nil _ _ _ _ _ | exact Kd.Q_nil _ _ _ _ _ | exact Kd.S_nil _ _ _ _ _, by exact h0q HB.out⟩
  replace c13 := Bool.eq_false_iff.mpr c13
  subst c13
  have H1 : (annuityref15_Table.l0 kj4 a0 a1 a2 a3 ([] : List Int) 0) = some (r1, r2) := by rw [if_neg (show ¬ (false = true) by decide)] at H; exact H
  clear H
  have H := H1
  clear H1
  have H' := am H
  clear H
  go_wp2
  go_loopg [0, 10, 11] kj4 (fun kq v0 v10 v11 w' => ∃ (x0_2 : Int) (x10_2 : List Int) (x11_2 : Int), v0 = .int .i64 x0_2 ∧ v11 = .int .i64 x11_2 ∧ Aside0 (annuityref15_Table.l0 kq x0_2 a1 a2 a3 x10_2 x11_2 = some (r1, r2)) ∧ Aside0 (kq ≤ kj4) ∧ Aside0 (Kd.R (Kd.int .i64) 2 w' w.heap.size (fun _ => True) v10 x10_2) ∧ Aside0 (Below w.heap.size w w'))
  case atStart => exact ⟨(a0), (([] : List Int)), (0), (by first | rfl | (simp; done) | (simp [*]; done)), (by first | rfl | (simp; done) | (simp [*]; done)), H', ⟨Nat.le_refl _⟩, ⟨by first | exact Kd.R_nil _ _ _ _ _ | exact Kd.N_nil _ _ _ _ _ | exact Kd.V_nil _ _ _ _ _ | exact Kd.Q_nil _ _ _ _ _ | exact Kd.S_nil _ _ _ _ _⟩, ⟨by exact h0q HB.out⟩⟩
  case round =>
   clear H'
   try clear c7
   try clear c9
   try clear c10
   try clear c10b0
   try clear c11
   try clear c11b0
   try clear c12
   try clear c12b0
   try clear c13
   obtain ⟨x0_2, x10_2, x11_2, rfl, rfl, HA, HK2, HO_10, HB⟩ := hrel
   rcases gk with _ | k2
   ·exact absurd HA.out (by simp [annuityref15_Table.l0])
   have H := HA.out
   clear HA
   simp only [annuityref15_Table.l0] at H
   by_cases c14 : x11_2 < a3
   case neg =>
    rw [if_neg c14] at H
    have c14b0 : decide (x11_2 < a3) = false := decide_eq_false c14
    clear c14
    simp only [Option.some.injEq, Prod.mk.injEq] at H
    obtain ⟨rfl, rfl⟩ := H
    go_wp2
    go_ret2
    exact ⟨_, er, by (with_reducible repeat (first | apply Kd.R_alloc | apply Kd.R_drewN | apply Kd.R_drew)); exact HO_10.out, by exact h0q HB.out⟩
   rw [if_pos c14] at H
   have c14b0 : decide (x11_2 < a3) = true := decide_eq_true c14
   clear c14
   replace H := Option.bind_eq_some_iff.mp H
   obtain ⟨⟨t170, t171⟩, A150, H⟩ := H
   replace H : (if t171 = 0 then (if x10_2.length < 17592186044416 then (annuityref15_Table.l0 k2 t170 a1 a2 a3 (x10_2 ++ [t170]) (wrap64 (x11_2 + 1))) else (none)) else (some (([] : List Int), t171))) = some (r1, r2) := H
   have A15 := am A150
   clear A150
   by_cases c16 : t171 = 0
   case neg =>
    rw [if_neg c16] at H
    have c16b0 : (t171 == 0) = false := beq_eq_false_iff_ne.mpr c16
    have c16b1 : (t171 != 0) = true := bne_iff_ne.mpr c16
    simp only [Option.some.injEq, Prod.mk.injEq] at H
    obtain ⟨rfl, rfl⟩ := H
    go_wp2_with (first | ((with_reducible refine gate_callee (f := 57) rfl ?_); refine goesL_ (some 47) rfl rfl Try.func57 (by kernel_rfl) rfl #[.int .i64 x0_2, .int .i64 a1, .int .i64 a2] rfl ml ?_; (with_reducible refine (annuityref15_Month.calls k2 x0_2 a1 a2 t170 t171 _ A15.out).mono ?_); rintro e w20 ⟨rfl, hb⟩; refine ⟨_, rfl, ?_⟩; have n0_ := am (Kd.R_below (by exact rq HO_10.out) hb); have n1_ := am (below_step (by exact h0q HB.out) hb); clear HO_10; clear HB; have HO_10 := n0_; have HB := n1_; clear n0_ n1_; (try clear hb); (try clear hb2); (try clear hk); (try clear hi)))
    go_ret2
    exact ⟨_, er, by first | exact Kd.R_nil _ _ _ _ _ | exact Kd.N_nil _ _ _ _ _ | exact Kd.V_nil _ _ _ _ _ | exact Kd.Q_nil _ _ _ _ _ | exact Kd.S_nil _ _ _ _ _, by exact h0q HB.out⟩
   rw [if_pos c16] at H
   have c16b0 : (t171 == 0) = true := beq_iff_eq.mpr c16
   have c16b1 : (t171 != 0) = false := bne_eq_false_iff_eq.mpr c16
   clear c16
   by_cases c17 : x10_2.length < 17592186044416
   case neg =>
    rw [if_neg c17] at H
    exact absurd H (by simp)
   rw [if_pos c17] at H
   have LMc17 := am c17
   clear c17
   obtain ⟨y172, hy172⟩ : ∃ y_ : List Int, y_ = (x10_2 ++ [t170]) := ⟨_, rfl⟩
   replace H : (annuityref15_Table.l0 k2 t170 a1 a2 a3 y172 (wrap64 (x11_2 + 1))) = some (r1, r2) := by first | (rw [hy172]; with_reducible exact H) | (have H2_ := (Option.bind_some _ _).symm.trans H; rw [hy172]; with_reducible exact H2_) | (have H2_ := (Option.bind_some _ _).symm.trans H; with_reducible exact H2_) | with_reducible exact H | (rw [hy172]; exact H) | exact H
   have Ny172 := am hy172
   clear hy172
   have H' := am H
   clear H
   go_wp2_with (first | ((with_reducible refine gate_callee (f := 57) rfl ?_); refine goesL_ (some 47) rfl rfl Try.func57 (by kernel_rfl) rfl #[.int .i64 x0_2, .int .i64 a1, .int .i64 a2] rfl ml ?_; (with_reducible refine (annuityref15_Month.calls k2 x0_2 a1 a2 t170 t171 _ A15.out).mono ?_); rintro e w18 ⟨rfl, hb⟩; refine ⟨_, rfl, ?_⟩; have n0_ := am (Kd.R_below (by exact rq HO_10.out) hb); have n1_ := am (below_step (by exact h0q HB.out) hb); clear HO_10; clear HB; have HO_10 := n0_; have HB := n1_; clear n0_ n1_; (try clear hb); (try clear hb2); (try clear hk); (try clear hi)) | ((with_reducible refine gate_builtin (b := .append) (xs := #[.tmp 54, .tmp 56]) rfl ?_); at_builtin; refine Kd.R_append (Kd.int .i64) (w0 := w) w.heap.size rfl (.tmp 54) (.tmp 56) 47 2 (.int .i64 0) 8 rfl Try.underlying47 info2 rfl (by decide) (by omega) u10 x10_2 t170 [.int .i64 t170] (fun _ => True) (fun _ => False) rfl rfl ?aP (fun _ hk => hk.elim) ?aF ?aO ?aB ?aS ?aL ?_; (case aP => exact rfl); (case aB => exact (by exact h0q HB.out)); (case aF => exact (fun _ _ => trivial)); (case aO => exact (by exact rq HO_10.out)); (case aS => exact (below_size (by exact h0q HB.out))); (case aL => have := LMc17.out; omega); intro v173 w19 ho hb hg hat; rw [← Ny172.out] at ho; have n0_ := am (hb); have n1_ := am (ho); clear HB; clear HO_10; have HB := n0_; have HO174 := n1_; clear n0_ n1_; clear ho hb hg hat))
   go_roundg k2
   case measure => have := HJ4.out; have := HK2.out; omega
   case rel => exact ⟨(t170), (y172), (wrap64 (x11_2 + 1)), (by first | rfl | (simp; done) | (simp [*]; done)), (by first | rfl | (simp; done) | (simp [*]; done)), H', ⟨by have := HJ4.out; have := HK2.out; omega⟩, ⟨by exact rq HO174.out⟩, ⟨by exact h0q HB.out⟩⟩
def annuityref15_Left.f (k : Nat) (a0 : Int) (a1 : Int) (a2 : Int) (a3 : Int) : Option (Int × Int) := (annuityref15_Table.f k a0 a1 a2 a3).bind fun bt175 => (if bt175.2 = 0 then (if (bt175.1.length : Int) > 0 then (if 0 ≤ (wrap64 ((bt175.1.length : Int) - 1)) then (if (wrap64 ((bt175.1.length : Int) - 1)) < (bt175.1.length : Int) then (some (rd bt175.1 (wrap64 ((bt175.1.length : Int) - 1)), 0)) else (none)) else (none)) else (some (a0, 0))) else (some (0, bt175.2)))
set_option maxHeartbeats 8000000 in
set_option maxRecDepth 100000 in
theorem annuityref15_Left.calls (k : Nat) (a0 : Int) (a1 : Int) (a2 : Int) (a3 : Int) (r1 : Int) (r2 : Int) (w : World) (h : annuityref15_Left.f k a0 a1 a2 a3 = some (r1, r2)) :
  Calls Try.prog 28 #[.int .i64 a0, .int .i64 a1, .int .i64 a2, .int .i64 a3] w fun e w' => e = .returned (.tuple #[.int .i64 r1, .int .i64 r2]) ∧ Below w.heap.size w w' := by
 have HB := am (Below.refl w.heap.size w)
 have H : ((annuityref15_Table.f k a0 a1 a2 a3).bind fun bt175 => (if bt175.2 = 0 then (if (bt175.1.length : Int) > 0 then (if 0 ≤ (wrap64 ((bt175.1.length : Int) - 1)) then (if (wrap64 ((bt175.1.length : Int) - 1)) < (bt175.1.length : Int) then (some (rd bt175.1 (wrap64 ((bt175.1.length : Int) - 1)), 0)) else (none)) else (none)) else (some (a0, 0))) else (some (0, bt175.2)))) = some (r1, r2) := h
 clear h
 replace H := Option.bind_eq_some_iff.mp H
 obtain ⟨⟨t175, t176⟩, A50, H⟩ := H
 replace H : (if t176 = 0 then (if (t175.length : Int) > 0 then (if 0 ≤ (wrap64 ((t175.length : Int) - 1)) then (if (wrap64 ((t175.length : Int) - 1)) < (t175.length : Int) then (some (rd t175 (wrap64 ((t175.length : Int) - 1)), 0)) else (none)) else (none)) else (some (a0, 0))) else (some (0, t176))) = some (r1, r2) := H
 have A5 := am A50
 clear A50
 by_cases c6 : t176 = 0
 ·rw [if_pos c6] at H
  have c6b0 : (t176 == 0) = true := beq_iff_eq.mpr c6
  have c6b1 : (t176 != 0) = false := bne_eq_false_iff_eq.mpr c6
  clear c6
  by_cases c7 : (t175.length : Int) > 0
  ·rw [if_pos c7] at H
   have c7b0 : decide (0 < (t175.length : Int)) = true := decide_eq_true c7
   have c7b1 : decide (0 < t175.length) = true := decide_eq_true (by omega)
   clear c7
   obtain ⟨ji8, hji8⟩ : ∃ j_ : Int, (wrap64 ((t175.length : Int) - 1)) = j_ := ⟨_, rfl⟩
   replace H : (if 0 ≤ (ji8) then (if (ji8) < (t175.length : Int) then (some (rd t175 (ji8), 0)) else (none)) else (none)) = some (r1, r2) := by first | (rw [hji8] at H; exact H) | (simp only [hji8] at H ⊢; exact H)
   (try rw [hji8] at A5)
   have hji8w : (IntKind.i64.wrap ((t175.length : Int) - 1)) = ji8 := (i64_w _).trans hji8
   by_cases c9 : 0 ≤ (ji8)
   ·rw [if_pos c9] at H
    have c9b0 : decide (0 ≤ (ji8)) = true := decide_eq_true c9
    clear c9
    by_cases c10 : (ji8) < (t175.length : Int)
    ·rw [if_pos c10] at H
     have c10b0 : decide ((ji8) < (t175.length : Int)) = true := decide_eq_true c10
     clear c10
     simp only [Option.some.injEq, Prod.mk.injEq] at H
     obtain ⟨rfl, rfl⟩ := H
     go_enter Try.func28, Try.ntmps28
     go_wp2_with (first | ((with_reducible refine gate_callee (f := 43) rfl ?_); refine goesL_ (some 17) rfl rfl Try.func43 (by kernel_rfl) rfl #[.int .i64 a0, .int .i64 a1, .int .i64 a2, .int .i64 a3] rfl ml ?_; (with_reducible refine (annuityref15_Table.calls k a0 a1 a2 a3 t175 t176 _ A5.out).mono ?_); rintro e w11 ⟨v177, rfl, ho0, hb⟩; refine ⟨_, rfl, ?_⟩; have n0_ := am (Kd.R_lower ho0 (below_size (by exact h0q HB.out))); have n1_ := am (below_step (by exact h0q HB.out) hb); clear HB; have HO178 := n0_; have HB := n1_; clear n0_ n1_; (try clear hb); (try clear hb2); (try clear hk); (try clear hi); (try clear ho0); obtain ⟨Ao12, co12, eo12⟩ := Kd.R_slice HO178.out; subst eo12; have p179 : 0 ≤ ((ji8) : Int) := yd; have q179 : (ji8) < (t175.length : Int) := yd; obtain ⟨ad179, e179, hx179_0⟩ := Kd.at_int (Kd.R_reads' HO178.out).2.2 (ji8) p179 q179; cases e179; replace p179 := eq_true p179; replace q179 := eq_true q179))
     go_ret2
     exact ⟨by first | rfl | (simp [errW_none, errW_some] <;> rfl) | (simp only [← hji8]; first | rfl | (simp [errW_none, errW_some] <;> rfl)) | (simp [*, errW_none, errW_some] <;> rfl), by exact h0q HB.out⟩
    ·rw [if_neg c10] at H
     exact absurd H (by simp)
   ·rw [if_neg c9] at H
    exact absurd H (by simp)
  ·rw [if_neg c7] at H
   have c7b0 : decide (0 < (t175.length : Int)) = false := decide_eq_false c7
   have c7b1 : decide (0 < t175.length) = false := decide_eq_false (by omega)
   clear c7
   simp only [Option.some.injEq, Prod.mk.injEq] at H
   obtain ⟨rfl, rfl⟩ := H
   go_enter Try.func28, Try.ntmps28
   go_wp2_with (first | ((with_reducible refine gate_callee (f := 43) rfl ?_); refine goesL_ (some 17) rfl rfl Try.func43 (by kernel_rfl) rfl #[.int .i64 a0, .int .i64 a1, .int .i64 a2, .int .i64 a3] rfl ml ?_; (with_reducible refine (annuityref15_Table.calls k a0 a1 a2 a3 t175 t176 _ A5.out).mono ?_); rintro e w13 ⟨v177, rfl, ho0, hb⟩; refine ⟨_, rfl, ?_⟩; have n0_ := am (Kd.R_lower ho0 (below_size (by exact h0q HB.out))); have n1_ := am (below_step (by exact h0q HB.out) hb); clear HB; have HO178 := n0_; have HB := n1_; clear n0_ n1_; (try clear hb); (try clear hb2); (try clear hk); (try clear hi); (try clear ho0); obtain ⟨Ao14, co14, eo14⟩ := Kd.R_slice HO178.out; subst eo14))
   go_ret2
   exact ⟨er, by exact h0q HB.out⟩
 ·rw [if_neg c6] at H
  have c6b0 : (t176 == 0) = false := beq_eq_false_iff_ne.mpr c6
  have c6b1 : (t176 != 0) = true := bne_iff_ne.mpr c6
  simp only [Option.some.injEq, Prod.mk.injEq] at H
  obtain ⟨rfl, rfl⟩ := H
  go_enter Try.func28, Try.ntmps28
  go_wp2_with (first | ((with_reducible refine gate_callee (f := 43) rfl ?_); refine goesL_ (some 17) rfl rfl Try.func43 (by kernel_rfl) rfl #[.int .i64 a0, .int .i64 a1, .int .i64 a2, .int .i64 a3] rfl ml ?_; (with_reducible refine (annuityref15_Table.calls k a0 a1 a2 a3 t175 t176 _ A5.out).mono ?_); rintro e w15 ⟨v177, rfl, ho0, hb⟩; refine ⟨_, rfl, ?_⟩; have n0_ := am (Kd.R_lower ho0 (below_size (by exact h0q HB.out))); have n1_ := am (below_step (by exact h0q HB.out) hb); clear HB; have HO178 := n0_; have HB := n1_; clear n0_ n1_; (try clear hb); (try clear hb2); (try clear hk); (try clear hi); (try clear ho0)))
  go_ret2
  exact ⟨er, by exact h0q HB.out⟩
mutual
def annuityref15_Of.j0 : Nat → Int → Int → Int → Bool → Option (Int × Int)
 | 0, _, _, _, _ => none
 | k + 1, x0, x1, x2, x34 => if x34 = true then (some (0, 1)) else ((annuityref15_Left.f k x0 10000000000000 x1 x2).bind fun bt181 => (if bt181.2 = 0 then (annuityref15_Of.j1 k x0 x1 x2 (-1) 10000000000000 (bt181.1 != 0)) else (annuityref15_Of.j1 k x0 x1 x2 (-1) 10000000000000 true)))
def annuityref15_Of.j1 : Nat → Int → Int → Int → Int → Int → Bool → Option (Int × Int)
 | 0, _, _, _, _, _, _ => none
 | k + 1, x0, x1, x2, x8, x9, x48 => if x48 = true then (some (0, 14)) else (annuityref15_Of.l0 k x0 x1 x2 x8 x9 0)
def annuityref15_Of.l0 : Nat → Int → Int → Int → Int → Int → Int → Option (Int × Int)
 | 0, _, _, _, _, _, _ => none
 | k + 1, x0, x1, x2, x8, x9, x12 => if x12 < 60 then (annuityref15_Of.j3 k x0 x1 x2 x8 x9 x12 (decide ((wrap64 (x9 - x8)) > 1))) else (annuityref15_Of.j3 k x0 x1 x2 x8 x9 x12 false)
def annuityref15_Of.j3 : Nat → Int → Int → Int → Int → Int → Int → Bool → Option (Int × Int)
 | 0, _, _, _, _, _, _, _ => none
 | k + 1, x0, x1, x2, x8, x9, x12, x56 => if x56 = true then ((annuityref15_Left.f k x0 (wrap64 (x8 + (wrap64 (Int.tdiv (wrap64 (x9 - x8)) 2)))) x1 x2).bind fun bt183 => (if bt183.2 = 0 then (if bt183.1 = 0 then (annuityref15_Of.l0 k x0 x1 x2 x8 (wrap64 (x8 + (wrap64 (Int.tdiv (wrap64 (x9 - x8)) 2)))) (wrap64 (x12 + 1))) else (annuityref15_Of.l0 k x0 x1 x2 (wrap64 (x8 + (wrap64 (Int.tdiv (wrap64 (x9 - x8)) 2)))) x9 (wrap64 (x12 + 1)))) else (annuityref15_Of.l0 k x0 x1 x2 (wrap64 (x8 + (wrap64 (Int.tdiv (wrap64 (x9 - x8)) 2)))) x9 (wrap64 (x12 + 1))))) else (some (x9, 0))
end
def annuityref15_Of.f (k : Nat) (a0 : Int) (a1 : Int) (a2 : Int) : Option (Int × Int) := (annuityref15_money.f a0).bind fun t180 => (if t180 = true then (if a1 < 0 then (annuityref15_Of.j0 k a0 a1 a2 true) else (if a1 > 1000000 then (annuityref15_Of.j0 k a0 a1 a2 true) else (if a2 < 1 then (annuityref15_Of.j0 k a0 a1 a2 true) else (annuityref15_Of.j0 k a0 a1 a2 (decide (a2 > 360)))))) else (annuityref15_Of.j0 k a0 a1 a2 true))
set_option maxHeartbeats 8000000 in
set_option maxRecDepth 100000 in
theorem annuityref15_Of.calls (k : Nat) (a0 : Int) (a1 : Int) (a2 : Int) (r1 : Int) (r2 : Int) (w : World) (h : annuityref15_Of.f k a0 a1 a2 = some (r1, r2)) :
  Calls Try.prog 14 #[.int .i64 a0, .int .i64 a1, .int .i64 a2] w fun e w' => e = .returned (.tuple #[.int .i64 r1, .int .i64 r2]) ∧ Below w.heap.size w w' := by
 have HB := am (Below.refl w.heap.size w)
 have H : ((annuityref15_money.f a0).bind fun t180 => (if t180 = true then (if a1 < 0 then (annuityref15_Of.j0 k a0 a1 a2 true) else (if a1 > 1000000 then (annuityref15_Of.j0 k a0 a1 a2 true) else (if a2 < 1 then (annuityref15_Of.j0 k a0 a1 a2 true) else (annuityref15_Of.j0 k a0 a1 a2 (decide (a2 > 360)))))) else (annuityref15_Of.j0 k a0 a1 a2 true))) = some (r1, r2) := h
 clear h
 have HC4 := am H
 clear H
 go_enter Try.func14, Try.ntmps14
 go_upto_region 1 with (fail)
 go_cut [34] (fun v34 wc => ∃ (kq : Nat) (x34_3 : Bool), v34 = .bool x34_3 ∧ Aside0 (annuityref15_Of.j0 kq a0 a1 a2 x34_3 = some (r1, r2)) ∧ Aside0 (kq ≤ k) ∧ Aside0 (Below w.heap.size w wc))
 case first =>
  have H := HC4.out
  clear HC4
  replace H := Option.bind_eq_some_iff.mp H
  obtain ⟨t180, A50, H⟩ := H
  replace H : (if t180 = true then (if a1 < 0 then (annuityref15_Of.j0 k a0 a1 a2 true) else (if a1 > 1000000 then (annuityref15_Of.j0 k a0 a1 a2 true) else (if a2 < 1 then (annuityref15_Of.j0 k a0 a1 a2 true) else (annuityref15_Of.j0 k a0 a1 a2 (decide (a2 > 360)))))) else (annuityref15_Of.j0 k a0 a1 a2 true)) = some (r1, r2) := H
  have A5 := am A50
  clear A50
  by_cases c6 : t180 = true
  ·subst c6
   have H1 : (if a1 < 0 then (annuityref15_Of.j0 k a0 a1 a2 true) else (if a1 > 1000000 then (annuityref15_Of.j0 k a0 a1 a2 true) else (if a2 < 1 then (annuityref15_Of.j0 k a0 a1 a2 true) else (annuityref15_Of.j0 k a0 a1 a2 (decide (a2 > 360)))))) = some (r1, r2) := by rw [if_pos rfl] at H; exact H
   clear H
   have H := H1
   clear H1
   by_cases c7 : a1 < 0
   ·rw [if_pos c7] at H
    have c7b0 : decide (a1 < 0) = true := decide_eq_true c7
    clear c7
    (first | rw [c7b0] | (simp only [i64_w, i32_w]; rw [c7b0]) | skip)
    have H' := am H
    clear H
    go_wp2_with (first | ((with_reducible refine gate_callee (f := 27) rfl ?_); refine goesL_ (some 17) rfl rfl Try.func27 (by kernel_rfl) rfl #[.int .i64 a0] rfl ml ?_; (with_reducible refine (annuityref15_money.calls a0 true _ A5.out).mono ?_); rintro e w' ⟨rfl, ⟨nd, rfl⟩⟩; refine ⟨_, rfl, ?_⟩))
    go_meet
    case rel => exact ⟨_, (true), (by first | rfl | (simp; done) | (simp [*]; done)), H', ⟨by first | omega | exact Nat.le_refl _⟩, ⟨by exact h0q HB.out⟩⟩
   ·rw [if_neg c7] at H
    have c7b0 : decide (a1 < 0) = false := decide_eq_false c7
    clear c7
    (first | rw [c7b0] | (simp only [i64_w, i32_w]; rw [c7b0]) | skip)
    by_cases c8 : a1 > 1000000
    ·rw [if_pos c8] at H
     have c8b0 : decide (1000000 < a1) = true := decide_eq_true c8
     clear c8
     have H' := am H
     clear H
     go_wp2_with (first | ((with_reducible refine gate_callee (f := 27) rfl ?_); refine goesL_ (some 17) rfl rfl Try.func27 (by kernel_rfl) rfl #[.int .i64 a0] rfl ml ?_; (with_reducible refine (annuityref15_money.calls a0 true _ A5.out).mono ?_); rintro e w' ⟨rfl, ⟨nd, rfl⟩⟩; refine ⟨_, rfl, ?_⟩))
     go_meet
     case rel => exact ⟨_, (true), (by first | rfl | (simp; done) | (simp [*]; done)), H', ⟨by first | omega | exact Nat.le_refl _⟩, ⟨by exact h0q HB.out⟩⟩
    ·rw [if_neg c8] at H
     have c8b0 : decide (1000000 < a1) = false := decide_eq_false c8
     clear c8
     by_cases c9 : a2 < 1
     ·rw [if_pos c9] at H
      have c9b0 : decide (a2 < 1) = true := decide_eq_true c9
      clear c9
      have H' := am H
      clear H
      go_wp2_with (first | ((with_reducible refine gate_callee (f := 27) rfl ?_); refine goesL_ (some 17) rfl rfl Try.func27 (by kernel_rfl) rfl #[.int .i64 a0] rfl ml ?_; (with_reducible refine (annuityref15_money.calls a0 true _ A5.out).mono ?_); rintro e w' ⟨rfl, ⟨nd, rfl⟩⟩; refine ⟨_, rfl, ?_⟩))
      go_meet
      case rel => exact ⟨_, (true), (by first | rfl | (simp; done) | (simp [*]; done)), H', ⟨by first | omega | exact Nat.le_refl _⟩, ⟨by exact h0q HB.out⟩⟩
     ·rw [if_neg c9] at H
      have c9b0 : decide (a2 < 1) = false := decide_eq_false c9
      clear c9
      have H' := am H
      clear H
      go_wp2_with (first | ((with_reducible refine gate_callee (f := 27) rfl ?_); refine goesL_ (some 17) rfl rfl Try.func27 (by kernel_rfl) rfl #[.int .i64 a0] rfl ml ?_; (with_reducible refine (annuityref15_money.calls a0 true _ A5.out).mono ?_); rintro e w' ⟨rfl, ⟨nd, rfl⟩⟩; refine ⟨_, rfl, ?_⟩))
      go_meet
      case rel => exact ⟨_, (decide (a2 > 360)), (by first | rfl | (simp; done) | (simp [*]; done)), H', ⟨by first | omega | exact Nat.le_refl _⟩, ⟨by exact h0q HB.out⟩⟩
  ·replace c6 := Bool.eq_false_iff.mpr c6
   subst c6
   have H1 : (annuityref15_Of.j0 k a0 a1 a2 true) = some (r1, r2) := by rw [if_neg (show ¬ (false = true) by decide)] at H; exact H
   clear H
   have H := H1
   clear H1
   have H' := am H
   clear H
   go_wp2_with (first | ((with_reducible refine gate_callee (f := 27) rfl ?_); refine goesL_ (some 17) rfl rfl Try.func27 (by kernel_rfl) rfl #[.int .i64 a0] rfl ml ?_; (with_reducible refine (annuityref15_money.calls a0 false _ A5.out).mono ?_); rintro e w' ⟨rfl, ⟨nd, rfl⟩⟩; refine ⟨_, rfl, ?_⟩))
   go_meet
   case rel => exact ⟨_, (true), (by first | rfl | (simp; done) | (simp [*]; done)), H', ⟨by first | omega | exact Nat.le_refl _⟩, ⟨by exact h0q HB.out⟩⟩
 case rest =>
  clear HC4
  try clear c6
  try clear c7
  try clear c7b0
  try clear c8
  try clear c8b0
  try clear c9
  try clear c9b0
  obtain ⟨kq, x34_3, rfl, HA, HJ3, HB⟩ := hcut
  rcases kq with _ | kj3
  ·exact absurd HA.out (by simp [annuityref15_Of.j0])
  have H := HA.out
  clear HA
  simp only [annuityref15_Of.j0] at H
  by_cases c10 : x34_3 = true
  ·subst c10
   have H1 : (some (0, 1)) = some (r1, r2) := by rw [if_pos rfl] at H; exact H
   clear H
   have H := H1
   clear H1
   simp only [Option.some.injEq, Prod.mk.injEq] at H
   obtain ⟨rfl, rfl⟩ := H
   go_wp2
   go_ret2
   exact ⟨er, by exact h0q HB.out⟩
  ·replace c10 := Bool.eq_false_iff.mpr c10
   subst c10
   have H1 : ((annuityref15_Left.f kj3 a0 10000000000000 a1 a2).bind fun bt181 => (if bt181.2 = 0 then (annuityref15_Of.j1 kj3 a0 a1 a2 (-1) 10000000000000 (bt181.1 != 0)) else (annuityref15_Of.j1 kj3 a0 a1 a2 (-1) 10000000000000 true))) = some (r1, r2) := by rw [if_neg (show ¬ (false = true) by decide)] at H; exact H
   clear H
   have H := H1
   clear H1
   replace H := Option.bind_eq_some_iff.mp H
   obtain ⟨⟨t181, t182⟩, A110, H⟩ := H
   replace H : (if t182 = 0 then (annuityref15_Of.j1 kj3 a0 a1 a2 (-1) 10000000000000 (t181 != 0)) else (annuityref15_Of.j1 kj3 a0 a1 a2 (-1) 10000000000000 true)) = some (r1, r2) := H
   have A11 := am A110
   clear A110
   have HC12 := am H
   clear H
   go_upto_region 5 with (first | ((with_reducible refine gate_callee (f := 28) rfl ?_); refine goesL_ (some 40) rfl rfl Try.func28 (by kernel_rfl) rfl #[.int .i64 a0, .int .i64 10000000000000, .int .i64 a1, .int .i64 a2] rfl ml ?_; (with_reducible refine (annuityref15_Left.calls kj3 a0 10000000000000 a1 a2 t181 t182 _ A11.out).mono ?_); rintro e w13 ⟨rfl, hb⟩; refine ⟨_, rfl, ?_⟩; have n0_ := am (below_step (by exact h0q HB.out) hb); clear HB; have HB := n0_; clear n0_; (try clear hb); (try clear hb2); (try clear hk); (try clear hi)))
   (try simp only [Act.put, List.setIfInBounds_toArray, List.set_cons_zero, List.set_cons_succ])
   go_cut [48] (fun v48 wc => ∃ (kq : Nat) (x48_11 : Bool), v48 = .bool x48_11 ∧ Aside0 (annuityref15_Of.j1 kq a0 a1 a2 (-1) 10000000000000 x48_11 = some (r1, r2)) ∧ Aside0 (kq ≤ kj3) ∧ Aside0 (Below w.heap.size w wc))
   case first =>
    have H := HC12.out
    clear HC12
    by_cases c14 : t182 = 0
    ·rw [if_pos c14] at H
     have c14b0 : (t182 == 0) = true := beq_iff_eq.mpr c14
     have c14b1 : (t182 != 0) = false := bne_eq_false_iff_eq.mpr c14
     clear c14
     (first | rw [c14b0] | (simp only [i64_w, i32_w]; rw [c14b0]) | skip)
     have H' := am H
     clear H
     go_wp2
     go_meet
     case rel => exact ⟨_, ((t181 != 0)), (by first | rfl | (simp; done) | (simp [*]; done)), H', ⟨by have := HJ3.out; first | omega | exact Nat.le_refl _⟩, ⟨by exact h0q HB.out⟩⟩
    ·rw [if_neg c14] at H
     have c14b0 : (t182 == 0) = false := beq_eq_false_iff_ne.mpr c14
     have c14b1 : (t182 != 0) = true := bne_iff_ne.mpr c14
     (first | rw [c14b0] | (simp only [i64_w, i32_w]; rw [c14b0]) | skip)
     have H' := am H
     clear H
     go_wp2
     go_meet
     case rel => exact ⟨_, (true), (by first | rfl | (simp; done) | (simp [*]; done)), H', ⟨by have := HJ3.out; first | omega | exact Nat.le_refl _⟩, ⟨by exact h0q HB.out⟩⟩
   case rest =>
    clear HC12
    try clear c6
    try clear c7
    try clear c7b0
    try clear c8
    try clear c8b0
    try clear c9
    try clear c9b0
    try clear c10
    try clear c14
    try clear c14b0 c14b1
    obtain ⟨kq, x48_11, rfl, HA, HJ11, HB⟩ := hcut
    rcases kq with _ | kj11
    ·exact absurd HA.out (by simp [annuityref15_Of.j1])
    have H := HA.out
    clear HA
    simp only [annuityref15_Of.j1] at H
    by_cases c15 : x48_11 = true
    ·subst c15
     have H1 : (some (0, 14)) = some (r1, r2) := by rw [if_pos rfl] at H; exact H
     clear H
     have H := H1
     clear H1
     simp only [Option.some.injEq, Prod.mk.injEq] at H
     obtain ⟨rfl, rfl⟩ := H
     go_wp2
     go_ret2
     exact ⟨er, by exact h0q HB.out⟩
    ·replace c15 := Bool.eq_false_iff.mpr c15
     subst c15
     have H1 : (annuityref15_Of.l0 kj11 a0 a1 a2 (-1) 10000000000000 0) = some (r1, r2) := by rw [if_neg (show ¬ (false = true) by decide)] at H; exact H
     clear H
     have H := H1
     clear H1
     have H' := am H
     clear H
     go_wp2
     go_loopg [8, 9, 12] kj11 (fun kq v8 v9 v12 w' => ∃ (x8_3 : Int) (x9_3 : Int) (x12_3 : Int), v8 = .int .i64 x8_3 ∧ v9 = .int .i64 x9_3 ∧ v12 = .int .i64 x12_3 ∧ Aside0 (annuityref15_Of.l0 kq a0 a1 a2 x8_3 x9_3 x12_3 = some (r1, r2)) ∧ Aside0 (kq ≤ kj11) ∧ Aside0 (Below w.heap.size w w'))
     case atStart => exact ⟨((-1)), (10000000000000), (0), (by first | rfl | (simp; done) | (simp [*]; done)), (by first | rfl | (simp; done) | (simp [*]; done)), (by first | rfl | (simp; done) | (simp [*]; done)), H', ⟨Nat.le_refl _⟩, ⟨by exact h0q HB.out⟩⟩
     case round =>
      clear H'
      try clear c6
      try clear c7
      try clear c7b0
      try clear c8
      try clear c8b0
      try clear c9
      try clear c9b0
      try clear c10
      try clear c14
      try clear c14b0 c14b1
      try clear c15
      obtain ⟨x8_3, x9_3, x12_3, rfl, rfl, rfl, HA, HK3, HB⟩ := hrel
      rcases gk with _ | k3
      ·exact absurd HA.out (by simp [annuityref15_Of.l0])
      have H := HA.out
      clear HA
      simp only [annuityref15_Of.l0] at H
      have HC16 := am H
      clear H
      go_upto_region 8 with (fail)
      go_cut [56] (fun v56 wc => ∃ (kq : Nat) (x56_15 : Bool), v56 = .bool x56_15 ∧ Aside0 (annuityref15_Of.j3 kq a0 a1 a2 x8_3 x9_3 x12_3 x56_15 = some (r1, r2)) ∧ Aside0 (kq ≤ k3) ∧ Aside0 (Below w.heap.size w wc))
      case first =>
       have H := HC16.out
       clear HC16
       by_cases c17 : x12_3 < 60
       ·rw [if_pos c17] at H
        have c17b0 : decide (x12_3 < 60) = true := decide_eq_true c17
        clear c17
        (first | rw [c17b0] | (simp only [i64_w, i32_w]; rw [c17b0]) | skip)
        have H' := am H
        clear H
        go_wp2
        go_meet
        case rel => exact ⟨_, (decide ((wrap64 (x9_3 - x8_3)) > 1)), (by first | rfl | (simp; done) | (simp [*]; done)), H', ⟨by have := HJ3.out; have := HJ11.out; have := HK3.out; first | omega | exact Nat.le_refl _⟩, ⟨by exact h0q HB.out⟩⟩
       ·rw [if_neg c17] at H
        have c17b0 : decide (x12_3 < 60) = false := decide_eq_false c17
        clear c17
        (first | rw [c17b0] | (simp only [i64_w, i32_w]; rw [c17b0]) | skip)
        have H' := am H
        clear H
        go_wp2
        go_meet
        case rel => exact ⟨_, (false), (by first | rfl | (simp; done) | (simp [*]; done)), H', ⟨by have := HJ3.out; have := HJ11.out; have := HK3.out; first | omega | exact Nat.le_refl _⟩, ⟨by exact h0q HB.out⟩⟩
      case rest =>
       clear HC16
       try clear c6
       try clear c7
       try clear c7b0
       try clear c8
       try clear c8b0
       try clear c9
       try clear c9b0
       try clear c10
       try clear c14
       try clear c14b0 c14b1
       try clear c15
       try clear c17
       try clear c17b0
       obtain ⟨kq, x56_15, rfl, HA, HJ15, HB⟩ := hcut
       rcases kq with _ | kj15
       ·exact absurd HA.out (by simp [annuityref15_Of.j3])
       have H := HA.out
       clear HA
       simp only [annuityref15_Of.j3] at H
       by_cases c18 : x56_15 = true
       ·subst c18
        have H1 : ((annuityref15_Left.f kj15 a0 (wrap64 (x8_3 + (wrap64 (Int.tdiv (wrap64 (x9_3 - x8_3)) 2)))) a1 a2).bind fun bt183 => (if bt183.2 = 0 then (if bt183.1 = 0 then (annuityref15_Of.l0 kj15 a0 a1 a2 x8_3 (wrap64 (x8_3 + (wrap64 (Int.tdiv (wrap64 (x9_3 - x8_3)) 2)))) (wrap64 (x12_3 + 1))) else (annuityref15_Of.l0 kj15 a0 a1 a2 (wrap64 (x8_3 + (wrap64 (Int.tdiv (wrap64 (x9_3 - x8_3)) 2)))) x9_3 (wrap64 (x12_3 + 1)))) else (annuityref15_Of.l0 kj15 a0 a1 a2 (wrap64 (x8_3 + (wrap64 (Int.tdiv (wrap64 (x9_3 - x8_3)) 2)))) x9_3 (wrap64 (x12_3 + 1))))) = some (r1, r2) := by rw [if_pos rfl] at H; exact H
        clear H
        have H := H1
        clear H1
        replace H := Option.bind_eq_some_iff.mp H
        obtain ⟨⟨t183, t184⟩, A190, H⟩ := H
        replace H : (if t184 = 0 then (if t183 = 0 then (annuityref15_Of.l0 kj15 a0 a1 a2 x8_3 (wrap64 (x8_3 + (wrap64 (Int.tdiv (wrap64 (x9_3 - x8_3)) 2)))) (wrap64 (x12_3 + 1))) else (annuityref15_Of.l0 kj15 a0 a1 a2 (wrap64 (x8_3 + (wrap64 (Int.tdiv (wrap64 (x9_3 - x8_3)) 2)))) x9_3 (wrap64 (x12_3 + 1)))) else (annuityref15_Of.l0 kj15 a0 a1 a2 (wrap64 (x8_3 + (wrap64 (Int.tdiv (wrap64 (x9_3 - x8_3)) 2)))) x9_3 (wrap64 (x12_3 + 1)))) = some (r1, r2) := H
        have A19 := am A190
        clear A190
        by_cases c20 : t184 = 0
        ·rw [if_pos c20] at H
         have c20b0 : (t184 == 0) = true := beq_iff_eq.mpr c20
         have c20b1 : (t184 != 0) = false := bne_eq_false_iff_eq.mpr c20
         clear c20
         by_cases c21 : t183 = 0
         ·rw [if_pos c21] at H
          have c21b0 : (t183 == 0) = true := beq_iff_eq.mpr c21
          have c21b1 : (t183 != 0) = false := bne_eq_false_iff_eq.mpr c21
          clear c21
          have H' := am H
          clear H
          go_wp2_with (first | ((with_reducible refine gate_callee (f := 28) rfl ?_); refine goesL_ (some 70) rfl rfl Try.func28 (by kernel_rfl) rfl #[.int .i64 a0, .int .i64 (wrap64 (x8_3 + (wrap64 (Int.tdiv (wrap64 (x9_3 - x8_3)) 2)))), .int .i64 a1, .int .i64 a2] rfl ml ?_; (with_reducible refine (annuityref15_Left.calls kj15 a0 (wrap64 (x8_3 + (wrap64 (Int.tdiv (wrap64 (x9_3 - x8_3)) 2)))) a1 a2 t183 t184 _ A19.out).mono ?_); rintro e w22 ⟨rfl, hb⟩; refine ⟨_, rfl, ?_⟩; have n0_ := am (below_step (by exact h0q HB.out) hb); clear HB; have HB := n0_; clear n0_; (try clear hb); (try clear hb2); (try clear hk); (try clear hi)))
          go_roundg kj15
          case measure => have := HJ3.out; have := HJ11.out; have := HK3.out; have := HJ15.out; omega
          case rel => exact ⟨(x8_3), (wrap64 (x8_3 + (wrap64 (Int.tdiv (wrap64 (x9_3 - x8_3)) 2)))), (wrap64 (x12_3 + 1)), (by first | rfl | (simp; done) | (simp [*]; done)), (by first | rfl | (simp; done) | (simp [*]; done)), (by first | rfl | (simp; done) | (simp [*]; done)), H', ⟨by have := HJ3.out; have := HJ11.out; have := HK3.out; have := HJ15.out; omega⟩, ⟨by exact h0q HB.out⟩⟩
         ·rw [if_neg c21] at H
          have c21b0 : (t183 == 0) = false := beq_eq_false_iff_ne.mpr c21
          have c21b1 : (t183 != 0) = true := bne_iff_ne.mpr c21
          have H' := am H
          clear H
          go_wp2_with (first | ((with_reducible refine gate_callee (f := 28) rfl ?_); refine goesL_ (some 70) rfl rfl Try.func28 (by kernel_rfl) rfl #[.int .i64 a0, .int .i64 (wrap64 (x8_3 + (wrap64 (Int.tdiv (wrap64 (x9_3 - x8_3)) 2)))), .int .i64 a1, .int .i64 a2] rfl ml ?_; (with_reducible refine (annuityref15_Left.calls kj15 a0 (wrap64 (x8_3 + (wrap64 (Int.tdiv (wrap64 (x9_3 - x8_3)) 2)))) a1 a2 t183 t184 _ A19.out).mono ?_); rintro e w23 ⟨rfl, hb⟩; refine ⟨_, rfl, ?_⟩; have n0_ := am (below_step (by exact h0q HB.out) hb); clear HB; have HB := n0_; clear n0_; (try clear hb); (try clear hb2); (try clear hk); (try clear hi)))
          go_roundg kj15
          case measure => have := HJ3.out; have := HJ11.out; have := HK3.out; have := HJ15.out; omega
          case rel => exact ⟨(wrap64 (x8_3 + (wrap64 (Int.tdiv (wrap64 (x9_3 - x8_3)) 2)))), (x9_3), (wrap64 (x12_3 + 1)), (by first | rfl | (simp; done) | (simp [*]; done)), (by first | rfl | (simp; done) | (simp [*]; done)), (by first | rfl | (simp; done) | (simp [*]; done)), H', ⟨by have := HJ3.out; have := HJ11.out; have := HK3.out; have := HJ15.out; omega⟩, ⟨by exact h0q HB.out⟩⟩
        ·rw [if_neg c20] at H
         have c20b0 : (t184 == 0) = false := beq_eq_false_iff_ne.mpr c20
         have c20b1 : (t184 != 0) = true := bne_iff_ne.mpr c20
         have H' := am H
         clear H
         go_wp2_with (first | ((with_reducible refine gate_callee (f := 28) rfl ?_); refine goesL_ (some 70) rfl rfl Try.func28 (by kernel_rfl) rfl #[.int .i64 a0, .int .i64 (wrap64 (x8_3 + (wrap64 (Int.tdiv (wrap64 (x9_3 - x8_3)) 2)))), .int .i64 a1, .int .i64 a2] rfl ml ?_; (with_reducible refine (annuityref15_Left.calls kj15 a0 (wrap64 (x8_3 + (wrap64 (Int.tdiv (wrap64 (x9_3 - x8_3)) 2)))) a1 a2 t183 t184 _ A19.out).mono ?_); rintro e w24 ⟨rfl, hb⟩; refine ⟨_, rfl, ?_⟩; have n0_ := am (below_step (by exact h0q HB.out) hb); clear HB; have HB := n0_; clear n0_; (try clear hb); (try clear hb2); (try clear hk); (try clear hi)))
         go_roundg kj15
         case measure => have := HJ3.out; have := HJ11.out; have := HK3.out; have := HJ15.out; omega
         case rel => exact ⟨(wrap64 (x8_3 + (wrap64 (Int.tdiv (wrap64 (x9_3 - x8_3)) 2)))), (x9_3), (wrap64 (x12_3 + 1)), (by first | rfl | (simp; done) | (simp [*]; done)), (by first | rfl | (simp; done) | (simp [*]; done)), (by first | rfl | (simp; done) | (simp [*]; done)), H', ⟨by have := HJ3.out; have := HJ11.out; have := HK3.out; have := HJ15.out; omega⟩, ⟨by exact h0q HB.out⟩⟩
       ·replace c18 := Bool.eq_false_iff.mpr c18
        subst c18
        have H1 : (some (x9_3, 0)) = some (r1, r2) := by rw [if_neg (show ¬ (false = true) by decide)] at H; exact H
        clear H
        have H := H1
        clear H1
        simp only [Option.some.injEq, Prod.mk.injEq] at H
        obtain ⟨rfl, rfl⟩ := H
        go_wp2
        go_ret2
        exact ⟨er, by exact h0q HB.out⟩
end Go.Proofs.Ytlhcohipnieidaa.P
