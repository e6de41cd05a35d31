/- A part of a proof. -/
import Derived.Test.YteemomncbcpdjaaZaa
import Derived.Test.YteemomncbcpdjaaPx0
namespace Go.Proofs.Yteemomncbcpdjaa.P
open Go.RowKit W.PrintWords W.PrintLast W.PrintMore
attribute [local go_sem] qZs qZq qZ5 qZ6 qZk qZl qZt qZp
set_option linter.unusedVariables false
set_option linter.unusedSimpArgs false
-- NOT PRINTED: function 10 (qQe)
def qYf.f (a0_0 : Int) (a0_1 : Int) (a0_2 : Int) (a0_3 : Int) (a0_4 : Int) (a0_5 : Int) (a0_6 : Bool) (a0_7 : Int) (a0_8 : Int) (a0_9 : Int) (a0_10 : Int) (a0_11 : Int) (a0_12 : Int) (a1_0 : Int) (a1_1 : Int) (a1_2 : Int) (a1_3 : Int) (a1_4 : Int) (a1_5 : Int) (a1_6 : Bool) (a1_7 : Int) (a1_8 : Int) (a1_9 : Int) (a1_10 : Int) (a1_11 : Int) (a1_12 : Int) : Option (Bool) := if a0_0 = a1_0 then (if a0_1 = a1_1 then (if a0_2 = a1_2 then (if a0_3 = a1_3 then (if a0_4 = a1_4 then (if a0_5 = a1_5 then (if (a0_6 == a1_6) = true then (if a0_7 = a1_7 then (if a0_8 = a1_8 then (if a0_9 = a1_9 then (if a0_10 = a1_10 then (if a0_11 = a1_11 then (some (a0_12 == a1_12)) else (some false)) else (some false)) else (some false)) else (some false)) else (some false)) else (some false)) else (some false)) else (some false)) else (some false)) else (some false)) else (some false)) else (some false)
set_option maxHeartbeats 8000000 in
set_option maxRecDepth 100000 in
theorem qYf.calls (a0_0 : Int) (a0_1 : Int) (a0_2 : Int) (a0_3 : Int) (a0_4 : Int) (a0_5 : Int) (a0_6 : Bool) (a0_7 : Int) (a0_8 : Int) (a0_9 : Int) (a0_10 : Int) (a0_11 : Int) (a0_12 : Int) (a1_0 : Int) (a1_1 : Int) (a1_2 : Int) (a1_3 : Int) (a1_4 : Int) (a1_5 : Int) (a1_6 : Bool) (a1_7 : Int) (a1_8 : Int) (a1_9 : Int) (a1_10 : Int) (a1_11 : Int) (a1_12 : Int) (r : Bool) (w : World) (h : qYf.f a0_0 a0_1 a0_2 a0_3 a0_4 a0_5 a0_6 a0_7 a0_8 a0_9 a0_10 a0_11 a0_12 a1_0 a1_1 a1_2 a1_3 a1_4 a1_5 a1_6 a1_7 a1_8 a1_9 a1_10 a1_11 a1_12 = some r) :
  Calls Try.prog 17 #[.agg #[.int .i64 a0_0, .int .i64 a0_1, .int .i64 a0_2, .int .i64 a0_3, .int .i64 a0_4, .int .i64 a0_5, .bool a0_6, .int .i64 a0_7, .int .i64 a0_8, .int .i64 a0_9, .int .i64 a0_10, .int .i64 a0_11, .int .i64 a0_12], .agg #[.int .i64 a1_0, .int .i64 a1_1, .int .i64 a1_2, .int .i64 a1_3, .int .i64 a1_4, .int .i64 a1_5, .bool a1_6, .int .i64 a1_7, .int .i64 a1_8, .int .i64 a1_9, .int .i64 a1_10, .int .i64 a1_11, .int .i64 a1_12]] w fun e w' => e = .returned (.bool r) ∧ Below w.heap.size w w' := by
 have hu43 := Try.underlying43
 have HB := am (Below.refl w.heap.size w)
 have H : (if a0_0 = a1_0 then (if a0_1 = a1_1 then (if a0_2 = a1_2 then (if a0_3 = a1_3 then (if a0_4 = a1_4 then (if a0_5 = a1_5 then (if (a0_6 == a1_6) = true then (if a0_7 = a1_7 then (if a0_8 = a1_8 then (if a0_9 = a1_9 then (if a0_10 = a1_10 then (if a0_11 = a1_11 then (some (a0_12 == a1_12)) else (some false)) else (some false)) else (some false)) else (some false)) else (some false)) else (some false)) else (some false)) else (some false)) else (some false)) else (some false)) else (some false)) else (some false)) = some r := h
 clear h
 by_cases c3 : a0_0 = a1_0
 case' neg =>
  rw [if_neg c3] at H
  have c3b0 : (a0_0 == a1_0) = false := beq_eq_false_iff_ne.mpr c3
  have c3b1 : (a0_0 != a1_0) = true := bne_iff_ne.mpr c3
  obtain rfl := Option.some.inj H
 rotate_left
 rw [if_pos c3] at H
 have c3b0 : (a0_0 == a1_0) = true := beq_iff_eq.mpr c3
 have c3b1 : (a0_0 != a1_0) = false := bne_eq_false_iff_eq.mpr c3
 clear c3
 by_cases c4 : a0_1 = a1_1
 case' neg =>
  rw [if_neg c4] at H
  have c4b0 : (a0_1 == a1_1) = false := beq_eq_false_iff_ne.mpr c4
  have c4b1 : (a0_1 != a1_1) = true := bne_iff_ne.mpr c4
  obtain rfl := Option.some.inj H
 rotate_left
 rw [if_pos c4] at H
 have c4b0 : (a0_1 == a1_1) = true := beq_iff_eq.mpr c4
 have c4b1 : (a0_1 != a1_1) = false := bne_eq_false_iff_eq.mpr c4
 clear c4
 by_cases c5 : a0_2 = a1_2
 case' neg =>
  rw [if_neg c5] at H
  have c5b0 : (a0_2 == a1_2) = false := beq_eq_false_iff_ne.mpr c5
  have c5b1 : (a0_2 != a1_2) = true := bne_iff_ne.mpr c5
  obtain rfl := Option.some.inj H
 rotate_left
 rw [if_pos c5] at H
 have c5b0 : (a0_2 == a1_2) = true := beq_iff_eq.mpr c5
 have c5b1 : (a0_2 != a1_2) = false := bne_eq_false_iff_eq.mpr c5
 clear c5
 by_cases c6 : a0_3 = a1_3
 case' neg =>
  rw [if_neg c6] at H
  have c6b0 : (a0_3 == a1_3) = false := beq_eq_false_iff_ne.mpr c6
  have c6b1 : (a0_3 != a1_3) = true := bne_iff_ne.mpr c6
  obtain rfl := Option.some.inj H
 rotate_left
 rw [if_pos c6] at H
 have c6b0 : (a0_3 == a1_3) = true := beq_iff_eq.mpr c6
 have c6b1 : (a0_3 != a1_3) = false := bne_eq_false_iff_eq.mpr c6
 clear c6
 by_cases c7 : a0_4 = a1_4
 case' neg =>
  rw [if_neg c7] at H
  have c7b0 : (a0_4 == a1_4) = false := beq_eq_false_iff_ne.mpr c7
  have c7b1 : (a0_4 != a1_4) = true := bne_iff_ne.mpr c7
  obtain rfl := Option.some.inj H
 rotate_left
 rw [if_pos c7] at H
 have c7b0 : (a0_4 == a1_4) = true := beq_iff_eq.mpr c7
 have c7b1 : (a0_4 != a1_4) = false := bne_eq_false_iff_eq.mpr c7
 clear c7
 by_cases c8 : a0_5 = a1_5
 case' neg =>
  rw [if_neg c8] at H
  have c8b0 : (a0_5 == a1_5) = false := beq_eq_false_iff_ne.mpr c8
  have c8b1 : (a0_5 != a1_5) = true := bne_iff_ne.mpr c8
  obtain rfl := Option.some.inj H
 rotate_left
 rw [if_pos c8] at H
 have c8b0 : (a0_5 == a1_5) = true := beq_iff_eq.mpr c8
 have c8b1 : (a0_5 != a1_5) = false := bne_eq_false_iff_eq.mpr c8
 clear c8
 by_cases c9 : (a0_6 == a1_6) = true
 case' neg =>
  rw [if_neg c9] at H
  have c9b0 : (a0_6 == a1_6) = false := by simpa using c9
  (try (have c9b1 : decide (a0_6 = a1_6) = false := by simpa using c9))
  (try (have c9b2 : (a0_6 == a1_6) = false := by simpa using c9))
  (try (have c9b3 : ¬ (a0_6 = a1_6) := by simpa using c9))
  clear c9
  obtain rfl := Option.some.inj H
 rotate_left
 rw [if_pos c9] at H
 have c9b0 : (a0_6 == a1_6) = true := c9
 (try (have c9b1 : decide (a0_6 = a1_6) = true := by simpa using c9))
 (try (have c9b2 : (a0_6 == a1_6) = true := by simpa using c9))
 clear c9
 by_cases c10 : a0_7 = a1_7
 case' neg =>
  rw [if_neg c10] at H
  have c10b0 : (a0_7 == a1_7) = false := beq_eq_false_iff_ne.mpr c10
  have c10b1 : (a0_7 != a1_7) = true := bne_iff_ne.mpr c10
  obtain rfl := Option.some.inj H
 rotate_left
 rw [if_pos c10] at H
 have c10b0 : (a0_7 == a1_7) = true := beq_iff_eq.mpr c10
 have c10b1 : (a0_7 != a1_7) = false := bne_eq_false_iff_eq.mpr c10
 clear c10
 by_cases c11 : a0_8 = a1_8
 case' neg =>
  rw [if_neg c11] at H
  have c11b0 : (a0_8 == a1_8) = false := beq_eq_false_iff_ne.mpr c11
  have c11b1 : (a0_8 != a1_8) = true := bne_iff_ne.mpr c11
  obtain rfl := Option.some.inj H
 rotate_left
 rw [if_pos c11] at H
 have c11b0 : (a0_8 == a1_8) = true := beq_iff_eq.mpr c11
 have c11b1 : (a0_8 != a1_8) = false := bne_eq_false_iff_eq.mpr c11
 clear c11
 by_cases c12 : a0_9 = a1_9
 case' neg =>
  rw [if_neg c12] at H
  have c12b0 : (a0_9 == a1_9) = false := beq_eq_false_iff_ne.mpr c12
  have c12b1 : (a0_9 != a1_9) = true := bne_iff_ne.mpr c12
  obtain rfl := Option.some.inj H
 rotate_left
 rw [if_pos c12] at H
 have c12b0 : (a0_9 == a1_9) = true := beq_iff_eq.mpr c12
 have c12b1 : (a0_9 != a1_9) = false := bne_eq_false_iff_eq.mpr c12
 clear c12
 by_cases c13 : a0_10 = a1_10
 case' neg =>
  rw [if_neg c13] at H
  have c13b0 : (a0_10 == a1_10) = false := beq_eq_false_iff_ne.mpr c13
  have c13b1 : (a0_10 != a1_10) = true := bne_iff_ne.mpr c13
  obtain rfl := Option.some.inj H
 rotate_left
 rw [if_pos c13] at H
 have c13b0 : (a0_10 == a1_10) = true := beq_iff_eq.mpr c13
 have c13b1 : (a0_10 != a1_10) = false := bne_eq_false_iff_eq.mpr c13
 clear c13
 by_cases c14 : a0_11 = a1_11
 case' neg =>
  rw [if_neg c14] at H
  have c14b0 : (a0_11 == a1_11) = false := beq_eq_false_iff_ne.mpr c14
  have c14b1 : (a0_11 != a1_11) = true := bne_iff_ne.mpr c14
  obtain rfl := Option.some.inj H
 rotate_left
 rw [if_pos c14] at H
 have c14b0 : (a0_11 == a1_11) = true := beq_iff_eq.mpr c14
 have c14b1 : (a0_11 != a1_11) = false := bne_eq_false_iff_eq.mpr c14
 clear c14
 obtain rfl := Option.some.inj H
 all_goals
  go_enter Try.func17, Try.ntmps17
  go_wp2_with (first | ((with_reducible refine qZj (N := 2) rfl ?_); refine qZu ?hg (N := 2) ?hd (cs := #[.int .i64 a0_0, .int .i64 a0_1, .int .i64 a0_2, .int .i64 a0_3, .int .i64 a0_4, .int .i64 a0_5, .bool a0_6, .int .i64 a0_7, .int .i64 a0_8, .int .i64 a0_9, .int .i64 a0_10, .int .i64 a0_11, .int .i64 a0_12]) (t := 43) ?hr ?_; (case hd => rfl); (case hg => rfl); (case hr => first | (go_simp; done) | (go_simp; rfl)); intro gb236 hg w15 hbox hb; have n0_ := am (qQn (by exact h0q HB.out) hb); have n1_ := am (hbox); have n2_ := am ((by rw [hg]; exact (qQh (by exact h0q HB.out)) : w.heap.size ≤ gb236)); have n3_ := am ((by rw [hg]; exact (qQh (by exact h0q HB.out)) : w.heap.size ≤ gb236)); clear HB; have HB := n0_; have BK236 := n1_; have GW236 := n2_; have GE236 := n3_; clear n0_ n1_ n2_ n3_; clear hb hbox hg) | ((with_reducible refine qZj (N := 3) rfl ?_); refine qZu ?hg (N := 3) ?hd (cs := #[.int .i64 a1_0, .int .i64 a1_1, .int .i64 a1_2, .int .i64 a1_3, .int .i64 a1_4, .int .i64 a1_5, .bool a1_6, .int .i64 a1_7, .int .i64 a1_8, .int .i64 a1_9, .int .i64 a1_10, .int .i64 a1_11, .int .i64 a1_12]) (t := 43) ?hr ?_; (case hd => rfl); (case hg => rfl); (case hr => first | (go_simp; done) | (go_simp; rfl)); intro gb237 hg w16 hbox hb; have n0_ := am (qQu (g := gb236) (Up.up BK236.out) hb); have n1_ := am (qQn (by exact h1q HB.out GE236.out) hb); have n2_ := am (hbox); have n3_ := am ((by rw [hg]; exact (qQh (by exact h1q HB.out GE236.out)) : w.heap.size ≤ gb237)); have n4_ := am ((by rw [hg]; exact (qQh (by exact h1q HB.out GE236.out)) : w.heap.size ≤ gb237)); have n5_ := am ((by rw [hg]; exact Nat.ne_of_lt (qZd (g := gb236) (Up.up BK236.out)) : gb236 ≠ gb237)); have n6_ := am ((by rw [hg]; exact Nat.ne_of_gt (qZd (g := gb236) (Up.up BK236.out)) : gb237 ≠ gb236)); clear BK236; clear HB; have BK236 := n0_; have HB := n1_; have BK237 := n2_; have GW237 := n3_; have GE237 := n4_; have NB236_237 := n5_; have NB237_236 := n6_; clear n0_ n1_ n2_ n3_ n4_ n5_ n6_; clear hb hbox hg; have hnb17 := NB236_237.out; have hnc17 := NB237_236.out; have hz18 := lc13 BK236.out; have hz19 := lc13 BK237.out))
  go_ret
  exact ⟨er, by exact h2q HB.out GE236.out GE237.out⟩
end Go.Proofs.Yteemomncbcpdjaa.P
