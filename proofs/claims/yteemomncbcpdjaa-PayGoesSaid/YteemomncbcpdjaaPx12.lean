/- A part of a proof. -/
import Derived.Test.YteemomncbcpdjaaZaa
import Derived.Test.YteemomncbcpdjaaZsu
import Derived.Test.YteemomncbcpdjaaPx0
import Derived.Test.YteemomncbcpdjaaPx10
import Derived.Test.YteemomncbcpdjaaPx11
namespace Go.Proofs.Yteemomncbcpdjaa.P
open Go.RowKit W.PrintWords W.PrintLast W.PrintMore
attribute [local go_sem] qZs qZq qZ5 qZ6 qZk qZl qZt qZp
set_option linter.unusedVariables false
set_option linter.unusedSimpArgs false
mutual
def qQp.j0 : Nat → Int → Int → Int → Bool → Int → Int → Int → Int → Int → Int → Bool → Int → Int → Int → Int → Int → Int → Option (Int × Int × Int × Int × Int × Int × Bool × Int × Int × Int × Int × Int × Int × Int)
 | 0, _, _, _, _, _, _, _, _, _, _, _, _, _, _, _, _, _ => none
 | k + 1, x1, x2, x3, x24, x232000, x232001, x232002, x232003, x232004, x232005, x232006, x232007, x232008, x232009, x232010, x232011, x232012 => if x24 = true then (some (0, 0, 0, 0, 0, 0, false, 0, 0, 0, 0, 0, 0, 1)) else (if x232008 = 0 then (if x1 > x232004 then (qQp.j1 k x1 x2 x3 true x232000 x232001 x232002 x232003 x232004 x232005 x232006 x232007 x232008 x232009 x232010 x232011 x232012) else ((qZa.f x232002).bind fun t234 => (if x2 > t234 then (qQp.j1 k x1 x2 x3 true x232000 x232001 x232002 x232003 x232004 x232005 x232006 x232007 x232008 x232009 x232010 x232011 x232012) else (qQp.j1 k x1 x2 x3 (decide (x3 > x232001)) x232000 x232001 x232002 x232003 x232004 x232005 x232006 x232007 x232008 x232009 x232010 x232011 x232012)))) else (some (0, 0, 0, 0, 0, 0, false, 0, 0, 0, 0, 0, 0, 61)))
def qQp.j1 : Nat → Int → Int → Int → Bool → Int → Int → Int → Int → Int → Int → Bool → Int → Int → Int → Int → Int → Int → Option (Int × Int × Int × Int × Int × Int × Bool × Int × Int × Int × Int × Int × Int × Int)
 | 0, _, _, _, _, _, _, _, _, _, _, _, _, _, _, _, _, _ => none
 | k + 1, x1, x2, x3, x46, x232000, x232001, x232002, x232003, x232004, x232005, x232006, x232007, x232008, x232009, x232010, x232011, x232012 => if x46 = true then (some (0, 0, 0, 0, 0, 0, false, 0, 0, 0, 0, 0, 0, 14)) else (if (wrap64 (x232004 - x1)) = 0 then (if (wrap64 (x232001 - x3)) = 0 then ((qZa.f (wrap64 (x232002 - (wrap64 (x2 * 1000000))))).bind fun t235 => (qQp.j2 k (t235 == 0) x232000 (wrap64 (x232001 - x3)) (wrap64 (x232002 - (wrap64 (x2 * 1000000)))) x232003 (wrap64 (x232004 - x1)) x232005 x232006 x232007 x232008 x232009 x232010 x232011 x232012)) else (qQp.j2 k false x232000 (wrap64 (x232001 - x3)) (wrap64 (x232002 - (wrap64 (x2 * 1000000)))) x232003 (wrap64 (x232004 - x1)) x232005 x232006 x232007 x232008 x232009 x232010 x232011 x232012)) else (qQp.j2 k false x232000 (wrap64 (x232001 - x3)) (wrap64 (x232002 - (wrap64 (x2 * 1000000)))) x232003 (wrap64 (x232004 - x1)) x232005 x232006 x232007 x232008 x232009 x232010 x232011 x232012))
def qQp.j2 : Nat → Bool → Int → Int → Int → Int → Int → Int → Bool → Int → Int → Int → Int → Int → Int → Option (Int × Int × Int × Int × Int × Int × Bool × Int × Int × Int × Int × Int × Int × Int)
 | 0, _, _, _, _, _, _, _, _, _, _, _, _, _, _ => none
 | k + 1, x77, x232000, x232001, x232002, x232003, x232004, x232005, x232006, x232007, x232008, x232009, x232010, x232011, x232012 => if x77 = true then (some (x232000, x232001, 0, x232003, x232004, x232005, x232006, x232007, 1, x232009, x232010, x232011, x232012, 0)) else (some (x232000, x232001, x232002, x232003, x232004, x232005, x232006, x232007, x232008, x232009, x232010, x232011, x232012, 0))
end
def qQp.f (k : Nat) (a0_0 : Int) (a0_1 : Int) (a0_2 : Int) (a0_3 : Int) (a0_4 : Int) (a0_5 : Int) (a0_6 : Bool) (a0_7 : Int) (a0_8 : Int) (a0_9 : Int) (a0_10 : Int) (a0_11 : Int) (a0_12 : Int) (a1 : Int) (a2 : Int) (a3 : Int) : Option (Int × Int × Int × Int × Int × Int × Bool × Int × Int × Int × Int × Int × Int × Int) := (qQd.f k a0_0 a0_1 a0_2 a0_3 a0_4 a0_5 a0_6 a0_7 a0_8 a0_9 a0_10 a0_11 a0_12).bind fun t233 => (if t233 = true then (if a1 < 0 then (qQp.j0 k a1 a2 a3 true a0_0 a0_1 a0_2 a0_3 a0_4 a0_5 a0_6 a0_7 a0_8 a0_9 a0_10 a0_11 a0_12) else (if a2 < 0 then (qQp.j0 k a1 a2 a3 true a0_0 a0_1 a0_2 a0_3 a0_4 a0_5 a0_6 a0_7 a0_8 a0_9 a0_10 a0_11 a0_12) else (qQp.j0 k a1 a2 a3 (decide (a3 < 0)) a0_0 a0_1 a0_2 a0_3 a0_4 a0_5 a0_6 a0_7 a0_8 a0_9 a0_10 a0_11 a0_12))) else (qQp.j0 k a1 a2 a3 true a0_0 a0_1 a0_2 a0_3 a0_4 a0_5 a0_6 a0_7 a0_8 a0_9 a0_10 a0_11 a0_12))
set_option maxHeartbeats 8000000 in
set_option maxRecDepth 100000 in
theorem qQp.calls (k : Nat) (a0_0 : Int) (a0_1 : Int) (a0_2 : Int) (a0_3 : Int) (a0_4 : Int) (a0_5 : Int) (a0_6 : Bool) (a0_7 : Int) (a0_8 : Int) (a0_9 : Int) (a0_10 : Int) (a0_11 : Int) (a0_12 : Int) (a1 : Int) (a2 : Int) (a3 : Int) (r1 : Int) (r2 : Int) (r3 : Int) (r4 : Int) (r5 : Int) (r6 : Int) (r7 : Bool) (r8 : Int) (r9 : Int) (r10 : Int) (r11 : Int) (r12 : Int) (r13 : Int) (r14 : Int) (w : World) (h : qQp.f k a0_0 a0_1 a0_2 a0_3 a0_4 a0_5 a0_6 a0_7 a0_8 a0_9 a0_10 a0_11 a0_12 a1 a2 a3 = some (r1, r2, r3, r4, r5, r6, r7, r8, r9, r10, r11, r12, r13, r14)) :
  Calls Try.prog 33 #[.agg #[.int .i64 a0_0, .int .i64 a0_1, .int .i64 a0_2, .int .i64 a0_3, .int .i64 a0_4, .int .i64 a0_5, .bool a0_6, .int .i64 a0_7, .int .i64 a0_8, .int .i64 a0_9, .int .i64 a0_10, .int .i64 a0_11, .int .i64 a0_12], .int .i64 a1, .int .i64 a2, .int .i64 a3] w fun e w' => e = .returned (.tuple #[.agg #[.int .i64 r1, .int .i64 r2, .int .i64 r3, .int .i64 r4, .int .i64 r5, .int .i64 r6, .bool r7, .int .i64 r8, .int .i64 r9, .int .i64 r10, .int .i64 r11, .int .i64 r12, .int .i64 r13], .int .i64 r14]) ∧ Below w.heap.size w w' := by
 have hu43 := Try.underlying43
 have HB := am (Below.refl w.heap.size w)
 have H : ((qQd.f k a0_0 a0_1 a0_2 a0_3 a0_4 a0_5 a0_6 a0_7 a0_8 a0_9 a0_10 a0_11 a0_12).bind fun t233 => (if t233 = true then (if a1 < 0 then (qQp.j0 k a1 a2 a3 true a0_0 a0_1 a0_2 a0_3 a0_4 a0_5 a0_6 a0_7 a0_8 a0_9 a0_10 a0_11 a0_12) else (if a2 < 0 then (qQp.j0 k a1 a2 a3 true a0_0 a0_1 a0_2 a0_3 a0_4 a0_5 a0_6 a0_7 a0_8 a0_9 a0_10 a0_11 a0_12) else (qQp.j0 k a1 a2 a3 (decide (a3 < 0)) a0_0 a0_1 a0_2 a0_3 a0_4 a0_5 a0_6 a0_7 a0_8 a0_9 a0_10 a0_11 a0_12))) else (qQp.j0 k a1 a2 a3 true a0_0 a0_1 a0_2 a0_3 a0_4 a0_5 a0_6 a0_7 a0_8 a0_9 a0_10 a0_11 a0_12))) = some (r1, r2, r3, r4, r5, r6, r7, r8, r9, r10, r11, r12, r13, r14) := h
 clear h
 have HC5 := am H
 clear H
 go_enter Try.func33, Try.ntmps33
 go_upto_region 1 with (first | ((with_reducible refine qZj (N := 4) rfl ?_); refine qZu ?hg (N := 4) ?hd (cs := #[.int .i64 a0_0, .int .i64 a0_1, .int .i64 a0_2, .int .i64 a0_3, .int .i64 a0_4, .int .i64 a0_5, .bool a0_6, .int .i64 a0_7, .int .i64 a0_8, .int .i64 a0_9, .int .i64 a0_10, .int .i64 a0_11, .int .i64 a0_12]) (t := 43) ?hr ?_; (case hd => rfl); (case hg => rfl); (case hr => first | (go_simp; done) | (go_simp; rfl)); intro gb231 hg w6 hbox hb; have n0_ := am (qQn (by exact h0q HB.out) hb); have n1_ := am (hbox); have n2_ := am ((by rw [hg]; exact (qQh (by exact h0q HB.out)) : w.heap.size ≤ gb231)); have n3_ := am ((by rw [hg]; exact (qQh (by exact h0q HB.out)) : w.heap.size ≤ gb231)); clear HB; have HB := n0_; have BK231 := n1_; have GW231 := n2_; have GE231 := n3_; clear n0_ n1_ n2_ n3_; clear hb hbox hg) | ((with_reducible refine qZj (N := 8) rfl ?_); refine qZu ?hg (N := 8) ?hd (cs := #[.int .i64 0, .int .i64 0, .int .i64 0, .int .i64 0, .int .i64 0, .int .i64 0, .bool false, .int .i64 0, .int .i64 0, .int .i64 0, .int .i64 0, .int .i64 0, .int .i64 0]) (t := 43) ?hr ?_; (case hd => rfl); (case hg => rfl); (case hr => first | (go_simp; done) | (go_simp; rfl)); intro gb232 hg w7 hbox hb; have n0_ := am (qQu (g := gb231) (Up.up BK231.out) hb); have n1_ := am (qQn (by exact h1q HB.out GE231.out) hb); have n2_ := am (hbox); have n3_ := am ((by rw [hg]; exact (qQh (by exact h1q HB.out GE231.out)) : w.heap.size ≤ gb232)); have n4_ := am ((by rw [hg]; exact (qQh (by exact h1q HB.out GE231.out)) : w.heap.size ≤ gb232)); have n5_ := am ((by rw [hg]; exact Nat.ne_of_lt (qZd (g := gb231) (Up.up BK231.out)) : gb231 ≠ gb232)); have n6_ := am ((by rw [hg]; exact Nat.ne_of_gt (qZd (g := gb231) (Up.up BK231.out)) : gb232 ≠ gb231)); clear BK231; clear HB; have BK231 := n0_; have HB := n1_; have BK232 := n2_; have GW232 := n3_; have GE232 := n4_; have NB231_232 := n5_; have NB232_231 := n6_; clear n0_ n1_ n2_ n3_ n4_ n5_ n6_; clear hb hbox hg))
 (try simp only [Act.put, List.setIfInBounds_toArray, List.set_cons_zero, List.set_cons_succ])
 go_cut [24] (fun v24 wc => ∃ (kq : Nat) (x24_4 : Bool), v24 = .bool x24_4 ∧ Aside0 (qQp.j0 kq a1 a2 a3 x24_4 a0_0 a0_1 a0_2 a0_3 a0_4 a0_5 a0_6 a0_7 a0_8 a0_9 a0_10 a0_11 a0_12 = some (r1, r2, r3, r4, r5, r6, r7, r8, r9, r10, r11, r12, r13, r14)) ∧ Aside0 (kq ≤ k) ∧ Aside0 (wc.heap[gb231]? = some (.cells #[.int .i64 a0_0, .int .i64 a0_1, .int .i64 a0_2, .int .i64 a0_3, .int .i64 a0_4, .int .i64 a0_5, .bool a0_6, .int .i64 a0_7, .int .i64 a0_8, .int .i64 a0_9, .int .i64 a0_10, .int .i64 a0_11, .int .i64 a0_12] 43 (0, 0))) ∧ Aside0 (wc.heap[gb232]? = some (.cells #[.int .i64 0, .int .i64 0, .int .i64 0, .int .i64 0, .int .i64 0, .int .i64 0, .bool false, .int .i64 0, .int .i64 0, .int .i64 0, .int .i64 0, .int .i64 0, .int .i64 0] 43 (0, 0))) ∧ Aside0 (Below w.heap.size w wc))
 case first =>
  have H := HC5.out
  clear HC5
  replace H := Option.bind_eq_some_iff.mp H
  obtain ⟨t233, A80, H⟩ := H
  replace H : (if t233 = true then (if a1 < 0 then (qQp.j0 k a1 a2 a3 true a0_0 a0_1 a0_2 a0_3 a0_4 a0_5 a0_6 a0_7 a0_8 a0_9 a0_10 a0_11 a0_12) else (if a2 < 0 then (qQp.j0 k a1 a2 a3 true a0_0 a0_1 a0_2 a0_3 a0_4 a0_5 a0_6 a0_7 a0_8 a0_9 a0_10 a0_11 a0_12) else (qQp.j0 k a1 a2 a3 (decide (a3 < 0)) a0_0 a0_1 a0_2 a0_3 a0_4 a0_5 a0_6 a0_7 a0_8 a0_9 a0_10 a0_11 a0_12))) else (qQp.j0 k a1 a2 a3 true a0_0 a0_1 a0_2 a0_3 a0_4 a0_5 a0_6 a0_7 a0_8 a0_9 a0_10 a0_11 a0_12)) = some (r1, r2, r3, r4, r5, r6, r7, r8, r9, r10, r11, r12, r13, r14) := H
  have A8 := am A80
  clear A80
  by_cases c9 : t233 = true
  case neg =>
   replace c9 := Bool.eq_false_iff.mpr c9
   subst c9
   have H1 : (qQp.j0 k a1 a2 a3 true a0_0 a0_1 a0_2 a0_3 a0_4 a0_5 a0_6 a0_7 a0_8 a0_9 a0_10 a0_11 a0_12) = some (r1, r2, r3, r4, r5, r6, r7, r8, r9, r10, r11, r12, r13, r14) := by rw [if_neg (show ¬ (false = true) by decide)] at H; exact H
   clear H
   have H := H1
   clear H1
   have H' := am H
   clear H
   have hnb21 := NB231_232.out
   have hnc21 := NB232_231.out
   have hz22 := lc13 BK231.out
   go_wp2_with (first | ((with_reducible refine qQ4 (f := 30) rfl ?_); refine goesL_ (some 11) rfl rfl Try.func30 (by kernel_rfl) rfl #[.agg #[.int .i64 a0_0, .int .i64 a0_1, .int .i64 a0_2, .int .i64 a0_3, .int .i64 a0_4, .int .i64 a0_5, .bool a0_6, .int .i64 a0_7, .int .i64 a0_8, .int .i64 a0_9, .int .i64 a0_10, .int .i64 a0_11, .int .i64 a0_12]] rfl ml ?_; (with_reducible refine (qQd.calls k a0_0 a0_1 a0_2 a0_3 a0_4 a0_5 a0_6 a0_7 a0_8 a0_9 a0_10 a0_11 a0_12 false _ A8.out).mono ?_); rintro e w23 ⟨rfl, hb⟩; refine ⟨_, rfl, ?_⟩; have n0_ := am (qQu (g := gb231) (Up.up BK231.out) hb); have n1_ := am (qQu (g := gb232) (Up.up BK232.out) hb); have n2_ := am (qQn (by exact h2q HB.out GE231.out GE232.out) hb); clear BK231; clear BK232; clear HB; have BK231 := n0_; have BK232 := n1_; have HB := n2_; clear n0_ n1_ n2_; (try clear hb); (try clear hb2); (try clear hk); (try clear hi)))
   go_meet
   case rel => exact ⟨_, (true), (by first | rfl | (simp; done) | (simp [*]; done)), H', ⟨by first | omega | exact Nat.le_refl _⟩, ⟨by exact bb BK231.out⟩, ⟨by exact bb BK232.out⟩, ⟨by exact h2q HB.out GE231.out GE232.out⟩⟩
  subst c9
  have H1 : (if a1 < 0 then (qQp.j0 k a1 a2 a3 true a0_0 a0_1 a0_2 a0_3 a0_4 a0_5 a0_6 a0_7 a0_8 a0_9 a0_10 a0_11 a0_12) else (if a2 < 0 then (qQp.j0 k a1 a2 a3 true a0_0 a0_1 a0_2 a0_3 a0_4 a0_5 a0_6 a0_7 a0_8 a0_9 a0_10 a0_11 a0_12) else (qQp.j0 k a1 a2 a3 (decide (a3 < 0)) a0_0 a0_1 a0_2 a0_3 a0_4 a0_5 a0_6 a0_7 a0_8 a0_9 a0_10 a0_11 a0_12))) = some (r1, r2, r3, r4, r5, r6, r7, r8, r9, r10, r11, r12, r13, r14) := by rw [if_pos rfl] at H; exact H
  clear H
  have H := H1
  clear H1
  by_cases c10 : a1 < 0
  ·rw [if_pos c10] at H
   have c10b0 : decide (a1 < 0) = true := decide_eq_true c10
   clear c10
   (first | rw [c10b0] | (simp only [i64_w, i32_w]; rw [c10b0]) | skip)
   have H' := am H
   clear H
   have hnb11 := NB231_232.out
   have hnc11 := NB232_231.out
   have hz12 := lc13 BK231.out
   go_wp2_with (first | ((with_reducible refine qQ4 (f := 30) rfl ?_); refine goesL_ (some 11) rfl rfl Try.func30 (by kernel_rfl) rfl #[.agg #[.int .i64 a0_0, .int .i64 a0_1, .int .i64 a0_2, .int .i64 a0_3, .int .i64 a0_4, .int .i64 a0_5, .bool a0_6, .int .i64 a0_7, .int .i64 a0_8, .int .i64 a0_9, .int .i64 a0_10, .int .i64 a0_11, .int .i64 a0_12]] rfl ml ?_; (with_reducible refine (qQd.calls k a0_0 a0_1 a0_2 a0_3 a0_4 a0_5 a0_6 a0_7 a0_8 a0_9 a0_10 a0_11 a0_12 true _ A8.out).mono ?_); rintro e w13 ⟨rfl, hb⟩; refine ⟨_, rfl, ?_⟩; have n0_ := am (qQu (g := gb231) (Up.up BK231.out) hb); have n1_ := am (qQu (g := gb232) (Up.up BK232.out) hb); have n2_ := am (qQn (by exact h2q HB.out GE231.out GE232.out) hb); clear BK231; clear BK232; clear HB; have BK231 := n0_; have BK232 := n1_; have HB := n2_; clear n0_ n1_ n2_; (try clear hb); (try clear hb2); (try clear hk); (try clear hi)))
   go_meet
   case rel => exact ⟨_, (true), (by first | rfl | (simp; done) | (simp [*]; done)), H', ⟨by first | omega | exact Nat.le_refl _⟩, ⟨by exact bb BK231.out⟩, ⟨by exact bb BK232.out⟩, ⟨by exact h2q HB.out GE231.out GE232.out⟩⟩
  rw [if_neg c10] at H
  have c10b0 : decide (a1 < 0) = false := decide_eq_false c10
  clear c10
  (first | rw [c10b0] | (simp only [i64_w, i32_w]; rw [c10b0]) | skip)
  by_cases c14 : a2 < 0
  ·rw [if_pos c14] at H
   have c14b0 : decide (a2 < 0) = true := decide_eq_true c14
   clear c14
   have H' := am H
   clear H
   have hnb15 := NB231_232.out
   have hnc15 := NB232_231.out
   have hz16 := lc13 BK231.out
   go_wp2_with (first | ((with_reducible refine qQ4 (f := 30) rfl ?_); refine goesL_ (some 11) rfl rfl Try.func30 (by kernel_rfl) rfl #[.agg #[.int .i64 a0_0, .int .i64 a0_1, .int .i64 a0_2, .int .i64 a0_3, .int .i64 a0_4, .int .i64 a0_5, .bool a0_6, .int .i64 a0_7, .int .i64 a0_8, .int .i64 a0_9, .int .i64 a0_10, .int .i64 a0_11, .int .i64 a0_12]] rfl ml ?_; (with_reducible refine (qQd.calls k a0_0 a0_1 a0_2 a0_3 a0_4 a0_5 a0_6 a0_7 a0_8 a0_9 a0_10 a0_11 a0_12 true _ A8.out).mono ?_); rintro e w17 ⟨rfl, hb⟩; refine ⟨_, rfl, ?_⟩; have n0_ := am (qQu (g := gb231) (Up.up BK231.out) hb); have n1_ := am (qQu (g := gb232) (Up.up BK232.out) hb); have n2_ := am (qQn (by exact h2q HB.out GE231.out GE232.out) hb); clear BK231; clear BK232; clear HB; have BK231 := n0_; have BK232 := n1_; have HB := n2_; clear n0_ n1_ n2_; (try clear hb); (try clear hb2); (try clear hk); (try clear hi)))
   go_meet
   case rel => exact ⟨_, (true), (by first | rfl | (simp; done) | (simp [*]; done)), H', ⟨by first | omega | exact Nat.le_refl _⟩, ⟨by exact bb BK231.out⟩, ⟨by exact bb BK232.out⟩, ⟨by exact h2q HB.out GE231.out GE232.out⟩⟩
  rw [if_neg c14] at H
  have c14b0 : decide (a2 < 0) = false := decide_eq_false c14
  clear c14
  have H' := am H
  clear H
  have hnb18 := NB231_232.out
  have hnc18 := NB232_231.out
  have hz19 := lc13 BK231.out
  go_wp2_with (first | ((with_reducible refine qQ4 (f := 30) rfl ?_); refine goesL_ (some 11) rfl rfl Try.func30 (by kernel_rfl) rfl #[.agg #[.int .i64 a0_0, .int .i64 a0_1, .int .i64 a0_2, .int .i64 a0_3, .int .i64 a0_4, .int .i64 a0_5, .bool a0_6, .int .i64 a0_7, .int .i64 a0_8, .int .i64 a0_9, .int .i64 a0_10, .int .i64 a0_11, .int .i64 a0_12]] rfl ml ?_; (with_reducible refine (qQd.calls k a0_0 a0_1 a0_2 a0_3 a0_4 a0_5 a0_6 a0_7 a0_8 a0_9 a0_10 a0_11 a0_12 true _ A8.out).mono ?_); rintro e w20 ⟨rfl, hb⟩; refine ⟨_, rfl, ?_⟩; have n0_ := am (qQu (g := gb231) (Up.up BK231.out) hb); have n1_ := am (qQu (g := gb232) (Up.up BK232.out) hb); have n2_ := am (qQn (by exact h2q HB.out GE231.out GE232.out) hb); clear BK231; clear BK232; clear HB; have BK231 := n0_; have BK232 := n1_; have HB := n2_; clear n0_ n1_ n2_; (try clear hb); (try clear hb2); (try clear hk); (try clear hi)))
  go_meet
  case rel => exact ⟨_, (decide (a3 < 0)), (by first | rfl | (simp; done) | (simp [*]; done)), H', ⟨by first | omega | exact Nat.le_refl _⟩, ⟨by exact bb BK231.out⟩, ⟨by exact bb BK232.out⟩, ⟨by exact h2q HB.out GE231.out GE232.out⟩⟩
 case rest =>
  clear HC5
  try clear c9
  try clear c10
  try clear c10b0
  try clear c14
  try clear c14b0
  try clear hz12
  try clear hz16
  try clear hz19
  try clear hz22
  obtain ⟨kq, x24_4, rfl, HA, HJ4, BK231, BK232, HB⟩ := hcut
  rcases kq with _ | kj4
  ·exact absurd HA.out (by simp [qQp.j0])
  have H := HA.out
  clear HA
  simp only [qQp.j0] at H
  by_cases c24 : x24_4 = true
  ·subst c24
   have H1 : (some (0, 0, 0, 0, 0, 0, false, 0, 0, 0, 0, 0, 0, 1)) = some (r1, r2, r3, r4, r5, r6, r7, r8, r9, r10, r11, r12, r13, r14) := by rw [if_pos rfl] at H; exact H
   clear H
   have H := H1
   clear H1
   simp only [Option.some.injEq, Prod.mk.injEq] at H
   obtain ⟨rfl, rfl, rfl, rfl, rfl, rfl, rfl, rfl, rfl, rfl, rfl, rfl, rfl, rfl⟩ := H
   have hnb25 := NB232_231.out
   have hnc25 := NB231_232.out
   have hz26 := lc13 BK232.out
   go_wp2
   refine bodyPost_ret (qYq rfl _ _ gb232 43 #[.int .i64 0, .int .i64 0, .int .i64 0, .int .i64 0, .int .i64 0, .int .i64 0, .bool false, .int .i64 0, .int .i64 0, .int .i64 0, .int .i64 0, .int .i64 0, .int .i64 0] (0, 0) _ rfl (by (with_reducible repeat (first | refine qQm ?_ _ | refine qQk ?_ | refine qQo ?_ _)); apply qY6; (with_reducible repeat (first | refine qQm ?_ _ | refine qQk ?_ | refine qQo ?_ _)); exact BK232.out) Try.underlying43 rfl (by kernel_rfl)) rfl ?_
   exact ⟨er, by exact h2q HB.out GE231.out GE232.out⟩
  replace c24 := Bool.eq_false_iff.mpr c24
  subst c24
  have H1 : (if a0_8 = 0 then (if a1 > a0_4 then (qQp.j1 kj4 a1 a2 a3 true a0_0 a0_1 a0_2 a0_3 a0_4 a0_5 a0_6 a0_7 a0_8 a0_9 a0_10 a0_11 a0_12) else ((qZa.f a0_2).bind fun t234 => (if a2 > t234 then (qQp.j1 kj4 a1 a2 a3 true a0_0 a0_1 a0_2 a0_3 a0_4 a0_5 a0_6 a0_7 a0_8 a0_9 a0_10 a0_11 a0_12) else (qQp.j1 kj4 a1 a2 a3 (decide (a3 > a0_1)) a0_0 a0_1 a0_2 a0_3 a0_4 a0_5 a0_6 a0_7 a0_8 a0_9 a0_10 a0_11 a0_12)))) else (some (0, 0, 0, 0, 0, 0, false, 0, 0, 0, 0, 0, 0, 61))) = some (r1, r2, r3, r4, r5, r6, r7, r8, r9, r10, r11, r12, r13, r14) := by rw [if_neg (show ¬ (false = true) by decide)] at H; exact H
  clear H
  have H := H1
  clear H1
  by_cases c27 : a0_8 = 0
  case neg =>
   rw [if_neg c27] at H
   have c27b0 : (a0_8 == 0) = false := beq_eq_false_iff_ne.mpr c27
   have c27b1 : (a0_8 != 0) = true := bne_iff_ne.mpr c27
   simp only [Option.some.injEq, Prod.mk.injEq] at H
   obtain ⟨rfl, rfl, rfl, rfl, rfl, rfl, rfl, rfl, rfl, rfl, rfl, rfl, rfl, rfl⟩ := H
   have hnb62 := NB231_232.out
   have hnc62 := NB232_231.out
   have hz63 := lc13 BK231.out
   have hz64 := lc13 BK232.out
   go_wp2
   refine bodyPost_ret (qYq rfl _ _ gb232 43 #[.int .i64 0, .int .i64 0, .int .i64 0, .int .i64 0, .int .i64 0, .int .i64 0, .bool false, .int .i64 0, .int .i64 0, .int .i64 0, .int .i64 0, .int .i64 0, .int .i64 0] (0, 0) _ rfl (by (with_reducible repeat (first | refine qQm ?_ _ | refine qQk ?_ | refine qQo ?_ _)); apply qY6; (with_reducible repeat (first | refine qQm ?_ _ | refine qQk ?_ | refine qQo ?_ _)); exact BK232.out) Try.underlying43 rfl (by kernel_rfl)) rfl ?_
   exact ⟨er, by exact h2q HB.out GE231.out GE232.out⟩
  rw [if_pos c27] at H
  have c27b0 : (a0_8 == 0) = true := beq_iff_eq.mpr c27
  have c27b1 : (a0_8 != 0) = false := bne_eq_false_iff_eq.mpr c27
  clear c27
  have HC28 := am H
  clear H
  have hnb29 := NB231_232.out
  have hnc29 := NB232_231.out
  have hz30 := lc13 BK231.out
  go_upto_region 5 with (fail)
  go_cut [46] (fun v46 wc => ∃ (kq : Nat) (x46_27 : Bool), v46 = .bool x46_27 ∧ Aside0 (qQp.j1 kq a1 a2 a3 x46_27 a0_0 a0_1 a0_2 a0_3 a0_4 a0_5 a0_6 a0_7 a0_8 a0_9 a0_10 a0_11 a0_12 = some (r1, r2, r3, r4, r5, r6, r7, r8, r9, r10, r11, r12, r13, r14)) ∧ Aside0 (kq ≤ kj4) ∧ Aside0 (wc.heap[gb231]? = some (.cells #[.int .i64 a0_0, .int .i64 a0_1, .int .i64 a0_2, .int .i64 a0_3, .int .i64 a0_4, .int .i64 a0_5, .bool a0_6, .int .i64 a0_7, .int .i64 a0_8, .int .i64 a0_9, .int .i64 a0_10, .int .i64 a0_11, .int .i64 a0_12] 43 (0, 0))) ∧ Aside0 (wc.heap[gb232]? = some (.cells #[.int .i64 0, .int .i64 0, .int .i64 0, .int .i64 0, .int .i64 0, .int .i64 0, .bool false, .int .i64 0, .int .i64 0, .int .i64 0, .int .i64 0, .int .i64 0, .int .i64 0] 43 (0, 0))) ∧ Aside0 (Below w.heap.size w wc))
  case first =>
   have H := HC28.out
   clear HC28
   by_cases c31 : a1 > a0_4
   ·rw [if_pos c31] at H
    have c31b0 : decide (a0_4 < a1) = true := decide_eq_true c31
    clear c31
    (first | rw [c31b0] | (simp only [i64_w, i32_w]; rw [c31b0]) | skip)
    have H' := am H
    clear H
    have hnb32 := NB231_232.out
    have hnc32 := NB232_231.out
    have hz33 := lc13 BK231.out
    go_wp2
    go_meet
    case rel => exact ⟨_, (true), (by first | rfl | (simp; done) | (simp [*]; done)), H', ⟨by have := HJ4.out; first | omega | exact Nat.le_refl _⟩, ⟨by exact bb BK231.out⟩, ⟨by exact bb BK232.out⟩, ⟨by exact h2q HB.out GE231.out GE232.out⟩⟩
   rw [if_neg c31] at H
   have c31b0 : decide (a0_4 < a1) = false := decide_eq_false c31
   clear c31
   (first | rw [c31b0] | (simp only [i64_w, i32_w]; rw [c31b0]) | skip)
   replace H := Option.bind_eq_some_iff.mp H
   obtain ⟨t234, A340, H⟩ := H
   replace H : (if a2 > t234 then (qQp.j1 kj4 a1 a2 a3 true a0_0 a0_1 a0_2 a0_3 a0_4 a0_5 a0_6 a0_7 a0_8 a0_9 a0_10 a0_11 a0_12) else (qQp.j1 kj4 a1 a2 a3 (decide (a3 > a0_1)) a0_0 a0_1 a0_2 a0_3 a0_4 a0_5 a0_6 a0_7 a0_8 a0_9 a0_10 a0_11 a0_12)) = some (r1, r2, r3, r4, r5, r6, r7, r8, r9, r10, r11, r12, r13, r14) := H
   have A34 := am A340
   clear A340
   by_cases c35 : a2 > t234
   ·rw [if_pos c35] at H
    have c35b0 : decide (t234 < a2) = true := decide_eq_true c35
    clear c35
    have H' := am H
    clear H
    have hnb36 := NB231_232.out
    have hnc36 := NB232_231.out
    have hz37 := lc13 BK231.out
    go_wp2_with (first | (go_at_call 32; (with_reducible refine (qZa.calls a0_2 t234 _ A34.out).mono ?_); rintro e w' ⟨rfl, ⟨nd, rfl⟩⟩))
    go_meet
    case rel => exact ⟨_, (true), (by first | rfl | (simp; done) | (simp [*]; done)), H', ⟨by have := HJ4.out; first | omega | exact Nat.le_refl _⟩, ⟨by exact bb BK231.out⟩, ⟨by exact bb BK232.out⟩, ⟨by exact h2q HB.out GE231.out GE232.out⟩⟩
   rw [if_neg c35] at H
   have c35b0 : decide (t234 < a2) = false := decide_eq_false c35
   clear c35
   have H' := am H
   clear H
   have hnb38 := NB231_232.out
   have hnc38 := NB232_231.out
   have hz39 := lc13 BK231.out
   go_wp2_with (first | (go_at_call 32; (with_reducible refine (qZa.calls a0_2 t234 _ A34.out).mono ?_); rintro e w' ⟨rfl, ⟨nd, rfl⟩⟩))
   go_meet
   case rel => exact ⟨_, (decide (a3 > a0_1)), (by first | rfl | (simp; done) | (simp [*]; done)), H', ⟨by have := HJ4.out; first | omega | exact Nat.le_refl _⟩, ⟨by exact bb BK231.out⟩, ⟨by exact bb BK232.out⟩, ⟨by exact h2q HB.out GE231.out GE232.out⟩⟩
  case rest =>
   clear HC28
   try clear c9
   try clear c10
   try clear c10b0
   try clear c14
   try clear c14b0
   try clear c24
   try clear c27
   try clear c27b0 c27b1
   try clear c31
   try clear c31b0
   try clear c35
   try clear c35b0
   try clear hz12
   try clear hz16
   try clear hz19
   try clear hz22
   try clear hz26
   try clear hz30
   try clear hz33
   try clear hz37
   try clear hz39
   obtain ⟨kq, x46_27, rfl, HA, HJ27, BK231, BK232, HB⟩ := hcut
   rcases kq with _ | kj27
   ·exact absurd HA.out (by simp [qQp.j1])
   have H := HA.out
   clear HA
   simp only [qQp.j1] at H
   by_cases c40 : x46_27 = true
   ·subst c40
    have H1 : (some (0, 0, 0, 0, 0, 0, false, 0, 0, 0, 0, 0, 0, 14)) = some (r1, r2, r3, r4, r5, r6, r7, r8, r9, r10, r11, r12, r13, r14) := by rw [if_pos rfl] at H; exact H
    clear H
    have H := H1
    clear H1
    simp only [Option.some.injEq, Prod.mk.injEq] at H
    obtain ⟨rfl, rfl, rfl, rfl, rfl, rfl, rfl, rfl, rfl, rfl, rfl, rfl, rfl, rfl⟩ := H
    have hnb41 := NB232_231.out
    have hnc41 := NB231_232.out
    have hz42 := lc13 BK232.out
    go_wp2
    refine bodyPost_ret (qYq rfl _ _ gb232 43 #[.int .i64 0, .int .i64 0, .int .i64 0, .int .i64 0, .int .i64 0, .int .i64 0, .bool false, .int .i64 0, .int .i64 0, .int .i64 0, .int .i64 0, .int .i64 0, .int .i64 0] (0, 0) _ rfl (by (with_reducible repeat (first | refine qQm ?_ _ | refine qQk ?_ | refine qQo ?_ _)); apply qY6; (with_reducible repeat (first | refine qQm ?_ _ | refine qQk ?_ | refine qQo ?_ _)); exact BK232.out) Try.underlying43 rfl (by kernel_rfl)) rfl ?_
    exact ⟨er, by exact h2q HB.out GE231.out GE232.out⟩
   replace c40 := Bool.eq_false_iff.mpr c40
   subst c40
   have H1 : (if (wrap64 (a0_4 - a1)) = 0 then (if (wrap64 (a0_1 - a3)) = 0 then ((qZa.f (wrap64 (a0_2 - (wrap64 (a2 * 1000000))))).bind fun t235 => (qQp.j2 kj27 (t235 == 0) a0_0 (wrap64 (a0_1 - a3)) (wrap64 (a0_2 - (wrap64 (a2 * 1000000)))) a0_3 (wrap64 (a0_4 - a1)) a0_5 a0_6 a0_7 a0_8 a0_9 a0_10 a0_11 a0_12)) else (qQp.j2 kj27 false a0_0 (wrap64 (a0_1 - a3)) (wrap64 (a0_2 - (wrap64 (a2 * 1000000)))) a0_3 (wrap64 (a0_4 - a1)) a0_5 a0_6 a0_7 a0_8 a0_9 a0_10 a0_11 a0_12)) else (qQp.j2 kj27 false a0_0 (wrap64 (a0_1 - a3)) (wrap64 (a0_2 - (wrap64 (a2 * 1000000)))) a0_3 (wrap64 (a0_4 - a1)) a0_5 a0_6 a0_7 a0_8 a0_9 a0_10 a0_11 a0_12)) = some (r1, r2, r3, r4, r5, r6, r7, r8, r9, r10, r11, r12, r13, r14) := by rw [if_neg (show ¬ (false = true) by decide)] at H; exact H
   clear H
   have H := H1
   clear H1
   have HC43 := am H
   clear H
   have hnb44 := NB231_232.out
   have hnc44 := NB232_231.out
   have hz45 := lc13 BK231.out
   go_upto_region 10 with (fail)
   go_cut [77] (fun v77 wc => ∃ (kq : Nat) (x77_42 : Bool), v77 = .bool x77_42 ∧ Aside0 (qQp.j2 kq x77_42 a0_0 (wrap64 (a0_1 - a3)) (wrap64 (a0_2 - (wrap64 (a2 * 1000000)))) a0_3 (wrap64 (a0_4 - a1)) a0_5 a0_6 a0_7 a0_8 a0_9 a0_10 a0_11 a0_12 = some (r1, r2, r3, r4, r5, r6, r7, r8, r9, r10, r11, r12, r13, r14)) ∧ Aside0 (kq ≤ kj27) ∧ Aside0 (wc.heap[gb231]? = some (.cells #[.int .i64 a0_0, .int .i64 (wrap64 (a0_1 - a3)), .int .i64 (wrap64 (a0_2 - (wrap64 (a2 * 1000000)))), .int .i64 a0_3, .int .i64 (wrap64 (a0_4 - a1)), .int .i64 a0_5, .bool a0_6, .int .i64 a0_7, .int .i64 a0_8, .int .i64 a0_9, .int .i64 a0_10, .int .i64 a0_11, .int .i64 a0_12] 43 (0, 0))) ∧ Aside0 (wc.heap[gb232]? = some (.cells #[.int .i64 0, .int .i64 0, .int .i64 0, .int .i64 0, .int .i64 0, .int .i64 0, .bool false, .int .i64 0, .int .i64 0, .int .i64 0, .int .i64 0, .int .i64 0, .int .i64 0] 43 (0, 0))) ∧ Aside0 (Below w.heap.size w wc))
   case first =>
    have H := HC43.out
    clear HC43
    by_cases c46 : (wrap64 (a0_4 - a1)) = 0
    case neg =>
     rw [if_neg c46] at H
     have c46b0 : ((wrap64 (a0_4 - a1)) == 0) = false := beq_eq_false_iff_ne.mpr c46
     have c46b1 : ((wrap64 (a0_4 - a1)) != 0) = true := bne_iff_ne.mpr c46
     (first | rw [c46b0] | (simp only [i64_w, i32_w]; rw [c46b0]) | skip)
     have H' := am H
     clear H
     have hnb53 := NB231_232.out
     have hnc53 := NB232_231.out
     have hz54 := lc13 BK231.out
     go_wp2
     go_meet
     case rel => exact ⟨_, (false), (by first | rfl | (simp; done) | (simp [*]; done)), H', ⟨by have := HJ4.out; have := HJ27.out; first | omega | exact Nat.le_refl _⟩, ⟨by (with_reducible repeat (first | refine qQm ?_ _ | refine qQk ?_ | refine qQo ?_ _)); refine qQ1 (cs := #[.int .i64 a0_0, .int .i64 a0_1, .int .i64 (wrap64 (a0_2 - (wrap64 (a2 * 1000000)))), .int .i64 a0_3, .int .i64 (wrap64 (a0_4 - a1)), .int .i64 a0_5, .bool a0_6, .int .i64 a0_7, .int .i64 a0_8, .int .i64 a0_9, .int .i64 a0_10, .int .i64 a0_11, .int .i64 a0_12]) ?_ 1 _ rfl; (with_reducible repeat (first | refine qQm ?_ _ | refine qQk ?_ | refine qQo ?_ _)); refine qQ1 (cs := #[.int .i64 a0_0, .int .i64 a0_1, .int .i64 a0_2, .int .i64 a0_3, .int .i64 (wrap64 (a0_4 - a1)), .int .i64 a0_5, .bool a0_6, .int .i64 a0_7, .int .i64 a0_8, .int .i64 a0_9, .int .i64 a0_10, .int .i64 a0_11, .int .i64 a0_12]) ?_ 2 _ rfl; (with_reducible repeat (first | refine qQm ?_ _ | refine qQk ?_ | refine qQo ?_ _)); refine qQ1 (cs := #[.int .i64 a0_0, .int .i64 a0_1, .int .i64 a0_2, .int .i64 a0_3, .int .i64 a0_4, .int .i64 a0_5, .bool a0_6, .int .i64 a0_7, .int .i64 a0_8, .int .i64 a0_9, .int .i64 a0_10, .int .i64 a0_11, .int .i64 a0_12]) ?_ 4 _ rfl; (with_reducible repeat (first | refine qQm ?_ _ | refine qQk ?_ | refine qQo ?_ _)); exact BK231.out⟩, ⟨by (iterate 3 ((with_reducible repeat (first | refine qQm ?_ _ | refine qQk ?_ | refine qQo ?_ _)); refine qZi ?_ NB232_231.out _)); (with_reducible repeat (first | refine qQm ?_ _ | refine qQk ?_ | refine qQo ?_ _)); exact BK232.out⟩, ⟨by exact h2q HB.out GE231.out GE232.out⟩⟩
    rw [if_pos c46] at H
    have c46b0 : ((wrap64 (a0_4 - a1)) == 0) = true := beq_iff_eq.mpr c46
    have c46b1 : ((wrap64 (a0_4 - a1)) != 0) = false := bne_eq_false_iff_eq.mpr c46
    clear c46
    (first | rw [c46b0] | (simp only [i64_w, i32_w]; rw [c46b0]) | skip)
    by_cases c47 : (wrap64 (a0_1 - a3)) = 0
    case neg =>
     rw [if_neg c47] at H
     have c47b0 : ((wrap64 (a0_1 - a3)) == 0) = false := beq_eq_false_iff_ne.mpr c47
     have c47b1 : ((wrap64 (a0_1 - a3)) != 0) = true := bne_iff_ne.mpr c47
     have H' := am H
     clear H
     have hnb51 := NB231_232.out
     have hnc51 := NB232_231.out
     have hz52 := lc13 BK231.out
     go_wp2
     go_meet
     case rel => exact ⟨_, (false), (by first | rfl | (simp; done) | (simp [*]; done)), H', ⟨by have := HJ4.out; have := HJ27.out; first | omega | exact Nat.le_refl _⟩, ⟨by (with_reducible repeat (first | refine qQm ?_ _ | refine qQk ?_ | refine qQo ?_ _)); refine qQ1 (cs := #[.int .i64 a0_0, .int .i64 a0_1, .int .i64 (wrap64 (a0_2 - (wrap64 (a2 * 1000000)))), .int .i64 a0_3, .int .i64 (wrap64 (a0_4 - a1)), .int .i64 a0_5, .bool a0_6, .int .i64 a0_7, .int .i64 a0_8, .int .i64 a0_9, .int .i64 a0_10, .int .i64 a0_11, .int .i64 a0_12]) ?_ 1 _ rfl; (with_reducible repeat (first | refine qQm ?_ _ | refine qQk ?_ | refine qQo ?_ _)); refine qQ1 (cs := #[.int .i64 a0_0, .int .i64 a0_1, .int .i64 a0_2, .int .i64 a0_3, .int .i64 (wrap64 (a0_4 - a1)), .int .i64 a0_5, .bool a0_6, .int .i64 a0_7, .int .i64 a0_8, .int .i64 a0_9, .int .i64 a0_10, .int .i64 a0_11, .int .i64 a0_12]) ?_ 2 _ rfl; (with_reducible repeat (first | refine qQm ?_ _ | refine qQk ?_ | refine qQo ?_ _)); refine qQ1 (cs := #[.int .i64 a0_0, .int .i64 a0_1, .int .i64 a0_2, .int .i64 a0_3, .int .i64 a0_4, .int .i64 a0_5, .bool a0_6, .int .i64 a0_7, .int .i64 a0_8, .int .i64 a0_9, .int .i64 a0_10, .int .i64 a0_11, .int .i64 a0_12]) ?_ 4 _ rfl; (with_reducible repeat (first | refine qQm ?_ _ | refine qQk ?_ | refine qQo ?_ _)); exact BK231.out⟩, ⟨by (iterate 3 ((with_reducible repeat (first | refine qQm ?_ _ | refine qQk ?_ | refine qQo ?_ _)); refine qZi ?_ NB232_231.out _)); (with_reducible repeat (first | refine qQm ?_ _ | refine qQk ?_ | refine qQo ?_ _)); exact BK232.out⟩, ⟨by exact h2q HB.out GE231.out GE232.out⟩⟩
    rw [if_pos c47] at H
    have c47b0 : ((wrap64 (a0_1 - a3)) == 0) = true := beq_iff_eq.mpr c47
    have c47b1 : ((wrap64 (a0_1 - a3)) != 0) = false := bne_eq_false_iff_eq.mpr c47
    clear c47
    replace H := Option.bind_eq_some_iff.mp H
    obtain ⟨t235, A480, H⟩ := H
    replace H : (qQp.j2 kj27 (t235 == 0) a0_0 (wrap64 (a0_1 - a3)) (wrap64 (a0_2 - (wrap64 (a2 * 1000000)))) a0_3 (wrap64 (a0_4 - a1)) a0_5 a0_6 a0_7 a0_8 a0_9 a0_10 a0_11 a0_12) = some (r1, r2, r3, r4, r5, r6, r7, r8, r9, r10, r11, r12, r13, r14) := H
    have A48 := am A480
    clear A480
    have H' := am H
    clear H
    have hnb49 := NB231_232.out
    have hnc49 := NB232_231.out
    have hz50 := lc13 BK231.out
    go_wp2_with (first | (go_at_call 32; (with_reducible refine (qZa.calls (wrap64 (a0_2 - (wrap64 (a2 * 1000000)))) t235 _ A48.out).mono ?_); rintro e w' ⟨rfl, ⟨nd, rfl⟩⟩))
    go_meet
    case rel => exact ⟨_, ((t235 == 0)), (by first | rfl | (simp; done) | (simp [*]; done)), H', ⟨by have := HJ4.out; have := HJ27.out; first | omega | exact Nat.le_refl _⟩, ⟨by (with_reducible repeat (first | refine qQm ?_ _ | refine qQk ?_ | refine qQo ?_ _)); refine qQ1 (cs := #[.int .i64 a0_0, .int .i64 a0_1, .int .i64 (wrap64 (a0_2 - (wrap64 (a2 * 1000000)))), .int .i64 a0_3, .int .i64 (wrap64 (a0_4 - a1)), .int .i64 a0_5, .bool a0_6, .int .i64 a0_7, .int .i64 a0_8, .int .i64 a0_9, .int .i64 a0_10, .int .i64 a0_11, .int .i64 a0_12]) ?_ 1 _ rfl; (with_reducible repeat (first | refine qQm ?_ _ | refine qQk ?_ | refine qQo ?_ _)); refine qQ1 (cs := #[.int .i64 a0_0, .int .i64 a0_1, .int .i64 a0_2, .int .i64 a0_3, .int .i64 (wrap64 (a0_4 - a1)), .int .i64 a0_5, .bool a0_6, .int .i64 a0_7, .int .i64 a0_8, .int .i64 a0_9, .int .i64 a0_10, .int .i64 a0_11, .int .i64 a0_12]) ?_ 2 _ rfl; (with_reducible repeat (first | refine qQm ?_ _ | refine qQk ?_ | refine qQo ?_ _)); refine qQ1 (cs := #[.int .i64 a0_0, .int .i64 a0_1, .int .i64 a0_2, .int .i64 a0_3, .int .i64 a0_4, .int .i64 a0_5, .bool a0_6, .int .i64 a0_7, .int .i64 a0_8, .int .i64 a0_9, .int .i64 a0_10, .int .i64 a0_11, .int .i64 a0_12]) ?_ 4 _ rfl; (with_reducible repeat (first | refine qQm ?_ _ | refine qQk ?_ | refine qQo ?_ _)); exact BK231.out⟩, ⟨by (iterate 3 ((with_reducible repeat (first | refine qQm ?_ _ | refine qQk ?_ | refine qQo ?_ _)); refine qZi ?_ NB232_231.out _)); (with_reducible repeat (first | refine qQm ?_ _ | refine qQk ?_ | refine qQo ?_ _)); exact BK232.out⟩, ⟨by exact h2q HB.out GE231.out GE232.out⟩⟩
   case rest =>
    clear HC43
    try clear c9
    try clear c10
    try clear c10b0
    try clear c14
    try clear c14b0
    try clear c24
    try clear c27
    try clear c27b0 c27b1
    try clear c31
    try clear c31b0
    try clear c35
    try clear c35b0
    try clear c40
    try clear c46
    try clear c46b0 c46b1
    try clear c47
    try clear c47b0 c47b1
    try clear hz12
    try clear hz16
    try clear hz19
    try clear hz22
    try clear hz26
    try clear hz30
    try clear hz33
    try clear hz37
    try clear hz39
    try clear hz42
    try clear hz45
    try clear hz50
    try clear hz52
    try clear hz54
    obtain ⟨kq, x77_42, rfl, HA, HJ42, BK231, BK232, HB⟩ := hcut
    rcases kq with _ | kj42
    ·exact absurd HA.out (by simp [qQp.j2])
    have H := HA.out
    clear HA
    simp only [qQp.j2] at H
    by_cases c55 : x77_42 = true
    ·subst c55
     have H1 : (some (a0_0, (wrap64 (a0_1 - a3)), 0, a0_3, (wrap64 (a0_4 - a1)), a0_5, a0_6, a0_7, 1, a0_9, a0_10, a0_11, a0_12, 0)) = some (r1, r2, r3, r4, r5, r6, r7, r8, r9, r10, r11, r12, r13, r14) := by rw [if_pos rfl] at H; exact H
     clear H
     have H := H1
     clear H1
     simp only [Option.some.injEq, Prod.mk.injEq] at H
     obtain ⟨rfl, rfl, rfl, rfl, rfl, rfl, rfl, rfl, rfl, rfl, rfl, rfl, rfl, rfl⟩ := H
     have hnb56 := NB231_232.out
     have hnc56 := NB232_231.out
     have hz57 := lc13 BK231.out
     have hz58 := lc13 BK232.out
     go_wp2
     refine bodyPost_ret (qYq rfl _ _ gb232 43 #[.int .i64 a0_0, .int .i64 (wrap64 (a0_1 - a3)), .int .i64 0, .int .i64 a0_3, .int .i64 (wrap64 (a0_4 - a1)), .int .i64 a0_5, .bool a0_6, .int .i64 a0_7, .int .i64 1, .int .i64 a0_9, .int .i64 a0_10, .int .i64 a0_11, .int .i64 a0_12] (0, 0) _ rfl (by (with_reducible repeat (first | refine qQm ?_ _ | refine qQk ?_ | refine qQo ?_ _)); apply qY6; (iterate 2 ((with_reducible repeat (first | refine qQm ?_ _ | refine qQk ?_ | refine qQo ?_ _)); refine qZi ?_ NB232_231.out _)); (with_reducible repeat (first | refine qQm ?_ _ | refine qQk ?_ | refine qQo ?_ _)); exact BK232.out) Try.underlying43 rfl (by kernel_rfl)) rfl ?_
     exact ⟨er, by exact h2q HB.out GE231.out GE232.out⟩
    replace c55 := Bool.eq_false_iff.mpr c55
    subst c55
    have H1 : (some (a0_0, (wrap64 (a0_1 - a3)), (wrap64 (a0_2 - (wrap64 (a2 * 1000000)))), a0_3, (wrap64 (a0_4 - a1)), a0_5, a0_6, a0_7, a0_8, a0_9, a0_10, a0_11, a0_12, 0)) = some (r1, r2, r3, r4, r5, r6, r7, r8, r9, r10, r11, r12, r13, r14) := by rw [if_neg (show ¬ (false = true) by decide)] at H; exact H
    clear H
    have H := H1
    clear H1
    simp only [Option.some.injEq, Prod.mk.injEq] at H
    obtain ⟨rfl, rfl, rfl, rfl, rfl, rfl, rfl, rfl, rfl, rfl, rfl, rfl, rfl, rfl⟩ := H
    have hnb59 := NB231_232.out
    have hnc59 := NB232_231.out
    have hz60 := lc13 BK231.out
    have hz61 := lc13 BK232.out
    go_wp2
    refine bodyPost_ret (qYq rfl _ _ gb232 43 #[.int .i64 a0_0, .int .i64 (wrap64 (a0_1 - a3)), .int .i64 (wrap64 (a0_2 - (wrap64 (a2 * 1000000)))), .int .i64 a0_3, .int .i64 (wrap64 (a0_4 - a1)), .int .i64 a0_5, .bool a0_6, .int .i64 a0_7, .int .i64 a0_8, .int .i64 a0_9, .int .i64 a0_10, .int .i64 a0_11, .int .i64 a0_12] (0, 0) _ rfl (by (with_reducible repeat (first | refine qQm ?_ _ | refine qQk ?_ | refine qQo ?_ _)); apply qY6; (with_reducible repeat (first | refine qQm ?_ _ | refine qQk ?_ | refine qQo ?_ _)); exact BK232.out) Try.underlying43 rfl (by kernel_rfl)) rfl ?_
    exact ⟨er, by exact h2q HB.out GE231.out GE232.out⟩
end Go.Proofs.Yteemomncbcpdjaa.P
