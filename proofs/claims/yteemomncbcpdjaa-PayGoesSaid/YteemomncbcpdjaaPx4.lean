/- A part of a proof. -/
import Derived.Test.YteemomncbcpdjaaZaa
import Derived.Test.YteemomncbcpdjaaPx0
import Derived.Test.YteemomncbcpdjaaPx3
namespace Go.Proofs.Yteemomncbcpdjaa.P
open Go.RowKit W.PrintWords W.PrintLast W.PrintMore
attribute [local go_sem] qZs qZq qZ5 qZ6 qZk qZl qZt qZp
set_option linter.unusedVariables false
set_option linter.unusedSimpArgs false
mutual
def qQy.j0 : Nat → Bool → Int → Int → Int → Int → Int → Int → Bool → Int → Int → Int → Int → Int → Int → Option (Bool)
 | 0, _, _, _, _, _, _, _, _, _, _, _, _, _, _ => none
 | k + 1, x3, x110000, x110001, x110002, x110003, x110004, x110005, x110006, x110007, x110008, x110009, x110010, x110011, x110012 => if x3 = true then (some false) else (if x110002 < 0 then (qQy.j1 k true x110000 x110001 x110002 x110003 x110004 x110005 x110006 x110007 x110008 x110009 x110010 x110011 x110012) else (if x110002 > 1000000000000000000 then (qQy.j1 k true x110000 x110001 x110002 x110003 x110004 x110005 x110006 x110007 x110008 x110009 x110010 x110011 x110012) else (if x110003 < 0 then (qQy.j1 k true x110000 x110001 x110002 x110003 x110004 x110005 x110006 x110007 x110008 x110009 x110010 x110011 x110012) else (qQy.j1 k (decide (x110003 > 1000000000000000000)) x110000 x110001 x110002 x110003 x110004 x110005 x110006 x110007 x110008 x110009 x110010 x110011 x110012))))
def qQy.j1 : Nat → Bool → Int → Int → Int → Int → Int → Int → Bool → Int → Int → Int → Int → Int → Int → Option (Bool)
 | 0, _, _, _, _, _, _, _, _, _, _, _, _, _, _ => none
 | k + 1, x25, x110000, x110001, x110002, x110003, x110004, x110005, x110006, x110007, x110008, x110009, x110010, x110011, x110012 => if x25 = true then (some false) else (if x110005 < 0 then (qQy.j2 k true x110000 x110001 x110002 x110003 x110004 x110005 x110006 x110007 x110008 x110009 x110010 x110011 x110012) else (if x110005 > 1000000 then (qQy.j2 k true x110000 x110001 x110002 x110003 x110004 x110005 x110006 x110007 x110008 x110009 x110010 x110011 x110012) else (if x110007 < 1 then (qQy.j2 k true x110000 x110001 x110002 x110003 x110004 x110005 x110006 x110007 x110008 x110009 x110010 x110011 x110012) else (if x110007 > 5 then (qQy.j2 k true x110000 x110001 x110002 x110003 x110004 x110005 x110006 x110007 x110008 x110009 x110010 x110011 x110012) else (if x110008 < 0 then (qQy.j2 k true x110000 x110001 x110002 x110003 x110004 x110005 x110006 x110007 x110008 x110009 x110010 x110011 x110012) else (qQy.j2 k (decide (x110008 > 4)) x110000 x110001 x110002 x110003 x110004 x110005 x110006 x110007 x110008 x110009 x110010 x110011 x110012))))))
def qQy.j2 : Nat → Bool → Int → Int → Int → Int → Int → Int → Bool → Int → Int → Int → Int → Int → Int → Option (Bool)
 | 0, _, _, _, _, _, _, _, _, _, _, _, _, _, _ => none
 | k + 1, x44, x110000, x110001, x110002, x110003, x110004, x110005, x110006, x110007, x110008, x110009, x110010, x110011, x110012 => if x44 = true then (some false) else (if x110009 < (-1) then (qQy.j3 k true x110000 x110001 x110002 x110003 x110004 x110005 x110006 x110007 x110008 x110009 x110010 x110011 x110012) else (if x110009 > 87658 then (qQy.j3 k true x110000 x110001 x110002 x110003 x110004 x110005 x110006 x110007 x110008 x110009 x110010 x110011 x110012) else (qQy.j3 k (decide (x110012 < 0)) x110000 x110001 x110002 x110003 x110004 x110005 x110006 x110007 x110008 x110009 x110010 x110011 x110012)))
def qQy.j3 : Nat → Bool → Int → Int → Int → Int → Int → Int → Bool → Int → Int → Int → Int → Int → Int → Option (Bool)
 | 0, _, _, _, _, _, _, _, _, _, _, _, _, _, _ => none
 | k + 1, x73, x110000, x110001, x110002, x110003, x110004, x110005, x110006, x110007, x110008, x110009, x110010, x110011, x110012 => if x73 = true then (some false) else (if x110008 = 0 then (some true) else (if x110001 = 0 then (if x110002 = 0 then (some (x110004 == 0)) else (some false)) else (some false)))
end
def qQy.f (k : Nat) (a0_0 : Int) (a0_1 : Int) (a0_2 : Int) (a0_3 : Int) (a0_4 : Int) (a0_5 : Int) (a0_6 : Bool) (a0_7 : Int) (a0_8 : Int) (a0_9 : Int) (a0_10 : Int) (a0_11 : Int) (a0_12 : Int) : Option (Bool) := if a0_0 < 1 then (qQy.j0 k true a0_0 a0_1 a0_2 a0_3 a0_4 a0_5 a0_6 a0_7 a0_8 a0_9 a0_10 a0_11 a0_12) else (if a0_0 > 1000 then (qQy.j0 k true a0_0 a0_1 a0_2 a0_3 a0_4 a0_5 a0_6 a0_7 a0_8 a0_9 a0_10 a0_11 a0_12) else ((qZy.f k (([a0_1, a0_4, a0_10, a0_11] : List Int))).bind fun t113 => (qQy.j0 k (!t113) a0_0 a0_1 a0_2 a0_3 a0_4 a0_5 a0_6 a0_7 a0_8 a0_9 a0_10 a0_11 a0_12)))
set_option maxHeartbeats 8000000 in
set_option maxRecDepth 100000 in
theorem qQy.calls (k : Nat) (a0_0 : Int) (a0_1 : Int) (a0_2 : Int) (a0_3 : Int) (a0_4 : Int) (a0_5 : Int) (a0_6 : Bool) (a0_7 : Int) (a0_8 : Int) (a0_9 : Int) (a0_10 : Int) (a0_11 : Int) (a0_12 : Int) (r : Bool) (w : World) (h : qQy.f k a0_0 a0_1 a0_2 a0_3 a0_4 a0_5 a0_6 a0_7 a0_8 a0_9 a0_10 a0_11 a0_12 = some r) :
  Calls Try.prog 20 #[.agg #[.int .i64 a0_0, .int .i64 a0_1, .int .i64 a0_2, .int .i64 a0_3, .int .i64 a0_4, .int .i64 a0_5, .bool a0_6, .int .i64 a0_7, .int .i64 a0_8, .int .i64 a0_9, .int .i64 a0_10, .int .i64 a0_11, .int .i64 a0_12]] w fun e w' => e = .returned (.bool r) ∧ Below w.heap.size w w' := by
 have hu43 := Try.underlying43
 have HB := am (Below.refl w.heap.size w)
 have H : (if a0_0 < 1 then (qQy.j0 k true a0_0 a0_1 a0_2 a0_3 a0_4 a0_5 a0_6 a0_7 a0_8 a0_9 a0_10 a0_11 a0_12) else (if a0_0 > 1000 then (qQy.j0 k true a0_0 a0_1 a0_2 a0_3 a0_4 a0_5 a0_6 a0_7 a0_8 a0_9 a0_10 a0_11 a0_12) else ((qZy.f k (([a0_1, a0_4, a0_10, a0_11] : List Int))).bind fun t113 => (qQy.j0 k (!t113) a0_0 a0_1 a0_2 a0_3 a0_4 a0_5 a0_6 a0_7 a0_8 a0_9 a0_10 a0_11 a0_12)))) = some r := h
 clear h
 have HC2 := am H
 clear H
 go_enter Try.func20, Try.ntmps20
 go_upto_region 1 with (first | ((with_reducible refine qZj (N := 1) rfl ?_); (try (refine qYv (by rfl) ?_; dsimp only)); refine qZu ?hg (N := 1) ?hd (cs := #[.int .i64 a0_0, .int .i64 a0_1, .int .i64 a0_2, .int .i64 a0_3, .int .i64 a0_4, .int .i64 a0_5, .bool a0_6, .int .i64 a0_7, .int .i64 a0_8, .int .i64 a0_9, .int .i64 a0_10, .int .i64 a0_11, .int .i64 a0_12]) (t := 43) ?hr ?_; (case hd => rfl); (case hg => rfl); (case hr => first | (go_simp; done) | (go_simp; rfl)); intro gb109 hg w3 hbox hb; have n0_ := am (qQn (by exact h0q HB.out) hb); have n1_ := am (hbox); have n2_ := am ((by rw [hg]; exact (qQh (by exact h0q HB.out)) : w.heap.size ≤ gb109)); have n3_ := am ((by rw [hg]; exact (qQh (by exact h0q HB.out)) : w.heap.size ≤ gb109)); clear HB; have HB := n0_; have BK109 := n1_; have GW109 := n2_; have GE109 := n3_; clear n0_ n1_ n2_ n3_; clear hb hbox hg))
 (try simp only [Act.put, List.setIfInBounds_toArray, List.set_cons_zero, List.set_cons_succ])
 go_cut [3] (fun v3 wc => ∃ (kq : Nat) (x3_1 : Bool), v3 = .bool x3_1 ∧ Aside0 (qQy.j0 kq x3_1 a0_0 a0_1 a0_2 a0_3 a0_4 a0_5 a0_6 a0_7 a0_8 a0_9 a0_10 a0_11 a0_12 = some r) ∧ Aside0 (kq ≤ k) ∧ Aside0 (wc.heap[gb109]? = some (.cells #[.int .i64 a0_0, .int .i64 a0_1, .int .i64 a0_2, .int .i64 a0_3, .int .i64 a0_4, .int .i64 a0_5, .bool a0_6, .int .i64 a0_7, .int .i64 a0_8, .int .i64 a0_9, .int .i64 a0_10, .int .i64 a0_11, .int .i64 a0_12] 43 (0, 0))) ∧ Aside0 (Below w.heap.size w wc))
 case first =>
  have H := HC2.out
  clear HC2
  by_cases c4 : a0_0 < 1
  ·rw [if_pos c4] at H
   have c4b0 : decide (a0_0 < 1) = true := decide_eq_true c4
   clear c4
   (first | rw [c4b0] | (simp only [i64_w, i32_w]; rw [c4b0]) | skip)
   have H' := am H
   clear H
   have hz5 := lc13 BK109.out
   go_wp2
   go_meet
   case rel => exact ⟨_, (true), (by first | rfl | (simp; done) | (simp [*]; done)), H', ⟨by first | omega | exact Nat.le_refl _⟩, ⟨by exact bb BK109.out⟩, ⟨by exact h1q HB.out GE109.out⟩⟩
  rw [if_neg c4] at H
  have c4b0 : decide (a0_0 < 1) = false := decide_eq_false c4
  clear c4
  (first | rw [c4b0] | (simp only [i64_w, i32_w]; rw [c4b0]) | skip)
  by_cases c6 : a0_0 > 1000
  ·rw [if_pos c6] at H
   have c6b0 : decide (1000 < a0_0) = true := decide_eq_true c6
   clear c6
   have H' := am H
   clear H
   have hz7 := lc13 BK109.out
   go_wp2
   go_meet
   case rel => exact ⟨_, (true), (by first | rfl | (simp; done) | (simp [*]; done)), H', ⟨by first | omega | exact Nat.le_refl _⟩, ⟨by exact bb BK109.out⟩, ⟨by exact h1q HB.out GE109.out⟩⟩
  rw [if_neg c6] at H
  have c6b0 : decide (1000 < a0_0) = false := decide_eq_false c6
  clear c6
  obtain ⟨y110, hy110⟩ : ∃ y_ : List Int, y_ = (([a0_1, a0_4, a0_10, a0_11] : List Int)) := ⟨_, rfl⟩
  replace H : ((qZy.f k y110).bind fun t113 => (qQy.j0 k (!t113) a0_0 a0_1 a0_2 a0_3 a0_4 a0_5 a0_6 a0_7 a0_8 a0_9 a0_10 a0_11 a0_12)) = some r := by first | (rw [hy110]; with_reducible exact H) | (have H2_ := (Option.bind_some _ _).symm.trans H; rw [hy110]; with_reducible exact H2_) | (have H2_ := (Option.bind_some _ _).symm.trans H; with_reducible exact H2_) | with_reducible exact H | (rw [hy110]; exact H) | exact H
  have Ny110 := am hy110
  clear hy110
  replace H := Option.bind_eq_some_iff.mp H
  obtain ⟨t113, A80, H⟩ := H
  replace H : (qQy.j0 k (!t113) a0_0 a0_1 a0_2 a0_3 a0_4 a0_5 a0_6 a0_7 a0_8 a0_9 a0_10 a0_11 a0_12) = some r := H
  have A8 := am A80
  clear A80
  have H' := am H
  clear H
  have hz9 := lc13 BK109.out
  go_wp2_with (first | ((with_reducible refine qZj (N := 21) rfl ?_); (try (refine qYv (by rfl) ?_; dsimp only)); refine Kd.R_lit (Kd.int .i64) _ 2 ?hg (N := 21) ?hd (xs := ([a0_1, a0_4, a0_10, a0_11] : List Int)) (inner := [.int .i64 a0_1, .int .i64 a0_4, .int .i64 a0_10, .int .i64 a0_11]) (ok := fun _ => True) (okp := fun _ => True) ?hr ?hp (fun _ hk => hk) trivial (Below.refl _ _) (Nat.le_refl _) (by simp) ?_; (case hd => rfl); (case hg => rfl); (case hr => first | (go_simp; done) | (go_simp; rfl)); (case hp => exact (Reps.one (show Kd.M (Kd.int .i64) _ _ _ a0_1 [.int .i64 a0_1] from rfl) (Reps.one (show Kd.M (Kd.int .i64) _ _ _ a0_4 [.int .i64 a0_4] from rfl) (Reps.one (show Kd.M (Kd.int .i64) _ _ _ a0_10 [.int .i64 a0_10] from rfl) (Reps.one (show Kd.M (Kd.int .i64) _ _ _ a0_11 [.int .i64 a0_11] from rfl) (Reps.none _ _)))))); intro v111 w10 ho11 hb hg_ hnew_; clear hg_ hnew_; (first | rw [← Ny110.out] at ho11 | (simp only [Int.reduceToNat] at ho11; rw [← Ny110.out] at ho11)); have n0_ := am (Kd.qZe ho11 (qQh (by exact h1q HB.out GE109.out))); have n1_ := am (qQu (g := gb109) (Up.up BK109.out) hb); have n2_ := am (qQn (by exact h1q HB.out GE109.out) hb); clear BK109; clear HB; have HO112 := n0_; have BK109 := n1_; have HB := n2_; clear n0_ n1_ n2_; clear hb ho11; obtain ⟨Ao12, co12, eo12⟩ := Kd.qZ8 HO112.out; subst eo12) | (go_at_call 39; (with_reducible refine (qZy.calls k _ _ y110 t113 _ ?side1 ?side2 A8.out).mono ?_); (case side1 => exact cq ((Kd.qQx HO112.out).2.2)); (case side2 => exact (Kd.qQx HO112.out).2.1); rintro e w' ⟨rfl, ⟨nd, rfl⟩⟩))
  go_meet
  case rel => exact ⟨_, (!t113), (by first | rfl | (simp; done) | (simp [*]; done)), H', ⟨by first | omega | exact Nat.le_refl _⟩, ⟨by exact bb BK109.out⟩, ⟨by exact h1q HB.out GE109.out⟩⟩
 case rest =>
  clear HC2
  try clear c4
  try clear c4b0
  try clear c6
  try clear c6b0
  try clear hz5
  try clear hz7
  try clear hz9
  obtain ⟨kq, x3_1, rfl, HA, HJ1, BK109, HB⟩ := hcut
  rcases kq with _ | kj1
  ·exact absurd HA.out (by simp [qQy.j0])
  have H := HA.out
  clear HA
  simp only [qQy.j0] at H
  by_cases c13 : x3_1 = true
  ·subst c13
   have H1 : (some false) = some r := by rw [if_pos rfl] at H; exact H
   clear H
   have H := H1
   clear H1
   obtain rfl := Option.some.inj H
   go_wp2
   go_ret
   exact ⟨er, by exact h1q HB.out GE109.out⟩
  replace c13 := Bool.eq_false_iff.mpr c13
  subst c13
  have H1 : (if a0_2 < 0 then (qQy.j1 kj1 true a0_0 a0_1 a0_2 a0_3 a0_4 a0_5 a0_6 a0_7 a0_8 a0_9 a0_10 a0_11 a0_12) else (if a0_2 > 1000000000000000000 then (qQy.j1 kj1 true a0_0 a0_1 a0_2 a0_3 a0_4 a0_5 a0_6 a0_7 a0_8 a0_9 a0_10 a0_11 a0_12) else (if a0_3 < 0 then (qQy.j1 kj1 true a0_0 a0_1 a0_2 a0_3 a0_4 a0_5 a0_6 a0_7 a0_8 a0_9 a0_10 a0_11 a0_12) else (qQy.j1 kj1 (decide (a0_3 > 1000000000000000000)) a0_0 a0_1 a0_2 a0_3 a0_4 a0_5 a0_6 a0_7 a0_8 a0_9 a0_10 a0_11 a0_12)))) = some r := by rw [if_neg (show ¬ (false = true) by decide)] at H; exact H
  clear H
  have H := H1
  clear H1
  have HC14 := am H
  clear H
  go_upto_region 3 with (fail)
  go_cut [25] (fun v25 wc => ∃ (kq : Nat) (x25_13 : Bool), v25 = .bool x25_13 ∧ Aside0 (qQy.j1 kq x25_13 a0_0 a0_1 a0_2 a0_3 a0_4 a0_5 a0_6 a0_7 a0_8 a0_9 a0_10 a0_11 a0_12 = some r) ∧ Aside0 (kq ≤ kj1) ∧ Aside0 (wc.heap[gb109]? = some (.cells #[.int .i64 a0_0, .int .i64 a0_1, .int .i64 a0_2, .int .i64 a0_3, .int .i64 a0_4, .int .i64 a0_5, .bool a0_6, .int .i64 a0_7, .int .i64 a0_8, .int .i64 a0_9, .int .i64 a0_10, .int .i64 a0_11, .int .i64 a0_12] 43 (0, 0))) ∧ Aside0 (Below w.heap.size w wc))
  case first =>
   have H := HC14.out
   clear HC14
   by_cases c15 : a0_2 < 0
   ·rw [if_pos c15] at H
    have c15b0 : decide (a0_2 < 0) = true := decide_eq_true c15
    clear c15
    (first | rw [c15b0] | (simp only [i64_w, i32_w]; rw [c15b0]) | skip)
    have H' := am H
    clear H
    have hz16 := lc13 BK109.out
    go_wp2
    go_meet
    case rel => exact ⟨_, (true), (by first | rfl | (simp; done) | (simp [*]; done)), H', ⟨by have := HJ1.out; first | omega | exact Nat.le_refl _⟩, ⟨by exact bb BK109.out⟩, ⟨by exact h1q HB.out GE109.out⟩⟩
   rw [if_neg c15] at H
   have c15b0 : decide (a0_2 < 0) = false := decide_eq_false c15
   clear c15
   (first | rw [c15b0] | (simp only [i64_w, i32_w]; rw [c15b0]) | skip)
   by_cases c17 : a0_2 > 1000000000000000000
   ·rw [if_pos c17] at H
    have c17b0 : decide (1000000000000000000 < a0_2) = true := decide_eq_true c17
    clear c17
    have H' := am H
    clear H
    have hz18 := lc13 BK109.out
    go_wp2
    go_meet
    case rel => exact ⟨_, (true), (by first | rfl | (simp; done) | (simp [*]; done)), H', ⟨by have := HJ1.out; first | omega | exact Nat.le_refl _⟩, ⟨by exact bb BK109.out⟩, ⟨by exact h1q HB.out GE109.out⟩⟩
   rw [if_neg c17] at H
   have c17b0 : decide (1000000000000000000 < a0_2) = false := decide_eq_false c17
   clear c17
   by_cases c19 : a0_3 < 0
   ·rw [if_pos c19] at H
    have c19b0 : decide (a0_3 < 0) = true := decide_eq_true c19
    clear c19
    have H' := am H
    clear H
    have hz20 := lc13 BK109.out
    go_wp2
    go_meet
    case rel => exact ⟨_, (true), (by first | rfl | (simp; done) | (simp [*]; done)), H', ⟨by have := HJ1.out; first | omega | exact Nat.le_refl _⟩, ⟨by exact bb BK109.out⟩, ⟨by exact h1q HB.out GE109.out⟩⟩
   rw [if_neg c19] at H
   have c19b0 : decide (a0_3 < 0) = false := decide_eq_false c19
   clear c19
   have H' := am H
   clear H
   have hz21 := lc13 BK109.out
   go_wp2
   go_meet
   case rel => exact ⟨_, (decide (a0_3 > 1000000000000000000)), (by first | rfl | (simp; done) | (simp [*]; done)), H', ⟨by have := HJ1.out; first | omega | exact Nat.le_refl _⟩, ⟨by exact bb BK109.out⟩, ⟨by exact h1q HB.out GE109.out⟩⟩
  case rest =>
   clear HC14
   try clear c4
   try clear c4b0
   try clear c6
   try clear c6b0
   try clear c13
   try clear c15
   try clear c15b0
   try clear c17
   try clear c17b0
   try clear c19
   try clear c19b0
   try clear hz16
   try clear hz18
   try clear hz20
   try clear hz21
   try clear hz5
   try clear hz7
   try clear hz9
   obtain ⟨kq, x25_13, rfl, HA, HJ13, BK109, HB⟩ := hcut
   rcases kq with _ | kj13
   ·exact absurd HA.out (by simp [qQy.j1])
   have H := HA.out
   clear HA
   simp only [qQy.j1] at H
   by_cases c22 : x25_13 = true
   ·subst c22
    have H1 : (some false) = some r := by rw [if_pos rfl] at H; exact H
    clear H
    have H := H1
    clear H1
    obtain rfl := Option.some.inj H
    go_wp2
    go_ret
    exact ⟨er, by exact h1q HB.out GE109.out⟩
   replace c22 := Bool.eq_false_iff.mpr c22
   subst c22
   have H1 : (if a0_5 < 0 then (qQy.j2 kj13 true a0_0 a0_1 a0_2 a0_3 a0_4 a0_5 a0_6 a0_7 a0_8 a0_9 a0_10 a0_11 a0_12) else (if a0_5 > 1000000 then (qQy.j2 kj13 true a0_0 a0_1 a0_2 a0_3 a0_4 a0_5 a0_6 a0_7 a0_8 a0_9 a0_10 a0_11 a0_12) else (if a0_7 < 1 then (qQy.j2 kj13 true a0_0 a0_1 a0_2 a0_3 a0_4 a0_5 a0_6 a0_7 a0_8 a0_9 a0_10 a0_11 a0_12) else (if a0_7 > 5 then (qQy.j2 kj13 true a0_0 a0_1 a0_2 a0_3 a0_4 a0_5 a0_6 a0_7 a0_8 a0_9 a0_10 a0_11 a0_12) else (if a0_8 < 0 then (qQy.j2 kj13 true a0_0 a0_1 a0_2 a0_3 a0_4 a0_5 a0_6 a0_7 a0_8 a0_9 a0_10 a0_11 a0_12) else (qQy.j2 kj13 (decide (a0_8 > 4)) a0_0 a0_1 a0_2 a0_3 a0_4 a0_5 a0_6 a0_7 a0_8 a0_9 a0_10 a0_11 a0_12)))))) = some r := by rw [if_neg (show ¬ (false = true) by decide)] at H; exact H
   clear H
   have H := H1
   clear H1
   have HC23 := am H
   clear H
   go_upto_region 5 with (fail)
   go_cut [44] (fun v44 wc => ∃ (kq : Nat) (x44_22 : Bool), v44 = .bool x44_22 ∧ Aside0 (qQy.j2 kq x44_22 a0_0 a0_1 a0_2 a0_3 a0_4 a0_5 a0_6 a0_7 a0_8 a0_9 a0_10 a0_11 a0_12 = some r) ∧ Aside0 (kq ≤ kj13) ∧ Aside0 (wc.heap[gb109]? = some (.cells #[.int .i64 a0_0, .int .i64 a0_1, .int .i64 a0_2, .int .i64 a0_3, .int .i64 a0_4, .int .i64 a0_5, .bool a0_6, .int .i64 a0_7, .int .i64 a0_8, .int .i64 a0_9, .int .i64 a0_10, .int .i64 a0_11, .int .i64 a0_12] 43 (0, 0))) ∧ Aside0 (Below w.heap.size w wc))
   case first =>
    have H := HC23.out
    clear HC23
    by_cases c24 : a0_5 < 0
    ·rw [if_pos c24] at H
     have c24b0 : decide (a0_5 < 0) = true := decide_eq_true c24
     clear c24
     (first | rw [c24b0] | (simp only [i64_w, i32_w]; rw [c24b0]) | skip)
     have H' := am H
     clear H
     have hz25 := lc13 BK109.out
     go_wp2
     go_meet
     case rel => exact ⟨_, (true), (by first | rfl | (simp; done) | (simp [*]; done)), H', ⟨by have := HJ1.out; have := HJ13.out; first | omega | exact Nat.le_refl _⟩, ⟨by exact bb BK109.out⟩, ⟨by exact h1q HB.out GE109.out⟩⟩
    rw [if_neg c24] at H
    have c24b0 : decide (a0_5 < 0) = false := decide_eq_false c24
    clear c24
    (first | rw [c24b0] | (simp only [i64_w, i32_w]; rw [c24b0]) | skip)
    by_cases c26 : a0_5 > 1000000
    ·rw [if_pos c26] at H
     have c26b0 : decide (1000000 < a0_5) = true := decide_eq_true c26
     clear c26
     have H' := am H
     clear H
     have hz27 := lc13 BK109.out
     go_wp2
     go_meet
     case rel => exact ⟨_, (true), (by first | rfl | (simp; done) | (simp [*]; done)), H', ⟨by have := HJ1.out; have := HJ13.out; first | omega | exact Nat.le_refl _⟩, ⟨by exact bb BK109.out⟩, ⟨by exact h1q HB.out GE109.out⟩⟩
    rw [if_neg c26] at H
    have c26b0 : decide (1000000 < a0_5) = false := decide_eq_false c26
    clear c26
    by_cases c28 : a0_7 < 1
    ·rw [if_pos c28] at H
     have c28b0 : decide (a0_7 < 1) = true := decide_eq_true c28
     clear c28
     have H' := am H
     clear H
     have hz29 := lc13 BK109.out
     go_wp2
     go_meet
     case rel => exact ⟨_, (true), (by first | rfl | (simp; done) | (simp [*]; done)), H', ⟨by have := HJ1.out; have := HJ13.out; first | omega | exact Nat.le_refl _⟩, ⟨by exact bb BK109.out⟩, ⟨by exact h1q HB.out GE109.out⟩⟩
    rw [if_neg c28] at H
    have c28b0 : decide (a0_7 < 1) = false := decide_eq_false c28
    clear c28
    by_cases c30 : a0_7 > 5
    ·rw [if_pos c30] at H
     have c30b0 : decide (5 < a0_7) = true := decide_eq_true c30
     clear c30
     have H' := am H
     clear H
     have hz31 := lc13 BK109.out
     go_wp2
     go_meet
     case rel => exact ⟨_, (true), (by first | rfl | (simp; done) | (simp [*]; done)), H', ⟨by have := HJ1.out; have := HJ13.out; first | omega | exact Nat.le_refl _⟩, ⟨by exact bb BK109.out⟩, ⟨by exact h1q HB.out GE109.out⟩⟩
    rw [if_neg c30] at H
    have c30b0 : decide (5 < a0_7) = false := decide_eq_false c30
    clear c30
    by_cases c32 : a0_8 < 0
    ·rw [if_pos c32] at H
     have c32b0 : decide (a0_8 < 0) = true := decide_eq_true c32
     clear c32
     have H' := am H
     clear H
     have hz33 := lc13 BK109.out
     go_wp2
     go_meet
     case rel => exact ⟨_, (true), (by first | rfl | (simp; done) | (simp [*]; done)), H', ⟨by have := HJ1.out; have := HJ13.out; first | omega | exact Nat.le_refl _⟩, ⟨by exact bb BK109.out⟩, ⟨by exact h1q HB.out GE109.out⟩⟩
    rw [if_neg c32] at H
    have c32b0 : decide (a0_8 < 0) = false := decide_eq_false c32
    clear c32
    have H' := am H
    clear H
    have hz34 := lc13 BK109.out
    go_wp2
    go_meet
    case rel => exact ⟨_, (decide (a0_8 > 4)), (by first | rfl | (simp; done) | (simp [*]; done)), H', ⟨by have := HJ1.out; have := HJ13.out; first | omega | exact Nat.le_refl _⟩, ⟨by exact bb BK109.out⟩, ⟨by exact h1q HB.out GE109.out⟩⟩
   case rest =>
    clear HC23
    try clear c4
    try clear c4b0
    try clear c6
    try clear c6b0
    try clear c13
    try clear c15
    try clear c15b0
    try clear c17
    try clear c17b0
    try clear c19
    try clear c19b0
    try clear c22
    try clear c24
    try clear c24b0
    try clear c26
    try clear c26b0
    try clear c28
    try clear c28b0
    try clear c30
    try clear c30b0
    try clear c32
    try clear c32b0
    try clear hz16
    try clear hz18
    try clear hz20
    try clear hz21
    try clear hz25
    try clear hz27
    try clear hz29
    try clear hz31
    try clear hz33
    try clear hz34
    try clear hz5
    try clear hz7
    try clear hz9
    obtain ⟨kq, x44_22, rfl, HA, HJ22, BK109, HB⟩ := hcut
    rcases kq with _ | kj22
    ·exact absurd HA.out (by simp [qQy.j2])
    have H := HA.out
    clear HA
    simp only [qQy.j2] at H
    by_cases c35 : x44_22 = true
    ·subst c35
     have H1 : (some false) = some r := by rw [if_pos rfl] at H; exact H
     clear H
     have H := H1
     clear H1
     obtain rfl := Option.some.inj H
     go_wp2
     go_ret
     exact ⟨er, by exact h1q HB.out GE109.out⟩
    replace c35 := Bool.eq_false_iff.mpr c35
    subst c35
    have H1 : (if a0_9 < (-1) then (qQy.j3 kj22 true a0_0 a0_1 a0_2 a0_3 a0_4 a0_5 a0_6 a0_7 a0_8 a0_9 a0_10 a0_11 a0_12) else (if a0_9 > 87658 then (qQy.j3 kj22 true a0_0 a0_1 a0_2 a0_3 a0_4 a0_5 a0_6 a0_7 a0_8 a0_9 a0_10 a0_11 a0_12) else (qQy.j3 kj22 (decide (a0_12 < 0)) a0_0 a0_1 a0_2 a0_3 a0_4 a0_5 a0_6 a0_7 a0_8 a0_9 a0_10 a0_11 a0_12))) = some r := by rw [if_neg (show ¬ (false = true) by decide)] at H; exact H
    clear H
    have H := H1
    clear H1
    have HC36 := am H
    clear H
    go_upto_region 7 with (fail)
    go_cut [73] (fun v73 wc => ∃ (kq : Nat) (x73_35 : Bool), v73 = .bool x73_35 ∧ Aside0 (qQy.j3 kq x73_35 a0_0 a0_1 a0_2 a0_3 a0_4 a0_5 a0_6 a0_7 a0_8 a0_9 a0_10 a0_11 a0_12 = some r) ∧ Aside0 (kq ≤ kj22) ∧ Aside0 (wc.heap[gb109]? = some (.cells #[.int .i64 a0_0, .int .i64 a0_1, .int .i64 a0_2, .int .i64 a0_3, .int .i64 a0_4, .int .i64 a0_5, .bool a0_6, .int .i64 a0_7, .int .i64 a0_8, .int .i64 a0_9, .int .i64 a0_10, .int .i64 a0_11, .int .i64 a0_12] 43 (0, 0))) ∧ Aside0 (Below w.heap.size w wc))
    case first =>
     have H := HC36.out
     clear HC36
     by_cases c37 : a0_9 < (-1)
     ·rw [if_pos c37] at H
      have c37b0 : decide (a0_9 < (-1)) = true := decide_eq_true c37
      clear c37
      (first | rw [c37b0] | (simp only [i64_w, i32_w]; rw [c37b0]) | skip)
      have H' := am H
      clear H
      have hz38 := lc13 BK109.out
      go_wp2
      go_meet
      case rel => exact ⟨_, (true), (by first | rfl | (simp; done) | (simp [*]; done)), H', ⟨by have := HJ1.out; have := HJ13.out; have := HJ22.out; first | omega | exact Nat.le_refl _⟩, ⟨by exact bb BK109.out⟩, ⟨by exact h1q HB.out GE109.out⟩⟩
     rw [if_neg c37] at H
     have c37b0 : decide (a0_9 < (-1)) = false := decide_eq_false c37
     clear c37
     (first | rw [c37b0] | (simp only [i64_w, i32_w]; rw [c37b0]) | skip)
     by_cases c39 : a0_9 > 87658
     ·rw [if_pos c39] at H
      have c39b0 : decide (87658 < a0_9) = true := decide_eq_true c39
      clear c39
      have H' := am H
      clear H
      have hz40 := lc13 BK109.out
      go_wp2
      go_meet
      case rel => exact ⟨_, (true), (by first | rfl | (simp; done) | (simp [*]; done)), H', ⟨by have := HJ1.out; have := HJ13.out; have := HJ22.out; first | omega | exact Nat.le_refl _⟩, ⟨by exact bb BK109.out⟩, ⟨by exact h1q HB.out GE109.out⟩⟩
     rw [if_neg c39] at H
     have c39b0 : decide (87658 < a0_9) = false := decide_eq_false c39
     clear c39
     have H' := am H
     clear H
     have hz41 := lc13 BK109.out
     go_wp2
     go_meet
     case rel => exact ⟨_, (decide (a0_12 < 0)), (by first | rfl | (simp; done) | (simp [*]; done)), H', ⟨by have := HJ1.out; have := HJ13.out; have := HJ22.out; first | omega | exact Nat.le_refl _⟩, ⟨by exact bb BK109.out⟩, ⟨by exact h1q HB.out GE109.out⟩⟩
    case rest =>
     clear HC36
     try clear c4
     try clear c4b0
     try clear c6
     try clear c6b0
     try clear c13
     try clear c15
     try clear c15b0
     try clear c17
     try clear c17b0
     try clear c19
     try clear c19b0
     try clear c22
     try clear c24
     try clear c24b0
     try clear c26
     try clear c26b0
     try clear c28
     try clear c28b0
     try clear c30
     try clear c30b0
     try clear c32
     try clear c32b0
     try clear c35
     try clear c37
     try clear c37b0
     try clear c39
     try clear c39b0
     try clear hz16
     try clear hz18
     try clear hz20
     try clear hz21
     try clear hz25
     try clear hz27
     try clear hz29
     try clear hz31
     try clear hz33
     try clear hz34
     try clear hz38
     try clear hz40
     try clear hz41
     try clear hz5
     try clear hz7
     try clear hz9
     obtain ⟨kq, x73_35, rfl, HA, HJ35, BK109, HB⟩ := hcut
     rcases kq with _ | kj35
     ·exact absurd HA.out (by simp [qQy.j3])
     have H := HA.out
     clear HA
     simp only [qQy.j3] at H
     by_cases c42 : x73_35 = true
     ·subst c42
      have H1 : (some false) = some r := by rw [if_pos rfl] at H; exact H
      clear H
      have H := H1
      clear H1
      obtain rfl := Option.some.inj H
      go_wp2
      go_ret
      exact ⟨er, by exact h1q HB.out GE109.out⟩
     replace c42 := Bool.eq_false_iff.mpr c42
     subst c42
     have H1 : (if a0_8 = 0 then (some true) else (if a0_1 = 0 then (if a0_2 = 0 then (some (a0_4 == 0)) else (some false)) else (some false))) = some r := by rw [if_neg (show ¬ (false = true) by decide)] at H; exact H
     clear H
     have H := H1
     clear H1
     by_cases c43 : a0_8 = 0
     ·rw [if_pos c43] at H
      have c43b0 : (a0_8 == 0) = true := beq_iff_eq.mpr c43
      have c43b1 : (a0_8 != 0) = false := bne_eq_false_iff_eq.mpr c43
      clear c43
      obtain rfl := Option.some.inj H
      have hz44 := lc13 BK109.out
      go_wp2
      go_ret
      exact ⟨er, by exact h1q HB.out GE109.out⟩
     rw [if_neg c43] at H
     have c43b0 : (a0_8 == 0) = false := beq_eq_false_iff_ne.mpr c43
     have c43b1 : (a0_8 != 0) = true := bne_iff_ne.mpr c43
     by_cases c45 : a0_1 = 0
     case neg =>
      rw [if_neg c45] at H
      have c45b0 : (a0_1 == 0) = false := beq_eq_false_iff_ne.mpr c45
      have c45b1 : (a0_1 != 0) = true := bne_iff_ne.mpr c45
      obtain rfl := Option.some.inj H
      have hz49 := lc13 BK109.out
      go_wp2
      go_ret
      exact ⟨er, by exact h1q HB.out GE109.out⟩
     rw [if_pos c45] at H
     have c45b0 : (a0_1 == 0) = true := beq_iff_eq.mpr c45
     have c45b1 : (a0_1 != 0) = false := bne_eq_false_iff_eq.mpr c45
     clear c45
     by_cases c46 : a0_2 = 0
     case neg =>
      rw [if_neg c46] at H
      have c46b0 : (a0_2 == 0) = false := beq_eq_false_iff_ne.mpr c46
      have c46b1 : (a0_2 != 0) = true := bne_iff_ne.mpr c46
      obtain rfl := Option.some.inj H
      have hz48 := lc13 BK109.out
      go_wp2
      go_ret
      exact ⟨er, by exact h1q HB.out GE109.out⟩
     rw [if_pos c46] at H
     have c46b0 : (a0_2 == 0) = true := beq_iff_eq.mpr c46
     have c46b1 : (a0_2 != 0) = false := bne_eq_false_iff_eq.mpr c46
     clear c46
     obtain rfl := Option.some.inj H
     have hz47 := lc13 BK109.out
     go_wp2
     go_ret
     exact ⟨er, by exact h1q HB.out GE109.out⟩
end Go.Proofs.Yteemomncbcpdjaa.P
