/- A part of a proof. -/
import Derived.Test.YteemomncbcpdjaaZaa
import Derived.Test.YteemomncbcpdjaaPx0
import Derived.Test.YteemomncbcpdjaaPx13
namespace Go.Proofs.Yteemomncbcpdjaa.P
open Go.RowKit W.PrintWords W.PrintLast W.PrintMore
attribute [local go_sem] qZs qZq qZ5 qZ6 qZk qZl qZt qZp
set_option linter.unusedVariables false
set_option linter.unusedSimpArgs false
def qQj.l0 : Nat → List (S43) → List (S43) → Int → Option (Bool)
 | 0, _, _, _ => none
 | k + 1, x0, x1, x5 => if x5 < (x0.length : Int) then (if 0 ≤ x5 then (if x5 < (x1.length : Int) then ((qYf.f ((qQc x0 x5).f0) ((qQc x0 x5).f1) ((qQc x0 x5).f2) ((qQc x0 x5).f3) ((qQc x0 x5).f4) ((qQc x0 x5).f5) ((qQc x0 x5).f6) ((qQc x0 x5).f7) ((qQc x0 x5).f8) ((qQc x0 x5).f9) ((qQc x0 x5).f10) ((qQc x0 x5).f11) ((qQc x0 x5).f12) ((qQc x1 x5).f0) ((qQc x1 x5).f1) ((qQc x1 x5).f2) ((qQc x1 x5).f3) ((qQc x1 x5).f4) ((qQc x1 x5).f5) ((qQc x1 x5).f6) ((qQc x1 x5).f7) ((qQc x1 x5).f8) ((qQc x1 x5).f9) ((qQc x1 x5).f10) ((qQc x1 x5).f11) ((qQc x1 x5).f12)).bind fun t240 => (if t240 = true then (qQj.l0 k x0 x1 (wrap64 (x5 + 1))) else (some false))) else (none)) else (none)) else (some true)
def qQj.f (k : Nat) (l0 : List (S43)) (l1 : List (S43)) : Option (Bool) := if (l0.length : Int) = (l1.length : Int) then (qQj.l0 k l0 l1 0) else (some false)
def qQj.T6 : Bool × List (List Nat × List Nat) := (true, [([], []), ([], []), ([0, 1], [0, 1]), ([2], [2]), ([], []), ([], []), ([4, 5], [4, 5]), ([6], [6]), ([3, 7], [3, 7]), ([8], [8])])
def qQj.B6 : List Nat := [0, 0, 3, 7, 0, 0, 48, 112, 255, 511]
theorem qQj.tab6 : rtab .any (opsOf Try.f14 6) = qQj.T6 := by kernel_rfl
theorem qQj.bits6 : waitsOk qQj.T6.2 qQj.B6 = true := by kernel_rfl
section
variable {P : Program} {ops : Array Oper} {Q : Exit → Act → World → Prop} {S : World → Prop} {ds : List Nat} {fuel : Nat} {a a' : Act} {w : World} {oi : Oper} {v : Value} {T : Bool × List (List Nat × List Nat)} {B : List Nat}
def qQj.fl (n m : Nat) : Array Bool := ((List.range n).map fun j => m.testBit j).toArray
theorem qQj.y (i N n m : Nat) {l : Array Bool} (hT : rtab .any ops = T) (h : wpAnyLast P .any ops Q S ds fuel (qQj.fl n m) a' w)
  (hi : ops[i]? = some oi := by rfl) (hN : oi.dst = some N := by rfl) (hc : anyT T l.toList (qQj.fl n m).toList i = true := by kernel_rfl)
  (hQ : ∀ c a w, Q (.panic c) (a.put oi.dst v) w → Q (.panic c) a w := by exact fun _ _ _ h => h) (hw : Region.wanted oi (yielded ops a.tmps) = true := by rfl)
  (hy : ∀ w, (execOp a.eval oi).run P w = .ok (.value v) w := by (intro w'; go_simp; with_reducible rfl)) (ha : a.put (some N) v = a' := by (simp only [Act.put, List.setIfInBounds_toArray, List.set_cons_zero, List.set_cons_succ, i64_w, i32_w]; rfl)) :
  wpAnyLast P .any ops Q S ds (fuel + 1) l a w := pure_ (N := some N) (qQj.fl n m) hi hN (qWn hT hc) hQ (Or.inl ⟨hw, hy⟩) ha h
theorem qQj.t (i N n m : Nat) {l : Array Bool} (hT : rtab .any ops = T) (hB : waitsOk T.2 B = true) (hS : S w) (h : wpAnyLast P .any ops Q S ds fuel (qQj.fl n m) a' w)
  (hi : ops[i]? = some oi := by rfl) (hN : oi.dst = some N := by rfl) (hc : takeW T B ds l.toList (qQj.fl n m).toList i = true := by kernel_rfl)
  (hQ : ∀ c a w, Q (.panic c) (a.put oi.dst v) w → Q (.panic c) a w := by exact fun _ _ _ h => h) (hw : Region.wanted oi (yielded ops a.tmps) = true := by rfl)
  (hy : ∀ w, S w → (execOp a.eval oi).run P w = .ok (.value v) w := by (intro w' hs_; (try dsimp only at hs_); go_simp; with_reducible rfl)) (ha : a.put (some N) v = a' := by (simp only [Act.put, List.setIfInBounds_toArray, List.set_cons_zero, List.set_cons_succ, i64_w, i32_w]; rfl)) :
  wpAnyLast P .any ops Q S ds (fuel + 1) l a w := take_ (N := some N) (qQj.fl n m) hi hN (qXu hT hB hc) hQ (Or.inl ⟨hw, hy⟩) hS ha h
end
set_option maxHeartbeats 8000000 in
set_option maxRecDepth 100000 in
theorem qQj.calls (k : Nat) (A0 : Option Addr) (c0 : Nat) (l0 : List (S43)) (A1 : Option Addr) (c1 : Nat) (l1 : List (S43)) (r : Bool) (w : World) (hr0 : Kd.C k43 w A0 l0.length l0) (hc0 : l0.length ≤ c0) (hr1 : Kd.C k43 w A1 l1.length l1) (hc1 : l1.length ≤ c1) (h : qQj.f k l0 l1 = some r) :
  Calls Try.prog 14 #[.slice A0 l0.length c0, .slice A1 l1.length c1] w fun e w' => e = .returned (.bool r) ∧ Below w.heap.size w w' := by
 have hu43 := Try.underlying43
 have HR0 := am hr0
 have HC0 := am hc0
 clear hr0 hc0
 have HR1 := am hr1
 have HC1 := am hc1
 clear hr1 hc1
 have HB := am (Below.refl w.heap.size w)
 have H : (if (l0.length : Int) = (l1.length : Int) then (qQj.l0 k l0 l1 0) else (some false)) = some r := h
 clear h
 by_cases c3 : (l0.length : Int) = (l1.length : Int)
 case neg =>
  rw [if_neg c3] at H
  have c3b0 : ((l0.length : Int) == (l1.length : Int)) = false := beq_eq_false_iff_ne.mpr c3
  have c3b1 : ((l0.length : Int) != (l1.length : Int)) = true := bne_iff_ne.mpr c3
  have c3b2 : (l0.length == l1.length) = false := by first | simpa using c3 | (simp at c3 ⊢; omega)
  obtain rfl := Option.some.inj H
  go_enter Try.func14, Try.ntmps14
  go_wp2
  go_ret
  exact ⟨er, by exact h0q HB.out⟩
 rw [if_pos c3] at H
 have c3b0 : ((l0.length : Int) == (l1.length : Int)) = true := beq_iff_eq.mpr c3
 have c3b1 : ((l0.length : Int) != (l1.length : Int)) = false := bne_eq_false_iff_eq.mpr c3
 have c3b2 : (l0.length == l1.length) = true := by first | simpa using c3 | (simp at c3 ⊢; omega)
 clear c3
 have H' := am H
 clear H
 go_enter Try.func14, Try.ntmps14
 go_wp2
 go_loopg [5] k (fun kq v5 w' => ∃ (x5_1 : Int), v5 = .int .i64 x5_1 ∧ Aside0 (qQj.l0 kq l0 l1 x5_1 = some r) ∧ Aside0 (kq ≤ k) ∧ Aside0 (Below w.heap.size w w'))
 case atStart => exact ⟨(0), (by first | rfl | (simp; done) | (simp [*]; done)), H', ⟨Nat.le_refl _⟩, ⟨by exact h0q HB.out⟩⟩
 case round =>
  clear H'
  try clear c1
  try clear c3
  try clear c3b0 c3b1
  try clear c3b2
  obtain ⟨x5_1, rfl, HA, HK1, HB⟩ := hrel
  rcases gk with _ | k1
  ·exact absurd HA.out (by simp [qQj.l0])
  have H := HA.out
  clear HA
  simp only [qQj.l0] at H
  by_cases c4 : x5_1 < (l0.length : Int)
  case neg =>
   rw [if_neg c4] at H
   have c4b0 : decide (x5_1 < (l0.length : Int)) = false := decide_eq_false c4
   clear c4
   obtain rfl := Option.some.inj H
   go_wp2
   go_ret
   exact ⟨er, by exact h0q HB.out⟩
  rw [if_pos c4] at H
  have c4b0 : decide (x5_1 < (l0.length : Int)) = true := decide_eq_true c4
  clear c4
  by_cases c5 : 0 ≤ x5_1
  case neg =>
   rw [if_neg c5] at H
   exact absurd H (by simp)
  rw [if_pos c5] at H
  have c5b0 : decide (0 ≤ x5_1) = true := decide_eq_true c5
  clear c5
  by_cases c6 : x5_1 < (l1.length : Int)
  case neg =>
   rw [if_neg c6] at H
   exact absurd H (by simp)
  rw [if_pos c6] at H
  have c6b0 : decide (x5_1 < (l1.length : Int)) = true := decide_eq_true c6
  clear c6
  replace H := Option.bind_eq_some_iff.mp H
  obtain ⟨t240, A70, H⟩ := H
  replace H : (if t240 = true then (qQj.l0 k1 l0 l1 (wrap64 (x5_1 + 1))) else (some false)) = some r := H
  have A7 := am A70
  clear A70
  by_cases c8 : t240 = true
  case neg =>
   replace c8 := Bool.eq_false_iff.mpr c8
   subst c8
   have H1 : (some false) = some r := by rw [if_neg (show ¬ (false = true) by decide)] at H; exact H
   clear H
   have H := H1
   clear H1
   obtain rfl := Option.some.inj H
   try go_wp2
   have n0_ := am (qZg HB.out)
   clear HB
   have HB := n0_
   clear n0_
   have p238 : 0 ≤ (x5_1 : Int) := yd
   have q238 : x5_1 < (l0.length : Int) := yd
   obtain ⟨ad238, e238, hx238_0, hx238_1, hx238_2, hx238_3, hx238_4, hx238_5, hx238_6, hx238_7, hx238_8, hx238_9, hx238_10, hx238_11, hx238_12⟩ := qYl HR0.out x5_1 p238 q238
   have hw238_12 := hx238_12
   have hw238_11 := hx238_11
   have hw238_10 := hx238_10
   have hw238_9 := hx238_9
   have hw238_8 := hx238_8
   have hw238_7 := hx238_7
   have hw238_6 := hx238_6
   have hw238_5 := hx238_5
   have hw238_4 := hx238_4
   have hw238_3 := hx238_3
   have hw238_2 := hx238_2
   have hw238_1 := hx238_1
   have hw238_0 := hx238_0
   cases e238
   replace hx238_0 := hxb HB.out hx238_0
   replace hx238_1 := hxb HB.out hx238_1
   replace hx238_2 := hxb HB.out hx238_2
   replace hx238_3 := hxb HB.out hx238_3
   replace hx238_4 := hxb HB.out hx238_4
   replace hx238_5 := hxb HB.out hx238_5
   replace hx238_6 := hxb HB.out hx238_6
   replace hx238_7 := hxb HB.out hx238_7
   replace hx238_8 := hxb HB.out hx238_8
   replace hx238_9 := hxb HB.out hx238_9
   replace hx238_10 := hxb HB.out hx238_10
   replace hx238_11 := hxb HB.out hx238_11
   replace hx238_12 := hxb HB.out hx238_12
   replace p238 := eq_true p238
   replace q238 := eq_true q238
   have p239 : 0 ≤ (x5_1 : Int) := yd
   have q239 : x5_1 < (l1.length : Int) := yd
   obtain ⟨ad239, e239, hx239_0, hx239_1, hx239_2, hx239_3, hx239_4, hx239_5, hx239_6, hx239_7, hx239_8, hx239_9, hx239_10, hx239_11, hx239_12⟩ := qYl HR1.out x5_1 p239 q239
   have hw239_12 := hx239_12
   have hw239_11 := hx239_11
   have hw239_10 := hx239_10
   have hw239_9 := hx239_9
   have hw239_8 := hx239_8
   have hw239_7 := hx239_7
   have hw239_6 := hx239_6
   have hw239_5 := hx239_5
   have hw239_4 := hx239_4
   have hw239_3 := hx239_3
   have hw239_2 := hx239_2
   have hw239_1 := hx239_1
   have hw239_0 := hx239_0
   cases e239
   replace hx239_0 := hxb HB.out hx239_0
   replace hx239_1 := hxb HB.out hx239_1
   replace hx239_2 := hxb HB.out hx239_2
   replace hx239_3 := hxb HB.out hx239_3
   replace hx239_4 := hxb HB.out hx239_4
   replace hx239_5 := hxb HB.out hx239_5
   replace hx239_6 := hxb HB.out hx239_6
   replace hx239_7 := hxb HB.out hx239_7
   replace hx239_8 := hxb HB.out hx239_8
   replace hx239_9 := hxb HB.out hx239_9
   replace hx239_10 := hxb HB.out hx239_10
   replace hx239_11 := hxb HB.out hx239_11
   replace hx239_12 := hxb HB.out hx239_12
   replace p239 := eq_true p239
   replace q239 := eq_true q239
   refine start_ (n := 10) (S := fun w' => w'.cell? (ad238.add ((x5_1).toNat * 13)) = some (.int .i64 ((qQc l0 x5_1).f0)) ∧ w'.cell? ⟨(ad238.add ((x5_1).toNat * 13)).block, (ad238.add ((x5_1).toNat * 13)).off + 1, none⟩ = some (.int .i64 ((qQc l0 x5_1).f1)) ∧ w'.cell? ⟨(ad238.add ((x5_1).toNat * 13)).block, (ad238.add ((x5_1).toNat * 13)).off + 2, none⟩ = some (.int .i64 ((qQc l0 x5_1).f2)) ∧ w'.cell? ⟨(ad238.add ((x5_1).toNat * 13)).block, (ad238.add ((x5_1).toNat * 13)).off + 3, none⟩ = some (.int .i64 ((qQc l0 x5_1).f3)) ∧ w'.cell? ⟨(ad238.add ((x5_1).toNat * 13)).block, (ad238.add ((x5_1).toNat * 13)).off + 4, none⟩ = some (.int .i64 ((qQc l0 x5_1).f4)) ∧ w'.cell? ⟨(ad238.add ((x5_1).toNat * 13)).block, (ad238.add ((x5_1).toNat * 13)).off + 5, none⟩ = some (.int .i64 ((qQc l0 x5_1).f5)) ∧ w'.cell? ⟨(ad238.add ((x5_1).toNat * 13)).block, (ad238.add ((x5_1).toNat * 13)).off + 6, none⟩ = some (.bool ((qQc l0 x5_1).f6)) ∧ w'.cell? ⟨(ad238.add ((x5_1).toNat * 13)).block, (ad238.add ((x5_1).toNat * 13)).off + 7, none⟩ = some (.int .i64 ((qQc l0 x5_1).f7)) ∧ w'.cell? ⟨(ad238.add ((x5_1).toNat * 13)).block, (ad238.add ((x5_1).toNat * 13)).off + 8, none⟩ = some (.int .i64 ((qQc l0 x5_1).f8)) ∧ w'.cell? ⟨(ad238.add ((x5_1).toNat * 13)).block, (ad238.add ((x5_1).toNat * 13)).off + 9, none⟩ = some (.int .i64 ((qQc l0 x5_1).f9)) ∧ w'.cell? ⟨(ad238.add ((x5_1).toNat * 13)).block, (ad238.add ((x5_1).toNat * 13)).off + 10, none⟩ = some (.int .i64 ((qQc l0 x5_1).f10)) ∧ w'.cell? ⟨(ad238.add ((x5_1).toNat * 13)).block, (ad238.add ((x5_1).toNat * 13)).off + 11, none⟩ = some (.int .i64 ((qQc l0 x5_1).f11)) ∧ w'.cell? ⟨(ad238.add ((x5_1).toNat * 13)).block, (ad238.add ((x5_1).toNat * 13)).off + 12, none⟩ = some (.int .i64 ((qQc l0 x5_1).f12)) ∧ w'.cell? (ad239.add ((x5_1).toNat * 13)) = some (.int .i64 ((qQc l1 x5_1).f0)) ∧ w'.cell? ⟨(ad239.add ((x5_1).toNat * 13)).block, (ad239.add ((x5_1).toNat * 13)).off + 1, none⟩ = some (.int .i64 ((qQc l1 x5_1).f1)) ∧ w'.cell? ⟨(ad239.add ((x5_1).toNat * 13)).block, (ad239.add ((x5_1).toNat * 13)).off + 2, none⟩ = some (.int .i64 ((qQc l1 x5_1).f2)) ∧ w'.cell? ⟨(ad239.add ((x5_1).toNat * 13)).block, (ad239.add ((x5_1).toNat * 13)).off + 3, none⟩ = some (.int .i64 ((qQc l1 x5_1).f3)) ∧ w'.cell? ⟨(ad239.add ((x5_1).toNat * 13)).block, (ad239.add ((x5_1).toNat * 13)).off + 4, none⟩ = some (.int .i64 ((qQc l1 x5_1).f4)) ∧ w'.cell? ⟨(ad239.add ((x5_1).toNat * 13)).block, (ad239.add ((x5_1).toNat * 13)).off + 5, none⟩ = some (.int .i64 ((qQc l1 x5_1).f5)) ∧ w'.cell? ⟨(ad239.add ((x5_1).toNat * 13)).block, (ad239.add ((x5_1).toNat * 13)).off + 6, none⟩ = some (.bool ((qQc l1 x5_1).f6)) ∧ w'.cell? ⟨(ad239.add ((x5_1).toNat * 13)).block, (ad239.add ((x5_1).toNat * 13)).off + 7, none⟩ = some (.int .i64 ((qQc l1 x5_1).f7)) ∧ w'.cell? ⟨(ad239.add ((x5_1).toNat * 13)).block, (ad239.add ((x5_1).toNat * 13)).off + 8, none⟩ = some (.int .i64 ((qQc l1 x5_1).f8)) ∧ w'.cell? ⟨(ad239.add ((x5_1).toNat * 13)).block, (ad239.add ((x5_1).toNat * 13)).off + 9, none⟩ = some (.int .i64 ((qQc l1 x5_1).f9)) ∧ w'.cell? ⟨(ad239.add ((x5_1).toNat * 13)).block, (ad239.add ((x5_1).toNat * 13)).off + 10, none⟩ = some (.int .i64 ((qQc l1 x5_1).f10)) ∧ w'.cell? ⟨(ad239.add ((x5_1).toNat * 13)).block, (ad239.add ((x5_1).toNat * 13)).off + 11, none⟩ = some (.int .i64 ((qQc l1 x5_1).f11)) ∧ w'.cell? ⟨(ad239.add ((x5_1).toNat * 13)).block, (ad239.add ((x5_1).toNat * 13)).off + 12, none⟩ = some (.int .i64 ((qQc l1 x5_1).f12))) (ds := []) (qQj.fl 10 0) (by kernel_rfl) rfl rfl ⟨(hxb HB.out hw238_0), (hxb HB.out hw238_1), (hxb HB.out hw238_2), (hxb HB.out hw238_3), (hxb HB.out hw238_4), (hxb HB.out hw238_5), (hxb HB.out hw238_6), (hxb HB.out hw238_7), (hxb HB.out hw238_8), (hxb HB.out hw238_9), (hxb HB.out hw238_10), (hxb HB.out hw238_11), (hxb HB.out hw238_12), (hxb HB.out hw239_0), (hxb HB.out hw239_1), (hxb HB.out hw239_2), (hxb HB.out hw239_3), (hxb HB.out hw239_4), (hxb HB.out hw239_5), (hxb HB.out hw239_6), (hxb HB.out hw239_7), (hxb HB.out hw239_8), (hxb HB.out hw239_9), (hxb HB.out hw239_10), (hxb HB.out hw239_11), (hxb HB.out hw239_12)⟩ (fun hHeld => ?_); refine qYg qQj.tab6 qQj.bits6 (fun HT_ HW_ => ?_)
   generalize wr.drew = w11 at HB hx238_0 hx238_1 hx238_10 hx238_11 hx238_12 hx238_2 hx238_3 hx238_4 hx238_5 hx238_6 hx238_7 hx238_8 hx238_9 hx239_0 hx239_1 hx239_10 hx239_11 hx239_12 hx239_2 hx239_3 hx239_4 hx239_5 hx239_6 hx239_7 hx239_8 hx239_9 hHeld ⊢
   refine qQj.y 0 17 10 1 HT_.out ?_
   refine qQj.y 1 18 10 3 HT_.out ?_
   refine qQj.y 2 19 10 7 HT_.out ?_
   refine qQj.y 4 21 10 23 HT_.out ?_
   refine qQj.y 5 22 10 55 HT_.out ?_
   refine qQj.y 6 23 10 119 HT_.out ?_
   refine qQj.t 3 20 10 127 HT_.out HW_.out hHeld ?_
   refine qQj.t 7 24 10 255 HT_.out HW_.out hHeld ?_
   refine one_ (i := 8) (N := some 25) (qQj.fl 10 511) rfl rfl (qZ3 HT_.out (by kernel_rfl)) (by decide) (fun K hK => ?_)
   refine goes_ Try.func17 (by kernel_rfl) rfl #[.agg #[.int .i64 ((qQc l0 x5_1).f0), .int .i64 ((qQc l0 x5_1).f1), .int .i64 ((qQc l0 x5_1).f2), .int .i64 ((qQc l0 x5_1).f3), .int .i64 ((qQc l0 x5_1).f4), .int .i64 ((qQc l0 x5_1).f5), .bool ((qQc l0 x5_1).f6), .int .i64 ((qQc l0 x5_1).f7), .int .i64 ((qQc l0 x5_1).f8), .int .i64 ((qQc l0 x5_1).f9), .int .i64 ((qQc l0 x5_1).f10), .int .i64 ((qQc l0 x5_1).f11), .int .i64 ((qQc l0 x5_1).f12)], .agg #[.int .i64 ((qQc l1 x5_1).f0), .int .i64 ((qQc l1 x5_1).f1), .int .i64 ((qQc l1 x5_1).f2), .int .i64 ((qQc l1 x5_1).f3), .int .i64 ((qQc l1 x5_1).f4), .int .i64 ((qQc l1 x5_1).f5), .bool ((qQc l1 x5_1).f6), .int .i64 ((qQc l1 x5_1).f7), .int .i64 ((qQc l1 x5_1).f8), .int .i64 ((qQc l1 x5_1).f9), .int .i64 ((qQc l1 x5_1).f10), .int .i64 ((qQc l1 x5_1).f11), .int .i64 ((qQc l1 x5_1).f12)]] (by rfl) rfl rfl ml ?_
   with_reducible refine (qYf.calls ((qQc l0 x5_1).f0) ((qQc l0 x5_1).f1) ((qQc l0 x5_1).f2) ((qQc l0 x5_1).f3) ((qQc l0 x5_1).f4) ((qQc l0 x5_1).f5) ((qQc l0 x5_1).f6) ((qQc l0 x5_1).f7) ((qQc l0 x5_1).f8) ((qQc l0 x5_1).f9) ((qQc l0 x5_1).f10) ((qQc l0 x5_1).f11) ((qQc l0 x5_1).f12) ((qQc l1 x5_1).f0) ((qQc l1 x5_1).f1) ((qQc l1 x5_1).f2) ((qQc l1 x5_1).f3) ((qQc l1 x5_1).f4) ((qQc l1 x5_1).f5) ((qQc l1 x5_1).f6) ((qQc l1 x5_1).f7) ((qQc l1 x5_1).f8) ((qQc l1 x5_1).f9) ((qQc l1 x5_1).f10) ((qQc l1 x5_1).f11) ((qQc l1 x5_1).f12) false _ A7.out).mono ?_
   rintro e w12 ⟨rfl, hb⟩
   refine ⟨_, rfl, ?_⟩
   have n0_ := am (qQn (by exact h0q HB.out) hb)
   clear HB
   have HB := n0_
   clear n0_
   (try clear hb)
   (try clear hb2)
   (try clear hk)
   (try clear hi)
   refine hK.out _ _ ⟨(hxb HB.out hw238_0), (hxb HB.out hw238_1), (hxb HB.out hw238_2), (hxb HB.out hw238_3), (hxb HB.out hw238_4), (hxb HB.out hw238_5), (hxb HB.out hw238_6), (hxb HB.out hw238_7), (hxb HB.out hw238_8), (hxb HB.out hw238_9), (hxb HB.out hw238_10), (hxb HB.out hw238_11), (hxb HB.out hw238_12), (hxb HB.out hw239_0), (hxb HB.out hw239_1), (hxb HB.out hw239_2), (hxb HB.out hw239_3), (hxb HB.out hw239_4), (hxb HB.out hw239_5), (hxb HB.out hw239_6), (hxb HB.out hw239_7), (hxb HB.out hw239_8), (hxb HB.out hw239_9), (hxb HB.out hw239_10), (hxb HB.out hw239_11), (hxb HB.out hw239_12)⟩ (fun hHeld => ?_)
   clear hK K
   refine norm_ (a' := ?_) ?_ ?_
   rotate_left
   ·show Act.put _ (some 25) _ = _
    exact pu
   refine qQj.y 9 26 10 1023 HT_.out ?_
   refine done_ (qYw HT_.out (by kernel_rfl)) ?_
   try go_wp2
   go_ret
   exact ⟨er, by exact h0q HB.out⟩
  subst c8
  have H1 : (qQj.l0 k1 l0 l1 (wrap64 (x5_1 + 1))) = some r := by rw [if_pos rfl] at H; exact H
  clear H
  have H := H1
  clear H1
  have H' := am H
  clear H
  try go_wp2
  have n0_ := am (qZg HB.out)
  clear HB
  have HB := n0_
  clear n0_
  have p238 : 0 ≤ (x5_1 : Int) := yd
  have q238 : x5_1 < (l0.length : Int) := yd
  obtain ⟨ad238, e238, hx238_0, hx238_1, hx238_2, hx238_3, hx238_4, hx238_5, hx238_6, hx238_7, hx238_8, hx238_9, hx238_10, hx238_11, hx238_12⟩ := qYl HR0.out x5_1 p238 q238
  have hw238_12 := hx238_12
  have hw238_11 := hx238_11
  have hw238_10 := hx238_10
  have hw238_9 := hx238_9
  have hw238_8 := hx238_8
  have hw238_7 := hx238_7
  have hw238_6 := hx238_6
  have hw238_5 := hx238_5
  have hw238_4 := hx238_4
  have hw238_3 := hx238_3
  have hw238_2 := hx238_2
  have hw238_1 := hx238_1
  have hw238_0 := hx238_0
  cases e238
  replace hx238_0 := hxb HB.out hx238_0
  replace hx238_1 := hxb HB.out hx238_1
  replace hx238_2 := hxb HB.out hx238_2
  replace hx238_3 := hxb HB.out hx238_3
  replace hx238_4 := hxb HB.out hx238_4
  replace hx238_5 := hxb HB.out hx238_5
  replace hx238_6 := hxb HB.out hx238_6
  replace hx238_7 := hxb HB.out hx238_7
  replace hx238_8 := hxb HB.out hx238_8
  replace hx238_9 := hxb HB.out hx238_9
  replace hx238_10 := hxb HB.out hx238_10
  replace hx238_11 := hxb HB.out hx238_11
  replace hx238_12 := hxb HB.out hx238_12
  replace p238 := eq_true p238
  replace q238 := eq_true q238
  have p239 : 0 ≤ (x5_1 : Int) := yd
  have q239 : x5_1 < (l1.length : Int) := yd
  obtain ⟨ad239, e239, hx239_0, hx239_1, hx239_2, hx239_3, hx239_4, hx239_5, hx239_6, hx239_7, hx239_8, hx239_9, hx239_10, hx239_11, hx239_12⟩ := qYl HR1.out x5_1 p239 q239
  have hw239_12 := hx239_12
  have hw239_11 := hx239_11
  have hw239_10 := hx239_10
  have hw239_9 := hx239_9
  have hw239_8 := hx239_8
  have hw239_7 := hx239_7
  have hw239_6 := hx239_6
  have hw239_5 := hx239_5
  have hw239_4 := hx239_4
  have hw239_3 := hx239_3
  have hw239_2 := hx239_2
  have hw239_1 := hx239_1
  have hw239_0 := hx239_0
  cases e239
  replace hx239_0 := hxb HB.out hx239_0
  replace hx239_1 := hxb HB.out hx239_1
  replace hx239_2 := hxb HB.out hx239_2
  replace hx239_3 := hxb HB.out hx239_3
  replace hx239_4 := hxb HB.out hx239_4
  replace hx239_5 := hxb HB.out hx239_5
  replace hx239_6 := hxb HB.out hx239_6
  replace hx239_7 := hxb HB.out hx239_7
  replace hx239_8 := hxb HB.out hx239_8
  replace hx239_9 := hxb HB.out hx239_9
  replace hx239_10 := hxb HB.out hx239_10
  replace hx239_11 := hxb HB.out hx239_11
  replace hx239_12 := hxb HB.out hx239_12
  replace p239 := eq_true p239
  replace q239 := eq_true q239
  refine start_ (n := 10) (S := fun w' => w'.cell? (ad238.add ((x5_1).toNat * 13)) = some (.int .i64 ((qQc l0 x5_1).f0)) ∧ w'.cell? ⟨(ad238.add ((x5_1).toNat * 13)).block, (ad238.add ((x5_1).toNat * 13)).off + 1, none⟩ = some (.int .i64 ((qQc l0 x5_1).f1)) ∧ w'.cell? ⟨(ad238.add ((x5_1).toNat * 13)).block, (ad238.add ((x5_1).toNat * 13)).off + 2, none⟩ = some (.int .i64 ((qQc l0 x5_1).f2)) ∧ w'.cell? ⟨(ad238.add ((x5_1).toNat * 13)).block, (ad238.add ((x5_1).toNat * 13)).off + 3, none⟩ = some (.int .i64 ((qQc l0 x5_1).f3)) ∧ w'.cell? ⟨(ad238.add ((x5_1).toNat * 13)).block, (ad238.add ((x5_1).toNat * 13)).off + 4, none⟩ = some (.int .i64 ((qQc l0 x5_1).f4)) ∧ w'.cell? ⟨(ad238.add ((x5_1).toNat * 13)).block, (ad238.add ((x5_1).toNat * 13)).off + 5, none⟩ = some (.int .i64 ((qQc l0 x5_1).f5)) ∧ w'.cell? ⟨(ad238.add ((x5_1).toNat * 13)).block, (ad238.add ((x5_1).toNat * 13)).off + 6, none⟩ = some (.bool ((qQc l0 x5_1).f6)) ∧ w'.cell? ⟨(ad238.add ((x5_1).toNat * 13)).block, (ad238.add ((x5_1).toNat * 13)).off + 7, none⟩ = some (.int .i64 ((qQc l0 x5_1).f7)) ∧ w'.cell? ⟨(ad238.add ((x5_1).toNat * 13)).block, (ad238.add ((x5_1).toNat * 13)).off + 8, none⟩ = some (.int .i64 ((qQc l0 x5_1).f8)) ∧ w'.cell? ⟨(ad238.add ((x5_1).toNat * 13)).block, (ad238.add ((x5_1).toNat * 13)).off + 9, none⟩ = some (.int .i64 ((qQc l0 x5_1).f9)) ∧ w'.cell? ⟨(ad238.add ((x5_1).toNat * 13)).block, (ad238.add ((x5_1).toNat * 13)).off + 10, none⟩ = some (.int .i64 ((qQc l0 x5_1).f10)) ∧ w'.cell? ⟨(ad238.add ((x5_1).toNat * 13)).block, (ad238.add ((x5_1).toNat * 13)).off + 11, none⟩ = some (.int .i64 ((qQc l0 x5_1).f11)) ∧ w'.cell? ⟨(ad238.add ((x5_1).toNat * 13)).block, (ad238.add ((x5_1).toNat * 13)).off + 12, none⟩ = some (.int .i64 ((qQc l0 x5_1).f12)) ∧ w'.cell? (ad239.add ((x5_1).toNat * 13)) = some (.int .i64 ((qQc l1 x5_1).f0)) ∧ w'.cell? ⟨(ad239.add ((x5_1).toNat * 13)).block, (ad239.add ((x5_1).toNat * 13)).off + 1, none⟩ = some (.int .i64 ((qQc l1 x5_1).f1)) ∧ w'.cell? ⟨(ad239.add ((x5_1).toNat * 13)).block, (ad239.add ((x5_1).toNat * 13)).off + 2, none⟩ = some (.int .i64 ((qQc l1 x5_1).f2)) ∧ w'.cell? ⟨(ad239.add ((x5_1).toNat * 13)).block, (ad239.add ((x5_1).toNat * 13)).off + 3, none⟩ = some (.int .i64 ((qQc l1 x5_1).f3)) ∧ w'.cell? ⟨(ad239.add ((x5_1).toNat * 13)).block, (ad239.add ((x5_1).toNat * 13)).off + 4, none⟩ = some (.int .i64 ((qQc l1 x5_1).f4)) ∧ w'.cell? ⟨(ad239.add ((x5_1).toNat * 13)).block, (ad239.add ((x5_1).toNat * 13)).off + 5, none⟩ = some (.int .i64 ((qQc l1 x5_1).f5)) ∧ w'.cell? ⟨(ad239.add ((x5_1).toNat * 13)).block, (ad239.add ((x5_1).toNat * 13)).off + 6, none⟩ = some (.bool ((qQc l1 x5_1).f6)) ∧ w'.cell? ⟨(ad239.add ((x5_1).toNat * 13)).block, (ad239.add ((x5_1).toNat * 13)).off + 7, none⟩ = some (.int .i64 ((qQc l1 x5_1).f7)) ∧ w'.cell? ⟨(ad239.add ((x5_1).toNat * 13)).block, (ad239.add ((x5_1).toNat * 13)).off + 8, none⟩ = some (.int .i64 ((qQc l1 x5_1).f8)) ∧ w'.cell? ⟨(ad239.add ((x5_1).toNat * 13)).block, (ad239.add ((x5_1).toNat * 13)).off + 9, none⟩ = some (.int .i64 ((qQc l1 x5_1).f9)) ∧ w'.cell? ⟨(ad239.add ((x5_1).toNat * 13)).block, (ad239.add ((x5_1).toNat * 13)).off + 10, none⟩ = some (.int .i64 ((qQc l1 x5_1).f10)) ∧ w'.cell? ⟨(ad239.add ((x5_1).toNat * 13)).block, (ad239.add ((x5_1).toNat * 13)).off + 11, none⟩ = some (.int .i64 ((qQc l1 x5_1).f11)) ∧ w'.cell? ⟨(ad239.add ((x5_1).toNat * 13)).block, (ad239.add ((x5_1).toNat * 13)).off + 12, none⟩ = some (.int .i64 ((qQc l1 x5_1).f12))) (ds := []) (qQj.fl 10 0) (by kernel_rfl) rfl rfl ⟨(hxb HB.out hw238_0), (hxb HB.out hw238_1), (hxb HB.out hw238_2), (hxb HB.out hw238_3), (hxb HB.out hw238_4), (hxb HB.out hw238_5), (hxb HB.out hw238_6), (hxb HB.out hw238_7), (hxb HB.out hw238_8), (hxb HB.out hw238_9), (hxb HB.out hw238_10), (hxb HB.out hw238_11), (hxb HB.out hw238_12), (hxb HB.out hw239_0), (hxb HB.out hw239_1), (hxb HB.out hw239_2), (hxb HB.out hw239_3), (hxb HB.out hw239_4), (hxb HB.out hw239_5), (hxb HB.out hw239_6), (hxb HB.out hw239_7), (hxb HB.out hw239_8), (hxb HB.out hw239_9), (hxb HB.out hw239_10), (hxb HB.out hw239_11), (hxb HB.out hw239_12)⟩ (fun hHeld => ?_); refine qYg qQj.tab6 qQj.bits6 (fun HT_ HW_ => ?_)
  generalize wr.drew = w9 at HB hx238_0 hx238_1 hx238_10 hx238_11 hx238_12 hx238_2 hx238_3 hx238_4 hx238_5 hx238_6 hx238_7 hx238_8 hx238_9 hx239_0 hx239_1 hx239_10 hx239_11 hx239_12 hx239_2 hx239_3 hx239_4 hx239_5 hx239_6 hx239_7 hx239_8 hx239_9 hHeld ⊢
  refine qQj.y 0 17 10 1 HT_.out ?_
  refine qQj.y 1 18 10 3 HT_.out ?_
  refine qQj.y 2 19 10 7 HT_.out ?_
  refine qQj.y 4 21 10 23 HT_.out ?_
  refine qQj.y 5 22 10 55 HT_.out ?_
  refine qQj.y 6 23 10 119 HT_.out ?_
  refine qQj.t 3 20 10 127 HT_.out HW_.out hHeld ?_
  refine qQj.t 7 24 10 255 HT_.out HW_.out hHeld ?_
  refine one_ (i := 8) (N := some 25) (qQj.fl 10 511) rfl rfl (qZ3 HT_.out (by kernel_rfl)) (by decide) (fun K hK => ?_)
  refine goes_ Try.func17 (by kernel_rfl) rfl #[.agg #[.int .i64 ((qQc l0 x5_1).f0), .int .i64 ((qQc l0 x5_1).f1), .int .i64 ((qQc l0 x5_1).f2), .int .i64 ((qQc l0 x5_1).f3), .int .i64 ((qQc l0 x5_1).f4), .int .i64 ((qQc l0 x5_1).f5), .bool ((qQc l0 x5_1).f6), .int .i64 ((qQc l0 x5_1).f7), .int .i64 ((qQc l0 x5_1).f8), .int .i64 ((qQc l0 x5_1).f9), .int .i64 ((qQc l0 x5_1).f10), .int .i64 ((qQc l0 x5_1).f11), .int .i64 ((qQc l0 x5_1).f12)], .agg #[.int .i64 ((qQc l1 x5_1).f0), .int .i64 ((qQc l1 x5_1).f1), .int .i64 ((qQc l1 x5_1).f2), .int .i64 ((qQc l1 x5_1).f3), .int .i64 ((qQc l1 x5_1).f4), .int .i64 ((qQc l1 x5_1).f5), .bool ((qQc l1 x5_1).f6), .int .i64 ((qQc l1 x5_1).f7), .int .i64 ((qQc l1 x5_1).f8), .int .i64 ((qQc l1 x5_1).f9), .int .i64 ((qQc l1 x5_1).f10), .int .i64 ((qQc l1 x5_1).f11), .int .i64 ((qQc l1 x5_1).f12)]] (by rfl) rfl rfl ml ?_
  with_reducible refine (qYf.calls ((qQc l0 x5_1).f0) ((qQc l0 x5_1).f1) ((qQc l0 x5_1).f2) ((qQc l0 x5_1).f3) ((qQc l0 x5_1).f4) ((qQc l0 x5_1).f5) ((qQc l0 x5_1).f6) ((qQc l0 x5_1).f7) ((qQc l0 x5_1).f8) ((qQc l0 x5_1).f9) ((qQc l0 x5_1).f10) ((qQc l0 x5_1).f11) ((qQc l0 x5_1).f12) ((qQc l1 x5_1).f0) ((qQc l1 x5_1).f1) ((qQc l1 x5_1).f2) ((qQc l1 x5_1).f3) ((qQc l1 x5_1).f4) ((qQc l1 x5_1).f5) ((qQc l1 x5_1).f6) ((qQc l1 x5_1).f7) ((qQc l1 x5_1).f8) ((qQc l1 x5_1).f9) ((qQc l1 x5_1).f10) ((qQc l1 x5_1).f11) ((qQc l1 x5_1).f12) true _ A7.out).mono ?_
  rintro e w10 ⟨rfl, hb⟩
  refine ⟨_, rfl, ?_⟩
  have n0_ := am (qQn (by exact h0q HB.out) hb)
  clear HB
  have HB := n0_
  clear n0_
  (try clear hb)
  (try clear hb2)
  (try clear hk)
  (try clear hi)
  refine hK.out _ _ ⟨(hxb HB.out hw238_0), (hxb HB.out hw238_1), (hxb HB.out hw238_2), (hxb HB.out hw238_3), (hxb HB.out hw238_4), (hxb HB.out hw238_5), (hxb HB.out hw238_6), (hxb HB.out hw238_7), (hxb HB.out hw238_8), (hxb HB.out hw238_9), (hxb HB.out hw238_10), (hxb HB.out hw238_11), (hxb HB.out hw238_12), (hxb HB.out hw239_0), (hxb HB.out hw239_1), (hxb HB.out hw239_2), (hxb HB.out hw239_3), (hxb HB.out hw239_4), (hxb HB.out hw239_5), (hxb HB.out hw239_6), (hxb HB.out hw239_7), (hxb HB.out hw239_8), (hxb HB.out hw239_9), (hxb HB.out hw239_10), (hxb HB.out hw239_11), (hxb HB.out hw239_12)⟩ (fun hHeld => ?_)
  clear hK K
  refine norm_ (a' := ?_) ?_ ?_
  rotate_left
  ·show Act.put _ (some 25) _ = _
   exact pu
  refine qQj.y 9 26 10 1023 HT_.out ?_
  refine done_ (qYw HT_.out (by kernel_rfl)) ?_
  try go_wp2
  go_roundg k1
  case measure => have := HK1.out; omega
  case rel => exact ⟨(wrap64 (x5_1 + 1)), (by first | rfl | (simp; done) | (simp [*]; done)), H', ⟨by have := HK1.out; omega⟩, ⟨by exact h0q HB.out⟩⟩
end Go.Proofs.Yteemomncbcpdjaa.P
