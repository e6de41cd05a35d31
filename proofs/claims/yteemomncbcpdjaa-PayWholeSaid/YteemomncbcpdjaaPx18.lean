/- Functions of the program as plain Lean functions, and proofs that its calls come to just their answers, where they tell one (written by a program of this session). -/
import Derived.Test.YteemomncbcpdjaaZaa
import Derived.Test.YteemomncbcpdjaaPx0
import Derived.Test.YteemomncbcpdjaaPx8
import Derived.Test.YteemomncbcpdjaaPx9
import Derived.Test.YteemomncbcpdjaaPx13
import Derived.Test.YteemomncbcpdjaaPx15
import Derived.Test.YteemomncbcpdjaaPx16
namespace Go.Proofs.Yteemomncbcpdjaa.P
open Go.RowKit Go.Proofs.YteemomncbcpdjaaW.PrintWords Go.Proofs.YteemomncbcpdjaaW.PrintLast Go.Proofs.YteemomncbcpdjaaW.PrintMore
attribute [local go_sem] max2_int min2_int max_two min_two max_three min_three max_four min_four   -- for this text's walks alone
set_option linter.unusedVariables false
set_option linter.unusedSimpArgs false

/-! ### annuitylaw20_PayWhole: function 4 -/
def annuitylaw20_PayWhole.l0 : Nat → List (S43) → Int → List (S43) → Int → Int → Int → Int → Int → Int → Option (Bool)
 | 0, _, _, _, _, _, _, _, _, _ => none
 | k + 1, x0, x1, x5, x8, x9, x299000, x299001, x299002, x299003 => if x9 < (x5.length : Int) then (if 0 ≤ x9 then (if x9 < (x0.length : Int) then ((annuityref14_Owes.f k ((rd_T43 x0 x9).f0) ((rd_T43 x0 x9).f1) ((rd_T43 x0 x9).f2) ((rd_T43 x0 x9).f3) ((rd_T43 x0 x9).f4) ((rd_T43 x0 x9).f5) ((rd_T43 x0 x9).f6) ((rd_T43 x0 x9).f7) ((rd_T43 x0 x9).f8) ((rd_T43 x0 x9).f9) ((rd_T43 x0 x9).f10) ((rd_T43 x0 x9).f11) ((rd_T43 x0 x9).f12)).bind fun bt302 => ((annuityref14_Owes.f k ((rd_T43 x5 x9).f0) ((rd_T43 x5 x9).f1) ((rd_T43 x5 x9).f2) ((rd_T43 x5 x9).f3) ((rd_T43 x5 x9).f4) ((rd_T43 x5 x9).f5) ((rd_T43 x5 x9).f6) ((rd_T43 x5 x9).f7) ((rd_T43 x5 x9).f8) ((rd_T43 x5 x9).f9) ((rd_T43 x5 x9).f10) ((rd_T43 x5 x9).f11) ((rd_T43 x5 x9).f12)).bind fun bt305 => (if bt302.2 = 0 then (if bt305.2 = 0 then (if bt305.1 > bt302.1 then (none) else (if x299003 > 0 then (if bt305.1 > 0 then (none) else (if x299002 > 0 then (if ((rd_T43 x5 x9).f4) > 0 then (none) else (if ((rd_T43 x5 x9).f2) ≥ 1000000 then (none) else (if ((rd_T43 x0 x9).f8) = 0 then (annuitylaw20_PayWhole.l0 k x0 x1 x5 (wrap64 (x8 + (wrap64 (bt302.1 - bt305.1)))) (wrap64 (x9 + 1)) x299000 x299001 x299002 x299003) else ((annuitykeep_Loan.f ((rd_T43 x5 x9).f0) ((rd_T43 x5 x9).f1) ((rd_T43 x5 x9).f2) ((rd_T43 x5 x9).f3) ((rd_T43 x5 x9).f4) ((rd_T43 x5 x9).f5) ((rd_T43 x5 x9).f6) ((rd_T43 x5 x9).f7) ((rd_T43 x5 x9).f8) ((rd_T43 x5 x9).f9) ((rd_T43 x5 x9).f10) ((rd_T43 x5 x9).f11) ((rd_T43 x5 x9).f12) ((rd_T43 x0 x9).f0) ((rd_T43 x0 x9).f1) ((rd_T43 x0 x9).f2) ((rd_T43 x0 x9).f3) ((rd_T43 x0 x9).f4) ((rd_T43 x0 x9).f5) ((rd_T43 x0 x9).f6) ((rd_T43 x0 x9).f7) ((rd_T43 x0 x9).f8) ((rd_T43 x0 x9).f9) ((rd_T43 x0 x9).f10) ((rd_T43 x0 x9).f11) ((rd_T43 x0 x9).f12)).bind fun t313 => (if t313 = true then (annuitylaw20_PayWhole.l0 k x0 x1 x5 (wrap64 (x8 + (wrap64 (bt302.1 - bt305.1)))) (wrap64 (x9 + 1)) x299000 x299001 x299002 x299003) else (none)))))) else (if ((rd_T43 x0 x9).f8) = 0 then (annuitylaw20_PayWhole.l0 k x0 x1 x5 (wrap64 (x8 + (wrap64 (bt302.1 - bt305.1)))) (wrap64 (x9 + 1)) x299000 x299001 x299002 x299003) else ((annuitykeep_Loan.f ((rd_T43 x5 x9).f0) ((rd_T43 x5 x9).f1) ((rd_T43 x5 x9).f2) ((rd_T43 x5 x9).f3) ((rd_T43 x5 x9).f4) ((rd_T43 x5 x9).f5) ((rd_T43 x5 x9).f6) ((rd_T43 x5 x9).f7) ((rd_T43 x5 x9).f8) ((rd_T43 x5 x9).f9) ((rd_T43 x5 x9).f10) ((rd_T43 x5 x9).f11) ((rd_T43 x5 x9).f12) ((rd_T43 x0 x9).f0) ((rd_T43 x0 x9).f1) ((rd_T43 x0 x9).f2) ((rd_T43 x0 x9).f3) ((rd_T43 x0 x9).f4) ((rd_T43 x0 x9).f5) ((rd_T43 x0 x9).f6) ((rd_T43 x0 x9).f7) ((rd_T43 x0 x9).f8) ((rd_T43 x0 x9).f9) ((rd_T43 x0 x9).f10) ((rd_T43 x0 x9).f11) ((rd_T43 x0 x9).f12)).bind fun t317 => (if t317 = true then (annuitylaw20_PayWhole.l0 k x0 x1 x5 (wrap64 (x8 + (wrap64 (bt302.1 - bt305.1)))) (wrap64 (x9 + 1)) x299000 x299001 x299002 x299003) else (none)))))) else (if x299002 > 0 then (if ((rd_T43 x5 x9).f4) > 0 then (none) else (if ((rd_T43 x5 x9).f2) ≥ 1000000 then (none) else (if ((rd_T43 x0 x9).f8) = 0 then (annuitylaw20_PayWhole.l0 k x0 x1 x5 (wrap64 (x8 + (wrap64 (bt302.1 - bt305.1)))) (wrap64 (x9 + 1)) x299000 x299001 x299002 x299003) else ((annuitykeep_Loan.f ((rd_T43 x5 x9).f0) ((rd_T43 x5 x9).f1) ((rd_T43 x5 x9).f2) ((rd_T43 x5 x9).f3) ((rd_T43 x5 x9).f4) ((rd_T43 x5 x9).f5) ((rd_T43 x5 x9).f6) ((rd_T43 x5 x9).f7) ((rd_T43 x5 x9).f8) ((rd_T43 x5 x9).f9) ((rd_T43 x5 x9).f10) ((rd_T43 x5 x9).f11) ((rd_T43 x5 x9).f12) ((rd_T43 x0 x9).f0) ((rd_T43 x0 x9).f1) ((rd_T43 x0 x9).f2) ((rd_T43 x0 x9).f3) ((rd_T43 x0 x9).f4) ((rd_T43 x0 x9).f5) ((rd_T43 x0 x9).f6) ((rd_T43 x0 x9).f7) ((rd_T43 x0 x9).f8) ((rd_T43 x0 x9).f9) ((rd_T43 x0 x9).f10) ((rd_T43 x0 x9).f11) ((rd_T43 x0 x9).f12)).bind fun t323 => (if t323 = true then (annuitylaw20_PayWhole.l0 k x0 x1 x5 (wrap64 (x8 + (wrap64 (bt302.1 - bt305.1)))) (wrap64 (x9 + 1)) x299000 x299001 x299002 x299003) else (none)))))) else (if ((rd_T43 x0 x9).f8) = 0 then (annuitylaw20_PayWhole.l0 k x0 x1 x5 (wrap64 (x8 + (wrap64 (bt302.1 - bt305.1)))) (wrap64 (x9 + 1)) x299000 x299001 x299002 x299003) else ((annuitykeep_Loan.f ((rd_T43 x5 x9).f0) ((rd_T43 x5 x9).f1) ((rd_T43 x5 x9).f2) ((rd_T43 x5 x9).f3) ((rd_T43 x5 x9).f4) ((rd_T43 x5 x9).f5) ((rd_T43 x5 x9).f6) ((rd_T43 x5 x9).f7) ((rd_T43 x5 x9).f8) ((rd_T43 x5 x9).f9) ((rd_T43 x5 x9).f10) ((rd_T43 x5 x9).f11) ((rd_T43 x5 x9).f12) ((rd_T43 x0 x9).f0) ((rd_T43 x0 x9).f1) ((rd_T43 x0 x9).f2) ((rd_T43 x0 x9).f3) ((rd_T43 x0 x9).f4) ((rd_T43 x0 x9).f5) ((rd_T43 x0 x9).f6) ((rd_T43 x0 x9).f7) ((rd_T43 x0 x9).f8) ((rd_T43 x0 x9).f9) ((rd_T43 x0 x9).f10) ((rd_T43 x0 x9).f11) ((rd_T43 x0 x9).f12)).bind fun t327 => (if t327 = true then (annuitylaw20_PayWhole.l0 k x0 x1 x5 (wrap64 (x8 + (wrap64 (bt302.1 - bt305.1)))) (wrap64 (x9 + 1)) x299000 x299001 x299002 x299003) else (none))))))) else ((annuitylaw20_wakes.f k).bind fun t307 => (some t307))) else ((annuitylaw20_wakes.f k).bind fun t328 => (some t328))))) else (none)) else (none)) else (if x8 = (wrap64 (x1 - x299003)) then ((annuitylaw20_wakes.f k).bind fun t300 => (some t300)) else (none))
def annuitylaw20_PayWhole.f (k : Nat) (l0 : List (S43)) (a1 : Int) : Option (Bool) := if (l0.length : Int) > 100 then ((annuitylaw20_wakes.f k).bind fun t286 => (some t286)) else ((annuitykeep_CopyLoans.f l0).bind fun t287 => ((pay_All.f k t287 a1).bind fun bt290 => (if bt290.2.2.2.2.2 = 0 then (if (bt290.1.length : Int) = (l0.length : Int) then (if bt290.2.1 < 0 then (none) else (if bt290.2.2.1 < 0 then (none) else (if bt290.2.2.2.1 < 0 then (none) else (if bt290.2.2.2.2.1 < 0 then (none) else (if (wrap64 ((wrap64 ((wrap64 (bt290.2.1 + bt290.2.2.1)) + bt290.2.2.2.1)) + bt290.2.2.2.2.1)) = a1 then (annuitylaw20_PayWhole.l0 k l0 a1 bt290.1 0 0 bt290.2.1 bt290.2.2.1 bt290.2.2.2.1 bt290.2.2.2.2.1) else (none)))))) else (none)) else (if (bt290.1.length : Int) = 0 then (if bt290.2.2.2.2.1 = 0 then ((annuitylaw20_wakes.f k).bind fun t299 => (some t299)) else (none)) else (none)))))
def annuitylaw20_PayWhole.T18 : Bool × List (List Nat × List Nat) := (true, [([], []), ([], []), ([0, 1], [0, 1]), ([2], [2]), ([3], [3]), ([4], [4]), ([5], [5]), ([6], [6]), ([6], [6]), ([7, 8, 6], [6, 7, 8]), ([9, 6], [6, 9]), ([6], [6]), ([6], [6]), ([11, 12, 6], [6, 11, 12]), ([13, 6], [6, 13]), ([10, 14, 6, 6], [6, 10, 14]), ([15, 6], [6, 15]), ([6, 16], [6, 16])])
def annuitylaw20_PayWhole.B18 : List Nat := [0, 0, 3, 7, 15, 31, 63, 127, 127, 511, 1023, 127, 127, 6271, 14463, 32767, 65535, 131071]
theorem annuitylaw20_PayWhole.tab18 : rtab .any (opsOf Try.f4 18) = annuitylaw20_PayWhole.T18 := by kernel_rfl
theorem annuitylaw20_PayWhole.bits18 : waitsOk annuitylaw20_PayWhole.T18.2 annuitylaw20_PayWhole.B18 = true := by kernel_rfl
section
variable {P : Program} {ops : Array Oper} {Q : Exit → Act → World → Prop} {S : World → Prop} {ds : List Nat} {fuel : Nat} {a a' : Act} {w : World} {oi : Oper} {v : Value} {T : Bool × List (List Nat × List Nat)} {B : List Nat}
/-- Which ones have come up, as the bits of a number. -/
def annuitylaw20_PayWhole.fl (n m : Nat) : Array Bool := ((List.range n).map fun j => m.testBit j).toArray
theorem annuitylaw20_PayWhole.y (i N n m : Nat) {l : Array Bool} (hT : rtab .any ops = T) (h : wpAnyLast P .any ops Q S ds fuel (annuitylaw20_PayWhole.fl n m) a' w)
  (hi : ops[i]? = some oi := by rfl) (hN : oi.dst = some N := by rfl) (hc : anyT T l.toList (annuitylaw20_PayWhole.fl n m).toList i = true := by kernel_rfl)
  (hQ : ∀ c a w, Q (.panic c) (a.put oi.dst v) w → Q (.panic c) a w := by exact fun _ _ _ h => h) (hw : Region.wanted oi (yielded ops a.tmps) = true := by rfl)
  (hy : ∀ w, (execOp a.eval oi).run P w = .ok (.value v) w := by (intro w'; go_simp; with_reducible rfl)) (ha : a.put (some N) v = a' := by (simp only [Act.put, List.setIfInBounds_toArray, List.set_cons_zero, List.set_cons_succ, i64_w, i32_w]; rfl)) :
  wpAnyLast P .any ops Q S ds (fuel + 1) l a w := pure_ (N := some N) (annuitylaw20_PayWhole.fl n m) hi hN (any_of hT hc) hQ (Or.inl ⟨hw, hy⟩) ha h
theorem annuitylaw20_PayWhole.g (i N n m : Nat) {l : Array Bool} (hT : rtab .any ops = T) (h : wpAnyLast P .any ops Q S ds fuel (annuitylaw20_PayWhole.fl n m) a' w)
  (hi : ops[i]? = some oi := by rfl) (hN : oi.dst = some N := by rfl) (hc : anyT T l.toList (annuitylaw20_PayWhole.fl n m).toList i = true := by kernel_rfl)
  (hQ : ∀ c a w, Q (.panic c) (a.put oi.dst undef) w → Q (.panic c) a w := by exact fun _ _ _ h => h) (hw : Region.wanted oi (yielded ops a.tmps) = false := by rfl)
  (ha : a.put (some N) undef = a' := by (simp only [Act.put, List.setIfInBounds_toArray, List.set_cons_zero, List.set_cons_succ, i64_w, i32_w]; rfl)) :
  wpAnyLast P .any ops Q S ds (fuel + 1) l a w := pure_ (N := some N) (annuitylaw20_PayWhole.fl n m) hi hN (any_of hT hc) hQ (Or.inr ⟨hw, rfl⟩) ha h
theorem annuitylaw20_PayWhole.t (i N n m : Nat) {l : Array Bool} (hT : rtab .any ops = T) (hB : waitsOk T.2 B = true) (hS : S w) (h : wpAnyLast P .any ops Q S ds fuel (annuitylaw20_PayWhole.fl n m) a' w)
  (hi : ops[i]? = some oi := by rfl) (hN : oi.dst = some N := by rfl) (hc : takeW T B ds l.toList (annuitylaw20_PayWhole.fl n m).toList i = true := by kernel_rfl)
  (hQ : ∀ c a w, Q (.panic c) (a.put oi.dst v) w → Q (.panic c) a w := by exact fun _ _ _ h => h) (hw : Region.wanted oi (yielded ops a.tmps) = true := by rfl)
  (hy : ∀ w, S w → (execOp a.eval oi).run P w = .ok (.value v) w := by (intro w' hs_; (try dsimp only at hs_); go_simp; with_reducible rfl)) (ha : a.put (some N) v = a' := by (simp only [Act.put, List.setIfInBounds_toArray, List.set_cons_zero, List.set_cons_succ, i64_w, i32_w]; rfl)) :
  wpAnyLast P .any ops Q S ds (fuel + 1) l a w := take_ (N := some N) (annuitylaw20_PayWhole.fl n m) hi hN (take_ofW hT hB hc) hQ (Or.inl ⟨hw, hy⟩) hS ha h
end
set_option maxHeartbeats 100000000 in
set_option maxRecDepth 100000 in
theorem annuitylaw20_PayWhole.calls (k : Nat) (A0 : Option Addr) (c0 : Nat) (l0 : List (S43)) (a1 : Int) (r : Bool) (w : World) (hr0 : Kd.C k43 w A0 l0.length l0) (hc0 : l0.length ≤ c0) (h : annuitylaw20_PayWhole.f k l0 a1 = some r) :
  Calls Try.prog 4 #[.slice A0 l0.length c0, .int .i64 a1] w fun e w' => e = .returned (.bool r) ∧ Below w.heap.size w w' := by
 have hu26 := Try.underlying26
 have hu43 := Try.underlying43
 have HR0 := Aside0.mk hr0
 have HC0 := Aside0.mk hc0
 clear hr0 hc0
 have HB := Aside0.mk (Below.refl w.heap.size w)
 have H : (if (l0.length : Int) > 100 then ((annuitylaw20_wakes.f k).bind fun t286 => (some t286)) else ((annuitykeep_CopyLoans.f l0).bind fun t287 => ((pay_All.f k t287 a1).bind fun bt290 => (if bt290.2.2.2.2.2 = 0 then (if (bt290.1.length : Int) = (l0.length : Int) then (if bt290.2.1 < 0 then (none) else (if bt290.2.2.1 < 0 then (none) else (if bt290.2.2.2.1 < 0 then (none) else (if bt290.2.2.2.2.1 < 0 then (none) else (if (wrap64 ((wrap64 ((wrap64 (bt290.2.1 + bt290.2.2.1)) + bt290.2.2.2.1)) + bt290.2.2.2.2.1)) = a1 then (annuitylaw20_PayWhole.l0 k l0 a1 bt290.1 0 0 bt290.2.1 bt290.2.2.1 bt290.2.2.2.1 bt290.2.2.2.2.1) else (none)))))) else (none)) else (if (bt290.1.length : Int) = 0 then (if bt290.2.2.2.2.1 = 0 then ((annuitylaw20_wakes.f k).bind fun t299 => (some t299)) else (none)) else (none)))))) = some r := h
 clear h
 by_cases c3 : (l0.length : Int) > 100
 ·rw [if_pos c3] at H
  have c3b0 : decide (100 < (l0.length : Int)) = true := decide_eq_true c3
  have c3b1 : decide (100 < l0.length) = true := decide_eq_true (by omega)
  clear c3
  replace H := Option.bind_eq_some_iff.mp H
  obtain ⟨t286, A40, H⟩ := H
  replace H : (some t286) = some r := H
  have A4 := Aside0.mk A40
  clear A40
  obtain rfl := Option.some.inj H
  go_enter Try.func4, Try.ntmps4
  go_wp2_with (first | ((with_reducible refine gate_callee (f := 7) rfl ?_); refine goesL_ (some 17) rfl rfl Try.func7 (by kernel_rfl) rfl #[] rfl (by (try simp only [List.map_toArray, List.map_cons, List.map_nil]); first | done | rfl | (simp only [List.length_drop, List.length_take]; rfl)) ?_; (with_reducible refine (annuitylaw20_wakes.calls k  t286 _ A4.out).mono ?_); rintro e w5 ⟨rfl, hb⟩; refine ⟨_, rfl, ?_⟩; have n0_ := Aside0.mk (below_step (by exact h0q HB.out) hb); clear HB; have HB := n0_; clear n0_; (try clear hb); (try clear hb2); (try clear hk); (try clear hi)))
  go_ret
  exact ⟨by first | rfl | (simp [errW_none, errW_some] <;> rfl) | (simp [*, errW_none, errW_some] <;> rfl), by exact h0q HB.out⟩
 rw [if_neg c3] at H
 have c3b0 : decide (100 < (l0.length : Int)) = false := decide_eq_false c3
 have c3b1 : decide (100 < l0.length) = false := decide_eq_false (by omega)
 clear c3
 replace H := Option.bind_eq_some_iff.mp H
 obtain ⟨t287, A60, H⟩ := H
 replace H : ((pay_All.f k t287 a1).bind fun bt290 => (if bt290.2.2.2.2.2 = 0 then (if (bt290.1.length : Int) = (l0.length : Int) then (if bt290.2.1 < 0 then (none) else (if bt290.2.2.1 < 0 then (none) else (if bt290.2.2.2.1 < 0 then (none) else (if bt290.2.2.2.2.1 < 0 then (none) else (if (wrap64 ((wrap64 ((wrap64 (bt290.2.1 + bt290.2.2.1)) + bt290.2.2.2.1)) + bt290.2.2.2.2.1)) = a1 then (annuitylaw20_PayWhole.l0 k l0 a1 bt290.1 0 0 bt290.2.1 bt290.2.2.1 bt290.2.2.2.1 bt290.2.2.2.2.1) else (none)))))) else (none)) else (if (bt290.1.length : Int) = 0 then (if bt290.2.2.2.2.1 = 0 then ((annuitylaw20_wakes.f k).bind fun t299 => (some t299)) else (none)) else (none)))) = some r := H
 have A6 := Aside0.mk A60
 clear A60
 replace H := Option.bind_eq_some_iff.mp H
 obtain ⟨⟨t290, t293, t294, t295, t296, t297⟩, A70, H⟩ := H
 replace H : (if t297 = 0 then (if (t290.length : Int) = (l0.length : Int) then (if t293 < 0 then (none) else (if t294 < 0 then (none) else (if t295 < 0 then (none) else (if t296 < 0 then (none) else (if (wrap64 ((wrap64 ((wrap64 (t293 + t294)) + t295)) + t296)) = a1 then (annuitylaw20_PayWhole.l0 k l0 a1 t290 0 0 t293 t294 t295 t296) else (none)))))) else (none)) else (if (t290.length : Int) = 0 then (if t296 = 0 then ((annuitylaw20_wakes.f k).bind fun t299 => (some t299)) else (none)) else (none))) = some r := H
 have A7 := Aside0.mk A70
 clear A70
 by_cases c8 : t297 = 0
 case neg =>
  rw [if_neg c8] at H
  have c8b0 : (t297 == 0) = false := beq_eq_false_iff_ne.mpr c8
  have c8b1 : (t297 != 0) = true := bne_iff_ne.mpr c8
  by_cases c97 : (t290.length : Int) = 0
  case neg =>
   rw [if_neg c97] at H
   exact absurd H (by simp)

  rw [if_pos c97] at H
  have c97b0 : ((t290.length : Int) == 0) = true := beq_iff_eq.mpr c97
  have c97b1 : ((t290.length : Int) != 0) = false := bne_eq_false_iff_eq.mpr c97
  clear c97
  by_cases c98 : t296 = 0
  case neg =>
   rw [if_neg c98] at H
   exact absurd H (by simp)
  rw [if_pos c98] at H
  have c98b0 : (t296 == 0) = true := beq_iff_eq.mpr c98
  have c98b1 : (t296 != 0) = false := bne_eq_false_iff_eq.mpr c98
  clear c98
  replace H := Option.bind_eq_some_iff.mp H
  obtain ⟨t299, A990, H⟩ := H
  replace H : (some t299) = some r := H
  have A99 := Aside0.mk A990
  clear A990
  obtain rfl := Option.some.inj H
  go_enter Try.func4, Try.ntmps4
  go_wp2_with (first | ((with_reducible refine gate_callee (f := 8) rfl ?_); refine goesL_ (some 20) rfl rfl Try.func8 (by kernel_rfl) rfl #[.slice A0 l0.length c0] rfl (by (try simp only [List.map_toArray, List.map_cons, List.map_nil]); first | done | rfl | (simp only [List.length_drop, List.length_take]; rfl)) ?_; (with_reducible refine (annuitykeep_CopyLoans.calls _ _ l0 t287 _ ?side1 ?side2 A6.out).mono ?_); (case side1 => repeat (first | exact HR0.out | (with_reducible refine Kd.C_alloc ?_ _) | (with_reducible refine Kd.C_drewN ?_ _) | (with_reducible refine Kd.C_drew ?_))); (case side2 => exact HC0.out); rintro e w100 ⟨v288, rfl, ho0, hb⟩; refine ⟨_, rfl, ?_⟩; have n0_ := Aside0.mk (Kd.R_lower ho0 (below_size (by exact h0q HB.out))); have n1_ := Aside0.mk (below_step (by exact h0q HB.out) hb); clear HB; have HO289 := n0_; have HB := n1_; clear n0_ n1_; (try clear hb); (try clear hb2); (try clear hk); (try clear hi); (try clear ho0); obtain ⟨Ao101, co101, eo101⟩ := Kd.R_slice HO289.out; subst eo101) | ((with_reducible refine gate_callee (f := 9) rfl ?_); refine goesL_ (some 22) rfl rfl Try.func9 (by kernel_rfl) rfl #[.slice Ao101 t287.length co101, .int .i64 a1] rfl (by (try simp only [List.map_toArray, List.map_cons, List.map_nil]); first | done | rfl | (simp only [List.length_drop, List.length_take]; rfl)) ?_; (with_reducible refine (pay_All.calls k _ _ t287 a1 t290 t293 t294 t295 t296 t297 _ ?side1 ?side2 A7.out).mono ?_); (case side1 => repeat (first | exact (Kd.R_reads' HO289.out).2.2 | (with_reducible refine Kd.C_alloc ?_ _) | (with_reducible refine Kd.C_drewN ?_ _) | (with_reducible refine Kd.C_drew ?_))); (case side2 => exact (Kd.R_reads' HO289.out).2.1); rintro e w102 ⟨v291, rfl, ho0, hb⟩; refine ⟨_, rfl, ?_⟩; have n0_ := Aside0.mk (Kd.R_elder' (by exact rq HO289.out) (Kd.R_base ho0) hb); have n1_ := Aside0.mk (Kd.R_lower (Kd.R_new' ho0 (Kd.R_lt (by exact rq HO289.out))) (below_size (by exact h0q HB.out))); have n2_ := Aside0.mk (below_step (by exact h0q HB.out) hb); clear HO289; clear HB; have HO289 := n0_; have HO292 := n1_; have HB := n2_; clear n0_ n1_ n2_; (try clear hb); (try clear hb2); (try clear hk); (try clear hi); (try clear ho0)) | ((with_reducible refine gate_dst (N := 6) rfl ?_); refine box_event ?hg (N := 6) ?hd (cs := #[.int .i64 0, .int .i64 0, .int .i64 0, .int .i64 0]) (t := 26) ?hr ?_; (case hd => rfl); (case hg => rfl); (case hr => first | (go_simp; done) | (go_simp; rfl)); intro gb298 hg w103 hbox hb; have n0_ := Aside0.mk (Kd.R_below (by exact rq HO289.out) hb); have n1_ := Aside0.mk (Kd.R_below (by exact rq HO292.out) hb); have n2_ := Aside0.mk (below_step (by exact h0q HB.out) hb); have n3_ := Aside0.mk (hbox); have n4_ := Aside0.mk ((by rw [hg]; exact (below_size (by exact h0q HB.out)) : w.heap.size ≤ gb298)); have n5_ := Aside0.mk ((by rw [hg]; exact (below_size (by exact h0q HB.out)) : w.heap.size ≤ gb298)); clear HO289; clear HO292; clear HB; have HO289 := n0_; have HO292 := n1_; have HB := n2_; have BK298 := n3_; have GW298 := n4_; have GE298 := n5_; clear n0_ n1_ n2_ n3_ n4_ n5_; clear hb hbox hg; have hcz104_0 : w103.cell? ⟨gb298, 0, none⟩ = some (.int .i64 0) := (blk_cell BK298.out 0).trans rfl; have hcz104_1 : w103.cell? ⟨gb298, 1, none⟩ = some (.int .i64 0) := (blk_cell BK298.out 1).trans rfl; have hcz104_2 : w103.cell? ⟨gb298, 2, none⟩ = some (.int .i64 0) := (blk_cell BK298.out 2).trans rfl; have hcz104_3 : w103.cell? ⟨gb298, 3, none⟩ = some (.int .i64 0) := (blk_cell BK298.out 3).trans rfl; have hfz104_0 := blk_frozen BK298.out 0; have hfz104_1 := blk_frozen BK298.out 1; have hfz104_2 := blk_frozen BK298.out 2; have hfz104_3 := blk_frozen BK298.out 3; obtain ⟨Ao105, co105, eo105⟩ := Kd.R_slice HO292.out; subst eo105) | (go_at_call 7; (with_reducible refine (annuitylaw20_wakes.calls k  t299 _ A99.out).mono ?_); rintro e w106 ⟨rfl, hb⟩; have n0_ := Aside0.mk (Kd.R_below (by (with_reducible repeat (first | apply Kd.R_alloc | apply Kd.R_drewN | apply Kd.R_drew)); exact (Kd.R_mono (Kd.R_far (p := ⟨gb298, 3, none⟩) (Kd.R_far (p := ⟨gb298, 2, none⟩) (Kd.R_far (p := ⟨gb298, 1, none⟩) (Kd.R_far (p := ⟨gb298, 0, none⟩) (Kd.R_types HO289.out BK298.out (by decide)) (fun _ hk => hk.2) (.int .i64 t293)) (fun _ hk => hk.2) (.int .i64 t294)) (fun _ hk => hk.2) (.int .i64 t295)) (fun _ hk => hk.2) (.int .i64 t296)) (fun _ h_ => h_.1))) hb); have n1_ := Aside0.mk (Kd.R_below (by (with_reducible repeat (first | apply Kd.R_alloc | apply Kd.R_drewN | apply Kd.R_drew)); exact (Kd.R_mono (Kd.R_far (p := ⟨gb298, 3, none⟩) (Kd.R_far (p := ⟨gb298, 2, none⟩) (Kd.R_far (p := ⟨gb298, 1, none⟩) (Kd.R_far (p := ⟨gb298, 0, none⟩) (Kd.R_types HO292.out BK298.out (by decide)) (fun _ hk => hk.2) (.int .i64 t293)) (fun _ hk => hk.2) (.int .i64 t294)) (fun _ hk => hk.2) (.int .i64 t295)) (fun _ hk => hk.2) (.int .i64 t296)) (fun _ h_ => h_.1))) hb); have n2_ := Aside0.mk (blk_below (g := gb298) (o := .cells #[.int .i64 t293, .int .i64 t294, .int .i64 t295, .int .i64 t296] 26 (0, 0)) (by (with_reducible repeat (first | refine blk_drewN ?_ _ | refine blk_drew ?_ | refine blk_alloc ?_ _)); refine blk_put (cs := #[.int .i64 t293, .int .i64 t294, .int .i64 t295, .int .i64 0]) ?_ 3 _ rfl; (with_reducible repeat (first | refine blk_drewN ?_ _ | refine blk_drew ?_ | refine blk_alloc ?_ _)); refine blk_put (cs := #[.int .i64 t293, .int .i64 t294, .int .i64 0, .int .i64 0]) ?_ 2 _ rfl; (with_reducible repeat (first | refine blk_drewN ?_ _ | refine blk_drew ?_ | refine blk_alloc ?_ _)); refine blk_put (cs := #[.int .i64 t293, .int .i64 0, .int .i64 0, .int .i64 0]) ?_ 1 _ rfl; (with_reducible repeat (first | refine blk_drewN ?_ _ | refine blk_drew ?_ | refine blk_alloc ?_ _)); refine blk_put (cs := #[.int .i64 0, .int .i64 0, .int .i64 0, .int .i64 0]) ?_ 0 _ rfl; (with_reducible repeat (first | refine blk_drewN ?_ _ | refine blk_drew ?_ | refine blk_alloc ?_ _)); exact BK298.out) hb); have n3_ := Aside0.mk (below_step (by exact h1q HB.out GE298.out) hb); clear HO289; clear HO292; clear BK298; clear HB; have HO289 := n0_; have HO292 := n1_; have BK298 := n2_; have HB := n3_; clear n0_ n1_ n2_ n3_; (try clear hb); (try clear hb2); (try clear hk); (try clear hi)))
  go_ret
  exact ⟨by first | rfl | (simp [errW_none, errW_some] <;> rfl) | (simp [*, errW_none, errW_some] <;> rfl), by exact h1q HB.out GE298.out⟩
 rw [if_pos c8] at H
 have c8b0 : (t297 == 0) = true := beq_iff_eq.mpr c8
 have c8b1 : (t297 != 0) = false := bne_eq_false_iff_eq.mpr c8
 clear c8
 by_cases c9 : (t290.length : Int) = (l0.length : Int)
 case neg =>
  rw [if_neg c9] at H
  exact absurd H (by simp)
 rw [if_pos c9] at H
 have c9b0 : ((t290.length : Int) == (l0.length : Int)) = true := beq_iff_eq.mpr c9
 have c9b1 : ((t290.length : Int) != (l0.length : Int)) = false := bne_eq_false_iff_eq.mpr c9
 have c9b2 : (t290.length == l0.length) = true := by first | simpa using c9 | (simp at c9 ⊢; omega)
 clear c9
 by_cases c10 : t293 < 0
 ·rw [if_pos c10] at H
  exact absurd H (by simp)
 rw [if_neg c10] at H
 have c10b0 : decide (t293 < 0) = false := decide_eq_false c10
 clear c10
 by_cases c11 : t294 < 0
 ·rw [if_pos c11] at H
  exact absurd H (by simp)
 rw [if_neg c11] at H
 have c11b0 : decide (t294 < 0) = false := decide_eq_false c11
 clear c11
 by_cases c12 : t295 < 0
 ·rw [if_pos c12] at H
  exact absurd H (by simp)
 rw [if_neg c12] at H
 have c12b0 : decide (t295 < 0) = false := decide_eq_false c12
 clear c12
 by_cases c13 : t296 < 0
 ·rw [if_pos c13] at H
  exact absurd H (by simp)
 rw [if_neg c13] at H
 have c13b0 : decide (t296 < 0) = false := decide_eq_false c13
 clear c13
 by_cases c14 : (wrap64 ((wrap64 ((wrap64 (t293 + t294)) + t295)) + t296)) = a1
 case neg =>
  rw [if_neg c14] at H
  exact absurd H (by simp)
 rw [if_pos c14] at H
 have c14b0 : ((wrap64 ((wrap64 ((wrap64 (t293 + t294)) + t295)) + t296)) == a1) = true := beq_iff_eq.mpr c14
 have c14b1 : ((wrap64 ((wrap64 ((wrap64 (t293 + t294)) + t295)) + t296)) != a1) = false := bne_eq_false_iff_eq.mpr c14
 clear c14
 have H' := Aside0.mk H
 clear H
 go_enter Try.func4, Try.ntmps4
 go_wp2_with (first | ((with_reducible refine gate_callee (f := 8) rfl ?_); refine goesL_ (some 20) rfl rfl Try.func8 (by kernel_rfl) rfl #[.slice A0 l0.length c0] rfl (by (try simp only [List.map_toArray, List.map_cons, List.map_nil]); first | done | rfl | (simp only [List.length_drop, List.length_take]; rfl)) ?_; (with_reducible refine (annuitykeep_CopyLoans.calls _ _ l0 t287 _ ?side1 ?side2 A6.out).mono ?_); (case side1 => repeat (first | exact HR0.out | (with_reducible refine Kd.C_alloc ?_ _) | (with_reducible refine Kd.C_drewN ?_ _) | (with_reducible refine Kd.C_drew ?_))); (case side2 => exact HC0.out); rintro e w15 ⟨v288, rfl, ho0, hb⟩; refine ⟨_, rfl, ?_⟩; have n0_ := Aside0.mk (Kd.R_lower ho0 (below_size (by exact h0q HB.out))); have n1_ := Aside0.mk (below_step (by exact h0q HB.out) hb); clear HB; have HO289 := n0_; have HB := n1_; clear n0_ n1_; (try clear hb); (try clear hb2); (try clear hk); (try clear hi); (try clear ho0); obtain ⟨Ao16, co16, eo16⟩ := Kd.R_slice HO289.out; subst eo16) | ((with_reducible refine gate_callee (f := 9) rfl ?_); refine goesL_ (some 22) rfl rfl Try.func9 (by kernel_rfl) rfl #[.slice Ao16 t287.length co16, .int .i64 a1] rfl (by (try simp only [List.map_toArray, List.map_cons, List.map_nil]); first | done | rfl | (simp only [List.length_drop, List.length_take]; rfl)) ?_; (with_reducible refine (pay_All.calls k _ _ t287 a1 t290 t293 t294 t295 t296 t297 _ ?side1 ?side2 A7.out).mono ?_); (case side1 => repeat (first | exact (Kd.R_reads' HO289.out).2.2 | (with_reducible refine Kd.C_alloc ?_ _) | (with_reducible refine Kd.C_drewN ?_ _) | (with_reducible refine Kd.C_drew ?_))); (case side2 => exact (Kd.R_reads' HO289.out).2.1); rintro e w17 ⟨v291, rfl, ho0, hb⟩; refine ⟨_, rfl, ?_⟩; have n0_ := Aside0.mk (Kd.R_elder' (by exact rq HO289.out) (Kd.R_base ho0) hb); have n1_ := Aside0.mk (Kd.R_lower (Kd.R_new' ho0 (Kd.R_lt (by exact rq HO289.out))) (below_size (by exact h0q HB.out))); have n2_ := Aside0.mk (below_step (by exact h0q HB.out) hb); clear HO289; clear HB; have HO289 := n0_; have HO292 := n1_; have HB := n2_; clear n0_ n1_ n2_; (try clear hb); (try clear hb2); (try clear hk); (try clear hi); (try clear ho0)) | ((with_reducible refine gate_dst (N := 6) rfl ?_); refine box_event ?hg (N := 6) ?hd (cs := #[.int .i64 0, .int .i64 0, .int .i64 0, .int .i64 0]) (t := 26) ?hr ?_; (case hd => rfl); (case hg => rfl); (case hr => first | (go_simp; done) | (go_simp; rfl)); intro gb298 hg w18 hbox hb; have n0_ := Aside0.mk (Kd.R_below (by exact rq HO289.out) hb); have n1_ := Aside0.mk (Kd.R_below (by exact rq HO292.out) hb); have n2_ := Aside0.mk (below_step (by exact h0q HB.out) hb); have n3_ := Aside0.mk (hbox); have n4_ := Aside0.mk ((by rw [hg]; exact (below_size (by exact h0q HB.out)) : w.heap.size ≤ gb298)); have n5_ := Aside0.mk ((by rw [hg]; exact (below_size (by exact h0q HB.out)) : w.heap.size ≤ gb298)); clear HO289; clear HO292; clear HB; have HO289 := n0_; have HO292 := n1_; have HB := n2_; have BK298 := n3_; have GW298 := n4_; have GE298 := n5_; clear n0_ n1_ n2_ n3_ n4_ n5_; clear hb hbox hg; have hcz19_0 : w18.cell? ⟨gb298, 0, none⟩ = some (.int .i64 0) := (blk_cell BK298.out 0).trans rfl; have hcz19_1 : w18.cell? ⟨gb298, 1, none⟩ = some (.int .i64 0) := (blk_cell BK298.out 1).trans rfl; have hcz19_2 : w18.cell? ⟨gb298, 2, none⟩ = some (.int .i64 0) := (blk_cell BK298.out 2).trans rfl; have hcz19_3 : w18.cell? ⟨gb298, 3, none⟩ = some (.int .i64 0) := (blk_cell BK298.out 3).trans rfl; have hfz19_0 := blk_frozen BK298.out 0; have hfz19_1 := blk_frozen BK298.out 1; have hfz19_2 := blk_frozen BK298.out 2; have hfz19_3 := blk_frozen BK298.out 3; obtain ⟨Ao20, co20, eo20⟩ := Kd.R_slice HO292.out; subst eo20))
 go_loopg [8, 9] k (fun kq v8 v9 w' => ∃ (x8_1 : Int) (x9_1 : Int), v8 = .int .i64 x8_1 ∧ v9 = .int .i64 x9_1 ∧ Aside0 (annuitylaw20_PayWhole.l0 kq l0 a1 t290 x8_1 x9_1 t293 t294 t295 t296 = some r) ∧ Aside0 (kq ≤ k) ∧ Aside0 (Kd.R k43 43 w' w.heap.size (fun _ => True) (.slice Ao20 t290.length co20) t290) ∧ Aside0 (w'.heap[gb298]? = some (.cells #[.int .i64 t293, .int .i64 t294, .int .i64 t295, .int .i64 t296] 26 (0, 0))) ∧ Aside0 (Below w.heap.size w w'))
 case atStart => exact ⟨(0), (0), (by first | rfl | (simp; done) | (simp [*]; done)), (by first | rfl | (simp; done) | (simp [*]; done)), H', ⟨Nat.le_refl _⟩, ⟨by (with_reducible repeat (first | apply Kd.R_alloc | apply Kd.R_drewN | apply Kd.R_drew)); exact Kd.R_mono (Kd.R_far (p := ⟨gb298, 3, none⟩) (Kd.R_far (p := ⟨gb298, 2, none⟩) (Kd.R_far (p := ⟨gb298, 1, none⟩) (Kd.R_far (p := ⟨gb298, 0, none⟩) (Kd.R_types HO292.out BK298.out (by decide)) (fun _ hk => hk.2) (.int .i64 t293)) (fun _ hk => hk.2) (.int .i64 t294)) (fun _ hk => hk.2) (.int .i64 t295)) (fun _ hk => hk.2) (.int .i64 t296)) (fun _ hk => trivial)⟩, ⟨by (with_reducible repeat (first | refine blk_drewN ?_ _ | refine blk_drew ?_ | refine blk_alloc ?_ _)); refine blk_put (cs := #[.int .i64 t293, .int .i64 t294, .int .i64 t295, .int .i64 0]) ?_ 3 _ rfl; (with_reducible repeat (first | refine blk_drewN ?_ _ | refine blk_drew ?_ | refine blk_alloc ?_ _)); refine blk_put (cs := #[.int .i64 t293, .int .i64 t294, .int .i64 0, .int .i64 0]) ?_ 2 _ rfl; (with_reducible repeat (first | refine blk_drewN ?_ _ | refine blk_drew ?_ | refine blk_alloc ?_ _)); refine blk_put (cs := #[.int .i64 t293, .int .i64 0, .int .i64 0, .int .i64 0]) ?_ 1 _ rfl; (with_reducible repeat (first | refine blk_drewN ?_ _ | refine blk_drew ?_ | refine blk_alloc ?_ _)); refine blk_put (cs := #[.int .i64 0, .int .i64 0, .int .i64 0, .int .i64 0]) ?_ 0 _ rfl; (with_reducible repeat (first | refine blk_drewN ?_ _ | refine blk_drew ?_ | refine blk_alloc ?_ _)); exact BK298.out⟩, ⟨by exact h1q HB.out GE298.out⟩⟩
 case round =>
  as_aux_lemma =>
  clear H'
  try clear c3
  try clear c3b0 c3b1
  try clear c8
  try clear c8b0 c8b1
  try clear c9
  try clear c9b0 c9b1
  try clear c9b2
  try clear c10
  try clear c10b0
  try clear c11
  try clear c11b0
  try clear c12
  try clear c12b0
  try clear c13
  try clear c13b0
  try clear c14
  try clear c14b0 c14b1
  try clear hcz19_0
  try clear hcz19_1
  try clear hcz19_2
  try clear hcz19_3
  try clear hfz19_0
  try clear hfz19_1
  try clear hfz19_2
  try clear hfz19_3
  obtain ⟨x8_1, x9_1, rfl, rfl, HA, HK1, HO_5, BK298, HB⟩ := hrel
  rcases gk with _ | k1
  ·exact absurd HA.out (by simp [annuitylaw20_PayWhole.l0])
  have H := HA.out
  clear HA
  simp only [annuitylaw20_PayWhole.l0] at H
  by_cases c21 : x9_1 < (t290.length : Int)
  case neg =>
   rw [if_neg c21] at H
   have c21b0 : decide (x9_1 < (t290.length : Int)) = false := decide_eq_false c21
   clear c21
   by_cases c93 : x8_1 = (wrap64 (a1 - t296))
   case neg =>
    rw [if_neg c93] at H
    exact absurd H (by simp)
   rw [if_pos c93] at H
   have c93b0 : (x8_1 == (wrap64 (a1 - t296))) = true := beq_iff_eq.mpr c93
   have c93b1 : (x8_1 != (wrap64 (a1 - t296))) = false := bne_eq_false_iff_eq.mpr c93
   clear c93
   replace H := Option.bind_eq_some_iff.mp H
   obtain ⟨t300, A940, H⟩ := H
   replace H : (some t300) = some r := H
   have A94 := Aside0.mk A940
   clear A940
   obtain rfl := Option.some.inj H
   have hcz95_0 : wr.cell? ⟨gb298, 0, none⟩ = some (.int .i64 t293) := (blk_cell BK298.out 0).trans rfl
   have hcz95_1 : wr.cell? ⟨gb298, 1, none⟩ = some (.int .i64 t294) := (blk_cell BK298.out 1).trans rfl
   have hcz95_2 : wr.cell? ⟨gb298, 2, none⟩ = some (.int .i64 t295) := (blk_cell BK298.out 2).trans rfl
   have hcz95_3 : wr.cell? ⟨gb298, 3, none⟩ = some (.int .i64 t296) := (blk_cell BK298.out 3).trans rfl
   have hfz95_0 := blk_frozen BK298.out 0
   have hfz95_1 := blk_frozen BK298.out 1
   have hfz95_2 := blk_frozen BK298.out 2
   have hfz95_3 := blk_frozen BK298.out 3
   go_wp2_with (first | (go_at_call 7; (with_reducible refine (annuitylaw20_wakes.calls k1  t300 _ A94.out).mono ?_); rintro e w96 ⟨rfl, hb⟩; have n0_ := Aside0.mk (Kd.R_below (by exact rq HO_5.out) hb); have n1_ := Aside0.mk (blk_below (g := gb298) (Up.up BK298.out) hb); have n2_ := Aside0.mk (below_step (by exact h1q HB.out GE298.out) hb); clear HO_5; clear BK298; clear HB; have HO_5 := n0_; have BK298 := n1_; have HB := n2_; clear n0_ n1_ n2_; (try clear hb); (try clear hb2); (try clear hk); (try clear hi)))
   go_ret
   exact ⟨by first | rfl | (simp [errW_none, errW_some] <;> rfl) | (simp [*, errW_none, errW_some] <;> rfl), by exact h1q HB.out GE298.out⟩
  rw [if_pos c21] at H
  have c21b0 : decide (x9_1 < (t290.length : Int)) = true := decide_eq_true c21
  clear c21
  by_cases c22 : 0 ≤ x9_1
  case neg =>
   rw [if_neg c22] at H
   exact absurd H (by simp)
  rw [if_pos c22] at H
  have c22b0 : decide (0 ≤ x9_1) = true := decide_eq_true c22
  clear c22
  by_cases c23 : x9_1 < (l0.length : Int)
  case neg =>
   rw [if_neg c23] at H
   exact absurd H (by simp)
  rw [if_pos c23] at H
  have c23b0 : decide (x9_1 < (l0.length : Int)) = true := decide_eq_true c23
  clear c23
  replace H := Option.bind_eq_some_iff.mp H
  obtain ⟨⟨t302, t303⟩, A240, H⟩ := H
  replace H : ((annuityref14_Owes.f k1 ((rd_T43 t290 x9_1).f0) ((rd_T43 t290 x9_1).f1) ((rd_T43 t290 x9_1).f2) ((rd_T43 t290 x9_1).f3) ((rd_T43 t290 x9_1).f4) ((rd_T43 t290 x9_1).f5) ((rd_T43 t290 x9_1).f6) ((rd_T43 t290 x9_1).f7) ((rd_T43 t290 x9_1).f8) ((rd_T43 t290 x9_1).f9) ((rd_T43 t290 x9_1).f10) ((rd_T43 t290 x9_1).f11) ((rd_T43 t290 x9_1).f12)).bind fun bt305 => (if t303 = 0 then (if bt305.2 = 0 then (if bt305.1 > t302 then (none) else (if t296 > 0 then (if bt305.1 > 0 then (none) else (if t295 > 0 then (if ((rd_T43 t290 x9_1).f4) > 0 then (none) else (if ((rd_T43 t290 x9_1).f2) ≥ 1000000 then (none) else (if ((rd_T43 l0 x9_1).f8) = 0 then (annuitylaw20_PayWhole.l0 k1 l0 a1 t290 (wrap64 (x8_1 + (wrap64 (t302 - bt305.1)))) (wrap64 (x9_1 + 1)) t293 t294 t295 t296) else ((annuitykeep_Loan.f ((rd_T43 t290 x9_1).f0) ((rd_T43 t290 x9_1).f1) ((rd_T43 t290 x9_1).f2) ((rd_T43 t290 x9_1).f3) ((rd_T43 t290 x9_1).f4) ((rd_T43 t290 x9_1).f5) ((rd_T43 t290 x9_1).f6) ((rd_T43 t290 x9_1).f7) ((rd_T43 t290 x9_1).f8) ((rd_T43 t290 x9_1).f9) ((rd_T43 t290 x9_1).f10) ((rd_T43 t290 x9_1).f11) ((rd_T43 t290 x9_1).f12) ((rd_T43 l0 x9_1).f0) ((rd_T43 l0 x9_1).f1) ((rd_T43 l0 x9_1).f2) ((rd_T43 l0 x9_1).f3) ((rd_T43 l0 x9_1).f4) ((rd_T43 l0 x9_1).f5) ((rd_T43 l0 x9_1).f6) ((rd_T43 l0 x9_1).f7) ((rd_T43 l0 x9_1).f8) ((rd_T43 l0 x9_1).f9) ((rd_T43 l0 x9_1).f10) ((rd_T43 l0 x9_1).f11) ((rd_T43 l0 x9_1).f12)).bind fun t313 => (if t313 = true then (annuitylaw20_PayWhole.l0 k1 l0 a1 t290 (wrap64 (x8_1 + (wrap64 (t302 - bt305.1)))) (wrap64 (x9_1 + 1)) t293 t294 t295 t296) else (none)))))) else (if ((rd_T43 l0 x9_1).f8) = 0 then (annuitylaw20_PayWhole.l0 k1 l0 a1 t290 (wrap64 (x8_1 + (wrap64 (t302 - bt305.1)))) (wrap64 (x9_1 + 1)) t293 t294 t295 t296) else ((annuitykeep_Loan.f ((rd_T43 t290 x9_1).f0) ((rd_T43 t290 x9_1).f1) ((rd_T43 t290 x9_1).f2) ((rd_T43 t290 x9_1).f3) ((rd_T43 t290 x9_1).f4) ((rd_T43 t290 x9_1).f5) ((rd_T43 t290 x9_1).f6) ((rd_T43 t290 x9_1).f7) ((rd_T43 t290 x9_1).f8) ((rd_T43 t290 x9_1).f9) ((rd_T43 t290 x9_1).f10) ((rd_T43 t290 x9_1).f11) ((rd_T43 t290 x9_1).f12) ((rd_T43 l0 x9_1).f0) ((rd_T43 l0 x9_1).f1) ((rd_T43 l0 x9_1).f2) ((rd_T43 l0 x9_1).f3) ((rd_T43 l0 x9_1).f4) ((rd_T43 l0 x9_1).f5) ((rd_T43 l0 x9_1).f6) ((rd_T43 l0 x9_1).f7) ((rd_T43 l0 x9_1).f8) ((rd_T43 l0 x9_1).f9) ((rd_T43 l0 x9_1).f10) ((rd_T43 l0 x9_1).f11) ((rd_T43 l0 x9_1).f12)).bind fun t317 => (if t317 = true then (annuitylaw20_PayWhole.l0 k1 l0 a1 t290 (wrap64 (x8_1 + (wrap64 (t302 - bt305.1)))) (wrap64 (x9_1 + 1)) t293 t294 t295 t296) else (none)))))) else (if t295 > 0 then (if ((rd_T43 t290 x9_1).f4) > 0 then (none) else (if ((rd_T43 t290 x9_1).f2) ≥ 1000000 then (none) else (if ((rd_T43 l0 x9_1).f8) = 0 then (annuitylaw20_PayWhole.l0 k1 l0 a1 t290 (wrap64 (x8_1 + (wrap64 (t302 - bt305.1)))) (wrap64 (x9_1 + 1)) t293 t294 t295 t296) else ((annuitykeep_Loan.f ((rd_T43 t290 x9_1).f0) ((rd_T43 t290 x9_1).f1) ((rd_T43 t290 x9_1).f2) ((rd_T43 t290 x9_1).f3) ((rd_T43 t290 x9_1).f4) ((rd_T43 t290 x9_1).f5) ((rd_T43 t290 x9_1).f6) ((rd_T43 t290 x9_1).f7) ((rd_T43 t290 x9_1).f8) ((rd_T43 t290 x9_1).f9) ((rd_T43 t290 x9_1).f10) ((rd_T43 t290 x9_1).f11) ((rd_T43 t290 x9_1).f12) ((rd_T43 l0 x9_1).f0) ((rd_T43 l0 x9_1).f1) ((rd_T43 l0 x9_1).f2) ((rd_T43 l0 x9_1).f3) ((rd_T43 l0 x9_1).f4) ((rd_T43 l0 x9_1).f5) ((rd_T43 l0 x9_1).f6) ((rd_T43 l0 x9_1).f7) ((rd_T43 l0 x9_1).f8) ((rd_T43 l0 x9_1).f9) ((rd_T43 l0 x9_1).f10) ((rd_T43 l0 x9_1).f11) ((rd_T43 l0 x9_1).f12)).bind fun t323 => (if t323 = true then (annuitylaw20_PayWhole.l0 k1 l0 a1 t290 (wrap64 (x8_1 + (wrap64 (t302 - bt305.1)))) (wrap64 (x9_1 + 1)) t293 t294 t295 t296) else (none)))))) else (if ((rd_T43 l0 x9_1).f8) = 0 then (annuitylaw20_PayWhole.l0 k1 l0 a1 t290 (wrap64 (x8_1 + (wrap64 (t302 - bt305.1)))) (wrap64 (x9_1 + 1)) t293 t294 t295 t296) else ((annuitykeep_Loan.f ((rd_T43 t290 x9_1).f0) ((rd_T43 t290 x9_1).f1) ((rd_T43 t290 x9_1).f2) ((rd_T43 t290 x9_1).f3) ((rd_T43 t290 x9_1).f4) ((rd_T43 t290 x9_1).f5) ((rd_T43 t290 x9_1).f6) ((rd_T43 t290 x9_1).f7) ((rd_T43 t290 x9_1).f8) ((rd_T43 t290 x9_1).f9) ((rd_T43 t290 x9_1).f10) ((rd_T43 t290 x9_1).f11) ((rd_T43 t290 x9_1).f12) ((rd_T43 l0 x9_1).f0) ((rd_T43 l0 x9_1).f1) ((rd_T43 l0 x9_1).f2) ((rd_T43 l0 x9_1).f3) ((rd_T43 l0 x9_1).f4) ((rd_T43 l0 x9_1).f5) ((rd_T43 l0 x9_1).f6) ((rd_T43 l0 x9_1).f7) ((rd_T43 l0 x9_1).f8) ((rd_T43 l0 x9_1).f9) ((rd_T43 l0 x9_1).f10) ((rd_T43 l0 x9_1).f11) ((rd_T43 l0 x9_1).f12)).bind fun t327 => (if t327 = true then (annuitylaw20_PayWhole.l0 k1 l0 a1 t290 (wrap64 (x8_1 + (wrap64 (t302 - bt305.1)))) (wrap64 (x9_1 + 1)) t293 t294 t295 t296) else (none))))))) else ((annuitylaw20_wakes.f k1).bind fun t307 => (some t307))) else ((annuitylaw20_wakes.f k1).bind fun t328 => (some t328)))) = some r := H
  have A24 := Aside0.mk A240
  clear A240
  replace H := Option.bind_eq_some_iff.mp H
  obtain ⟨⟨t305, t306⟩, A250, H⟩ := H
  replace H : (if t303 = 0 then (if t306 = 0 then (if t305 > t302 then (none) else (if t296 > 0 then (if t305 > 0 then (none) else (if t295 > 0 then (if ((rd_T43 t290 x9_1).f4) > 0 then (none) else (if ((rd_T43 t290 x9_1).f2) ≥ 1000000 then (none) else (if ((rd_T43 l0 x9_1).f8) = 0 then (annuitylaw20_PayWhole.l0 k1 l0 a1 t290 (wrap64 (x8_1 + (wrap64 (t302 - t305)))) (wrap64 (x9_1 + 1)) t293 t294 t295 t296) else ((annuitykeep_Loan.f ((rd_T43 t290 x9_1).f0) ((rd_T43 t290 x9_1).f1) ((rd_T43 t290 x9_1).f2) ((rd_T43 t290 x9_1).f3) ((rd_T43 t290 x9_1).f4) ((rd_T43 t290 x9_1).f5) ((rd_T43 t290 x9_1).f6) ((rd_T43 t290 x9_1).f7) ((rd_T43 t290 x9_1).f8) ((rd_T43 t290 x9_1).f9) ((rd_T43 t290 x9_1).f10) ((rd_T43 t290 x9_1).f11) ((rd_T43 t290 x9_1).f12) ((rd_T43 l0 x9_1).f0) ((rd_T43 l0 x9_1).f1) ((rd_T43 l0 x9_1).f2) ((rd_T43 l0 x9_1).f3) ((rd_T43 l0 x9_1).f4) ((rd_T43 l0 x9_1).f5) ((rd_T43 l0 x9_1).f6) ((rd_T43 l0 x9_1).f7) ((rd_T43 l0 x9_1).f8) ((rd_T43 l0 x9_1).f9) ((rd_T43 l0 x9_1).f10) ((rd_T43 l0 x9_1).f11) ((rd_T43 l0 x9_1).f12)).bind fun t313 => (if t313 = true then (annuitylaw20_PayWhole.l0 k1 l0 a1 t290 (wrap64 (x8_1 + (wrap64 (t302 - t305)))) (wrap64 (x9_1 + 1)) t293 t294 t295 t296) else (none)))))) else (if ((rd_T43 l0 x9_1).f8) = 0 then (annuitylaw20_PayWhole.l0 k1 l0 a1 t290 (wrap64 (x8_1 + (wrap64 (t302 - t305)))) (wrap64 (x9_1 + 1)) t293 t294 t295 t296) else ((annuitykeep_Loan.f ((rd_T43 t290 x9_1).f0) ((rd_T43 t290 x9_1).f1) ((rd_T43 t290 x9_1).f2) ((rd_T43 t290 x9_1).f3) ((rd_T43 t290 x9_1).f4) ((rd_T43 t290 x9_1).f5) ((rd_T43 t290 x9_1).f6) ((rd_T43 t290 x9_1).f7) ((rd_T43 t290 x9_1).f8) ((rd_T43 t290 x9_1).f9) ((rd_T43 t290 x9_1).f10) ((rd_T43 t290 x9_1).f11) ((rd_T43 t290 x9_1).f12) ((rd_T43 l0 x9_1).f0) ((rd_T43 l0 x9_1).f1) ((rd_T43 l0 x9_1).f2) ((rd_T43 l0 x9_1).f3) ((rd_T43 l0 x9_1).f4) ((rd_T43 l0 x9_1).f5) ((rd_T43 l0 x9_1).f6) ((rd_T43 l0 x9_1).f7) ((rd_T43 l0 x9_1).f8) ((rd_T43 l0 x9_1).f9) ((rd_T43 l0 x9_1).f10) ((rd_T43 l0 x9_1).f11) ((rd_T43 l0 x9_1).f12)).bind fun t317 => (if t317 = true then (annuitylaw20_PayWhole.l0 k1 l0 a1 t290 (wrap64 (x8_1 + (wrap64 (t302 - t305)))) (wrap64 (x9_1 + 1)) t293 t294 t295 t296) else (none)))))) else (if t295 > 0 then (if ((rd_T43 t290 x9_1).f4) > 0 then (none) else (if ((rd_T43 t290 x9_1).f2) ≥ 1000000 then (none) else (if ((rd_T43 l0 x9_1).f8) = 0 then (annuitylaw20_PayWhole.l0 k1 l0 a1 t290 (wrap64 (x8_1 + (wrap64 (t302 - t305)))) (wrap64 (x9_1 + 1)) t293 t294 t295 t296) else ((annuitykeep_Loan.f ((rd_T43 t290 x9_1).f0) ((rd_T43 t290 x9_1).f1) ((rd_T43 t290 x9_1).f2) ((rd_T43 t290 x9_1).f3) ((rd_T43 t290 x9_1).f4) ((rd_T43 t290 x9_1).f5) ((rd_T43 t290 x9_1).f6) ((rd_T43 t290 x9_1).f7) ((rd_T43 t290 x9_1).f8) ((rd_T43 t290 x9_1).f9) ((rd_T43 t290 x9_1).f10) ((rd_T43 t290 x9_1).f11) ((rd_T43 t290 x9_1).f12) ((rd_T43 l0 x9_1).f0) ((rd_T43 l0 x9_1).f1) ((rd_T43 l0 x9_1).f2) ((rd_T43 l0 x9_1).f3) ((rd_T43 l0 x9_1).f4) ((rd_T43 l0 x9_1).f5) ((rd_T43 l0 x9_1).f6) ((rd_T43 l0 x9_1).f7) ((rd_T43 l0 x9_1).f8) ((rd_T43 l0 x9_1).f9) ((rd_T43 l0 x9_1).f10) ((rd_T43 l0 x9_1).f11) ((rd_T43 l0 x9_1).f12)).bind fun t323 => (if t323 = true then (annuitylaw20_PayWhole.l0 k1 l0 a1 t290 (wrap64 (x8_1 + (wrap64 (t302 - t305)))) (wrap64 (x9_1 + 1)) t293 t294 t295 t296) else (none)))))) else (if ((rd_T43 l0 x9_1).f8) = 0 then (annuitylaw20_PayWhole.l0 k1 l0 a1 t290 (wrap64 (x8_1 + (wrap64 (t302 - t305)))) (wrap64 (x9_1 + 1)) t293 t294 t295 t296) else ((annuitykeep_Loan.f ((rd_T43 t290 x9_1).f0) ((rd_T43 t290 x9_1).f1) ((rd_T43 t290 x9_1).f2) ((rd_T43 t290 x9_1).f3) ((rd_T43 t290 x9_1).f4) ((rd_T43 t290 x9_1).f5) ((rd_T43 t290 x9_1).f6) ((rd_T43 t290 x9_1).f7) ((rd_T43 t290 x9_1).f8) ((rd_T43 t290 x9_1).f9) ((rd_T43 t290 x9_1).f10) ((rd_T43 t290 x9_1).f11) ((rd_T43 t290 x9_1).f12) ((rd_T43 l0 x9_1).f0) ((rd_T43 l0 x9_1).f1) ((rd_T43 l0 x9_1).f2) ((rd_T43 l0 x9_1).f3) ((rd_T43 l0 x9_1).f4) ((rd_T43 l0 x9_1).f5) ((rd_T43 l0 x9_1).f6) ((rd_T43 l0 x9_1).f7) ((rd_T43 l0 x9_1).f8) ((rd_T43 l0 x9_1).f9) ((rd_T43 l0 x9_1).f10) ((rd_T43 l0 x9_1).f11) ((rd_T43 l0 x9_1).f12)).bind fun t327 => (if t327 = true then (annuitylaw20_PayWhole.l0 k1 l0 a1 t290 (wrap64 (x8_1 + (wrap64 (t302 - t305)))) (wrap64 (x9_1 + 1)) t293 t294 t295 t296) else (none))))))) else ((annuitylaw20_wakes.f k1).bind fun t307 => (some t307))) else ((annuitylaw20_wakes.f k1).bind fun t328 => (some t328))) = some r := H
  have A25 := Aside0.mk A250
  clear A250
  by_cases c26 : t303 = 0
  case neg =>
   rw [if_neg c26] at H
   have c26b0 : (t303 == 0) = false := beq_eq_false_iff_ne.mpr c26
   have c26b1 : (t303 != 0) = true := bne_iff_ne.mpr c26
   replace H := Option.bind_eq_some_iff.mp H
   obtain ⟨t328, A890, H⟩ := H
   replace H : (some t328) = some r := H
   have A89 := Aside0.mk A890
   clear A890
   obtain rfl := Option.some.inj H
   have p301 : 0 ≤ (x9_1 : Int) := yd
   have q301 : x9_1 < (l0.length : Int) := yd
   obtain ⟨ad301, e301, hx301_0, hx301_1, hx301_2, hx301_3, hx301_4, hx301_5, hx301_6, hx301_7, hx301_8, hx301_9, hx301_10, hx301_11, hx301_12⟩ := at_T43 HR0.out x9_1 p301 q301
   cases e301
   replace hx301_0 := hxb HB.out hx301_0
   replace hx301_1 := hxb HB.out hx301_1
   replace hx301_2 := hxb HB.out hx301_2
   replace hx301_3 := hxb HB.out hx301_3
   replace hx301_4 := hxb HB.out hx301_4
   replace hx301_5 := hxb HB.out hx301_5
   replace hx301_6 := hxb HB.out hx301_6
   replace hx301_7 := hxb HB.out hx301_7
   replace hx301_8 := hxb HB.out hx301_8
   replace hx301_9 := hxb HB.out hx301_9
   replace hx301_10 := hxb HB.out hx301_10
   replace hx301_11 := hxb HB.out hx301_11
   replace hx301_12 := hxb HB.out hx301_12
   replace p301 := eq_true p301
   replace q301 := eq_true q301
   go_wp2_with (first | ((with_reducible refine gate_callee (f := 16) rfl ?_); refine goesL_ (some 90) rfl rfl Try.func16 (by kernel_rfl) rfl #[.agg #[.int .i64 ((rd_T43 l0 x9_1).f0), .int .i64 ((rd_T43 l0 x9_1).f1), .int .i64 ((rd_T43 l0 x9_1).f2), .int .i64 ((rd_T43 l0 x9_1).f3), .int .i64 ((rd_T43 l0 x9_1).f4), .int .i64 ((rd_T43 l0 x9_1).f5), .bool ((rd_T43 l0 x9_1).f6), .int .i64 ((rd_T43 l0 x9_1).f7), .int .i64 ((rd_T43 l0 x9_1).f8), .int .i64 ((rd_T43 l0 x9_1).f9), .int .i64 ((rd_T43 l0 x9_1).f10), .int .i64 ((rd_T43 l0 x9_1).f11), .int .i64 ((rd_T43 l0 x9_1).f12)]] rfl (by (try simp only [List.map_toArray, List.map_cons, List.map_nil]); first | done | rfl | (simp only [List.length_drop, List.length_take]; rfl)) ?_; (with_reducible refine (annuityref14_Owes.calls k1 ((rd_T43 l0 x9_1).f0) ((rd_T43 l0 x9_1).f1) ((rd_T43 l0 x9_1).f2) ((rd_T43 l0 x9_1).f3) ((rd_T43 l0 x9_1).f4) ((rd_T43 l0 x9_1).f5) ((rd_T43 l0 x9_1).f6) ((rd_T43 l0 x9_1).f7) ((rd_T43 l0 x9_1).f8) ((rd_T43 l0 x9_1).f9) ((rd_T43 l0 x9_1).f10) ((rd_T43 l0 x9_1).f11) ((rd_T43 l0 x9_1).f12) t302 t303 _ A24.out).mono ?_); rintro e w90 ⟨rfl, hb⟩; refine ⟨_, rfl, ?_⟩; have n0_ := Aside0.mk (Kd.R_below (by exact rq HO_5.out) hb); have n1_ := Aside0.mk (blk_below (g := gb298) (Up.up BK298.out) hb); have n2_ := Aside0.mk (below_step (by exact h1q HB.out GE298.out) hb); clear HO_5; clear BK298; clear HB; have HO_5 := n0_; have BK298 := n1_; have HB := n2_; clear n0_ n1_ n2_; (try clear hb); (try clear hb2); (try clear hk); (try clear hi); have p304 : 0 ≤ (x9_1 : Int) := yd; have q304 : x9_1 < (t290.length : Int) := yd; obtain ⟨ad304, e304, hx304_0, hx304_1, hx304_2, hx304_3, hx304_4, hx304_5, hx304_6, hx304_7, hx304_8, hx304_9, hx304_10, hx304_11, hx304_12⟩ := at_T43 (Kd.R_reads' HO_5.out).2.2 x9_1 p304 q304; cases e304; replace p304 := eq_true p304; replace q304 := eq_true q304) | ((with_reducible refine gate_callee (f := 16) rfl ?_); refine goesL_ (some 98) rfl rfl Try.func16 (by kernel_rfl) rfl #[.agg #[.int .i64 ((rd_T43 t290 x9_1).f0), .int .i64 ((rd_T43 t290 x9_1).f1), .int .i64 ((rd_T43 t290 x9_1).f2), .int .i64 ((rd_T43 t290 x9_1).f3), .int .i64 ((rd_T43 t290 x9_1).f4), .int .i64 ((rd_T43 t290 x9_1).f5), .bool ((rd_T43 t290 x9_1).f6), .int .i64 ((rd_T43 t290 x9_1).f7), .int .i64 ((rd_T43 t290 x9_1).f8), .int .i64 ((rd_T43 t290 x9_1).f9), .int .i64 ((rd_T43 t290 x9_1).f10), .int .i64 ((rd_T43 t290 x9_1).f11), .int .i64 ((rd_T43 t290 x9_1).f12)]] rfl (by (try simp only [List.map_toArray, List.map_cons, List.map_nil]); first | done | rfl | (simp only [List.length_drop, List.length_take]; rfl)) ?_; (with_reducible refine (annuityref14_Owes.calls k1 ((rd_T43 t290 x9_1).f0) ((rd_T43 t290 x9_1).f1) ((rd_T43 t290 x9_1).f2) ((rd_T43 t290 x9_1).f3) ((rd_T43 t290 x9_1).f4) ((rd_T43 t290 x9_1).f5) ((rd_T43 t290 x9_1).f6) ((rd_T43 t290 x9_1).f7) ((rd_T43 t290 x9_1).f8) ((rd_T43 t290 x9_1).f9) ((rd_T43 t290 x9_1).f10) ((rd_T43 t290 x9_1).f11) ((rd_T43 t290 x9_1).f12) t305 t306 _ A25.out).mono ?_); rintro e w91 ⟨rfl, hb⟩; refine ⟨_, rfl, ?_⟩; have n0_ := Aside0.mk (Kd.R_below (by exact rq HO_5.out) hb); have n1_ := Aside0.mk (blk_below (g := gb298) (Up.up BK298.out) hb); have n2_ := Aside0.mk (below_step (by exact h1q HB.out GE298.out) hb); clear HO_5; clear BK298; clear HB; have HO_5 := n0_; have BK298 := n1_; have HB := n2_; clear n0_ n1_ n2_; (try clear hb); (try clear hb2); (try clear hk); (try clear hi)) | ((with_reducible refine gate_callee (f := 7) rfl ?_); refine goesL_ (some 107) rfl rfl Try.func7 (by kernel_rfl) rfl #[] rfl (by (try simp only [List.map_toArray, List.map_cons, List.map_nil]); first | done | rfl | (simp only [List.length_drop, List.length_take]; rfl)) ?_; (with_reducible refine (annuitylaw20_wakes.calls k1  t328 _ A89.out).mono ?_); rintro e w92 ⟨rfl, hb⟩; refine ⟨_, rfl, ?_⟩; have n0_ := Aside0.mk (Kd.R_below (by exact rq HO_5.out) hb); have n1_ := Aside0.mk (blk_below (g := gb298) (Up.up BK298.out) hb); have n2_ := Aside0.mk (below_step (by exact h1q HB.out GE298.out) hb); clear HO_5; clear BK298; clear HB; have HO_5 := n0_; have BK298 := n1_; have HB := n2_; clear n0_ n1_ n2_; (try clear hb); (try clear hb2); (try clear hk); (try clear hi)))
   go_ret
   exact ⟨by first | rfl | (simp [errW_none, errW_some] <;> rfl) | (simp [*, errW_none, errW_some] <;> rfl), by exact h1q HB.out GE298.out⟩
  rw [if_pos c26] at H
  have c26b0 : (t303 == 0) = true := beq_iff_eq.mpr c26
  have c26b1 : (t303 != 0) = false := bne_eq_false_iff_eq.mpr c26
  clear c26
  by_cases c27 : t306 = 0
  case neg =>
   rw [if_neg c27] at H
   have c27b0 : (t306 == 0) = false := beq_eq_false_iff_ne.mpr c27
   have c27b1 : (t306 != 0) = true := bne_iff_ne.mpr c27
   replace H := Option.bind_eq_some_iff.mp H
   obtain ⟨t307, A850, H⟩ := H
   replace H : (some t307) = some r := H
   have A85 := Aside0.mk A850
   clear A850
   obtain rfl := Option.some.inj H
   have p301 : 0 ≤ (x9_1 : Int) := yd
   have q301 : x9_1 < (l0.length : Int) := yd
   obtain ⟨ad301, e301, hx301_0, hx301_1, hx301_2, hx301_3, hx301_4, hx301_5, hx301_6, hx301_7, hx301_8, hx301_9, hx301_10, hx301_11, hx301_12⟩ := at_T43 HR0.out x9_1 p301 q301
   cases e301
   replace hx301_0 := hxb HB.out hx301_0
   replace hx301_1 := hxb HB.out hx301_1
   replace hx301_2 := hxb HB.out hx301_2
   replace hx301_3 := hxb HB.out hx301_3
   replace hx301_4 := hxb HB.out hx301_4
   replace hx301_5 := hxb HB.out hx301_5
   replace hx301_6 := hxb HB.out hx301_6
   replace hx301_7 := hxb HB.out hx301_7
   replace hx301_8 := hxb HB.out hx301_8
   replace hx301_9 := hxb HB.out hx301_9
   replace hx301_10 := hxb HB.out hx301_10
   replace hx301_11 := hxb HB.out hx301_11
   replace hx301_12 := hxb HB.out hx301_12
   replace p301 := eq_true p301
   replace q301 := eq_true q301
   go_wp2_with (first | ((with_reducible refine gate_callee (f := 16) rfl ?_); refine goesL_ (some 90) rfl rfl Try.func16 (by kernel_rfl) rfl #[.agg #[.int .i64 ((rd_T43 l0 x9_1).f0), .int .i64 ((rd_T43 l0 x9_1).f1), .int .i64 ((rd_T43 l0 x9_1).f2), .int .i64 ((rd_T43 l0 x9_1).f3), .int .i64 ((rd_T43 l0 x9_1).f4), .int .i64 ((rd_T43 l0 x9_1).f5), .bool ((rd_T43 l0 x9_1).f6), .int .i64 ((rd_T43 l0 x9_1).f7), .int .i64 ((rd_T43 l0 x9_1).f8), .int .i64 ((rd_T43 l0 x9_1).f9), .int .i64 ((rd_T43 l0 x9_1).f10), .int .i64 ((rd_T43 l0 x9_1).f11), .int .i64 ((rd_T43 l0 x9_1).f12)]] rfl (by (try simp only [List.map_toArray, List.map_cons, List.map_nil]); first | done | rfl | (simp only [List.length_drop, List.length_take]; rfl)) ?_; (with_reducible refine (annuityref14_Owes.calls k1 ((rd_T43 l0 x9_1).f0) ((rd_T43 l0 x9_1).f1) ((rd_T43 l0 x9_1).f2) ((rd_T43 l0 x9_1).f3) ((rd_T43 l0 x9_1).f4) ((rd_T43 l0 x9_1).f5) ((rd_T43 l0 x9_1).f6) ((rd_T43 l0 x9_1).f7) ((rd_T43 l0 x9_1).f8) ((rd_T43 l0 x9_1).f9) ((rd_T43 l0 x9_1).f10) ((rd_T43 l0 x9_1).f11) ((rd_T43 l0 x9_1).f12) t302 t303 _ A24.out).mono ?_); rintro e w86 ⟨rfl, hb⟩; refine ⟨_, rfl, ?_⟩; have n0_ := Aside0.mk (Kd.R_below (by exact rq HO_5.out) hb); have n1_ := Aside0.mk (blk_below (g := gb298) (Up.up BK298.out) hb); have n2_ := Aside0.mk (below_step (by exact h1q HB.out GE298.out) hb); clear HO_5; clear BK298; clear HB; have HO_5 := n0_; have BK298 := n1_; have HB := n2_; clear n0_ n1_ n2_; (try clear hb); (try clear hb2); (try clear hk); (try clear hi); have p304 : 0 ≤ (x9_1 : Int) := yd; have q304 : x9_1 < (t290.length : Int) := yd; obtain ⟨ad304, e304, hx304_0, hx304_1, hx304_2, hx304_3, hx304_4, hx304_5, hx304_6, hx304_7, hx304_8, hx304_9, hx304_10, hx304_11, hx304_12⟩ := at_T43 (Kd.R_reads' HO_5.out).2.2 x9_1 p304 q304; cases e304; replace p304 := eq_true p304; replace q304 := eq_true q304) | ((with_reducible refine gate_callee (f := 16) rfl ?_); refine goesL_ (some 98) rfl rfl Try.func16 (by kernel_rfl) rfl #[.agg #[.int .i64 ((rd_T43 t290 x9_1).f0), .int .i64 ((rd_T43 t290 x9_1).f1), .int .i64 ((rd_T43 t290 x9_1).f2), .int .i64 ((rd_T43 t290 x9_1).f3), .int .i64 ((rd_T43 t290 x9_1).f4), .int .i64 ((rd_T43 t290 x9_1).f5), .bool ((rd_T43 t290 x9_1).f6), .int .i64 ((rd_T43 t290 x9_1).f7), .int .i64 ((rd_T43 t290 x9_1).f8), .int .i64 ((rd_T43 t290 x9_1).f9), .int .i64 ((rd_T43 t290 x9_1).f10), .int .i64 ((rd_T43 t290 x9_1).f11), .int .i64 ((rd_T43 t290 x9_1).f12)]] rfl (by (try simp only [List.map_toArray, List.map_cons, List.map_nil]); first | done | rfl | (simp only [List.length_drop, List.length_take]; rfl)) ?_; (with_reducible refine (annuityref14_Owes.calls k1 ((rd_T43 t290 x9_1).f0) ((rd_T43 t290 x9_1).f1) ((rd_T43 t290 x9_1).f2) ((rd_T43 t290 x9_1).f3) ((rd_T43 t290 x9_1).f4) ((rd_T43 t290 x9_1).f5) ((rd_T43 t290 x9_1).f6) ((rd_T43 t290 x9_1).f7) ((rd_T43 t290 x9_1).f8) ((rd_T43 t290 x9_1).f9) ((rd_T43 t290 x9_1).f10) ((rd_T43 t290 x9_1).f11) ((rd_T43 t290 x9_1).f12) t305 t306 _ A25.out).mono ?_); rintro e w87 ⟨rfl, hb⟩; refine ⟨_, rfl, ?_⟩; have n0_ := Aside0.mk (Kd.R_below (by exact rq HO_5.out) hb); have n1_ := Aside0.mk (blk_below (g := gb298) (Up.up BK298.out) hb); have n2_ := Aside0.mk (below_step (by exact h1q HB.out GE298.out) hb); clear HO_5; clear BK298; clear HB; have HO_5 := n0_; have BK298 := n1_; have HB := n2_; clear n0_ n1_ n2_; (try clear hb); (try clear hb2); (try clear hk); (try clear hi)) | ((with_reducible refine gate_callee (f := 7) rfl ?_); refine goesL_ (some 107) rfl rfl Try.func7 (by kernel_rfl) rfl #[] rfl (by (try simp only [List.map_toArray, List.map_cons, List.map_nil]); first | done | rfl | (simp only [List.length_drop, List.length_take]; rfl)) ?_; (with_reducible refine (annuitylaw20_wakes.calls k1  t307 _ A85.out).mono ?_); rintro e w88 ⟨rfl, hb⟩; refine ⟨_, rfl, ?_⟩; have n0_ := Aside0.mk (Kd.R_below (by exact rq HO_5.out) hb); have n1_ := Aside0.mk (blk_below (g := gb298) (Up.up BK298.out) hb); have n2_ := Aside0.mk (below_step (by exact h1q HB.out GE298.out) hb); clear HO_5; clear BK298; clear HB; have HO_5 := n0_; have BK298 := n1_; have HB := n2_; clear n0_ n1_ n2_; (try clear hb); (try clear hb2); (try clear hk); (try clear hi)))
   go_ret
   exact ⟨by first | rfl | (simp [errW_none, errW_some] <;> rfl) | (simp [*, errW_none, errW_some] <;> rfl), by exact h1q HB.out GE298.out⟩
  rw [if_pos c27] at H
  have c27b0 : (t306 == 0) = true := beq_iff_eq.mpr c27
  have c27b1 : (t306 != 0) = false := bne_eq_false_iff_eq.mpr c27
  clear c27
  by_cases c28 : t305 > t302
  ·rw [if_pos c28] at H
   exact absurd H (by simp)
  rw [if_neg c28] at H
  have c28b0 : decide (t302 < t305) = false := decide_eq_false c28
  clear c28
  by_cases c29 : t296 > 0
  case neg =>
   rw [if_neg c29] at H
   have c29b0 : decide (0 < t296) = false := decide_eq_false c29
   clear c29
   by_cases c58 : t295 > 0
   case neg =>
    rw [if_neg c58] at H
    have c58b0 : decide (0 < t295) = false := decide_eq_false c58
    clear c58
    by_cases c73 : ((rd_T43 l0 x9_1).f8) = 0
    ·rw [if_pos c73] at H
     have c73b0 : (((rd_T43 l0 x9_1).f8) == 0) = true := beq_iff_eq.mpr c73
     have c73b1 : (((rd_T43 l0 x9_1).f8) != 0) = false := bne_eq_false_iff_eq.mpr c73
     clear c73
     have H' := Aside0.mk H
     clear H
     have p301 : 0 ≤ (x9_1 : Int) := yd
     have q301 : x9_1 < (l0.length : Int) := yd
     obtain ⟨ad301, e301, hx301_0, hx301_1, hx301_2, hx301_3, hx301_4, hx301_5, hx301_6, hx301_7, hx301_8, hx301_9, hx301_10, hx301_11, hx301_12⟩ := at_T43 HR0.out x9_1 p301 q301
     cases e301
     replace hx301_0 := hxb HB.out hx301_0
     replace hx301_1 := hxb HB.out hx301_1
     replace hx301_2 := hxb HB.out hx301_2
     replace hx301_3 := hxb HB.out hx301_3
     replace hx301_4 := hxb HB.out hx301_4
     replace hx301_5 := hxb HB.out hx301_5
     replace hx301_6 := hxb HB.out hx301_6
     replace hx301_7 := hxb HB.out hx301_7
     replace hx301_8 := hxb HB.out hx301_8
     replace hx301_9 := hxb HB.out hx301_9
     replace hx301_10 := hxb HB.out hx301_10
     replace hx301_11 := hxb HB.out hx301_11
     replace hx301_12 := hxb HB.out hx301_12
     replace p301 := eq_true p301
     replace q301 := eq_true q301
     try go_wp2_with (first | ((with_reducible refine gate_callee (f := 16) rfl ?_); refine goesL_ (some 90) rfl rfl Try.func16 (by kernel_rfl) rfl #[.agg #[.int .i64 ((rd_T43 l0 x9_1).f0), .int .i64 ((rd_T43 l0 x9_1).f1), .int .i64 ((rd_T43 l0 x9_1).f2), .int .i64 ((rd_T43 l0 x9_1).f3), .int .i64 ((rd_T43 l0 x9_1).f4), .int .i64 ((rd_T43 l0 x9_1).f5), .bool ((rd_T43 l0 x9_1).f6), .int .i64 ((rd_T43 l0 x9_1).f7), .int .i64 ((rd_T43 l0 x9_1).f8), .int .i64 ((rd_T43 l0 x9_1).f9), .int .i64 ((rd_T43 l0 x9_1).f10), .int .i64 ((rd_T43 l0 x9_1).f11), .int .i64 ((rd_T43 l0 x9_1).f12)]] rfl (by (try simp only [List.map_toArray, List.map_cons, List.map_nil]); first | done | rfl | (simp only [List.length_drop, List.length_take]; rfl)) ?_; (with_reducible refine (annuityref14_Owes.calls k1 ((rd_T43 l0 x9_1).f0) ((rd_T43 l0 x9_1).f1) ((rd_T43 l0 x9_1).f2) ((rd_T43 l0 x9_1).f3) ((rd_T43 l0 x9_1).f4) ((rd_T43 l0 x9_1).f5) ((rd_T43 l0 x9_1).f6) ((rd_T43 l0 x9_1).f7) ((rd_T43 l0 x9_1).f8) ((rd_T43 l0 x9_1).f9) ((rd_T43 l0 x9_1).f10) ((rd_T43 l0 x9_1).f11) ((rd_T43 l0 x9_1).f12) t302 t303 _ A24.out).mono ?_); rintro e w74 ⟨rfl, hb⟩; refine ⟨_, rfl, ?_⟩; have n0_ := Aside0.mk (Kd.R_below (by exact rq HO_5.out) hb); have n1_ := Aside0.mk (blk_below (g := gb298) (Up.up BK298.out) hb); have n2_ := Aside0.mk (below_step (by exact h1q HB.out GE298.out) hb); clear HO_5; clear BK298; clear HB; have HO_5 := n0_; have BK298 := n1_; have HB := n2_; clear n0_ n1_ n2_; (try clear hb); (try clear hb2); (try clear hk); (try clear hi); have p304 : 0 ≤ (x9_1 : Int) := yd; have q304 : x9_1 < (t290.length : Int) := yd; obtain ⟨ad304, e304, hx304_0, hx304_1, hx304_2, hx304_3, hx304_4, hx304_5, hx304_6, hx304_7, hx304_8, hx304_9, hx304_10, hx304_11, hx304_12⟩ := at_T43 (Kd.R_reads' HO_5.out).2.2 x9_1 p304 q304; cases e304; replace p304 := eq_true p304; replace q304 := eq_true q304) | ((with_reducible refine gate_callee (f := 16) rfl ?_); refine goesL_ (some 98) rfl rfl Try.func16 (by kernel_rfl) rfl #[.agg #[.int .i64 ((rd_T43 t290 x9_1).f0), .int .i64 ((rd_T43 t290 x9_1).f1), .int .i64 ((rd_T43 t290 x9_1).f2), .int .i64 ((rd_T43 t290 x9_1).f3), .int .i64 ((rd_T43 t290 x9_1).f4), .int .i64 ((rd_T43 t290 x9_1).f5), .bool ((rd_T43 t290 x9_1).f6), .int .i64 ((rd_T43 t290 x9_1).f7), .int .i64 ((rd_T43 t290 x9_1).f8), .int .i64 ((rd_T43 t290 x9_1).f9), .int .i64 ((rd_T43 t290 x9_1).f10), .int .i64 ((rd_T43 t290 x9_1).f11), .int .i64 ((rd_T43 t290 x9_1).f12)]] rfl (by (try simp only [List.map_toArray, List.map_cons, List.map_nil]); first | done | rfl | (simp only [List.length_drop, List.length_take]; rfl)) ?_; (with_reducible refine (annuityref14_Owes.calls k1 ((rd_T43 t290 x9_1).f0) ((rd_T43 t290 x9_1).f1) ((rd_T43 t290 x9_1).f2) ((rd_T43 t290 x9_1).f3) ((rd_T43 t290 x9_1).f4) ((rd_T43 t290 x9_1).f5) ((rd_T43 t290 x9_1).f6) ((rd_T43 t290 x9_1).f7) ((rd_T43 t290 x9_1).f8) ((rd_T43 t290 x9_1).f9) ((rd_T43 t290 x9_1).f10) ((rd_T43 t290 x9_1).f11) ((rd_T43 t290 x9_1).f12) t305 t306 _ A25.out).mono ?_); rintro e w75 ⟨rfl, hb⟩; refine ⟨_, rfl, ?_⟩; have n0_ := Aside0.mk (Kd.R_below (by exact rq HO_5.out) hb); have n1_ := Aside0.mk (blk_below (g := gb298) (Up.up BK298.out) hb); have n2_ := Aside0.mk (below_step (by exact h1q HB.out GE298.out) hb); clear HO_5; clear BK298; clear HB; have HO_5 := n0_; have BK298 := n1_; have HB := n2_; clear n0_ n1_ n2_; (try clear hb); (try clear hb2); (try clear hk); (try clear hi); have hcz76_0 : w75.cell? ⟨gb298, 0, none⟩ = some (.int .i64 t293) := (blk_cell BK298.out 0).trans rfl; have hcz76_1 : w75.cell? ⟨gb298, 1, none⟩ = some (.int .i64 t294) := (blk_cell BK298.out 1).trans rfl; have hcz76_2 : w75.cell? ⟨gb298, 2, none⟩ = some (.int .i64 t295) := (blk_cell BK298.out 2).trans rfl; have hcz76_3 : w75.cell? ⟨gb298, 3, none⟩ = some (.int .i64 t296) := (blk_cell BK298.out 3).trans rfl; have hfz76_0 := blk_frozen BK298.out 0; have hfz76_1 := blk_frozen BK298.out 1; have hfz76_2 := blk_frozen BK298.out 2; have hfz76_3 := blk_frozen BK298.out 3))
     have n0_ := Aside0.mk (Kd.R_drew HO_5.out)
     have n1_ := Aside0.mk (blk_drew BK298.out)
     have n2_ := Aside0.mk (below_drew1 HB.out)
     clear HO_5 BK298 HB
     have HO_5 := n0_
     have BK298 := n1_
     have HB := n2_
     clear n0_ n1_ n2_
     have p324 : 0 ≤ (x9_1 : Int) := yd
     have q324 : x9_1 < (l0.length : Int) := yd
     obtain ⟨ad324, e324, hx324_0, hx324_1, hx324_2, hx324_3, hx324_4, hx324_5, hx324_6, hx324_7, hx324_8, hx324_9, hx324_10, hx324_11, hx324_12⟩ := at_T43 HR0.out x9_1 p324 q324
     have hw324_12 := hx324_12
     have hw324_11 := hx324_11
     have hw324_10 := hx324_10
     have hw324_9 := hx324_9
     have hw324_8 := hx324_8
     have hw324_7 := hx324_7
     have hw324_6 := hx324_6
     have hw324_5 := hx324_5
     have hw324_4 := hx324_4
     have hw324_3 := hx324_3
     have hw324_2 := hx324_2
     have hw324_1 := hx324_1
     have hw324_0 := hx324_0
     obtain rfl : ad301 = ad324 := (by injection e324)
     replace hx324_0 := hxb HB.out hx324_0
     replace hx324_1 := hxb HB.out hx324_1
     replace hx324_2 := hxb HB.out hx324_2
     replace hx324_3 := hxb HB.out hx324_3
     replace hx324_4 := hxb HB.out hx324_4
     replace hx324_5 := hxb HB.out hx324_5
     replace hx324_6 := hxb HB.out hx324_6
     replace hx324_7 := hxb HB.out hx324_7
     replace hx324_8 := hxb HB.out hx324_8
     replace hx324_9 := hxb HB.out hx324_9
     replace hx324_10 := hxb HB.out hx324_10
     replace hx324_11 := hxb HB.out hx324_11
     replace hx324_12 := hxb HB.out hx324_12
     replace p324 := eq_true p324
     replace q324 := eq_true q324
     as_aux_lemma =>
     refine start_ (n := 18) (S := fun w' => w'.cell? (ad301.add ((x9_1).toNat * 13)) = some (.int .i64 ((rd_T43 l0 x9_1).f0)) ∧ w'.cell? ⟨(ad301.add ((x9_1).toNat * 13)).block, (ad301.add ((x9_1).toNat * 13)).off + 1, none⟩ = some (.int .i64 ((rd_T43 l0 x9_1).f1)) ∧ w'.cell? ⟨(ad301.add ((x9_1).toNat * 13)).block, (ad301.add ((x9_1).toNat * 13)).off + 2, none⟩ = some (.int .i64 ((rd_T43 l0 x9_1).f2)) ∧ w'.cell? ⟨(ad301.add ((x9_1).toNat * 13)).block, (ad301.add ((x9_1).toNat * 13)).off + 3, none⟩ = some (.int .i64 ((rd_T43 l0 x9_1).f3)) ∧ w'.cell? ⟨(ad301.add ((x9_1).toNat * 13)).block, (ad301.add ((x9_1).toNat * 13)).off + 4, none⟩ = some (.int .i64 ((rd_T43 l0 x9_1).f4)) ∧ w'.cell? ⟨(ad301.add ((x9_1).toNat * 13)).block, (ad301.add ((x9_1).toNat * 13)).off + 5, none⟩ = some (.int .i64 ((rd_T43 l0 x9_1).f5)) ∧ w'.cell? ⟨(ad301.add ((x9_1).toNat * 13)).block, (ad301.add ((x9_1).toNat * 13)).off + 6, none⟩ = some (.bool ((rd_T43 l0 x9_1).f6)) ∧ w'.cell? ⟨(ad301.add ((x9_1).toNat * 13)).block, (ad301.add ((x9_1).toNat * 13)).off + 7, none⟩ = some (.int .i64 ((rd_T43 l0 x9_1).f7)) ∧ w'.cell? ⟨(ad301.add ((x9_1).toNat * 13)).block, (ad301.add ((x9_1).toNat * 13)).off + 8, none⟩ = some (.int .i64 ((rd_T43 l0 x9_1).f8)) ∧ w'.cell? ⟨(ad301.add ((x9_1).toNat * 13)).block, (ad301.add ((x9_1).toNat * 13)).off + 9, none⟩ = some (.int .i64 ((rd_T43 l0 x9_1).f9)) ∧ w'.cell? ⟨(ad301.add ((x9_1).toNat * 13)).block, (ad301.add ((x9_1).toNat * 13)).off + 10, none⟩ = some (.int .i64 ((rd_T43 l0 x9_1).f10)) ∧ w'.cell? ⟨(ad301.add ((x9_1).toNat * 13)).block, (ad301.add ((x9_1).toNat * 13)).off + 11, none⟩ = some (.int .i64 ((rd_T43 l0 x9_1).f11)) ∧ w'.cell? ⟨(ad301.add ((x9_1).toNat * 13)).block, (ad301.add ((x9_1).toNat * 13)).off + 12, none⟩ = some (.int .i64 ((rd_T43 l0 x9_1).f12))) (ds := []) (annuitylaw20_PayWhole.fl 18 0) (by kernel_rfl) rfl rfl ⟨(hxb HB.out hw324_0), (hxb HB.out hw324_1), (hxb HB.out hw324_2), (hxb HB.out hw324_3), (hxb HB.out hw324_4), (hxb HB.out hw324_5), (hxb HB.out hw324_6), (hxb HB.out hw324_7), (hxb HB.out hw324_8), (hxb HB.out hw324_9), (hxb HB.out hw324_10), (hxb HB.out hw324_11), (hxb HB.out hw324_12)⟩ (fun hHeld => ?_); refine with_tabW annuitylaw20_PayWhole.tab18 annuitylaw20_PayWhole.bits18 (fun HT_ HW_ => ?_)
     generalize w75.drew = w77 at HO_5 BK298 HB hx324_0 hx324_1 hx324_10 hx324_11 hx324_12 hx324_2 hx324_3 hx324_4 hx324_5 hx324_6 hx324_7 hx324_8 hx324_9 hHeld ⊢
     refine annuitylaw20_PayWhole.y 0 141 18 1 HT_.out ?_
     refine annuitylaw20_PayWhole.y 1 142 18 3 HT_.out ?_
     refine annuitylaw20_PayWhole.y 2 143 18 7 HT_.out ?_
     refine annuitylaw20_PayWhole.y 3 144 18 15 HT_.out ?_
     refine annuitylaw20_PayWhole.t 4 145 18 31 HT_.out HW_.out hHeld ?_
     refine annuitylaw20_PayWhole.y 5 146 18 63 HT_.out ?_
     refine annuitylaw20_PayWhole.y 6 147 18 127 HT_.out ?_
     refine annuitylaw20_PayWhole.g 7 148 18 255 HT_.out ?_
     refine annuitylaw20_PayWhole.g 8 149 18 511 HT_.out ?_
     refine annuitylaw20_PayWhole.g 9 150 18 1023 HT_.out ?_
     refine annuitylaw20_PayWhole.g 10 151 18 2047 HT_.out ?_
     refine annuitylaw20_PayWhole.g 11 152 18 4095 HT_.out ?_
     refine annuitylaw20_PayWhole.g 12 153 18 8191 HT_.out ?_
     refine annuitylaw20_PayWhole.g 13 154 18 16383 HT_.out ?_
     refine annuitylaw20_PayWhole.g 14 155 18 32767 HT_.out ?_
     refine annuitylaw20_PayWhole.g 15 156 18 65535 HT_.out ?_
     refine annuitylaw20_PayWhole.g 16 157 18 131071 HT_.out ?_
     refine annuitylaw20_PayWhole.y 17 158 18 262143 HT_.out ?_
     refine done_ (done_of HT_.out (by kernel_rfl)) ?_
     try go_wp2
     go_roundg k1
     case measure => have := HK1.out; omega
     case rel => exact ⟨(wrap64 (x8_1 + (wrap64 (t302 - t305)))), (wrap64 (x9_1 + 1)), (by first | rfl | (simp; done) | (simp [*]; done)), (by first | rfl | (simp; done) | (simp [*]; done)), H', ⟨by have := HK1.out; omega⟩, ⟨by exact rq HO_5.out⟩, ⟨by exact bb BK298.out⟩, ⟨by exact h1q HB.out GE298.out⟩⟩
    rw [if_neg c73] at H
    have c73b0 : (((rd_T43 l0 x9_1).f8) == 0) = false := beq_eq_false_iff_ne.mpr c73
    have c73b1 : (((rd_T43 l0 x9_1).f8) != 0) = true := bne_iff_ne.mpr c73
    replace H := Option.bind_eq_some_iff.mp H
    obtain ⟨t327, A780, H⟩ := H
    replace H : (if t327 = true then (annuitylaw20_PayWhole.l0 k1 l0 a1 t290 (wrap64 (x8_1 + (wrap64 (t302 - t305)))) (wrap64 (x9_1 + 1)) t293 t294 t295 t296) else (none)) = some r := H
    have A78 := Aside0.mk A780
    clear A780
    by_cases c79 : t327 = true
    case neg =>
     replace c79 := Bool.eq_false_iff.mpr c79
     subst c79
     have H1 : (none) = some r := by rw [if_neg (show ¬ (false = true) by decide)] at H; exact H
     clear H
     have H := H1
     clear H1
     exact absurd H (by simp)
    subst c79
    have H1 : (annuitylaw20_PayWhole.l0 k1 l0 a1 t290 (wrap64 (x8_1 + (wrap64 (t302 - t305)))) (wrap64 (x9_1 + 1)) t293 t294 t295 t296) = some r := by rw [if_pos rfl] at H; exact H
    clear H
    have H := H1
    clear H1
    have H' := Aside0.mk H
    clear H
    have p301 : 0 ≤ (x9_1 : Int) := yd
    have q301 : x9_1 < (l0.length : Int) := yd
    obtain ⟨ad301, e301, hx301_0, hx301_1, hx301_2, hx301_3, hx301_4, hx301_5, hx301_6, hx301_7, hx301_8, hx301_9, hx301_10, hx301_11, hx301_12⟩ := at_T43 HR0.out x9_1 p301 q301
    cases e301
    replace hx301_0 := hxb HB.out hx301_0
    replace hx301_1 := hxb HB.out hx301_1
    replace hx301_2 := hxb HB.out hx301_2
    replace hx301_3 := hxb HB.out hx301_3
    replace hx301_4 := hxb HB.out hx301_4
    replace hx301_5 := hxb HB.out hx301_5
    replace hx301_6 := hxb HB.out hx301_6
    replace hx301_7 := hxb HB.out hx301_7
    replace hx301_8 := hxb HB.out hx301_8
    replace hx301_9 := hxb HB.out hx301_9
    replace hx301_10 := hxb HB.out hx301_10
    replace hx301_11 := hxb HB.out hx301_11
    replace hx301_12 := hxb HB.out hx301_12
    replace p301 := eq_true p301
    replace q301 := eq_true q301
    try go_wp2_with (first | ((with_reducible refine gate_callee (f := 16) rfl ?_); refine goesL_ (some 90) rfl rfl Try.func16 (by kernel_rfl) rfl #[.agg #[.int .i64 ((rd_T43 l0 x9_1).f0), .int .i64 ((rd_T43 l0 x9_1).f1), .int .i64 ((rd_T43 l0 x9_1).f2), .int .i64 ((rd_T43 l0 x9_1).f3), .int .i64 ((rd_T43 l0 x9_1).f4), .int .i64 ((rd_T43 l0 x9_1).f5), .bool ((rd_T43 l0 x9_1).f6), .int .i64 ((rd_T43 l0 x9_1).f7), .int .i64 ((rd_T43 l0 x9_1).f8), .int .i64 ((rd_T43 l0 x9_1).f9), .int .i64 ((rd_T43 l0 x9_1).f10), .int .i64 ((rd_T43 l0 x9_1).f11), .int .i64 ((rd_T43 l0 x9_1).f12)]] rfl (by (try simp only [List.map_toArray, List.map_cons, List.map_nil]); first | done | rfl | (simp only [List.length_drop, List.length_take]; rfl)) ?_; (with_reducible refine (annuityref14_Owes.calls k1 ((rd_T43 l0 x9_1).f0) ((rd_T43 l0 x9_1).f1) ((rd_T43 l0 x9_1).f2) ((rd_T43 l0 x9_1).f3) ((rd_T43 l0 x9_1).f4) ((rd_T43 l0 x9_1).f5) ((rd_T43 l0 x9_1).f6) ((rd_T43 l0 x9_1).f7) ((rd_T43 l0 x9_1).f8) ((rd_T43 l0 x9_1).f9) ((rd_T43 l0 x9_1).f10) ((rd_T43 l0 x9_1).f11) ((rd_T43 l0 x9_1).f12) t302 t303 _ A24.out).mono ?_); rintro e w80 ⟨rfl, hb⟩; refine ⟨_, rfl, ?_⟩; have n0_ := Aside0.mk (Kd.R_below (by exact rq HO_5.out) hb); have n1_ := Aside0.mk (blk_below (g := gb298) (Up.up BK298.out) hb); have n2_ := Aside0.mk (below_step (by exact h1q HB.out GE298.out) hb); clear HO_5; clear BK298; clear HB; have HO_5 := n0_; have BK298 := n1_; have HB := n2_; clear n0_ n1_ n2_; (try clear hb); (try clear hb2); (try clear hk); (try clear hi); have p304 : 0 ≤ (x9_1 : Int) := yd; have q304 : x9_1 < (t290.length : Int) := yd; obtain ⟨ad304, e304, hx304_0, hx304_1, hx304_2, hx304_3, hx304_4, hx304_5, hx304_6, hx304_7, hx304_8, hx304_9, hx304_10, hx304_11, hx304_12⟩ := at_T43 (Kd.R_reads' HO_5.out).2.2 x9_1 p304 q304; cases e304; replace p304 := eq_true p304; replace q304 := eq_true q304) | ((with_reducible refine gate_callee (f := 16) rfl ?_); refine goesL_ (some 98) rfl rfl Try.func16 (by kernel_rfl) rfl #[.agg #[.int .i64 ((rd_T43 t290 x9_1).f0), .int .i64 ((rd_T43 t290 x9_1).f1), .int .i64 ((rd_T43 t290 x9_1).f2), .int .i64 ((rd_T43 t290 x9_1).f3), .int .i64 ((rd_T43 t290 x9_1).f4), .int .i64 ((rd_T43 t290 x9_1).f5), .bool ((rd_T43 t290 x9_1).f6), .int .i64 ((rd_T43 t290 x9_1).f7), .int .i64 ((rd_T43 t290 x9_1).f8), .int .i64 ((rd_T43 t290 x9_1).f9), .int .i64 ((rd_T43 t290 x9_1).f10), .int .i64 ((rd_T43 t290 x9_1).f11), .int .i64 ((rd_T43 t290 x9_1).f12)]] rfl (by (try simp only [List.map_toArray, List.map_cons, List.map_nil]); first | done | rfl | (simp only [List.length_drop, List.length_take]; rfl)) ?_; (with_reducible refine (annuityref14_Owes.calls k1 ((rd_T43 t290 x9_1).f0) ((rd_T43 t290 x9_1).f1) ((rd_T43 t290 x9_1).f2) ((rd_T43 t290 x9_1).f3) ((rd_T43 t290 x9_1).f4) ((rd_T43 t290 x9_1).f5) ((rd_T43 t290 x9_1).f6) ((rd_T43 t290 x9_1).f7) ((rd_T43 t290 x9_1).f8) ((rd_T43 t290 x9_1).f9) ((rd_T43 t290 x9_1).f10) ((rd_T43 t290 x9_1).f11) ((rd_T43 t290 x9_1).f12) t305 t306 _ A25.out).mono ?_); rintro e w81 ⟨rfl, hb⟩; refine ⟨_, rfl, ?_⟩; have n0_ := Aside0.mk (Kd.R_below (by exact rq HO_5.out) hb); have n1_ := Aside0.mk (blk_below (g := gb298) (Up.up BK298.out) hb); have n2_ := Aside0.mk (below_step (by exact h1q HB.out GE298.out) hb); clear HO_5; clear BK298; clear HB; have HO_5 := n0_; have BK298 := n1_; have HB := n2_; clear n0_ n1_ n2_; (try clear hb); (try clear hb2); (try clear hk); (try clear hi); have hcz82_0 : w81.cell? ⟨gb298, 0, none⟩ = some (.int .i64 t293) := (blk_cell BK298.out 0).trans rfl; have hcz82_1 : w81.cell? ⟨gb298, 1, none⟩ = some (.int .i64 t294) := (blk_cell BK298.out 1).trans rfl; have hcz82_2 : w81.cell? ⟨gb298, 2, none⟩ = some (.int .i64 t295) := (blk_cell BK298.out 2).trans rfl; have hcz82_3 : w81.cell? ⟨gb298, 3, none⟩ = some (.int .i64 t296) := (blk_cell BK298.out 3).trans rfl; have hfz82_0 := blk_frozen BK298.out 0; have hfz82_1 := blk_frozen BK298.out 1; have hfz82_2 := blk_frozen BK298.out 2; have hfz82_3 := blk_frozen BK298.out 3))
    have n0_ := Aside0.mk (Kd.R_drew HO_5.out)
    have n1_ := Aside0.mk (blk_drew BK298.out)
    have n2_ := Aside0.mk (below_drew1 HB.out)
    clear HO_5 BK298 HB
    have HO_5 := n0_
    have BK298 := n1_
    have HB := n2_
    clear n0_ n1_ n2_
    have p324 : 0 ≤ (x9_1 : Int) := yd
    have q324 : x9_1 < (l0.length : Int) := yd
    obtain ⟨ad324, e324, hx324_0, hx324_1, hx324_2, hx324_3, hx324_4, hx324_5, hx324_6, hx324_7, hx324_8, hx324_9, hx324_10, hx324_11, hx324_12⟩ := at_T43 HR0.out x9_1 p324 q324
    have hw324_12 := hx324_12
    have hw324_11 := hx324_11
    have hw324_10 := hx324_10
    have hw324_9 := hx324_9
    have hw324_8 := hx324_8
    have hw324_7 := hx324_7
    have hw324_6 := hx324_6
    have hw324_5 := hx324_5
    have hw324_4 := hx324_4
    have hw324_3 := hx324_3
    have hw324_2 := hx324_2
    have hw324_1 := hx324_1
    have hw324_0 := hx324_0
    obtain rfl : ad301 = ad324 := (by injection e324)
    replace hx324_0 := hxb HB.out hx324_0
    replace hx324_1 := hxb HB.out hx324_1
    replace hx324_2 := hxb HB.out hx324_2
    replace hx324_3 := hxb HB.out hx324_3
    replace hx324_4 := hxb HB.out hx324_4
    replace hx324_5 := hxb HB.out hx324_5
    replace hx324_6 := hxb HB.out hx324_6
    replace hx324_7 := hxb HB.out hx324_7
    replace hx324_8 := hxb HB.out hx324_8
    replace hx324_9 := hxb HB.out hx324_9
    replace hx324_10 := hxb HB.out hx324_10
    replace hx324_11 := hxb HB.out hx324_11
    replace hx324_12 := hxb HB.out hx324_12
    replace p324 := eq_true p324
    replace q324 := eq_true q324
    have p325 : 0 ≤ (x9_1 : Int) := yd
    have q325 : x9_1 < (t290.length : Int) := yd
    obtain ⟨ad325, e325, hx325_0, hx325_1, hx325_2, hx325_3, hx325_4, hx325_5, hx325_6, hx325_7, hx325_8, hx325_9, hx325_10, hx325_11, hx325_12⟩ := at_T43 (Kd.R_reads' HO_5.out).2.2 x9_1 p325 q325
    obtain rfl : ad304 = ad325 := (by injection e325)
    replace p325 := eq_true p325
    replace q325 := eq_true q325
    have p326 : 0 ≤ (x9_1 : Int) := yd
    have q326 : x9_1 < (l0.length : Int) := yd
    obtain ⟨ad326, e326, hx326_0, hx326_1, hx326_2, hx326_3, hx326_4, hx326_5, hx326_6, hx326_7, hx326_8, hx326_9, hx326_10, hx326_11, hx326_12⟩ := at_T43 HR0.out x9_1 p326 q326
    have hw326_12 := hx326_12
    have hw326_11 := hx326_11
    have hw326_10 := hx326_10
    have hw326_9 := hx326_9
    have hw326_8 := hx326_8
    have hw326_7 := hx326_7
    have hw326_6 := hx326_6
    have hw326_5 := hx326_5
    have hw326_4 := hx326_4
    have hw326_3 := hx326_3
    have hw326_2 := hx326_2
    have hw326_1 := hx326_1
    have hw326_0 := hx326_0
    obtain rfl : ad301 = ad326 := (by injection e326)
    replace hx326_0 := hxb HB.out hx326_0
    replace hx326_1 := hxb HB.out hx326_1
    replace hx326_2 := hxb HB.out hx326_2
    replace hx326_3 := hxb HB.out hx326_3
    replace hx326_4 := hxb HB.out hx326_4
    replace hx326_5 := hxb HB.out hx326_5
    replace hx326_6 := hxb HB.out hx326_6
    replace hx326_7 := hxb HB.out hx326_7
    replace hx326_8 := hxb HB.out hx326_8
    replace hx326_9 := hxb HB.out hx326_9
    replace hx326_10 := hxb HB.out hx326_10
    replace hx326_11 := hxb HB.out hx326_11
    replace hx326_12 := hxb HB.out hx326_12
    replace p326 := eq_true p326
    replace q326 := eq_true q326
    as_aux_lemma =>
    refine start_ (n := 18) (S := fun w' => w'.cell? (ad301.add ((x9_1).toNat * 13)) = some (.int .i64 ((rd_T43 l0 x9_1).f0)) ∧ w'.cell? ⟨(ad301.add ((x9_1).toNat * 13)).block, (ad301.add ((x9_1).toNat * 13)).off + 1, none⟩ = some (.int .i64 ((rd_T43 l0 x9_1).f1)) ∧ w'.cell? ⟨(ad301.add ((x9_1).toNat * 13)).block, (ad301.add ((x9_1).toNat * 13)).off + 2, none⟩ = some (.int .i64 ((rd_T43 l0 x9_1).f2)) ∧ w'.cell? ⟨(ad301.add ((x9_1).toNat * 13)).block, (ad301.add ((x9_1).toNat * 13)).off + 3, none⟩ = some (.int .i64 ((rd_T43 l0 x9_1).f3)) ∧ w'.cell? ⟨(ad301.add ((x9_1).toNat * 13)).block, (ad301.add ((x9_1).toNat * 13)).off + 4, none⟩ = some (.int .i64 ((rd_T43 l0 x9_1).f4)) ∧ w'.cell? ⟨(ad301.add ((x9_1).toNat * 13)).block, (ad301.add ((x9_1).toNat * 13)).off + 5, none⟩ = some (.int .i64 ((rd_T43 l0 x9_1).f5)) ∧ w'.cell? ⟨(ad301.add ((x9_1).toNat * 13)).block, (ad301.add ((x9_1).toNat * 13)).off + 6, none⟩ = some (.bool ((rd_T43 l0 x9_1).f6)) ∧ w'.cell? ⟨(ad301.add ((x9_1).toNat * 13)).block, (ad301.add ((x9_1).toNat * 13)).off + 7, none⟩ = some (.int .i64 ((rd_T43 l0 x9_1).f7)) ∧ w'.cell? ⟨(ad301.add ((x9_1).toNat * 13)).block, (ad301.add ((x9_1).toNat * 13)).off + 8, none⟩ = some (.int .i64 ((rd_T43 l0 x9_1).f8)) ∧ w'.cell? ⟨(ad301.add ((x9_1).toNat * 13)).block, (ad301.add ((x9_1).toNat * 13)).off + 9, none⟩ = some (.int .i64 ((rd_T43 l0 x9_1).f9)) ∧ w'.cell? ⟨(ad301.add ((x9_1).toNat * 13)).block, (ad301.add ((x9_1).toNat * 13)).off + 10, none⟩ = some (.int .i64 ((rd_T43 l0 x9_1).f10)) ∧ w'.cell? ⟨(ad301.add ((x9_1).toNat * 13)).block, (ad301.add ((x9_1).toNat * 13)).off + 11, none⟩ = some (.int .i64 ((rd_T43 l0 x9_1).f11)) ∧ w'.cell? ⟨(ad301.add ((x9_1).toNat * 13)).block, (ad301.add ((x9_1).toNat * 13)).off + 12, none⟩ = some (.int .i64 ((rd_T43 l0 x9_1).f12)) ∧ w'.cell? (ad304.add ((x9_1).toNat * 13)) = some (.int .i64 ((rd_T43 t290 x9_1).f0)) ∧ w'.cell? ⟨(ad304.add ((x9_1).toNat * 13)).block, (ad304.add ((x9_1).toNat * 13)).off + 1, none⟩ = some (.int .i64 ((rd_T43 t290 x9_1).f1)) ∧ w'.cell? ⟨(ad304.add ((x9_1).toNat * 13)).block, (ad304.add ((x9_1).toNat * 13)).off + 2, none⟩ = some (.int .i64 ((rd_T43 t290 x9_1).f2)) ∧ w'.cell? ⟨(ad304.add ((x9_1).toNat * 13)).block, (ad304.add ((x9_1).toNat * 13)).off + 3, none⟩ = some (.int .i64 ((rd_T43 t290 x9_1).f3)) ∧ w'.cell? ⟨(ad304.add ((x9_1).toNat * 13)).block, (ad304.add ((x9_1).toNat * 13)).off + 4, none⟩ = some (.int .i64 ((rd_T43 t290 x9_1).f4)) ∧ w'.cell? ⟨(ad304.add ((x9_1).toNat * 13)).block, (ad304.add ((x9_1).toNat * 13)).off + 5, none⟩ = some (.int .i64 ((rd_T43 t290 x9_1).f5)) ∧ w'.cell? ⟨(ad304.add ((x9_1).toNat * 13)).block, (ad304.add ((x9_1).toNat * 13)).off + 6, none⟩ = some (.bool ((rd_T43 t290 x9_1).f6)) ∧ w'.cell? ⟨(ad304.add ((x9_1).toNat * 13)).block, (ad304.add ((x9_1).toNat * 13)).off + 7, none⟩ = some (.int .i64 ((rd_T43 t290 x9_1).f7)) ∧ w'.cell? ⟨(ad304.add ((x9_1).toNat * 13)).block, (ad304.add ((x9_1).toNat * 13)).off + 8, none⟩ = some (.int .i64 ((rd_T43 t290 x9_1).f8)) ∧ w'.cell? ⟨(ad304.add ((x9_1).toNat * 13)).block, (ad304.add ((x9_1).toNat * 13)).off + 9, none⟩ = some (.int .i64 ((rd_T43 t290 x9_1).f9)) ∧ w'.cell? ⟨(ad304.add ((x9_1).toNat * 13)).block, (ad304.add ((x9_1).toNat * 13)).off + 10, none⟩ = some (.int .i64 ((rd_T43 t290 x9_1).f10)) ∧ w'.cell? ⟨(ad304.add ((x9_1).toNat * 13)).block, (ad304.add ((x9_1).toNat * 13)).off + 11, none⟩ = some (.int .i64 ((rd_T43 t290 x9_1).f11)) ∧ w'.cell? ⟨(ad304.add ((x9_1).toNat * 13)).block, (ad304.add ((x9_1).toNat * 13)).off + 12, none⟩ = some (.int .i64 ((rd_T43 t290 x9_1).f12)) ∧ w'.cell? (ad301.add ((x9_1).toNat * 13)) = some (.int .i64 ((rd_T43 l0 x9_1).f0)) ∧ w'.cell? ⟨(ad301.add ((x9_1).toNat * 13)).block, (ad301.add ((x9_1).toNat * 13)).off + 1, none⟩ = some (.int .i64 ((rd_T43 l0 x9_1).f1)) ∧ w'.cell? ⟨(ad301.add ((x9_1).toNat * 13)).block, (ad301.add ((x9_1).toNat * 13)).off + 2, none⟩ = some (.int .i64 ((rd_T43 l0 x9_1).f2)) ∧ w'.cell? ⟨(ad301.add ((x9_1).toNat * 13)).block, (ad301.add ((x9_1).toNat * 13)).off + 3, none⟩ = some (.int .i64 ((rd_T43 l0 x9_1).f3)) ∧ w'.cell? ⟨(ad301.add ((x9_1).toNat * 13)).block, (ad301.add ((x9_1).toNat * 13)).off + 4, none⟩ = some (.int .i64 ((rd_T43 l0 x9_1).f4)) ∧ w'.cell? ⟨(ad301.add ((x9_1).toNat * 13)).block, (ad301.add ((x9_1).toNat * 13)).off + 5, none⟩ = some (.int .i64 ((rd_T43 l0 x9_1).f5)) ∧ w'.cell? ⟨(ad301.add ((x9_1).toNat * 13)).block, (ad301.add ((x9_1).toNat * 13)).off + 6, none⟩ = some (.bool ((rd_T43 l0 x9_1).f6)) ∧ w'.cell? ⟨(ad301.add ((x9_1).toNat * 13)).block, (ad301.add ((x9_1).toNat * 13)).off + 7, none⟩ = some (.int .i64 ((rd_T43 l0 x9_1).f7)) ∧ w'.cell? ⟨(ad301.add ((x9_1).toNat * 13)).block, (ad301.add ((x9_1).toNat * 13)).off + 8, none⟩ = some (.int .i64 ((rd_T43 l0 x9_1).f8)) ∧ w'.cell? ⟨(ad301.add ((x9_1).toNat * 13)).block, (ad301.add ((x9_1).toNat * 13)).off + 9, none⟩ = some (.int .i64 ((rd_T43 l0 x9_1).f9)) ∧ w'.cell? ⟨(ad301.add ((x9_1).toNat * 13)).block, (ad301.add ((x9_1).toNat * 13)).off + 10, none⟩ = some (.int .i64 ((rd_T43 l0 x9_1).f10)) ∧ w'.cell? ⟨(ad301.add ((x9_1).toNat * 13)).block, (ad301.add ((x9_1).toNat * 13)).off + 11, none⟩ = some (.int .i64 ((rd_T43 l0 x9_1).f11)) ∧ w'.cell? ⟨(ad301.add ((x9_1).toNat * 13)).block, (ad301.add ((x9_1).toNat * 13)).off + 12, none⟩ = some (.int .i64 ((rd_T43 l0 x9_1).f12))) (ds := []) (annuitylaw20_PayWhole.fl 18 0) (by kernel_rfl) rfl rfl ⟨(hxb HB.out hw324_0), (hxb HB.out hw324_1), (hxb HB.out hw324_2), (hxb HB.out hw324_3), (hxb HB.out hw324_4), (hxb HB.out hw324_5), (hxb HB.out hw324_6), (hxb HB.out hw324_7), (hxb HB.out hw324_8), (hxb HB.out hw324_9), (hxb HB.out hw324_10), (hxb HB.out hw324_11), (hxb HB.out hw324_12), hx325_0, hx325_1, hx325_2, hx325_3, hx325_4, hx325_5, hx325_6, hx325_7, hx325_8, hx325_9, hx325_10, hx325_11, hx325_12, (hxb HB.out hw326_0), (hxb HB.out hw326_1), (hxb HB.out hw326_2), (hxb HB.out hw326_3), (hxb HB.out hw326_4), (hxb HB.out hw326_5), (hxb HB.out hw326_6), (hxb HB.out hw326_7), (hxb HB.out hw326_8), (hxb HB.out hw326_9), (hxb HB.out hw326_10), (hxb HB.out hw326_11), (hxb HB.out hw326_12)⟩ (fun hHeld => ?_); refine with_tabW annuitylaw20_PayWhole.tab18 annuitylaw20_PayWhole.bits18 (fun HT_ HW_ => ?_)
    generalize w81.drew = w83 at HO_5 BK298 HB hx324_0 hx324_1 hx324_10 hx324_11 hx324_12 hx324_2 hx324_3 hx324_4 hx324_5 hx324_6 hx324_7 hx324_8 hx324_9 hx325_0 hx325_1 hx325_10 hx325_11 hx325_12 hx325_2 hx325_3 hx325_4 hx325_5 hx325_6 hx325_7 hx325_8 hx325_9 hx326_0 hx326_1 hx326_10 hx326_11 hx326_12 hx326_2 hx326_3 hx326_4 hx326_5 hx326_6 hx326_7 hx326_8 hx326_9 hHeld ⊢
    refine annuitylaw20_PayWhole.y 0 141 18 1 HT_.out ?_
    refine annuitylaw20_PayWhole.y 1 142 18 3 HT_.out ?_
    refine annuitylaw20_PayWhole.y 2 143 18 7 HT_.out ?_
    refine annuitylaw20_PayWhole.y 3 144 18 15 HT_.out ?_
    refine annuitylaw20_PayWhole.t 4 145 18 31 HT_.out HW_.out hHeld ?_
    refine annuitylaw20_PayWhole.y 5 146 18 63 HT_.out ?_
    refine annuitylaw20_PayWhole.y 6 147 18 127 HT_.out ?_
    refine annuitylaw20_PayWhole.y 7 148 18 255 HT_.out ?_
    refine annuitylaw20_PayWhole.y 8 149 18 511 HT_.out ?_
    refine annuitylaw20_PayWhole.y 9 150 18 1023 HT_.out ?_
    refine annuitylaw20_PayWhole.y 11 152 18 3071 HT_.out ?_
    refine annuitylaw20_PayWhole.y 12 153 18 7167 HT_.out ?_
    refine annuitylaw20_PayWhole.y 13 154 18 15359 HT_.out ?_
    refine annuitylaw20_PayWhole.t 10 151 18 16383 HT_.out HW_.out hHeld ?_
    refine annuitylaw20_PayWhole.t 14 155 18 32767 HT_.out HW_.out hHeld ?_
    refine one_ (i := 15) (N := some 156) (annuitylaw20_PayWhole.fl 18 65535) rfl rfl (one_of HT_.out (by kernel_rfl)) (by decide) (fun K hK => ?_)
    refine goes_ Try.func17 (by kernel_rfl) rfl #[.agg #[.int .i64 ((rd_T43 t290 x9_1).f0), .int .i64 ((rd_T43 t290 x9_1).f1), .int .i64 ((rd_T43 t290 x9_1).f2), .int .i64 ((rd_T43 t290 x9_1).f3), .int .i64 ((rd_T43 t290 x9_1).f4), .int .i64 ((rd_T43 t290 x9_1).f5), .bool ((rd_T43 t290 x9_1).f6), .int .i64 ((rd_T43 t290 x9_1).f7), .int .i64 ((rd_T43 t290 x9_1).f8), .int .i64 ((rd_T43 t290 x9_1).f9), .int .i64 ((rd_T43 t290 x9_1).f10), .int .i64 ((rd_T43 t290 x9_1).f11), .int .i64 ((rd_T43 t290 x9_1).f12)], .agg #[.int .i64 ((rd_T43 l0 x9_1).f0), .int .i64 ((rd_T43 l0 x9_1).f1), .int .i64 ((rd_T43 l0 x9_1).f2), .int .i64 ((rd_T43 l0 x9_1).f3), .int .i64 ((rd_T43 l0 x9_1).f4), .int .i64 ((rd_T43 l0 x9_1).f5), .bool ((rd_T43 l0 x9_1).f6), .int .i64 ((rd_T43 l0 x9_1).f7), .int .i64 ((rd_T43 l0 x9_1).f8), .int .i64 ((rd_T43 l0 x9_1).f9), .int .i64 ((rd_T43 l0 x9_1).f10), .int .i64 ((rd_T43 l0 x9_1).f11), .int .i64 ((rd_T43 l0 x9_1).f12)]] (by rfl) rfl rfl (by (try simp only [List.map_toArray, List.map_cons, List.map_nil]); first | done | rfl | (simp only [List.length_drop, List.length_take]; rfl)) ?_
    with_reducible refine (annuitykeep_Loan.calls ((rd_T43 t290 x9_1).f0) ((rd_T43 t290 x9_1).f1) ((rd_T43 t290 x9_1).f2) ((rd_T43 t290 x9_1).f3) ((rd_T43 t290 x9_1).f4) ((rd_T43 t290 x9_1).f5) ((rd_T43 t290 x9_1).f6) ((rd_T43 t290 x9_1).f7) ((rd_T43 t290 x9_1).f8) ((rd_T43 t290 x9_1).f9) ((rd_T43 t290 x9_1).f10) ((rd_T43 t290 x9_1).f11) ((rd_T43 t290 x9_1).f12) ((rd_T43 l0 x9_1).f0) ((rd_T43 l0 x9_1).f1) ((rd_T43 l0 x9_1).f2) ((rd_T43 l0 x9_1).f3) ((rd_T43 l0 x9_1).f4) ((rd_T43 l0 x9_1).f5) ((rd_T43 l0 x9_1).f6) ((rd_T43 l0 x9_1).f7) ((rd_T43 l0 x9_1).f8) ((rd_T43 l0 x9_1).f9) ((rd_T43 l0 x9_1).f10) ((rd_T43 l0 x9_1).f11) ((rd_T43 l0 x9_1).f12) true _ A78.out).mono ?_
    rintro e w84 ⟨rfl, hb⟩
    have HS13_ := hxb hb (hHeld.2.2.2.2.2.2.2.2.2.2.2.2.2.1)
    have HS14_ := hxb hb (hHeld.2.2.2.2.2.2.2.2.2.2.2.2.2.2.1)
    have HS15_ := hxb hb (hHeld.2.2.2.2.2.2.2.2.2.2.2.2.2.2.2.1)
    have HS16_ := hxb hb (hHeld.2.2.2.2.2.2.2.2.2.2.2.2.2.2.2.2.1)
    have HS17_ := hxb hb (hHeld.2.2.2.2.2.2.2.2.2.2.2.2.2.2.2.2.2.1)
    have HS18_ := hxb hb (hHeld.2.2.2.2.2.2.2.2.2.2.2.2.2.2.2.2.2.2.1)
    have HS19_ := hxb hb (hHeld.2.2.2.2.2.2.2.2.2.2.2.2.2.2.2.2.2.2.2.1)
    have HS20_ := hxb hb (hHeld.2.2.2.2.2.2.2.2.2.2.2.2.2.2.2.2.2.2.2.2.1)
    have HS21_ := hxb hb (hHeld.2.2.2.2.2.2.2.2.2.2.2.2.2.2.2.2.2.2.2.2.2.1)
    have HS22_ := hxb hb (hHeld.2.2.2.2.2.2.2.2.2.2.2.2.2.2.2.2.2.2.2.2.2.2.1)
    have HS23_ := hxb hb (hHeld.2.2.2.2.2.2.2.2.2.2.2.2.2.2.2.2.2.2.2.2.2.2.2.1)
    have HS24_ := hxb hb (hHeld.2.2.2.2.2.2.2.2.2.2.2.2.2.2.2.2.2.2.2.2.2.2.2.2.1)
    have HS25_ := hxb hb (hHeld.2.2.2.2.2.2.2.2.2.2.2.2.2.2.2.2.2.2.2.2.2.2.2.2.2.1)
    refine ⟨_, rfl, ?_⟩
    have n0_ := Aside0.mk (Kd.R_below (by exact rq HO_5.out) hb)
    have n1_ := Aside0.mk (blk_below (g := gb298) (Up.up BK298.out) hb)
    have n2_ := Aside0.mk (below_step (by exact h1q HB.out GE298.out) hb)
    clear HO_5 BK298 HB
    have HO_5 := n0_
    have BK298 := n1_
    have HB := n2_
    clear n0_ n1_ n2_
    (try clear hb)
    (try clear hb2)
    (try clear hk)
    (try clear hi)
    refine hK.out _ _ ⟨(hxb HB.out hw324_0), (hxb HB.out hw324_1), (hxb HB.out hw324_2), (hxb HB.out hw324_3), (hxb HB.out hw324_4), (hxb HB.out hw324_5), (hxb HB.out hw324_6), (hxb HB.out hw324_7), (hxb HB.out hw324_8), (hxb HB.out hw324_9), (hxb HB.out hw324_10), (hxb HB.out hw324_11), (hxb HB.out hw324_12), HS13_, HS14_, HS15_, HS16_, HS17_, HS18_, HS19_, HS20_, HS21_, HS22_, HS23_, HS24_, HS25_, (hxb HB.out hw326_0), (hxb HB.out hw326_1), (hxb HB.out hw326_2), (hxb HB.out hw326_3), (hxb HB.out hw326_4), (hxb HB.out hw326_5), (hxb HB.out hw326_6), (hxb HB.out hw326_7), (hxb HB.out hw326_8), (hxb HB.out hw326_9), (hxb HB.out hw326_10), (hxb HB.out hw326_11), (hxb HB.out hw326_12)⟩ (fun hHeld => ?_)
    clear hK K
    refine norm_ (a' := ?_) ?_ ?_
    rotate_left
    ·show Act.put _ (some 156) _ = _
     simp only [Act.put, List.setIfInBounds_toArray, List.set_cons_zero, List.set_cons_succ, i64_w, i32_w]
     rfl
    refine annuitylaw20_PayWhole.y 16 157 18 131071 HT_.out ?_
    refine annuitylaw20_PayWhole.y 17 158 18 262143 HT_.out ?_
    refine done_ (done_of HT_.out (by kernel_rfl)) ?_
    try go_wp2
    go_roundg k1
    case measure => have := HK1.out; omega
    case rel => exact ⟨(wrap64 (x8_1 + (wrap64 (t302 - t305)))), (wrap64 (x9_1 + 1)), (by first | rfl | (simp; done) | (simp [*]; done)), (by first | rfl | (simp; done) | (simp [*]; done)), H', ⟨by have := HK1.out; omega⟩, ⟨by exact rq HO_5.out⟩, ⟨by exact bb BK298.out⟩, ⟨by exact h1q HB.out GE298.out⟩⟩
   rw [if_pos c58] at H
   have c58b0 : decide (0 < t295) = true := decide_eq_true c58
   clear c58
   by_cases c59 : ((rd_T43 t290 x9_1).f4) > 0
   ·rw [if_pos c59] at H
    exact absurd H (by simp)
   rw [if_neg c59] at H
   have c59b0 : decide (0 < ((rd_T43 t290 x9_1).f4)) = false := decide_eq_false c59
   clear c59
   by_cases c60 : ((rd_T43 t290 x9_1).f2) ≥ 1000000
   ·rw [if_pos c60] at H
    exact absurd H (by simp)
   rw [if_neg c60] at H
   have c60b0 : decide (1000000 ≤ ((rd_T43 t290 x9_1).f2)) = false := decide_eq_false c60
   clear c60
   by_cases c61 : ((rd_T43 l0 x9_1).f8) = 0
   ·rw [if_pos c61] at H
    have c61b0 : (((rd_T43 l0 x9_1).f8) == 0) = true := beq_iff_eq.mpr c61
    have c61b1 : (((rd_T43 l0 x9_1).f8) != 0) = false := bne_eq_false_iff_eq.mpr c61
    clear c61
    have H' := Aside0.mk H
    clear H
    have p301 : 0 ≤ (x9_1 : Int) := yd
    have q301 : x9_1 < (l0.length : Int) := yd
    obtain ⟨ad301, e301, hx301_0, hx301_1, hx301_2, hx301_3, hx301_4, hx301_5, hx301_6, hx301_7, hx301_8, hx301_9, hx301_10, hx301_11, hx301_12⟩ := at_T43 HR0.out x9_1 p301 q301
    cases e301
    replace hx301_0 := hxb HB.out hx301_0
    replace hx301_1 := hxb HB.out hx301_1
    replace hx301_2 := hxb HB.out hx301_2
    replace hx301_3 := hxb HB.out hx301_3
    replace hx301_4 := hxb HB.out hx301_4
    replace hx301_5 := hxb HB.out hx301_5
    replace hx301_6 := hxb HB.out hx301_6
    replace hx301_7 := hxb HB.out hx301_7
    replace hx301_8 := hxb HB.out hx301_8
    replace hx301_9 := hxb HB.out hx301_9
    replace hx301_10 := hxb HB.out hx301_10
    replace hx301_11 := hxb HB.out hx301_11
    replace hx301_12 := hxb HB.out hx301_12
    replace p301 := eq_true p301
    replace q301 := eq_true q301
    try go_wp2_with (first | ((with_reducible refine gate_callee (f := 16) rfl ?_); refine goesL_ (some 90) rfl rfl Try.func16 (by kernel_rfl) rfl #[.agg #[.int .i64 ((rd_T43 l0 x9_1).f0), .int .i64 ((rd_T43 l0 x9_1).f1), .int .i64 ((rd_T43 l0 x9_1).f2), .int .i64 ((rd_T43 l0 x9_1).f3), .int .i64 ((rd_T43 l0 x9_1).f4), .int .i64 ((rd_T43 l0 x9_1).f5), .bool ((rd_T43 l0 x9_1).f6), .int .i64 ((rd_T43 l0 x9_1).f7), .int .i64 ((rd_T43 l0 x9_1).f8), .int .i64 ((rd_T43 l0 x9_1).f9), .int .i64 ((rd_T43 l0 x9_1).f10), .int .i64 ((rd_T43 l0 x9_1).f11), .int .i64 ((rd_T43 l0 x9_1).f12)]] rfl (by (try simp only [List.map_toArray, List.map_cons, List.map_nil]); first | done | rfl | (simp only [List.length_drop, List.length_take]; rfl)) ?_; (with_reducible refine (annuityref14_Owes.calls k1 ((rd_T43 l0 x9_1).f0) ((rd_T43 l0 x9_1).f1) ((rd_T43 l0 x9_1).f2) ((rd_T43 l0 x9_1).f3) ((rd_T43 l0 x9_1).f4) ((rd_T43 l0 x9_1).f5) ((rd_T43 l0 x9_1).f6) ((rd_T43 l0 x9_1).f7) ((rd_T43 l0 x9_1).f8) ((rd_T43 l0 x9_1).f9) ((rd_T43 l0 x9_1).f10) ((rd_T43 l0 x9_1).f11) ((rd_T43 l0 x9_1).f12) t302 t303 _ A24.out).mono ?_); rintro e w62 ⟨rfl, hb⟩; refine ⟨_, rfl, ?_⟩; have n0_ := Aside0.mk (Kd.R_below (by exact rq HO_5.out) hb); have n1_ := Aside0.mk (blk_below (g := gb298) (Up.up BK298.out) hb); have n2_ := Aside0.mk (below_step (by exact h1q HB.out GE298.out) hb); clear HO_5; clear BK298; clear HB; have HO_5 := n0_; have BK298 := n1_; have HB := n2_; clear n0_ n1_ n2_; (try clear hb); (try clear hb2); (try clear hk); (try clear hi); have p304 : 0 ≤ (x9_1 : Int) := yd; have q304 : x9_1 < (t290.length : Int) := yd; obtain ⟨ad304, e304, hx304_0, hx304_1, hx304_2, hx304_3, hx304_4, hx304_5, hx304_6, hx304_7, hx304_8, hx304_9, hx304_10, hx304_11, hx304_12⟩ := at_T43 (Kd.R_reads' HO_5.out).2.2 x9_1 p304 q304; cases e304; replace p304 := eq_true p304; replace q304 := eq_true q304) | ((with_reducible refine gate_callee (f := 16) rfl ?_); refine goesL_ (some 98) rfl rfl Try.func16 (by kernel_rfl) rfl #[.agg #[.int .i64 ((rd_T43 t290 x9_1).f0), .int .i64 ((rd_T43 t290 x9_1).f1), .int .i64 ((rd_T43 t290 x9_1).f2), .int .i64 ((rd_T43 t290 x9_1).f3), .int .i64 ((rd_T43 t290 x9_1).f4), .int .i64 ((rd_T43 t290 x9_1).f5), .bool ((rd_T43 t290 x9_1).f6), .int .i64 ((rd_T43 t290 x9_1).f7), .int .i64 ((rd_T43 t290 x9_1).f8), .int .i64 ((rd_T43 t290 x9_1).f9), .int .i64 ((rd_T43 t290 x9_1).f10), .int .i64 ((rd_T43 t290 x9_1).f11), .int .i64 ((rd_T43 t290 x9_1).f12)]] rfl (by (try simp only [List.map_toArray, List.map_cons, List.map_nil]); first | done | rfl | (simp only [List.length_drop, List.length_take]; rfl)) ?_; (with_reducible refine (annuityref14_Owes.calls k1 ((rd_T43 t290 x9_1).f0) ((rd_T43 t290 x9_1).f1) ((rd_T43 t290 x9_1).f2) ((rd_T43 t290 x9_1).f3) ((rd_T43 t290 x9_1).f4) ((rd_T43 t290 x9_1).f5) ((rd_T43 t290 x9_1).f6) ((rd_T43 t290 x9_1).f7) ((rd_T43 t290 x9_1).f8) ((rd_T43 t290 x9_1).f9) ((rd_T43 t290 x9_1).f10) ((rd_T43 t290 x9_1).f11) ((rd_T43 t290 x9_1).f12) t305 t306 _ A25.out).mono ?_); rintro e w63 ⟨rfl, hb⟩; refine ⟨_, rfl, ?_⟩; have n0_ := Aside0.mk (Kd.R_below (by exact rq HO_5.out) hb); have n1_ := Aside0.mk (blk_below (g := gb298) (Up.up BK298.out) hb); have n2_ := Aside0.mk (below_step (by exact h1q HB.out GE298.out) hb); clear HO_5; clear BK298; clear HB; have HO_5 := n0_; have BK298 := n1_; have HB := n2_; clear n0_ n1_ n2_; (try clear hb); (try clear hb2); (try clear hk); (try clear hi); have hcz64_0 : w63.cell? ⟨gb298, 0, none⟩ = some (.int .i64 t293) := (blk_cell BK298.out 0).trans rfl; have hcz64_1 : w63.cell? ⟨gb298, 1, none⟩ = some (.int .i64 t294) := (blk_cell BK298.out 1).trans rfl; have hcz64_2 : w63.cell? ⟨gb298, 2, none⟩ = some (.int .i64 t295) := (blk_cell BK298.out 2).trans rfl; have hcz64_3 : w63.cell? ⟨gb298, 3, none⟩ = some (.int .i64 t296) := (blk_cell BK298.out 3).trans rfl; have hfz64_0 := blk_frozen BK298.out 0; have hfz64_1 := blk_frozen BK298.out 1; have hfz64_2 := blk_frozen BK298.out 2; have hfz64_3 := blk_frozen BK298.out 3; have p318 : 0 ≤ (x9_1 : Int) := yd; have q318 : x9_1 < (t290.length : Int) := yd; obtain ⟨ad318, e318, hx318_0, hx318_1, hx318_2, hx318_3, hx318_4, hx318_5, hx318_6, hx318_7, hx318_8, hx318_9, hx318_10, hx318_11, hx318_12⟩ := at_T43 (Kd.R_reads' HO_5.out).2.2 x9_1 p318 q318; obtain rfl : ad304 = ad318 := (by injection e318); replace p318 := eq_true p318; replace q318 := eq_true q318; have p319 : 0 ≤ (x9_1 : Int) := yd; have q319 : x9_1 < (t290.length : Int) := yd; obtain ⟨ad319, e319, hx319_0, hx319_1, hx319_2, hx319_3, hx319_4, hx319_5, hx319_6, hx319_7, hx319_8, hx319_9, hx319_10, hx319_11, hx319_12⟩ := at_T43 (Kd.R_reads' HO_5.out).2.2 x9_1 p319 q319; obtain rfl : ad304 = ad319 := (by injection e319); replace p319 := eq_true p319; replace q319 := eq_true q319))
    have n0_ := Aside0.mk (Kd.R_drew HO_5.out)
    have n1_ := Aside0.mk (blk_drew BK298.out)
    have n2_ := Aside0.mk (below_drew1 HB.out)
    clear HO_5 BK298 HB
    have HO_5 := n0_
    have BK298 := n1_
    have HB := n2_
    clear n0_ n1_ n2_
    have p320 : 0 ≤ (x9_1 : Int) := yd
    have q320 : x9_1 < (l0.length : Int) := yd
    obtain ⟨ad320, e320, hx320_0, hx320_1, hx320_2, hx320_3, hx320_4, hx320_5, hx320_6, hx320_7, hx320_8, hx320_9, hx320_10, hx320_11, hx320_12⟩ := at_T43 HR0.out x9_1 p320 q320
    have hw320_12 := hx320_12
    have hw320_11 := hx320_11
    have hw320_10 := hx320_10
    have hw320_9 := hx320_9
    have hw320_8 := hx320_8
    have hw320_7 := hx320_7
    have hw320_6 := hx320_6
    have hw320_5 := hx320_5
    have hw320_4 := hx320_4
    have hw320_3 := hx320_3
    have hw320_2 := hx320_2
    have hw320_1 := hx320_1
    have hw320_0 := hx320_0
    obtain rfl : ad301 = ad320 := (by injection e320)
    replace hx320_0 := hxb HB.out hx320_0
    replace hx320_1 := hxb HB.out hx320_1
    replace hx320_2 := hxb HB.out hx320_2
    replace hx320_3 := hxb HB.out hx320_3
    replace hx320_4 := hxb HB.out hx320_4
    replace hx320_5 := hxb HB.out hx320_5
    replace hx320_6 := hxb HB.out hx320_6
    replace hx320_7 := hxb HB.out hx320_7
    replace hx320_8 := hxb HB.out hx320_8
    replace hx320_9 := hxb HB.out hx320_9
    replace hx320_10 := hxb HB.out hx320_10
    replace hx320_11 := hxb HB.out hx320_11
    replace hx320_12 := hxb HB.out hx320_12
    replace p320 := eq_true p320
    replace q320 := eq_true q320
    as_aux_lemma =>
    refine start_ (n := 18) (S := fun w' => w'.cell? (ad301.add ((x9_1).toNat * 13)) = some (.int .i64 ((rd_T43 l0 x9_1).f0)) ∧ w'.cell? ⟨(ad301.add ((x9_1).toNat * 13)).block, (ad301.add ((x9_1).toNat * 13)).off + 1, none⟩ = some (.int .i64 ((rd_T43 l0 x9_1).f1)) ∧ w'.cell? ⟨(ad301.add ((x9_1).toNat * 13)).block, (ad301.add ((x9_1).toNat * 13)).off + 2, none⟩ = some (.int .i64 ((rd_T43 l0 x9_1).f2)) ∧ w'.cell? ⟨(ad301.add ((x9_1).toNat * 13)).block, (ad301.add ((x9_1).toNat * 13)).off + 3, none⟩ = some (.int .i64 ((rd_T43 l0 x9_1).f3)) ∧ w'.cell? ⟨(ad301.add ((x9_1).toNat * 13)).block, (ad301.add ((x9_1).toNat * 13)).off + 4, none⟩ = some (.int .i64 ((rd_T43 l0 x9_1).f4)) ∧ w'.cell? ⟨(ad301.add ((x9_1).toNat * 13)).block, (ad301.add ((x9_1).toNat * 13)).off + 5, none⟩ = some (.int .i64 ((rd_T43 l0 x9_1).f5)) ∧ w'.cell? ⟨(ad301.add ((x9_1).toNat * 13)).block, (ad301.add ((x9_1).toNat * 13)).off + 6, none⟩ = some (.bool ((rd_T43 l0 x9_1).f6)) ∧ w'.cell? ⟨(ad301.add ((x9_1).toNat * 13)).block, (ad301.add ((x9_1).toNat * 13)).off + 7, none⟩ = some (.int .i64 ((rd_T43 l0 x9_1).f7)) ∧ w'.cell? ⟨(ad301.add ((x9_1).toNat * 13)).block, (ad301.add ((x9_1).toNat * 13)).off + 8, none⟩ = some (.int .i64 ((rd_T43 l0 x9_1).f8)) ∧ w'.cell? ⟨(ad301.add ((x9_1).toNat * 13)).block, (ad301.add ((x9_1).toNat * 13)).off + 9, none⟩ = some (.int .i64 ((rd_T43 l0 x9_1).f9)) ∧ w'.cell? ⟨(ad301.add ((x9_1).toNat * 13)).block, (ad301.add ((x9_1).toNat * 13)).off + 10, none⟩ = some (.int .i64 ((rd_T43 l0 x9_1).f10)) ∧ w'.cell? ⟨(ad301.add ((x9_1).toNat * 13)).block, (ad301.add ((x9_1).toNat * 13)).off + 11, none⟩ = some (.int .i64 ((rd_T43 l0 x9_1).f11)) ∧ w'.cell? ⟨(ad301.add ((x9_1).toNat * 13)).block, (ad301.add ((x9_1).toNat * 13)).off + 12, none⟩ = some (.int .i64 ((rd_T43 l0 x9_1).f12))) (ds := []) (annuitylaw20_PayWhole.fl 18 0) (by kernel_rfl) rfl rfl ⟨(hxb HB.out hw320_0), (hxb HB.out hw320_1), (hxb HB.out hw320_2), (hxb HB.out hw320_3), (hxb HB.out hw320_4), (hxb HB.out hw320_5), (hxb HB.out hw320_6), (hxb HB.out hw320_7), (hxb HB.out hw320_8), (hxb HB.out hw320_9), (hxb HB.out hw320_10), (hxb HB.out hw320_11), (hxb HB.out hw320_12)⟩ (fun hHeld => ?_); refine with_tabW annuitylaw20_PayWhole.tab18 annuitylaw20_PayWhole.bits18 (fun HT_ HW_ => ?_)
    generalize w63.drew = w65 at HO_5 BK298 HB hx320_0 hx320_1 hx320_10 hx320_11 hx320_12 hx320_2 hx320_3 hx320_4 hx320_5 hx320_6 hx320_7 hx320_8 hx320_9 hHeld ⊢
    refine annuitylaw20_PayWhole.y 0 141 18 1 HT_.out ?_
    refine annuitylaw20_PayWhole.y 1 142 18 3 HT_.out ?_
    refine annuitylaw20_PayWhole.y 2 143 18 7 HT_.out ?_
    refine annuitylaw20_PayWhole.y 3 144 18 15 HT_.out ?_
    refine annuitylaw20_PayWhole.t 4 145 18 31 HT_.out HW_.out hHeld ?_
    refine annuitylaw20_PayWhole.y 5 146 18 63 HT_.out ?_
    refine annuitylaw20_PayWhole.y 6 147 18 127 HT_.out ?_
    refine annuitylaw20_PayWhole.g 7 148 18 255 HT_.out ?_
    refine annuitylaw20_PayWhole.g 8 149 18 511 HT_.out ?_
    refine annuitylaw20_PayWhole.g 9 150 18 1023 HT_.out ?_
    refine annuitylaw20_PayWhole.g 10 151 18 2047 HT_.out ?_
    refine annuitylaw20_PayWhole.g 11 152 18 4095 HT_.out ?_
    refine annuitylaw20_PayWhole.g 12 153 18 8191 HT_.out ?_
    refine annuitylaw20_PayWhole.g 13 154 18 16383 HT_.out ?_
    refine annuitylaw20_PayWhole.g 14 155 18 32767 HT_.out ?_
    refine annuitylaw20_PayWhole.g 15 156 18 65535 HT_.out ?_
    refine annuitylaw20_PayWhole.g 16 157 18 131071 HT_.out ?_
    refine annuitylaw20_PayWhole.y 17 158 18 262143 HT_.out ?_
    refine done_ (done_of HT_.out (by kernel_rfl)) ?_
    try go_wp2
    go_roundg k1
    case measure => have := HK1.out; omega
    case rel => exact ⟨(wrap64 (x8_1 + (wrap64 (t302 - t305)))), (wrap64 (x9_1 + 1)), (by first | rfl | (simp; done) | (simp [*]; done)), (by first | rfl | (simp; done) | (simp [*]; done)), H', ⟨by have := HK1.out; omega⟩, ⟨by exact rq HO_5.out⟩, ⟨by exact bb BK298.out⟩, ⟨by exact h1q HB.out GE298.out⟩⟩
   rw [if_neg c61] at H
   have c61b0 : (((rd_T43 l0 x9_1).f8) == 0) = false := beq_eq_false_iff_ne.mpr c61
   have c61b1 : (((rd_T43 l0 x9_1).f8) != 0) = true := bne_iff_ne.mpr c61
   replace H := Option.bind_eq_some_iff.mp H
   obtain ⟨t323, A660, H⟩ := H
   replace H : (if t323 = true then (annuitylaw20_PayWhole.l0 k1 l0 a1 t290 (wrap64 (x8_1 + (wrap64 (t302 - t305)))) (wrap64 (x9_1 + 1)) t293 t294 t295 t296) else (none)) = some r := H
   have A66 := Aside0.mk A660
   clear A660
   by_cases c67 : t323 = true
   case neg =>
    replace c67 := Bool.eq_false_iff.mpr c67
    subst c67
    have H1 : (none) = some r := by rw [if_neg (show ¬ (false = true) by decide)] at H; exact H
    clear H
    have H := H1
    clear H1
    exact absurd H (by simp)
   subst c67
   have H1 : (annuitylaw20_PayWhole.l0 k1 l0 a1 t290 (wrap64 (x8_1 + (wrap64 (t302 - t305)))) (wrap64 (x9_1 + 1)) t293 t294 t295 t296) = some r := by rw [if_pos rfl] at H; exact H
   clear H
   have H := H1
   clear H1
   have H' := Aside0.mk H
   clear H
   have p301 : 0 ≤ (x9_1 : Int) := yd
   have q301 : x9_1 < (l0.length : Int) := yd
   obtain ⟨ad301, e301, hx301_0, hx301_1, hx301_2, hx301_3, hx301_4, hx301_5, hx301_6, hx301_7, hx301_8, hx301_9, hx301_10, hx301_11, hx301_12⟩ := at_T43 HR0.out x9_1 p301 q301
   cases e301
   replace hx301_0 := hxb HB.out hx301_0
   replace hx301_1 := hxb HB.out hx301_1
   replace hx301_2 := hxb HB.out hx301_2
   replace hx301_3 := hxb HB.out hx301_3
   replace hx301_4 := hxb HB.out hx301_4
   replace hx301_5 := hxb HB.out hx301_5
   replace hx301_6 := hxb HB.out hx301_6
   replace hx301_7 := hxb HB.out hx301_7
   replace hx301_8 := hxb HB.out hx301_8
   replace hx301_9 := hxb HB.out hx301_9
   replace hx301_10 := hxb HB.out hx301_10
   replace hx301_11 := hxb HB.out hx301_11
   replace hx301_12 := hxb HB.out hx301_12
   replace p301 := eq_true p301
   replace q301 := eq_true q301
   try go_wp2_with (first | ((with_reducible refine gate_callee (f := 16) rfl ?_); refine goesL_ (some 90) rfl rfl Try.func16 (by kernel_rfl) rfl #[.agg #[.int .i64 ((rd_T43 l0 x9_1).f0), .int .i64 ((rd_T43 l0 x9_1).f1), .int .i64 ((rd_T43 l0 x9_1).f2), .int .i64 ((rd_T43 l0 x9_1).f3), .int .i64 ((rd_T43 l0 x9_1).f4), .int .i64 ((rd_T43 l0 x9_1).f5), .bool ((rd_T43 l0 x9_1).f6), .int .i64 ((rd_T43 l0 x9_1).f7), .int .i64 ((rd_T43 l0 x9_1).f8), .int .i64 ((rd_T43 l0 x9_1).f9), .int .i64 ((rd_T43 l0 x9_1).f10), .int .i64 ((rd_T43 l0 x9_1).f11), .int .i64 ((rd_T43 l0 x9_1).f12)]] rfl (by (try simp only [List.map_toArray, List.map_cons, List.map_nil]); first | done | rfl | (simp only [List.length_drop, List.length_take]; rfl)) ?_; (with_reducible refine (annuityref14_Owes.calls k1 ((rd_T43 l0 x9_1).f0) ((rd_T43 l0 x9_1).f1) ((rd_T43 l0 x9_1).f2) ((rd_T43 l0 x9_1).f3) ((rd_T43 l0 x9_1).f4) ((rd_T43 l0 x9_1).f5) ((rd_T43 l0 x9_1).f6) ((rd_T43 l0 x9_1).f7) ((rd_T43 l0 x9_1).f8) ((rd_T43 l0 x9_1).f9) ((rd_T43 l0 x9_1).f10) ((rd_T43 l0 x9_1).f11) ((rd_T43 l0 x9_1).f12) t302 t303 _ A24.out).mono ?_); rintro e w68 ⟨rfl, hb⟩; refine ⟨_, rfl, ?_⟩; have n0_ := Aside0.mk (Kd.R_below (by exact rq HO_5.out) hb); have n1_ := Aside0.mk (blk_below (g := gb298) (Up.up BK298.out) hb); have n2_ := Aside0.mk (below_step (by exact h1q HB.out GE298.out) hb); clear HO_5; clear BK298; clear HB; have HO_5 := n0_; have BK298 := n1_; have HB := n2_; clear n0_ n1_ n2_; (try clear hb); (try clear hb2); (try clear hk); (try clear hi); have p304 : 0 ≤ (x9_1 : Int) := yd; have q304 : x9_1 < (t290.length : Int) := yd; obtain ⟨ad304, e304, hx304_0, hx304_1, hx304_2, hx304_3, hx304_4, hx304_5, hx304_6, hx304_7, hx304_8, hx304_9, hx304_10, hx304_11, hx304_12⟩ := at_T43 (Kd.R_reads' HO_5.out).2.2 x9_1 p304 q304; cases e304; replace p304 := eq_true p304; replace q304 := eq_true q304) | ((with_reducible refine gate_callee (f := 16) rfl ?_); refine goesL_ (some 98) rfl rfl Try.func16 (by kernel_rfl) rfl #[.agg #[.int .i64 ((rd_T43 t290 x9_1).f0), .int .i64 ((rd_T43 t290 x9_1).f1), .int .i64 ((rd_T43 t290 x9_1).f2), .int .i64 ((rd_T43 t290 x9_1).f3), .int .i64 ((rd_T43 t290 x9_1).f4), .int .i64 ((rd_T43 t290 x9_1).f5), .bool ((rd_T43 t290 x9_1).f6), .int .i64 ((rd_T43 t290 x9_1).f7), .int .i64 ((rd_T43 t290 x9_1).f8), .int .i64 ((rd_T43 t290 x9_1).f9), .int .i64 ((rd_T43 t290 x9_1).f10), .int .i64 ((rd_T43 t290 x9_1).f11), .int .i64 ((rd_T43 t290 x9_1).f12)]] rfl (by (try simp only [List.map_toArray, List.map_cons, List.map_nil]); first | done | rfl | (simp only [List.length_drop, List.length_take]; rfl)) ?_; (with_reducible refine (annuityref14_Owes.calls k1 ((rd_T43 t290 x9_1).f0) ((rd_T43 t290 x9_1).f1) ((rd_T43 t290 x9_1).f2) ((rd_T43 t290 x9_1).f3) ((rd_T43 t290 x9_1).f4) ((rd_T43 t290 x9_1).f5) ((rd_T43 t290 x9_1).f6) ((rd_T43 t290 x9_1).f7) ((rd_T43 t290 x9_1).f8) ((rd_T43 t290 x9_1).f9) ((rd_T43 t290 x9_1).f10) ((rd_T43 t290 x9_1).f11) ((rd_T43 t290 x9_1).f12) t305 t306 _ A25.out).mono ?_); rintro e w69 ⟨rfl, hb⟩; refine ⟨_, rfl, ?_⟩; have n0_ := Aside0.mk (Kd.R_below (by exact rq HO_5.out) hb); have n1_ := Aside0.mk (blk_below (g := gb298) (Up.up BK298.out) hb); have n2_ := Aside0.mk (below_step (by exact h1q HB.out GE298.out) hb); clear HO_5; clear BK298; clear HB; have HO_5 := n0_; have BK298 := n1_; have HB := n2_; clear n0_ n1_ n2_; (try clear hb); (try clear hb2); (try clear hk); (try clear hi); have hcz70_0 : w69.cell? ⟨gb298, 0, none⟩ = some (.int .i64 t293) := (blk_cell BK298.out 0).trans rfl; have hcz70_1 : w69.cell? ⟨gb298, 1, none⟩ = some (.int .i64 t294) := (blk_cell BK298.out 1).trans rfl; have hcz70_2 : w69.cell? ⟨gb298, 2, none⟩ = some (.int .i64 t295) := (blk_cell BK298.out 2).trans rfl; have hcz70_3 : w69.cell? ⟨gb298, 3, none⟩ = some (.int .i64 t296) := (blk_cell BK298.out 3).trans rfl; have hfz70_0 := blk_frozen BK298.out 0; have hfz70_1 := blk_frozen BK298.out 1; have hfz70_2 := blk_frozen BK298.out 2; have hfz70_3 := blk_frozen BK298.out 3; have p318 : 0 ≤ (x9_1 : Int) := yd; have q318 : x9_1 < (t290.length : Int) := yd; obtain ⟨ad318, e318, hx318_0, hx318_1, hx318_2, hx318_3, hx318_4, hx318_5, hx318_6, hx318_7, hx318_8, hx318_9, hx318_10, hx318_11, hx318_12⟩ := at_T43 (Kd.R_reads' HO_5.out).2.2 x9_1 p318 q318; obtain rfl : ad304 = ad318 := (by injection e318); replace p318 := eq_true p318; replace q318 := eq_true q318; have p319 : 0 ≤ (x9_1 : Int) := yd; have q319 : x9_1 < (t290.length : Int) := yd; obtain ⟨ad319, e319, hx319_0, hx319_1, hx319_2, hx319_3, hx319_4, hx319_5, hx319_6, hx319_7, hx319_8, hx319_9, hx319_10, hx319_11, hx319_12⟩ := at_T43 (Kd.R_reads' HO_5.out).2.2 x9_1 p319 q319; obtain rfl : ad304 = ad319 := (by injection e319); replace p319 := eq_true p319; replace q319 := eq_true q319))
   have n0_ := Aside0.mk (Kd.R_drew HO_5.out)
   have n1_ := Aside0.mk (blk_drew BK298.out)
   have n2_ := Aside0.mk (below_drew1 HB.out)
   clear HO_5 BK298 HB
   have HO_5 := n0_
   have BK298 := n1_
   have HB := n2_
   clear n0_ n1_ n2_
   have p320 : 0 ≤ (x9_1 : Int) := yd
   have q320 : x9_1 < (l0.length : Int) := yd
   obtain ⟨ad320, e320, hx320_0, hx320_1, hx320_2, hx320_3, hx320_4, hx320_5, hx320_6, hx320_7, hx320_8, hx320_9, hx320_10, hx320_11, hx320_12⟩ := at_T43 HR0.out x9_1 p320 q320
   have hw320_12 := hx320_12
   have hw320_11 := hx320_11
   have hw320_10 := hx320_10
   have hw320_9 := hx320_9
   have hw320_8 := hx320_8
   have hw320_7 := hx320_7
   have hw320_6 := hx320_6
   have hw320_5 := hx320_5
   have hw320_4 := hx320_4
   have hw320_3 := hx320_3
   have hw320_2 := hx320_2
   have hw320_1 := hx320_1
   have hw320_0 := hx320_0
   obtain rfl : ad301 = ad320 := (by injection e320)
   replace hx320_0 := hxb HB.out hx320_0
   replace hx320_1 := hxb HB.out hx320_1
   replace hx320_2 := hxb HB.out hx320_2
   replace hx320_3 := hxb HB.out hx320_3
   replace hx320_4 := hxb HB.out hx320_4
   replace hx320_5 := hxb HB.out hx320_5
   replace hx320_6 := hxb HB.out hx320_6
   replace hx320_7 := hxb HB.out hx320_7
   replace hx320_8 := hxb HB.out hx320_8
   replace hx320_9 := hxb HB.out hx320_9
   replace hx320_10 := hxb HB.out hx320_10
   replace hx320_11 := hxb HB.out hx320_11
   replace hx320_12 := hxb HB.out hx320_12
   replace p320 := eq_true p320
   replace q320 := eq_true q320
   have p321 : 0 ≤ (x9_1 : Int) := yd
   have q321 : x9_1 < (t290.length : Int) := yd
   obtain ⟨ad321, e321, hx321_0, hx321_1, hx321_2, hx321_3, hx321_4, hx321_5, hx321_6, hx321_7, hx321_8, hx321_9, hx321_10, hx321_11, hx321_12⟩ := at_T43 (Kd.R_reads' HO_5.out).2.2 x9_1 p321 q321
   obtain rfl : ad304 = ad321 := (by injection e321)
   replace p321 := eq_true p321
   replace q321 := eq_true q321
   have p322 : 0 ≤ (x9_1 : Int) := yd
   have q322 : x9_1 < (l0.length : Int) := yd
   obtain ⟨ad322, e322, hx322_0, hx322_1, hx322_2, hx322_3, hx322_4, hx322_5, hx322_6, hx322_7, hx322_8, hx322_9, hx322_10, hx322_11, hx322_12⟩ := at_T43 HR0.out x9_1 p322 q322
   have hw322_12 := hx322_12
   have hw322_11 := hx322_11
   have hw322_10 := hx322_10
   have hw322_9 := hx322_9
   have hw322_8 := hx322_8
   have hw322_7 := hx322_7
   have hw322_6 := hx322_6
   have hw322_5 := hx322_5
   have hw322_4 := hx322_4
   have hw322_3 := hx322_3
   have hw322_2 := hx322_2
   have hw322_1 := hx322_1
   have hw322_0 := hx322_0
   obtain rfl : ad301 = ad322 := (by injection e322)
   replace hx322_0 := hxb HB.out hx322_0
   replace hx322_1 := hxb HB.out hx322_1
   replace hx322_2 := hxb HB.out hx322_2
   replace hx322_3 := hxb HB.out hx322_3
   replace hx322_4 := hxb HB.out hx322_4
   replace hx322_5 := hxb HB.out hx322_5
   replace hx322_6 := hxb HB.out hx322_6
   replace hx322_7 := hxb HB.out hx322_7
   replace hx322_8 := hxb HB.out hx322_8
   replace hx322_9 := hxb HB.out hx322_9
   replace hx322_10 := hxb HB.out hx322_10
   replace hx322_11 := hxb HB.out hx322_11
   replace hx322_12 := hxb HB.out hx322_12
   replace p322 := eq_true p322
   replace q322 := eq_true q322
   as_aux_lemma =>
   refine start_ (n := 18) (S := fun w' => w'.cell? (ad301.add ((x9_1).toNat * 13)) = some (.int .i64 ((rd_T43 l0 x9_1).f0)) ∧ w'.cell? ⟨(ad301.add ((x9_1).toNat * 13)).block, (ad301.add ((x9_1).toNat * 13)).off + 1, none⟩ = some (.int .i64 ((rd_T43 l0 x9_1).f1)) ∧ w'.cell? ⟨(ad301.add ((x9_1).toNat * 13)).block, (ad301.add ((x9_1).toNat * 13)).off + 2, none⟩ = some (.int .i64 ((rd_T43 l0 x9_1).f2)) ∧ w'.cell? ⟨(ad301.add ((x9_1).toNat * 13)).block, (ad301.add ((x9_1).toNat * 13)).off + 3, none⟩ = some (.int .i64 ((rd_T43 l0 x9_1).f3)) ∧ w'.cell? ⟨(ad301.add ((x9_1).toNat * 13)).block, (ad301.add ((x9_1).toNat * 13)).off + 4, none⟩ = some (.int .i64 ((rd_T43 l0 x9_1).f4)) ∧ w'.cell? ⟨(ad301.add ((x9_1).toNat * 13)).block, (ad301.add ((x9_1).toNat * 13)).off + 5, none⟩ = some (.int .i64 ((rd_T43 l0 x9_1).f5)) ∧ w'.cell? ⟨(ad301.add ((x9_1).toNat * 13)).block, (ad301.add ((x9_1).toNat * 13)).off + 6, none⟩ = some (.bool ((rd_T43 l0 x9_1).f6)) ∧ w'.cell? ⟨(ad301.add ((x9_1).toNat * 13)).block, (ad301.add ((x9_1).toNat * 13)).off + 7, none⟩ = some (.int .i64 ((rd_T43 l0 x9_1).f7)) ∧ w'.cell? ⟨(ad301.add ((x9_1).toNat * 13)).block, (ad301.add ((x9_1).toNat * 13)).off + 8, none⟩ = some (.int .i64 ((rd_T43 l0 x9_1).f8)) ∧ w'.cell? ⟨(ad301.add ((x9_1).toNat * 13)).block, (ad301.add ((x9_1).toNat * 13)).off + 9, none⟩ = some (.int .i64 ((rd_T43 l0 x9_1).f9)) ∧ w'.cell? ⟨(ad301.add ((x9_1).toNat * 13)).block, (ad301.add ((x9_1).toNat * 13)).off + 10, none⟩ = some (.int .i64 ((rd_T43 l0 x9_1).f10)) ∧ w'.cell? ⟨(ad301.add ((x9_1).toNat * 13)).block, (ad301.add ((x9_1).toNat * 13)).off + 11, none⟩ = some (.int .i64 ((rd_T43 l0 x9_1).f11)) ∧ w'.cell? ⟨(ad301.add ((x9_1).toNat * 13)).block, (ad301.add ((x9_1).toNat * 13)).off + 12, none⟩ = some (.int .i64 ((rd_T43 l0 x9_1).f12)) ∧ w'.cell? (ad304.add ((x9_1).toNat * 13)) = some (.int .i64 ((rd_T43 t290 x9_1).f0)) ∧ w'.cell? ⟨(ad304.add ((x9_1).toNat * 13)).block, (ad304.add ((x9_1).toNat * 13)).off + 1, none⟩ = some (.int .i64 ((rd_T43 t290 x9_1).f1)) ∧ w'.cell? ⟨(ad304.add ((x9_1).toNat * 13)).block, (ad304.add ((x9_1).toNat * 13)).off + 2, none⟩ = some (.int .i64 ((rd_T43 t290 x9_1).f2)) ∧ w'.cell? ⟨(ad304.add ((x9_1).toNat * 13)).block, (ad304.add ((x9_1).toNat * 13)).off + 3, none⟩ = some (.int .i64 ((rd_T43 t290 x9_1).f3)) ∧ w'.cell? ⟨(ad304.add ((x9_1).toNat * 13)).block, (ad304.add ((x9_1).toNat * 13)).off + 4, none⟩ = some (.int .i64 ((rd_T43 t290 x9_1).f4)) ∧ w'.cell? ⟨(ad304.add ((x9_1).toNat * 13)).block, (ad304.add ((x9_1).toNat * 13)).off + 5, none⟩ = some (.int .i64 ((rd_T43 t290 x9_1).f5)) ∧ w'.cell? ⟨(ad304.add ((x9_1).toNat * 13)).block, (ad304.add ((x9_1).toNat * 13)).off + 6, none⟩ = some (.bool ((rd_T43 t290 x9_1).f6)) ∧ w'.cell? ⟨(ad304.add ((x9_1).toNat * 13)).block, (ad304.add ((x9_1).toNat * 13)).off + 7, none⟩ = some (.int .i64 ((rd_T43 t290 x9_1).f7)) ∧ w'.cell? ⟨(ad304.add ((x9_1).toNat * 13)).block, (ad304.add ((x9_1).toNat * 13)).off + 8, none⟩ = some (.int .i64 ((rd_T43 t290 x9_1).f8)) ∧ w'.cell? ⟨(ad304.add ((x9_1).toNat * 13)).block, (ad304.add ((x9_1).toNat * 13)).off + 9, none⟩ = some (.int .i64 ((rd_T43 t290 x9_1).f9)) ∧ w'.cell? ⟨(ad304.add ((x9_1).toNat * 13)).block, (ad304.add ((x9_1).toNat * 13)).off + 10, none⟩ = some (.int .i64 ((rd_T43 t290 x9_1).f10)) ∧ w'.cell? ⟨(ad304.add ((x9_1).toNat * 13)).block, (ad304.add ((x9_1).toNat * 13)).off + 11, none⟩ = some (.int .i64 ((rd_T43 t290 x9_1).f11)) ∧ w'.cell? ⟨(ad304.add ((x9_1).toNat * 13)).block, (ad304.add ((x9_1).toNat * 13)).off + 12, none⟩ = some (.int .i64 ((rd_T43 t290 x9_1).f12)) ∧ w'.cell? (ad301.add ((x9_1).toNat * 13)) = some (.int .i64 ((rd_T43 l0 x9_1).f0)) ∧ w'.cell? ⟨(ad301.add ((x9_1).toNat * 13)).block, (ad301.add ((x9_1).toNat * 13)).off + 1, none⟩ = some (.int .i64 ((rd_T43 l0 x9_1).f1)) ∧ w'.cell? ⟨(ad301.add ((x9_1).toNat * 13)).block, (ad301.add ((x9_1).toNat * 13)).off + 2, none⟩ = some (.int .i64 ((rd_T43 l0 x9_1).f2)) ∧ w'.cell? ⟨(ad301.add ((x9_1).toNat * 13)).block, (ad301.add ((x9_1).toNat * 13)).off + 3, none⟩ = some (.int .i64 ((rd_T43 l0 x9_1).f3)) ∧ w'.cell? ⟨(ad301.add ((x9_1).toNat * 13)).block, (ad301.add ((x9_1).toNat * 13)).off + 4, none⟩ = some (.int .i64 ((rd_T43 l0 x9_1).f4)) ∧ w'.cell? ⟨(ad301.add ((x9_1).toNat * 13)).block, (ad301.add ((x9_1).toNat * 13)).off + 5, none⟩ = some (.int .i64 ((rd_T43 l0 x9_1).f5)) ∧ w'.cell? ⟨(ad301.add ((x9_1).toNat * 13)).block, (ad301.add ((x9_1).toNat * 13)).off + 6, none⟩ = some (.bool ((rd_T43 l0 x9_1).f6)) ∧ w'.cell? ⟨(ad301.add ((x9_1).toNat * 13)).block, (ad301.add ((x9_1).toNat * 13)).off + 7, none⟩ = some (.int .i64 ((rd_T43 l0 x9_1).f7)) ∧ w'.cell? ⟨(ad301.add ((x9_1).toNat * 13)).block, (ad301.add ((x9_1).toNat * 13)).off + 8, none⟩ = some (.int .i64 ((rd_T43 l0 x9_1).f8)) ∧ w'.cell? ⟨(ad301.add ((x9_1).toNat * 13)).block, (ad301.add ((x9_1).toNat * 13)).off + 9, none⟩ = some (.int .i64 ((rd_T43 l0 x9_1).f9)) ∧ w'.cell? ⟨(ad301.add ((x9_1).toNat * 13)).block, (ad301.add ((x9_1).toNat * 13)).off + 10, none⟩ = some (.int .i64 ((rd_T43 l0 x9_1).f10)) ∧ w'.cell? ⟨(ad301.add ((x9_1).toNat * 13)).block, (ad301.add ((x9_1).toNat * 13)).off + 11, none⟩ = some (.int .i64 ((rd_T43 l0 x9_1).f11)) ∧ w'.cell? ⟨(ad301.add ((x9_1).toNat * 13)).block, (ad301.add ((x9_1).toNat * 13)).off + 12, none⟩ = some (.int .i64 ((rd_T43 l0 x9_1).f12))) (ds := []) (annuitylaw20_PayWhole.fl 18 0) (by kernel_rfl) rfl rfl ⟨(hxb HB.out hw320_0), (hxb HB.out hw320_1), (hxb HB.out hw320_2), (hxb HB.out hw320_3), (hxb HB.out hw320_4), (hxb HB.out hw320_5), (hxb HB.out hw320_6), (hxb HB.out hw320_7), (hxb HB.out hw320_8), (hxb HB.out hw320_9), (hxb HB.out hw320_10), (hxb HB.out hw320_11), (hxb HB.out hw320_12), hx321_0, hx321_1, hx321_2, hx321_3, hx321_4, hx321_5, hx321_6, hx321_7, hx321_8, hx321_9, hx321_10, hx321_11, hx321_12, (hxb HB.out hw322_0), (hxb HB.out hw322_1), (hxb HB.out hw322_2), (hxb HB.out hw322_3), (hxb HB.out hw322_4), (hxb HB.out hw322_5), (hxb HB.out hw322_6), (hxb HB.out hw322_7), (hxb HB.out hw322_8), (hxb HB.out hw322_9), (hxb HB.out hw322_10), (hxb HB.out hw322_11), (hxb HB.out hw322_12)⟩ (fun hHeld => ?_); refine with_tabW annuitylaw20_PayWhole.tab18 annuitylaw20_PayWhole.bits18 (fun HT_ HW_ => ?_)
   generalize w69.drew = w71 at HO_5 BK298 HB hx320_0 hx320_1 hx320_10 hx320_11 hx320_12 hx320_2 hx320_3 hx320_4 hx320_5 hx320_6 hx320_7 hx320_8 hx320_9 hx321_0 hx321_1 hx321_10 hx321_11 hx321_12 hx321_2 hx321_3 hx321_4 hx321_5 hx321_6 hx321_7 hx321_8 hx321_9 hx322_0 hx322_1 hx322_10 hx322_11 hx322_12 hx322_2 hx322_3 hx322_4 hx322_5 hx322_6 hx322_7 hx322_8 hx322_9 hHeld ⊢
   refine annuitylaw20_PayWhole.y 0 141 18 1 HT_.out ?_
   refine annuitylaw20_PayWhole.y 1 142 18 3 HT_.out ?_
   refine annuitylaw20_PayWhole.y 2 143 18 7 HT_.out ?_
   refine annuitylaw20_PayWhole.y 3 144 18 15 HT_.out ?_
   refine annuitylaw20_PayWhole.t 4 145 18 31 HT_.out HW_.out hHeld ?_
   refine annuitylaw20_PayWhole.y 5 146 18 63 HT_.out ?_
   refine annuitylaw20_PayWhole.y 6 147 18 127 HT_.out ?_
   refine annuitylaw20_PayWhole.y 7 148 18 255 HT_.out ?_
   refine annuitylaw20_PayWhole.y 8 149 18 511 HT_.out ?_
   refine annuitylaw20_PayWhole.y 9 150 18 1023 HT_.out ?_
   refine annuitylaw20_PayWhole.y 11 152 18 3071 HT_.out ?_
   refine annuitylaw20_PayWhole.y 12 153 18 7167 HT_.out ?_
   refine annuitylaw20_PayWhole.y 13 154 18 15359 HT_.out ?_
   refine annuitylaw20_PayWhole.t 10 151 18 16383 HT_.out HW_.out hHeld ?_
   refine annuitylaw20_PayWhole.t 14 155 18 32767 HT_.out HW_.out hHeld ?_
   refine one_ (i := 15) (N := some 156) (annuitylaw20_PayWhole.fl 18 65535) rfl rfl (one_of HT_.out (by kernel_rfl)) (by decide) (fun K hK => ?_)
   refine goes_ Try.func17 (by kernel_rfl) rfl #[.agg #[.int .i64 ((rd_T43 t290 x9_1).f0), .int .i64 ((rd_T43 t290 x9_1).f1), .int .i64 ((rd_T43 t290 x9_1).f2), .int .i64 ((rd_T43 t290 x9_1).f3), .int .i64 ((rd_T43 t290 x9_1).f4), .int .i64 ((rd_T43 t290 x9_1).f5), .bool ((rd_T43 t290 x9_1).f6), .int .i64 ((rd_T43 t290 x9_1).f7), .int .i64 ((rd_T43 t290 x9_1).f8), .int .i64 ((rd_T43 t290 x9_1).f9), .int .i64 ((rd_T43 t290 x9_1).f10), .int .i64 ((rd_T43 t290 x9_1).f11), .int .i64 ((rd_T43 t290 x9_1).f12)], .agg #[.int .i64 ((rd_T43 l0 x9_1).f0), .int .i64 ((rd_T43 l0 x9_1).f1), .int .i64 ((rd_T43 l0 x9_1).f2), .int .i64 ((rd_T43 l0 x9_1).f3), .int .i64 ((rd_T43 l0 x9_1).f4), .int .i64 ((rd_T43 l0 x9_1).f5), .bool ((rd_T43 l0 x9_1).f6), .int .i64 ((rd_T43 l0 x9_1).f7), .int .i64 ((rd_T43 l0 x9_1).f8), .int .i64 ((rd_T43 l0 x9_1).f9), .int .i64 ((rd_T43 l0 x9_1).f10), .int .i64 ((rd_T43 l0 x9_1).f11), .int .i64 ((rd_T43 l0 x9_1).f12)]] (by rfl) rfl rfl (by (try simp only [List.map_toArray, List.map_cons, List.map_nil]); first | done | rfl | (simp only [List.length_drop, List.length_take]; rfl)) ?_
   with_reducible refine (annuitykeep_Loan.calls ((rd_T43 t290 x9_1).f0) ((rd_T43 t290 x9_1).f1) ((rd_T43 t290 x9_1).f2) ((rd_T43 t290 x9_1).f3) ((rd_T43 t290 x9_1).f4) ((rd_T43 t290 x9_1).f5) ((rd_T43 t290 x9_1).f6) ((rd_T43 t290 x9_1).f7) ((rd_T43 t290 x9_1).f8) ((rd_T43 t290 x9_1).f9) ((rd_T43 t290 x9_1).f10) ((rd_T43 t290 x9_1).f11) ((rd_T43 t290 x9_1).f12) ((rd_T43 l0 x9_1).f0) ((rd_T43 l0 x9_1).f1) ((rd_T43 l0 x9_1).f2) ((rd_T43 l0 x9_1).f3) ((rd_T43 l0 x9_1).f4) ((rd_T43 l0 x9_1).f5) ((rd_T43 l0 x9_1).f6) ((rd_T43 l0 x9_1).f7) ((rd_T43 l0 x9_1).f8) ((rd_T43 l0 x9_1).f9) ((rd_T43 l0 x9_1).f10) ((rd_T43 l0 x9_1).f11) ((rd_T43 l0 x9_1).f12) true _ A66.out).mono ?_
   rintro e w72 ⟨rfl, hb⟩
   have HS13_ := hxb hb (hHeld.2.2.2.2.2.2.2.2.2.2.2.2.2.1)
   have HS14_ := hxb hb (hHeld.2.2.2.2.2.2.2.2.2.2.2.2.2.2.1)
   have HS15_ := hxb hb (hHeld.2.2.2.2.2.2.2.2.2.2.2.2.2.2.2.1)
   have HS16_ := hxb hb (hHeld.2.2.2.2.2.2.2.2.2.2.2.2.2.2.2.2.1)
   have HS17_ := hxb hb (hHeld.2.2.2.2.2.2.2.2.2.2.2.2.2.2.2.2.2.1)
   have HS18_ := hxb hb (hHeld.2.2.2.2.2.2.2.2.2.2.2.2.2.2.2.2.2.2.1)
   have HS19_ := hxb hb (hHeld.2.2.2.2.2.2.2.2.2.2.2.2.2.2.2.2.2.2.2.1)
   have HS20_ := hxb hb (hHeld.2.2.2.2.2.2.2.2.2.2.2.2.2.2.2.2.2.2.2.2.1)
   have HS21_ := hxb hb (hHeld.2.2.2.2.2.2.2.2.2.2.2.2.2.2.2.2.2.2.2.2.2.1)
   have HS22_ := hxb hb (hHeld.2.2.2.2.2.2.2.2.2.2.2.2.2.2.2.2.2.2.2.2.2.2.1)
   have HS23_ := hxb hb (hHeld.2.2.2.2.2.2.2.2.2.2.2.2.2.2.2.2.2.2.2.2.2.2.2.1)
   have HS24_ := hxb hb (hHeld.2.2.2.2.2.2.2.2.2.2.2.2.2.2.2.2.2.2.2.2.2.2.2.2.1)
   have HS25_ := hxb hb (hHeld.2.2.2.2.2.2.2.2.2.2.2.2.2.2.2.2.2.2.2.2.2.2.2.2.2.1)
   refine ⟨_, rfl, ?_⟩
   have n0_ := Aside0.mk (Kd.R_below (by exact rq HO_5.out) hb)
   have n1_ := Aside0.mk (blk_below (g := gb298) (Up.up BK298.out) hb)
   have n2_ := Aside0.mk (below_step (by exact h1q HB.out GE298.out) hb)
   clear HO_5 BK298 HB
   have HO_5 := n0_
   have BK298 := n1_
   have HB := n2_
   clear n0_ n1_ n2_
   (try clear hb)
   (try clear hb2)
   (try clear hk)
   (try clear hi)
   refine hK.out _ _ ⟨(hxb HB.out hw320_0), (hxb HB.out hw320_1), (hxb HB.out hw320_2), (hxb HB.out hw320_3), (hxb HB.out hw320_4), (hxb HB.out hw320_5), (hxb HB.out hw320_6), (hxb HB.out hw320_7), (hxb HB.out hw320_8), (hxb HB.out hw320_9), (hxb HB.out hw320_10), (hxb HB.out hw320_11), (hxb HB.out hw320_12), HS13_, HS14_, HS15_, HS16_, HS17_, HS18_, HS19_, HS20_, HS21_, HS22_, HS23_, HS24_, HS25_, (hxb HB.out hw322_0), (hxb HB.out hw322_1), (hxb HB.out hw322_2), (hxb HB.out hw322_3), (hxb HB.out hw322_4), (hxb HB.out hw322_5), (hxb HB.out hw322_6), (hxb HB.out hw322_7), (hxb HB.out hw322_8), (hxb HB.out hw322_9), (hxb HB.out hw322_10), (hxb HB.out hw322_11), (hxb HB.out hw322_12)⟩ (fun hHeld => ?_)
   clear hK K
   refine norm_ (a' := ?_) ?_ ?_
   rotate_left
   ·show Act.put _ (some 156) _ = _
    simp only [Act.put, List.setIfInBounds_toArray, List.set_cons_zero, List.set_cons_succ, i64_w, i32_w]
    rfl
   refine annuitylaw20_PayWhole.y 16 157 18 131071 HT_.out ?_
   refine annuitylaw20_PayWhole.y 17 158 18 262143 HT_.out ?_
   refine done_ (done_of HT_.out (by kernel_rfl)) ?_
   try go_wp2
   go_roundg k1
   case measure => have := HK1.out; omega
   case rel => exact ⟨(wrap64 (x8_1 + (wrap64 (t302 - t305)))), (wrap64 (x9_1 + 1)), (by first | rfl | (simp; done) | (simp [*]; done)), (by first | rfl | (simp; done) | (simp [*]; done)), H', ⟨by have := HK1.out; omega⟩, ⟨by exact rq HO_5.out⟩, ⟨by exact bb BK298.out⟩, ⟨by exact h1q HB.out GE298.out⟩⟩
  rw [if_pos c29] at H
  have c29b0 : decide (0 < t296) = true := decide_eq_true c29
  clear c29
  by_cases c30 : t305 > 0
  ·rw [if_pos c30] at H
   exact absurd H (by simp)
  rw [if_neg c30] at H
  have c30b0 : decide (0 < t305) = false := decide_eq_false c30
  clear c30
  by_cases c31 : t295 > 0
  case neg =>
   rw [if_neg c31] at H
   have c31b0 : decide (0 < t295) = false := decide_eq_false c31
   clear c31
   by_cases c46 : ((rd_T43 l0 x9_1).f8) = 0
   ·rw [if_pos c46] at H
    have c46b0 : (((rd_T43 l0 x9_1).f8) == 0) = true := beq_iff_eq.mpr c46
    have c46b1 : (((rd_T43 l0 x9_1).f8) != 0) = false := bne_eq_false_iff_eq.mpr c46
    clear c46
    have H' := Aside0.mk H
    clear H
    have p301 : 0 ≤ (x9_1 : Int) := yd
    have q301 : x9_1 < (l0.length : Int) := yd
    obtain ⟨ad301, e301, hx301_0, hx301_1, hx301_2, hx301_3, hx301_4, hx301_5, hx301_6, hx301_7, hx301_8, hx301_9, hx301_10, hx301_11, hx301_12⟩ := at_T43 HR0.out x9_1 p301 q301
    cases e301
    replace hx301_0 := hxb HB.out hx301_0
    replace hx301_1 := hxb HB.out hx301_1
    replace hx301_2 := hxb HB.out hx301_2
    replace hx301_3 := hxb HB.out hx301_3
    replace hx301_4 := hxb HB.out hx301_4
    replace hx301_5 := hxb HB.out hx301_5
    replace hx301_6 := hxb HB.out hx301_6
    replace hx301_7 := hxb HB.out hx301_7
    replace hx301_8 := hxb HB.out hx301_8
    replace hx301_9 := hxb HB.out hx301_9
    replace hx301_10 := hxb HB.out hx301_10
    replace hx301_11 := hxb HB.out hx301_11
    replace hx301_12 := hxb HB.out hx301_12
    replace p301 := eq_true p301
    replace q301 := eq_true q301
    try go_wp2_with (first | ((with_reducible refine gate_callee (f := 16) rfl ?_); refine goesL_ (some 90) rfl rfl Try.func16 (by kernel_rfl) rfl #[.agg #[.int .i64 ((rd_T43 l0 x9_1).f0), .int .i64 ((rd_T43 l0 x9_1).f1), .int .i64 ((rd_T43 l0 x9_1).f2), .int .i64 ((rd_T43 l0 x9_1).f3), .int .i64 ((rd_T43 l0 x9_1).f4), .int .i64 ((rd_T43 l0 x9_1).f5), .bool ((rd_T43 l0 x9_1).f6), .int .i64 ((rd_T43 l0 x9_1).f7), .int .i64 ((rd_T43 l0 x9_1).f8), .int .i64 ((rd_T43 l0 x9_1).f9), .int .i64 ((rd_T43 l0 x9_1).f10), .int .i64 ((rd_T43 l0 x9_1).f11), .int .i64 ((rd_T43 l0 x9_1).f12)]] rfl (by (try simp only [List.map_toArray, List.map_cons, List.map_nil]); first | done | rfl | (simp only [List.length_drop, List.length_take]; rfl)) ?_; (with_reducible refine (annuityref14_Owes.calls k1 ((rd_T43 l0 x9_1).f0) ((rd_T43 l0 x9_1).f1) ((rd_T43 l0 x9_1).f2) ((rd_T43 l0 x9_1).f3) ((rd_T43 l0 x9_1).f4) ((rd_T43 l0 x9_1).f5) ((rd_T43 l0 x9_1).f6) ((rd_T43 l0 x9_1).f7) ((rd_T43 l0 x9_1).f8) ((rd_T43 l0 x9_1).f9) ((rd_T43 l0 x9_1).f10) ((rd_T43 l0 x9_1).f11) ((rd_T43 l0 x9_1).f12) t302 t303 _ A24.out).mono ?_); rintro e w47 ⟨rfl, hb⟩; refine ⟨_, rfl, ?_⟩; have n0_ := Aside0.mk (Kd.R_below (by exact rq HO_5.out) hb); have n1_ := Aside0.mk (blk_below (g := gb298) (Up.up BK298.out) hb); have n2_ := Aside0.mk (below_step (by exact h1q HB.out GE298.out) hb); clear HO_5; clear BK298; clear HB; have HO_5 := n0_; have BK298 := n1_; have HB := n2_; clear n0_ n1_ n2_; (try clear hb); (try clear hb2); (try clear hk); (try clear hi); have p304 : 0 ≤ (x9_1 : Int) := yd; have q304 : x9_1 < (t290.length : Int) := yd; obtain ⟨ad304, e304, hx304_0, hx304_1, hx304_2, hx304_3, hx304_4, hx304_5, hx304_6, hx304_7, hx304_8, hx304_9, hx304_10, hx304_11, hx304_12⟩ := at_T43 (Kd.R_reads' HO_5.out).2.2 x9_1 p304 q304; cases e304; replace p304 := eq_true p304; replace q304 := eq_true q304) | ((with_reducible refine gate_callee (f := 16) rfl ?_); refine goesL_ (some 98) rfl rfl Try.func16 (by kernel_rfl) rfl #[.agg #[.int .i64 ((rd_T43 t290 x9_1).f0), .int .i64 ((rd_T43 t290 x9_1).f1), .int .i64 ((rd_T43 t290 x9_1).f2), .int .i64 ((rd_T43 t290 x9_1).f3), .int .i64 ((rd_T43 t290 x9_1).f4), .int .i64 ((rd_T43 t290 x9_1).f5), .bool ((rd_T43 t290 x9_1).f6), .int .i64 ((rd_T43 t290 x9_1).f7), .int .i64 ((rd_T43 t290 x9_1).f8), .int .i64 ((rd_T43 t290 x9_1).f9), .int .i64 ((rd_T43 t290 x9_1).f10), .int .i64 ((rd_T43 t290 x9_1).f11), .int .i64 ((rd_T43 t290 x9_1).f12)]] rfl (by (try simp only [List.map_toArray, List.map_cons, List.map_nil]); first | done | rfl | (simp only [List.length_drop, List.length_take]; rfl)) ?_; (with_reducible refine (annuityref14_Owes.calls k1 ((rd_T43 t290 x9_1).f0) ((rd_T43 t290 x9_1).f1) ((rd_T43 t290 x9_1).f2) ((rd_T43 t290 x9_1).f3) ((rd_T43 t290 x9_1).f4) ((rd_T43 t290 x9_1).f5) ((rd_T43 t290 x9_1).f6) ((rd_T43 t290 x9_1).f7) ((rd_T43 t290 x9_1).f8) ((rd_T43 t290 x9_1).f9) ((rd_T43 t290 x9_1).f10) ((rd_T43 t290 x9_1).f11) ((rd_T43 t290 x9_1).f12) t305 t306 _ A25.out).mono ?_); rintro e w48 ⟨rfl, hb⟩; refine ⟨_, rfl, ?_⟩; have n0_ := Aside0.mk (Kd.R_below (by exact rq HO_5.out) hb); have n1_ := Aside0.mk (blk_below (g := gb298) (Up.up BK298.out) hb); have n2_ := Aside0.mk (below_step (by exact h1q HB.out GE298.out) hb); clear HO_5; clear BK298; clear HB; have HO_5 := n0_; have BK298 := n1_; have HB := n2_; clear n0_ n1_ n2_; (try clear hb); (try clear hb2); (try clear hk); (try clear hi); have hcz49_0 : w48.cell? ⟨gb298, 0, none⟩ = some (.int .i64 t293) := (blk_cell BK298.out 0).trans rfl; have hcz49_1 : w48.cell? ⟨gb298, 1, none⟩ = some (.int .i64 t294) := (blk_cell BK298.out 1).trans rfl; have hcz49_2 : w48.cell? ⟨gb298, 2, none⟩ = some (.int .i64 t295) := (blk_cell BK298.out 2).trans rfl; have hcz49_3 : w48.cell? ⟨gb298, 3, none⟩ = some (.int .i64 t296) := (blk_cell BK298.out 3).trans rfl; have hfz49_0 := blk_frozen BK298.out 0; have hfz49_1 := blk_frozen BK298.out 1; have hfz49_2 := blk_frozen BK298.out 2; have hfz49_3 := blk_frozen BK298.out 3))
    have n0_ := Aside0.mk (Kd.R_drew HO_5.out)
    have n1_ := Aside0.mk (blk_drew BK298.out)
    have n2_ := Aside0.mk (below_drew1 HB.out)
    clear HO_5 BK298 HB
    have HO_5 := n0_
    have BK298 := n1_
    have HB := n2_
    clear n0_ n1_ n2_
    have p314 : 0 ≤ (x9_1 : Int) := yd
    have q314 : x9_1 < (l0.length : Int) := yd
    obtain ⟨ad314, e314, hx314_0, hx314_1, hx314_2, hx314_3, hx314_4, hx314_5, hx314_6, hx314_7, hx314_8, hx314_9, hx314_10, hx314_11, hx314_12⟩ := at_T43 HR0.out x9_1 p314 q314
    have hw314_12 := hx314_12
    have hw314_11 := hx314_11
    have hw314_10 := hx314_10
    have hw314_9 := hx314_9
    have hw314_8 := hx314_8
    have hw314_7 := hx314_7
    have hw314_6 := hx314_6
    have hw314_5 := hx314_5
    have hw314_4 := hx314_4
    have hw314_3 := hx314_3
    have hw314_2 := hx314_2
    have hw314_1 := hx314_1
    have hw314_0 := hx314_0
    obtain rfl : ad301 = ad314 := (by injection e314)
    replace hx314_0 := hxb HB.out hx314_0
    replace hx314_1 := hxb HB.out hx314_1
    replace hx314_2 := hxb HB.out hx314_2
    replace hx314_3 := hxb HB.out hx314_3
    replace hx314_4 := hxb HB.out hx314_4
    replace hx314_5 := hxb HB.out hx314_5
    replace hx314_6 := hxb HB.out hx314_6
    replace hx314_7 := hxb HB.out hx314_7
    replace hx314_8 := hxb HB.out hx314_8
    replace hx314_9 := hxb HB.out hx314_9
    replace hx314_10 := hxb HB.out hx314_10
    replace hx314_11 := hxb HB.out hx314_11
    replace hx314_12 := hxb HB.out hx314_12
    replace p314 := eq_true p314
    replace q314 := eq_true q314
    as_aux_lemma =>
    refine start_ (n := 18) (S := fun w' => w'.cell? (ad301.add ((x9_1).toNat * 13)) = some (.int .i64 ((rd_T43 l0 x9_1).f0)) ∧ w'.cell? ⟨(ad301.add ((x9_1).toNat * 13)).block, (ad301.add ((x9_1).toNat * 13)).off + 1, none⟩ = some (.int .i64 ((rd_T43 l0 x9_1).f1)) ∧ w'.cell? ⟨(ad301.add ((x9_1).toNat * 13)).block, (ad301.add ((x9_1).toNat * 13)).off + 2, none⟩ = some (.int .i64 ((rd_T43 l0 x9_1).f2)) ∧ w'.cell? ⟨(ad301.add ((x9_1).toNat * 13)).block, (ad301.add ((x9_1).toNat * 13)).off + 3, none⟩ = some (.int .i64 ((rd_T43 l0 x9_1).f3)) ∧ w'.cell? ⟨(ad301.add ((x9_1).toNat * 13)).block, (ad301.add ((x9_1).toNat * 13)).off + 4, none⟩ = some (.int .i64 ((rd_T43 l0 x9_1).f4)) ∧ w'.cell? ⟨(ad301.add ((x9_1).toNat * 13)).block, (ad301.add ((x9_1).toNat * 13)).off + 5, none⟩ = some (.int .i64 ((rd_T43 l0 x9_1).f5)) ∧ w'.cell? ⟨(ad301.add ((x9_1).toNat * 13)).block, (ad301.add ((x9_1).toNat * 13)).off + 6, none⟩ = some (.bool ((rd_T43 l0 x9_1).f6)) ∧ w'.cell? ⟨(ad301.add ((x9_1).toNat * 13)).block, (ad301.add ((x9_1).toNat * 13)).off + 7, none⟩ = some (.int .i64 ((rd_T43 l0 x9_1).f7)) ∧ w'.cell? ⟨(ad301.add ((x9_1).toNat * 13)).block, (ad301.add ((x9_1).toNat * 13)).off + 8, none⟩ = some (.int .i64 ((rd_T43 l0 x9_1).f8)) ∧ w'.cell? ⟨(ad301.add ((x9_1).toNat * 13)).block, (ad301.add ((x9_1).toNat * 13)).off + 9, none⟩ = some (.int .i64 ((rd_T43 l0 x9_1).f9)) ∧ w'.cell? ⟨(ad301.add ((x9_1).toNat * 13)).block, (ad301.add ((x9_1).toNat * 13)).off + 10, none⟩ = some (.int .i64 ((rd_T43 l0 x9_1).f10)) ∧ w'.cell? ⟨(ad301.add ((x9_1).toNat * 13)).block, (ad301.add ((x9_1).toNat * 13)).off + 11, none⟩ = some (.int .i64 ((rd_T43 l0 x9_1).f11)) ∧ w'.cell? ⟨(ad301.add ((x9_1).toNat * 13)).block, (ad301.add ((x9_1).toNat * 13)).off + 12, none⟩ = some (.int .i64 ((rd_T43 l0 x9_1).f12))) (ds := []) (annuitylaw20_PayWhole.fl 18 0) (by kernel_rfl) rfl rfl ⟨(hxb HB.out hw314_0), (hxb HB.out hw314_1), (hxb HB.out hw314_2), (hxb HB.out hw314_3), (hxb HB.out hw314_4), (hxb HB.out hw314_5), (hxb HB.out hw314_6), (hxb HB.out hw314_7), (hxb HB.out hw314_8), (hxb HB.out hw314_9), (hxb HB.out hw314_10), (hxb HB.out hw314_11), (hxb HB.out hw314_12)⟩ (fun hHeld => ?_); refine with_tabW annuitylaw20_PayWhole.tab18 annuitylaw20_PayWhole.bits18 (fun HT_ HW_ => ?_)
    generalize w48.drew = w50 at HO_5 BK298 HB hx314_0 hx314_1 hx314_10 hx314_11 hx314_12 hx314_2 hx314_3 hx314_4 hx314_5 hx314_6 hx314_7 hx314_8 hx314_9 hHeld ⊢
    refine annuitylaw20_PayWhole.y 0 141 18 1 HT_.out ?_
    refine annuitylaw20_PayWhole.y 1 142 18 3 HT_.out ?_
    refine annuitylaw20_PayWhole.y 2 143 18 7 HT_.out ?_
    refine annuitylaw20_PayWhole.y 3 144 18 15 HT_.out ?_
    refine annuitylaw20_PayWhole.t 4 145 18 31 HT_.out HW_.out hHeld ?_
    refine annuitylaw20_PayWhole.y 5 146 18 63 HT_.out ?_
    refine annuitylaw20_PayWhole.y 6 147 18 127 HT_.out ?_
    refine annuitylaw20_PayWhole.g 7 148 18 255 HT_.out ?_
    refine annuitylaw20_PayWhole.g 8 149 18 511 HT_.out ?_
    refine annuitylaw20_PayWhole.g 9 150 18 1023 HT_.out ?_
    refine annuitylaw20_PayWhole.g 10 151 18 2047 HT_.out ?_
    refine annuitylaw20_PayWhole.g 11 152 18 4095 HT_.out ?_
    refine annuitylaw20_PayWhole.g 12 153 18 8191 HT_.out ?_
    refine annuitylaw20_PayWhole.g 13 154 18 16383 HT_.out ?_
    refine annuitylaw20_PayWhole.g 14 155 18 32767 HT_.out ?_
    refine annuitylaw20_PayWhole.g 15 156 18 65535 HT_.out ?_
    refine annuitylaw20_PayWhole.g 16 157 18 131071 HT_.out ?_
    refine annuitylaw20_PayWhole.y 17 158 18 262143 HT_.out ?_
    refine done_ (done_of HT_.out (by kernel_rfl)) ?_
    try go_wp2
    go_roundg k1
    case measure => have := HK1.out; omega
    case rel => exact ⟨(wrap64 (x8_1 + (wrap64 (t302 - t305)))), (wrap64 (x9_1 + 1)), (by first | rfl | (simp; done) | (simp [*]; done)), (by first | rfl | (simp; done) | (simp [*]; done)), H', ⟨by have := HK1.out; omega⟩, ⟨by exact rq HO_5.out⟩, ⟨by exact bb BK298.out⟩, ⟨by exact h1q HB.out GE298.out⟩⟩
   rw [if_neg c46] at H
   have c46b0 : (((rd_T43 l0 x9_1).f8) == 0) = false := beq_eq_false_iff_ne.mpr c46
   have c46b1 : (((rd_T43 l0 x9_1).f8) != 0) = true := bne_iff_ne.mpr c46
   replace H := Option.bind_eq_some_iff.mp H
   obtain ⟨t317, A510, H⟩ := H
   replace H : (if t317 = true then (annuitylaw20_PayWhole.l0 k1 l0 a1 t290 (wrap64 (x8_1 + (wrap64 (t302 - t305)))) (wrap64 (x9_1 + 1)) t293 t294 t295 t296) else (none)) = some r := H
   have A51 := Aside0.mk A510
   clear A510
   by_cases c52 : t317 = true
   case neg =>
    replace c52 := Bool.eq_false_iff.mpr c52
    subst c52
    have H1 : (none) = some r := by rw [if_neg (show ¬ (false = true) by decide)] at H; exact H
    clear H
    have H := H1
    clear H1
    exact absurd H (by simp)
   subst c52
   have H1 : (annuitylaw20_PayWhole.l0 k1 l0 a1 t290 (wrap64 (x8_1 + (wrap64 (t302 - t305)))) (wrap64 (x9_1 + 1)) t293 t294 t295 t296) = some r := by rw [if_pos rfl] at H; exact H
   clear H
   have H := H1
   clear H1
   have H' := Aside0.mk H
   clear H
   have p301 : 0 ≤ (x9_1 : Int) := yd
   have q301 : x9_1 < (l0.length : Int) := yd
   obtain ⟨ad301, e301, hx301_0, hx301_1, hx301_2, hx301_3, hx301_4, hx301_5, hx301_6, hx301_7, hx301_8, hx301_9, hx301_10, hx301_11, hx301_12⟩ := at_T43 HR0.out x9_1 p301 q301
   cases e301
   replace hx301_0 := hxb HB.out hx301_0
   replace hx301_1 := hxb HB.out hx301_1
   replace hx301_2 := hxb HB.out hx301_2
   replace hx301_3 := hxb HB.out hx301_3
   replace hx301_4 := hxb HB.out hx301_4
   replace hx301_5 := hxb HB.out hx301_5
   replace hx301_6 := hxb HB.out hx301_6
   replace hx301_7 := hxb HB.out hx301_7
   replace hx301_8 := hxb HB.out hx301_8
   replace hx301_9 := hxb HB.out hx301_9
   replace hx301_10 := hxb HB.out hx301_10
   replace hx301_11 := hxb HB.out hx301_11
   replace hx301_12 := hxb HB.out hx301_12
   replace p301 := eq_true p301
   replace q301 := eq_true q301
   try go_wp2_with (first | ((with_reducible refine gate_callee (f := 16) rfl ?_); refine goesL_ (some 90) rfl rfl Try.func16 (by kernel_rfl) rfl #[.agg #[.int .i64 ((rd_T43 l0 x9_1).f0), .int .i64 ((rd_T43 l0 x9_1).f1), .int .i64 ((rd_T43 l0 x9_1).f2), .int .i64 ((rd_T43 l0 x9_1).f3), .int .i64 ((rd_T43 l0 x9_1).f4), .int .i64 ((rd_T43 l0 x9_1).f5), .bool ((rd_T43 l0 x9_1).f6), .int .i64 ((rd_T43 l0 x9_1).f7), .int .i64 ((rd_T43 l0 x9_1).f8), .int .i64 ((rd_T43 l0 x9_1).f9), .int .i64 ((rd_T43 l0 x9_1).f10), .int .i64 ((rd_T43 l0 x9_1).f11), .int .i64 ((rd_T43 l0 x9_1).f12)]] rfl (by (try simp only [List.map_toArray, List.map_cons, List.map_nil]); first | done | rfl | (simp only [List.length_drop, List.length_take]; rfl)) ?_; (with_reducible refine (annuityref14_Owes.calls k1 ((rd_T43 l0 x9_1).f0) ((rd_T43 l0 x9_1).f1) ((rd_T43 l0 x9_1).f2) ((rd_T43 l0 x9_1).f3) ((rd_T43 l0 x9_1).f4) ((rd_T43 l0 x9_1).f5) ((rd_T43 l0 x9_1).f6) ((rd_T43 l0 x9_1).f7) ((rd_T43 l0 x9_1).f8) ((rd_T43 l0 x9_1).f9) ((rd_T43 l0 x9_1).f10) ((rd_T43 l0 x9_1).f11) ((rd_T43 l0 x9_1).f12) t302 t303 _ A24.out).mono ?_); rintro e w53 ⟨rfl, hb⟩; refine ⟨_, rfl, ?_⟩; have n0_ := Aside0.mk (Kd.R_below (by exact rq HO_5.out) hb); have n1_ := Aside0.mk (blk_below (g := gb298) (Up.up BK298.out) hb); have n2_ := Aside0.mk (below_step (by exact h1q HB.out GE298.out) hb); clear HO_5; clear BK298; clear HB; have HO_5 := n0_; have BK298 := n1_; have HB := n2_; clear n0_ n1_ n2_; (try clear hb); (try clear hb2); (try clear hk); (try clear hi); have p304 : 0 ≤ (x9_1 : Int) := yd; have q304 : x9_1 < (t290.length : Int) := yd; obtain ⟨ad304, e304, hx304_0, hx304_1, hx304_2, hx304_3, hx304_4, hx304_5, hx304_6, hx304_7, hx304_8, hx304_9, hx304_10, hx304_11, hx304_12⟩ := at_T43 (Kd.R_reads' HO_5.out).2.2 x9_1 p304 q304; cases e304; replace p304 := eq_true p304; replace q304 := eq_true q304) | ((with_reducible refine gate_callee (f := 16) rfl ?_); refine goesL_ (some 98) rfl rfl Try.func16 (by kernel_rfl) rfl #[.agg #[.int .i64 ((rd_T43 t290 x9_1).f0), .int .i64 ((rd_T43 t290 x9_1).f1), .int .i64 ((rd_T43 t290 x9_1).f2), .int .i64 ((rd_T43 t290 x9_1).f3), .int .i64 ((rd_T43 t290 x9_1).f4), .int .i64 ((rd_T43 t290 x9_1).f5), .bool ((rd_T43 t290 x9_1).f6), .int .i64 ((rd_T43 t290 x9_1).f7), .int .i64 ((rd_T43 t290 x9_1).f8), .int .i64 ((rd_T43 t290 x9_1).f9), .int .i64 ((rd_T43 t290 x9_1).f10), .int .i64 ((rd_T43 t290 x9_1).f11), .int .i64 ((rd_T43 t290 x9_1).f12)]] rfl (by (try simp only [List.map_toArray, List.map_cons, List.map_nil]); first | done | rfl | (simp only [List.length_drop, List.length_take]; rfl)) ?_; (with_reducible refine (annuityref14_Owes.calls k1 ((rd_T43 t290 x9_1).f0) ((rd_T43 t290 x9_1).f1) ((rd_T43 t290 x9_1).f2) ((rd_T43 t290 x9_1).f3) ((rd_T43 t290 x9_1).f4) ((rd_T43 t290 x9_1).f5) ((rd_T43 t290 x9_1).f6) ((rd_T43 t290 x9_1).f7) ((rd_T43 t290 x9_1).f8) ((rd_T43 t290 x9_1).f9) ((rd_T43 t290 x9_1).f10) ((rd_T43 t290 x9_1).f11) ((rd_T43 t290 x9_1).f12) t305 t306 _ A25.out).mono ?_); rintro e w54 ⟨rfl, hb⟩; refine ⟨_, rfl, ?_⟩; have n0_ := Aside0.mk (Kd.R_below (by exact rq HO_5.out) hb); have n1_ := Aside0.mk (blk_below (g := gb298) (Up.up BK298.out) hb); have n2_ := Aside0.mk (below_step (by exact h1q HB.out GE298.out) hb); clear HO_5; clear BK298; clear HB; have HO_5 := n0_; have BK298 := n1_; have HB := n2_; clear n0_ n1_ n2_; (try clear hb); (try clear hb2); (try clear hk); (try clear hi); have hcz55_0 : w54.cell? ⟨gb298, 0, none⟩ = some (.int .i64 t293) := (blk_cell BK298.out 0).trans rfl; have hcz55_1 : w54.cell? ⟨gb298, 1, none⟩ = some (.int .i64 t294) := (blk_cell BK298.out 1).trans rfl; have hcz55_2 : w54.cell? ⟨gb298, 2, none⟩ = some (.int .i64 t295) := (blk_cell BK298.out 2).trans rfl; have hcz55_3 : w54.cell? ⟨gb298, 3, none⟩ = some (.int .i64 t296) := (blk_cell BK298.out 3).trans rfl; have hfz55_0 := blk_frozen BK298.out 0; have hfz55_1 := blk_frozen BK298.out 1; have hfz55_2 := blk_frozen BK298.out 2; have hfz55_3 := blk_frozen BK298.out 3))
   have n0_ := Aside0.mk (Kd.R_drew HO_5.out)
   have n1_ := Aside0.mk (blk_drew BK298.out)
   have n2_ := Aside0.mk (below_drew1 HB.out)
   clear HO_5 BK298 HB
   have HO_5 := n0_
   have BK298 := n1_
   have HB := n2_
   clear n0_ n1_ n2_
   have p314 : 0 ≤ (x9_1 : Int) := yd
   have q314 : x9_1 < (l0.length : Int) := yd
   obtain ⟨ad314, e314, hx314_0, hx314_1, hx314_2, hx314_3, hx314_4, hx314_5, hx314_6, hx314_7, hx314_8, hx314_9, hx314_10, hx314_11, hx314_12⟩ := at_T43 HR0.out x9_1 p314 q314
   have hw314_12 := hx314_12
   have hw314_11 := hx314_11
   have hw314_10 := hx314_10
   have hw314_9 := hx314_9
   have hw314_8 := hx314_8
   have hw314_7 := hx314_7
   have hw314_6 := hx314_6
   have hw314_5 := hx314_5
   have hw314_4 := hx314_4
   have hw314_3 := hx314_3
   have hw314_2 := hx314_2
   have hw314_1 := hx314_1
   have hw314_0 := hx314_0
   obtain rfl : ad301 = ad314 := (by injection e314)
   replace hx314_0 := hxb HB.out hx314_0
   replace hx314_1 := hxb HB.out hx314_1
   replace hx314_2 := hxb HB.out hx314_2
   replace hx314_3 := hxb HB.out hx314_3
   replace hx314_4 := hxb HB.out hx314_4
   replace hx314_5 := hxb HB.out hx314_5
   replace hx314_6 := hxb HB.out hx314_6
   replace hx314_7 := hxb HB.out hx314_7
   replace hx314_8 := hxb HB.out hx314_8
   replace hx314_9 := hxb HB.out hx314_9
   replace hx314_10 := hxb HB.out hx314_10
   replace hx314_11 := hxb HB.out hx314_11
   replace hx314_12 := hxb HB.out hx314_12
   replace p314 := eq_true p314
   replace q314 := eq_true q314
   have p315 : 0 ≤ (x9_1 : Int) := yd
   have q315 : x9_1 < (t290.length : Int) := yd
   obtain ⟨ad315, e315, hx315_0, hx315_1, hx315_2, hx315_3, hx315_4, hx315_5, hx315_6, hx315_7, hx315_8, hx315_9, hx315_10, hx315_11, hx315_12⟩ := at_T43 (Kd.R_reads' HO_5.out).2.2 x9_1 p315 q315
   obtain rfl : ad304 = ad315 := (by injection e315)
   replace p315 := eq_true p315
   replace q315 := eq_true q315
   have p316 : 0 ≤ (x9_1 : Int) := yd
   have q316 : x9_1 < (l0.length : Int) := yd
   obtain ⟨ad316, e316, hx316_0, hx316_1, hx316_2, hx316_3, hx316_4, hx316_5, hx316_6, hx316_7, hx316_8, hx316_9, hx316_10, hx316_11, hx316_12⟩ := at_T43 HR0.out x9_1 p316 q316
   have hw316_12 := hx316_12
   have hw316_11 := hx316_11
   have hw316_10 := hx316_10
   have hw316_9 := hx316_9
   have hw316_8 := hx316_8
   have hw316_7 := hx316_7
   have hw316_6 := hx316_6
   have hw316_5 := hx316_5
   have hw316_4 := hx316_4
   have hw316_3 := hx316_3
   have hw316_2 := hx316_2
   have hw316_1 := hx316_1
   have hw316_0 := hx316_0
   obtain rfl : ad301 = ad316 := (by injection e316)
   replace hx316_0 := hxb HB.out hx316_0
   replace hx316_1 := hxb HB.out hx316_1
   replace hx316_2 := hxb HB.out hx316_2
   replace hx316_3 := hxb HB.out hx316_3
   replace hx316_4 := hxb HB.out hx316_4
   replace hx316_5 := hxb HB.out hx316_5
   replace hx316_6 := hxb HB.out hx316_6
   replace hx316_7 := hxb HB.out hx316_7
   replace hx316_8 := hxb HB.out hx316_8
   replace hx316_9 := hxb HB.out hx316_9
   replace hx316_10 := hxb HB.out hx316_10
   replace hx316_11 := hxb HB.out hx316_11
   replace hx316_12 := hxb HB.out hx316_12
   replace p316 := eq_true p316
   replace q316 := eq_true q316
   as_aux_lemma =>
   refine start_ (n := 18) (S := fun w' => w'.cell? (ad301.add ((x9_1).toNat * 13)) = some (.int .i64 ((rd_T43 l0 x9_1).f0)) ∧ w'.cell? ⟨(ad301.add ((x9_1).toNat * 13)).block, (ad301.add ((x9_1).toNat * 13)).off + 1, none⟩ = some (.int .i64 ((rd_T43 l0 x9_1).f1)) ∧ w'.cell? ⟨(ad301.add ((x9_1).toNat * 13)).block, (ad301.add ((x9_1).toNat * 13)).off + 2, none⟩ = some (.int .i64 ((rd_T43 l0 x9_1).f2)) ∧ w'.cell? ⟨(ad301.add ((x9_1).toNat * 13)).block, (ad301.add ((x9_1).toNat * 13)).off + 3, none⟩ = some (.int .i64 ((rd_T43 l0 x9_1).f3)) ∧ w'.cell? ⟨(ad301.add ((x9_1).toNat * 13)).block, (ad301.add ((x9_1).toNat * 13)).off + 4, none⟩ = some (.int .i64 ((rd_T43 l0 x9_1).f4)) ∧ w'.cell? ⟨(ad301.add ((x9_1).toNat * 13)).block, (ad301.add ((x9_1).toNat * 13)).off + 5, none⟩ = some (.int .i64 ((rd_T43 l0 x9_1).f5)) ∧ w'.cell? ⟨(ad301.add ((x9_1).toNat * 13)).block, (ad301.add ((x9_1).toNat * 13)).off + 6, none⟩ = some (.bool ((rd_T43 l0 x9_1).f6)) ∧ w'.cell? ⟨(ad301.add ((x9_1).toNat * 13)).block, (ad301.add ((x9_1).toNat * 13)).off + 7, none⟩ = some (.int .i64 ((rd_T43 l0 x9_1).f7)) ∧ w'.cell? ⟨(ad301.add ((x9_1).toNat * 13)).block, (ad301.add ((x9_1).toNat * 13)).off + 8, none⟩ = some (.int .i64 ((rd_T43 l0 x9_1).f8)) ∧ w'.cell? ⟨(ad301.add ((x9_1).toNat * 13)).block, (ad301.add ((x9_1).toNat * 13)).off + 9, none⟩ = some (.int .i64 ((rd_T43 l0 x9_1).f9)) ∧ w'.cell? ⟨(ad301.add ((x9_1).toNat * 13)).block, (ad301.add ((x9_1).toNat * 13)).off + 10, none⟩ = some (.int .i64 ((rd_T43 l0 x9_1).f10)) ∧ w'.cell? ⟨(ad301.add ((x9_1).toNat * 13)).block, (ad301.add ((x9_1).toNat * 13)).off + 11, none⟩ = some (.int .i64 ((rd_T43 l0 x9_1).f11)) ∧ w'.cell? ⟨(ad301.add ((x9_1).toNat * 13)).block, (ad301.add ((x9_1).toNat * 13)).off + 12, none⟩ = some (.int .i64 ((rd_T43 l0 x9_1).f12)) ∧ w'.cell? (ad304.add ((x9_1).toNat * 13)) = some (.int .i64 ((rd_T43 t290 x9_1).f0)) ∧ w'.cell? ⟨(ad304.add ((x9_1).toNat * 13)).block, (ad304.add ((x9_1).toNat * 13)).off + 1, none⟩ = some (.int .i64 ((rd_T43 t290 x9_1).f1)) ∧ w'.cell? ⟨(ad304.add ((x9_1).toNat * 13)).block, (ad304.add ((x9_1).toNat * 13)).off + 2, none⟩ = some (.int .i64 ((rd_T43 t290 x9_1).f2)) ∧ w'.cell? ⟨(ad304.add ((x9_1).toNat * 13)).block, (ad304.add ((x9_1).toNat * 13)).off + 3, none⟩ = some (.int .i64 ((rd_T43 t290 x9_1).f3)) ∧ w'.cell? ⟨(ad304.add ((x9_1).toNat * 13)).block, (ad304.add ((x9_1).toNat * 13)).off + 4, none⟩ = some (.int .i64 ((rd_T43 t290 x9_1).f4)) ∧ w'.cell? ⟨(ad304.add ((x9_1).toNat * 13)).block, (ad304.add ((x9_1).toNat * 13)).off + 5, none⟩ = some (.int .i64 ((rd_T43 t290 x9_1).f5)) ∧ w'.cell? ⟨(ad304.add ((x9_1).toNat * 13)).block, (ad304.add ((x9_1).toNat * 13)).off + 6, none⟩ = some (.bool ((rd_T43 t290 x9_1).f6)) ∧ w'.cell? ⟨(ad304.add ((x9_1).toNat * 13)).block, (ad304.add ((x9_1).toNat * 13)).off + 7, none⟩ = some (.int .i64 ((rd_T43 t290 x9_1).f7)) ∧ w'.cell? ⟨(ad304.add ((x9_1).toNat * 13)).block, (ad304.add ((x9_1).toNat * 13)).off + 8, none⟩ = some (.int .i64 ((rd_T43 t290 x9_1).f8)) ∧ w'.cell? ⟨(ad304.add ((x9_1).toNat * 13)).block, (ad304.add ((x9_1).toNat * 13)).off + 9, none⟩ = some (.int .i64 ((rd_T43 t290 x9_1).f9)) ∧ w'.cell? ⟨(ad304.add ((x9_1).toNat * 13)).block, (ad304.add ((x9_1).toNat * 13)).off + 10, none⟩ = some (.int .i64 ((rd_T43 t290 x9_1).f10)) ∧ w'.cell? ⟨(ad304.add ((x9_1).toNat * 13)).block, (ad304.add ((x9_1).toNat * 13)).off + 11, none⟩ = some (.int .i64 ((rd_T43 t290 x9_1).f11)) ∧ w'.cell? ⟨(ad304.add ((x9_1).toNat * 13)).block, (ad304.add ((x9_1).toNat * 13)).off + 12, none⟩ = some (.int .i64 ((rd_T43 t290 x9_1).f12)) ∧ w'.cell? (ad301.add ((x9_1).toNat * 13)) = some (.int .i64 ((rd_T43 l0 x9_1).f0)) ∧ w'.cell? ⟨(ad301.add ((x9_1).toNat * 13)).block, (ad301.add ((x9_1).toNat * 13)).off + 1, none⟩ = some (.int .i64 ((rd_T43 l0 x9_1).f1)) ∧ w'.cell? ⟨(ad301.add ((x9_1).toNat * 13)).block, (ad301.add ((x9_1).toNat * 13)).off + 2, none⟩ = some (.int .i64 ((rd_T43 l0 x9_1).f2)) ∧ w'.cell? ⟨(ad301.add ((x9_1).toNat * 13)).block, (ad301.add ((x9_1).toNat * 13)).off + 3, none⟩ = some (.int .i64 ((rd_T43 l0 x9_1).f3)) ∧ w'.cell? ⟨(ad301.add ((x9_1).toNat * 13)).block, (ad301.add ((x9_1).toNat * 13)).off + 4, none⟩ = some (.int .i64 ((rd_T43 l0 x9_1).f4)) ∧ w'.cell? ⟨(ad301.add ((x9_1).toNat * 13)).block, (ad301.add ((x9_1).toNat * 13)).off + 5, none⟩ = some (.int .i64 ((rd_T43 l0 x9_1).f5)) ∧ w'.cell? ⟨(ad301.add ((x9_1).toNat * 13)).block, (ad301.add ((x9_1).toNat * 13)).off + 6, none⟩ = some (.bool ((rd_T43 l0 x9_1).f6)) ∧ w'.cell? ⟨(ad301.add ((x9_1).toNat * 13)).block, (ad301.add ((x9_1).toNat * 13)).off + 7, none⟩ = some (.int .i64 ((rd_T43 l0 x9_1).f7)) ∧ w'.cell? ⟨(ad301.add ((x9_1).toNat * 13)).block, (ad301.add ((x9_1).toNat * 13)).off + 8, none⟩ = some (.int .i64 ((rd_T43 l0 x9_1).f8)) ∧ w'.cell? ⟨(ad301.add ((x9_1).toNat * 13)).block, (ad301.add ((x9_1).toNat * 13)).off + 9, none⟩ = some (.int .i64 ((rd_T43 l0 x9_1).f9)) ∧ w'.cell? ⟨(ad301.add ((x9_1).toNat * 13)).block, (ad301.add ((x9_1).toNat * 13)).off + 10, none⟩ = some (.int .i64 ((rd_T43 l0 x9_1).f10)) ∧ w'.cell? ⟨(ad301.add ((x9_1).toNat * 13)).block, (ad301.add ((x9_1).toNat * 13)).off + 11, none⟩ = some (.int .i64 ((rd_T43 l0 x9_1).f11)) ∧ w'.cell? ⟨(ad301.add ((x9_1).toNat * 13)).block, (ad301.add ((x9_1).toNat * 13)).off + 12, none⟩ = some (.int .i64 ((rd_T43 l0 x9_1).f12))) (ds := []) (annuitylaw20_PayWhole.fl 18 0) (by kernel_rfl) rfl rfl ⟨(hxb HB.out hw314_0), (hxb HB.out hw314_1), (hxb HB.out hw314_2), (hxb HB.out hw314_3), (hxb HB.out hw314_4), (hxb HB.out hw314_5), (hxb HB.out hw314_6), (hxb HB.out hw314_7), (hxb HB.out hw314_8), (hxb HB.out hw314_9), (hxb HB.out hw314_10), (hxb HB.out hw314_11), (hxb HB.out hw314_12), hx315_0, hx315_1, hx315_2, hx315_3, hx315_4, hx315_5, hx315_6, hx315_7, hx315_8, hx315_9, hx315_10, hx315_11, hx315_12, (hxb HB.out hw316_0), (hxb HB.out hw316_1), (hxb HB.out hw316_2), (hxb HB.out hw316_3), (hxb HB.out hw316_4), (hxb HB.out hw316_5), (hxb HB.out hw316_6), (hxb HB.out hw316_7), (hxb HB.out hw316_8), (hxb HB.out hw316_9), (hxb HB.out hw316_10), (hxb HB.out hw316_11), (hxb HB.out hw316_12)⟩ (fun hHeld => ?_); refine with_tabW annuitylaw20_PayWhole.tab18 annuitylaw20_PayWhole.bits18 (fun HT_ HW_ => ?_)
   generalize w54.drew = w56 at HO_5 BK298 HB hx314_0 hx314_1 hx314_10 hx314_11 hx314_12 hx314_2 hx314_3 hx314_4 hx314_5 hx314_6 hx314_7 hx314_8 hx314_9 hx315_0 hx315_1 hx315_10 hx315_11 hx315_12 hx315_2 hx315_3 hx315_4 hx315_5 hx315_6 hx315_7 hx315_8 hx315_9 hx316_0 hx316_1 hx316_10 hx316_11 hx316_12 hx316_2 hx316_3 hx316_4 hx316_5 hx316_6 hx316_7 hx316_8 hx316_9 hHeld ⊢
   refine annuitylaw20_PayWhole.y 0 141 18 1 HT_.out ?_
   refine annuitylaw20_PayWhole.y 1 142 18 3 HT_.out ?_
   refine annuitylaw20_PayWhole.y 2 143 18 7 HT_.out ?_
   refine annuitylaw20_PayWhole.y 3 144 18 15 HT_.out ?_
   refine annuitylaw20_PayWhole.t 4 145 18 31 HT_.out HW_.out hHeld ?_
   refine annuitylaw20_PayWhole.y 5 146 18 63 HT_.out ?_
   refine annuitylaw20_PayWhole.y 6 147 18 127 HT_.out ?_
   refine annuitylaw20_PayWhole.y 7 148 18 255 HT_.out ?_
   refine annuitylaw20_PayWhole.y 8 149 18 511 HT_.out ?_
   refine annuitylaw20_PayWhole.y 9 150 18 1023 HT_.out ?_
   refine annuitylaw20_PayWhole.y 11 152 18 3071 HT_.out ?_
   refine annuitylaw20_PayWhole.y 12 153 18 7167 HT_.out ?_
   refine annuitylaw20_PayWhole.y 13 154 18 15359 HT_.out ?_
   refine annuitylaw20_PayWhole.t 10 151 18 16383 HT_.out HW_.out hHeld ?_
   refine annuitylaw20_PayWhole.t 14 155 18 32767 HT_.out HW_.out hHeld ?_
   refine one_ (i := 15) (N := some 156) (annuitylaw20_PayWhole.fl 18 65535) rfl rfl (one_of HT_.out (by kernel_rfl)) (by decide) (fun K hK => ?_)
   refine goes_ Try.func17 (by kernel_rfl) rfl #[.agg #[.int .i64 ((rd_T43 t290 x9_1).f0), .int .i64 ((rd_T43 t290 x9_1).f1), .int .i64 ((rd_T43 t290 x9_1).f2), .int .i64 ((rd_T43 t290 x9_1).f3), .int .i64 ((rd_T43 t290 x9_1).f4), .int .i64 ((rd_T43 t290 x9_1).f5), .bool ((rd_T43 t290 x9_1).f6), .int .i64 ((rd_T43 t290 x9_1).f7), .int .i64 ((rd_T43 t290 x9_1).f8), .int .i64 ((rd_T43 t290 x9_1).f9), .int .i64 ((rd_T43 t290 x9_1).f10), .int .i64 ((rd_T43 t290 x9_1).f11), .int .i64 ((rd_T43 t290 x9_1).f12)], .agg #[.int .i64 ((rd_T43 l0 x9_1).f0), .int .i64 ((rd_T43 l0 x9_1).f1), .int .i64 ((rd_T43 l0 x9_1).f2), .int .i64 ((rd_T43 l0 x9_1).f3), .int .i64 ((rd_T43 l0 x9_1).f4), .int .i64 ((rd_T43 l0 x9_1).f5), .bool ((rd_T43 l0 x9_1).f6), .int .i64 ((rd_T43 l0 x9_1).f7), .int .i64 ((rd_T43 l0 x9_1).f8), .int .i64 ((rd_T43 l0 x9_1).f9), .int .i64 ((rd_T43 l0 x9_1).f10), .int .i64 ((rd_T43 l0 x9_1).f11), .int .i64 ((rd_T43 l0 x9_1).f12)]] (by rfl) rfl rfl (by (try simp only [List.map_toArray, List.map_cons, List.map_nil]); first | done | rfl | (simp only [List.length_drop, List.length_take]; rfl)) ?_
   with_reducible refine (annuitykeep_Loan.calls ((rd_T43 t290 x9_1).f0) ((rd_T43 t290 x9_1).f1) ((rd_T43 t290 x9_1).f2) ((rd_T43 t290 x9_1).f3) ((rd_T43 t290 x9_1).f4) ((rd_T43 t290 x9_1).f5) ((rd_T43 t290 x9_1).f6) ((rd_T43 t290 x9_1).f7) ((rd_T43 t290 x9_1).f8) ((rd_T43 t290 x9_1).f9) ((rd_T43 t290 x9_1).f10) ((rd_T43 t290 x9_1).f11) ((rd_T43 t290 x9_1).f12) ((rd_T43 l0 x9_1).f0) ((rd_T43 l0 x9_1).f1) ((rd_T43 l0 x9_1).f2) ((rd_T43 l0 x9_1).f3) ((rd_T43 l0 x9_1).f4) ((rd_T43 l0 x9_1).f5) ((rd_T43 l0 x9_1).f6) ((rd_T43 l0 x9_1).f7) ((rd_T43 l0 x9_1).f8) ((rd_T43 l0 x9_1).f9) ((rd_T43 l0 x9_1).f10) ((rd_T43 l0 x9_1).f11) ((rd_T43 l0 x9_1).f12) true _ A51.out).mono ?_
   rintro e w57 ⟨rfl, hb⟩
   have HS13_ := hxb hb (hHeld.2.2.2.2.2.2.2.2.2.2.2.2.2.1)
   have HS14_ := hxb hb (hHeld.2.2.2.2.2.2.2.2.2.2.2.2.2.2.1)
   have HS15_ := hxb hb (hHeld.2.2.2.2.2.2.2.2.2.2.2.2.2.2.2.1)
   have HS16_ := hxb hb (hHeld.2.2.2.2.2.2.2.2.2.2.2.2.2.2.2.2.1)
   have HS17_ := hxb hb (hHeld.2.2.2.2.2.2.2.2.2.2.2.2.2.2.2.2.2.1)
   have HS18_ := hxb hb (hHeld.2.2.2.2.2.2.2.2.2.2.2.2.2.2.2.2.2.2.1)
   have HS19_ := hxb hb (hHeld.2.2.2.2.2.2.2.2.2.2.2.2.2.2.2.2.2.2.2.1)
   have HS20_ := hxb hb (hHeld.2.2.2.2.2.2.2.2.2.2.2.2.2.2.2.2.2.2.2.2.1)
   have HS21_ := hxb hb (hHeld.2.2.2.2.2.2.2.2.2.2.2.2.2.2.2.2.2.2.2.2.2.1)
   have HS22_ := hxb hb (hHeld.2.2.2.2.2.2.2.2.2.2.2.2.2.2.2.2.2.2.2.2.2.2.1)
   have HS23_ := hxb hb (hHeld.2.2.2.2.2.2.2.2.2.2.2.2.2.2.2.2.2.2.2.2.2.2.2.1)
   have HS24_ := hxb hb (hHeld.2.2.2.2.2.2.2.2.2.2.2.2.2.2.2.2.2.2.2.2.2.2.2.2.1)
   have HS25_ := hxb hb (hHeld.2.2.2.2.2.2.2.2.2.2.2.2.2.2.2.2.2.2.2.2.2.2.2.2.2.1)
   refine ⟨_, rfl, ?_⟩
   have n0_ := Aside0.mk (Kd.R_below (by exact rq HO_5.out) hb)
   have n1_ := Aside0.mk (blk_below (g := gb298) (Up.up BK298.out) hb)
   have n2_ := Aside0.mk (below_step (by exact h1q HB.out GE298.out) hb)
   clear HO_5 BK298 HB
   have HO_5 := n0_
   have BK298 := n1_
   have HB := n2_
   clear n0_ n1_ n2_
   (try clear hb)
   (try clear hb2)
   (try clear hk)
   (try clear hi)
   refine hK.out _ _ ⟨(hxb HB.out hw314_0), (hxb HB.out hw314_1), (hxb HB.out hw314_2), (hxb HB.out hw314_3), (hxb HB.out hw314_4), (hxb HB.out hw314_5), (hxb HB.out hw314_6), (hxb HB.out hw314_7), (hxb HB.out hw314_8), (hxb HB.out hw314_9), (hxb HB.out hw314_10), (hxb HB.out hw314_11), (hxb HB.out hw314_12), HS13_, HS14_, HS15_, HS16_, HS17_, HS18_, HS19_, HS20_, HS21_, HS22_, HS23_, HS24_, HS25_, (hxb HB.out hw316_0), (hxb HB.out hw316_1), (hxb HB.out hw316_2), (hxb HB.out hw316_3), (hxb HB.out hw316_4), (hxb HB.out hw316_5), (hxb HB.out hw316_6), (hxb HB.out hw316_7), (hxb HB.out hw316_8), (hxb HB.out hw316_9), (hxb HB.out hw316_10), (hxb HB.out hw316_11), (hxb HB.out hw316_12)⟩ (fun hHeld => ?_)
   clear hK K
   refine norm_ (a' := ?_) ?_ ?_
   rotate_left
   ·show Act.put _ (some 156) _ = _
    simp only [Act.put, List.setIfInBounds_toArray, List.set_cons_zero, List.set_cons_succ, i64_w, i32_w]
    rfl
   refine annuitylaw20_PayWhole.y 16 157 18 131071 HT_.out ?_
   refine annuitylaw20_PayWhole.y 17 158 18 262143 HT_.out ?_
   refine done_ (done_of HT_.out (by kernel_rfl)) ?_
   try go_wp2
   go_roundg k1
   case measure => have := HK1.out; omega
   case rel => exact ⟨(wrap64 (x8_1 + (wrap64 (t302 - t305)))), (wrap64 (x9_1 + 1)), (by first | rfl | (simp; done) | (simp [*]; done)), (by first | rfl | (simp; done) | (simp [*]; done)), H', ⟨by have := HK1.out; omega⟩, ⟨by exact rq HO_5.out⟩, ⟨by exact bb BK298.out⟩, ⟨by exact h1q HB.out GE298.out⟩⟩
  rw [if_pos c31] at H
  have c31b0 : decide (0 < t295) = true := decide_eq_true c31
  clear c31
  by_cases c32 : ((rd_T43 t290 x9_1).f4) > 0
  ·rw [if_pos c32] at H
   exact absurd H (by simp)
  rw [if_neg c32] at H
  have c32b0 : decide (0 < ((rd_T43 t290 x9_1).f4)) = false := decide_eq_false c32
  clear c32
  by_cases c33 : ((rd_T43 t290 x9_1).f2) ≥ 1000000
  ·rw [if_pos c33] at H
   exact absurd H (by simp)
  rw [if_neg c33] at H
  have c33b0 : decide (1000000 ≤ ((rd_T43 t290 x9_1).f2)) = false := decide_eq_false c33
  clear c33
  by_cases c34 : ((rd_T43 l0 x9_1).f8) = 0
  ·rw [if_pos c34] at H
   have c34b0 : (((rd_T43 l0 x9_1).f8) == 0) = true := beq_iff_eq.mpr c34
   have c34b1 : (((rd_T43 l0 x9_1).f8) != 0) = false := bne_eq_false_iff_eq.mpr c34
   clear c34
   have H' := Aside0.mk H
   clear H
   have p301 : 0 ≤ (x9_1 : Int) := yd
   have q301 : x9_1 < (l0.length : Int) := yd
   obtain ⟨ad301, e301, hx301_0, hx301_1, hx301_2, hx301_3, hx301_4, hx301_5, hx301_6, hx301_7, hx301_8, hx301_9, hx301_10, hx301_11, hx301_12⟩ := at_T43 HR0.out x9_1 p301 q301
   cases e301
   replace hx301_0 := hxb HB.out hx301_0
   replace hx301_1 := hxb HB.out hx301_1
   replace hx301_2 := hxb HB.out hx301_2
   replace hx301_3 := hxb HB.out hx301_3
   replace hx301_4 := hxb HB.out hx301_4
   replace hx301_5 := hxb HB.out hx301_5
   replace hx301_6 := hxb HB.out hx301_6
   replace hx301_7 := hxb HB.out hx301_7
   replace hx301_8 := hxb HB.out hx301_8
   replace hx301_9 := hxb HB.out hx301_9
   replace hx301_10 := hxb HB.out hx301_10
   replace hx301_11 := hxb HB.out hx301_11
   replace hx301_12 := hxb HB.out hx301_12
   replace p301 := eq_true p301
   replace q301 := eq_true q301
   try go_wp2_with (first | ((with_reducible refine gate_callee (f := 16) rfl ?_); refine goesL_ (some 90) rfl rfl Try.func16 (by kernel_rfl) rfl #[.agg #[.int .i64 ((rd_T43 l0 x9_1).f0), .int .i64 ((rd_T43 l0 x9_1).f1), .int .i64 ((rd_T43 l0 x9_1).f2), .int .i64 ((rd_T43 l0 x9_1).f3), .int .i64 ((rd_T43 l0 x9_1).f4), .int .i64 ((rd_T43 l0 x9_1).f5), .bool ((rd_T43 l0 x9_1).f6), .int .i64 ((rd_T43 l0 x9_1).f7), .int .i64 ((rd_T43 l0 x9_1).f8), .int .i64 ((rd_T43 l0 x9_1).f9), .int .i64 ((rd_T43 l0 x9_1).f10), .int .i64 ((rd_T43 l0 x9_1).f11), .int .i64 ((rd_T43 l0 x9_1).f12)]] rfl (by (try simp only [List.map_toArray, List.map_cons, List.map_nil]); first | done | rfl | (simp only [List.length_drop, List.length_take]; rfl)) ?_; (with_reducible refine (annuityref14_Owes.calls k1 ((rd_T43 l0 x9_1).f0) ((rd_T43 l0 x9_1).f1) ((rd_T43 l0 x9_1).f2) ((rd_T43 l0 x9_1).f3) ((rd_T43 l0 x9_1).f4) ((rd_T43 l0 x9_1).f5) ((rd_T43 l0 x9_1).f6) ((rd_T43 l0 x9_1).f7) ((rd_T43 l0 x9_1).f8) ((rd_T43 l0 x9_1).f9) ((rd_T43 l0 x9_1).f10) ((rd_T43 l0 x9_1).f11) ((rd_T43 l0 x9_1).f12) t302 t303 _ A24.out).mono ?_); rintro e w35 ⟨rfl, hb⟩; refine ⟨_, rfl, ?_⟩; have n0_ := Aside0.mk (Kd.R_below (by exact rq HO_5.out) hb); have n1_ := Aside0.mk (blk_below (g := gb298) (Up.up BK298.out) hb); have n2_ := Aside0.mk (below_step (by exact h1q HB.out GE298.out) hb); clear HO_5; clear BK298; clear HB; have HO_5 := n0_; have BK298 := n1_; have HB := n2_; clear n0_ n1_ n2_; (try clear hb); (try clear hb2); (try clear hk); (try clear hi); have p304 : 0 ≤ (x9_1 : Int) := yd; have q304 : x9_1 < (t290.length : Int) := yd; obtain ⟨ad304, e304, hx304_0, hx304_1, hx304_2, hx304_3, hx304_4, hx304_5, hx304_6, hx304_7, hx304_8, hx304_9, hx304_10, hx304_11, hx304_12⟩ := at_T43 (Kd.R_reads' HO_5.out).2.2 x9_1 p304 q304; cases e304; replace p304 := eq_true p304; replace q304 := eq_true q304) | ((with_reducible refine gate_callee (f := 16) rfl ?_); refine goesL_ (some 98) rfl rfl Try.func16 (by kernel_rfl) rfl #[.agg #[.int .i64 ((rd_T43 t290 x9_1).f0), .int .i64 ((rd_T43 t290 x9_1).f1), .int .i64 ((rd_T43 t290 x9_1).f2), .int .i64 ((rd_T43 t290 x9_1).f3), .int .i64 ((rd_T43 t290 x9_1).f4), .int .i64 ((rd_T43 t290 x9_1).f5), .bool ((rd_T43 t290 x9_1).f6), .int .i64 ((rd_T43 t290 x9_1).f7), .int .i64 ((rd_T43 t290 x9_1).f8), .int .i64 ((rd_T43 t290 x9_1).f9), .int .i64 ((rd_T43 t290 x9_1).f10), .int .i64 ((rd_T43 t290 x9_1).f11), .int .i64 ((rd_T43 t290 x9_1).f12)]] rfl (by (try simp only [List.map_toArray, List.map_cons, List.map_nil]); first | done | rfl | (simp only [List.length_drop, List.length_take]; rfl)) ?_; (with_reducible refine (annuityref14_Owes.calls k1 ((rd_T43 t290 x9_1).f0) ((rd_T43 t290 x9_1).f1) ((rd_T43 t290 x9_1).f2) ((rd_T43 t290 x9_1).f3) ((rd_T43 t290 x9_1).f4) ((rd_T43 t290 x9_1).f5) ((rd_T43 t290 x9_1).f6) ((rd_T43 t290 x9_1).f7) ((rd_T43 t290 x9_1).f8) ((rd_T43 t290 x9_1).f9) ((rd_T43 t290 x9_1).f10) ((rd_T43 t290 x9_1).f11) ((rd_T43 t290 x9_1).f12) t305 t306 _ A25.out).mono ?_); rintro e w36 ⟨rfl, hb⟩; refine ⟨_, rfl, ?_⟩; have n0_ := Aside0.mk (Kd.R_below (by exact rq HO_5.out) hb); have n1_ := Aside0.mk (blk_below (g := gb298) (Up.up BK298.out) hb); have n2_ := Aside0.mk (below_step (by exact h1q HB.out GE298.out) hb); clear HO_5; clear BK298; clear HB; have HO_5 := n0_; have BK298 := n1_; have HB := n2_; clear n0_ n1_ n2_; (try clear hb); (try clear hb2); (try clear hk); (try clear hi); have hcz37_0 : w36.cell? ⟨gb298, 0, none⟩ = some (.int .i64 t293) := (blk_cell BK298.out 0).trans rfl; have hcz37_1 : w36.cell? ⟨gb298, 1, none⟩ = some (.int .i64 t294) := (blk_cell BK298.out 1).trans rfl; have hcz37_2 : w36.cell? ⟨gb298, 2, none⟩ = some (.int .i64 t295) := (blk_cell BK298.out 2).trans rfl; have hcz37_3 : w36.cell? ⟨gb298, 3, none⟩ = some (.int .i64 t296) := (blk_cell BK298.out 3).trans rfl; have hfz37_0 := blk_frozen BK298.out 0; have hfz37_1 := blk_frozen BK298.out 1; have hfz37_2 := blk_frozen BK298.out 2; have hfz37_3 := blk_frozen BK298.out 3; have p308 : 0 ≤ (x9_1 : Int) := yd; have q308 : x9_1 < (t290.length : Int) := yd; obtain ⟨ad308, e308, hx308_0, hx308_1, hx308_2, hx308_3, hx308_4, hx308_5, hx308_6, hx308_7, hx308_8, hx308_9, hx308_10, hx308_11, hx308_12⟩ := at_T43 (Kd.R_reads' HO_5.out).2.2 x9_1 p308 q308; obtain rfl : ad304 = ad308 := (by injection e308); replace p308 := eq_true p308; replace q308 := eq_true q308; have p309 : 0 ≤ (x9_1 : Int) := yd; have q309 : x9_1 < (t290.length : Int) := yd; obtain ⟨ad309, e309, hx309_0, hx309_1, hx309_2, hx309_3, hx309_4, hx309_5, hx309_6, hx309_7, hx309_8, hx309_9, hx309_10, hx309_11, hx309_12⟩ := at_T43 (Kd.R_reads' HO_5.out).2.2 x9_1 p309 q309; obtain rfl : ad304 = ad309 := (by injection e309); replace p309 := eq_true p309; replace q309 := eq_true q309))
   have n0_ := Aside0.mk (Kd.R_drew HO_5.out)
   have n1_ := Aside0.mk (blk_drew BK298.out)
   have n2_ := Aside0.mk (below_drew1 HB.out)
   clear HO_5 BK298 HB
   have HO_5 := n0_
   have BK298 := n1_
   have HB := n2_
   clear n0_ n1_ n2_
   have p310 : 0 ≤ (x9_1 : Int) := yd
   have q310 : x9_1 < (l0.length : Int) := yd
   obtain ⟨ad310, e310, hx310_0, hx310_1, hx310_2, hx310_3, hx310_4, hx310_5, hx310_6, hx310_7, hx310_8, hx310_9, hx310_10, hx310_11, hx310_12⟩ := at_T43 HR0.out x9_1 p310 q310
   have hw310_12 := hx310_12
   have hw310_11 := hx310_11
   have hw310_10 := hx310_10
   have hw310_9 := hx310_9
   have hw310_8 := hx310_8
   have hw310_7 := hx310_7
   have hw310_6 := hx310_6
   have hw310_5 := hx310_5
   have hw310_4 := hx310_4
   have hw310_3 := hx310_3
   have hw310_2 := hx310_2
   have hw310_1 := hx310_1
   have hw310_0 := hx310_0
   obtain rfl : ad301 = ad310 := (by injection e310)
   replace hx310_0 := hxb HB.out hx310_0
   replace hx310_1 := hxb HB.out hx310_1
   replace hx310_2 := hxb HB.out hx310_2
   replace hx310_3 := hxb HB.out hx310_3
   replace hx310_4 := hxb HB.out hx310_4
   replace hx310_5 := hxb HB.out hx310_5
   replace hx310_6 := hxb HB.out hx310_6
   replace hx310_7 := hxb HB.out hx310_7
   replace hx310_8 := hxb HB.out hx310_8
   replace hx310_9 := hxb HB.out hx310_9
   replace hx310_10 := hxb HB.out hx310_10
   replace hx310_11 := hxb HB.out hx310_11
   replace hx310_12 := hxb HB.out hx310_12
   replace p310 := eq_true p310
   replace q310 := eq_true q310
   as_aux_lemma =>
   refine start_ (n := 18) (S := fun w' => w'.cell? (ad301.add ((x9_1).toNat * 13)) = some (.int .i64 ((rd_T43 l0 x9_1).f0)) ∧ w'.cell? ⟨(ad301.add ((x9_1).toNat * 13)).block, (ad301.add ((x9_1).toNat * 13)).off + 1, none⟩ = some (.int .i64 ((rd_T43 l0 x9_1).f1)) ∧ w'.cell? ⟨(ad301.add ((x9_1).toNat * 13)).block, (ad301.add ((x9_1).toNat * 13)).off + 2, none⟩ = some (.int .i64 ((rd_T43 l0 x9_1).f2)) ∧ w'.cell? ⟨(ad301.add ((x9_1).toNat * 13)).block, (ad301.add ((x9_1).toNat * 13)).off + 3, none⟩ = some (.int .i64 ((rd_T43 l0 x9_1).f3)) ∧ w'.cell? ⟨(ad301.add ((x9_1).toNat * 13)).block, (ad301.add ((x9_1).toNat * 13)).off + 4, none⟩ = some (.int .i64 ((rd_T43 l0 x9_1).f4)) ∧ w'.cell? ⟨(ad301.add ((x9_1).toNat * 13)).block, (ad301.add ((x9_1).toNat * 13)).off + 5, none⟩ = some (.int .i64 ((rd_T43 l0 x9_1).f5)) ∧ w'.cell? ⟨(ad301.add ((x9_1).toNat * 13)).block, (ad301.add ((x9_1).toNat * 13)).off + 6, none⟩ = some (.bool ((rd_T43 l0 x9_1).f6)) ∧ w'.cell? ⟨(ad301.add ((x9_1).toNat * 13)).block, (ad301.add ((x9_1).toNat * 13)).off + 7, none⟩ = some (.int .i64 ((rd_T43 l0 x9_1).f7)) ∧ w'.cell? ⟨(ad301.add ((x9_1).toNat * 13)).block, (ad301.add ((x9_1).toNat * 13)).off + 8, none⟩ = some (.int .i64 ((rd_T43 l0 x9_1).f8)) ∧ w'.cell? ⟨(ad301.add ((x9_1).toNat * 13)).block, (ad301.add ((x9_1).toNat * 13)).off + 9, none⟩ = some (.int .i64 ((rd_T43 l0 x9_1).f9)) ∧ w'.cell? ⟨(ad301.add ((x9_1).toNat * 13)).block, (ad301.add ((x9_1).toNat * 13)).off + 10, none⟩ = some (.int .i64 ((rd_T43 l0 x9_1).f10)) ∧ w'.cell? ⟨(ad301.add ((x9_1).toNat * 13)).block, (ad301.add ((x9_1).toNat * 13)).off + 11, none⟩ = some (.int .i64 ((rd_T43 l0 x9_1).f11)) ∧ w'.cell? ⟨(ad301.add ((x9_1).toNat * 13)).block, (ad301.add ((x9_1).toNat * 13)).off + 12, none⟩ = some (.int .i64 ((rd_T43 l0 x9_1).f12))) (ds := []) (annuitylaw20_PayWhole.fl 18 0) (by kernel_rfl) rfl rfl ⟨(hxb HB.out hw310_0), (hxb HB.out hw310_1), (hxb HB.out hw310_2), (hxb HB.out hw310_3), (hxb HB.out hw310_4), (hxb HB.out hw310_5), (hxb HB.out hw310_6), (hxb HB.out hw310_7), (hxb HB.out hw310_8), (hxb HB.out hw310_9), (hxb HB.out hw310_10), (hxb HB.out hw310_11), (hxb HB.out hw310_12)⟩ (fun hHeld => ?_); refine with_tabW annuitylaw20_PayWhole.tab18 annuitylaw20_PayWhole.bits18 (fun HT_ HW_ => ?_)
   generalize w36.drew = w38 at HO_5 BK298 HB hx310_0 hx310_1 hx310_10 hx310_11 hx310_12 hx310_2 hx310_3 hx310_4 hx310_5 hx310_6 hx310_7 hx310_8 hx310_9 hHeld ⊢
   refine annuitylaw20_PayWhole.y 0 141 18 1 HT_.out ?_
   refine annuitylaw20_PayWhole.y 1 142 18 3 HT_.out ?_
   refine annuitylaw20_PayWhole.y 2 143 18 7 HT_.out ?_
   refine annuitylaw20_PayWhole.y 3 144 18 15 HT_.out ?_
   refine annuitylaw20_PayWhole.t 4 145 18 31 HT_.out HW_.out hHeld ?_
   refine annuitylaw20_PayWhole.y 5 146 18 63 HT_.out ?_
   refine annuitylaw20_PayWhole.y 6 147 18 127 HT_.out ?_
   refine annuitylaw20_PayWhole.g 7 148 18 255 HT_.out ?_
   refine annuitylaw20_PayWhole.g 8 149 18 511 HT_.out ?_
   refine annuitylaw20_PayWhole.g 9 150 18 1023 HT_.out ?_
   refine annuitylaw20_PayWhole.g 10 151 18 2047 HT_.out ?_
   refine annuitylaw20_PayWhole.g 11 152 18 4095 HT_.out ?_
   refine annuitylaw20_PayWhole.g 12 153 18 8191 HT_.out ?_
   refine annuitylaw20_PayWhole.g 13 154 18 16383 HT_.out ?_
   refine annuitylaw20_PayWhole.g 14 155 18 32767 HT_.out ?_
   refine annuitylaw20_PayWhole.g 15 156 18 65535 HT_.out ?_
   refine annuitylaw20_PayWhole.g 16 157 18 131071 HT_.out ?_
   refine annuitylaw20_PayWhole.y 17 158 18 262143 HT_.out ?_
   refine done_ (done_of HT_.out (by kernel_rfl)) ?_
   try go_wp2
   go_roundg k1
   case measure => have := HK1.out; omega
   case rel => exact ⟨(wrap64 (x8_1 + (wrap64 (t302 - t305)))), (wrap64 (x9_1 + 1)), (by first | rfl | (simp; done) | (simp [*]; done)), (by first | rfl | (simp; done) | (simp [*]; done)), H', ⟨by have := HK1.out; omega⟩, ⟨by exact rq HO_5.out⟩, ⟨by exact bb BK298.out⟩, ⟨by exact h1q HB.out GE298.out⟩⟩
  rw [if_neg c34] at H
  have c34b0 : (((rd_T43 l0 x9_1).f8) == 0) = false := beq_eq_false_iff_ne.mpr c34
  have c34b1 : (((rd_T43 l0 x9_1).f8) != 0) = true := bne_iff_ne.mpr c34
  replace H := Option.bind_eq_some_iff.mp H
  obtain ⟨t313, A390, H⟩ := H
  replace H : (if t313 = true then (annuitylaw20_PayWhole.l0 k1 l0 a1 t290 (wrap64 (x8_1 + (wrap64 (t302 - t305)))) (wrap64 (x9_1 + 1)) t293 t294 t295 t296) else (none)) = some r := H
  have A39 := Aside0.mk A390
  clear A390
  by_cases c40 : t313 = true
  case neg =>
   replace c40 := Bool.eq_false_iff.mpr c40
   subst c40
   have H1 : (none) = some r := by rw [if_neg (show ¬ (false = true) by decide)] at H; exact H
   clear H
   have H := H1
   clear H1
   exact absurd H (by simp)
  subst c40
  have H1 : (annuitylaw20_PayWhole.l0 k1 l0 a1 t290 (wrap64 (x8_1 + (wrap64 (t302 - t305)))) (wrap64 (x9_1 + 1)) t293 t294 t295 t296) = some r := by rw [if_pos rfl] at H; exact H
  clear H
  have H := H1
  clear H1
  have H' := Aside0.mk H
  clear H
  have p301 : 0 ≤ (x9_1 : Int) := yd
  have q301 : x9_1 < (l0.length : Int) := yd
  obtain ⟨ad301, e301, hx301_0, hx301_1, hx301_2, hx301_3, hx301_4, hx301_5, hx301_6, hx301_7, hx301_8, hx301_9, hx301_10, hx301_11, hx301_12⟩ := at_T43 HR0.out x9_1 p301 q301
  cases e301
  replace hx301_0 := hxb HB.out hx301_0
  replace hx301_1 := hxb HB.out hx301_1
  replace hx301_2 := hxb HB.out hx301_2
  replace hx301_3 := hxb HB.out hx301_3
  replace hx301_4 := hxb HB.out hx301_4
  replace hx301_5 := hxb HB.out hx301_5
  replace hx301_6 := hxb HB.out hx301_6
  replace hx301_7 := hxb HB.out hx301_7
  replace hx301_8 := hxb HB.out hx301_8
  replace hx301_9 := hxb HB.out hx301_9
  replace hx301_10 := hxb HB.out hx301_10
  replace hx301_11 := hxb HB.out hx301_11
  replace hx301_12 := hxb HB.out hx301_12
  replace p301 := eq_true p301
  replace q301 := eq_true q301
  try go_wp2_with (first | ((with_reducible refine gate_callee (f := 16) rfl ?_); refine goesL_ (some 90) rfl rfl Try.func16 (by kernel_rfl) rfl #[.agg #[.int .i64 ((rd_T43 l0 x9_1).f0), .int .i64 ((rd_T43 l0 x9_1).f1), .int .i64 ((rd_T43 l0 x9_1).f2), .int .i64 ((rd_T43 l0 x9_1).f3), .int .i64 ((rd_T43 l0 x9_1).f4), .int .i64 ((rd_T43 l0 x9_1).f5), .bool ((rd_T43 l0 x9_1).f6), .int .i64 ((rd_T43 l0 x9_1).f7), .int .i64 ((rd_T43 l0 x9_1).f8), .int .i64 ((rd_T43 l0 x9_1).f9), .int .i64 ((rd_T43 l0 x9_1).f10), .int .i64 ((rd_T43 l0 x9_1).f11), .int .i64 ((rd_T43 l0 x9_1).f12)]] rfl (by (try simp only [List.map_toArray, List.map_cons, List.map_nil]); first | done | rfl | (simp only [List.length_drop, List.length_take]; rfl)) ?_; (with_reducible refine (annuityref14_Owes.calls k1 ((rd_T43 l0 x9_1).f0) ((rd_T43 l0 x9_1).f1) ((rd_T43 l0 x9_1).f2) ((rd_T43 l0 x9_1).f3) ((rd_T43 l0 x9_1).f4) ((rd_T43 l0 x9_1).f5) ((rd_T43 l0 x9_1).f6) ((rd_T43 l0 x9_1).f7) ((rd_T43 l0 x9_1).f8) ((rd_T43 l0 x9_1).f9) ((rd_T43 l0 x9_1).f10) ((rd_T43 l0 x9_1).f11) ((rd_T43 l0 x9_1).f12) t302 t303 _ A24.out).mono ?_); rintro e w41 ⟨rfl, hb⟩; refine ⟨_, rfl, ?_⟩; have n0_ := Aside0.mk (Kd.R_below (by exact rq HO_5.out) hb); have n1_ := Aside0.mk (blk_below (g := gb298) (Up.up BK298.out) hb); have n2_ := Aside0.mk (below_step (by exact h1q HB.out GE298.out) hb); clear HO_5; clear BK298; clear HB; have HO_5 := n0_; have BK298 := n1_; have HB := n2_; clear n0_ n1_ n2_; (try clear hb); (try clear hb2); (try clear hk); (try clear hi); have p304 : 0 ≤ (x9_1 : Int) := yd; have q304 : x9_1 < (t290.length : Int) := yd; obtain ⟨ad304, e304, hx304_0, hx304_1, hx304_2, hx304_3, hx304_4, hx304_5, hx304_6, hx304_7, hx304_8, hx304_9, hx304_10, hx304_11, hx304_12⟩ := at_T43 (Kd.R_reads' HO_5.out).2.2 x9_1 p304 q304; cases e304; replace p304 := eq_true p304; replace q304 := eq_true q304) | ((with_reducible refine gate_callee (f := 16) rfl ?_); refine goesL_ (some 98) rfl rfl Try.func16 (by kernel_rfl) rfl #[.agg #[.int .i64 ((rd_T43 t290 x9_1).f0), .int .i64 ((rd_T43 t290 x9_1).f1), .int .i64 ((rd_T43 t290 x9_1).f2), .int .i64 ((rd_T43 t290 x9_1).f3), .int .i64 ((rd_T43 t290 x9_1).f4), .int .i64 ((rd_T43 t290 x9_1).f5), .bool ((rd_T43 t290 x9_1).f6), .int .i64 ((rd_T43 t290 x9_1).f7), .int .i64 ((rd_T43 t290 x9_1).f8), .int .i64 ((rd_T43 t290 x9_1).f9), .int .i64 ((rd_T43 t290 x9_1).f10), .int .i64 ((rd_T43 t290 x9_1).f11), .int .i64 ((rd_T43 t290 x9_1).f12)]] rfl (by (try simp only [List.map_toArray, List.map_cons, List.map_nil]); first | done | rfl | (simp only [List.length_drop, List.length_take]; rfl)) ?_; (with_reducible refine (annuityref14_Owes.calls k1 ((rd_T43 t290 x9_1).f0) ((rd_T43 t290 x9_1).f1) ((rd_T43 t290 x9_1).f2) ((rd_T43 t290 x9_1).f3) ((rd_T43 t290 x9_1).f4) ((rd_T43 t290 x9_1).f5) ((rd_T43 t290 x9_1).f6) ((rd_T43 t290 x9_1).f7) ((rd_T43 t290 x9_1).f8) ((rd_T43 t290 x9_1).f9) ((rd_T43 t290 x9_1).f10) ((rd_T43 t290 x9_1).f11) ((rd_T43 t290 x9_1).f12) t305 t306 _ A25.out).mono ?_); rintro e w42 ⟨rfl, hb⟩; refine ⟨_, rfl, ?_⟩; have n0_ := Aside0.mk (Kd.R_below (by exact rq HO_5.out) hb); have n1_ := Aside0.mk (blk_below (g := gb298) (Up.up BK298.out) hb); have n2_ := Aside0.mk (below_step (by exact h1q HB.out GE298.out) hb); clear HO_5; clear BK298; clear HB; have HO_5 := n0_; have BK298 := n1_; have HB := n2_; clear n0_ n1_ n2_; (try clear hb); (try clear hb2); (try clear hk); (try clear hi); have hcz43_0 : w42.cell? ⟨gb298, 0, none⟩ = some (.int .i64 t293) := (blk_cell BK298.out 0).trans rfl; have hcz43_1 : w42.cell? ⟨gb298, 1, none⟩ = some (.int .i64 t294) := (blk_cell BK298.out 1).trans rfl; have hcz43_2 : w42.cell? ⟨gb298, 2, none⟩ = some (.int .i64 t295) := (blk_cell BK298.out 2).trans rfl; have hcz43_3 : w42.cell? ⟨gb298, 3, none⟩ = some (.int .i64 t296) := (blk_cell BK298.out 3).trans rfl; have hfz43_0 := blk_frozen BK298.out 0; have hfz43_1 := blk_frozen BK298.out 1; have hfz43_2 := blk_frozen BK298.out 2; have hfz43_3 := blk_frozen BK298.out 3; have p308 : 0 ≤ (x9_1 : Int) := yd; have q308 : x9_1 < (t290.length : Int) := yd; obtain ⟨ad308, e308, hx308_0, hx308_1, hx308_2, hx308_3, hx308_4, hx308_5, hx308_6, hx308_7, hx308_8, hx308_9, hx308_10, hx308_11, hx308_12⟩ := at_T43 (Kd.R_reads' HO_5.out).2.2 x9_1 p308 q308; obtain rfl : ad304 = ad308 := (by injection e308); replace p308 := eq_true p308; replace q308 := eq_true q308; have p309 : 0 ≤ (x9_1 : Int) := yd; have q309 : x9_1 < (t290.length : Int) := yd; obtain ⟨ad309, e309, hx309_0, hx309_1, hx309_2, hx309_3, hx309_4, hx309_5, hx309_6, hx309_7, hx309_8, hx309_9, hx309_10, hx309_11, hx309_12⟩ := at_T43 (Kd.R_reads' HO_5.out).2.2 x9_1 p309 q309; obtain rfl : ad304 = ad309 := (by injection e309); replace p309 := eq_true p309; replace q309 := eq_true q309))
  have n0_ := Aside0.mk (Kd.R_drew HO_5.out)
  have n1_ := Aside0.mk (blk_drew BK298.out)
  have n2_ := Aside0.mk (below_drew1 HB.out)
  clear HO_5 BK298 HB
  have HO_5 := n0_
  have BK298 := n1_
  have HB := n2_
  clear n0_ n1_ n2_
  have p310 : 0 ≤ (x9_1 : Int) := yd
  have q310 : x9_1 < (l0.length : Int) := yd
  obtain ⟨ad310, e310, hx310_0, hx310_1, hx310_2, hx310_3, hx310_4, hx310_5, hx310_6, hx310_7, hx310_8, hx310_9, hx310_10, hx310_11, hx310_12⟩ := at_T43 HR0.out x9_1 p310 q310
  have hw310_12 := hx310_12
  have hw310_11 := hx310_11
  have hw310_10 := hx310_10
  have hw310_9 := hx310_9
  have hw310_8 := hx310_8
  have hw310_7 := hx310_7
  have hw310_6 := hx310_6
  have hw310_5 := hx310_5
  have hw310_4 := hx310_4
  have hw310_3 := hx310_3
  have hw310_2 := hx310_2
  have hw310_1 := hx310_1
  have hw310_0 := hx310_0
  obtain rfl : ad301 = ad310 := (by injection e310)
  replace hx310_0 := hxb HB.out hx310_0
  replace hx310_1 := hxb HB.out hx310_1
  replace hx310_2 := hxb HB.out hx310_2
  replace hx310_3 := hxb HB.out hx310_3
  replace hx310_4 := hxb HB.out hx310_4
  replace hx310_5 := hxb HB.out hx310_5
  replace hx310_6 := hxb HB.out hx310_6
  replace hx310_7 := hxb HB.out hx310_7
  replace hx310_8 := hxb HB.out hx310_8
  replace hx310_9 := hxb HB.out hx310_9
  replace hx310_10 := hxb HB.out hx310_10
  replace hx310_11 := hxb HB.out hx310_11
  replace hx310_12 := hxb HB.out hx310_12
  replace p310 := eq_true p310
  replace q310 := eq_true q310
  have p311 : 0 ≤ (x9_1 : Int) := yd
  have q311 : x9_1 < (t290.length : Int) := yd
  obtain ⟨ad311, e311, hx311_0, hx311_1, hx311_2, hx311_3, hx311_4, hx311_5, hx311_6, hx311_7, hx311_8, hx311_9, hx311_10, hx311_11, hx311_12⟩ := at_T43 (Kd.R_reads' HO_5.out).2.2 x9_1 p311 q311
  obtain rfl : ad304 = ad311 := (by injection e311)
  replace p311 := eq_true p311
  replace q311 := eq_true q311
  have p312 : 0 ≤ (x9_1 : Int) := yd
  have q312 : x9_1 < (l0.length : Int) := yd
  obtain ⟨ad312, e312, hx312_0, hx312_1, hx312_2, hx312_3, hx312_4, hx312_5, hx312_6, hx312_7, hx312_8, hx312_9, hx312_10, hx312_11, hx312_12⟩ := at_T43 HR0.out x9_1 p312 q312
  have hw312_12 := hx312_12
  have hw312_11 := hx312_11
  have hw312_10 := hx312_10
  have hw312_9 := hx312_9
  have hw312_8 := hx312_8
  have hw312_7 := hx312_7
  have hw312_6 := hx312_6
  have hw312_5 := hx312_5
  have hw312_4 := hx312_4
  have hw312_3 := hx312_3
  have hw312_2 := hx312_2
  have hw312_1 := hx312_1
  have hw312_0 := hx312_0
  obtain rfl : ad301 = ad312 := (by injection e312)
  replace hx312_0 := hxb HB.out hx312_0
  replace hx312_1 := hxb HB.out hx312_1
  replace hx312_2 := hxb HB.out hx312_2
  replace hx312_3 := hxb HB.out hx312_3
  replace hx312_4 := hxb HB.out hx312_4
  replace hx312_5 := hxb HB.out hx312_5
  replace hx312_6 := hxb HB.out hx312_6
  replace hx312_7 := hxb HB.out hx312_7
  replace hx312_8 := hxb HB.out hx312_8
  replace hx312_9 := hxb HB.out hx312_9
  replace hx312_10 := hxb HB.out hx312_10
  replace hx312_11 := hxb HB.out hx312_11
  replace hx312_12 := hxb HB.out hx312_12
  replace p312 := eq_true p312
  replace q312 := eq_true q312
  as_aux_lemma =>
  refine start_ (n := 18) (S := fun w' => w'.cell? (ad301.add ((x9_1).toNat * 13)) = some (.int .i64 ((rd_T43 l0 x9_1).f0)) ∧ w'.cell? ⟨(ad301.add ((x9_1).toNat * 13)).block, (ad301.add ((x9_1).toNat * 13)).off + 1, none⟩ = some (.int .i64 ((rd_T43 l0 x9_1).f1)) ∧ w'.cell? ⟨(ad301.add ((x9_1).toNat * 13)).block, (ad301.add ((x9_1).toNat * 13)).off + 2, none⟩ = some (.int .i64 ((rd_T43 l0 x9_1).f2)) ∧ w'.cell? ⟨(ad301.add ((x9_1).toNat * 13)).block, (ad301.add ((x9_1).toNat * 13)).off + 3, none⟩ = some (.int .i64 ((rd_T43 l0 x9_1).f3)) ∧ w'.cell? ⟨(ad301.add ((x9_1).toNat * 13)).block, (ad301.add ((x9_1).toNat * 13)).off + 4, none⟩ = some (.int .i64 ((rd_T43 l0 x9_1).f4)) ∧ w'.cell? ⟨(ad301.add ((x9_1).toNat * 13)).block, (ad301.add ((x9_1).toNat * 13)).off + 5, none⟩ = some (.int .i64 ((rd_T43 l0 x9_1).f5)) ∧ w'.cell? ⟨(ad301.add ((x9_1).toNat * 13)).block, (ad301.add ((x9_1).toNat * 13)).off + 6, none⟩ = some (.bool ((rd_T43 l0 x9_1).f6)) ∧ w'.cell? ⟨(ad301.add ((x9_1).toNat * 13)).block, (ad301.add ((x9_1).toNat * 13)).off + 7, none⟩ = some (.int .i64 ((rd_T43 l0 x9_1).f7)) ∧ w'.cell? ⟨(ad301.add ((x9_1).toNat * 13)).block, (ad301.add ((x9_1).toNat * 13)).off + 8, none⟩ = some (.int .i64 ((rd_T43 l0 x9_1).f8)) ∧ w'.cell? ⟨(ad301.add ((x9_1).toNat * 13)).block, (ad301.add ((x9_1).toNat * 13)).off + 9, none⟩ = some (.int .i64 ((rd_T43 l0 x9_1).f9)) ∧ w'.cell? ⟨(ad301.add ((x9_1).toNat * 13)).block, (ad301.add ((x9_1).toNat * 13)).off + 10, none⟩ = some (.int .i64 ((rd_T43 l0 x9_1).f10)) ∧ w'.cell? ⟨(ad301.add ((x9_1).toNat * 13)).block, (ad301.add ((x9_1).toNat * 13)).off + 11, none⟩ = some (.int .i64 ((rd_T43 l0 x9_1).f11)) ∧ w'.cell? ⟨(ad301.add ((x9_1).toNat * 13)).block, (ad301.add ((x9_1).toNat * 13)).off + 12, none⟩ = some (.int .i64 ((rd_T43 l0 x9_1).f12)) ∧ w'.cell? (ad304.add ((x9_1).toNat * 13)) = some (.int .i64 ((rd_T43 t290 x9_1).f0)) ∧ w'.cell? ⟨(ad304.add ((x9_1).toNat * 13)).block, (ad304.add ((x9_1).toNat * 13)).off + 1, none⟩ = some (.int .i64 ((rd_T43 t290 x9_1).f1)) ∧ w'.cell? ⟨(ad304.add ((x9_1).toNat * 13)).block, (ad304.add ((x9_1).toNat * 13)).off + 2, none⟩ = some (.int .i64 ((rd_T43 t290 x9_1).f2)) ∧ w'.cell? ⟨(ad304.add ((x9_1).toNat * 13)).block, (ad304.add ((x9_1).toNat * 13)).off + 3, none⟩ = some (.int .i64 ((rd_T43 t290 x9_1).f3)) ∧ w'.cell? ⟨(ad304.add ((x9_1).toNat * 13)).block, (ad304.add ((x9_1).toNat * 13)).off + 4, none⟩ = some (.int .i64 ((rd_T43 t290 x9_1).f4)) ∧ w'.cell? ⟨(ad304.add ((x9_1).toNat * 13)).block, (ad304.add ((x9_1).toNat * 13)).off + 5, none⟩ = some (.int .i64 ((rd_T43 t290 x9_1).f5)) ∧ w'.cell? ⟨(ad304.add ((x9_1).toNat * 13)).block, (ad304.add ((x9_1).toNat * 13)).off + 6, none⟩ = some (.bool ((rd_T43 t290 x9_1).f6)) ∧ w'.cell? ⟨(ad304.add ((x9_1).toNat * 13)).block, (ad304.add ((x9_1).toNat * 13)).off + 7, none⟩ = some (.int .i64 ((rd_T43 t290 x9_1).f7)) ∧ w'.cell? ⟨(ad304.add ((x9_1).toNat * 13)).block, (ad304.add ((x9_1).toNat * 13)).off + 8, none⟩ = some (.int .i64 ((rd_T43 t290 x9_1).f8)) ∧ w'.cell? ⟨(ad304.add ((x9_1).toNat * 13)).block, (ad304.add ((x9_1).toNat * 13)).off + 9, none⟩ = some (.int .i64 ((rd_T43 t290 x9_1).f9)) ∧ w'.cell? ⟨(ad304.add ((x9_1).toNat * 13)).block, (ad304.add ((x9_1).toNat * 13)).off + 10, none⟩ = some (.int .i64 ((rd_T43 t290 x9_1).f10)) ∧ w'.cell? ⟨(ad304.add ((x9_1).toNat * 13)).block, (ad304.add ((x9_1).toNat * 13)).off + 11, none⟩ = some (.int .i64 ((rd_T43 t290 x9_1).f11)) ∧ w'.cell? ⟨(ad304.add ((x9_1).toNat * 13)).block, (ad304.add ((x9_1).toNat * 13)).off + 12, none⟩ = some (.int .i64 ((rd_T43 t290 x9_1).f12)) ∧ w'.cell? (ad301.add ((x9_1).toNat * 13)) = some (.int .i64 ((rd_T43 l0 x9_1).f0)) ∧ w'.cell? ⟨(ad301.add ((x9_1).toNat * 13)).block, (ad301.add ((x9_1).toNat * 13)).off + 1, none⟩ = some (.int .i64 ((rd_T43 l0 x9_1).f1)) ∧ w'.cell? ⟨(ad301.add ((x9_1).toNat * 13)).block, (ad301.add ((x9_1).toNat * 13)).off + 2, none⟩ = some (.int .i64 ((rd_T43 l0 x9_1).f2)) ∧ w'.cell? ⟨(ad301.add ((x9_1).toNat * 13)).block, (ad301.add ((x9_1).toNat * 13)).off + 3, none⟩ = some (.int .i64 ((rd_T43 l0 x9_1).f3)) ∧ w'.cell? ⟨(ad301.add ((x9_1).toNat * 13)).block, (ad301.add ((x9_1).toNat * 13)).off + 4, none⟩ = some (.int .i64 ((rd_T43 l0 x9_1).f4)) ∧ w'.cell? ⟨(ad301.add ((x9_1).toNat * 13)).block, (ad301.add ((x9_1).toNat * 13)).off + 5, none⟩ = some (.int .i64 ((rd_T43 l0 x9_1).f5)) ∧ w'.cell? ⟨(ad301.add ((x9_1).toNat * 13)).block, (ad301.add ((x9_1).toNat * 13)).off + 6, none⟩ = some (.bool ((rd_T43 l0 x9_1).f6)) ∧ w'.cell? ⟨(ad301.add ((x9_1).toNat * 13)).block, (ad301.add ((x9_1).toNat * 13)).off + 7, none⟩ = some (.int .i64 ((rd_T43 l0 x9_1).f7)) ∧ w'.cell? ⟨(ad301.add ((x9_1).toNat * 13)).block, (ad301.add ((x9_1).toNat * 13)).off + 8, none⟩ = some (.int .i64 ((rd_T43 l0 x9_1).f8)) ∧ w'.cell? ⟨(ad301.add ((x9_1).toNat * 13)).block, (ad301.add ((x9_1).toNat * 13)).off + 9, none⟩ = some (.int .i64 ((rd_T43 l0 x9_1).f9)) ∧ w'.cell? ⟨(ad301.add ((x9_1).toNat * 13)).block, (ad301.add ((x9_1).toNat * 13)).off + 10, none⟩ = some (.int .i64 ((rd_T43 l0 x9_1).f10)) ∧ w'.cell? ⟨(ad301.add ((x9_1).toNat * 13)).block, (ad301.add ((x9_1).toNat * 13)).off + 11, none⟩ = some (.int .i64 ((rd_T43 l0 x9_1).f11)) ∧ w'.cell? ⟨(ad301.add ((x9_1).toNat * 13)).block, (ad301.add ((x9_1).toNat * 13)).off + 12, none⟩ = some (.int .i64 ((rd_T43 l0 x9_1).f12))) (ds := []) (annuitylaw20_PayWhole.fl 18 0) (by kernel_rfl) rfl rfl ⟨(hxb HB.out hw310_0), (hxb HB.out hw310_1), (hxb HB.out hw310_2), (hxb HB.out hw310_3), (hxb HB.out hw310_4), (hxb HB.out hw310_5), (hxb HB.out hw310_6), (hxb HB.out hw310_7), (hxb HB.out hw310_8), (hxb HB.out hw310_9), (hxb HB.out hw310_10), (hxb HB.out hw310_11), (hxb HB.out hw310_12), hx311_0, hx311_1, hx311_2, hx311_3, hx311_4, hx311_5, hx311_6, hx311_7, hx311_8, hx311_9, hx311_10, hx311_11, hx311_12, (hxb HB.out hw312_0), (hxb HB.out hw312_1), (hxb HB.out hw312_2), (hxb HB.out hw312_3), (hxb HB.out hw312_4), (hxb HB.out hw312_5), (hxb HB.out hw312_6), (hxb HB.out hw312_7), (hxb HB.out hw312_8), (hxb HB.out hw312_9), (hxb HB.out hw312_10), (hxb HB.out hw312_11), (hxb HB.out hw312_12)⟩ (fun hHeld => ?_); refine with_tabW annuitylaw20_PayWhole.tab18 annuitylaw20_PayWhole.bits18 (fun HT_ HW_ => ?_)
  generalize w42.drew = w44 at HO_5 BK298 HB hx310_0 hx310_1 hx310_10 hx310_11 hx310_12 hx310_2 hx310_3 hx310_4 hx310_5 hx310_6 hx310_7 hx310_8 hx310_9 hx311_0 hx311_1 hx311_10 hx311_11 hx311_12 hx311_2 hx311_3 hx311_4 hx311_5 hx311_6 hx311_7 hx311_8 hx311_9 hx312_0 hx312_1 hx312_10 hx312_11 hx312_12 hx312_2 hx312_3 hx312_4 hx312_5 hx312_6 hx312_7 hx312_8 hx312_9 hHeld ⊢
  refine annuitylaw20_PayWhole.y 0 141 18 1 HT_.out ?_
  refine annuitylaw20_PayWhole.y 1 142 18 3 HT_.out ?_
  refine annuitylaw20_PayWhole.y 2 143 18 7 HT_.out ?_
  refine annuitylaw20_PayWhole.y 3 144 18 15 HT_.out ?_
  refine annuitylaw20_PayWhole.t 4 145 18 31 HT_.out HW_.out hHeld ?_
  refine annuitylaw20_PayWhole.y 5 146 18 63 HT_.out ?_
  refine annuitylaw20_PayWhole.y 6 147 18 127 HT_.out ?_
  refine annuitylaw20_PayWhole.y 7 148 18 255 HT_.out ?_
  refine annuitylaw20_PayWhole.y 8 149 18 511 HT_.out ?_
  refine annuitylaw20_PayWhole.y 9 150 18 1023 HT_.out ?_
  refine annuitylaw20_PayWhole.y 11 152 18 3071 HT_.out ?_
  refine annuitylaw20_PayWhole.y 12 153 18 7167 HT_.out ?_
  refine annuitylaw20_PayWhole.y 13 154 18 15359 HT_.out ?_
  refine annuitylaw20_PayWhole.t 10 151 18 16383 HT_.out HW_.out hHeld ?_
  refine annuitylaw20_PayWhole.t 14 155 18 32767 HT_.out HW_.out hHeld ?_
  refine one_ (i := 15) (N := some 156) (annuitylaw20_PayWhole.fl 18 65535) rfl rfl (one_of HT_.out (by kernel_rfl)) (by decide) (fun K hK => ?_)
  refine goes_ Try.func17 (by kernel_rfl) rfl #[.agg #[.int .i64 ((rd_T43 t290 x9_1).f0), .int .i64 ((rd_T43 t290 x9_1).f1), .int .i64 ((rd_T43 t290 x9_1).f2), .int .i64 ((rd_T43 t290 x9_1).f3), .int .i64 ((rd_T43 t290 x9_1).f4), .int .i64 ((rd_T43 t290 x9_1).f5), .bool ((rd_T43 t290 x9_1).f6), .int .i64 ((rd_T43 t290 x9_1).f7), .int .i64 ((rd_T43 t290 x9_1).f8), .int .i64 ((rd_T43 t290 x9_1).f9), .int .i64 ((rd_T43 t290 x9_1).f10), .int .i64 ((rd_T43 t290 x9_1).f11), .int .i64 ((rd_T43 t290 x9_1).f12)], .agg #[.int .i64 ((rd_T43 l0 x9_1).f0), .int .i64 ((rd_T43 l0 x9_1).f1), .int .i64 ((rd_T43 l0 x9_1).f2), .int .i64 ((rd_T43 l0 x9_1).f3), .int .i64 ((rd_T43 l0 x9_1).f4), .int .i64 ((rd_T43 l0 x9_1).f5), .bool ((rd_T43 l0 x9_1).f6), .int .i64 ((rd_T43 l0 x9_1).f7), .int .i64 ((rd_T43 l0 x9_1).f8), .int .i64 ((rd_T43 l0 x9_1).f9), .int .i64 ((rd_T43 l0 x9_1).f10), .int .i64 ((rd_T43 l0 x9_1).f11), .int .i64 ((rd_T43 l0 x9_1).f12)]] (by rfl) rfl rfl (by (try simp only [List.map_toArray, List.map_cons, List.map_nil]); first | done | rfl | (simp only [List.length_drop, List.length_take]; rfl)) ?_
  with_reducible refine (annuitykeep_Loan.calls ((rd_T43 t290 x9_1).f0) ((rd_T43 t290 x9_1).f1) ((rd_T43 t290 x9_1).f2) ((rd_T43 t290 x9_1).f3) ((rd_T43 t290 x9_1).f4) ((rd_T43 t290 x9_1).f5) ((rd_T43 t290 x9_1).f6) ((rd_T43 t290 x9_1).f7) ((rd_T43 t290 x9_1).f8) ((rd_T43 t290 x9_1).f9) ((rd_T43 t290 x9_1).f10) ((rd_T43 t290 x9_1).f11) ((rd_T43 t290 x9_1).f12) ((rd_T43 l0 x9_1).f0) ((rd_T43 l0 x9_1).f1) ((rd_T43 l0 x9_1).f2) ((rd_T43 l0 x9_1).f3) ((rd_T43 l0 x9_1).f4) ((rd_T43 l0 x9_1).f5) ((rd_T43 l0 x9_1).f6) ((rd_T43 l0 x9_1).f7) ((rd_T43 l0 x9_1).f8) ((rd_T43 l0 x9_1).f9) ((rd_T43 l0 x9_1).f10) ((rd_T43 l0 x9_1).f11) ((rd_T43 l0 x9_1).f12) true _ A39.out).mono ?_
  rintro e w45 ⟨rfl, hb⟩
  have HS13_ := hxb hb (hHeld.2.2.2.2.2.2.2.2.2.2.2.2.2.1)
  have HS14_ := hxb hb (hHeld.2.2.2.2.2.2.2.2.2.2.2.2.2.2.1)
  have HS15_ := hxb hb (hHeld.2.2.2.2.2.2.2.2.2.2.2.2.2.2.2.1)
  have HS16_ := hxb hb (hHeld.2.2.2.2.2.2.2.2.2.2.2.2.2.2.2.2.1)
  have HS17_ := hxb hb (hHeld.2.2.2.2.2.2.2.2.2.2.2.2.2.2.2.2.2.1)
  have HS18_ := hxb hb (hHeld.2.2.2.2.2.2.2.2.2.2.2.2.2.2.2.2.2.2.1)
  have HS19_ := hxb hb (hHeld.2.2.2.2.2.2.2.2.2.2.2.2.2.2.2.2.2.2.2.1)
  have HS20_ := hxb hb (hHeld.2.2.2.2.2.2.2.2.2.2.2.2.2.2.2.2.2.2.2.2.1)
  have HS21_ := hxb hb (hHeld.2.2.2.2.2.2.2.2.2.2.2.2.2.2.2.2.2.2.2.2.2.1)
  have HS22_ := hxb hb (hHeld.2.2.2.2.2.2.2.2.2.2.2.2.2.2.2.2.2.2.2.2.2.2.1)
  have HS23_ := hxb hb (hHeld.2.2.2.2.2.2.2.2.2.2.2.2.2.2.2.2.2.2.2.2.2.2.2.1)
  have HS24_ := hxb hb (hHeld.2.2.2.2.2.2.2.2.2.2.2.2.2.2.2.2.2.2.2.2.2.2.2.2.1)
  have HS25_ := hxb hb (hHeld.2.2.2.2.2.2.2.2.2.2.2.2.2.2.2.2.2.2.2.2.2.2.2.2.2.1)
  refine ⟨_, rfl, ?_⟩
  have n0_ := Aside0.mk (Kd.R_below (by exact rq HO_5.out) hb)
  have n1_ := Aside0.mk (blk_below (g := gb298) (Up.up BK298.out) hb)
  have n2_ := Aside0.mk (below_step (by exact h1q HB.out GE298.out) hb)
  clear HO_5 BK298 HB
  have HO_5 := n0_
  have BK298 := n1_
  have HB := n2_
  clear n0_ n1_ n2_
  (try clear hb)
  (try clear hb2)
  (try clear hk)
  (try clear hi)
  refine hK.out _ _ ⟨(hxb HB.out hw310_0), (hxb HB.out hw310_1), (hxb HB.out hw310_2), (hxb HB.out hw310_3), (hxb HB.out hw310_4), (hxb HB.out hw310_5), (hxb HB.out hw310_6), (hxb HB.out hw310_7), (hxb HB.out hw310_8), (hxb HB.out hw310_9), (hxb HB.out hw310_10), (hxb HB.out hw310_11), (hxb HB.out hw310_12), HS13_, HS14_, HS15_, HS16_, HS17_, HS18_, HS19_, HS20_, HS21_, HS22_, HS23_, HS24_, HS25_, (hxb HB.out hw312_0), (hxb HB.out hw312_1), (hxb HB.out hw312_2), (hxb HB.out hw312_3), (hxb HB.out hw312_4), (hxb HB.out hw312_5), (hxb HB.out hw312_6), (hxb HB.out hw312_7), (hxb HB.out hw312_8), (hxb HB.out hw312_9), (hxb HB.out hw312_10), (hxb HB.out hw312_11), (hxb HB.out hw312_12)⟩ (fun hHeld => ?_)
  clear hK K
  refine norm_ (a' := ?_) ?_ ?_
  rotate_left
  ·show Act.put _ (some 156) _ = _
   simp only [Act.put, List.setIfInBounds_toArray, List.set_cons_zero, List.set_cons_succ, i64_w, i32_w]
   rfl
  refine annuitylaw20_PayWhole.y 16 157 18 131071 HT_.out ?_
  refine annuitylaw20_PayWhole.y 17 158 18 262143 HT_.out ?_
  refine done_ (done_of HT_.out (by kernel_rfl)) ?_
  try go_wp2
  go_roundg k1
  case measure => have := HK1.out; omega
  case rel => exact ⟨(wrap64 (x8_1 + (wrap64 (t302 - t305)))), (wrap64 (x9_1 + 1)), (by first | rfl | (simp; done) | (simp [*]; done)), (by first | rfl | (simp; done) | (simp [*]; done)), H', ⟨by have := HK1.out; omega⟩, ⟨by exact rq HO_5.out⟩, ⟨by exact bb BK298.out⟩, ⟨by exact h1q HB.out GE298.out⟩⟩
/-- What is known of an element that came in. -/
def annuitylaw20_PayWhole.wf43 (x : S43) : Prop := (Lit.int .i64 x.f0).wf = true ∧ (Lit.int .i64 x.f1).wf = true ∧ (Lit.int .i64 x.f2).wf = true ∧ (Lit.int .i64 x.f3).wf = true ∧ (Lit.int .i64 x.f4).wf = true ∧ (Lit.int .i64 x.f5).wf = true ∧ (Lit.int .i64 x.f7).wf = true ∧ (Lit.int .i64 x.f8).wf = true ∧ (Lit.int .i64 x.f9).wf = true ∧ (Lit.int .i64 x.f10).wf = true ∧ (Lit.int .i64 x.f11).wf = true ∧ (Lit.int .i64 x.f12).wf = true
/-- THE ONE PURE STATEMENT of annuitylaw20_PayWhole: yours. -/
def annuitylaw20_PayWhole.Pure : Prop := ∀ (l0 : List (S43)) (a1 : Int), l0.length ≤ maxLen → l0.length * 104 ≤ 140737488351232 → (∀ x ∈ l0, annuitylaw20_PayWhole.wf43 x) → (Lit.int .i64 a1).wf = true → ∃ k, annuitylaw20_PayWhole.f k l0 a1 = some true
theorem annuitylaw20_PayWhole.walk (P : annuitylaw20_PayWhole.Pure) (a0 : Option Addr) (cap0 : Nat) (l0 : List S43) (a1 : Int) (w : World) (hr0 : Kd.C k43 w a0 l0.length l0) (hc0 : l0.length ≤ cap0) (hm0 : l0.length ≤ maxLen) (y0 : l0.length * 104 ≤ 140737488351232) (hw0 : ∀ x ∈ l0, annuitylaw20_PayWhole.wf43 x) (w1 : (Lit.int .i64 a1).wf = true) :
  Calls Try.prog 4 #[.slice a0 l0.length cap0, .int .i64 a1] w fun e w' => e = .returned (.bool true) ∧ Below w.heap.size w w' := by
 obtain ⟨k, h⟩ := P l0 a1 hm0 y0 hw0 w1
 refine (annuitylaw20_PayWhole.calls k _ _ l0 a1 true w hr0 hc0 h).mono ?_
 rintro e w' ⟨rfl, hd⟩
 exact ⟨rfl, hd⟩

end Go.Proofs.Yteemomncbcpdjaa.P
