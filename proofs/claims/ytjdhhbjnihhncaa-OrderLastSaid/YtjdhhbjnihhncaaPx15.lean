/- Functions of the program as plain Lean functions, and proofs that its calls come to just their answers, where they tell one (written by a program of this session). -/
import Derived.Test.YtjdhhbjnihhncaaZaa
import Derived.Test.YtjdhhbjnihhncaaPx0
import Derived.Test.YtjdhhbjnihhncaaPx4
import Derived.Test.YtjdhhbjnihhncaaPx10
import Derived.Test.YtjdhhbjnihhncaaPx12
import Derived.Test.YtjdhhbjnihhncaaZd
import Derived.Test.YtjdhhbjnihhncaaZs
namespace Go.Proofs.Ytjdhhbjnihhncaa.P
open Go.RowKit Go.Proofs.YtjdhhbjnihhncaaW.PrintWords Go.Proofs.YtjdhhbjnihhncaaW.PrintLast Go.Proofs.YtjdhhbjnihhncaaW.PrintMore
attribute [local go_sem] run_store_float max2_int min2_int max_two min_two max_three min_three max_four min_four   -- for this text's walks alone
set_option linter.unusedVariables false
set_option linter.unusedSimpArgs false

/-! ### annuitylaw23_OrderLast: function 5 -/
def annuitylaw23_OrderLast.f (k : Nat) (l0 : List (S26)) (a1 : Int) : Option (Bool) := if (l0.length : Int) > 120 then ((annuitylaw23_wakes.f k).bind fun t316 => (some t316)) else ((some (([] : List (S26)) : List (S26))).bind fun y317 => (if y317.length + l0.length < 1599289640401 then ((order_Sort.f k (y317 ++ l0)).bind fun t323 => (if (t323.length : Int) = (l0.length : Int) then ((some (([] : List (S26)) : List (S26))).bind fun y326 => (if y326.length + t323.length < 1599289640401 then ((order_Sort.f k (y326 ++ t323)).bind fun t332 => ((annuitykeep_Events.f k t332 t323).bind fun t335 => (if t335 = true then (if (t323.length : Int) > 0 then ((order_Last.f k t323).bind fun t336 => (if 0 ≤ (wrap64 ((t323.length : Int) - 1)) then (if (wrap64 ((t323.length : Int) - 1)) < (t323.length : Int) then (if t336 = ((rd_T26 t323 (wrap64 ((t323.length : Int) - 1))).f1) then ((order_Last.f k l0).bind fun t338 => ((order_Last.f k t323).bind fun t339 => (if t338 = t339 then ((order_Find.f k t323 a1).bind fun t340 => (if t340 ≥ (t323.length : Int) then (none) else (if t340 ≥ 0 then (if 0 ≤ t340 then (if t340 < (t323.length : Int) then (if ((rd_T26 t323 t340).f2) = a1 then ((order_Find.f k l0 a1).bind fun t342 => (if ((decide (t340 < 0)) == (decide (t342 < 0))) = true then (if (l0.length : Int) > 0 then ((annuitylaw23_wakes.f k).bind fun t343 => (some t343)) else ((order_Last.f k l0).bind fun t344 => (if t344 = (-1) then ((annuitylaw23_wakes.f k).bind fun t345 => (some t345)) else (none)))) else (none))) else (none)) else (none)) else (none)) else ((order_Find.f k l0 a1).bind fun t346 => (if ((decide (t340 < 0)) == (decide (t346 < 0))) = true then (if (l0.length : Int) > 0 then ((annuitylaw23_wakes.f k).bind fun t347 => (some t347)) else ((order_Last.f k l0).bind fun t348 => (if t348 = (-1) then ((annuitylaw23_wakes.f k).bind fun t349 => (some t349)) else (none)))) else (none)))))) else (none)))) else (none)) else (none)) else (none))) else ((order_Find.f k t323 a1).bind fun t350 => (if t350 ≥ (t323.length : Int) then (none) else (if t350 ≥ 0 then (if 0 ≤ t350 then (if t350 < (t323.length : Int) then (if ((rd_T26 t323 t350).f2) = a1 then ((order_Find.f k l0 a1).bind fun t352 => (if ((decide (t350 < 0)) == (decide (t352 < 0))) = true then (if (l0.length : Int) > 0 then ((annuitylaw23_wakes.f k).bind fun t353 => (some t353)) else ((order_Last.f k l0).bind fun t354 => (if t354 = (-1) then ((annuitylaw23_wakes.f k).bind fun t355 => (some t355)) else (none)))) else (none))) else (none)) else (none)) else (none)) else ((order_Find.f k l0 a1).bind fun t356 => (if ((decide (t350 < 0)) == (decide (t356 < 0))) = true then (if (l0.length : Int) > 0 then ((annuitylaw23_wakes.f k).bind fun t357 => (some t357)) else ((order_Last.f k l0).bind fun t358 => (if t358 = (-1) then ((annuitylaw23_wakes.f k).bind fun t359 => (some t359)) else (none)))) else (none))))))) else (none)))) else (none))) else (none))) else (none)))
def annuitylaw23_OrderLast.T6 : Bool × List (List Nat × List Nat) := (true, [([], []), ([0], [0]), ([1], [1]), ([2], [2]), ([3], [3]), ([4, 3, 3], [3, 4]), ([3], [3]), ([3], [3]), ([7, 3], [3, 7]), ([8, 3], [3, 8]), ([6, 9, 3], [3, 6, 9]), ([10, 3], [3, 10]), ([11, 3], [3, 11]), ([5, 12, 3], [3, 5, 12]), ([13, 5, 3], [3, 13]), ([14], [14]), ([15, 14, 14], [14, 15]), ([14], [14]), ([17, 16, 14], [14, 17]), ([16, 18, 14], [14, 16, 18]), ([14, 19, 3], [3, 14, 19]), ([3, 20], [3, 20])])
def annuitylaw23_OrderLast.B6 : List Nat := [0, 1, 3, 7, 15, 31, 15, 15, 143, 399, 975, 1999, 4047, 8191, 16383, 32767, 65535, 32767, 262143, 524287, 1048575, 2097151]
theorem annuitylaw23_OrderLast.tab6 : rtab .any (opsOf Try.f5 6) = annuitylaw23_OrderLast.T6 := by kernel_rfl
theorem annuitylaw23_OrderLast.bits6 : waitsOk annuitylaw23_OrderLast.T6.2 annuitylaw23_OrderLast.B6 = true := by kernel_rfl
section
variable {P : Program} {ops : Array Oper} {Q : Exit → Act → World → Prop} {S : World → Prop} {ds : List Nat} {fuel : Nat} {a a' : Act} {w : World} {oi : Oper} {v : Value} {T : Bool × List (List Nat × List Nat)} {B : List Nat}
/-- Which ones have come up, as the bits of a number. -/
def annuitylaw23_OrderLast.fl (n m : Nat) : Array Bool := ((List.range n).map fun j => m.testBit j).toArray
theorem annuitylaw23_OrderLast.y (i N n m : Nat) {l : Array Bool} (hT : rtab .any ops = T) (h : wpAnyLast P .any ops Q S ds fuel (annuitylaw23_OrderLast.fl n m) a' w)
  (hi : ops[i]? = some oi := by rfl) (hN : oi.dst = some N := by rfl) (hc : anyT T l.toList (annuitylaw23_OrderLast.fl n m).toList i = true := by kernel_rfl)
  (hQ : ∀ c a w, Q (.panic c) (a.put oi.dst v) w → Q (.panic c) a w := by exact fun _ _ _ h => h) (hw : Region.wanted oi (yielded ops a.tmps) = true := by rfl)
  (hy : ∀ w, (execOp a.eval oi).run P w = .ok (.value v) w := by (intro w'; go_simp; with_reducible rfl)) (ha : a.put (some N) v = a' := by (simp only [Act.put, List.setIfInBounds_toArray, List.set_cons_zero, List.set_cons_succ, i64_w, i32_w]; rfl)) :
  wpAnyLast P .any ops Q S ds (fuel + 1) l a w := pure_ (N := some N) (annuitylaw23_OrderLast.fl n m) hi hN (any_of hT hc) hQ (Or.inl ⟨hw, hy⟩) ha h
theorem annuitylaw23_OrderLast.g (i N n m : Nat) {l : Array Bool} (hT : rtab .any ops = T) (h : wpAnyLast P .any ops Q S ds fuel (annuitylaw23_OrderLast.fl n m) a' w)
  (hi : ops[i]? = some oi := by rfl) (hN : oi.dst = some N := by rfl) (hc : anyT T l.toList (annuitylaw23_OrderLast.fl n m).toList i = true := by kernel_rfl)
  (hQ : ∀ c a w, Q (.panic c) (a.put oi.dst undef) w → Q (.panic c) a w := by exact fun _ _ _ h => h) (hw : Region.wanted oi (yielded ops a.tmps) = false := by rfl)
  (ha : a.put (some N) undef = a' := by (simp only [Act.put, List.setIfInBounds_toArray, List.set_cons_zero, List.set_cons_succ, i64_w, i32_w]; rfl)) :
  wpAnyLast P .any ops Q S ds (fuel + 1) l a w := pure_ (N := some N) (annuitylaw23_OrderLast.fl n m) hi hN (any_of hT hc) hQ (Or.inr ⟨hw, rfl⟩) ha h
theorem annuitylaw23_OrderLast.t (i N n m : Nat) {l : Array Bool} (hT : rtab .any ops = T) (hB : waitsOk T.2 B = true) (hS : S w) (h : wpAnyLast P .any ops Q S ds fuel (annuitylaw23_OrderLast.fl n m) a' w)
  (hi : ops[i]? = some oi := by rfl) (hN : oi.dst = some N := by rfl) (hc : takeW T B ds l.toList (annuitylaw23_OrderLast.fl n m).toList i = true := by kernel_rfl)
  (hQ : ∀ c a w, Q (.panic c) (a.put oi.dst v) w → Q (.panic c) a w := by exact fun _ _ _ h => h) (hw : Region.wanted oi (yielded ops a.tmps) = true := by rfl)
  (hy : ∀ w, S w → (execOp a.eval oi).run P w = .ok (.value v) w := by (intro w' hs_; (try dsimp only at hs_); go_simp; with_reducible rfl)) (ha : a.put (some N) v = a' := by (simp only [Act.put, List.setIfInBounds_toArray, List.set_cons_zero, List.set_cons_succ, i64_w, i32_w]; rfl)) :
  wpAnyLast P .any ops Q S ds (fuel + 1) l a w := take_ (N := some N) (annuitylaw23_OrderLast.fl n m) hi hN (take_ofW hT hB hc) hQ (Or.inl ⟨hw, hy⟩) hS ha h
end
set_option maxHeartbeats 8000000 in
set_option maxRecDepth 100000 in
theorem annuitylaw23_OrderLast.calls (k : Nat) (A0 : Option Addr) (c0 : Nat) (l0 : List (S26)) (a1 : Int) (r : Bool) (w : World) (hr0 : Kd.C k26 w A0 l0.length l0) (hc0 : l0.length ≤ c0) (h : annuitylaw23_OrderLast.f k l0 a1 = some r) :
  Calls Try.prog 5 #[.slice A0 l0.length c0, .int .u32 a1] w fun e w' => e = .returned (.bool r) ∧ Below w.heap.size w w' := by
 have HR0 := Aside0.mk hr0
 have HC0 := Aside0.mk hc0
 clear hr0 hc0
 have HB := Aside0.mk (Below.refl w.heap.size w)
 have H : (if (l0.length : Int) > 120 then ((annuitylaw23_wakes.f k).bind fun t316 => (some t316)) else ((some (([] : List (S26)) : List (S26))).bind fun y317 => (if y317.length + l0.length < 1599289640401 then ((order_Sort.f k (y317 ++ l0)).bind fun t323 => (if (t323.length : Int) = (l0.length : Int) then ((some (([] : List (S26)) : List (S26))).bind fun y326 => (if y326.length + t323.length < 1599289640401 then ((order_Sort.f k (y326 ++ t323)).bind fun t332 => ((annuitykeep_Events.f k t332 t323).bind fun t335 => (if t335 = true then (if (t323.length : Int) > 0 then ((order_Last.f k t323).bind fun t336 => (if 0 ≤ (wrap64 ((t323.length : Int) - 1)) then (if (wrap64 ((t323.length : Int) - 1)) < (t323.length : Int) then (if t336 = ((rd_T26 t323 (wrap64 ((t323.length : Int) - 1))).f1) then ((order_Last.f k l0).bind fun t338 => ((order_Last.f k t323).bind fun t339 => (if t338 = t339 then ((order_Find.f k t323 a1).bind fun t340 => (if t340 ≥ (t323.length : Int) then (none) else (if t340 ≥ 0 then (if 0 ≤ t340 then (if t340 < (t323.length : Int) then (if ((rd_T26 t323 t340).f2) = a1 then ((order_Find.f k l0 a1).bind fun t342 => (if ((decide (t340 < 0)) == (decide (t342 < 0))) = true then (if (l0.length : Int) > 0 then ((annuitylaw23_wakes.f k).bind fun t343 => (some t343)) else ((order_Last.f k l0).bind fun t344 => (if t344 = (-1) then ((annuitylaw23_wakes.f k).bind fun t345 => (some t345)) else (none)))) else (none))) else (none)) else (none)) else (none)) else ((order_Find.f k l0 a1).bind fun t346 => (if ((decide (t340 < 0)) == (decide (t346 < 0))) = true then (if (l0.length : Int) > 0 then ((annuitylaw23_wakes.f k).bind fun t347 => (some t347)) else ((order_Last.f k l0).bind fun t348 => (if t348 = (-1) then ((annuitylaw23_wakes.f k).bind fun t349 => (some t349)) else (none)))) else (none)))))) else (none)))) else (none)) else (none)) else (none))) else ((order_Find.f k t323 a1).bind fun t350 => (if t350 ≥ (t323.length : Int) then (none) else (if t350 ≥ 0 then (if 0 ≤ t350 then (if t350 < (t323.length : Int) then (if ((rd_T26 t323 t350).f2) = a1 then ((order_Find.f k l0 a1).bind fun t352 => (if ((decide (t350 < 0)) == (decide (t352 < 0))) = true then (if (l0.length : Int) > 0 then ((annuitylaw23_wakes.f k).bind fun t353 => (some t353)) else ((order_Last.f k l0).bind fun t354 => (if t354 = (-1) then ((annuitylaw23_wakes.f k).bind fun t355 => (some t355)) else (none)))) else (none))) else (none)) else (none)) else (none)) else ((order_Find.f k l0 a1).bind fun t356 => (if ((decide (t350 < 0)) == (decide (t356 < 0))) = true then (if (l0.length : Int) > 0 then ((annuitylaw23_wakes.f k).bind fun t357 => (some t357)) else ((order_Last.f k l0).bind fun t358 => (if t358 = (-1) then ((annuitylaw23_wakes.f k).bind fun t359 => (some t359)) else (none)))) else (none))))))) else (none)))) else (none))) else (none))) else (none)))) = some r := h
 clear h
 by_cases c3 : (l0.length : Int) > 120
 ·rw [if_pos c3] at H
  have c3b0 : decide (120 < (l0.length : Int)) = true := decide_eq_true c3
  have c3b1 : decide (120 < l0.length) = true := decide_eq_true (by omega)
  clear c3
  replace H := Option.bind_eq_some_iff.mp H
  obtain ⟨t316, A40, H⟩ := H
  replace H : (some t316) = some r := H
  have A4 := Aside0.mk A40
  clear A40
  obtain rfl := Option.some.inj H
  go_enter Try.func5, Try.ntmps5
  go_wp2_with (first | ((with_reducible refine gate_callee (f := 6) rfl ?_); refine goesL_ (some 10) rfl rfl Try.func6 (by kernel_rfl) rfl #[] rfl (by (try simp only [List.map_toArray, List.map_cons, List.map_nil]); first | done | rfl | (simp only [List.length_drop, List.length_take]; rfl)) ?_; (with_reducible refine (annuitylaw23_wakes.calls k  t316 _ A4.out).mono ?_); rintro e w5 ⟨rfl, hb⟩; refine ⟨_, rfl, ?_⟩; have n0_ := Aside0.mk (below_step (by exact h0q HB.out) hb); clear HB; have HB := n0_; clear n0_; (try clear hb); (try clear hb2); (try clear hk); (try clear hi)))
  go_ret
  exact ⟨by first | rfl | (simp [errW_none, errW_some] <;> rfl) | (simp [*, errW_none, errW_some] <;> rfl), by exact h0q HB.out⟩
 ·rw [if_neg c3] at H
  have c3b0 : decide (120 < (l0.length : Int)) = false := decide_eq_false c3
  have c3b1 : decide (120 < l0.length) = false := decide_eq_false (by omega)
  clear c3
  obtain ⟨y317, hy317⟩ : ∃ y_ : List (S26), y_ = (([] : List (S26))) := ⟨_, rfl⟩
  replace H : (if y317.length + l0.length < 1599289640401 then ((order_Sort.f k (y317 ++ l0)).bind fun t323 => (if (t323.length : Int) = (l0.length : Int) then ((some (([] : List (S26)) : List (S26))).bind fun y326 => (if y326.length + t323.length < 1599289640401 then ((order_Sort.f k (y326 ++ t323)).bind fun t332 => ((annuitykeep_Events.f k t332 t323).bind fun t335 => (if t335 = true then (if (t323.length : Int) > 0 then ((order_Last.f k t323).bind fun t336 => (if 0 ≤ (wrap64 ((t323.length : Int) - 1)) then (if (wrap64 ((t323.length : Int) - 1)) < (t323.length : Int) then (if t336 = ((rd_T26 t323 (wrap64 ((t323.length : Int) - 1))).f1) then ((order_Last.f k l0).bind fun t338 => ((order_Last.f k t323).bind fun t339 => (if t338 = t339 then ((order_Find.f k t323 a1).bind fun t340 => (if t340 ≥ (t323.length : Int) then (none) else (if t340 ≥ 0 then (if 0 ≤ t340 then (if t340 < (t323.length : Int) then (if ((rd_T26 t323 t340).f2) = a1 then ((order_Find.f k l0 a1).bind fun t342 => (if ((decide (t340 < 0)) == (decide (t342 < 0))) = true then (if (l0.length : Int) > 0 then ((annuitylaw23_wakes.f k).bind fun t343 => (some t343)) else ((order_Last.f k l0).bind fun t344 => (if t344 = (-1) then ((annuitylaw23_wakes.f k).bind fun t345 => (some t345)) else (none)))) else (none))) else (none)) else (none)) else (none)) else ((order_Find.f k l0 a1).bind fun t346 => (if ((decide (t340 < 0)) == (decide (t346 < 0))) = true then (if (l0.length : Int) > 0 then ((annuitylaw23_wakes.f k).bind fun t347 => (some t347)) else ((order_Last.f k l0).bind fun t348 => (if t348 = (-1) then ((annuitylaw23_wakes.f k).bind fun t349 => (some t349)) else (none)))) else (none)))))) else (none)))) else (none)) else (none)) else (none))) else ((order_Find.f k t323 a1).bind fun t350 => (if t350 ≥ (t323.length : Int) then (none) else (if t350 ≥ 0 then (if 0 ≤ t350 then (if t350 < (t323.length : Int) then (if ((rd_T26 t323 t350).f2) = a1 then ((order_Find.f k l0 a1).bind fun t352 => (if ((decide (t350 < 0)) == (decide (t352 < 0))) = true then (if (l0.length : Int) > 0 then ((annuitylaw23_wakes.f k).bind fun t353 => (some t353)) else ((order_Last.f k l0).bind fun t354 => (if t354 = (-1) then ((annuitylaw23_wakes.f k).bind fun t355 => (some t355)) else (none)))) else (none))) else (none)) else (none)) else (none)) else ((order_Find.f k l0 a1).bind fun t356 => (if ((decide (t350 < 0)) == (decide (t356 < 0))) = true then (if (l0.length : Int) > 0 then ((annuitylaw23_wakes.f k).bind fun t357 => (some t357)) else ((order_Last.f k l0).bind fun t358 => (if t358 = (-1) then ((annuitylaw23_wakes.f k).bind fun t359 => (some t359)) else (none)))) else (none))))))) else (none)))) else (none))) else (none))) else (none)) = some r := by first | (rw [hy317]; with_reducible exact H) | (have H2_ := (Option.bind_some _ _).symm.trans H; rw [hy317]; with_reducible exact H2_) | (have H2_ := (Option.bind_some _ _).symm.trans H; with_reducible exact H2_) | with_reducible exact H | (rw [hy317]; exact H) | exact H
  have Ny317 := Aside0.mk hy317
  clear hy317
  by_cases c6 : y317.length + l0.length < 1599289640401
  ·rw [if_pos c6] at H
   have LMc6 := Aside0.mk c6
   clear c6
   obtain ⟨y320, hy320⟩ : ∃ y_ : List (S26), y_ = (y317 ++ l0) := ⟨_, rfl⟩
   replace H : ((order_Sort.f k y320).bind fun t323 => (if (t323.length : Int) = (l0.length : Int) then ((some (([] : List (S26)) : List (S26))).bind fun y326 => (if y326.length + t323.length < 1599289640401 then ((order_Sort.f k (y326 ++ t323)).bind fun t332 => ((annuitykeep_Events.f k t332 t323).bind fun t335 => (if t335 = true then (if (t323.length : Int) > 0 then ((order_Last.f k t323).bind fun t336 => (if 0 ≤ (wrap64 ((t323.length : Int) - 1)) then (if (wrap64 ((t323.length : Int) - 1)) < (t323.length : Int) then (if t336 = ((rd_T26 t323 (wrap64 ((t323.length : Int) - 1))).f1) then ((order_Last.f k l0).bind fun t338 => ((order_Last.f k t323).bind fun t339 => (if t338 = t339 then ((order_Find.f k t323 a1).bind fun t340 => (if t340 ≥ (t323.length : Int) then (none) else (if t340 ≥ 0 then (if 0 ≤ t340 then (if t340 < (t323.length : Int) then (if ((rd_T26 t323 t340).f2) = a1 then ((order_Find.f k l0 a1).bind fun t342 => (if ((decide (t340 < 0)) == (decide (t342 < 0))) = true then (if (l0.length : Int) > 0 then ((annuitylaw23_wakes.f k).bind fun t343 => (some t343)) else ((order_Last.f k l0).bind fun t344 => (if t344 = (-1) then ((annuitylaw23_wakes.f k).bind fun t345 => (some t345)) else (none)))) else (none))) else (none)) else (none)) else (none)) else ((order_Find.f k l0 a1).bind fun t346 => (if ((decide (t340 < 0)) == (decide (t346 < 0))) = true then (if (l0.length : Int) > 0 then ((annuitylaw23_wakes.f k).bind fun t347 => (some t347)) else ((order_Last.f k l0).bind fun t348 => (if t348 = (-1) then ((annuitylaw23_wakes.f k).bind fun t349 => (some t349)) else (none)))) else (none)))))) else (none)))) else (none)) else (none)) else (none))) else ((order_Find.f k t323 a1).bind fun t350 => (if t350 ≥ (t323.length : Int) then (none) else (if t350 ≥ 0 then (if 0 ≤ t350 then (if t350 < (t323.length : Int) then (if ((rd_T26 t323 t350).f2) = a1 then ((order_Find.f k l0 a1).bind fun t352 => (if ((decide (t350 < 0)) == (decide (t352 < 0))) = true then (if (l0.length : Int) > 0 then ((annuitylaw23_wakes.f k).bind fun t353 => (some t353)) else ((order_Last.f k l0).bind fun t354 => (if t354 = (-1) then ((annuitylaw23_wakes.f k).bind fun t355 => (some t355)) else (none)))) else (none))) else (none)) else (none)) else (none)) else ((order_Find.f k l0 a1).bind fun t356 => (if ((decide (t350 < 0)) == (decide (t356 < 0))) = true then (if (l0.length : Int) > 0 then ((annuitylaw23_wakes.f k).bind fun t357 => (some t357)) else ((order_Last.f k l0).bind fun t358 => (if t358 = (-1) then ((annuitylaw23_wakes.f k).bind fun t359 => (some t359)) else (none)))) else (none))))))) else (none)))) else (none))) else (none))) = some r := by first | (rw [hy320]; with_reducible exact H) | (have H2_ := (Option.bind_some _ _).symm.trans H; rw [hy320]; with_reducible exact H2_) | (have H2_ := (Option.bind_some _ _).symm.trans H; with_reducible exact H2_) | with_reducible exact H | (rw [hy320]; exact H) | exact H
   have Ny320 := Aside0.mk hy320
   clear hy320
   replace H := Option.bind_eq_some_iff.mp H
   obtain ⟨t323, A70, H⟩ := H
   replace H : (if (t323.length : Int) = (l0.length : Int) then ((some (([] : List (S26)) : List (S26))).bind fun y326 => (if y326.length + t323.length < 1599289640401 then ((order_Sort.f k (y326 ++ t323)).bind fun t332 => ((annuitykeep_Events.f k t332 t323).bind fun t335 => (if t335 = true then (if (t323.length : Int) > 0 then ((order_Last.f k t323).bind fun t336 => (if 0 ≤ (wrap64 ((t323.length : Int) - 1)) then (if (wrap64 ((t323.length : Int) - 1)) < (t323.length : Int) then (if t336 = ((rd_T26 t323 (wrap64 ((t323.length : Int) - 1))).f1) then ((order_Last.f k l0).bind fun t338 => ((order_Last.f k t323).bind fun t339 => (if t338 = t339 then ((order_Find.f k t323 a1).bind fun t340 => (if t340 ≥ (t323.length : Int) then (none) else (if t340 ≥ 0 then (if 0 ≤ t340 then (if t340 < (t323.length : Int) then (if ((rd_T26 t323 t340).f2) = a1 then ((order_Find.f k l0 a1).bind fun t342 => (if ((decide (t340 < 0)) == (decide (t342 < 0))) = true then (if (l0.length : Int) > 0 then ((annuitylaw23_wakes.f k).bind fun t343 => (some t343)) else ((order_Last.f k l0).bind fun t344 => (if t344 = (-1) then ((annuitylaw23_wakes.f k).bind fun t345 => (some t345)) else (none)))) else (none))) else (none)) else (none)) else (none)) else ((order_Find.f k l0 a1).bind fun t346 => (if ((decide (t340 < 0)) == (decide (t346 < 0))) = true then (if (l0.length : Int) > 0 then ((annuitylaw23_wakes.f k).bind fun t347 => (some t347)) else ((order_Last.f k l0).bind fun t348 => (if t348 = (-1) then ((annuitylaw23_wakes.f k).bind fun t349 => (some t349)) else (none)))) else (none)))))) else (none)))) else (none)) else (none)) else (none))) else ((order_Find.f k t323 a1).bind fun t350 => (if t350 ≥ (t323.length : Int) then (none) else (if t350 ≥ 0 then (if 0 ≤ t350 then (if t350 < (t323.length : Int) then (if ((rd_T26 t323 t350).f2) = a1 then ((order_Find.f k l0 a1).bind fun t352 => (if ((decide (t350 < 0)) == (decide (t352 < 0))) = true then (if (l0.length : Int) > 0 then ((annuitylaw23_wakes.f k).bind fun t353 => (some t353)) else ((order_Last.f k l0).bind fun t354 => (if t354 = (-1) then ((annuitylaw23_wakes.f k).bind fun t355 => (some t355)) else (none)))) else (none))) else (none)) else (none)) else (none)) else ((order_Find.f k l0 a1).bind fun t356 => (if ((decide (t350 < 0)) == (decide (t356 < 0))) = true then (if (l0.length : Int) > 0 then ((annuitylaw23_wakes.f k).bind fun t357 => (some t357)) else ((order_Last.f k l0).bind fun t358 => (if t358 = (-1) then ((annuitylaw23_wakes.f k).bind fun t359 => (some t359)) else (none)))) else (none))))))) else (none)))) else (none))) else (none)) = some r := H
   have A7 := Aside0.mk A70
   clear A70
   by_cases c8 : (t323.length : Int) = (l0.length : Int)
   ·rw [if_pos c8] at H
    have c8b0 : ((t323.length : Int) == (l0.length : Int)) = true := beq_iff_eq.mpr c8
    have c8b1 : ((t323.length : Int) != (l0.length : Int)) = false := bne_eq_false_iff_eq.mpr c8
    have c8b2 : (t323.length == l0.length) = true := by first | simpa using c8 | (simp at c8 ⊢; omega)
    clear c8
    obtain ⟨y326, hy326⟩ : ∃ y_ : List (S26), y_ = (([] : List (S26))) := ⟨_, rfl⟩
    replace H : (if y326.length + t323.length < 1599289640401 then ((order_Sort.f k (y326 ++ t323)).bind fun t332 => ((annuitykeep_Events.f k t332 t323).bind fun t335 => (if t335 = true then (if (t323.length : Int) > 0 then ((order_Last.f k t323).bind fun t336 => (if 0 ≤ (wrap64 ((t323.length : Int) - 1)) then (if (wrap64 ((t323.length : Int) - 1)) < (t323.length : Int) then (if t336 = ((rd_T26 t323 (wrap64 ((t323.length : Int) - 1))).f1) then ((order_Last.f k l0).bind fun t338 => ((order_Last.f k t323).bind fun t339 => (if t338 = t339 then ((order_Find.f k t323 a1).bind fun t340 => (if t340 ≥ (t323.length : Int) then (none) else (if t340 ≥ 0 then (if 0 ≤ t340 then (if t340 < (t323.length : Int) then (if ((rd_T26 t323 t340).f2) = a1 then ((order_Find.f k l0 a1).bind fun t342 => (if ((decide (t340 < 0)) == (decide (t342 < 0))) = true then (if (l0.length : Int) > 0 then ((annuitylaw23_wakes.f k).bind fun t343 => (some t343)) else ((order_Last.f k l0).bind fun t344 => (if t344 = (-1) then ((annuitylaw23_wakes.f k).bind fun t345 => (some t345)) else (none)))) else (none))) else (none)) else (none)) else (none)) else ((order_Find.f k l0 a1).bind fun t346 => (if ((decide (t340 < 0)) == (decide (t346 < 0))) = true then (if (l0.length : Int) > 0 then ((annuitylaw23_wakes.f k).bind fun t347 => (some t347)) else ((order_Last.f k l0).bind fun t348 => (if t348 = (-1) then ((annuitylaw23_wakes.f k).bind fun t349 => (some t349)) else (none)))) else (none)))))) else (none)))) else (none)) else (none)) else (none))) else ((order_Find.f k t323 a1).bind fun t350 => (if t350 ≥ (t323.length : Int) then (none) else (if t350 ≥ 0 then (if 0 ≤ t350 then (if t350 < (t323.length : Int) then (if ((rd_T26 t323 t350).f2) = a1 then ((order_Find.f k l0 a1).bind fun t352 => (if ((decide (t350 < 0)) == (decide (t352 < 0))) = true then (if (l0.length : Int) > 0 then ((annuitylaw23_wakes.f k).bind fun t353 => (some t353)) else ((order_Last.f k l0).bind fun t354 => (if t354 = (-1) then ((annuitylaw23_wakes.f k).bind fun t355 => (some t355)) else (none)))) else (none))) else (none)) else (none)) else (none)) else ((order_Find.f k l0 a1).bind fun t356 => (if ((decide (t350 < 0)) == (decide (t356 < 0))) = true then (if (l0.length : Int) > 0 then ((annuitylaw23_wakes.f k).bind fun t357 => (some t357)) else ((order_Last.f k l0).bind fun t358 => (if t358 = (-1) then ((annuitylaw23_wakes.f k).bind fun t359 => (some t359)) else (none)))) else (none))))))) else (none)))) else (none)) = some r := by first | (rw [hy326]; with_reducible exact H) | (have H2_ := (Option.bind_some _ _).symm.trans H; rw [hy326]; with_reducible exact H2_) | (have H2_ := (Option.bind_some _ _).symm.trans H; with_reducible exact H2_) | with_reducible exact H | (rw [hy326]; exact H) | exact H
    have Ny326 := Aside0.mk hy326
    clear hy326
    by_cases c9 : y326.length + t323.length < 1599289640401
    ·rw [if_pos c9] at H
     have LMc9 := Aside0.mk c9
     clear c9
     obtain ⟨y329, hy329⟩ : ∃ y_ : List (S26), y_ = (y326 ++ t323) := ⟨_, rfl⟩
     replace H : ((order_Sort.f k y329).bind fun t332 => ((annuitykeep_Events.f k t332 t323).bind fun t335 => (if t335 = true then (if (t323.length : Int) > 0 then ((order_Last.f k t323).bind fun t336 => (if 0 ≤ (wrap64 ((t323.length : Int) - 1)) then (if (wrap64 ((t323.length : Int) - 1)) < (t323.length : Int) then (if t336 = ((rd_T26 t323 (wrap64 ((t323.length : Int) - 1))).f1) then ((order_Last.f k l0).bind fun t338 => ((order_Last.f k t323).bind fun t339 => (if t338 = t339 then ((order_Find.f k t323 a1).bind fun t340 => (if t340 ≥ (t323.length : Int) then (none) else (if t340 ≥ 0 then (if 0 ≤ t340 then (if t340 < (t323.length : Int) then (if ((rd_T26 t323 t340).f2) = a1 then ((order_Find.f k l0 a1).bind fun t342 => (if ((decide (t340 < 0)) == (decide (t342 < 0))) = true then (if (l0.length : Int) > 0 then ((annuitylaw23_wakes.f k).bind fun t343 => (some t343)) else ((order_Last.f k l0).bind fun t344 => (if t344 = (-1) then ((annuitylaw23_wakes.f k).bind fun t345 => (some t345)) else (none)))) else (none))) else (none)) else (none)) else (none)) else ((order_Find.f k l0 a1).bind fun t346 => (if ((decide (t340 < 0)) == (decide (t346 < 0))) = true then (if (l0.length : Int) > 0 then ((annuitylaw23_wakes.f k).bind fun t347 => (some t347)) else ((order_Last.f k l0).bind fun t348 => (if t348 = (-1) then ((annuitylaw23_wakes.f k).bind fun t349 => (some t349)) else (none)))) else (none)))))) else (none)))) else (none)) else (none)) else (none))) else ((order_Find.f k t323 a1).bind fun t350 => (if t350 ≥ (t323.length : Int) then (none) else (if t350 ≥ 0 then (if 0 ≤ t350 then (if t350 < (t323.length : Int) then (if ((rd_T26 t323 t350).f2) = a1 then ((order_Find.f k l0 a1).bind fun t352 => (if ((decide (t350 < 0)) == (decide (t352 < 0))) = true then (if (l0.length : Int) > 0 then ((annuitylaw23_wakes.f k).bind fun t353 => (some t353)) else ((order_Last.f k l0).bind fun t354 => (if t354 = (-1) then ((annuitylaw23_wakes.f k).bind fun t355 => (some t355)) else (none)))) else (none))) else (none)) else (none)) else (none)) else ((order_Find.f k l0 a1).bind fun t356 => (if ((decide (t350 < 0)) == (decide (t356 < 0))) = true then (if (l0.length : Int) > 0 then ((annuitylaw23_wakes.f k).bind fun t357 => (some t357)) else ((order_Last.f k l0).bind fun t358 => (if t358 = (-1) then ((annuitylaw23_wakes.f k).bind fun t359 => (some t359)) else (none)))) else (none))))))) else (none)))) = some r := by first | (rw [hy329]; with_reducible exact H) | (have H2_ := (Option.bind_some _ _).symm.trans H; rw [hy329]; with_reducible exact H2_) | (have H2_ := (Option.bind_some _ _).symm.trans H; with_reducible exact H2_) | with_reducible exact H | (rw [hy329]; exact H) | exact H
     have Ny329 := Aside0.mk hy329
     clear hy329
     replace H := Option.bind_eq_some_iff.mp H
     obtain ⟨t332, A100, H⟩ := H
     replace H : ((annuitykeep_Events.f k t332 t323).bind fun t335 => (if t335 = true then (if (t323.length : Int) > 0 then ((order_Last.f k t323).bind fun t336 => (if 0 ≤ (wrap64 ((t323.length : Int) - 1)) then (if (wrap64 ((t323.length : Int) - 1)) < (t323.length : Int) then (if t336 = ((rd_T26 t323 (wrap64 ((t323.length : Int) - 1))).f1) then ((order_Last.f k l0).bind fun t338 => ((order_Last.f k t323).bind fun t339 => (if t338 = t339 then ((order_Find.f k t323 a1).bind fun t340 => (if t340 ≥ (t323.length : Int) then (none) else (if t340 ≥ 0 then (if 0 ≤ t340 then (if t340 < (t323.length : Int) then (if ((rd_T26 t323 t340).f2) = a1 then ((order_Find.f k l0 a1).bind fun t342 => (if ((decide (t340 < 0)) == (decide (t342 < 0))) = true then (if (l0.length : Int) > 0 then ((annuitylaw23_wakes.f k).bind fun t343 => (some t343)) else ((order_Last.f k l0).bind fun t344 => (if t344 = (-1) then ((annuitylaw23_wakes.f k).bind fun t345 => (some t345)) else (none)))) else (none))) else (none)) else (none)) else (none)) else ((order_Find.f k l0 a1).bind fun t346 => (if ((decide (t340 < 0)) == (decide (t346 < 0))) = true then (if (l0.length : Int) > 0 then ((annuitylaw23_wakes.f k).bind fun t347 => (some t347)) else ((order_Last.f k l0).bind fun t348 => (if t348 = (-1) then ((annuitylaw23_wakes.f k).bind fun t349 => (some t349)) else (none)))) else (none)))))) else (none)))) else (none)) else (none)) else (none))) else ((order_Find.f k t323 a1).bind fun t350 => (if t350 ≥ (t323.length : Int) then (none) else (if t350 ≥ 0 then (if 0 ≤ t350 then (if t350 < (t323.length : Int) then (if ((rd_T26 t323 t350).f2) = a1 then ((order_Find.f k l0 a1).bind fun t352 => (if ((decide (t350 < 0)) == (decide (t352 < 0))) = true then (if (l0.length : Int) > 0 then ((annuitylaw23_wakes.f k).bind fun t353 => (some t353)) else ((order_Last.f k l0).bind fun t354 => (if t354 = (-1) then ((annuitylaw23_wakes.f k).bind fun t355 => (some t355)) else (none)))) else (none))) else (none)) else (none)) else (none)) else ((order_Find.f k l0 a1).bind fun t356 => (if ((decide (t350 < 0)) == (decide (t356 < 0))) = true then (if (l0.length : Int) > 0 then ((annuitylaw23_wakes.f k).bind fun t357 => (some t357)) else ((order_Last.f k l0).bind fun t358 => (if t358 = (-1) then ((annuitylaw23_wakes.f k).bind fun t359 => (some t359)) else (none)))) else (none))))))) else (none))) = some r := H
     have A10 := Aside0.mk A100
     clear A100
     replace H := Option.bind_eq_some_iff.mp H
     obtain ⟨t335, A110, H⟩ := H
     replace H : (if t335 = true then (if (t323.length : Int) > 0 then ((order_Last.f k t323).bind fun t336 => (if 0 ≤ (wrap64 ((t323.length : Int) - 1)) then (if (wrap64 ((t323.length : Int) - 1)) < (t323.length : Int) then (if t336 = ((rd_T26 t323 (wrap64 ((t323.length : Int) - 1))).f1) then ((order_Last.f k l0).bind fun t338 => ((order_Last.f k t323).bind fun t339 => (if t338 = t339 then ((order_Find.f k t323 a1).bind fun t340 => (if t340 ≥ (t323.length : Int) then (none) else (if t340 ≥ 0 then (if 0 ≤ t340 then (if t340 < (t323.length : Int) then (if ((rd_T26 t323 t340).f2) = a1 then ((order_Find.f k l0 a1).bind fun t342 => (if ((decide (t340 < 0)) == (decide (t342 < 0))) = true then (if (l0.length : Int) > 0 then ((annuitylaw23_wakes.f k).bind fun t343 => (some t343)) else ((order_Last.f k l0).bind fun t344 => (if t344 = (-1) then ((annuitylaw23_wakes.f k).bind fun t345 => (some t345)) else (none)))) else (none))) else (none)) else (none)) else (none)) else ((order_Find.f k l0 a1).bind fun t346 => (if ((decide (t340 < 0)) == (decide (t346 < 0))) = true then (if (l0.length : Int) > 0 then ((annuitylaw23_wakes.f k).bind fun t347 => (some t347)) else ((order_Last.f k l0).bind fun t348 => (if t348 = (-1) then ((annuitylaw23_wakes.f k).bind fun t349 => (some t349)) else (none)))) else (none)))))) else (none)))) else (none)) else (none)) else (none))) else ((order_Find.f k t323 a1).bind fun t350 => (if t350 ≥ (t323.length : Int) then (none) else (if t350 ≥ 0 then (if 0 ≤ t350 then (if t350 < (t323.length : Int) then (if ((rd_T26 t323 t350).f2) = a1 then ((order_Find.f k l0 a1).bind fun t352 => (if ((decide (t350 < 0)) == (decide (t352 < 0))) = true then (if (l0.length : Int) > 0 then ((annuitylaw23_wakes.f k).bind fun t353 => (some t353)) else ((order_Last.f k l0).bind fun t354 => (if t354 = (-1) then ((annuitylaw23_wakes.f k).bind fun t355 => (some t355)) else (none)))) else (none))) else (none)) else (none)) else (none)) else ((order_Find.f k l0 a1).bind fun t356 => (if ((decide (t350 < 0)) == (decide (t356 < 0))) = true then (if (l0.length : Int) > 0 then ((annuitylaw23_wakes.f k).bind fun t357 => (some t357)) else ((order_Last.f k l0).bind fun t358 => (if t358 = (-1) then ((annuitylaw23_wakes.f k).bind fun t359 => (some t359)) else (none)))) else (none))))))) else (none)) = some r := H
     have A11 := Aside0.mk A110
     clear A110
     by_cases c12 : t335 = true
     ·subst c12
      have H1 : (if (t323.length : Int) > 0 then ((order_Last.f k t323).bind fun t336 => (if 0 ≤ (wrap64 ((t323.length : Int) - 1)) then (if (wrap64 ((t323.length : Int) - 1)) < (t323.length : Int) then (if t336 = ((rd_T26 t323 (wrap64 ((t323.length : Int) - 1))).f1) then ((order_Last.f k l0).bind fun t338 => ((order_Last.f k t323).bind fun t339 => (if t338 = t339 then ((order_Find.f k t323 a1).bind fun t340 => (if t340 ≥ (t323.length : Int) then (none) else (if t340 ≥ 0 then (if 0 ≤ t340 then (if t340 < (t323.length : Int) then (if ((rd_T26 t323 t340).f2) = a1 then ((order_Find.f k l0 a1).bind fun t342 => (if ((decide (t340 < 0)) == (decide (t342 < 0))) = true then (if (l0.length : Int) > 0 then ((annuitylaw23_wakes.f k).bind fun t343 => (some t343)) else ((order_Last.f k l0).bind fun t344 => (if t344 = (-1) then ((annuitylaw23_wakes.f k).bind fun t345 => (some t345)) else (none)))) else (none))) else (none)) else (none)) else (none)) else ((order_Find.f k l0 a1).bind fun t346 => (if ((decide (t340 < 0)) == (decide (t346 < 0))) = true then (if (l0.length : Int) > 0 then ((annuitylaw23_wakes.f k).bind fun t347 => (some t347)) else ((order_Last.f k l0).bind fun t348 => (if t348 = (-1) then ((annuitylaw23_wakes.f k).bind fun t349 => (some t349)) else (none)))) else (none)))))) else (none)))) else (none)) else (none)) else (none))) else ((order_Find.f k t323 a1).bind fun t350 => (if t350 ≥ (t323.length : Int) then (none) else (if t350 ≥ 0 then (if 0 ≤ t350 then (if t350 < (t323.length : Int) then (if ((rd_T26 t323 t350).f2) = a1 then ((order_Find.f k l0 a1).bind fun t352 => (if ((decide (t350 < 0)) == (decide (t352 < 0))) = true then (if (l0.length : Int) > 0 then ((annuitylaw23_wakes.f k).bind fun t353 => (some t353)) else ((order_Last.f k l0).bind fun t354 => (if t354 = (-1) then ((annuitylaw23_wakes.f k).bind fun t355 => (some t355)) else (none)))) else (none))) else (none)) else (none)) else (none)) else ((order_Find.f k l0 a1).bind fun t356 => (if ((decide (t350 < 0)) == (decide (t356 < 0))) = true then (if (l0.length : Int) > 0 then ((annuitylaw23_wakes.f k).bind fun t357 => (some t357)) else ((order_Last.f k l0).bind fun t358 => (if t358 = (-1) then ((annuitylaw23_wakes.f k).bind fun t359 => (some t359)) else (none)))) else (none))))))) = some r := by rw [if_pos rfl] at H; exact H
      clear H
      have H := H1
      clear H1
      by_cases c13 : (t323.length : Int) > 0
      ·rw [if_pos c13] at H
       have c13b0 : decide (0 < (t323.length : Int)) = true := decide_eq_true c13
       have c13b1 : decide (0 < t323.length) = true := decide_eq_true (by omega)
       clear c13
       replace H := Option.bind_eq_some_iff.mp H
       obtain ⟨t336, A140, H⟩ := H
       replace H : (if 0 ≤ (wrap64 ((t323.length : Int) - 1)) then (if (wrap64 ((t323.length : Int) - 1)) < (t323.length : Int) then (if t336 = ((rd_T26 t323 (wrap64 ((t323.length : Int) - 1))).f1) then ((order_Last.f k l0).bind fun t338 => ((order_Last.f k t323).bind fun t339 => (if t338 = t339 then ((order_Find.f k t323 a1).bind fun t340 => (if t340 ≥ (t323.length : Int) then (none) else (if t340 ≥ 0 then (if 0 ≤ t340 then (if t340 < (t323.length : Int) then (if ((rd_T26 t323 t340).f2) = a1 then ((order_Find.f k l0 a1).bind fun t342 => (if ((decide (t340 < 0)) == (decide (t342 < 0))) = true then (if (l0.length : Int) > 0 then ((annuitylaw23_wakes.f k).bind fun t343 => (some t343)) else ((order_Last.f k l0).bind fun t344 => (if t344 = (-1) then ((annuitylaw23_wakes.f k).bind fun t345 => (some t345)) else (none)))) else (none))) else (none)) else (none)) else (none)) else ((order_Find.f k l0 a1).bind fun t346 => (if ((decide (t340 < 0)) == (decide (t346 < 0))) = true then (if (l0.length : Int) > 0 then ((annuitylaw23_wakes.f k).bind fun t347 => (some t347)) else ((order_Last.f k l0).bind fun t348 => (if t348 = (-1) then ((annuitylaw23_wakes.f k).bind fun t349 => (some t349)) else (none)))) else (none)))))) else (none)))) else (none)) else (none)) else (none)) = some r := H
       have A14 := Aside0.mk A140
       clear A140
       obtain ⟨ji15, hji15⟩ : ∃ j_ : Int, (wrap64 ((t323.length : Int) - 1)) = j_ := ⟨_, rfl⟩
       replace H : (if 0 ≤ (ji15) then (if (ji15) < (t323.length : Int) then (if t336 = ((rd_T26 t323 (ji15)).f1) then ((order_Last.f k l0).bind fun t338 => ((order_Last.f k t323).bind fun t339 => (if t338 = t339 then ((order_Find.f k t323 a1).bind fun t340 => (if t340 ≥ (t323.length : Int) then (none) else (if t340 ≥ 0 then (if 0 ≤ t340 then (if t340 < (t323.length : Int) then (if ((rd_T26 t323 t340).f2) = a1 then ((order_Find.f k l0 a1).bind fun t342 => (if ((decide (t340 < 0)) == (decide (t342 < 0))) = true then (if (l0.length : Int) > 0 then ((annuitylaw23_wakes.f k).bind fun t343 => (some t343)) else ((order_Last.f k l0).bind fun t344 => (if t344 = (-1) then ((annuitylaw23_wakes.f k).bind fun t345 => (some t345)) else (none)))) else (none))) else (none)) else (none)) else (none)) else ((order_Find.f k l0 a1).bind fun t346 => (if ((decide (t340 < 0)) == (decide (t346 < 0))) = true then (if (l0.length : Int) > 0 then ((annuitylaw23_wakes.f k).bind fun t347 => (some t347)) else ((order_Last.f k l0).bind fun t348 => (if t348 = (-1) then ((annuitylaw23_wakes.f k).bind fun t349 => (some t349)) else (none)))) else (none)))))) else (none)))) else (none)) else (none)) else (none)) = some r := by first | (rw [hji15] at H; exact H) | (simp only [hji15] at H ⊢; exact H)
       (try rw [hji15] at A7)
       (try rw [hji15] at A10)
       (try rw [hji15] at A11)
       (try rw [hji15] at A14)
       have hji15w : (IntKind.i64.wrap ((t323.length : Int) - 1)) = ji15 := (i64_w _).trans hji15
       by_cases c16 : 0 ≤ (ji15)
       ·rw [if_pos c16] at H
        have c16b0 : decide (0 ≤ (ji15)) = true := decide_eq_true c16
        clear c16
        by_cases c17 : (ji15) < (t323.length : Int)
        ·rw [if_pos c17] at H
         have c17b0 : decide ((ji15) < (t323.length : Int)) = true := decide_eq_true c17
         clear c17
         by_cases c18 : t336 = ((rd_T26 t323 (ji15)).f1)
         ·rw [if_pos c18] at H
          have c18b0 : (t336 == ((rd_T26 t323 (ji15)).f1)) = true := beq_iff_eq.mpr c18
          have c18b1 : (t336 != ((rd_T26 t323 (ji15)).f1)) = false := bne_eq_false_iff_eq.mpr c18
          clear c18
          replace H := Option.bind_eq_some_iff.mp H
          obtain ⟨t338, A190, H⟩ := H
          replace H : ((order_Last.f k t323).bind fun t339 => (if t338 = t339 then ((order_Find.f k t323 a1).bind fun t340 => (if t340 ≥ (t323.length : Int) then (none) else (if t340 ≥ 0 then (if 0 ≤ t340 then (if t340 < (t323.length : Int) then (if ((rd_T26 t323 t340).f2) = a1 then ((order_Find.f k l0 a1).bind fun t342 => (if ((decide (t340 < 0)) == (decide (t342 < 0))) = true then (if (l0.length : Int) > 0 then ((annuitylaw23_wakes.f k).bind fun t343 => (some t343)) else ((order_Last.f k l0).bind fun t344 => (if t344 = (-1) then ((annuitylaw23_wakes.f k).bind fun t345 => (some t345)) else (none)))) else (none))) else (none)) else (none)) else (none)) else ((order_Find.f k l0 a1).bind fun t346 => (if ((decide (t340 < 0)) == (decide (t346 < 0))) = true then (if (l0.length : Int) > 0 then ((annuitylaw23_wakes.f k).bind fun t347 => (some t347)) else ((order_Last.f k l0).bind fun t348 => (if t348 = (-1) then ((annuitylaw23_wakes.f k).bind fun t349 => (some t349)) else (none)))) else (none)))))) else (none))) = some r := H
          have A19 := Aside0.mk A190
          clear A190
          replace H := Option.bind_eq_some_iff.mp H
          obtain ⟨t339, A200, H⟩ := H
          replace H : (if t338 = t339 then ((order_Find.f k t323 a1).bind fun t340 => (if t340 ≥ (t323.length : Int) then (none) else (if t340 ≥ 0 then (if 0 ≤ t340 then (if t340 < (t323.length : Int) then (if ((rd_T26 t323 t340).f2) = a1 then ((order_Find.f k l0 a1).bind fun t342 => (if ((decide (t340 < 0)) == (decide (t342 < 0))) = true then (if (l0.length : Int) > 0 then ((annuitylaw23_wakes.f k).bind fun t343 => (some t343)) else ((order_Last.f k l0).bind fun t344 => (if t344 = (-1) then ((annuitylaw23_wakes.f k).bind fun t345 => (some t345)) else (none)))) else (none))) else (none)) else (none)) else (none)) else ((order_Find.f k l0 a1).bind fun t346 => (if ((decide (t340 < 0)) == (decide (t346 < 0))) = true then (if (l0.length : Int) > 0 then ((annuitylaw23_wakes.f k).bind fun t347 => (some t347)) else ((order_Last.f k l0).bind fun t348 => (if t348 = (-1) then ((annuitylaw23_wakes.f k).bind fun t349 => (some t349)) else (none)))) else (none)))))) else (none)) = some r := H
          have A20 := Aside0.mk A200
          clear A200
          by_cases c21 : t338 = t339
          ·rw [if_pos c21] at H
           have c21b0 : (t338 == t339) = true := beq_iff_eq.mpr c21
           have c21b1 : (t338 != t339) = false := bne_eq_false_iff_eq.mpr c21
           clear c21
           replace H := Option.bind_eq_some_iff.mp H
           obtain ⟨t340, A220, H⟩ := H
           replace H : (if t340 ≥ (t323.length : Int) then (none) else (if t340 ≥ 0 then (if 0 ≤ t340 then (if t340 < (t323.length : Int) then (if ((rd_T26 t323 t340).f2) = a1 then ((order_Find.f k l0 a1).bind fun t342 => (if ((decide (t340 < 0)) == (decide (t342 < 0))) = true then (if (l0.length : Int) > 0 then ((annuitylaw23_wakes.f k).bind fun t343 => (some t343)) else ((order_Last.f k l0).bind fun t344 => (if t344 = (-1) then ((annuitylaw23_wakes.f k).bind fun t345 => (some t345)) else (none)))) else (none))) else (none)) else (none)) else (none)) else ((order_Find.f k l0 a1).bind fun t346 => (if ((decide (t340 < 0)) == (decide (t346 < 0))) = true then (if (l0.length : Int) > 0 then ((annuitylaw23_wakes.f k).bind fun t347 => (some t347)) else ((order_Last.f k l0).bind fun t348 => (if t348 = (-1) then ((annuitylaw23_wakes.f k).bind fun t349 => (some t349)) else (none)))) else (none))))) = some r := H
           have A22 := Aside0.mk A220
           clear A220
           by_cases c23 : t340 ≥ (t323.length : Int)
           ·rw [if_pos c23] at H
            exact absurd H (by simp)
           ·rw [if_neg c23] at H
            have c23b0 : decide ((t323.length : Int) ≤ t340) = false := decide_eq_false c23
            clear c23
            by_cases c24 : t340 ≥ 0
            ·rw [if_pos c24] at H
             have c24b0 : decide (0 ≤ t340) = true := decide_eq_true c24
             clear c24
             by_cases c25 : 0 ≤ t340
             ·rw [if_pos c25] at H
              have c25b0 : decide (0 ≤ t340) = true := decide_eq_true c25
              clear c25
              by_cases c26 : t340 < (t323.length : Int)
              ·rw [if_pos c26] at H
               have c26b0 : decide (t340 < (t323.length : Int)) = true := decide_eq_true c26
               clear c26
               by_cases c27 : ((rd_T26 t323 t340).f2) = a1
               ·rw [if_pos c27] at H
                have c27b0 : (((rd_T26 t323 t340).f2) == a1) = true := beq_iff_eq.mpr c27
                have c27b1 : (((rd_T26 t323 t340).f2) != a1) = false := bne_eq_false_iff_eq.mpr c27
                clear c27
                replace H := Option.bind_eq_some_iff.mp H
                obtain ⟨t342, A280, H⟩ := H
                replace H : (if ((decide (t340 < 0)) == (decide (t342 < 0))) = true then (if (l0.length : Int) > 0 then ((annuitylaw23_wakes.f k).bind fun t343 => (some t343)) else ((order_Last.f k l0).bind fun t344 => (if t344 = (-1) then ((annuitylaw23_wakes.f k).bind fun t345 => (some t345)) else (none)))) else (none)) = some r := H
                have A28 := Aside0.mk A280
                clear A280
                by_cases c29 : ((decide (t340 < 0)) == (decide (t342 < 0))) = true
                ·rw [if_pos c29] at H
                 have c29b0 : ((decide (t340 < 0)) == (decide (t342 < 0))) = true := c29
                 (try (have c29b1 : decide ((decide (t340 < 0)) = (decide (t342 < 0))) = true := by simpa using c29))
                 (try (have c29b2 : ((decide (t340 < 0)) == (decide (t342 < 0))) = true := by simpa using c29))
                 clear c29
                 by_cases c30 : (l0.length : Int) > 0
                 ·rw [if_pos c30] at H
                  have c30b0 : decide (0 < (l0.length : Int)) = true := decide_eq_true c30
                  have c30b1 : decide (0 < l0.length) = true := decide_eq_true (by omega)
                  clear c30
                  replace H := Option.bind_eq_some_iff.mp H
                  obtain ⟨t343, A310, H⟩ := H
                  replace H : (some t343) = some r := H
                  have A31 := Aside0.mk A310
                  clear A310
                  obtain rfl := Option.some.inj H
                  go_enter Try.func5, Try.ntmps5
                  try go_wp2_with (first | ((with_reducible refine gate_dst (N := 11) rfl ?_); (try (refine gate_guard (by rfl) ?_; dsimp only)); refine Kd.R_lit k26 _ 26 ?hg (N := 11) ?hd (xs := ([] : List (S26))) (inner := []) (ok := fun _ => True) (okp := fun _ => True) ?hr ?hp (fun _ hk => hk) trivial (Below.refl _ _) (Nat.le_refl _) (by simp) ?_; (case hd => rfl); (case hg => rfl); (case hr => first | (go_simp; done) | (go_simp; rfl)); (case hp => exact (Reps.none _ _)); intro v318 w32 ho33 hb hg_ hnew_; clear hg_ hnew_; (first | rw [← Ny317.out] at ho33 | (simp only [Int.reduceToNat] at ho33; rw [← Ny317.out] at ho33)); have n0_ := Aside0.mk (Kd.R_lower ho33 (below_size (by exact h0q HB.out))); have n1_ := Aside0.mk (below_step (by exact h0q HB.out) hb); clear HB; have HO319 := n0_; have HB := n1_; clear n0_ n1_; clear hb ho33) | ((with_reducible refine gate_builtin (b := .append) (xs := #[.tmp 11, .tmp 12]) rfl ?_); (try (refine gate_guard (by rfl) ?_; dsimp only)); at_builtin; refine Kd.R_append_rows k26 (w0 := w) w.heap.size rfl (.tmp 11) (.tmp 12) 22 26 (.agg #[(.int .i64 0), (.int .i64 0), (.int .u32 0), (.int .i64 0), (.int .i64 0), (.float .f64 0), (.float .f64 0), (.bool false), (.int .i64 0), (.int .i64 0), (.int .i64 0)]) 88 rfl Try.underlying22 info26 rfl (by decide) (by omega) v318 y317 l0 _ _ _ (fun _ => True) (fun _ => False) rfl rfl ?aO ?aR (fun _ _ h => h) (fun _ h => h.elim) ?aF ?aB ?aS ?aL ?_; (case aR => repeat (first | exact (Kd.C_below HR0.out HB.out) | (with_reducible refine Kd.C_alloc ?_ _) | (with_reducible refine Kd.C_drewN ?_ _) | (with_reducible refine Kd.C_drew ?_))); (case aB => exact (by exact h0q HB.out)); (case aF => exact (fun _ _ => trivial)); (case aO => exact (by exact rq HO319.out)); (case aS => exact (below_size (by exact h0q HB.out))); (case aL => have := LMc6.out; omega); intro v321 w34 ho hb hg hat; rw [← Ny320.out] at ho; have n0_ := Aside0.mk (hb); have n1_ := Aside0.mk (ho); clear HB; clear HO319; have HB := n0_; have HO322 := n1_; clear n0_ n1_; clear ho hb hg hat; obtain ⟨Ao35, co35, eo35⟩ := Kd.R_slice HO322.out; subst eo35) | ((with_reducible refine gate_callee (f := 7) rfl ?_); refine goesL_ (some 14) rfl rfl Try.func7 (by kernel_rfl) rfl #[.slice Ao35 y320.length co35] rfl (by (try simp only [List.map_toArray, List.map_cons, List.map_nil]); first | done | rfl | (simp only [List.length_drop, List.length_take]; rfl)) ?_; (with_reducible refine (order_Sort.calls k _ _ y320 t323 _ ?side1 ?side2 A7.out).mono ?_); (case side1 => repeat (first | exact (Kd.R_reads' HO322.out).2.2 | (with_reducible refine Kd.C_alloc ?_ _) | (with_reducible refine Kd.C_drewN ?_ _) | (with_reducible refine Kd.C_drew ?_))); (case side2 => exact (Kd.R_reads' HO322.out).2.1); rintro e w36 ⟨v324, rfl, ho0, hb⟩; refine ⟨_, rfl, ?_⟩; have n0_ := Aside0.mk (Kd.R_elder' (by exact rq HO322.out) (Kd.R_base ho0) hb); have n1_ := Aside0.mk (Kd.R_lower (Kd.R_new' ho0 (Kd.R_lt (by exact rq HO322.out))) (below_size (by exact h0q HB.out))); have n2_ := Aside0.mk (below_step (by exact h0q HB.out) hb); clear HO322; clear HB; have HO322 := n0_; have HO325 := n1_; have HB := n2_; clear n0_ n1_ n2_; (try clear hb); (try clear hb2); (try clear hk); (try clear hi); (try clear ho0); obtain ⟨Ao37, co37, eo37⟩ := Kd.R_slice HO325.out; subst eo37) | ((with_reducible refine gate_dst (N := 21) rfl ?_); (try (refine gate_guard (by rfl) ?_; dsimp only)); refine Kd.R_lit k26 _ 26 ?hg (N := 21) ?hd (xs := ([] : List (S26))) (inner := []) (ok := fun _ => True) (okp := fun _ => True) ?hr ?hp (fun _ hk => hk) trivial (Below.refl _ _) (Nat.le_refl _) (by simp) ?_; (case hd => rfl); (case hg => rfl); (case hr => first | (go_simp; done) | (go_simp; rfl)); (case hp => exact (Reps.none _ _)); intro v327 w38 ho39 hb hg_ hnew_; clear hg_ hnew_; (first | rw [← Ny326.out] at ho39 | (simp only [Int.reduceToNat] at ho39; rw [← Ny326.out] at ho39)); have n0_ := Aside0.mk (Kd.R_elder' (by exact rq HO322.out) (Kd.R_base ho39) hb); have n1_ := Aside0.mk (Kd.R_elder' (by exact rq HO325.out) (Kd.R_base ho39) hb); have n2_ := Aside0.mk (Kd.R_lower (Kd.R_new' (Kd.R_new' ho39 (Kd.R_lt (by exact rq HO322.out))) (Kd.R_lt (by exact rq HO325.out))) (below_size (by exact h0q HB.out))); have n3_ := Aside0.mk (below_step (by exact h0q HB.out) hb); clear HO322; clear HO325; clear HB; have HO322 := n0_; have HO325 := n1_; have HO328 := n2_; have HB := n3_; clear n0_ n1_ n2_ n3_; clear hb ho39) | ((with_reducible refine gate_builtin (b := .append) (xs := #[.tmp 21, .tmp 22]) rfl ?_); (try (refine gate_guard (by rfl) ?_; dsimp only)); at_builtin; refine Kd.R_append_rows k26 (w0 := w) w.heap.size rfl (.tmp 21) (.tmp 22) 22 26 (.agg #[(.int .i64 0), (.int .i64 0), (.int .u32 0), (.int .i64 0), (.int .i64 0), (.float .f64 0), (.float .f64 0), (.bool false), (.int .i64 0), (.int .i64 0), (.int .i64 0)]) 88 rfl Try.underlying22 info26 rfl (by decide) (by omega) v327 y326 t323 _ _ _ (fun k_ => some k_ ≠ (.slice Ao35 y320.length co35 : Value).ownBlock ∧ some k_ ≠ (.slice Ao37 t323.length co37 : Value).ownBlock) (fun _ => False) rfl rfl ?aO ?aR (fun _ _ h => h) (fun _ h => h.elim) ?aF ?aB ?aS ?aL ?_; (case aR => repeat (first | exact (Kd.R_reads' HO325.out).2.2 | (with_reducible refine Kd.C_alloc ?_ _) | (with_reducible refine Kd.C_drewN ?_ _) | (with_reducible refine Kd.C_drew ?_))); (case aB => exact (by exact h0q HB.out)); (case aF => exact (fun k_ hk => ⟨Kd.fresh' (Kd.R_lt (by exact rq HO322.out)) k_ hk, Kd.fresh' (Kd.R_lt (by exact rq HO325.out)) k_ hk⟩)); (case aO => exact (by (with_reducible repeat (first | apply Kd.R_alloc | apply Kd.R_drewN | apply Kd.R_drew)); exact Kd.R_mono HO328.out (fun _ hk => ⟨hk.1.2, hk.2⟩))); (case aS => exact (below_size (by exact h0q HB.out))); (case aL => have := LMc9.out; omega); intro v330 w40 ho hb hg hat; rw [← Ny329.out] at ho; have n0_ := Aside0.mk (Kd.R_after (ok := (fun k_ => some k_ ≠ (.slice Ao37 t323.length co37 : Value).ownBlock)) (by (with_reducible repeat (first | apply Kd.R_alloc | apply Kd.R_drewN | apply Kd.R_drew)); exact Kd.R_mono HO322.out (fun _ hk => ⟨hk.1.2, hk.2⟩)) hg hat); have n1_ := Aside0.mk (Kd.R_after (ok := (fun k_ => some k_ ≠ (.slice Ao35 y320.length co35 : Value).ownBlock)) (by (with_reducible repeat (first | apply Kd.R_alloc | apply Kd.R_drewN | apply Kd.R_drew)); exact Kd.R_mono HO325.out (fun _ hk => ⟨hk.1.2, hk.2⟩)) hg hat); have n2_ := Aside0.mk (hb); have n3_ := Aside0.mk (ho); clear HO322; clear HO325; clear HB; clear HO328; have HO322 := n0_; have HO325 := n1_; have HB := n2_; have HO331 := n3_; clear n0_ n1_ n2_ n3_; clear ho hb hg hat; obtain ⟨Ao41, co41, eo41⟩ := Kd.R_slice HO331.out; subst eo41) | (go_at_call 7; (with_reducible refine (order_Sort.calls k _ _ y329 t332 _ ?side1 ?side2 A10.out).mono ?_); (case side1 => repeat (first | exact (Kd.R_reads' HO331.out).2.2 | (with_reducible refine Kd.C_alloc ?_ _) | (with_reducible refine Kd.C_drewN ?_ _) | (with_reducible refine Kd.C_drew ?_))); (case side2 => exact (Kd.R_reads' HO331.out).2.1); rintro e w42 ⟨v333, rfl, ho0, hb⟩; have n0_ := Aside0.mk (Kd.R_elder' (by exact rq HO322.out) (Kd.R_base ho0) hb); have n1_ := Aside0.mk (Kd.R_elder' (by exact rq HO325.out) (Kd.R_base ho0) hb); have n2_ := Aside0.mk (Kd.R_elder' (by exact rq HO331.out) (Kd.R_base ho0) hb); have n3_ := Aside0.mk (Kd.R_lower (Kd.R_new' (Kd.R_new' (Kd.R_new' ho0 (Kd.R_lt (by exact rq HO322.out))) (Kd.R_lt (by exact rq HO325.out))) (Kd.R_lt (by exact rq HO331.out))) (below_size (by exact h0q HB.out))); have n4_ := Aside0.mk (below_step (by exact h0q HB.out) hb); clear HO322; clear HO325; clear HO331; clear HB; have HO322 := n0_; have HO325 := n1_; have HO331 := n2_; have HO334 := n3_; have HB := n4_; clear n0_ n1_ n2_ n3_ n4_; (try clear hb); (try clear hb2); (try clear hk); (try clear hi); (try clear ho0); obtain ⟨Ao43, co43, eo43⟩ := Kd.R_slice HO334.out; subst eo43) | (go_at_call 11; (with_reducible refine (annuitykeep_Events.calls k _ _ t332 _ _ t323 true _ ?side1 ?side2 ?side3 ?side4 A11.out).mono ?_); (case side1 => repeat (first | exact (Kd.R_reads' HO334.out).2.2 | (with_reducible refine Kd.C_alloc ?_ _) | (with_reducible refine Kd.C_drewN ?_ _) | (with_reducible refine Kd.C_drew ?_))); (case side2 => exact (Kd.R_reads' HO334.out).2.1); (case side3 => repeat (first | exact (Kd.R_reads' HO325.out).2.2 | (with_reducible refine Kd.C_alloc ?_ _) | (with_reducible refine Kd.C_drewN ?_ _) | (with_reducible refine Kd.C_drew ?_))); (case side4 => exact (Kd.R_reads' HO325.out).2.1); rintro e w44 ⟨rfl, hb⟩; have n0_ := Aside0.mk (Kd.R_below (by exact rq HO322.out) hb); have n1_ := Aside0.mk (Kd.R_below (by exact rq HO325.out) hb); have n2_ := Aside0.mk (Kd.R_below (by exact rq HO331.out) hb); have n3_ := Aside0.mk (Kd.R_below (by exact rq HO334.out) hb); have n4_ := Aside0.mk (below_step (by exact h0q HB.out) hb); clear HO322; clear HO325; clear HO331; clear HO334; clear HB; have HO322 := n0_; have HO325 := n1_; have HO331 := n2_; have HO334 := n3_; have HB := n4_; clear n0_ n1_ n2_ n3_ n4_; (try clear hb); (try clear hb2); (try clear hk); (try clear hi)))
                  have n0_ := Aside0.mk (Kd.R_drew HO322.out)
                  have n1_ := Aside0.mk (Kd.R_drew HO325.out)
                  have n2_ := Aside0.mk (Kd.R_drew HO331.out)
                  have n3_ := Aside0.mk (Kd.R_drew HO334.out)
                  have n4_ := Aside0.mk (below_drew1 HB.out)
                  clear HO322
                  clear HO325
                  clear HO331
                  clear HO334
                  clear HB
                  have HO322 := n0_
                  have HO325 := n1_
                  have HO331 := n2_
                  have HO334 := n3_
                  have HB := n4_
                  clear n0_ n1_ n2_ n3_ n4_
                  have p337 : 0 ≤ ((ji15) : Int) := yd
                  have q337 : (ji15) < (t323.length : Int) := yd
                  obtain ⟨ad337, e337, hx337_0, hx337_1, hx337_2, hx337_3, hx337_4, hx337_5, hx337_6, hx337_7, hx337_8, hx337_9, hx337_10⟩ := at_T26 (Kd.R_reads' HO325.out).2.2 (ji15) p337 q337
                  cases e337
                  replace p337 := eq_true p337
                  replace q337 := eq_true q337
                  refine start_ (n := 22) (S := fun w' => w'.cell? (ad337.add (((ji15)).toNat * 11)) = some (.int .i64 ((rd_T26 t323 (ji15)).f0)) ∧ w'.cell? ⟨(ad337.add (((ji15)).toNat * 11)).block, (ad337.add (((ji15)).toNat * 11)).off + 1, none⟩ = some (.int .i64 ((rd_T26 t323 (ji15)).f1)) ∧ w'.cell? ⟨(ad337.add (((ji15)).toNat * 11)).block, (ad337.add (((ji15)).toNat * 11)).off + 2, none⟩ = some (.int .u32 ((rd_T26 t323 (ji15)).f2)) ∧ w'.cell? ⟨(ad337.add (((ji15)).toNat * 11)).block, (ad337.add (((ji15)).toNat * 11)).off + 3, none⟩ = some (.int .i64 ((rd_T26 t323 (ji15)).f3)) ∧ w'.cell? ⟨(ad337.add (((ji15)).toNat * 11)).block, (ad337.add (((ji15)).toNat * 11)).off + 4, none⟩ = some (.int .i64 ((rd_T26 t323 (ji15)).f4)) ∧ w'.cell? ⟨(ad337.add (((ji15)).toNat * 11)).block, (ad337.add (((ji15)).toNat * 11)).off + 5, none⟩ = some (.float .f64 ((rd_T26 t323 (ji15)).f5)) ∧ w'.cell? ⟨(ad337.add (((ji15)).toNat * 11)).block, (ad337.add (((ji15)).toNat * 11)).off + 6, none⟩ = some (.float .f64 ((rd_T26 t323 (ji15)).f6)) ∧ w'.cell? ⟨(ad337.add (((ji15)).toNat * 11)).block, (ad337.add (((ji15)).toNat * 11)).off + 7, none⟩ = some (.bool ((rd_T26 t323 (ji15)).f7)) ∧ w'.cell? ⟨(ad337.add (((ji15)).toNat * 11)).block, (ad337.add (((ji15)).toNat * 11)).off + 8, none⟩ = some (.int .i64 ((rd_T26 t323 (ji15)).f8)) ∧ w'.cell? ⟨(ad337.add (((ji15)).toNat * 11)).block, (ad337.add (((ji15)).toNat * 11)).off + 9, none⟩ = some (.int .i64 ((rd_T26 t323 (ji15)).f9)) ∧ w'.cell? ⟨(ad337.add (((ji15)).toNat * 11)).block, (ad337.add (((ji15)).toNat * 11)).off + 10, none⟩ = some (.int .i64 ((rd_T26 t323 (ji15)).f10))) (ds := []) (annuitylaw23_OrderLast.fl 22 0) (by kernel_rfl) rfl rfl ⟨hx337_0, hx337_1, hx337_2, hx337_3, hx337_4, hx337_5, hx337_6, hx337_7, hx337_8, hx337_9, hx337_10⟩ (fun hHeld => ?_); refine with_tabW annuitylaw23_OrderLast.tab6 annuitylaw23_OrderLast.bits6 (fun HT_ HW_ => ?_)
                  generalize w44.drew = w45 at HO322 HO325 HO331 HO334 HB hx337_0 hx337_1 hx337_10 hx337_2 hx337_3 hx337_4 hx337_5 hx337_6 hx337_7 hx337_8 hx337_9 hHeld ⊢
                  refine annuitylaw23_OrderLast.y 0 29 22 1 HT_.out ?_
                  refine annuitylaw23_OrderLast.y 1 30 22 3 HT_.out ?_
                  refine annuitylaw23_OrderLast.y 2 31 22 7 HT_.out ?_
                  refine annuitylaw23_OrderLast.y 3 32 22 15 HT_.out ?_
                  refine annuitylaw23_OrderLast.y 4 33 22 31 HT_.out ?_
                  refine annuitylaw23_OrderLast.y 6 35 22 95 HT_.out ?_
                  refine annuitylaw23_OrderLast.y 7 36 22 223 HT_.out ?_
                  refine annuitylaw23_OrderLast.y 8 37 22 479 HT_.out ?_
                  refine annuitylaw23_OrderLast.y 9 38 22 991 HT_.out ?_
                  refine annuitylaw23_OrderLast.y 10 39 22 2015 HT_.out ?_
                  refine annuitylaw23_OrderLast.y 11 40 22 4063 HT_.out ?_
                  refine annuitylaw23_OrderLast.t 12 41 22 8159 HT_.out HW_.out hHeld ?_
                  refine one_ (i := 5) (N := some 34) (annuitylaw23_OrderLast.fl 22 8191) rfl rfl (one_of HT_.out (by kernel_rfl)) (by decide) (fun K hK => ?_)
                  refine goes_ Try.func16 (by kernel_rfl) rfl #[.slice (some ad337) t323.length co37] (by rfl) rfl rfl (by (try simp only [List.map_toArray, List.map_cons, List.map_nil]); first | done | rfl | (simp only [List.length_drop, List.length_take]; rfl)) ?_
                  with_reducible refine (order_Last.calls k _ _ t323 t336 _ ?side1 ?side2 A14.out).mono ?_
                  (case side1 => repeat (first | exact (Kd.R_reads' HO325.out).2.2 | (with_reducible refine Kd.C_alloc ?_ _) | (with_reducible refine Kd.C_drewN ?_ _) | (with_reducible refine Kd.C_drew ?_)))
                  (case side2 => exact (Kd.R_reads' HO325.out).2.1)
                  rintro e w46 ⟨rfl, hb⟩
                  have HS0_ := hxb hb (hHeld.1)
                  have HS1_ := hxb hb (hHeld.2.1)
                  have HS2_ := hxb hb (hHeld.2.2.1)
                  have HS3_ := hxb hb (hHeld.2.2.2.1)
                  have HS4_ := hxb hb (hHeld.2.2.2.2.1)
                  have HS5_ := hxb hb (hHeld.2.2.2.2.2.1)
                  have HS6_ := hxb hb (hHeld.2.2.2.2.2.2.1)
                  have HS7_ := hxb hb (hHeld.2.2.2.2.2.2.2.1)
                  have HS8_ := hxb hb (hHeld.2.2.2.2.2.2.2.2.1)
                  have HS9_ := hxb hb (hHeld.2.2.2.2.2.2.2.2.2.1)
                  have HS10_ := hxb hb (hHeld.2.2.2.2.2.2.2.2.2.2)
                  refine ⟨_, rfl, ?_⟩
                  have n0_ := Aside0.mk (Kd.R_below (by exact rq HO322.out) hb)
                  have n1_ := Aside0.mk (Kd.R_below (by exact rq HO325.out) hb)
                  have n2_ := Aside0.mk (Kd.R_below (by exact rq HO331.out) hb)
                  have n3_ := Aside0.mk (Kd.R_below (by exact rq HO334.out) hb)
                  have n4_ := Aside0.mk (below_step (by exact h0q HB.out) hb)
                  clear HO322
                  clear HO325
                  clear HO331
                  clear HO334
                  clear HB
                  have HO322 := n0_
                  have HO325 := n1_
                  have HO331 := n2_
                  have HO334 := n3_
                  have HB := n4_
                  clear n0_ n1_ n2_ n3_ n4_
                  (try clear hb)
                  (try clear hb2)
                  (try clear hk)
                  (try clear hi)
                  refine hK.out _ _ ⟨HS0_, HS1_, HS2_, HS3_, HS4_, HS5_, HS6_, HS7_, HS8_, HS9_, HS10_⟩ (fun hHeld => ?_)
                  clear hK K
                  refine norm_ (a' := ?_) ?_ ?_
                  rotate_left
                  ·show Act.put _ (some 34) _ = _
                   simp only [Act.put, List.setIfInBounds_toArray, List.set_cons_zero, List.set_cons_succ, i64_w, i32_w]
                   rfl
                  refine annuitylaw23_OrderLast.y 13 42 22 16383 HT_.out ?_
                  refine annuitylaw23_OrderLast.y 14 43 22 32767 HT_.out ?_
                  refine annuitylaw23_OrderLast.y 15 44 22 65535 HT_.out ?_
                  refine annuitylaw23_OrderLast.y 17 46 22 196607 HT_.out ?_
                  refine one_ (i := 16) (N := some 45) (annuitylaw23_OrderLast.fl 22 262143) rfl rfl (one_of HT_.out (by kernel_rfl)) (by decide) (fun K hK => ?_)
                  refine goes_ Try.func16 (by kernel_rfl) rfl #[.slice A0 l0.length c0] (by rfl) rfl rfl (by (try simp only [List.map_toArray, List.map_cons, List.map_nil]); first | done | rfl | (simp only [List.length_drop, List.length_take]; rfl)) ?_
                  with_reducible refine (order_Last.calls k _ _ l0 t338 _ ?side1 ?side2 A19.out).mono ?_
                  (case side1 => repeat (first | exact (Kd.C_below HR0.out HB.out) | (with_reducible refine Kd.C_alloc ?_ _) | (with_reducible refine Kd.C_drewN ?_ _) | (with_reducible refine Kd.C_drew ?_)))
                  (case side2 => exact HC0.out)
                  rintro e w47 ⟨rfl, hb⟩
                  have HS0_ := hxb hb (hHeld.1)
                  have HS1_ := hxb hb (hHeld.2.1)
                  have HS2_ := hxb hb (hHeld.2.2.1)
                  have HS3_ := hxb hb (hHeld.2.2.2.1)
                  have HS4_ := hxb hb (hHeld.2.2.2.2.1)
                  have HS5_ := hxb hb (hHeld.2.2.2.2.2.1)
                  have HS6_ := hxb hb (hHeld.2.2.2.2.2.2.1)
                  have HS7_ := hxb hb (hHeld.2.2.2.2.2.2.2.1)
                  have HS8_ := hxb hb (hHeld.2.2.2.2.2.2.2.2.1)
                  have HS9_ := hxb hb (hHeld.2.2.2.2.2.2.2.2.2.1)
                  have HS10_ := hxb hb (hHeld.2.2.2.2.2.2.2.2.2.2)
                  refine ⟨_, rfl, ?_⟩
                  have n0_ := Aside0.mk (Kd.R_below (by exact rq HO322.out) hb)
                  have n1_ := Aside0.mk (Kd.R_below (by exact rq HO325.out) hb)
                  have n2_ := Aside0.mk (Kd.R_below (by exact rq HO331.out) hb)
                  have n3_ := Aside0.mk (Kd.R_below (by exact rq HO334.out) hb)
                  have n4_ := Aside0.mk (below_step (by exact h0q HB.out) hb)
                  clear HO322
                  clear HO325
                  clear HO331
                  clear HO334
                  clear HB
                  have HO322 := n0_
                  have HO325 := n1_
                  have HO331 := n2_
                  have HO334 := n3_
                  have HB := n4_
                  clear n0_ n1_ n2_ n3_ n4_
                  (try clear hb)
                  (try clear hb2)
                  (try clear hk)
                  (try clear hi)
                  refine hK.out _ _ ⟨HS0_, HS1_, HS2_, HS3_, HS4_, HS5_, HS6_, HS7_, HS8_, HS9_, HS10_⟩ (fun hHeld => ?_)
                  clear hK K
                  refine norm_ (a' := ?_) ?_ ?_
                  rotate_left
                  ·show Act.put _ (some 45) _ = _
                   simp only [Act.put, List.setIfInBounds_toArray, List.set_cons_zero, List.set_cons_succ, i64_w, i32_w]
                   rfl
                  refine one_ (i := 18) (N := some 47) (annuitylaw23_OrderLast.fl 22 524287) rfl rfl (one_of HT_.out (by kernel_rfl)) (by decide) (fun K hK => ?_)
                  refine goes_ Try.func16 (by kernel_rfl) rfl #[.slice (some ad337) t323.length co37] (by rfl) rfl rfl (by (try simp only [List.map_toArray, List.map_cons, List.map_nil]); first | done | rfl | (simp only [List.length_drop, List.length_take]; rfl)) ?_
                  with_reducible refine (order_Last.calls k _ _ t323 t339 _ ?side1 ?side2 A20.out).mono ?_
                  (case side1 => repeat (first | exact (Kd.R_reads' HO325.out).2.2 | (with_reducible refine Kd.C_alloc ?_ _) | (with_reducible refine Kd.C_drewN ?_ _) | (with_reducible refine Kd.C_drew ?_)))
                  (case side2 => exact (Kd.R_reads' HO325.out).2.1)
                  rintro e w48 ⟨rfl, hb⟩
                  have HS0_ := hxb hb (hHeld.1)
                  have HS1_ := hxb hb (hHeld.2.1)
                  have HS2_ := hxb hb (hHeld.2.2.1)
                  have HS3_ := hxb hb (hHeld.2.2.2.1)
                  have HS4_ := hxb hb (hHeld.2.2.2.2.1)
                  have HS5_ := hxb hb (hHeld.2.2.2.2.2.1)
                  have HS6_ := hxb hb (hHeld.2.2.2.2.2.2.1)
                  have HS7_ := hxb hb (hHeld.2.2.2.2.2.2.2.1)
                  have HS8_ := hxb hb (hHeld.2.2.2.2.2.2.2.2.1)
                  have HS9_ := hxb hb (hHeld.2.2.2.2.2.2.2.2.2.1)
                  have HS10_ := hxb hb (hHeld.2.2.2.2.2.2.2.2.2.2)
                  refine ⟨_, rfl, ?_⟩
                  have n0_ := Aside0.mk (Kd.R_below (by exact rq HO322.out) hb)
                  have n1_ := Aside0.mk (Kd.R_below (by exact rq HO325.out) hb)
                  have n2_ := Aside0.mk (Kd.R_below (by exact rq HO331.out) hb)
                  have n3_ := Aside0.mk (Kd.R_below (by exact rq HO334.out) hb)
                  have n4_ := Aside0.mk (below_step (by exact h0q HB.out) hb)
                  clear HO322
                  clear HO325
                  clear HO331
                  clear HO334
                  clear HB
                  have HO322 := n0_
                  have HO325 := n1_
                  have HO331 := n2_
                  have HO334 := n3_
                  have HB := n4_
                  clear n0_ n1_ n2_ n3_ n4_
                  (try clear hb)
                  (try clear hb2)
                  (try clear hk)
                  (try clear hi)
                  refine hK.out _ _ ⟨HS0_, HS1_, HS2_, HS3_, HS4_, HS5_, HS6_, HS7_, HS8_, HS9_, HS10_⟩ (fun hHeld => ?_)
                  clear hK K
                  refine norm_ (a' := ?_) ?_ ?_
                  rotate_left
                  ·show Act.put _ (some 47) _ = _
                   simp only [Act.put, List.setIfInBounds_toArray, List.set_cons_zero, List.set_cons_succ, i64_w, i32_w]
                   rfl
                  refine annuitylaw23_OrderLast.y 19 48 22 1048575 HT_.out ?_
                  refine annuitylaw23_OrderLast.y 20 49 22 2097151 HT_.out ?_
                  refine annuitylaw23_OrderLast.y 21 50 22 4194303 HT_.out ?_
                  refine done_ (done_of HT_.out (by kernel_rfl)) ?_
                  try go_wp2_with (first | ((with_reducible refine gate_callee (f := 14) rfl ?_); refine goesL_ (some 53) rfl rfl Try.func14 (by kernel_rfl) rfl #[.slice (some ad337) t323.length co37, .int .u32 a1] rfl (by (try simp only [List.map_toArray, List.map_cons, List.map_nil]); first | done | rfl | (simp only [List.length_drop, List.length_take]; rfl)) ?_; (with_reducible refine (order_Find.calls k _ _ t323 a1 t340 _ ?side1 ?side2 A22.out).mono ?_); (case side1 => repeat (first | exact (Kd.R_reads' HO325.out).2.2 | (with_reducible refine Kd.C_alloc ?_ _) | (with_reducible refine Kd.C_drewN ?_ _) | (with_reducible refine Kd.C_drew ?_))); (case side2 => exact (Kd.R_reads' HO325.out).2.1); rintro e w49 ⟨rfl, hb⟩; refine ⟨_, rfl, ?_⟩; have n0_ := Aside0.mk (Kd.R_below (by exact rq HO322.out) hb); have n1_ := Aside0.mk (Kd.R_below (by exact rq HO325.out) hb); have n2_ := Aside0.mk (Kd.R_below (by exact rq HO331.out) hb); have n3_ := Aside0.mk (Kd.R_below (by exact rq HO334.out) hb); have n4_ := Aside0.mk (below_step (by exact h0q HB.out) hb); clear HO322; clear HO325; clear HO331; clear HO334; clear HB; have HO322 := n0_; have HO325 := n1_; have HO331 := n2_; have HO334 := n3_; have HB := n4_; clear n0_ n1_ n2_ n3_ n4_; (try clear hb); (try clear hb2); (try clear hk); (try clear hi); have p341 : 0 ≤ (t340 : Int) := yd; have q341 : t340 < (t323.length : Int) := yd; obtain ⟨ad341, e341, hx341_0, hx341_1, hx341_2, hx341_3, hx341_4, hx341_5, hx341_6, hx341_7, hx341_8, hx341_9, hx341_10⟩ := at_T26 (Kd.R_reads' HO325.out).2.2 t340 p341 q341; obtain rfl : ad337 = ad341 := (by injection e341); replace p341 := eq_true p341; replace q341 := eq_true q341) | ((with_reducible refine gate_callee (f := 14) rfl ?_); refine goesL_ (some 75) rfl rfl Try.func14 (by kernel_rfl) rfl #[.slice A0 l0.length c0, .int .u32 a1] rfl (by (try simp only [List.map_toArray, List.map_cons, List.map_nil]); first | done | rfl | (simp only [List.length_drop, List.length_take]; rfl)) ?_; (with_reducible refine (order_Find.calls k _ _ l0 a1 t342 _ ?side1 ?side2 A28.out).mono ?_); (case side1 => repeat (first | exact (Kd.C_below HR0.out HB.out) | (with_reducible refine Kd.C_alloc ?_ _) | (with_reducible refine Kd.C_drewN ?_ _) | (with_reducible refine Kd.C_drew ?_))); (case side2 => exact HC0.out); rintro e w50 ⟨rfl, hb⟩; refine ⟨_, rfl, ?_⟩; have n0_ := Aside0.mk (Kd.R_below (by exact rq HO322.out) hb); have n1_ := Aside0.mk (Kd.R_below (by exact rq HO325.out) hb); have n2_ := Aside0.mk (Kd.R_below (by exact rq HO331.out) hb); have n3_ := Aside0.mk (Kd.R_below (by exact rq HO334.out) hb); have n4_ := Aside0.mk (below_step (by exact h0q HB.out) hb); clear HO322; clear HO325; clear HO331; clear HO334; clear HB; have HO322 := n0_; have HO325 := n1_; have HO331 := n2_; have HO334 := n3_; have HB := n4_; clear n0_ n1_ n2_ n3_ n4_; (try clear hb); (try clear hb2); (try clear hk); (try clear hi)) | (go_at_call 6; (with_reducible refine (annuitylaw23_wakes.calls k  t343 _ A31.out).mono ?_); rintro e w51 ⟨rfl, hb⟩; have n0_ := Aside0.mk (Kd.R_below (by exact rq HO322.out) hb); have n1_ := Aside0.mk (Kd.R_below (by exact rq HO325.out) hb); have n2_ := Aside0.mk (Kd.R_below (by exact rq HO331.out) hb); have n3_ := Aside0.mk (Kd.R_below (by exact rq HO334.out) hb); have n4_ := Aside0.mk (below_step (by exact h0q HB.out) hb); clear HO322; clear HO325; clear HO331; clear HO334; clear HB; have HO322 := n0_; have HO325 := n1_; have HO331 := n2_; have HO334 := n3_; have HB := n4_; clear n0_ n1_ n2_ n3_ n4_; (try clear hb); (try clear hb2); (try clear hk); (try clear hi)))
                  go_ret
                  exact ⟨by first | rfl | (simp [errW_none, errW_some] <;> rfl) | (simp only [← hji15]; first | rfl | (simp [errW_none, errW_some] <;> rfl)) | (simp [*, errW_none, errW_some] <;> rfl), by exact h0q HB.out⟩
                 ·rw [if_neg c30] at H
                  have c30b0 : decide (0 < (l0.length : Int)) = false := decide_eq_false c30
                  have c30b1 : decide (0 < l0.length) = false := decide_eq_false (by omega)
                  clear c30
                  replace H := Option.bind_eq_some_iff.mp H
                  obtain ⟨t344, A520, H⟩ := H
                  replace H : (if t344 = (-1) then ((annuitylaw23_wakes.f k).bind fun t345 => (some t345)) else (none)) = some r := H
                  have A52 := Aside0.mk A520
                  clear A520
                  by_cases c53 : t344 = (-1)
                  ·rw [if_pos c53] at H
                   have c53b0 : (t344 == (-1)) = true := beq_iff_eq.mpr c53
                   have c53b1 : (t344 != (-1)) = false := bne_eq_false_iff_eq.mpr c53
                   clear c53
                   replace H := Option.bind_eq_some_iff.mp H
                   obtain ⟨t345, A540, H⟩ := H
                   replace H : (some t345) = some r := H
                   have A54 := Aside0.mk A540
                   clear A540
                   obtain rfl := Option.some.inj H
                   go_enter Try.func5, Try.ntmps5
                   try go_wp2_with (first | ((with_reducible refine gate_dst (N := 11) rfl ?_); (try (refine gate_guard (by rfl) ?_; dsimp only)); refine Kd.R_lit k26 _ 26 ?hg (N := 11) ?hd (xs := ([] : List (S26))) (inner := []) (ok := fun _ => True) (okp := fun _ => True) ?hr ?hp (fun _ hk => hk) trivial (Below.refl _ _) (Nat.le_refl _) (by simp) ?_; (case hd => rfl); (case hg => rfl); (case hr => first | (go_simp; done) | (go_simp; rfl)); (case hp => exact (Reps.none _ _)); intro v318 w55 ho56 hb hg_ hnew_; clear hg_ hnew_; (first | rw [← Ny317.out] at ho56 | (simp only [Int.reduceToNat] at ho56; rw [← Ny317.out] at ho56)); have n0_ := Aside0.mk (Kd.R_lower ho56 (below_size (by exact h0q HB.out))); have n1_ := Aside0.mk (below_step (by exact h0q HB.out) hb); clear HB; have HO319 := n0_; have HB := n1_; clear n0_ n1_; clear hb ho56) | ((with_reducible refine gate_builtin (b := .append) (xs := #[.tmp 11, .tmp 12]) rfl ?_); (try (refine gate_guard (by rfl) ?_; dsimp only)); at_builtin; refine Kd.R_append_rows k26 (w0 := w) w.heap.size rfl (.tmp 11) (.tmp 12) 22 26 (.agg #[(.int .i64 0), (.int .i64 0), (.int .u32 0), (.int .i64 0), (.int .i64 0), (.float .f64 0), (.float .f64 0), (.bool false), (.int .i64 0), (.int .i64 0), (.int .i64 0)]) 88 rfl Try.underlying22 info26 rfl (by decide) (by omega) v318 y317 l0 _ _ _ (fun _ => True) (fun _ => False) rfl rfl ?aO ?aR (fun _ _ h => h) (fun _ h => h.elim) ?aF ?aB ?aS ?aL ?_; (case aR => repeat (first | exact (Kd.C_below HR0.out HB.out) | (with_reducible refine Kd.C_alloc ?_ _) | (with_reducible refine Kd.C_drewN ?_ _) | (with_reducible refine Kd.C_drew ?_))); (case aB => exact (by exact h0q HB.out)); (case aF => exact (fun _ _ => trivial)); (case aO => exact (by exact rq HO319.out)); (case aS => exact (below_size (by exact h0q HB.out))); (case aL => have := LMc6.out; omega); intro v321 w57 ho hb hg hat; rw [← Ny320.out] at ho; have n0_ := Aside0.mk (hb); have n1_ := Aside0.mk (ho); clear HB; clear HO319; have HB := n0_; have HO322 := n1_; clear n0_ n1_; clear ho hb hg hat; obtain ⟨Ao58, co58, eo58⟩ := Kd.R_slice HO322.out; subst eo58) | ((with_reducible refine gate_callee (f := 7) rfl ?_); refine goesL_ (some 14) rfl rfl Try.func7 (by kernel_rfl) rfl #[.slice Ao58 y320.length co58] rfl (by (try simp only [List.map_toArray, List.map_cons, List.map_nil]); first | done | rfl | (simp only [List.length_drop, List.length_take]; rfl)) ?_; (with_reducible refine (order_Sort.calls k _ _ y320 t323 _ ?side1 ?side2 A7.out).mono ?_); (case side1 => repeat (first | exact (Kd.R_reads' HO322.out).2.2 | (with_reducible refine Kd.C_alloc ?_ _) | (with_reducible refine Kd.C_drewN ?_ _) | (with_reducible refine Kd.C_drew ?_))); (case side2 => exact (Kd.R_reads' HO322.out).2.1); rintro e w59 ⟨v324, rfl, ho0, hb⟩; refine ⟨_, rfl, ?_⟩; have n0_ := Aside0.mk (Kd.R_elder' (by exact rq HO322.out) (Kd.R_base ho0) hb); have n1_ := Aside0.mk (Kd.R_lower (Kd.R_new' ho0 (Kd.R_lt (by exact rq HO322.out))) (below_size (by exact h0q HB.out))); have n2_ := Aside0.mk (below_step (by exact h0q HB.out) hb); clear HO322; clear HB; have HO322 := n0_; have HO325 := n1_; have HB := n2_; clear n0_ n1_ n2_; (try clear hb); (try clear hb2); (try clear hk); (try clear hi); (try clear ho0); obtain ⟨Ao60, co60, eo60⟩ := Kd.R_slice HO325.out; subst eo60) | ((with_reducible refine gate_dst (N := 21) rfl ?_); (try (refine gate_guard (by rfl) ?_; dsimp only)); refine Kd.R_lit k26 _ 26 ?hg (N := 21) ?hd (xs := ([] : List (S26))) (inner := []) (ok := fun _ => True) (okp := fun _ => True) ?hr ?hp (fun _ hk => hk) trivial (Below.refl _ _) (Nat.le_refl _) (by simp) ?_; (case hd => rfl); (case hg => rfl); (case hr => first | (go_simp; done) | (go_simp; rfl)); (case hp => exact (Reps.none _ _)); intro v327 w61 ho62 hb hg_ hnew_; clear hg_ hnew_; (first | rw [← Ny326.out] at ho62 | (simp only [Int.reduceToNat] at ho62; rw [← Ny326.out] at ho62)); have n0_ := Aside0.mk (Kd.R_elder' (by exact rq HO322.out) (Kd.R_base ho62) hb); have n1_ := Aside0.mk (Kd.R_elder' (by exact rq HO325.out) (Kd.R_base ho62) hb); have n2_ := Aside0.mk (Kd.R_lower (Kd.R_new' (Kd.R_new' ho62 (Kd.R_lt (by exact rq HO322.out))) (Kd.R_lt (by exact rq HO325.out))) (below_size (by exact h0q HB.out))); have n3_ := Aside0.mk (below_step (by exact h0q HB.out) hb); clear HO322; clear HO325; clear HB; have HO322 := n0_; have HO325 := n1_; have HO328 := n2_; have HB := n3_; clear n0_ n1_ n2_ n3_; clear hb ho62) | ((with_reducible refine gate_builtin (b := .append) (xs := #[.tmp 21, .tmp 22]) rfl ?_); (try (refine gate_guard (by rfl) ?_; dsimp only)); at_builtin; refine Kd.R_append_rows k26 (w0 := w) w.heap.size rfl (.tmp 21) (.tmp 22) 22 26 (.agg #[(.int .i64 0), (.int .i64 0), (.int .u32 0), (.int .i64 0), (.int .i64 0), (.float .f64 0), (.float .f64 0), (.bool false), (.int .i64 0), (.int .i64 0), (.int .i64 0)]) 88 rfl Try.underlying22 info26 rfl (by decide) (by omega) v327 y326 t323 _ _ _ (fun k_ => some k_ ≠ (.slice Ao58 y320.length co58 : Value).ownBlock ∧ some k_ ≠ (.slice Ao60 t323.length co60 : Value).ownBlock) (fun _ => False) rfl rfl ?aO ?aR (fun _ _ h => h) (fun _ h => h.elim) ?aF ?aB ?aS ?aL ?_; (case aR => repeat (first | exact (Kd.R_reads' HO325.out).2.2 | (with_reducible refine Kd.C_alloc ?_ _) | (with_reducible refine Kd.C_drewN ?_ _) | (with_reducible refine Kd.C_drew ?_))); (case aB => exact (by exact h0q HB.out)); (case aF => exact (fun k_ hk => ⟨Kd.fresh' (Kd.R_lt (by exact rq HO322.out)) k_ hk, Kd.fresh' (Kd.R_lt (by exact rq HO325.out)) k_ hk⟩)); (case aO => exact (by (with_reducible repeat (first | apply Kd.R_alloc | apply Kd.R_drewN | apply Kd.R_drew)); exact Kd.R_mono HO328.out (fun _ hk => ⟨hk.1.2, hk.2⟩))); (case aS => exact (below_size (by exact h0q HB.out))); (case aL => have := LMc9.out; omega); intro v330 w63 ho hb hg hat; rw [← Ny329.out] at ho; have n0_ := Aside0.mk (Kd.R_after (ok := (fun k_ => some k_ ≠ (.slice Ao60 t323.length co60 : Value).ownBlock)) (by (with_reducible repeat (first | apply Kd.R_alloc | apply Kd.R_drewN | apply Kd.R_drew)); exact Kd.R_mono HO322.out (fun _ hk => ⟨hk.1.2, hk.2⟩)) hg hat); have n1_ := Aside0.mk (Kd.R_after (ok := (fun k_ => some k_ ≠ (.slice Ao58 y320.length co58 : Value).ownBlock)) (by (with_reducible repeat (first | apply Kd.R_alloc | apply Kd.R_drewN | apply Kd.R_drew)); exact Kd.R_mono HO325.out (fun _ hk => ⟨hk.1.2, hk.2⟩)) hg hat); have n2_ := Aside0.mk (hb); have n3_ := Aside0.mk (ho); clear HO322; clear HO325; clear HB; clear HO328; have HO322 := n0_; have HO325 := n1_; have HB := n2_; have HO331 := n3_; clear n0_ n1_ n2_ n3_; clear ho hb hg hat; obtain ⟨Ao64, co64, eo64⟩ := Kd.R_slice HO331.out; subst eo64) | (go_at_call 7; (with_reducible refine (order_Sort.calls k _ _ y329 t332 _ ?side1 ?side2 A10.out).mono ?_); (case side1 => repeat (first | exact (Kd.R_reads' HO331.out).2.2 | (with_reducible refine Kd.C_alloc ?_ _) | (with_reducible refine Kd.C_drewN ?_ _) | (with_reducible refine Kd.C_drew ?_))); (case side2 => exact (Kd.R_reads' HO331.out).2.1); rintro e w65 ⟨v333, rfl, ho0, hb⟩; have n0_ := Aside0.mk (Kd.R_elder' (by exact rq HO322.out) (Kd.R_base ho0) hb); have n1_ := Aside0.mk (Kd.R_elder' (by exact rq HO325.out) (Kd.R_base ho0) hb); have n2_ := Aside0.mk (Kd.R_elder' (by exact rq HO331.out) (Kd.R_base ho0) hb); have n3_ := Aside0.mk (Kd.R_lower (Kd.R_new' (Kd.R_new' (Kd.R_new' ho0 (Kd.R_lt (by exact rq HO322.out))) (Kd.R_lt (by exact rq HO325.out))) (Kd.R_lt (by exact rq HO331.out))) (below_size (by exact h0q HB.out))); have n4_ := Aside0.mk (below_step (by exact h0q HB.out) hb); clear HO322; clear HO325; clear HO331; clear HB; have HO322 := n0_; have HO325 := n1_; have HO331 := n2_; have HO334 := n3_; have HB := n4_; clear n0_ n1_ n2_ n3_ n4_; (try clear hb); (try clear hb2); (try clear hk); (try clear hi); (try clear ho0); obtain ⟨Ao66, co66, eo66⟩ := Kd.R_slice HO334.out; subst eo66) | (go_at_call 11; (with_reducible refine (annuitykeep_Events.calls k _ _ t332 _ _ t323 true _ ?side1 ?side2 ?side3 ?side4 A11.out).mono ?_); (case side1 => repeat (first | exact (Kd.R_reads' HO334.out).2.2 | (with_reducible refine Kd.C_alloc ?_ _) | (with_reducible refine Kd.C_drewN ?_ _) | (with_reducible refine Kd.C_drew ?_))); (case side2 => exact (Kd.R_reads' HO334.out).2.1); (case side3 => repeat (first | exact (Kd.R_reads' HO325.out).2.2 | (with_reducible refine Kd.C_alloc ?_ _) | (with_reducible refine Kd.C_drewN ?_ _) | (with_reducible refine Kd.C_drew ?_))); (case side4 => exact (Kd.R_reads' HO325.out).2.1); rintro e w67 ⟨rfl, hb⟩; have n0_ := Aside0.mk (Kd.R_below (by exact rq HO322.out) hb); have n1_ := Aside0.mk (Kd.R_below (by exact rq HO325.out) hb); have n2_ := Aside0.mk (Kd.R_below (by exact rq HO331.out) hb); have n3_ := Aside0.mk (Kd.R_below (by exact rq HO334.out) hb); have n4_ := Aside0.mk (below_step (by exact h0q HB.out) hb); clear HO322; clear HO325; clear HO331; clear HO334; clear HB; have HO322 := n0_; have HO325 := n1_; have HO331 := n2_; have HO334 := n3_; have HB := n4_; clear n0_ n1_ n2_ n3_ n4_; (try clear hb); (try clear hb2); (try clear hk); (try clear hi)))
                   have n0_ := Aside0.mk (Kd.R_drew HO322.out)
                   have n1_ := Aside0.mk (Kd.R_drew HO325.out)
                   have n2_ := Aside0.mk (Kd.R_drew HO331.out)
                   have n3_ := Aside0.mk (Kd.R_drew HO334.out)
                   have n4_ := Aside0.mk (below_drew1 HB.out)
                   clear HO322
                   clear HO325
                   clear HO331
                   clear HO334
                   clear HB
                   have HO322 := n0_
                   have HO325 := n1_
                   have HO331 := n2_
                   have HO334 := n3_
                   have HB := n4_
                   clear n0_ n1_ n2_ n3_ n4_
                   have p337 : 0 ≤ ((ji15) : Int) := yd
                   have q337 : (ji15) < (t323.length : Int) := yd
                   obtain ⟨ad337, e337, hx337_0, hx337_1, hx337_2, hx337_3, hx337_4, hx337_5, hx337_6, hx337_7, hx337_8, hx337_9, hx337_10⟩ := at_T26 (Kd.R_reads' HO325.out).2.2 (ji15) p337 q337
                   cases e337
                   replace p337 := eq_true p337
                   replace q337 := eq_true q337
                   refine start_ (n := 22) (S := fun w' => w'.cell? (ad337.add (((ji15)).toNat * 11)) = some (.int .i64 ((rd_T26 t323 (ji15)).f0)) ∧ w'.cell? ⟨(ad337.add (((ji15)).toNat * 11)).block, (ad337.add (((ji15)).toNat * 11)).off + 1, none⟩ = some (.int .i64 ((rd_T26 t323 (ji15)).f1)) ∧ w'.cell? ⟨(ad337.add (((ji15)).toNat * 11)).block, (ad337.add (((ji15)).toNat * 11)).off + 2, none⟩ = some (.int .u32 ((rd_T26 t323 (ji15)).f2)) ∧ w'.cell? ⟨(ad337.add (((ji15)).toNat * 11)).block, (ad337.add (((ji15)).toNat * 11)).off + 3, none⟩ = some (.int .i64 ((rd_T26 t323 (ji15)).f3)) ∧ w'.cell? ⟨(ad337.add (((ji15)).toNat * 11)).block, (ad337.add (((ji15)).toNat * 11)).off + 4, none⟩ = some (.int .i64 ((rd_T26 t323 (ji15)).f4)) ∧ w'.cell? ⟨(ad337.add (((ji15)).toNat * 11)).block, (ad337.add (((ji15)).toNat * 11)).off + 5, none⟩ = some (.float .f64 ((rd_T26 t323 (ji15)).f5)) ∧ w'.cell? ⟨(ad337.add (((ji15)).toNat * 11)).block, (ad337.add (((ji15)).toNat * 11)).off + 6, none⟩ = some (.float .f64 ((rd_T26 t323 (ji15)).f6)) ∧ w'.cell? ⟨(ad337.add (((ji15)).toNat * 11)).block, (ad337.add (((ji15)).toNat * 11)).off + 7, none⟩ = some (.bool ((rd_T26 t323 (ji15)).f7)) ∧ w'.cell? ⟨(ad337.add (((ji15)).toNat * 11)).block, (ad337.add (((ji15)).toNat * 11)).off + 8, none⟩ = some (.int .i64 ((rd_T26 t323 (ji15)).f8)) ∧ w'.cell? ⟨(ad337.add (((ji15)).toNat * 11)).block, (ad337.add (((ji15)).toNat * 11)).off + 9, none⟩ = some (.int .i64 ((rd_T26 t323 (ji15)).f9)) ∧ w'.cell? ⟨(ad337.add (((ji15)).toNat * 11)).block, (ad337.add (((ji15)).toNat * 11)).off + 10, none⟩ = some (.int .i64 ((rd_T26 t323 (ji15)).f10))) (ds := []) (annuitylaw23_OrderLast.fl 22 0) (by kernel_rfl) rfl rfl ⟨hx337_0, hx337_1, hx337_2, hx337_3, hx337_4, hx337_5, hx337_6, hx337_7, hx337_8, hx337_9, hx337_10⟩ (fun hHeld => ?_); refine with_tabW annuitylaw23_OrderLast.tab6 annuitylaw23_OrderLast.bits6 (fun HT_ HW_ => ?_)
                   generalize w67.drew = w68 at HO322 HO325 HO331 HO334 HB hx337_0 hx337_1 hx337_10 hx337_2 hx337_3 hx337_4 hx337_5 hx337_6 hx337_7 hx337_8 hx337_9 hHeld ⊢
                   refine annuitylaw23_OrderLast.y 0 29 22 1 HT_.out ?_
                   refine annuitylaw23_OrderLast.y 1 30 22 3 HT_.out ?_
                   refine annuitylaw23_OrderLast.y 2 31 22 7 HT_.out ?_
                   refine annuitylaw23_OrderLast.y 3 32 22 15 HT_.out ?_
                   refine annuitylaw23_OrderLast.y 4 33 22 31 HT_.out ?_
                   refine annuitylaw23_OrderLast.y 6 35 22 95 HT_.out ?_
                   refine annuitylaw23_OrderLast.y 7 36 22 223 HT_.out ?_
                   refine annuitylaw23_OrderLast.y 8 37 22 479 HT_.out ?_
                   refine annuitylaw23_OrderLast.y 9 38 22 991 HT_.out ?_
                   refine annuitylaw23_OrderLast.y 10 39 22 2015 HT_.out ?_
                   refine annuitylaw23_OrderLast.y 11 40 22 4063 HT_.out ?_
                   refine annuitylaw23_OrderLast.t 12 41 22 8159 HT_.out HW_.out hHeld ?_
                   refine one_ (i := 5) (N := some 34) (annuitylaw23_OrderLast.fl 22 8191) rfl rfl (one_of HT_.out (by kernel_rfl)) (by decide) (fun K hK => ?_)
                   refine goes_ Try.func16 (by kernel_rfl) rfl #[.slice (some ad337) t323.length co60] (by rfl) rfl rfl (by (try simp only [List.map_toArray, List.map_cons, List.map_nil]); first | done | rfl | (simp only [List.length_drop, List.length_take]; rfl)) ?_
                   with_reducible refine (order_Last.calls k _ _ t323 t336 _ ?side1 ?side2 A14.out).mono ?_
                   (case side1 => repeat (first | exact (Kd.R_reads' HO325.out).2.2 | (with_reducible refine Kd.C_alloc ?_ _) | (with_reducible refine Kd.C_drewN ?_ _) | (with_reducible refine Kd.C_drew ?_)))
                   (case side2 => exact (Kd.R_reads' HO325.out).2.1)
                   rintro e w69 ⟨rfl, hb⟩
                   have HS0_ := hxb hb (hHeld.1)
                   have HS1_ := hxb hb (hHeld.2.1)
                   have HS2_ := hxb hb (hHeld.2.2.1)
                   have HS3_ := hxb hb (hHeld.2.2.2.1)
                   have HS4_ := hxb hb (hHeld.2.2.2.2.1)
                   have HS5_ := hxb hb (hHeld.2.2.2.2.2.1)
                   have HS6_ := hxb hb (hHeld.2.2.2.2.2.2.1)
                   have HS7_ := hxb hb (hHeld.2.2.2.2.2.2.2.1)
                   have HS8_ := hxb hb (hHeld.2.2.2.2.2.2.2.2.1)
                   have HS9_ := hxb hb (hHeld.2.2.2.2.2.2.2.2.2.1)
                   have HS10_ := hxb hb (hHeld.2.2.2.2.2.2.2.2.2.2)
                   refine ⟨_, rfl, ?_⟩
                   have n0_ := Aside0.mk (Kd.R_below (by exact rq HO322.out) hb)
                   have n1_ := Aside0.mk (Kd.R_below (by exact rq HO325.out) hb)
                   have n2_ := Aside0.mk (Kd.R_below (by exact rq HO331.out) hb)
                   have n3_ := Aside0.mk (Kd.R_below (by exact rq HO334.out) hb)
                   have n4_ := Aside0.mk (below_step (by exact h0q HB.out) hb)
                   clear HO322
                   clear HO325
                   clear HO331
                   clear HO334
                   clear HB
                   have HO322 := n0_
                   have HO325 := n1_
                   have HO331 := n2_
                   have HO334 := n3_
                   have HB := n4_
                   clear n0_ n1_ n2_ n3_ n4_
                   (try clear hb)
                   (try clear hb2)
                   (try clear hk)
                   (try clear hi)
                   refine hK.out _ _ ⟨HS0_, HS1_, HS2_, HS3_, HS4_, HS5_, HS6_, HS7_, HS8_, HS9_, HS10_⟩ (fun hHeld => ?_)
                   clear hK K
                   refine norm_ (a' := ?_) ?_ ?_
                   rotate_left
                   ·show Act.put _ (some 34) _ = _
                    simp only [Act.put, List.setIfInBounds_toArray, List.set_cons_zero, List.set_cons_succ, i64_w, i32_w]
                    rfl
                   refine annuitylaw23_OrderLast.y 13 42 22 16383 HT_.out ?_
                   refine annuitylaw23_OrderLast.y 14 43 22 32767 HT_.out ?_
                   refine annuitylaw23_OrderLast.y 15 44 22 65535 HT_.out ?_
                   refine annuitylaw23_OrderLast.y 17 46 22 196607 HT_.out ?_
                   refine one_ (i := 16) (N := some 45) (annuitylaw23_OrderLast.fl 22 262143) rfl rfl (one_of HT_.out (by kernel_rfl)) (by decide) (fun K hK => ?_)
                   refine goes_ Try.func16 (by kernel_rfl) rfl #[.slice A0 l0.length c0] (by rfl) rfl rfl (by (try simp only [List.map_toArray, List.map_cons, List.map_nil]); first | done | rfl | (simp only [List.length_drop, List.length_take]; rfl)) ?_
                   with_reducible refine (order_Last.calls k _ _ l0 t338 _ ?side1 ?side2 A19.out).mono ?_
                   (case side1 => repeat (first | exact (Kd.C_below HR0.out HB.out) | (with_reducible refine Kd.C_alloc ?_ _) | (with_reducible refine Kd.C_drewN ?_ _) | (with_reducible refine Kd.C_drew ?_)))
                   (case side2 => exact HC0.out)
                   rintro e w70 ⟨rfl, hb⟩
                   have HS0_ := hxb hb (hHeld.1)
                   have HS1_ := hxb hb (hHeld.2.1)
                   have HS2_ := hxb hb (hHeld.2.2.1)
                   have HS3_ := hxb hb (hHeld.2.2.2.1)
                   have HS4_ := hxb hb (hHeld.2.2.2.2.1)
                   have HS5_ := hxb hb (hHeld.2.2.2.2.2.1)
                   have HS6_ := hxb hb (hHeld.2.2.2.2.2.2.1)
                   have HS7_ := hxb hb (hHeld.2.2.2.2.2.2.2.1)
                   have HS8_ := hxb hb (hHeld.2.2.2.2.2.2.2.2.1)
                   have HS9_ := hxb hb (hHeld.2.2.2.2.2.2.2.2.2.1)
                   have HS10_ := hxb hb (hHeld.2.2.2.2.2.2.2.2.2.2)
                   refine ⟨_, rfl, ?_⟩
                   have n0_ := Aside0.mk (Kd.R_below (by exact rq HO322.out) hb)
                   have n1_ := Aside0.mk (Kd.R_below (by exact rq HO325.out) hb)
                   have n2_ := Aside0.mk (Kd.R_below (by exact rq HO331.out) hb)
                   have n3_ := Aside0.mk (Kd.R_below (by exact rq HO334.out) hb)
                   have n4_ := Aside0.mk (below_step (by exact h0q HB.out) hb)
                   clear HO322
                   clear HO325
                   clear HO331
                   clear HO334
                   clear HB
                   have HO322 := n0_
                   have HO325 := n1_
                   have HO331 := n2_
                   have HO334 := n3_
                   have HB := n4_
                   clear n0_ n1_ n2_ n3_ n4_
                   (try clear hb)
                   (try clear hb2)
                   (try clear hk)
                   (try clear hi)
                   refine hK.out _ _ ⟨HS0_, HS1_, HS2_, HS3_, HS4_, HS5_, HS6_, HS7_, HS8_, HS9_, HS10_⟩ (fun hHeld => ?_)
                   clear hK K
                   refine norm_ (a' := ?_) ?_ ?_
                   rotate_left
                   ·show Act.put _ (some 45) _ = _
                    simp only [Act.put, List.setIfInBounds_toArray, List.set_cons_zero, List.set_cons_succ, i64_w, i32_w]
                    rfl
                   refine one_ (i := 18) (N := some 47) (annuitylaw23_OrderLast.fl 22 524287) rfl rfl (one_of HT_.out (by kernel_rfl)) (by decide) (fun K hK => ?_)
                   refine goes_ Try.func16 (by kernel_rfl) rfl #[.slice (some ad337) t323.length co60] (by rfl) rfl rfl (by (try simp only [List.map_toArray, List.map_cons, List.map_nil]); first | done | rfl | (simp only [List.length_drop, List.length_take]; rfl)) ?_
                   with_reducible refine (order_Last.calls k _ _ t323 t339 _ ?side1 ?side2 A20.out).mono ?_
                   (case side1 => repeat (first | exact (Kd.R_reads' HO325.out).2.2 | (with_reducible refine Kd.C_alloc ?_ _) | (with_reducible refine Kd.C_drewN ?_ _) | (with_reducible refine Kd.C_drew ?_)))
                   (case side2 => exact (Kd.R_reads' HO325.out).2.1)
                   rintro e w71 ⟨rfl, hb⟩
                   have HS0_ := hxb hb (hHeld.1)
                   have HS1_ := hxb hb (hHeld.2.1)
                   have HS2_ := hxb hb (hHeld.2.2.1)
                   have HS3_ := hxb hb (hHeld.2.2.2.1)
                   have HS4_ := hxb hb (hHeld.2.2.2.2.1)
                   have HS5_ := hxb hb (hHeld.2.2.2.2.2.1)
                   have HS6_ := hxb hb (hHeld.2.2.2.2.2.2.1)
                   have HS7_ := hxb hb (hHeld.2.2.2.2.2.2.2.1)
                   have HS8_ := hxb hb (hHeld.2.2.2.2.2.2.2.2.1)
                   have HS9_ := hxb hb (hHeld.2.2.2.2.2.2.2.2.2.1)
                   have HS10_ := hxb hb (hHeld.2.2.2.2.2.2.2.2.2.2)
                   refine ⟨_, rfl, ?_⟩
                   have n0_ := Aside0.mk (Kd.R_below (by exact rq HO322.out) hb)
                   have n1_ := Aside0.mk (Kd.R_below (by exact rq HO325.out) hb)
                   have n2_ := Aside0.mk (Kd.R_below (by exact rq HO331.out) hb)
                   have n3_ := Aside0.mk (Kd.R_below (by exact rq HO334.out) hb)
                   have n4_ := Aside0.mk (below_step (by exact h0q HB.out) hb)
                   clear HO322
                   clear HO325
                   clear HO331
                   clear HO334
                   clear HB
                   have HO322 := n0_
                   have HO325 := n1_
                   have HO331 := n2_
                   have HO334 := n3_
                   have HB := n4_
                   clear n0_ n1_ n2_ n3_ n4_
                   (try clear hb)
                   (try clear hb2)
                   (try clear hk)
                   (try clear hi)
                   refine hK.out _ _ ⟨HS0_, HS1_, HS2_, HS3_, HS4_, HS5_, HS6_, HS7_, HS8_, HS9_, HS10_⟩ (fun hHeld => ?_)
                   clear hK K
                   refine norm_ (a' := ?_) ?_ ?_
                   rotate_left
                   ·show Act.put _ (some 47) _ = _
                    simp only [Act.put, List.setIfInBounds_toArray, List.set_cons_zero, List.set_cons_succ, i64_w, i32_w]
                    rfl
                   refine annuitylaw23_OrderLast.y 19 48 22 1048575 HT_.out ?_
                   refine annuitylaw23_OrderLast.y 20 49 22 2097151 HT_.out ?_
                   refine annuitylaw23_OrderLast.y 21 50 22 4194303 HT_.out ?_
                   refine done_ (done_of HT_.out (by kernel_rfl)) ?_
                   try go_wp2_with (first | ((with_reducible refine gate_callee (f := 14) rfl ?_); refine goesL_ (some 53) rfl rfl Try.func14 (by kernel_rfl) rfl #[.slice (some ad337) t323.length co60, .int .u32 a1] rfl (by (try simp only [List.map_toArray, List.map_cons, List.map_nil]); first | done | rfl | (simp only [List.length_drop, List.length_take]; rfl)) ?_; (with_reducible refine (order_Find.calls k _ _ t323 a1 t340 _ ?side1 ?side2 A22.out).mono ?_); (case side1 => repeat (first | exact (Kd.R_reads' HO325.out).2.2 | (with_reducible refine Kd.C_alloc ?_ _) | (with_reducible refine Kd.C_drewN ?_ _) | (with_reducible refine Kd.C_drew ?_))); (case side2 => exact (Kd.R_reads' HO325.out).2.1); rintro e w72 ⟨rfl, hb⟩; refine ⟨_, rfl, ?_⟩; have n0_ := Aside0.mk (Kd.R_below (by exact rq HO322.out) hb); have n1_ := Aside0.mk (Kd.R_below (by exact rq HO325.out) hb); have n2_ := Aside0.mk (Kd.R_below (by exact rq HO331.out) hb); have n3_ := Aside0.mk (Kd.R_below (by exact rq HO334.out) hb); have n4_ := Aside0.mk (below_step (by exact h0q HB.out) hb); clear HO322; clear HO325; clear HO331; clear HO334; clear HB; have HO322 := n0_; have HO325 := n1_; have HO331 := n2_; have HO334 := n3_; have HB := n4_; clear n0_ n1_ n2_ n3_ n4_; (try clear hb); (try clear hb2); (try clear hk); (try clear hi); have p341 : 0 ≤ (t340 : Int) := yd; have q341 : t340 < (t323.length : Int) := yd; obtain ⟨ad341, e341, hx341_0, hx341_1, hx341_2, hx341_3, hx341_4, hx341_5, hx341_6, hx341_7, hx341_8, hx341_9, hx341_10⟩ := at_T26 (Kd.R_reads' HO325.out).2.2 t340 p341 q341; obtain rfl : ad337 = ad341 := (by injection e341); replace p341 := eq_true p341; replace q341 := eq_true q341) | ((with_reducible refine gate_callee (f := 14) rfl ?_); refine goesL_ (some 75) rfl rfl Try.func14 (by kernel_rfl) rfl #[.slice A0 l0.length c0, .int .u32 a1] rfl (by (try simp only [List.map_toArray, List.map_cons, List.map_nil]); first | done | rfl | (simp only [List.length_drop, List.length_take]; rfl)) ?_; (with_reducible refine (order_Find.calls k _ _ l0 a1 t342 _ ?side1 ?side2 A28.out).mono ?_); (case side1 => repeat (first | exact (Kd.C_below HR0.out HB.out) | (with_reducible refine Kd.C_alloc ?_ _) | (with_reducible refine Kd.C_drewN ?_ _) | (with_reducible refine Kd.C_drew ?_))); (case side2 => exact HC0.out); rintro e w73 ⟨rfl, hb⟩; refine ⟨_, rfl, ?_⟩; have n0_ := Aside0.mk (Kd.R_below (by exact rq HO322.out) hb); have n1_ := Aside0.mk (Kd.R_below (by exact rq HO325.out) hb); have n2_ := Aside0.mk (Kd.R_below (by exact rq HO331.out) hb); have n3_ := Aside0.mk (Kd.R_below (by exact rq HO334.out) hb); have n4_ := Aside0.mk (below_step (by exact h0q HB.out) hb); clear HO322; clear HO325; clear HO331; clear HO334; clear HB; have HO322 := n0_; have HO325 := n1_; have HO331 := n2_; have HO334 := n3_; have HB := n4_; clear n0_ n1_ n2_ n3_ n4_; (try clear hb); (try clear hb2); (try clear hk); (try clear hi)) | (go_at_call 16; (with_reducible refine (order_Last.calls k _ _ l0 t344 _ ?side1 ?side2 A52.out).mono ?_); (case side1 => repeat (first | exact (Kd.C_below HR0.out HB.out) | (with_reducible refine Kd.C_alloc ?_ _) | (with_reducible refine Kd.C_drewN ?_ _) | (with_reducible refine Kd.C_drew ?_))); (case side2 => exact HC0.out); rintro e w74 ⟨rfl, hb⟩; have n0_ := Aside0.mk (Kd.R_below (by exact rq HO322.out) hb); have n1_ := Aside0.mk (Kd.R_below (by exact rq HO325.out) hb); have n2_ := Aside0.mk (Kd.R_below (by exact rq HO331.out) hb); have n3_ := Aside0.mk (Kd.R_below (by exact rq HO334.out) hb); have n4_ := Aside0.mk (below_step (by exact h0q HB.out) hb); clear HO322; clear HO325; clear HO331; clear HO334; clear HB; have HO322 := n0_; have HO325 := n1_; have HO331 := n2_; have HO334 := n3_; have HB := n4_; clear n0_ n1_ n2_ n3_ n4_; (try clear hb); (try clear hb2); (try clear hk); (try clear hi)) | (go_at_call 6; (with_reducible refine (annuitylaw23_wakes.calls k  t345 _ A54.out).mono ?_); rintro e w75 ⟨rfl, hb⟩; have n0_ := Aside0.mk (Kd.R_below (by exact rq HO322.out) hb); have n1_ := Aside0.mk (Kd.R_below (by exact rq HO325.out) hb); have n2_ := Aside0.mk (Kd.R_below (by exact rq HO331.out) hb); have n3_ := Aside0.mk (Kd.R_below (by exact rq HO334.out) hb); have n4_ := Aside0.mk (below_step (by exact h0q HB.out) hb); clear HO322; clear HO325; clear HO331; clear HO334; clear HB; have HO322 := n0_; have HO325 := n1_; have HO331 := n2_; have HO334 := n3_; have HB := n4_; clear n0_ n1_ n2_ n3_ n4_; (try clear hb); (try clear hb2); (try clear hk); (try clear hi)))
                   go_ret
                   exact ⟨by first | rfl | (simp [errW_none, errW_some] <;> rfl) | (simp only [← hji15]; first | rfl | (simp [errW_none, errW_some] <;> rfl)) | (simp [*, errW_none, errW_some] <;> rfl), by exact h0q HB.out⟩
                  ·rw [if_neg c53] at H
                   exact absurd H (by simp)
                ·rw [if_neg c29] at H
                 exact absurd H (by simp)
               ·rw [if_neg c27] at H
                exact absurd H (by simp)
              ·rw [if_neg c26] at H
               exact absurd H (by simp)
             ·rw [if_neg c25] at H
              exact absurd H (by simp)
            ·rw [if_neg c24] at H
             have c24b0 : decide (0 ≤ t340) = false := decide_eq_false c24
             clear c24
             replace H := Option.bind_eq_some_iff.mp H
             obtain ⟨t346, A760, H⟩ := H
             replace H : (if ((decide (t340 < 0)) == (decide (t346 < 0))) = true then (if (l0.length : Int) > 0 then ((annuitylaw23_wakes.f k).bind fun t347 => (some t347)) else ((order_Last.f k l0).bind fun t348 => (if t348 = (-1) then ((annuitylaw23_wakes.f k).bind fun t349 => (some t349)) else (none)))) else (none)) = some r := H
             have A76 := Aside0.mk A760
             clear A760
             by_cases c77 : ((decide (t340 < 0)) == (decide (t346 < 0))) = true
             ·rw [if_pos c77] at H
              have c77b0 : ((decide (t340 < 0)) == (decide (t346 < 0))) = true := c77
              (try (have c77b1 : decide ((decide (t340 < 0)) = (decide (t346 < 0))) = true := by simpa using c77))
              (try (have c77b2 : ((decide (t340 < 0)) == (decide (t346 < 0))) = true := by simpa using c77))
              clear c77
              by_cases c78 : (l0.length : Int) > 0
              ·rw [if_pos c78] at H
               have c78b0 : decide (0 < (l0.length : Int)) = true := decide_eq_true c78
               have c78b1 : decide (0 < l0.length) = true := decide_eq_true (by omega)
               clear c78
               replace H := Option.bind_eq_some_iff.mp H
               obtain ⟨t347, A790, H⟩ := H
               replace H : (some t347) = some r := H
               have A79 := Aside0.mk A790
               clear A790
               obtain rfl := Option.some.inj H
               go_enter Try.func5, Try.ntmps5
               try go_wp2_with (first | ((with_reducible refine gate_dst (N := 11) rfl ?_); (try (refine gate_guard (by rfl) ?_; dsimp only)); refine Kd.R_lit k26 _ 26 ?hg (N := 11) ?hd (xs := ([] : List (S26))) (inner := []) (ok := fun _ => True) (okp := fun _ => True) ?hr ?hp (fun _ hk => hk) trivial (Below.refl _ _) (Nat.le_refl _) (by simp) ?_; (case hd => rfl); (case hg => rfl); (case hr => first | (go_simp; done) | (go_simp; rfl)); (case hp => exact (Reps.none _ _)); intro v318 w80 ho81 hb hg_ hnew_; clear hg_ hnew_; (first | rw [← Ny317.out] at ho81 | (simp only [Int.reduceToNat] at ho81; rw [← Ny317.out] at ho81)); have n0_ := Aside0.mk (Kd.R_lower ho81 (below_size (by exact h0q HB.out))); have n1_ := Aside0.mk (below_step (by exact h0q HB.out) hb); clear HB; have HO319 := n0_; have HB := n1_; clear n0_ n1_; clear hb ho81) | ((with_reducible refine gate_builtin (b := .append) (xs := #[.tmp 11, .tmp 12]) rfl ?_); (try (refine gate_guard (by rfl) ?_; dsimp only)); at_builtin; refine Kd.R_append_rows k26 (w0 := w) w.heap.size rfl (.tmp 11) (.tmp 12) 22 26 (.agg #[(.int .i64 0), (.int .i64 0), (.int .u32 0), (.int .i64 0), (.int .i64 0), (.float .f64 0), (.float .f64 0), (.bool false), (.int .i64 0), (.int .i64 0), (.int .i64 0)]) 88 rfl Try.underlying22 info26 rfl (by decide) (by omega) v318 y317 l0 _ _ _ (fun _ => True) (fun _ => False) rfl rfl ?aO ?aR (fun _ _ h => h) (fun _ h => h.elim) ?aF ?aB ?aS ?aL ?_; (case aR => repeat (first | exact (Kd.C_below HR0.out HB.out) | (with_reducible refine Kd.C_alloc ?_ _) | (with_reducible refine Kd.C_drewN ?_ _) | (with_reducible refine Kd.C_drew ?_))); (case aB => exact (by exact h0q HB.out)); (case aF => exact (fun _ _ => trivial)); (case aO => exact (by exact rq HO319.out)); (case aS => exact (below_size (by exact h0q HB.out))); (case aL => have := LMc6.out; omega); intro v321 w82 ho hb hg hat; rw [← Ny320.out] at ho; have n0_ := Aside0.mk (hb); have n1_ := Aside0.mk (ho); clear HB; clear HO319; have HB := n0_; have HO322 := n1_; clear n0_ n1_; clear ho hb hg hat; obtain ⟨Ao83, co83, eo83⟩ := Kd.R_slice HO322.out; subst eo83) | ((with_reducible refine gate_callee (f := 7) rfl ?_); refine goesL_ (some 14) rfl rfl Try.func7 (by kernel_rfl) rfl #[.slice Ao83 y320.length co83] rfl (by (try simp only [List.map_toArray, List.map_cons, List.map_nil]); first | done | rfl | (simp only [List.length_drop, List.length_take]; rfl)) ?_; (with_reducible refine (order_Sort.calls k _ _ y320 t323 _ ?side1 ?side2 A7.out).mono ?_); (case side1 => repeat (first | exact (Kd.R_reads' HO322.out).2.2 | (with_reducible refine Kd.C_alloc ?_ _) | (with_reducible refine Kd.C_drewN ?_ _) | (with_reducible refine Kd.C_drew ?_))); (case side2 => exact (Kd.R_reads' HO322.out).2.1); rintro e w84 ⟨v324, rfl, ho0, hb⟩; refine ⟨_, rfl, ?_⟩; have n0_ := Aside0.mk (Kd.R_elder' (by exact rq HO322.out) (Kd.R_base ho0) hb); have n1_ := Aside0.mk (Kd.R_lower (Kd.R_new' ho0 (Kd.R_lt (by exact rq HO322.out))) (below_size (by exact h0q HB.out))); have n2_ := Aside0.mk (below_step (by exact h0q HB.out) hb); clear HO322; clear HB; have HO322 := n0_; have HO325 := n1_; have HB := n2_; clear n0_ n1_ n2_; (try clear hb); (try clear hb2); (try clear hk); (try clear hi); (try clear ho0); obtain ⟨Ao85, co85, eo85⟩ := Kd.R_slice HO325.out; subst eo85) | ((with_reducible refine gate_dst (N := 21) rfl ?_); (try (refine gate_guard (by rfl) ?_; dsimp only)); refine Kd.R_lit k26 _ 26 ?hg (N := 21) ?hd (xs := ([] : List (S26))) (inner := []) (ok := fun _ => True) (okp := fun _ => True) ?hr ?hp (fun _ hk => hk) trivial (Below.refl _ _) (Nat.le_refl _) (by simp) ?_; (case hd => rfl); (case hg => rfl); (case hr => first | (go_simp; done) | (go_simp; rfl)); (case hp => exact (Reps.none _ _)); intro v327 w86 ho87 hb hg_ hnew_; clear hg_ hnew_; (first | rw [← Ny326.out] at ho87 | (simp only [Int.reduceToNat] at ho87; rw [← Ny326.out] at ho87)); have n0_ := Aside0.mk (Kd.R_elder' (by exact rq HO322.out) (Kd.R_base ho87) hb); have n1_ := Aside0.mk (Kd.R_elder' (by exact rq HO325.out) (Kd.R_base ho87) hb); have n2_ := Aside0.mk (Kd.R_lower (Kd.R_new' (Kd.R_new' ho87 (Kd.R_lt (by exact rq HO322.out))) (Kd.R_lt (by exact rq HO325.out))) (below_size (by exact h0q HB.out))); have n3_ := Aside0.mk (below_step (by exact h0q HB.out) hb); clear HO322; clear HO325; clear HB; have HO322 := n0_; have HO325 := n1_; have HO328 := n2_; have HB := n3_; clear n0_ n1_ n2_ n3_; clear hb ho87) | ((with_reducible refine gate_builtin (b := .append) (xs := #[.tmp 21, .tmp 22]) rfl ?_); (try (refine gate_guard (by rfl) ?_; dsimp only)); at_builtin; refine Kd.R_append_rows k26 (w0 := w) w.heap.size rfl (.tmp 21) (.tmp 22) 22 26 (.agg #[(.int .i64 0), (.int .i64 0), (.int .u32 0), (.int .i64 0), (.int .i64 0), (.float .f64 0), (.float .f64 0), (.bool false), (.int .i64 0), (.int .i64 0), (.int .i64 0)]) 88 rfl Try.underlying22 info26 rfl (by decide) (by omega) v327 y326 t323 _ _ _ (fun k_ => some k_ ≠ (.slice Ao83 y320.length co83 : Value).ownBlock ∧ some k_ ≠ (.slice Ao85 t323.length co85 : Value).ownBlock) (fun _ => False) rfl rfl ?aO ?aR (fun _ _ h => h) (fun _ h => h.elim) ?aF ?aB ?aS ?aL ?_; (case aR => repeat (first | exact (Kd.R_reads' HO325.out).2.2 | (with_reducible refine Kd.C_alloc ?_ _) | (with_reducible refine Kd.C_drewN ?_ _) | (with_reducible refine Kd.C_drew ?_))); (case aB => exact (by exact h0q HB.out)); (case aF => exact (fun k_ hk => ⟨Kd.fresh' (Kd.R_lt (by exact rq HO322.out)) k_ hk, Kd.fresh' (Kd.R_lt (by exact rq HO325.out)) k_ hk⟩)); (case aO => exact (by (with_reducible repeat (first | apply Kd.R_alloc | apply Kd.R_drewN | apply Kd.R_drew)); exact Kd.R_mono HO328.out (fun _ hk => ⟨hk.1.2, hk.2⟩))); (case aS => exact (below_size (by exact h0q HB.out))); (case aL => have := LMc9.out; omega); intro v330 w88 ho hb hg hat; rw [← Ny329.out] at ho; have n0_ := Aside0.mk (Kd.R_after (ok := (fun k_ => some k_ ≠ (.slice Ao85 t323.length co85 : Value).ownBlock)) (by (with_reducible repeat (first | apply Kd.R_alloc | apply Kd.R_drewN | apply Kd.R_drew)); exact Kd.R_mono HO322.out (fun _ hk => ⟨hk.1.2, hk.2⟩)) hg hat); have n1_ := Aside0.mk (Kd.R_after (ok := (fun k_ => some k_ ≠ (.slice Ao83 y320.length co83 : Value).ownBlock)) (by (with_reducible repeat (first | apply Kd.R_alloc | apply Kd.R_drewN | apply Kd.R_drew)); exact Kd.R_mono HO325.out (fun _ hk => ⟨hk.1.2, hk.2⟩)) hg hat); have n2_ := Aside0.mk (hb); have n3_ := Aside0.mk (ho); clear HO322; clear HO325; clear HB; clear HO328; have HO322 := n0_; have HO325 := n1_; have HB := n2_; have HO331 := n3_; clear n0_ n1_ n2_ n3_; clear ho hb hg hat; obtain ⟨Ao89, co89, eo89⟩ := Kd.R_slice HO331.out; subst eo89) | (go_at_call 7; (with_reducible refine (order_Sort.calls k _ _ y329 t332 _ ?side1 ?side2 A10.out).mono ?_); (case side1 => repeat (first | exact (Kd.R_reads' HO331.out).2.2 | (with_reducible refine Kd.C_alloc ?_ _) | (with_reducible refine Kd.C_drewN ?_ _) | (with_reducible refine Kd.C_drew ?_))); (case side2 => exact (Kd.R_reads' HO331.out).2.1); rintro e w90 ⟨v333, rfl, ho0, hb⟩; have n0_ := Aside0.mk (Kd.R_elder' (by exact rq HO322.out) (Kd.R_base ho0) hb); have n1_ := Aside0.mk (Kd.R_elder' (by exact rq HO325.out) (Kd.R_base ho0) hb); have n2_ := Aside0.mk (Kd.R_elder' (by exact rq HO331.out) (Kd.R_base ho0) hb); have n3_ := Aside0.mk (Kd.R_lower (Kd.R_new' (Kd.R_new' (Kd.R_new' ho0 (Kd.R_lt (by exact rq HO322.out))) (Kd.R_lt (by exact rq HO325.out))) (Kd.R_lt (by exact rq HO331.out))) (below_size (by exact h0q HB.out))); have n4_ := Aside0.mk (below_step (by exact h0q HB.out) hb); clear HO322; clear HO325; clear HO331; clear HB; have HO322 := n0_; have HO325 := n1_; have HO331 := n2_; have HO334 := n3_; have HB := n4_; clear n0_ n1_ n2_ n3_ n4_; (try clear hb); (try clear hb2); (try clear hk); (try clear hi); (try clear ho0); obtain ⟨Ao91, co91, eo91⟩ := Kd.R_slice HO334.out; subst eo91) | (go_at_call 11; (with_reducible refine (annuitykeep_Events.calls k _ _ t332 _ _ t323 true _ ?side1 ?side2 ?side3 ?side4 A11.out).mono ?_); (case side1 => repeat (first | exact (Kd.R_reads' HO334.out).2.2 | (with_reducible refine Kd.C_alloc ?_ _) | (with_reducible refine Kd.C_drewN ?_ _) | (with_reducible refine Kd.C_drew ?_))); (case side2 => exact (Kd.R_reads' HO334.out).2.1); (case side3 => repeat (first | exact (Kd.R_reads' HO325.out).2.2 | (with_reducible refine Kd.C_alloc ?_ _) | (with_reducible refine Kd.C_drewN ?_ _) | (with_reducible refine Kd.C_drew ?_))); (case side4 => exact (Kd.R_reads' HO325.out).2.1); rintro e w92 ⟨rfl, hb⟩; have n0_ := Aside0.mk (Kd.R_below (by exact rq HO322.out) hb); have n1_ := Aside0.mk (Kd.R_below (by exact rq HO325.out) hb); have n2_ := Aside0.mk (Kd.R_below (by exact rq HO331.out) hb); have n3_ := Aside0.mk (Kd.R_below (by exact rq HO334.out) hb); have n4_ := Aside0.mk (below_step (by exact h0q HB.out) hb); clear HO322; clear HO325; clear HO331; clear HO334; clear HB; have HO322 := n0_; have HO325 := n1_; have HO331 := n2_; have HO334 := n3_; have HB := n4_; clear n0_ n1_ n2_ n3_ n4_; (try clear hb); (try clear hb2); (try clear hk); (try clear hi)))
               have n0_ := Aside0.mk (Kd.R_drew HO322.out)
               have n1_ := Aside0.mk (Kd.R_drew HO325.out)
               have n2_ := Aside0.mk (Kd.R_drew HO331.out)
               have n3_ := Aside0.mk (Kd.R_drew HO334.out)
               have n4_ := Aside0.mk (below_drew1 HB.out)
               clear HO322
               clear HO325
               clear HO331
               clear HO334
               clear HB
               have HO322 := n0_
               have HO325 := n1_
               have HO331 := n2_
               have HO334 := n3_
               have HB := n4_
               clear n0_ n1_ n2_ n3_ n4_
               have p337 : 0 ≤ ((ji15) : Int) := yd
               have q337 : (ji15) < (t323.length : Int) := yd
               obtain ⟨ad337, e337, hx337_0, hx337_1, hx337_2, hx337_3, hx337_4, hx337_5, hx337_6, hx337_7, hx337_8, hx337_9, hx337_10⟩ := at_T26 (Kd.R_reads' HO325.out).2.2 (ji15) p337 q337
               cases e337
               replace p337 := eq_true p337
               replace q337 := eq_true q337
               refine start_ (n := 22) (S := fun w' => w'.cell? (ad337.add (((ji15)).toNat * 11)) = some (.int .i64 ((rd_T26 t323 (ji15)).f0)) ∧ w'.cell? ⟨(ad337.add (((ji15)).toNat * 11)).block, (ad337.add (((ji15)).toNat * 11)).off + 1, none⟩ = some (.int .i64 ((rd_T26 t323 (ji15)).f1)) ∧ w'.cell? ⟨(ad337.add (((ji15)).toNat * 11)).block, (ad337.add (((ji15)).toNat * 11)).off + 2, none⟩ = some (.int .u32 ((rd_T26 t323 (ji15)).f2)) ∧ w'.cell? ⟨(ad337.add (((ji15)).toNat * 11)).block, (ad337.add (((ji15)).toNat * 11)).off + 3, none⟩ = some (.int .i64 ((rd_T26 t323 (ji15)).f3)) ∧ w'.cell? ⟨(ad337.add (((ji15)).toNat * 11)).block, (ad337.add (((ji15)).toNat * 11)).off + 4, none⟩ = some (.int .i64 ((rd_T26 t323 (ji15)).f4)) ∧ w'.cell? ⟨(ad337.add (((ji15)).toNat * 11)).block, (ad337.add (((ji15)).toNat * 11)).off + 5, none⟩ = some (.float .f64 ((rd_T26 t323 (ji15)).f5)) ∧ w'.cell? ⟨(ad337.add (((ji15)).toNat * 11)).block, (ad337.add (((ji15)).toNat * 11)).off + 6, none⟩ = some (.float .f64 ((rd_T26 t323 (ji15)).f6)) ∧ w'.cell? ⟨(ad337.add (((ji15)).toNat * 11)).block, (ad337.add (((ji15)).toNat * 11)).off + 7, none⟩ = some (.bool ((rd_T26 t323 (ji15)).f7)) ∧ w'.cell? ⟨(ad337.add (((ji15)).toNat * 11)).block, (ad337.add (((ji15)).toNat * 11)).off + 8, none⟩ = some (.int .i64 ((rd_T26 t323 (ji15)).f8)) ∧ w'.cell? ⟨(ad337.add (((ji15)).toNat * 11)).block, (ad337.add (((ji15)).toNat * 11)).off + 9, none⟩ = some (.int .i64 ((rd_T26 t323 (ji15)).f9)) ∧ w'.cell? ⟨(ad337.add (((ji15)).toNat * 11)).block, (ad337.add (((ji15)).toNat * 11)).off + 10, none⟩ = some (.int .i64 ((rd_T26 t323 (ji15)).f10))) (ds := []) (annuitylaw23_OrderLast.fl 22 0) (by kernel_rfl) rfl rfl ⟨hx337_0, hx337_1, hx337_2, hx337_3, hx337_4, hx337_5, hx337_6, hx337_7, hx337_8, hx337_9, hx337_10⟩ (fun hHeld => ?_); refine with_tabW annuitylaw23_OrderLast.tab6 annuitylaw23_OrderLast.bits6 (fun HT_ HW_ => ?_)
               generalize w92.drew = w93 at HO322 HO325 HO331 HO334 HB hx337_0 hx337_1 hx337_10 hx337_2 hx337_3 hx337_4 hx337_5 hx337_6 hx337_7 hx337_8 hx337_9 hHeld ⊢
               refine annuitylaw23_OrderLast.y 0 29 22 1 HT_.out ?_
               refine annuitylaw23_OrderLast.y 1 30 22 3 HT_.out ?_
               refine annuitylaw23_OrderLast.y 2 31 22 7 HT_.out ?_
               refine annuitylaw23_OrderLast.y 3 32 22 15 HT_.out ?_
               refine annuitylaw23_OrderLast.y 4 33 22 31 HT_.out ?_
               refine annuitylaw23_OrderLast.y 6 35 22 95 HT_.out ?_
               refine annuitylaw23_OrderLast.y 7 36 22 223 HT_.out ?_
               refine annuitylaw23_OrderLast.y 8 37 22 479 HT_.out ?_
               refine annuitylaw23_OrderLast.y 9 38 22 991 HT_.out ?_
               refine annuitylaw23_OrderLast.y 10 39 22 2015 HT_.out ?_
               refine annuitylaw23_OrderLast.y 11 40 22 4063 HT_.out ?_
               refine annuitylaw23_OrderLast.t 12 41 22 8159 HT_.out HW_.out hHeld ?_
               refine one_ (i := 5) (N := some 34) (annuitylaw23_OrderLast.fl 22 8191) rfl rfl (one_of HT_.out (by kernel_rfl)) (by decide) (fun K hK => ?_)
               refine goes_ Try.func16 (by kernel_rfl) rfl #[.slice (some ad337) t323.length co85] (by rfl) rfl rfl (by (try simp only [List.map_toArray, List.map_cons, List.map_nil]); first | done | rfl | (simp only [List.length_drop, List.length_take]; rfl)) ?_
               with_reducible refine (order_Last.calls k _ _ t323 t336 _ ?side1 ?side2 A14.out).mono ?_
               (case side1 => repeat (first | exact (Kd.R_reads' HO325.out).2.2 | (with_reducible refine Kd.C_alloc ?_ _) | (with_reducible refine Kd.C_drewN ?_ _) | (with_reducible refine Kd.C_drew ?_)))
               (case side2 => exact (Kd.R_reads' HO325.out).2.1)
               rintro e w94 ⟨rfl, hb⟩
               have HS0_ := hxb hb (hHeld.1)
               have HS1_ := hxb hb (hHeld.2.1)
               have HS2_ := hxb hb (hHeld.2.2.1)
               have HS3_ := hxb hb (hHeld.2.2.2.1)
               have HS4_ := hxb hb (hHeld.2.2.2.2.1)
               have HS5_ := hxb hb (hHeld.2.2.2.2.2.1)
               have HS6_ := hxb hb (hHeld.2.2.2.2.2.2.1)
               have HS7_ := hxb hb (hHeld.2.2.2.2.2.2.2.1)
               have HS8_ := hxb hb (hHeld.2.2.2.2.2.2.2.2.1)
               have HS9_ := hxb hb (hHeld.2.2.2.2.2.2.2.2.2.1)
               have HS10_ := hxb hb (hHeld.2.2.2.2.2.2.2.2.2.2)
               refine ⟨_, rfl, ?_⟩
               have n0_ := Aside0.mk (Kd.R_below (by exact rq HO322.out) hb)
               have n1_ := Aside0.mk (Kd.R_below (by exact rq HO325.out) hb)
               have n2_ := Aside0.mk (Kd.R_below (by exact rq HO331.out) hb)
               have n3_ := Aside0.mk (Kd.R_below (by exact rq HO334.out) hb)
               have n4_ := Aside0.mk (below_step (by exact h0q HB.out) hb)
               clear HO322
               clear HO325
               clear HO331
               clear HO334
               clear HB
               have HO322 := n0_
               have HO325 := n1_
               have HO331 := n2_
               have HO334 := n3_
               have HB := n4_
               clear n0_ n1_ n2_ n3_ n4_
               (try clear hb)
               (try clear hb2)
               (try clear hk)
               (try clear hi)
               refine hK.out _ _ ⟨HS0_, HS1_, HS2_, HS3_, HS4_, HS5_, HS6_, HS7_, HS8_, HS9_, HS10_⟩ (fun hHeld => ?_)
               clear hK K
               refine norm_ (a' := ?_) ?_ ?_
               rotate_left
               ·show Act.put _ (some 34) _ = _
                simp only [Act.put, List.setIfInBounds_toArray, List.set_cons_zero, List.set_cons_succ, i64_w, i32_w]
                rfl
               refine annuitylaw23_OrderLast.y 13 42 22 16383 HT_.out ?_
               refine annuitylaw23_OrderLast.y 14 43 22 32767 HT_.out ?_
               refine annuitylaw23_OrderLast.y 15 44 22 65535 HT_.out ?_
               refine annuitylaw23_OrderLast.y 17 46 22 196607 HT_.out ?_
               refine one_ (i := 16) (N := some 45) (annuitylaw23_OrderLast.fl 22 262143) rfl rfl (one_of HT_.out (by kernel_rfl)) (by decide) (fun K hK => ?_)
               refine goes_ Try.func16 (by kernel_rfl) rfl #[.slice A0 l0.length c0] (by rfl) rfl rfl (by (try simp only [List.map_toArray, List.map_cons, List.map_nil]); first | done | rfl | (simp only [List.length_drop, List.length_take]; rfl)) ?_
               with_reducible refine (order_Last.calls k _ _ l0 t338 _ ?side1 ?side2 A19.out).mono ?_
               (case side1 => repeat (first | exact (Kd.C_below HR0.out HB.out) | (with_reducible refine Kd.C_alloc ?_ _) | (with_reducible refine Kd.C_drewN ?_ _) | (with_reducible refine Kd.C_drew ?_)))
               (case side2 => exact HC0.out)
               rintro e w95 ⟨rfl, hb⟩
               have HS0_ := hxb hb (hHeld.1)
               have HS1_ := hxb hb (hHeld.2.1)
               have HS2_ := hxb hb (hHeld.2.2.1)
               have HS3_ := hxb hb (hHeld.2.2.2.1)
               have HS4_ := hxb hb (hHeld.2.2.2.2.1)
               have HS5_ := hxb hb (hHeld.2.2.2.2.2.1)
               have HS6_ := hxb hb (hHeld.2.2.2.2.2.2.1)
               have HS7_ := hxb hb (hHeld.2.2.2.2.2.2.2.1)
               have HS8_ := hxb hb (hHeld.2.2.2.2.2.2.2.2.1)
               have HS9_ := hxb hb (hHeld.2.2.2.2.2.2.2.2.2.1)
               have HS10_ := hxb hb (hHeld.2.2.2.2.2.2.2.2.2.2)
               refine ⟨_, rfl, ?_⟩
               have n0_ := Aside0.mk (Kd.R_below (by exact rq HO322.out) hb)
               have n1_ := Aside0.mk (Kd.R_below (by exact rq HO325.out) hb)
               have n2_ := Aside0.mk (Kd.R_below (by exact rq HO331.out) hb)
               have n3_ := Aside0.mk (Kd.R_below (by exact rq HO334.out) hb)
               have n4_ := Aside0.mk (below_step (by exact h0q HB.out) hb)
               clear HO322
               clear HO325
               clear HO331
               clear HO334
               clear HB
               have HO322 := n0_
               have HO325 := n1_
               have HO331 := n2_
               have HO334 := n3_
               have HB := n4_
               clear n0_ n1_ n2_ n3_ n4_
               (try clear hb)
               (try clear hb2)
               (try clear hk)
               (try clear hi)
               refine hK.out _ _ ⟨HS0_, HS1_, HS2_, HS3_, HS4_, HS5_, HS6_, HS7_, HS8_, HS9_, HS10_⟩ (fun hHeld => ?_)
               clear hK K
               refine norm_ (a' := ?_) ?_ ?_
               rotate_left
               ·show Act.put _ (some 45) _ = _
                simp only [Act.put, List.setIfInBounds_toArray, List.set_cons_zero, List.set_cons_succ, i64_w, i32_w]
                rfl
               refine one_ (i := 18) (N := some 47) (annuitylaw23_OrderLast.fl 22 524287) rfl rfl (one_of HT_.out (by kernel_rfl)) (by decide) (fun K hK => ?_)
               refine goes_ Try.func16 (by kernel_rfl) rfl #[.slice (some ad337) t323.length co85] (by rfl) rfl rfl (by (try simp only [List.map_toArray, List.map_cons, List.map_nil]); first | done | rfl | (simp only [List.length_drop, List.length_take]; rfl)) ?_
               with_reducible refine (order_Last.calls k _ _ t323 t339 _ ?side1 ?side2 A20.out).mono ?_
               (case side1 => repeat (first | exact (Kd.R_reads' HO325.out).2.2 | (with_reducible refine Kd.C_alloc ?_ _) | (with_reducible refine Kd.C_drewN ?_ _) | (with_reducible refine Kd.C_drew ?_)))
               (case side2 => exact (Kd.R_reads' HO325.out).2.1)
               rintro e w96 ⟨rfl, hb⟩
               have HS0_ := hxb hb (hHeld.1)
               have HS1_ := hxb hb (hHeld.2.1)
               have HS2_ := hxb hb (hHeld.2.2.1)
               have HS3_ := hxb hb (hHeld.2.2.2.1)
               have HS4_ := hxb hb (hHeld.2.2.2.2.1)
               have HS5_ := hxb hb (hHeld.2.2.2.2.2.1)
               have HS6_ := hxb hb (hHeld.2.2.2.2.2.2.1)
               have HS7_ := hxb hb (hHeld.2.2.2.2.2.2.2.1)
               have HS8_ := hxb hb (hHeld.2.2.2.2.2.2.2.2.1)
               have HS9_ := hxb hb (hHeld.2.2.2.2.2.2.2.2.2.1)
               have HS10_ := hxb hb (hHeld.2.2.2.2.2.2.2.2.2.2)
               refine ⟨_, rfl, ?_⟩
               have n0_ := Aside0.mk (Kd.R_below (by exact rq HO322.out) hb)
               have n1_ := Aside0.mk (Kd.R_below (by exact rq HO325.out) hb)
               have n2_ := Aside0.mk (Kd.R_below (by exact rq HO331.out) hb)
               have n3_ := Aside0.mk (Kd.R_below (by exact rq HO334.out) hb)
               have n4_ := Aside0.mk (below_step (by exact h0q HB.out) hb)
               clear HO322
               clear HO325
               clear HO331
               clear HO334
               clear HB
               have HO322 := n0_
               have HO325 := n1_
               have HO331 := n2_
               have HO334 := n3_
               have HB := n4_
               clear n0_ n1_ n2_ n3_ n4_
               (try clear hb)
               (try clear hb2)
               (try clear hk)
               (try clear hi)
               refine hK.out _ _ ⟨HS0_, HS1_, HS2_, HS3_, HS4_, HS5_, HS6_, HS7_, HS8_, HS9_, HS10_⟩ (fun hHeld => ?_)
               clear hK K
               refine norm_ (a' := ?_) ?_ ?_
               rotate_left
               ·show Act.put _ (some 47) _ = _
                simp only [Act.put, List.setIfInBounds_toArray, List.set_cons_zero, List.set_cons_succ, i64_w, i32_w]
                rfl
               refine annuitylaw23_OrderLast.y 19 48 22 1048575 HT_.out ?_
               refine annuitylaw23_OrderLast.y 20 49 22 2097151 HT_.out ?_
               refine annuitylaw23_OrderLast.y 21 50 22 4194303 HT_.out ?_
               refine done_ (done_of HT_.out (by kernel_rfl)) ?_
               try go_wp2_with (first | ((with_reducible refine gate_callee (f := 14) rfl ?_); refine goesL_ (some 53) rfl rfl Try.func14 (by kernel_rfl) rfl #[.slice (some ad337) t323.length co85, .int .u32 a1] rfl (by (try simp only [List.map_toArray, List.map_cons, List.map_nil]); first | done | rfl | (simp only [List.length_drop, List.length_take]; rfl)) ?_; (with_reducible refine (order_Find.calls k _ _ t323 a1 t340 _ ?side1 ?side2 A22.out).mono ?_); (case side1 => repeat (first | exact (Kd.R_reads' HO325.out).2.2 | (with_reducible refine Kd.C_alloc ?_ _) | (with_reducible refine Kd.C_drewN ?_ _) | (with_reducible refine Kd.C_drew ?_))); (case side2 => exact (Kd.R_reads' HO325.out).2.1); rintro e w97 ⟨rfl, hb⟩; refine ⟨_, rfl, ?_⟩; have n0_ := Aside0.mk (Kd.R_below (by exact rq HO322.out) hb); have n1_ := Aside0.mk (Kd.R_below (by exact rq HO325.out) hb); have n2_ := Aside0.mk (Kd.R_below (by exact rq HO331.out) hb); have n3_ := Aside0.mk (Kd.R_below (by exact rq HO334.out) hb); have n4_ := Aside0.mk (below_step (by exact h0q HB.out) hb); clear HO322; clear HO325; clear HO331; clear HO334; clear HB; have HO322 := n0_; have HO325 := n1_; have HO331 := n2_; have HO334 := n3_; have HB := n4_; clear n0_ n1_ n2_ n3_ n4_; (try clear hb); (try clear hb2); (try clear hk); (try clear hi)) | ((with_reducible refine gate_callee (f := 14) rfl ?_); refine goesL_ (some 75) rfl rfl Try.func14 (by kernel_rfl) rfl #[.slice A0 l0.length c0, .int .u32 a1] rfl (by (try simp only [List.map_toArray, List.map_cons, List.map_nil]); first | done | rfl | (simp only [List.length_drop, List.length_take]; rfl)) ?_; (with_reducible refine (order_Find.calls k _ _ l0 a1 t346 _ ?side1 ?side2 A76.out).mono ?_); (case side1 => repeat (first | exact (Kd.C_below HR0.out HB.out) | (with_reducible refine Kd.C_alloc ?_ _) | (with_reducible refine Kd.C_drewN ?_ _) | (with_reducible refine Kd.C_drew ?_))); (case side2 => exact HC0.out); rintro e w98 ⟨rfl, hb⟩; refine ⟨_, rfl, ?_⟩; have n0_ := Aside0.mk (Kd.R_below (by exact rq HO322.out) hb); have n1_ := Aside0.mk (Kd.R_below (by exact rq HO325.out) hb); have n2_ := Aside0.mk (Kd.R_below (by exact rq HO331.out) hb); have n3_ := Aside0.mk (Kd.R_below (by exact rq HO334.out) hb); have n4_ := Aside0.mk (below_step (by exact h0q HB.out) hb); clear HO322; clear HO325; clear HO331; clear HO334; clear HB; have HO322 := n0_; have HO325 := n1_; have HO331 := n2_; have HO334 := n3_; have HB := n4_; clear n0_ n1_ n2_ n3_ n4_; (try clear hb); (try clear hb2); (try clear hk); (try clear hi)) | (go_at_call 6; (with_reducible refine (annuitylaw23_wakes.calls k  t347 _ A79.out).mono ?_); rintro e w99 ⟨rfl, hb⟩; have n0_ := Aside0.mk (Kd.R_below (by exact rq HO322.out) hb); have n1_ := Aside0.mk (Kd.R_below (by exact rq HO325.out) hb); have n2_ := Aside0.mk (Kd.R_below (by exact rq HO331.out) hb); have n3_ := Aside0.mk (Kd.R_below (by exact rq HO334.out) hb); have n4_ := Aside0.mk (below_step (by exact h0q HB.out) hb); clear HO322; clear HO325; clear HO331; clear HO334; clear HB; have HO322 := n0_; have HO325 := n1_; have HO331 := n2_; have HO334 := n3_; have HB := n4_; clear n0_ n1_ n2_ n3_ n4_; (try clear hb); (try clear hb2); (try clear hk); (try clear hi)))
               go_ret
               exact ⟨by first | rfl | (simp [errW_none, errW_some] <;> rfl) | (simp only [← hji15]; first | rfl | (simp [errW_none, errW_some] <;> rfl)) | (simp [*, errW_none, errW_some] <;> rfl), by exact h0q HB.out⟩
              ·rw [if_neg c78] at H
               have c78b0 : decide (0 < (l0.length : Int)) = false := decide_eq_false c78
               have c78b1 : decide (0 < l0.length) = false := decide_eq_false (by omega)
               clear c78
               replace H := Option.bind_eq_some_iff.mp H
               obtain ⟨t348, A1000, H⟩ := H
               replace H : (if t348 = (-1) then ((annuitylaw23_wakes.f k).bind fun t349 => (some t349)) else (none)) = some r := H
               have A100 := Aside0.mk A1000
               clear A1000
               by_cases c101 : t348 = (-1)
               ·rw [if_pos c101] at H
                have c101b0 : (t348 == (-1)) = true := beq_iff_eq.mpr c101
                have c101b1 : (t348 != (-1)) = false := bne_eq_false_iff_eq.mpr c101
                clear c101
                replace H := Option.bind_eq_some_iff.mp H
                obtain ⟨t349, A1020, H⟩ := H
                replace H : (some t349) = some r := H
                have A102 := Aside0.mk A1020
                clear A1020
                obtain rfl := Option.some.inj H
                go_enter Try.func5, Try.ntmps5
                try go_wp2_with (first | ((with_reducible refine gate_dst (N := 11) rfl ?_); (try (refine gate_guard (by rfl) ?_; dsimp only)); refine Kd.R_lit k26 _ 26 ?hg (N := 11) ?hd (xs := ([] : List (S26))) (inner := []) (ok := fun _ => True) (okp := fun _ => True) ?hr ?hp (fun _ hk => hk) trivial (Below.refl _ _) (Nat.le_refl _) (by simp) ?_; (case hd => rfl); (case hg => rfl); (case hr => first | (go_simp; done) | (go_simp; rfl)); (case hp => exact (Reps.none _ _)); intro v318 w103 ho104 hb hg_ hnew_; clear hg_ hnew_; (first | rw [← Ny317.out] at ho104 | (simp only [Int.reduceToNat] at ho104; rw [← Ny317.out] at ho104)); have n0_ := Aside0.mk (Kd.R_lower ho104 (below_size (by exact h0q HB.out))); have n1_ := Aside0.mk (below_step (by exact h0q HB.out) hb); clear HB; have HO319 := n0_; have HB := n1_; clear n0_ n1_; clear hb ho104) | ((with_reducible refine gate_builtin (b := .append) (xs := #[.tmp 11, .tmp 12]) rfl ?_); (try (refine gate_guard (by rfl) ?_; dsimp only)); at_builtin; refine Kd.R_append_rows k26 (w0 := w) w.heap.size rfl (.tmp 11) (.tmp 12) 22 26 (.agg #[(.int .i64 0), (.int .i64 0), (.int .u32 0), (.int .i64 0), (.int .i64 0), (.float .f64 0), (.float .f64 0), (.bool false), (.int .i64 0), (.int .i64 0), (.int .i64 0)]) 88 rfl Try.underlying22 info26 rfl (by decide) (by omega) v318 y317 l0 _ _ _ (fun _ => True) (fun _ => False) rfl rfl ?aO ?aR (fun _ _ h => h) (fun _ h => h.elim) ?aF ?aB ?aS ?aL ?_; (case aR => repeat (first | exact (Kd.C_below HR0.out HB.out) | (with_reducible refine Kd.C_alloc ?_ _) | (with_reducible refine Kd.C_drewN ?_ _) | (with_reducible refine Kd.C_drew ?_))); (case aB => exact (by exact h0q HB.out)); (case aF => exact (fun _ _ => trivial)); (case aO => exact (by exact rq HO319.out)); (case aS => exact (below_size (by exact h0q HB.out))); (case aL => have := LMc6.out; omega); intro v321 w105 ho hb hg hat; rw [← Ny320.out] at ho; have n0_ := Aside0.mk (hb); have n1_ := Aside0.mk (ho); clear HB; clear HO319; have HB := n0_; have HO322 := n1_; clear n0_ n1_; clear ho hb hg hat; obtain ⟨Ao106, co106, eo106⟩ := Kd.R_slice HO322.out; subst eo106) | ((with_reducible refine gate_callee (f := 7) rfl ?_); refine goesL_ (some 14) rfl rfl Try.func7 (by kernel_rfl) rfl #[.slice Ao106 y320.length co106] rfl (by (try simp only [List.map_toArray, List.map_cons, List.map_nil]); first | done | rfl | (simp only [List.length_drop, List.length_take]; rfl)) ?_; (with_reducible refine (order_Sort.calls k _ _ y320 t323 _ ?side1 ?side2 A7.out).mono ?_); (case side1 => repeat (first | exact (Kd.R_reads' HO322.out).2.2 | (with_reducible refine Kd.C_alloc ?_ _) | (with_reducible refine Kd.C_drewN ?_ _) | (with_reducible refine Kd.C_drew ?_))); (case side2 => exact (Kd.R_reads' HO322.out).2.1); rintro e w107 ⟨v324, rfl, ho0, hb⟩; refine ⟨_, rfl, ?_⟩; have n0_ := Aside0.mk (Kd.R_elder' (by exact rq HO322.out) (Kd.R_base ho0) hb); have n1_ := Aside0.mk (Kd.R_lower (Kd.R_new' ho0 (Kd.R_lt (by exact rq HO322.out))) (below_size (by exact h0q HB.out))); have n2_ := Aside0.mk (below_step (by exact h0q HB.out) hb); clear HO322; clear HB; have HO322 := n0_; have HO325 := n1_; have HB := n2_; clear n0_ n1_ n2_; (try clear hb); (try clear hb2); (try clear hk); (try clear hi); (try clear ho0); obtain ⟨Ao108, co108, eo108⟩ := Kd.R_slice HO325.out; subst eo108) | ((with_reducible refine gate_dst (N := 21) rfl ?_); (try (refine gate_guard (by rfl) ?_; dsimp only)); refine Kd.R_lit k26 _ 26 ?hg (N := 21) ?hd (xs := ([] : List (S26))) (inner := []) (ok := fun _ => True) (okp := fun _ => True) ?hr ?hp (fun _ hk => hk) trivial (Below.refl _ _) (Nat.le_refl _) (by simp) ?_; (case hd => rfl); (case hg => rfl); (case hr => first | (go_simp; done) | (go_simp; rfl)); (case hp => exact (Reps.none _ _)); intro v327 w109 ho110 hb hg_ hnew_; clear hg_ hnew_; (first | rw [← Ny326.out] at ho110 | (simp only [Int.reduceToNat] at ho110; rw [← Ny326.out] at ho110)); have n0_ := Aside0.mk (Kd.R_elder' (by exact rq HO322.out) (Kd.R_base ho110) hb); have n1_ := Aside0.mk (Kd.R_elder' (by exact rq HO325.out) (Kd.R_base ho110) hb); have n2_ := Aside0.mk (Kd.R_lower (Kd.R_new' (Kd.R_new' ho110 (Kd.R_lt (by exact rq HO322.out))) (Kd.R_lt (by exact rq HO325.out))) (below_size (by exact h0q HB.out))); have n3_ := Aside0.mk (below_step (by exact h0q HB.out) hb); clear HO322; clear HO325; clear HB; have HO322 := n0_; have HO325 := n1_; have HO328 := n2_; have HB := n3_; clear n0_ n1_ n2_ n3_; clear hb ho110) | ((with_reducible refine gate_builtin (b := .append) (xs := #[.tmp 21, .tmp 22]) rfl ?_); (try (refine gate_guard (by rfl) ?_; dsimp only)); at_builtin; refine Kd.R_append_rows k26 (w0 := w) w.heap.size rfl (.tmp 21) (.tmp 22) 22 26 (.agg #[(.int .i64 0), (.int .i64 0), (.int .u32 0), (.int .i64 0), (.int .i64 0), (.float .f64 0), (.float .f64 0), (.bool false), (.int .i64 0), (.int .i64 0), (.int .i64 0)]) 88 rfl Try.underlying22 info26 rfl (by decide) (by omega) v327 y326 t323 _ _ _ (fun k_ => some k_ ≠ (.slice Ao106 y320.length co106 : Value).ownBlock ∧ some k_ ≠ (.slice Ao108 t323.length co108 : Value).ownBlock) (fun _ => False) rfl rfl ?aO ?aR (fun _ _ h => h) (fun _ h => h.elim) ?aF ?aB ?aS ?aL ?_; (case aR => repeat (first | exact (Kd.R_reads' HO325.out).2.2 | (with_reducible refine Kd.C_alloc ?_ _) | (with_reducible refine Kd.C_drewN ?_ _) | (with_reducible refine Kd.C_drew ?_))); (case aB => exact (by exact h0q HB.out)); (case aF => exact (fun k_ hk => ⟨Kd.fresh' (Kd.R_lt (by exact rq HO322.out)) k_ hk, Kd.fresh' (Kd.R_lt (by exact rq HO325.out)) k_ hk⟩)); (case aO => exact (by (with_reducible repeat (first | apply Kd.R_alloc | apply Kd.R_drewN | apply Kd.R_drew)); exact Kd.R_mono HO328.out (fun _ hk => ⟨hk.1.2, hk.2⟩))); (case aS => exact (below_size (by exact h0q HB.out))); (case aL => have := LMc9.out; omega); intro v330 w111 ho hb hg hat; rw [← Ny329.out] at ho; have n0_ := Aside0.mk (Kd.R_after (ok := (fun k_ => some k_ ≠ (.slice Ao108 t323.length co108 : Value).ownBlock)) (by (with_reducible repeat (first | apply Kd.R_alloc | apply Kd.R_drewN | apply Kd.R_drew)); exact Kd.R_mono HO322.out (fun _ hk => ⟨hk.1.2, hk.2⟩)) hg hat); have n1_ := Aside0.mk (Kd.R_after (ok := (fun k_ => some k_ ≠ (.slice Ao106 y320.length co106 : Value).ownBlock)) (by (with_reducible repeat (first | apply Kd.R_alloc | apply Kd.R_drewN | apply Kd.R_drew)); exact Kd.R_mono HO325.out (fun _ hk => ⟨hk.1.2, hk.2⟩)) hg hat); have n2_ := Aside0.mk (hb); have n3_ := Aside0.mk (ho); clear HO322; clear HO325; clear HB; clear HO328; have HO322 := n0_; have HO325 := n1_; have HB := n2_; have HO331 := n3_; clear n0_ n1_ n2_ n3_; clear ho hb hg hat; obtain ⟨Ao112, co112, eo112⟩ := Kd.R_slice HO331.out; subst eo112) | (go_at_call 7; (with_reducible refine (order_Sort.calls k _ _ y329 t332 _ ?side1 ?side2 A10.out).mono ?_); (case side1 => repeat (first | exact (Kd.R_reads' HO331.out).2.2 | (with_reducible refine Kd.C_alloc ?_ _) | (with_reducible refine Kd.C_drewN ?_ _) | (with_reducible refine Kd.C_drew ?_))); (case side2 => exact (Kd.R_reads' HO331.out).2.1); rintro e w113 ⟨v333, rfl, ho0, hb⟩; have n0_ := Aside0.mk (Kd.R_elder' (by exact rq HO322.out) (Kd.R_base ho0) hb); have n1_ := Aside0.mk (Kd.R_elder' (by exact rq HO325.out) (Kd.R_base ho0) hb); have n2_ := Aside0.mk (Kd.R_elder' (by exact rq HO331.out) (Kd.R_base ho0) hb); have n3_ := Aside0.mk (Kd.R_lower (Kd.R_new' (Kd.R_new' (Kd.R_new' ho0 (Kd.R_lt (by exact rq HO322.out))) (Kd.R_lt (by exact rq HO325.out))) (Kd.R_lt (by exact rq HO331.out))) (below_size (by exact h0q HB.out))); have n4_ := Aside0.mk (below_step (by exact h0q HB.out) hb); clear HO322; clear HO325; clear HO331; clear HB; have HO322 := n0_; have HO325 := n1_; have HO331 := n2_; have HO334 := n3_; have HB := n4_; clear n0_ n1_ n2_ n3_ n4_; (try clear hb); (try clear hb2); (try clear hk); (try clear hi); (try clear ho0); obtain ⟨Ao114, co114, eo114⟩ := Kd.R_slice HO334.out; subst eo114) | (go_at_call 11; (with_reducible refine (annuitykeep_Events.calls k _ _ t332 _ _ t323 true _ ?side1 ?side2 ?side3 ?side4 A11.out).mono ?_); (case side1 => repeat (first | exact (Kd.R_reads' HO334.out).2.2 | (with_reducible refine Kd.C_alloc ?_ _) | (with_reducible refine Kd.C_drewN ?_ _) | (with_reducible refine Kd.C_drew ?_))); (case side2 => exact (Kd.R_reads' HO334.out).2.1); (case side3 => repeat (first | exact (Kd.R_reads' HO325.out).2.2 | (with_reducible refine Kd.C_alloc ?_ _) | (with_reducible refine Kd.C_drewN ?_ _) | (with_reducible refine Kd.C_drew ?_))); (case side4 => exact (Kd.R_reads' HO325.out).2.1); rintro e w115 ⟨rfl, hb⟩; have n0_ := Aside0.mk (Kd.R_below (by exact rq HO322.out) hb); have n1_ := Aside0.mk (Kd.R_below (by exact rq HO325.out) hb); have n2_ := Aside0.mk (Kd.R_below (by exact rq HO331.out) hb); have n3_ := Aside0.mk (Kd.R_below (by exact rq HO334.out) hb); have n4_ := Aside0.mk (below_step (by exact h0q HB.out) hb); clear HO322; clear HO325; clear HO331; clear HO334; clear HB; have HO322 := n0_; have HO325 := n1_; have HO331 := n2_; have HO334 := n3_; have HB := n4_; clear n0_ n1_ n2_ n3_ n4_; (try clear hb); (try clear hb2); (try clear hk); (try clear hi)))
                have n0_ := Aside0.mk (Kd.R_drew HO322.out)
                have n1_ := Aside0.mk (Kd.R_drew HO325.out)
                have n2_ := Aside0.mk (Kd.R_drew HO331.out)
                have n3_ := Aside0.mk (Kd.R_drew HO334.out)
                have n4_ := Aside0.mk (below_drew1 HB.out)
                clear HO322
                clear HO325
                clear HO331
                clear HO334
                clear HB
                have HO322 := n0_
                have HO325 := n1_
                have HO331 := n2_
                have HO334 := n3_
                have HB := n4_
                clear n0_ n1_ n2_ n3_ n4_
                have p337 : 0 ≤ ((ji15) : Int) := yd
                have q337 : (ji15) < (t323.length : Int) := yd
                obtain ⟨ad337, e337, hx337_0, hx337_1, hx337_2, hx337_3, hx337_4, hx337_5, hx337_6, hx337_7, hx337_8, hx337_9, hx337_10⟩ := at_T26 (Kd.R_reads' HO325.out).2.2 (ji15) p337 q337
                cases e337
                replace p337 := eq_true p337
                replace q337 := eq_true q337
                refine start_ (n := 22) (S := fun w' => w'.cell? (ad337.add (((ji15)).toNat * 11)) = some (.int .i64 ((rd_T26 t323 (ji15)).f0)) ∧ w'.cell? ⟨(ad337.add (((ji15)).toNat * 11)).block, (ad337.add (((ji15)).toNat * 11)).off + 1, none⟩ = some (.int .i64 ((rd_T26 t323 (ji15)).f1)) ∧ w'.cell? ⟨(ad337.add (((ji15)).toNat * 11)).block, (ad337.add (((ji15)).toNat * 11)).off + 2, none⟩ = some (.int .u32 ((rd_T26 t323 (ji15)).f2)) ∧ w'.cell? ⟨(ad337.add (((ji15)).toNat * 11)).block, (ad337.add (((ji15)).toNat * 11)).off + 3, none⟩ = some (.int .i64 ((rd_T26 t323 (ji15)).f3)) ∧ w'.cell? ⟨(ad337.add (((ji15)).toNat * 11)).block, (ad337.add (((ji15)).toNat * 11)).off + 4, none⟩ = some (.int .i64 ((rd_T26 t323 (ji15)).f4)) ∧ w'.cell? ⟨(ad337.add (((ji15)).toNat * 11)).block, (ad337.add (((ji15)).toNat * 11)).off + 5, none⟩ = some (.float .f64 ((rd_T26 t323 (ji15)).f5)) ∧ w'.cell? ⟨(ad337.add (((ji15)).toNat * 11)).block, (ad337.add (((ji15)).toNat * 11)).off + 6, none⟩ = some (.float .f64 ((rd_T26 t323 (ji15)).f6)) ∧ w'.cell? ⟨(ad337.add (((ji15)).toNat * 11)).block, (ad337.add (((ji15)).toNat * 11)).off + 7, none⟩ = some (.bool ((rd_T26 t323 (ji15)).f7)) ∧ w'.cell? ⟨(ad337.add (((ji15)).toNat * 11)).block, (ad337.add (((ji15)).toNat * 11)).off + 8, none⟩ = some (.int .i64 ((rd_T26 t323 (ji15)).f8)) ∧ w'.cell? ⟨(ad337.add (((ji15)).toNat * 11)).block, (ad337.add (((ji15)).toNat * 11)).off + 9, none⟩ = some (.int .i64 ((rd_T26 t323 (ji15)).f9)) ∧ w'.cell? ⟨(ad337.add (((ji15)).toNat * 11)).block, (ad337.add (((ji15)).toNat * 11)).off + 10, none⟩ = some (.int .i64 ((rd_T26 t323 (ji15)).f10))) (ds := []) (annuitylaw23_OrderLast.fl 22 0) (by kernel_rfl) rfl rfl ⟨hx337_0, hx337_1, hx337_2, hx337_3, hx337_4, hx337_5, hx337_6, hx337_7, hx337_8, hx337_9, hx337_10⟩ (fun hHeld => ?_); refine with_tabW annuitylaw23_OrderLast.tab6 annuitylaw23_OrderLast.bits6 (fun HT_ HW_ => ?_)
                generalize w115.drew = w116 at HO322 HO325 HO331 HO334 HB hx337_0 hx337_1 hx337_10 hx337_2 hx337_3 hx337_4 hx337_5 hx337_6 hx337_7 hx337_8 hx337_9 hHeld ⊢
                refine annuitylaw23_OrderLast.y 0 29 22 1 HT_.out ?_
                refine annuitylaw23_OrderLast.y 1 30 22 3 HT_.out ?_
                refine annuitylaw23_OrderLast.y 2 31 22 7 HT_.out ?_
                refine annuitylaw23_OrderLast.y 3 32 22 15 HT_.out ?_
                refine annuitylaw23_OrderLast.y 4 33 22 31 HT_.out ?_
                refine annuitylaw23_OrderLast.y 6 35 22 95 HT_.out ?_
                refine annuitylaw23_OrderLast.y 7 36 22 223 HT_.out ?_
                refine annuitylaw23_OrderLast.y 8 37 22 479 HT_.out ?_
                refine annuitylaw23_OrderLast.y 9 38 22 991 HT_.out ?_
                refine annuitylaw23_OrderLast.y 10 39 22 2015 HT_.out ?_
                refine annuitylaw23_OrderLast.y 11 40 22 4063 HT_.out ?_
                refine annuitylaw23_OrderLast.t 12 41 22 8159 HT_.out HW_.out hHeld ?_
                refine one_ (i := 5) (N := some 34) (annuitylaw23_OrderLast.fl 22 8191) rfl rfl (one_of HT_.out (by kernel_rfl)) (by decide) (fun K hK => ?_)
                refine goes_ Try.func16 (by kernel_rfl) rfl #[.slice (some ad337) t323.length co108] (by rfl) rfl rfl (by (try simp only [List.map_toArray, List.map_cons, List.map_nil]); first | done | rfl | (simp only [List.length_drop, List.length_take]; rfl)) ?_
                with_reducible refine (order_Last.calls k _ _ t323 t336 _ ?side1 ?side2 A14.out).mono ?_
                (case side1 => repeat (first | exact (Kd.R_reads' HO325.out).2.2 | (with_reducible refine Kd.C_alloc ?_ _) | (with_reducible refine Kd.C_drewN ?_ _) | (with_reducible refine Kd.C_drew ?_)))
                (case side2 => exact (Kd.R_reads' HO325.out).2.1)
                rintro e w117 ⟨rfl, hb⟩
                have HS0_ := hxb hb (hHeld.1)
                have HS1_ := hxb hb (hHeld.2.1)
                have HS2_ := hxb hb (hHeld.2.2.1)
                have HS3_ := hxb hb (hHeld.2.2.2.1)
                have HS4_ := hxb hb (hHeld.2.2.2.2.1)
                have HS5_ := hxb hb (hHeld.2.2.2.2.2.1)
                have HS6_ := hxb hb (hHeld.2.2.2.2.2.2.1)
                have HS7_ := hxb hb (hHeld.2.2.2.2.2.2.2.1)
                have HS8_ := hxb hb (hHeld.2.2.2.2.2.2.2.2.1)
                have HS9_ := hxb hb (hHeld.2.2.2.2.2.2.2.2.2.1)
                have HS10_ := hxb hb (hHeld.2.2.2.2.2.2.2.2.2.2)
                refine ⟨_, rfl, ?_⟩
                have n0_ := Aside0.mk (Kd.R_below (by exact rq HO322.out) hb)
                have n1_ := Aside0.mk (Kd.R_below (by exact rq HO325.out) hb)
                have n2_ := Aside0.mk (Kd.R_below (by exact rq HO331.out) hb)
                have n3_ := Aside0.mk (Kd.R_below (by exact rq HO334.out) hb)
                have n4_ := Aside0.mk (below_step (by exact h0q HB.out) hb)
                clear HO322
                clear HO325
                clear HO331
                clear HO334
                clear HB
                have HO322 := n0_
                have HO325 := n1_
                have HO331 := n2_
                have HO334 := n3_
                have HB := n4_
                clear n0_ n1_ n2_ n3_ n4_
                (try clear hb)
                (try clear hb2)
                (try clear hk)
                (try clear hi)
                refine hK.out _ _ ⟨HS0_, HS1_, HS2_, HS3_, HS4_, HS5_, HS6_, HS7_, HS8_, HS9_, HS10_⟩ (fun hHeld => ?_)
                clear hK K
                refine norm_ (a' := ?_) ?_ ?_
                rotate_left
                ·show Act.put _ (some 34) _ = _
                 simp only [Act.put, List.setIfInBounds_toArray, List.set_cons_zero, List.set_cons_succ, i64_w, i32_w]
                 rfl
                refine annuitylaw23_OrderLast.y 13 42 22 16383 HT_.out ?_
                refine annuitylaw23_OrderLast.y 14 43 22 32767 HT_.out ?_
                refine annuitylaw23_OrderLast.y 15 44 22 65535 HT_.out ?_
                refine annuitylaw23_OrderLast.y 17 46 22 196607 HT_.out ?_
                refine one_ (i := 16) (N := some 45) (annuitylaw23_OrderLast.fl 22 262143) rfl rfl (one_of HT_.out (by kernel_rfl)) (by decide) (fun K hK => ?_)
                refine goes_ Try.func16 (by kernel_rfl) rfl #[.slice A0 l0.length c0] (by rfl) rfl rfl (by (try simp only [List.map_toArray, List.map_cons, List.map_nil]); first | done | rfl | (simp only [List.length_drop, List.length_take]; rfl)) ?_
                with_reducible refine (order_Last.calls k _ _ l0 t338 _ ?side1 ?side2 A19.out).mono ?_
                (case side1 => repeat (first | exact (Kd.C_below HR0.out HB.out) | (with_reducible refine Kd.C_alloc ?_ _) | (with_reducible refine Kd.C_drewN ?_ _) | (with_reducible refine Kd.C_drew ?_)))
                (case side2 => exact HC0.out)
                rintro e w118 ⟨rfl, hb⟩
                have HS0_ := hxb hb (hHeld.1)
                have HS1_ := hxb hb (hHeld.2.1)
                have HS2_ := hxb hb (hHeld.2.2.1)
                have HS3_ := hxb hb (hHeld.2.2.2.1)
                have HS4_ := hxb hb (hHeld.2.2.2.2.1)
                have HS5_ := hxb hb (hHeld.2.2.2.2.2.1)
                have HS6_ := hxb hb (hHeld.2.2.2.2.2.2.1)
                have HS7_ := hxb hb (hHeld.2.2.2.2.2.2.2.1)
                have HS8_ := hxb hb (hHeld.2.2.2.2.2.2.2.2.1)
                have HS9_ := hxb hb (hHeld.2.2.2.2.2.2.2.2.2.1)
                have HS10_ := hxb hb (hHeld.2.2.2.2.2.2.2.2.2.2)
                refine ⟨_, rfl, ?_⟩
                have n0_ := Aside0.mk (Kd.R_below (by exact rq HO322.out) hb)
                have n1_ := Aside0.mk (Kd.R_below (by exact rq HO325.out) hb)
                have n2_ := Aside0.mk (Kd.R_below (by exact rq HO331.out) hb)
                have n3_ := Aside0.mk (Kd.R_below (by exact rq HO334.out) hb)
                have n4_ := Aside0.mk (below_step (by exact h0q HB.out) hb)
                clear HO322
                clear HO325
                clear HO331
                clear HO334
                clear HB
                have HO322 := n0_
                have HO325 := n1_
                have HO331 := n2_
                have HO334 := n3_
                have HB := n4_
                clear n0_ n1_ n2_ n3_ n4_
                (try clear hb)
                (try clear hb2)
                (try clear hk)
                (try clear hi)
                refine hK.out _ _ ⟨HS0_, HS1_, HS2_, HS3_, HS4_, HS5_, HS6_, HS7_, HS8_, HS9_, HS10_⟩ (fun hHeld => ?_)
                clear hK K
                refine norm_ (a' := ?_) ?_ ?_
                rotate_left
                ·show Act.put _ (some 45) _ = _
                 simp only [Act.put, List.setIfInBounds_toArray, List.set_cons_zero, List.set_cons_succ, i64_w, i32_w]
                 rfl
                refine one_ (i := 18) (N := some 47) (annuitylaw23_OrderLast.fl 22 524287) rfl rfl (one_of HT_.out (by kernel_rfl)) (by decide) (fun K hK => ?_)
                refine goes_ Try.func16 (by kernel_rfl) rfl #[.slice (some ad337) t323.length co108] (by rfl) rfl rfl (by (try simp only [List.map_toArray, List.map_cons, List.map_nil]); first | done | rfl | (simp only [List.length_drop, List.length_take]; rfl)) ?_
                with_reducible refine (order_Last.calls k _ _ t323 t339 _ ?side1 ?side2 A20.out).mono ?_
                (case side1 => repeat (first | exact (Kd.R_reads' HO325.out).2.2 | (with_reducible refine Kd.C_alloc ?_ _) | (with_reducible refine Kd.C_drewN ?_ _) | (with_reducible refine Kd.C_drew ?_)))
                (case side2 => exact (Kd.R_reads' HO325.out).2.1)
                rintro e w119 ⟨rfl, hb⟩
                have HS0_ := hxb hb (hHeld.1)
                have HS1_ := hxb hb (hHeld.2.1)
                have HS2_ := hxb hb (hHeld.2.2.1)
                have HS3_ := hxb hb (hHeld.2.2.2.1)
                have HS4_ := hxb hb (hHeld.2.2.2.2.1)
                have HS5_ := hxb hb (hHeld.2.2.2.2.2.1)
                have HS6_ := hxb hb (hHeld.2.2.2.2.2.2.1)
                have HS7_ := hxb hb (hHeld.2.2.2.2.2.2.2.1)
                have HS8_ := hxb hb (hHeld.2.2.2.2.2.2.2.2.1)
                have HS9_ := hxb hb (hHeld.2.2.2.2.2.2.2.2.2.1)
                have HS10_ := hxb hb (hHeld.2.2.2.2.2.2.2.2.2.2)
                refine ⟨_, rfl, ?_⟩
                have n0_ := Aside0.mk (Kd.R_below (by exact rq HO322.out) hb)
                have n1_ := Aside0.mk (Kd.R_below (by exact rq HO325.out) hb)
                have n2_ := Aside0.mk (Kd.R_below (by exact rq HO331.out) hb)
                have n3_ := Aside0.mk (Kd.R_below (by exact rq HO334.out) hb)
                have n4_ := Aside0.mk (below_step (by exact h0q HB.out) hb)
                clear HO322
                clear HO325
                clear HO331
                clear HO334
                clear HB
                have HO322 := n0_
                have HO325 := n1_
                have HO331 := n2_
                have HO334 := n3_
                have HB := n4_
                clear n0_ n1_ n2_ n3_ n4_
                (try clear hb)
                (try clear hb2)
                (try clear hk)
                (try clear hi)
                refine hK.out _ _ ⟨HS0_, HS1_, HS2_, HS3_, HS4_, HS5_, HS6_, HS7_, HS8_, HS9_, HS10_⟩ (fun hHeld => ?_)
                clear hK K
                refine norm_ (a' := ?_) ?_ ?_
                rotate_left
                ·show Act.put _ (some 47) _ = _
                 simp only [Act.put, List.setIfInBounds_toArray, List.set_cons_zero, List.set_cons_succ, i64_w, i32_w]
                 rfl
                refine annuitylaw23_OrderLast.y 19 48 22 1048575 HT_.out ?_
                refine annuitylaw23_OrderLast.y 20 49 22 2097151 HT_.out ?_
                refine annuitylaw23_OrderLast.y 21 50 22 4194303 HT_.out ?_
                refine done_ (done_of HT_.out (by kernel_rfl)) ?_
                try go_wp2_with (first | ((with_reducible refine gate_callee (f := 14) rfl ?_); refine goesL_ (some 53) rfl rfl Try.func14 (by kernel_rfl) rfl #[.slice (some ad337) t323.length co108, .int .u32 a1] rfl (by (try simp only [List.map_toArray, List.map_cons, List.map_nil]); first | done | rfl | (simp only [List.length_drop, List.length_take]; rfl)) ?_; (with_reducible refine (order_Find.calls k _ _ t323 a1 t340 _ ?side1 ?side2 A22.out).mono ?_); (case side1 => repeat (first | exact (Kd.R_reads' HO325.out).2.2 | (with_reducible refine Kd.C_alloc ?_ _) | (with_reducible refine Kd.C_drewN ?_ _) | (with_reducible refine Kd.C_drew ?_))); (case side2 => exact (Kd.R_reads' HO325.out).2.1); rintro e w120 ⟨rfl, hb⟩; refine ⟨_, rfl, ?_⟩; have n0_ := Aside0.mk (Kd.R_below (by exact rq HO322.out) hb); have n1_ := Aside0.mk (Kd.R_below (by exact rq HO325.out) hb); have n2_ := Aside0.mk (Kd.R_below (by exact rq HO331.out) hb); have n3_ := Aside0.mk (Kd.R_below (by exact rq HO334.out) hb); have n4_ := Aside0.mk (below_step (by exact h0q HB.out) hb); clear HO322; clear HO325; clear HO331; clear HO334; clear HB; have HO322 := n0_; have HO325 := n1_; have HO331 := n2_; have HO334 := n3_; have HB := n4_; clear n0_ n1_ n2_ n3_ n4_; (try clear hb); (try clear hb2); (try clear hk); (try clear hi)) | ((with_reducible refine gate_callee (f := 14) rfl ?_); refine goesL_ (some 75) rfl rfl Try.func14 (by kernel_rfl) rfl #[.slice A0 l0.length c0, .int .u32 a1] rfl (by (try simp only [List.map_toArray, List.map_cons, List.map_nil]); first | done | rfl | (simp only [List.length_drop, List.length_take]; rfl)) ?_; (with_reducible refine (order_Find.calls k _ _ l0 a1 t346 _ ?side1 ?side2 A76.out).mono ?_); (case side1 => repeat (first | exact (Kd.C_below HR0.out HB.out) | (with_reducible refine Kd.C_alloc ?_ _) | (with_reducible refine Kd.C_drewN ?_ _) | (with_reducible refine Kd.C_drew ?_))); (case side2 => exact HC0.out); rintro e w121 ⟨rfl, hb⟩; refine ⟨_, rfl, ?_⟩; have n0_ := Aside0.mk (Kd.R_below (by exact rq HO322.out) hb); have n1_ := Aside0.mk (Kd.R_below (by exact rq HO325.out) hb); have n2_ := Aside0.mk (Kd.R_below (by exact rq HO331.out) hb); have n3_ := Aside0.mk (Kd.R_below (by exact rq HO334.out) hb); have n4_ := Aside0.mk (below_step (by exact h0q HB.out) hb); clear HO322; clear HO325; clear HO331; clear HO334; clear HB; have HO322 := n0_; have HO325 := n1_; have HO331 := n2_; have HO334 := n3_; have HB := n4_; clear n0_ n1_ n2_ n3_ n4_; (try clear hb); (try clear hb2); (try clear hk); (try clear hi)) | (go_at_call 16; (with_reducible refine (order_Last.calls k _ _ l0 t348 _ ?side1 ?side2 A100.out).mono ?_); (case side1 => repeat (first | exact (Kd.C_below HR0.out HB.out) | (with_reducible refine Kd.C_alloc ?_ _) | (with_reducible refine Kd.C_drewN ?_ _) | (with_reducible refine Kd.C_drew ?_))); (case side2 => exact HC0.out); rintro e w122 ⟨rfl, hb⟩; have n0_ := Aside0.mk (Kd.R_below (by exact rq HO322.out) hb); have n1_ := Aside0.mk (Kd.R_below (by exact rq HO325.out) hb); have n2_ := Aside0.mk (Kd.R_below (by exact rq HO331.out) hb); have n3_ := Aside0.mk (Kd.R_below (by exact rq HO334.out) hb); have n4_ := Aside0.mk (below_step (by exact h0q HB.out) hb); clear HO322; clear HO325; clear HO331; clear HO334; clear HB; have HO322 := n0_; have HO325 := n1_; have HO331 := n2_; have HO334 := n3_; have HB := n4_; clear n0_ n1_ n2_ n3_ n4_; (try clear hb); (try clear hb2); (try clear hk); (try clear hi)) | (go_at_call 6; (with_reducible refine (annuitylaw23_wakes.calls k  t349 _ A102.out).mono ?_); rintro e w123 ⟨rfl, hb⟩; have n0_ := Aside0.mk (Kd.R_below (by exact rq HO322.out) hb); have n1_ := Aside0.mk (Kd.R_below (by exact rq HO325.out) hb); have n2_ := Aside0.mk (Kd.R_below (by exact rq HO331.out) hb); have n3_ := Aside0.mk (Kd.R_below (by exact rq HO334.out) hb); have n4_ := Aside0.mk (below_step (by exact h0q HB.out) hb); clear HO322; clear HO325; clear HO331; clear HO334; clear HB; have HO322 := n0_; have HO325 := n1_; have HO331 := n2_; have HO334 := n3_; have HB := n4_; clear n0_ n1_ n2_ n3_ n4_; (try clear hb); (try clear hb2); (try clear hk); (try clear hi)))
                go_ret
                exact ⟨by first | rfl | (simp [errW_none, errW_some] <;> rfl) | (simp only [← hji15]; first | rfl | (simp [errW_none, errW_some] <;> rfl)) | (simp [*, errW_none, errW_some] <;> rfl), by exact h0q HB.out⟩
               ·rw [if_neg c101] at H
                exact absurd H (by simp)
             ·rw [if_neg c77] at H
              exact absurd H (by simp)
          ·rw [if_neg c21] at H
           exact absurd H (by simp)
         ·rw [if_neg c18] at H
          have c18b0 : (t336 == ((rd_T26 t323 (ji15)).f1)) = false := beq_eq_false_iff_ne.mpr c18
          have c18b1 : (t336 != ((rd_T26 t323 (ji15)).f1)) = true := bne_iff_ne.mpr c18
          exact absurd H (by simp)
        ·rw [if_neg c17] at H
         exact absurd H (by simp)
       ·rw [if_neg c16] at H
        exact absurd H (by simp)
      ·rw [if_neg c13] at H
       have c13b0 : decide (0 < (t323.length : Int)) = false := decide_eq_false c13
       have c13b1 : decide (0 < t323.length) = false := decide_eq_false (by omega)
       clear c13
       replace H := Option.bind_eq_some_iff.mp H
       obtain ⟨t350, A1240, H⟩ := H
       replace H : (if t350 ≥ (t323.length : Int) then (none) else (if t350 ≥ 0 then (if 0 ≤ t350 then (if t350 < (t323.length : Int) then (if ((rd_T26 t323 t350).f2) = a1 then ((order_Find.f k l0 a1).bind fun t352 => (if ((decide (t350 < 0)) == (decide (t352 < 0))) = true then (if (l0.length : Int) > 0 then ((annuitylaw23_wakes.f k).bind fun t353 => (some t353)) else ((order_Last.f k l0).bind fun t354 => (if t354 = (-1) then ((annuitylaw23_wakes.f k).bind fun t355 => (some t355)) else (none)))) else (none))) else (none)) else (none)) else (none)) else ((order_Find.f k l0 a1).bind fun t356 => (if ((decide (t350 < 0)) == (decide (t356 < 0))) = true then (if (l0.length : Int) > 0 then ((annuitylaw23_wakes.f k).bind fun t357 => (some t357)) else ((order_Last.f k l0).bind fun t358 => (if t358 = (-1) then ((annuitylaw23_wakes.f k).bind fun t359 => (some t359)) else (none)))) else (none))))) = some r := H
       have A124 := Aside0.mk A1240
       clear A1240
       by_cases c125 : t350 ≥ (t323.length : Int)
       ·rw [if_pos c125] at H
        exact absurd H (by simp)
       ·rw [if_neg c125] at H
        have c125b0 : decide ((t323.length : Int) ≤ t350) = false := decide_eq_false c125
        clear c125
        by_cases c126 : t350 ≥ 0
        ·rw [if_pos c126] at H
         have c126b0 : decide (0 ≤ t350) = true := decide_eq_true c126
         clear c126
         by_cases c127 : 0 ≤ t350
         ·rw [if_pos c127] at H
          have c127b0 : decide (0 ≤ t350) = true := decide_eq_true c127
          clear c127
          by_cases c128 : t350 < (t323.length : Int)
          ·rw [if_pos c128] at H
           have c128b0 : decide (t350 < (t323.length : Int)) = true := decide_eq_true c128
           clear c128
           by_cases c129 : ((rd_T26 t323 t350).f2) = a1
           ·rw [if_pos c129] at H
            have c129b0 : (((rd_T26 t323 t350).f2) == a1) = true := beq_iff_eq.mpr c129
            have c129b1 : (((rd_T26 t323 t350).f2) != a1) = false := bne_eq_false_iff_eq.mpr c129
            clear c129
            replace H := Option.bind_eq_some_iff.mp H
            obtain ⟨t352, A1300, H⟩ := H
            replace H : (if ((decide (t350 < 0)) == (decide (t352 < 0))) = true then (if (l0.length : Int) > 0 then ((annuitylaw23_wakes.f k).bind fun t353 => (some t353)) else ((order_Last.f k l0).bind fun t354 => (if t354 = (-1) then ((annuitylaw23_wakes.f k).bind fun t355 => (some t355)) else (none)))) else (none)) = some r := H
            have A130 := Aside0.mk A1300
            clear A1300
            by_cases c131 : ((decide (t350 < 0)) == (decide (t352 < 0))) = true
            ·rw [if_pos c131] at H
             have c131b0 : ((decide (t350 < 0)) == (decide (t352 < 0))) = true := c131
             (try (have c131b1 : decide ((decide (t350 < 0)) = (decide (t352 < 0))) = true := by simpa using c131))
             (try (have c131b2 : ((decide (t350 < 0)) == (decide (t352 < 0))) = true := by simpa using c131))
             clear c131
             by_cases c132 : (l0.length : Int) > 0
             ·rw [if_pos c132] at H
              have c132b0 : decide (0 < (l0.length : Int)) = true := decide_eq_true c132
              have c132b1 : decide (0 < l0.length) = true := decide_eq_true (by omega)
              clear c132
              replace H := Option.bind_eq_some_iff.mp H
              obtain ⟨t353, A1330, H⟩ := H
              replace H : (some t353) = some r := H
              have A133 := Aside0.mk A1330
              clear A1330
              obtain rfl := Option.some.inj H
              go_enter Try.func5, Try.ntmps5
              try go_wp2_with (first | ((with_reducible refine gate_dst (N := 11) rfl ?_); (try (refine gate_guard (by rfl) ?_; dsimp only)); refine Kd.R_lit k26 _ 26 ?hg (N := 11) ?hd (xs := ([] : List (S26))) (inner := []) (ok := fun _ => True) (okp := fun _ => True) ?hr ?hp (fun _ hk => hk) trivial (Below.refl _ _) (Nat.le_refl _) (by simp) ?_; (case hd => rfl); (case hg => rfl); (case hr => first | (go_simp; done) | (go_simp; rfl)); (case hp => exact (Reps.none _ _)); intro v318 w134 ho135 hb hg_ hnew_; clear hg_ hnew_; (first | rw [← Ny317.out] at ho135 | (simp only [Int.reduceToNat] at ho135; rw [← Ny317.out] at ho135)); have n0_ := Aside0.mk (Kd.R_lower ho135 (below_size (by exact h0q HB.out))); have n1_ := Aside0.mk (below_step (by exact h0q HB.out) hb); clear HB; have HO319 := n0_; have HB := n1_; clear n0_ n1_; clear hb ho135) | ((with_reducible refine gate_builtin (b := .append) (xs := #[.tmp 11, .tmp 12]) rfl ?_); (try (refine gate_guard (by rfl) ?_; dsimp only)); at_builtin; refine Kd.R_append_rows k26 (w0 := w) w.heap.size rfl (.tmp 11) (.tmp 12) 22 26 (.agg #[(.int .i64 0), (.int .i64 0), (.int .u32 0), (.int .i64 0), (.int .i64 0), (.float .f64 0), (.float .f64 0), (.bool false), (.int .i64 0), (.int .i64 0), (.int .i64 0)]) 88 rfl Try.underlying22 info26 rfl (by decide) (by omega) v318 y317 l0 _ _ _ (fun _ => True) (fun _ => False) rfl rfl ?aO ?aR (fun _ _ h => h) (fun _ h => h.elim) ?aF ?aB ?aS ?aL ?_; (case aR => repeat (first | exact (Kd.C_below HR0.out HB.out) | (with_reducible refine Kd.C_alloc ?_ _) | (with_reducible refine Kd.C_drewN ?_ _) | (with_reducible refine Kd.C_drew ?_))); (case aB => exact (by exact h0q HB.out)); (case aF => exact (fun _ _ => trivial)); (case aO => exact (by exact rq HO319.out)); (case aS => exact (below_size (by exact h0q HB.out))); (case aL => have := LMc6.out; omega); intro v321 w136 ho hb hg hat; rw [← Ny320.out] at ho; have n0_ := Aside0.mk (hb); have n1_ := Aside0.mk (ho); clear HB; clear HO319; have HB := n0_; have HO322 := n1_; clear n0_ n1_; clear ho hb hg hat; obtain ⟨Ao137, co137, eo137⟩ := Kd.R_slice HO322.out; subst eo137) | ((with_reducible refine gate_callee (f := 7) rfl ?_); refine goesL_ (some 14) rfl rfl Try.func7 (by kernel_rfl) rfl #[.slice Ao137 y320.length co137] rfl (by (try simp only [List.map_toArray, List.map_cons, List.map_nil]); first | done | rfl | (simp only [List.length_drop, List.length_take]; rfl)) ?_; (with_reducible refine (order_Sort.calls k _ _ y320 t323 _ ?side1 ?side2 A7.out).mono ?_); (case side1 => repeat (first | exact (Kd.R_reads' HO322.out).2.2 | (with_reducible refine Kd.C_alloc ?_ _) | (with_reducible refine Kd.C_drewN ?_ _) | (with_reducible refine Kd.C_drew ?_))); (case side2 => exact (Kd.R_reads' HO322.out).2.1); rintro e w138 ⟨v324, rfl, ho0, hb⟩; refine ⟨_, rfl, ?_⟩; have n0_ := Aside0.mk (Kd.R_elder' (by exact rq HO322.out) (Kd.R_base ho0) hb); have n1_ := Aside0.mk (Kd.R_lower (Kd.R_new' ho0 (Kd.R_lt (by exact rq HO322.out))) (below_size (by exact h0q HB.out))); have n2_ := Aside0.mk (below_step (by exact h0q HB.out) hb); clear HO322; clear HB; have HO322 := n0_; have HO325 := n1_; have HB := n2_; clear n0_ n1_ n2_; (try clear hb); (try clear hb2); (try clear hk); (try clear hi); (try clear ho0); obtain ⟨Ao139, co139, eo139⟩ := Kd.R_slice HO325.out; subst eo139) | ((with_reducible refine gate_dst (N := 21) rfl ?_); (try (refine gate_guard (by rfl) ?_; dsimp only)); refine Kd.R_lit k26 _ 26 ?hg (N := 21) ?hd (xs := ([] : List (S26))) (inner := []) (ok := fun _ => True) (okp := fun _ => True) ?hr ?hp (fun _ hk => hk) trivial (Below.refl _ _) (Nat.le_refl _) (by simp) ?_; (case hd => rfl); (case hg => rfl); (case hr => first | (go_simp; done) | (go_simp; rfl)); (case hp => exact (Reps.none _ _)); intro v327 w140 ho141 hb hg_ hnew_; clear hg_ hnew_; (first | rw [← Ny326.out] at ho141 | (simp only [Int.reduceToNat] at ho141; rw [← Ny326.out] at ho141)); have n0_ := Aside0.mk (Kd.R_elder' (by exact rq HO322.out) (Kd.R_base ho141) hb); have n1_ := Aside0.mk (Kd.R_elder' (by exact rq HO325.out) (Kd.R_base ho141) hb); have n2_ := Aside0.mk (Kd.R_lower (Kd.R_new' (Kd.R_new' ho141 (Kd.R_lt (by exact rq HO322.out))) (Kd.R_lt (by exact rq HO325.out))) (below_size (by exact h0q HB.out))); have n3_ := Aside0.mk (below_step (by exact h0q HB.out) hb); clear HO322; clear HO325; clear HB; have HO322 := n0_; have HO325 := n1_; have HO328 := n2_; have HB := n3_; clear n0_ n1_ n2_ n3_; clear hb ho141) | ((with_reducible refine gate_builtin (b := .append) (xs := #[.tmp 21, .tmp 22]) rfl ?_); (try (refine gate_guard (by rfl) ?_; dsimp only)); at_builtin; refine Kd.R_append_rows k26 (w0 := w) w.heap.size rfl (.tmp 21) (.tmp 22) 22 26 (.agg #[(.int .i64 0), (.int .i64 0), (.int .u32 0), (.int .i64 0), (.int .i64 0), (.float .f64 0), (.float .f64 0), (.bool false), (.int .i64 0), (.int .i64 0), (.int .i64 0)]) 88 rfl Try.underlying22 info26 rfl (by decide) (by omega) v327 y326 t323 _ _ _ (fun k_ => some k_ ≠ (.slice Ao137 y320.length co137 : Value).ownBlock ∧ some k_ ≠ (.slice Ao139 t323.length co139 : Value).ownBlock) (fun _ => False) rfl rfl ?aO ?aR (fun _ _ h => h) (fun _ h => h.elim) ?aF ?aB ?aS ?aL ?_; (case aR => repeat (first | exact (Kd.R_reads' HO325.out).2.2 | (with_reducible refine Kd.C_alloc ?_ _) | (with_reducible refine Kd.C_drewN ?_ _) | (with_reducible refine Kd.C_drew ?_))); (case aB => exact (by exact h0q HB.out)); (case aF => exact (fun k_ hk => ⟨Kd.fresh' (Kd.R_lt (by exact rq HO322.out)) k_ hk, Kd.fresh' (Kd.R_lt (by exact rq HO325.out)) k_ hk⟩)); (case aO => exact (by (with_reducible repeat (first | apply Kd.R_alloc | apply Kd.R_drewN | apply Kd.R_drew)); exact Kd.R_mono HO328.out (fun _ hk => ⟨hk.1.2, hk.2⟩))); (case aS => exact (below_size (by exact h0q HB.out))); (case aL => have := LMc9.out; omega); intro v330 w142 ho hb hg hat; rw [← Ny329.out] at ho; have n0_ := Aside0.mk (Kd.R_after (ok := (fun k_ => some k_ ≠ (.slice Ao139 t323.length co139 : Value).ownBlock)) (by (with_reducible repeat (first | apply Kd.R_alloc | apply Kd.R_drewN | apply Kd.R_drew)); exact Kd.R_mono HO322.out (fun _ hk => ⟨hk.1.2, hk.2⟩)) hg hat); have n1_ := Aside0.mk (Kd.R_after (ok := (fun k_ => some k_ ≠ (.slice Ao137 y320.length co137 : Value).ownBlock)) (by (with_reducible repeat (first | apply Kd.R_alloc | apply Kd.R_drewN | apply Kd.R_drew)); exact Kd.R_mono HO325.out (fun _ hk => ⟨hk.1.2, hk.2⟩)) hg hat); have n2_ := Aside0.mk (hb); have n3_ := Aside0.mk (ho); clear HO322; clear HO325; clear HB; clear HO328; have HO322 := n0_; have HO325 := n1_; have HB := n2_; have HO331 := n3_; clear n0_ n1_ n2_ n3_; clear ho hb hg hat; obtain ⟨Ao143, co143, eo143⟩ := Kd.R_slice HO331.out; subst eo143) | (go_at_call 7; (with_reducible refine (order_Sort.calls k _ _ y329 t332 _ ?side1 ?side2 A10.out).mono ?_); (case side1 => repeat (first | exact (Kd.R_reads' HO331.out).2.2 | (with_reducible refine Kd.C_alloc ?_ _) | (with_reducible refine Kd.C_drewN ?_ _) | (with_reducible refine Kd.C_drew ?_))); (case side2 => exact (Kd.R_reads' HO331.out).2.1); rintro e w144 ⟨v333, rfl, ho0, hb⟩; have n0_ := Aside0.mk (Kd.R_elder' (by exact rq HO322.out) (Kd.R_base ho0) hb); have n1_ := Aside0.mk (Kd.R_elder' (by exact rq HO325.out) (Kd.R_base ho0) hb); have n2_ := Aside0.mk (Kd.R_elder' (by exact rq HO331.out) (Kd.R_base ho0) hb); have n3_ := Aside0.mk (Kd.R_lower (Kd.R_new' (Kd.R_new' (Kd.R_new' ho0 (Kd.R_lt (by exact rq HO322.out))) (Kd.R_lt (by exact rq HO325.out))) (Kd.R_lt (by exact rq HO331.out))) (below_size (by exact h0q HB.out))); have n4_ := Aside0.mk (below_step (by exact h0q HB.out) hb); clear HO322; clear HO325; clear HO331; clear HB; have HO322 := n0_; have HO325 := n1_; have HO331 := n2_; have HO334 := n3_; have HB := n4_; clear n0_ n1_ n2_ n3_ n4_; (try clear hb); (try clear hb2); (try clear hk); (try clear hi); (try clear ho0); obtain ⟨Ao145, co145, eo145⟩ := Kd.R_slice HO334.out; subst eo145) | (go_at_call 11; (with_reducible refine (annuitykeep_Events.calls k _ _ t332 _ _ t323 true _ ?side1 ?side2 ?side3 ?side4 A11.out).mono ?_); (case side1 => repeat (first | exact (Kd.R_reads' HO334.out).2.2 | (with_reducible refine Kd.C_alloc ?_ _) | (with_reducible refine Kd.C_drewN ?_ _) | (with_reducible refine Kd.C_drew ?_))); (case side2 => exact (Kd.R_reads' HO334.out).2.1); (case side3 => repeat (first | exact (Kd.R_reads' HO325.out).2.2 | (with_reducible refine Kd.C_alloc ?_ _) | (with_reducible refine Kd.C_drewN ?_ _) | (with_reducible refine Kd.C_drew ?_))); (case side4 => exact (Kd.R_reads' HO325.out).2.1); rintro e w146 ⟨rfl, hb⟩; have n0_ := Aside0.mk (Kd.R_below (by exact rq HO322.out) hb); have n1_ := Aside0.mk (Kd.R_below (by exact rq HO325.out) hb); have n2_ := Aside0.mk (Kd.R_below (by exact rq HO331.out) hb); have n3_ := Aside0.mk (Kd.R_below (by exact rq HO334.out) hb); have n4_ := Aside0.mk (below_step (by exact h0q HB.out) hb); clear HO322; clear HO325; clear HO331; clear HO334; clear HB; have HO322 := n0_; have HO325 := n1_; have HO331 := n2_; have HO334 := n3_; have HB := n4_; clear n0_ n1_ n2_ n3_ n4_; (try clear hb); (try clear hb2); (try clear hk); (try clear hi)))
              have n0_ := Aside0.mk (Kd.R_drew HO322.out)
              have n1_ := Aside0.mk (Kd.R_drew HO325.out)
              have n2_ := Aside0.mk (Kd.R_drew HO331.out)
              have n3_ := Aside0.mk (Kd.R_drew HO334.out)
              have n4_ := Aside0.mk (below_drew1 HB.out)
              clear HO322
              clear HO325
              clear HO331
              clear HO334
              clear HB
              have HO322 := n0_
              have HO325 := n1_
              have HO331 := n2_
              have HO334 := n3_
              have HB := n4_
              clear n0_ n1_ n2_ n3_ n4_
              refine start_ (n := 22) (S := fun w' => True) (ds := []) (annuitylaw23_OrderLast.fl 22 0) (by kernel_rfl) rfl rfl trivial (fun hHeld => ?_); refine with_tabW annuitylaw23_OrderLast.tab6 annuitylaw23_OrderLast.bits6 (fun HT_ HW_ => ?_)
              generalize w146.drew = w147 at HO322 HO325 HO331 HO334 HB hHeld ⊢
              refine annuitylaw23_OrderLast.y 0 29 22 1 HT_.out ?_
              refine annuitylaw23_OrderLast.y 1 30 22 3 HT_.out ?_
              refine annuitylaw23_OrderLast.y 2 31 22 7 HT_.out ?_
              refine annuitylaw23_OrderLast.y 3 32 22 15 HT_.out ?_
              refine annuitylaw23_OrderLast.g 4 33 22 31 HT_.out ?_
              refine annuitylaw23_OrderLast.g 5 34 22 63 HT_.out ?_
              refine annuitylaw23_OrderLast.g 6 35 22 127 HT_.out ?_
              refine annuitylaw23_OrderLast.g 7 36 22 255 HT_.out ?_
              refine annuitylaw23_OrderLast.g 8 37 22 511 HT_.out ?_
              refine annuitylaw23_OrderLast.g 9 38 22 1023 HT_.out ?_
              refine annuitylaw23_OrderLast.g 10 39 22 2047 HT_.out ?_
              refine annuitylaw23_OrderLast.g 11 40 22 4095 HT_.out ?_
              refine annuitylaw23_OrderLast.g 12 41 22 8191 HT_.out ?_
              refine annuitylaw23_OrderLast.g 13 42 22 16383 HT_.out ?_
              refine annuitylaw23_OrderLast.g 14 43 22 32767 HT_.out ?_
              refine annuitylaw23_OrderLast.g 15 44 22 65535 HT_.out ?_
              refine annuitylaw23_OrderLast.g 16 45 22 131071 HT_.out ?_
              refine annuitylaw23_OrderLast.g 17 46 22 262143 HT_.out ?_
              refine annuitylaw23_OrderLast.g 18 47 22 524287 HT_.out ?_
              refine annuitylaw23_OrderLast.g 19 48 22 1048575 HT_.out ?_
              refine annuitylaw23_OrderLast.g 20 49 22 2097151 HT_.out ?_
              refine annuitylaw23_OrderLast.y 21 50 22 4194303 HT_.out ?_
              refine done_ (done_of HT_.out (by kernel_rfl)) ?_
              try go_wp2_with (first | ((with_reducible refine gate_callee (f := 14) rfl ?_); refine goesL_ (some 53) rfl rfl Try.func14 (by kernel_rfl) rfl #[.slice Ao139 t323.length co139, .int .u32 a1] rfl (by (try simp only [List.map_toArray, List.map_cons, List.map_nil]); first | done | rfl | (simp only [List.length_drop, List.length_take]; rfl)) ?_; (with_reducible refine (order_Find.calls k _ _ t323 a1 t350 _ ?side1 ?side2 A124.out).mono ?_); (case side1 => repeat (first | exact (Kd.R_reads' HO325.out).2.2 | (with_reducible refine Kd.C_alloc ?_ _) | (with_reducible refine Kd.C_drewN ?_ _) | (with_reducible refine Kd.C_drew ?_))); (case side2 => exact (Kd.R_reads' HO325.out).2.1); rintro e w148 ⟨rfl, hb⟩; refine ⟨_, rfl, ?_⟩; have n0_ := Aside0.mk (Kd.R_below (by exact rq HO322.out) hb); have n1_ := Aside0.mk (Kd.R_below (by exact rq HO325.out) hb); have n2_ := Aside0.mk (Kd.R_below (by exact rq HO331.out) hb); have n3_ := Aside0.mk (Kd.R_below (by exact rq HO334.out) hb); have n4_ := Aside0.mk (below_step (by exact h0q HB.out) hb); clear HO322; clear HO325; clear HO331; clear HO334; clear HB; have HO322 := n0_; have HO325 := n1_; have HO331 := n2_; have HO334 := n3_; have HB := n4_; clear n0_ n1_ n2_ n3_ n4_; (try clear hb); (try clear hb2); (try clear hk); (try clear hi); have p351 : 0 ≤ (t350 : Int) := yd; have q351 : t350 < (t323.length : Int) := yd; obtain ⟨ad351, e351, hx351_0, hx351_1, hx351_2, hx351_3, hx351_4, hx351_5, hx351_6, hx351_7, hx351_8, hx351_9, hx351_10⟩ := at_T26 (Kd.R_reads' HO325.out).2.2 t350 p351 q351; cases e351; replace p351 := eq_true p351; replace q351 := eq_true q351) | ((with_reducible refine gate_callee (f := 14) rfl ?_); refine goesL_ (some 75) rfl rfl Try.func14 (by kernel_rfl) rfl #[.slice A0 l0.length c0, .int .u32 a1] rfl (by (try simp only [List.map_toArray, List.map_cons, List.map_nil]); first | done | rfl | (simp only [List.length_drop, List.length_take]; rfl)) ?_; (with_reducible refine (order_Find.calls k _ _ l0 a1 t352 _ ?side1 ?side2 A130.out).mono ?_); (case side1 => repeat (first | exact (Kd.C_below HR0.out HB.out) | (with_reducible refine Kd.C_alloc ?_ _) | (with_reducible refine Kd.C_drewN ?_ _) | (with_reducible refine Kd.C_drew ?_))); (case side2 => exact HC0.out); rintro e w149 ⟨rfl, hb⟩; refine ⟨_, rfl, ?_⟩; have n0_ := Aside0.mk (Kd.R_below (by exact rq HO322.out) hb); have n1_ := Aside0.mk (Kd.R_below (by exact rq HO325.out) hb); have n2_ := Aside0.mk (Kd.R_below (by exact rq HO331.out) hb); have n3_ := Aside0.mk (Kd.R_below (by exact rq HO334.out) hb); have n4_ := Aside0.mk (below_step (by exact h0q HB.out) hb); clear HO322; clear HO325; clear HO331; clear HO334; clear HB; have HO322 := n0_; have HO325 := n1_; have HO331 := n2_; have HO334 := n3_; have HB := n4_; clear n0_ n1_ n2_ n3_ n4_; (try clear hb); (try clear hb2); (try clear hk); (try clear hi)) | (go_at_call 6; (with_reducible refine (annuitylaw23_wakes.calls k  t353 _ A133.out).mono ?_); rintro e w150 ⟨rfl, hb⟩; have n0_ := Aside0.mk (Kd.R_below (by exact rq HO322.out) hb); have n1_ := Aside0.mk (Kd.R_below (by exact rq HO325.out) hb); have n2_ := Aside0.mk (Kd.R_below (by exact rq HO331.out) hb); have n3_ := Aside0.mk (Kd.R_below (by exact rq HO334.out) hb); have n4_ := Aside0.mk (below_step (by exact h0q HB.out) hb); clear HO322; clear HO325; clear HO331; clear HO334; clear HB; have HO322 := n0_; have HO325 := n1_; have HO331 := n2_; have HO334 := n3_; have HB := n4_; clear n0_ n1_ n2_ n3_ n4_; (try clear hb); (try clear hb2); (try clear hk); (try clear hi)))
              go_ret
              exact ⟨by first | rfl | (simp [errW_none, errW_some] <;> rfl) | (simp [*, errW_none, errW_some] <;> rfl), by exact h0q HB.out⟩
             ·rw [if_neg c132] at H
              have c132b0 : decide (0 < (l0.length : Int)) = false := decide_eq_false c132
              have c132b1 : decide (0 < l0.length) = false := decide_eq_false (by omega)
              clear c132
              replace H := Option.bind_eq_some_iff.mp H
              obtain ⟨t354, A1510, H⟩ := H
              replace H : (if t354 = (-1) then ((annuitylaw23_wakes.f k).bind fun t355 => (some t355)) else (none)) = some r := H
              have A151 := Aside0.mk A1510
              clear A1510
              by_cases c152 : t354 = (-1)
              ·rw [if_pos c152] at H
               have c152b0 : (t354 == (-1)) = true := beq_iff_eq.mpr c152
               have c152b1 : (t354 != (-1)) = false := bne_eq_false_iff_eq.mpr c152
               clear c152
               replace H := Option.bind_eq_some_iff.mp H
               obtain ⟨t355, A1530, H⟩ := H
               replace H : (some t355) = some r := H
               have A153 := Aside0.mk A1530
               clear A1530
               obtain rfl := Option.some.inj H
               go_enter Try.func5, Try.ntmps5
               try go_wp2_with (first | ((with_reducible refine gate_dst (N := 11) rfl ?_); (try (refine gate_guard (by rfl) ?_; dsimp only)); refine Kd.R_lit k26 _ 26 ?hg (N := 11) ?hd (xs := ([] : List (S26))) (inner := []) (ok := fun _ => True) (okp := fun _ => True) ?hr ?hp (fun _ hk => hk) trivial (Below.refl _ _) (Nat.le_refl _) (by simp) ?_; (case hd => rfl); (case hg => rfl); (case hr => first | (go_simp; done) | (go_simp; rfl)); (case hp => exact (Reps.none _ _)); intro v318 w154 ho155 hb hg_ hnew_; clear hg_ hnew_; (first | rw [← Ny317.out] at ho155 | (simp only [Int.reduceToNat] at ho155; rw [← Ny317.out] at ho155)); have n0_ := Aside0.mk (Kd.R_lower ho155 (below_size (by exact h0q HB.out))); have n1_ := Aside0.mk (below_step (by exact h0q HB.out) hb); clear HB; have HO319 := n0_; have HB := n1_; clear n0_ n1_; clear hb ho155) | ((with_reducible refine gate_builtin (b := .append) (xs := #[.tmp 11, .tmp 12]) rfl ?_); (try (refine gate_guard (by rfl) ?_; dsimp only)); at_builtin; refine Kd.R_append_rows k26 (w0 := w) w.heap.size rfl (.tmp 11) (.tmp 12) 22 26 (.agg #[(.int .i64 0), (.int .i64 0), (.int .u32 0), (.int .i64 0), (.int .i64 0), (.float .f64 0), (.float .f64 0), (.bool false), (.int .i64 0), (.int .i64 0), (.int .i64 0)]) 88 rfl Try.underlying22 info26 rfl (by decide) (by omega) v318 y317 l0 _ _ _ (fun _ => True) (fun _ => False) rfl rfl ?aO ?aR (fun _ _ h => h) (fun _ h => h.elim) ?aF ?aB ?aS ?aL ?_; (case aR => repeat (first | exact (Kd.C_below HR0.out HB.out) | (with_reducible refine Kd.C_alloc ?_ _) | (with_reducible refine Kd.C_drewN ?_ _) | (with_reducible refine Kd.C_drew ?_))); (case aB => exact (by exact h0q HB.out)); (case aF => exact (fun _ _ => trivial)); (case aO => exact (by exact rq HO319.out)); (case aS => exact (below_size (by exact h0q HB.out))); (case aL => have := LMc6.out; omega); intro v321 w156 ho hb hg hat; rw [← Ny320.out] at ho; have n0_ := Aside0.mk (hb); have n1_ := Aside0.mk (ho); clear HB; clear HO319; have HB := n0_; have HO322 := n1_; clear n0_ n1_; clear ho hb hg hat; obtain ⟨Ao157, co157, eo157⟩ := Kd.R_slice HO322.out; subst eo157) | ((with_reducible refine gate_callee (f := 7) rfl ?_); refine goesL_ (some 14) rfl rfl Try.func7 (by kernel_rfl) rfl #[.slice Ao157 y320.length co157] rfl (by (try simp only [List.map_toArray, List.map_cons, List.map_nil]); first | done | rfl | (simp only [List.length_drop, List.length_take]; rfl)) ?_; (with_reducible refine (order_Sort.calls k _ _ y320 t323 _ ?side1 ?side2 A7.out).mono ?_); (case side1 => repeat (first | exact (Kd.R_reads' HO322.out).2.2 | (with_reducible refine Kd.C_alloc ?_ _) | (with_reducible refine Kd.C_drewN ?_ _) | (with_reducible refine Kd.C_drew ?_))); (case side2 => exact (Kd.R_reads' HO322.out).2.1); rintro e w158 ⟨v324, rfl, ho0, hb⟩; refine ⟨_, rfl, ?_⟩; have n0_ := Aside0.mk (Kd.R_elder' (by exact rq HO322.out) (Kd.R_base ho0) hb); have n1_ := Aside0.mk (Kd.R_lower (Kd.R_new' ho0 (Kd.R_lt (by exact rq HO322.out))) (below_size (by exact h0q HB.out))); have n2_ := Aside0.mk (below_step (by exact h0q HB.out) hb); clear HO322; clear HB; have HO322 := n0_; have HO325 := n1_; have HB := n2_; clear n0_ n1_ n2_; (try clear hb); (try clear hb2); (try clear hk); (try clear hi); (try clear ho0); obtain ⟨Ao159, co159, eo159⟩ := Kd.R_slice HO325.out; subst eo159) | ((with_reducible refine gate_dst (N := 21) rfl ?_); (try (refine gate_guard (by rfl) ?_; dsimp only)); refine Kd.R_lit k26 _ 26 ?hg (N := 21) ?hd (xs := ([] : List (S26))) (inner := []) (ok := fun _ => True) (okp := fun _ => True) ?hr ?hp (fun _ hk => hk) trivial (Below.refl _ _) (Nat.le_refl _) (by simp) ?_; (case hd => rfl); (case hg => rfl); (case hr => first | (go_simp; done) | (go_simp; rfl)); (case hp => exact (Reps.none _ _)); intro v327 w160 ho161 hb hg_ hnew_; clear hg_ hnew_; (first | rw [← Ny326.out] at ho161 | (simp only [Int.reduceToNat] at ho161; rw [← Ny326.out] at ho161)); have n0_ := Aside0.mk (Kd.R_elder' (by exact rq HO322.out) (Kd.R_base ho161) hb); have n1_ := Aside0.mk (Kd.R_elder' (by exact rq HO325.out) (Kd.R_base ho161) hb); have n2_ := Aside0.mk (Kd.R_lower (Kd.R_new' (Kd.R_new' ho161 (Kd.R_lt (by exact rq HO322.out))) (Kd.R_lt (by exact rq HO325.out))) (below_size (by exact h0q HB.out))); have n3_ := Aside0.mk (below_step (by exact h0q HB.out) hb); clear HO322; clear HO325; clear HB; have HO322 := n0_; have HO325 := n1_; have HO328 := n2_; have HB := n3_; clear n0_ n1_ n2_ n3_; clear hb ho161) | ((with_reducible refine gate_builtin (b := .append) (xs := #[.tmp 21, .tmp 22]) rfl ?_); (try (refine gate_guard (by rfl) ?_; dsimp only)); at_builtin; refine Kd.R_append_rows k26 (w0 := w) w.heap.size rfl (.tmp 21) (.tmp 22) 22 26 (.agg #[(.int .i64 0), (.int .i64 0), (.int .u32 0), (.int .i64 0), (.int .i64 0), (.float .f64 0), (.float .f64 0), (.bool false), (.int .i64 0), (.int .i64 0), (.int .i64 0)]) 88 rfl Try.underlying22 info26 rfl (by decide) (by omega) v327 y326 t323 _ _ _ (fun k_ => some k_ ≠ (.slice Ao157 y320.length co157 : Value).ownBlock ∧ some k_ ≠ (.slice Ao159 t323.length co159 : Value).ownBlock) (fun _ => False) rfl rfl ?aO ?aR (fun _ _ h => h) (fun _ h => h.elim) ?aF ?aB ?aS ?aL ?_; (case aR => repeat (first | exact (Kd.R_reads' HO325.out).2.2 | (with_reducible refine Kd.C_alloc ?_ _) | (with_reducible refine Kd.C_drewN ?_ _) | (with_reducible refine Kd.C_drew ?_))); (case aB => exact (by exact h0q HB.out)); (case aF => exact (fun k_ hk => ⟨Kd.fresh' (Kd.R_lt (by exact rq HO322.out)) k_ hk, Kd.fresh' (Kd.R_lt (by exact rq HO325.out)) k_ hk⟩)); (case aO => exact (by (with_reducible repeat (first | apply Kd.R_alloc | apply Kd.R_drewN | apply Kd.R_drew)); exact Kd.R_mono HO328.out (fun _ hk => ⟨hk.1.2, hk.2⟩))); (case aS => exact (below_size (by exact h0q HB.out))); (case aL => have := LMc9.out; omega); intro v330 w162 ho hb hg hat; rw [← Ny329.out] at ho; have n0_ := Aside0.mk (Kd.R_after (ok := (fun k_ => some k_ ≠ (.slice Ao159 t323.length co159 : Value).ownBlock)) (by (with_reducible repeat (first | apply Kd.R_alloc | apply Kd.R_drewN | apply Kd.R_drew)); exact Kd.R_mono HO322.out (fun _ hk => ⟨hk.1.2, hk.2⟩)) hg hat); have n1_ := Aside0.mk (Kd.R_after (ok := (fun k_ => some k_ ≠ (.slice Ao157 y320.length co157 : Value).ownBlock)) (by (with_reducible repeat (first | apply Kd.R_alloc | apply Kd.R_drewN | apply Kd.R_drew)); exact Kd.R_mono HO325.out (fun _ hk => ⟨hk.1.2, hk.2⟩)) hg hat); have n2_ := Aside0.mk (hb); have n3_ := Aside0.mk (ho); clear HO322; clear HO325; clear HB; clear HO328; have HO322 := n0_; have HO325 := n1_; have HB := n2_; have HO331 := n3_; clear n0_ n1_ n2_ n3_; clear ho hb hg hat; obtain ⟨Ao163, co163, eo163⟩ := Kd.R_slice HO331.out; subst eo163) | (go_at_call 7; (with_reducible refine (order_Sort.calls k _ _ y329 t332 _ ?side1 ?side2 A10.out).mono ?_); (case side1 => repeat (first | exact (Kd.R_reads' HO331.out).2.2 | (with_reducible refine Kd.C_alloc ?_ _) | (with_reducible refine Kd.C_drewN ?_ _) | (with_reducible refine Kd.C_drew ?_))); (case side2 => exact (Kd.R_reads' HO331.out).2.1); rintro e w164 ⟨v333, rfl, ho0, hb⟩; have n0_ := Aside0.mk (Kd.R_elder' (by exact rq HO322.out) (Kd.R_base ho0) hb); have n1_ := Aside0.mk (Kd.R_elder' (by exact rq HO325.out) (Kd.R_base ho0) hb); have n2_ := Aside0.mk (Kd.R_elder' (by exact rq HO331.out) (Kd.R_base ho0) hb); have n3_ := Aside0.mk (Kd.R_lower (Kd.R_new' (Kd.R_new' (Kd.R_new' ho0 (Kd.R_lt (by exact rq HO322.out))) (Kd.R_lt (by exact rq HO325.out))) (Kd.R_lt (by exact rq HO331.out))) (below_size (by exact h0q HB.out))); have n4_ := Aside0.mk (below_step (by exact h0q HB.out) hb); clear HO322; clear HO325; clear HO331; clear HB; have HO322 := n0_; have HO325 := n1_; have HO331 := n2_; have HO334 := n3_; have HB := n4_; clear n0_ n1_ n2_ n3_ n4_; (try clear hb); (try clear hb2); (try clear hk); (try clear hi); (try clear ho0); obtain ⟨Ao165, co165, eo165⟩ := Kd.R_slice HO334.out; subst eo165) | (go_at_call 11; (with_reducible refine (annuitykeep_Events.calls k _ _ t332 _ _ t323 true _ ?side1 ?side2 ?side3 ?side4 A11.out).mono ?_); (case side1 => repeat (first | exact (Kd.R_reads' HO334.out).2.2 | (with_reducible refine Kd.C_alloc ?_ _) | (with_reducible refine Kd.C_drewN ?_ _) | (with_reducible refine Kd.C_drew ?_))); (case side2 => exact (Kd.R_reads' HO334.out).2.1); (case side3 => repeat (first | exact (Kd.R_reads' HO325.out).2.2 | (with_reducible refine Kd.C_alloc ?_ _) | (with_reducible refine Kd.C_drewN ?_ _) | (with_reducible refine Kd.C_drew ?_))); (case side4 => exact (Kd.R_reads' HO325.out).2.1); rintro e w166 ⟨rfl, hb⟩; have n0_ := Aside0.mk (Kd.R_below (by exact rq HO322.out) hb); have n1_ := Aside0.mk (Kd.R_below (by exact rq HO325.out) hb); have n2_ := Aside0.mk (Kd.R_below (by exact rq HO331.out) hb); have n3_ := Aside0.mk (Kd.R_below (by exact rq HO334.out) hb); have n4_ := Aside0.mk (below_step (by exact h0q HB.out) hb); clear HO322; clear HO325; clear HO331; clear HO334; clear HB; have HO322 := n0_; have HO325 := n1_; have HO331 := n2_; have HO334 := n3_; have HB := n4_; clear n0_ n1_ n2_ n3_ n4_; (try clear hb); (try clear hb2); (try clear hk); (try clear hi)))
               have n0_ := Aside0.mk (Kd.R_drew HO322.out)
               have n1_ := Aside0.mk (Kd.R_drew HO325.out)
               have n2_ := Aside0.mk (Kd.R_drew HO331.out)
               have n3_ := Aside0.mk (Kd.R_drew HO334.out)
               have n4_ := Aside0.mk (below_drew1 HB.out)
               clear HO322
               clear HO325
               clear HO331
               clear HO334
               clear HB
               have HO322 := n0_
               have HO325 := n1_
               have HO331 := n2_
               have HO334 := n3_
               have HB := n4_
               clear n0_ n1_ n2_ n3_ n4_
               refine start_ (n := 22) (S := fun w' => True) (ds := []) (annuitylaw23_OrderLast.fl 22 0) (by kernel_rfl) rfl rfl trivial (fun hHeld => ?_); refine with_tabW annuitylaw23_OrderLast.tab6 annuitylaw23_OrderLast.bits6 (fun HT_ HW_ => ?_)
               generalize w166.drew = w167 at HO322 HO325 HO331 HO334 HB hHeld ⊢
               refine annuitylaw23_OrderLast.y 0 29 22 1 HT_.out ?_
               refine annuitylaw23_OrderLast.y 1 30 22 3 HT_.out ?_
               refine annuitylaw23_OrderLast.y 2 31 22 7 HT_.out ?_
               refine annuitylaw23_OrderLast.y 3 32 22 15 HT_.out ?_
               refine annuitylaw23_OrderLast.g 4 33 22 31 HT_.out ?_
               refine annuitylaw23_OrderLast.g 5 34 22 63 HT_.out ?_
               refine annuitylaw23_OrderLast.g 6 35 22 127 HT_.out ?_
               refine annuitylaw23_OrderLast.g 7 36 22 255 HT_.out ?_
               refine annuitylaw23_OrderLast.g 8 37 22 511 HT_.out ?_
               refine annuitylaw23_OrderLast.g 9 38 22 1023 HT_.out ?_
               refine annuitylaw23_OrderLast.g 10 39 22 2047 HT_.out ?_
               refine annuitylaw23_OrderLast.g 11 40 22 4095 HT_.out ?_
               refine annuitylaw23_OrderLast.g 12 41 22 8191 HT_.out ?_
               refine annuitylaw23_OrderLast.g 13 42 22 16383 HT_.out ?_
               refine annuitylaw23_OrderLast.g 14 43 22 32767 HT_.out ?_
               refine annuitylaw23_OrderLast.g 15 44 22 65535 HT_.out ?_
               refine annuitylaw23_OrderLast.g 16 45 22 131071 HT_.out ?_
               refine annuitylaw23_OrderLast.g 17 46 22 262143 HT_.out ?_
               refine annuitylaw23_OrderLast.g 18 47 22 524287 HT_.out ?_
               refine annuitylaw23_OrderLast.g 19 48 22 1048575 HT_.out ?_
               refine annuitylaw23_OrderLast.g 20 49 22 2097151 HT_.out ?_
               refine annuitylaw23_OrderLast.y 21 50 22 4194303 HT_.out ?_
               refine done_ (done_of HT_.out (by kernel_rfl)) ?_
               try go_wp2_with (first | ((with_reducible refine gate_callee (f := 14) rfl ?_); refine goesL_ (some 53) rfl rfl Try.func14 (by kernel_rfl) rfl #[.slice Ao159 t323.length co159, .int .u32 a1] rfl (by (try simp only [List.map_toArray, List.map_cons, List.map_nil]); first | done | rfl | (simp only [List.length_drop, List.length_take]; rfl)) ?_; (with_reducible refine (order_Find.calls k _ _ t323 a1 t350 _ ?side1 ?side2 A124.out).mono ?_); (case side1 => repeat (first | exact (Kd.R_reads' HO325.out).2.2 | (with_reducible refine Kd.C_alloc ?_ _) | (with_reducible refine Kd.C_drewN ?_ _) | (with_reducible refine Kd.C_drew ?_))); (case side2 => exact (Kd.R_reads' HO325.out).2.1); rintro e w168 ⟨rfl, hb⟩; refine ⟨_, rfl, ?_⟩; have n0_ := Aside0.mk (Kd.R_below (by exact rq HO322.out) hb); have n1_ := Aside0.mk (Kd.R_below (by exact rq HO325.out) hb); have n2_ := Aside0.mk (Kd.R_below (by exact rq HO331.out) hb); have n3_ := Aside0.mk (Kd.R_below (by exact rq HO334.out) hb); have n4_ := Aside0.mk (below_step (by exact h0q HB.out) hb); clear HO322; clear HO325; clear HO331; clear HO334; clear HB; have HO322 := n0_; have HO325 := n1_; have HO331 := n2_; have HO334 := n3_; have HB := n4_; clear n0_ n1_ n2_ n3_ n4_; (try clear hb); (try clear hb2); (try clear hk); (try clear hi); have p351 : 0 ≤ (t350 : Int) := yd; have q351 : t350 < (t323.length : Int) := yd; obtain ⟨ad351, e351, hx351_0, hx351_1, hx351_2, hx351_3, hx351_4, hx351_5, hx351_6, hx351_7, hx351_8, hx351_9, hx351_10⟩ := at_T26 (Kd.R_reads' HO325.out).2.2 t350 p351 q351; cases e351; replace p351 := eq_true p351; replace q351 := eq_true q351) | ((with_reducible refine gate_callee (f := 14) rfl ?_); refine goesL_ (some 75) rfl rfl Try.func14 (by kernel_rfl) rfl #[.slice A0 l0.length c0, .int .u32 a1] rfl (by (try simp only [List.map_toArray, List.map_cons, List.map_nil]); first | done | rfl | (simp only [List.length_drop, List.length_take]; rfl)) ?_; (with_reducible refine (order_Find.calls k _ _ l0 a1 t352 _ ?side1 ?side2 A130.out).mono ?_); (case side1 => repeat (first | exact (Kd.C_below HR0.out HB.out) | (with_reducible refine Kd.C_alloc ?_ _) | (with_reducible refine Kd.C_drewN ?_ _) | (with_reducible refine Kd.C_drew ?_))); (case side2 => exact HC0.out); rintro e w169 ⟨rfl, hb⟩; refine ⟨_, rfl, ?_⟩; have n0_ := Aside0.mk (Kd.R_below (by exact rq HO322.out) hb); have n1_ := Aside0.mk (Kd.R_below (by exact rq HO325.out) hb); have n2_ := Aside0.mk (Kd.R_below (by exact rq HO331.out) hb); have n3_ := Aside0.mk (Kd.R_below (by exact rq HO334.out) hb); have n4_ := Aside0.mk (below_step (by exact h0q HB.out) hb); clear HO322; clear HO325; clear HO331; clear HO334; clear HB; have HO322 := n0_; have HO325 := n1_; have HO331 := n2_; have HO334 := n3_; have HB := n4_; clear n0_ n1_ n2_ n3_ n4_; (try clear hb); (try clear hb2); (try clear hk); (try clear hi)) | (go_at_call 16; (with_reducible refine (order_Last.calls k _ _ l0 t354 _ ?side1 ?side2 A151.out).mono ?_); (case side1 => repeat (first | exact (Kd.C_below HR0.out HB.out) | (with_reducible refine Kd.C_alloc ?_ _) | (with_reducible refine Kd.C_drewN ?_ _) | (with_reducible refine Kd.C_drew ?_))); (case side2 => exact HC0.out); rintro e w170 ⟨rfl, hb⟩; have n0_ := Aside0.mk (Kd.R_below (by exact rq HO322.out) hb); have n1_ := Aside0.mk (Kd.R_below (by exact rq HO325.out) hb); have n2_ := Aside0.mk (Kd.R_below (by exact rq HO331.out) hb); have n3_ := Aside0.mk (Kd.R_below (by exact rq HO334.out) hb); have n4_ := Aside0.mk (below_step (by exact h0q HB.out) hb); clear HO322; clear HO325; clear HO331; clear HO334; clear HB; have HO322 := n0_; have HO325 := n1_; have HO331 := n2_; have HO334 := n3_; have HB := n4_; clear n0_ n1_ n2_ n3_ n4_; (try clear hb); (try clear hb2); (try clear hk); (try clear hi)) | (go_at_call 6; (with_reducible refine (annuitylaw23_wakes.calls k  t355 _ A153.out).mono ?_); rintro e w171 ⟨rfl, hb⟩; have n0_ := Aside0.mk (Kd.R_below (by exact rq HO322.out) hb); have n1_ := Aside0.mk (Kd.R_below (by exact rq HO325.out) hb); have n2_ := Aside0.mk (Kd.R_below (by exact rq HO331.out) hb); have n3_ := Aside0.mk (Kd.R_below (by exact rq HO334.out) hb); have n4_ := Aside0.mk (below_step (by exact h0q HB.out) hb); clear HO322; clear HO325; clear HO331; clear HO334; clear HB; have HO322 := n0_; have HO325 := n1_; have HO331 := n2_; have HO334 := n3_; have HB := n4_; clear n0_ n1_ n2_ n3_ n4_; (try clear hb); (try clear hb2); (try clear hk); (try clear hi)))
               go_ret
               exact ⟨by first | rfl | (simp [errW_none, errW_some] <;> rfl) | (simp [*, errW_none, errW_some] <;> rfl), by exact h0q HB.out⟩
              ·rw [if_neg c152] at H
               exact absurd H (by simp)
            ·rw [if_neg c131] at H
             exact absurd H (by simp)
           ·rw [if_neg c129] at H
            exact absurd H (by simp)
          ·rw [if_neg c128] at H
           exact absurd H (by simp)
         ·rw [if_neg c127] at H
          exact absurd H (by simp)
        ·rw [if_neg c126] at H
         have c126b0 : decide (0 ≤ t350) = false := decide_eq_false c126
         clear c126
         replace H := Option.bind_eq_some_iff.mp H
         obtain ⟨t356, A1720, H⟩ := H
         replace H : (if ((decide (t350 < 0)) == (decide (t356 < 0))) = true then (if (l0.length : Int) > 0 then ((annuitylaw23_wakes.f k).bind fun t357 => (some t357)) else ((order_Last.f k l0).bind fun t358 => (if t358 = (-1) then ((annuitylaw23_wakes.f k).bind fun t359 => (some t359)) else (none)))) else (none)) = some r := H
         have A172 := Aside0.mk A1720
         clear A1720
         by_cases c173 : ((decide (t350 < 0)) == (decide (t356 < 0))) = true
         ·rw [if_pos c173] at H
          have c173b0 : ((decide (t350 < 0)) == (decide (t356 < 0))) = true := c173
          (try (have c173b1 : decide ((decide (t350 < 0)) = (decide (t356 < 0))) = true := by simpa using c173))
          (try (have c173b2 : ((decide (t350 < 0)) == (decide (t356 < 0))) = true := by simpa using c173))
          clear c173
          by_cases c174 : (l0.length : Int) > 0
          ·rw [if_pos c174] at H
           have c174b0 : decide (0 < (l0.length : Int)) = true := decide_eq_true c174
           have c174b1 : decide (0 < l0.length) = true := decide_eq_true (by omega)
           clear c174
           replace H := Option.bind_eq_some_iff.mp H
           obtain ⟨t357, A1750, H⟩ := H
           replace H : (some t357) = some r := H
           have A175 := Aside0.mk A1750
           clear A1750
           obtain rfl := Option.some.inj H
           go_enter Try.func5, Try.ntmps5
           try go_wp2_with (first | ((with_reducible refine gate_dst (N := 11) rfl ?_); (try (refine gate_guard (by rfl) ?_; dsimp only)); refine Kd.R_lit k26 _ 26 ?hg (N := 11) ?hd (xs := ([] : List (S26))) (inner := []) (ok := fun _ => True) (okp := fun _ => True) ?hr ?hp (fun _ hk => hk) trivial (Below.refl _ _) (Nat.le_refl _) (by simp) ?_; (case hd => rfl); (case hg => rfl); (case hr => first | (go_simp; done) | (go_simp; rfl)); (case hp => exact (Reps.none _ _)); intro v318 w176 ho177 hb hg_ hnew_; clear hg_ hnew_; (first | rw [← Ny317.out] at ho177 | (simp only [Int.reduceToNat] at ho177; rw [← Ny317.out] at ho177)); have n0_ := Aside0.mk (Kd.R_lower ho177 (below_size (by exact h0q HB.out))); have n1_ := Aside0.mk (below_step (by exact h0q HB.out) hb); clear HB; have HO319 := n0_; have HB := n1_; clear n0_ n1_; clear hb ho177) | ((with_reducible refine gate_builtin (b := .append) (xs := #[.tmp 11, .tmp 12]) rfl ?_); (try (refine gate_guard (by rfl) ?_; dsimp only)); at_builtin; refine Kd.R_append_rows k26 (w0 := w) w.heap.size rfl (.tmp 11) (.tmp 12) 22 26 (.agg #[(.int .i64 0), (.int .i64 0), (.int .u32 0), (.int .i64 0), (.int .i64 0), (.float .f64 0), (.float .f64 0), (.bool false), (.int .i64 0), (.int .i64 0), (.int .i64 0)]) 88 rfl Try.underlying22 info26 rfl (by decide) (by omega) v318 y317 l0 _ _ _ (fun _ => True) (fun _ => False) rfl rfl ?aO ?aR (fun _ _ h => h) (fun _ h => h.elim) ?aF ?aB ?aS ?aL ?_; (case aR => repeat (first | exact (Kd.C_below HR0.out HB.out) | (with_reducible refine Kd.C_alloc ?_ _) | (with_reducible refine Kd.C_drewN ?_ _) | (with_reducible refine Kd.C_drew ?_))); (case aB => exact (by exact h0q HB.out)); (case aF => exact (fun _ _ => trivial)); (case aO => exact (by exact rq HO319.out)); (case aS => exact (below_size (by exact h0q HB.out))); (case aL => have := LMc6.out; omega); intro v321 w178 ho hb hg hat; rw [← Ny320.out] at ho; have n0_ := Aside0.mk (hb); have n1_ := Aside0.mk (ho); clear HB; clear HO319; have HB := n0_; have HO322 := n1_; clear n0_ n1_; clear ho hb hg hat; obtain ⟨Ao179, co179, eo179⟩ := Kd.R_slice HO322.out; subst eo179) | ((with_reducible refine gate_callee (f := 7) rfl ?_); refine goesL_ (some 14) rfl rfl Try.func7 (by kernel_rfl) rfl #[.slice Ao179 y320.length co179] rfl (by (try simp only [List.map_toArray, List.map_cons, List.map_nil]); first | done | rfl | (simp only [List.length_drop, List.length_take]; rfl)) ?_; (with_reducible refine (order_Sort.calls k _ _ y320 t323 _ ?side1 ?side2 A7.out).mono ?_); (case side1 => repeat (first | exact (Kd.R_reads' HO322.out).2.2 | (with_reducible refine Kd.C_alloc ?_ _) | (with_reducible refine Kd.C_drewN ?_ _) | (with_reducible refine Kd.C_drew ?_))); (case side2 => exact (Kd.R_reads' HO322.out).2.1); rintro e w180 ⟨v324, rfl, ho0, hb⟩; refine ⟨_, rfl, ?_⟩; have n0_ := Aside0.mk (Kd.R_elder' (by exact rq HO322.out) (Kd.R_base ho0) hb); have n1_ := Aside0.mk (Kd.R_lower (Kd.R_new' ho0 (Kd.R_lt (by exact rq HO322.out))) (below_size (by exact h0q HB.out))); have n2_ := Aside0.mk (below_step (by exact h0q HB.out) hb); clear HO322; clear HB; have HO322 := n0_; have HO325 := n1_; have HB := n2_; clear n0_ n1_ n2_; (try clear hb); (try clear hb2); (try clear hk); (try clear hi); (try clear ho0); obtain ⟨Ao181, co181, eo181⟩ := Kd.R_slice HO325.out; subst eo181) | ((with_reducible refine gate_dst (N := 21) rfl ?_); (try (refine gate_guard (by rfl) ?_; dsimp only)); refine Kd.R_lit k26 _ 26 ?hg (N := 21) ?hd (xs := ([] : List (S26))) (inner := []) (ok := fun _ => True) (okp := fun _ => True) ?hr ?hp (fun _ hk => hk) trivial (Below.refl _ _) (Nat.le_refl _) (by simp) ?_; (case hd => rfl); (case hg => rfl); (case hr => first | (go_simp; done) | (go_simp; rfl)); (case hp => exact (Reps.none _ _)); intro v327 w182 ho183 hb hg_ hnew_; clear hg_ hnew_; (first | rw [← Ny326.out] at ho183 | (simp only [Int.reduceToNat] at ho183; rw [← Ny326.out] at ho183)); have n0_ := Aside0.mk (Kd.R_elder' (by exact rq HO322.out) (Kd.R_base ho183) hb); have n1_ := Aside0.mk (Kd.R_elder' (by exact rq HO325.out) (Kd.R_base ho183) hb); have n2_ := Aside0.mk (Kd.R_lower (Kd.R_new' (Kd.R_new' ho183 (Kd.R_lt (by exact rq HO322.out))) (Kd.R_lt (by exact rq HO325.out))) (below_size (by exact h0q HB.out))); have n3_ := Aside0.mk (below_step (by exact h0q HB.out) hb); clear HO322; clear HO325; clear HB; have HO322 := n0_; have HO325 := n1_; have HO328 := n2_; have HB := n3_; clear n0_ n1_ n2_ n3_; clear hb ho183) | ((with_reducible refine gate_builtin (b := .append) (xs := #[.tmp 21, .tmp 22]) rfl ?_); (try (refine gate_guard (by rfl) ?_; dsimp only)); at_builtin; refine Kd.R_append_rows k26 (w0 := w) w.heap.size rfl (.tmp 21) (.tmp 22) 22 26 (.agg #[(.int .i64 0), (.int .i64 0), (.int .u32 0), (.int .i64 0), (.int .i64 0), (.float .f64 0), (.float .f64 0), (.bool false), (.int .i64 0), (.int .i64 0), (.int .i64 0)]) 88 rfl Try.underlying22 info26 rfl (by decide) (by omega) v327 y326 t323 _ _ _ (fun k_ => some k_ ≠ (.slice Ao179 y320.length co179 : Value).ownBlock ∧ some k_ ≠ (.slice Ao181 t323.length co181 : Value).ownBlock) (fun _ => False) rfl rfl ?aO ?aR (fun _ _ h => h) (fun _ h => h.elim) ?aF ?aB ?aS ?aL ?_; (case aR => repeat (first | exact (Kd.R_reads' HO325.out).2.2 | (with_reducible refine Kd.C_alloc ?_ _) | (with_reducible refine Kd.C_drewN ?_ _) | (with_reducible refine Kd.C_drew ?_))); (case aB => exact (by exact h0q HB.out)); (case aF => exact (fun k_ hk => ⟨Kd.fresh' (Kd.R_lt (by exact rq HO322.out)) k_ hk, Kd.fresh' (Kd.R_lt (by exact rq HO325.out)) k_ hk⟩)); (case aO => exact (by (with_reducible repeat (first | apply Kd.R_alloc | apply Kd.R_drewN | apply Kd.R_drew)); exact Kd.R_mono HO328.out (fun _ hk => ⟨hk.1.2, hk.2⟩))); (case aS => exact (below_size (by exact h0q HB.out))); (case aL => have := LMc9.out; omega); intro v330 w184 ho hb hg hat; rw [← Ny329.out] at ho; have n0_ := Aside0.mk (Kd.R_after (ok := (fun k_ => some k_ ≠ (.slice Ao181 t323.length co181 : Value).ownBlock)) (by (with_reducible repeat (first | apply Kd.R_alloc | apply Kd.R_drewN | apply Kd.R_drew)); exact Kd.R_mono HO322.out (fun _ hk => ⟨hk.1.2, hk.2⟩)) hg hat); have n1_ := Aside0.mk (Kd.R_after (ok := (fun k_ => some k_ ≠ (.slice Ao179 y320.length co179 : Value).ownBlock)) (by (with_reducible repeat (first | apply Kd.R_alloc | apply Kd.R_drewN | apply Kd.R_drew)); exact Kd.R_mono HO325.out (fun _ hk => ⟨hk.1.2, hk.2⟩)) hg hat); have n2_ := Aside0.mk (hb); have n3_ := Aside0.mk (ho); clear HO322; clear HO325; clear HB; clear HO328; have HO322 := n0_; have HO325 := n1_; have HB := n2_; have HO331 := n3_; clear n0_ n1_ n2_ n3_; clear ho hb hg hat; obtain ⟨Ao185, co185, eo185⟩ := Kd.R_slice HO331.out; subst eo185) | (go_at_call 7; (with_reducible refine (order_Sort.calls k _ _ y329 t332 _ ?side1 ?side2 A10.out).mono ?_); (case side1 => repeat (first | exact (Kd.R_reads' HO331.out).2.2 | (with_reducible refine Kd.C_alloc ?_ _) | (with_reducible refine Kd.C_drewN ?_ _) | (with_reducible refine Kd.C_drew ?_))); (case side2 => exact (Kd.R_reads' HO331.out).2.1); rintro e w186 ⟨v333, rfl, ho0, hb⟩; have n0_ := Aside0.mk (Kd.R_elder' (by exact rq HO322.out) (Kd.R_base ho0) hb); have n1_ := Aside0.mk (Kd.R_elder' (by exact rq HO325.out) (Kd.R_base ho0) hb); have n2_ := Aside0.mk (Kd.R_elder' (by exact rq HO331.out) (Kd.R_base ho0) hb); have n3_ := Aside0.mk (Kd.R_lower (Kd.R_new' (Kd.R_new' (Kd.R_new' ho0 (Kd.R_lt (by exact rq HO322.out))) (Kd.R_lt (by exact rq HO325.out))) (Kd.R_lt (by exact rq HO331.out))) (below_size (by exact h0q HB.out))); have n4_ := Aside0.mk (below_step (by exact h0q HB.out) hb); clear HO322; clear HO325; clear HO331; clear HB; have HO322 := n0_; have HO325 := n1_; have HO331 := n2_; have HO334 := n3_; have HB := n4_; clear n0_ n1_ n2_ n3_ n4_; (try clear hb); (try clear hb2); (try clear hk); (try clear hi); (try clear ho0); obtain ⟨Ao187, co187, eo187⟩ := Kd.R_slice HO334.out; subst eo187) | (go_at_call 11; (with_reducible refine (annuitykeep_Events.calls k _ _ t332 _ _ t323 true _ ?side1 ?side2 ?side3 ?side4 A11.out).mono ?_); (case side1 => repeat (first | exact (Kd.R_reads' HO334.out).2.2 | (with_reducible refine Kd.C_alloc ?_ _) | (with_reducible refine Kd.C_drewN ?_ _) | (with_reducible refine Kd.C_drew ?_))); (case side2 => exact (Kd.R_reads' HO334.out).2.1); (case side3 => repeat (first | exact (Kd.R_reads' HO325.out).2.2 | (with_reducible refine Kd.C_alloc ?_ _) | (with_reducible refine Kd.C_drewN ?_ _) | (with_reducible refine Kd.C_drew ?_))); (case side4 => exact (Kd.R_reads' HO325.out).2.1); rintro e w188 ⟨rfl, hb⟩; have n0_ := Aside0.mk (Kd.R_below (by exact rq HO322.out) hb); have n1_ := Aside0.mk (Kd.R_below (by exact rq HO325.out) hb); have n2_ := Aside0.mk (Kd.R_below (by exact rq HO331.out) hb); have n3_ := Aside0.mk (Kd.R_below (by exact rq HO334.out) hb); have n4_ := Aside0.mk (below_step (by exact h0q HB.out) hb); clear HO322; clear HO325; clear HO331; clear HO334; clear HB; have HO322 := n0_; have HO325 := n1_; have HO331 := n2_; have HO334 := n3_; have HB := n4_; clear n0_ n1_ n2_ n3_ n4_; (try clear hb); (try clear hb2); (try clear hk); (try clear hi)))
           have n0_ := Aside0.mk (Kd.R_drew HO322.out)
           have n1_ := Aside0.mk (Kd.R_drew HO325.out)
           have n2_ := Aside0.mk (Kd.R_drew HO331.out)
           have n3_ := Aside0.mk (Kd.R_drew HO334.out)
           have n4_ := Aside0.mk (below_drew1 HB.out)
           clear HO322
           clear HO325
           clear HO331
           clear HO334
           clear HB
           have HO322 := n0_
           have HO325 := n1_
           have HO331 := n2_
           have HO334 := n3_
           have HB := n4_
           clear n0_ n1_ n2_ n3_ n4_
           refine start_ (n := 22) (S := fun w' => True) (ds := []) (annuitylaw23_OrderLast.fl 22 0) (by kernel_rfl) rfl rfl trivial (fun hHeld => ?_); refine with_tabW annuitylaw23_OrderLast.tab6 annuitylaw23_OrderLast.bits6 (fun HT_ HW_ => ?_)
           generalize w188.drew = w189 at HO322 HO325 HO331 HO334 HB hHeld ⊢
           refine annuitylaw23_OrderLast.y 0 29 22 1 HT_.out ?_
           refine annuitylaw23_OrderLast.y 1 30 22 3 HT_.out ?_
           refine annuitylaw23_OrderLast.y 2 31 22 7 HT_.out ?_
           refine annuitylaw23_OrderLast.y 3 32 22 15 HT_.out ?_
           refine annuitylaw23_OrderLast.g 4 33 22 31 HT_.out ?_
           refine annuitylaw23_OrderLast.g 5 34 22 63 HT_.out ?_
           refine annuitylaw23_OrderLast.g 6 35 22 127 HT_.out ?_
           refine annuitylaw23_OrderLast.g 7 36 22 255 HT_.out ?_
           refine annuitylaw23_OrderLast.g 8 37 22 511 HT_.out ?_
           refine annuitylaw23_OrderLast.g 9 38 22 1023 HT_.out ?_
           refine annuitylaw23_OrderLast.g 10 39 22 2047 HT_.out ?_
           refine annuitylaw23_OrderLast.g 11 40 22 4095 HT_.out ?_
           refine annuitylaw23_OrderLast.g 12 41 22 8191 HT_.out ?_
           refine annuitylaw23_OrderLast.g 13 42 22 16383 HT_.out ?_
           refine annuitylaw23_OrderLast.g 14 43 22 32767 HT_.out ?_
           refine annuitylaw23_OrderLast.g 15 44 22 65535 HT_.out ?_
           refine annuitylaw23_OrderLast.g 16 45 22 131071 HT_.out ?_
           refine annuitylaw23_OrderLast.g 17 46 22 262143 HT_.out ?_
           refine annuitylaw23_OrderLast.g 18 47 22 524287 HT_.out ?_
           refine annuitylaw23_OrderLast.g 19 48 22 1048575 HT_.out ?_
           refine annuitylaw23_OrderLast.g 20 49 22 2097151 HT_.out ?_
           refine annuitylaw23_OrderLast.y 21 50 22 4194303 HT_.out ?_
           refine done_ (done_of HT_.out (by kernel_rfl)) ?_
           try go_wp2_with (first | ((with_reducible refine gate_callee (f := 14) rfl ?_); refine goesL_ (some 53) rfl rfl Try.func14 (by kernel_rfl) rfl #[.slice Ao181 t323.length co181, .int .u32 a1] rfl (by (try simp only [List.map_toArray, List.map_cons, List.map_nil]); first | done | rfl | (simp only [List.length_drop, List.length_take]; rfl)) ?_; (with_reducible refine (order_Find.calls k _ _ t323 a1 t350 _ ?side1 ?side2 A124.out).mono ?_); (case side1 => repeat (first | exact (Kd.R_reads' HO325.out).2.2 | (with_reducible refine Kd.C_alloc ?_ _) | (with_reducible refine Kd.C_drewN ?_ _) | (with_reducible refine Kd.C_drew ?_))); (case side2 => exact (Kd.R_reads' HO325.out).2.1); rintro e w190 ⟨rfl, hb⟩; refine ⟨_, rfl, ?_⟩; have n0_ := Aside0.mk (Kd.R_below (by exact rq HO322.out) hb); have n1_ := Aside0.mk (Kd.R_below (by exact rq HO325.out) hb); have n2_ := Aside0.mk (Kd.R_below (by exact rq HO331.out) hb); have n3_ := Aside0.mk (Kd.R_below (by exact rq HO334.out) hb); have n4_ := Aside0.mk (below_step (by exact h0q HB.out) hb); clear HO322; clear HO325; clear HO331; clear HO334; clear HB; have HO322 := n0_; have HO325 := n1_; have HO331 := n2_; have HO334 := n3_; have HB := n4_; clear n0_ n1_ n2_ n3_ n4_; (try clear hb); (try clear hb2); (try clear hk); (try clear hi)) | ((with_reducible refine gate_callee (f := 14) rfl ?_); refine goesL_ (some 75) rfl rfl Try.func14 (by kernel_rfl) rfl #[.slice A0 l0.length c0, .int .u32 a1] rfl (by (try simp only [List.map_toArray, List.map_cons, List.map_nil]); first | done | rfl | (simp only [List.length_drop, List.length_take]; rfl)) ?_; (with_reducible refine (order_Find.calls k _ _ l0 a1 t356 _ ?side1 ?side2 A172.out).mono ?_); (case side1 => repeat (first | exact (Kd.C_below HR0.out HB.out) | (with_reducible refine Kd.C_alloc ?_ _) | (with_reducible refine Kd.C_drewN ?_ _) | (with_reducible refine Kd.C_drew ?_))); (case side2 => exact HC0.out); rintro e w191 ⟨rfl, hb⟩; refine ⟨_, rfl, ?_⟩; have n0_ := Aside0.mk (Kd.R_below (by exact rq HO322.out) hb); have n1_ := Aside0.mk (Kd.R_below (by exact rq HO325.out) hb); have n2_ := Aside0.mk (Kd.R_below (by exact rq HO331.out) hb); have n3_ := Aside0.mk (Kd.R_below (by exact rq HO334.out) hb); have n4_ := Aside0.mk (below_step (by exact h0q HB.out) hb); clear HO322; clear HO325; clear HO331; clear HO334; clear HB; have HO322 := n0_; have HO325 := n1_; have HO331 := n2_; have HO334 := n3_; have HB := n4_; clear n0_ n1_ n2_ n3_ n4_; (try clear hb); (try clear hb2); (try clear hk); (try clear hi)) | (go_at_call 6; (with_reducible refine (annuitylaw23_wakes.calls k  t357 _ A175.out).mono ?_); rintro e w192 ⟨rfl, hb⟩; have n0_ := Aside0.mk (Kd.R_below (by exact rq HO322.out) hb); have n1_ := Aside0.mk (Kd.R_below (by exact rq HO325.out) hb); have n2_ := Aside0.mk (Kd.R_below (by exact rq HO331.out) hb); have n3_ := Aside0.mk (Kd.R_below (by exact rq HO334.out) hb); have n4_ := Aside0.mk (below_step (by exact h0q HB.out) hb); clear HO322; clear HO325; clear HO331; clear HO334; clear HB; have HO322 := n0_; have HO325 := n1_; have HO331 := n2_; have HO334 := n3_; have HB := n4_; clear n0_ n1_ n2_ n3_ n4_; (try clear hb); (try clear hb2); (try clear hk); (try clear hi)))
           go_ret
           exact ⟨by first | rfl | (simp [errW_none, errW_some] <;> rfl) | (simp [*, errW_none, errW_some] <;> rfl), by exact h0q HB.out⟩
          ·rw [if_neg c174] at H
           have c174b0 : decide (0 < (l0.length : Int)) = false := decide_eq_false c174
           have c174b1 : decide (0 < l0.length) = false := decide_eq_false (by omega)
           clear c174
           replace H := Option.bind_eq_some_iff.mp H
           obtain ⟨t358, A1930, H⟩ := H
           replace H : (if t358 = (-1) then ((annuitylaw23_wakes.f k).bind fun t359 => (some t359)) else (none)) = some r := H
           have A193 := Aside0.mk A1930
           clear A1930
           by_cases c194 : t358 = (-1)
           ·rw [if_pos c194] at H
            have c194b0 : (t358 == (-1)) = true := beq_iff_eq.mpr c194
            have c194b1 : (t358 != (-1)) = false := bne_eq_false_iff_eq.mpr c194
            clear c194
            replace H := Option.bind_eq_some_iff.mp H
            obtain ⟨t359, A1950, H⟩ := H
            replace H : (some t359) = some r := H
            have A195 := Aside0.mk A1950
            clear A1950
            obtain rfl := Option.some.inj H
            go_enter Try.func5, Try.ntmps5
            try go_wp2_with (first | ((with_reducible refine gate_dst (N := 11) rfl ?_); (try (refine gate_guard (by rfl) ?_; dsimp only)); refine Kd.R_lit k26 _ 26 ?hg (N := 11) ?hd (xs := ([] : List (S26))) (inner := []) (ok := fun _ => True) (okp := fun _ => True) ?hr ?hp (fun _ hk => hk) trivial (Below.refl _ _) (Nat.le_refl _) (by simp) ?_; (case hd => rfl); (case hg => rfl); (case hr => first | (go_simp; done) | (go_simp; rfl)); (case hp => exact (Reps.none _ _)); intro v318 w196 ho197 hb hg_ hnew_; clear hg_ hnew_; (first | rw [← Ny317.out] at ho197 | (simp only [Int.reduceToNat] at ho197; rw [← Ny317.out] at ho197)); have n0_ := Aside0.mk (Kd.R_lower ho197 (below_size (by exact h0q HB.out))); have n1_ := Aside0.mk (below_step (by exact h0q HB.out) hb); clear HB; have HO319 := n0_; have HB := n1_; clear n0_ n1_; clear hb ho197) | ((with_reducible refine gate_builtin (b := .append) (xs := #[.tmp 11, .tmp 12]) rfl ?_); (try (refine gate_guard (by rfl) ?_; dsimp only)); at_builtin; refine Kd.R_append_rows k26 (w0 := w) w.heap.size rfl (.tmp 11) (.tmp 12) 22 26 (.agg #[(.int .i64 0), (.int .i64 0), (.int .u32 0), (.int .i64 0), (.int .i64 0), (.float .f64 0), (.float .f64 0), (.bool false), (.int .i64 0), (.int .i64 0), (.int .i64 0)]) 88 rfl Try.underlying22 info26 rfl (by decide) (by omega) v318 y317 l0 _ _ _ (fun _ => True) (fun _ => False) rfl rfl ?aO ?aR (fun _ _ h => h) (fun _ h => h.elim) ?aF ?aB ?aS ?aL ?_; (case aR => repeat (first | exact (Kd.C_below HR0.out HB.out) | (with_reducible refine Kd.C_alloc ?_ _) | (with_reducible refine Kd.C_drewN ?_ _) | (with_reducible refine Kd.C_drew ?_))); (case aB => exact (by exact h0q HB.out)); (case aF => exact (fun _ _ => trivial)); (case aO => exact (by exact rq HO319.out)); (case aS => exact (below_size (by exact h0q HB.out))); (case aL => have := LMc6.out; omega); intro v321 w198 ho hb hg hat; rw [← Ny320.out] at ho; have n0_ := Aside0.mk (hb); have n1_ := Aside0.mk (ho); clear HB; clear HO319; have HB := n0_; have HO322 := n1_; clear n0_ n1_; clear ho hb hg hat; obtain ⟨Ao199, co199, eo199⟩ := Kd.R_slice HO322.out; subst eo199) | ((with_reducible refine gate_callee (f := 7) rfl ?_); refine goesL_ (some 14) rfl rfl Try.func7 (by kernel_rfl) rfl #[.slice Ao199 y320.length co199] rfl (by (try simp only [List.map_toArray, List.map_cons, List.map_nil]); first | done | rfl | (simp only [List.length_drop, List.length_take]; rfl)) ?_; (with_reducible refine (order_Sort.calls k _ _ y320 t323 _ ?side1 ?side2 A7.out).mono ?_); (case side1 => repeat (first | exact (Kd.R_reads' HO322.out).2.2 | (with_reducible refine Kd.C_alloc ?_ _) | (with_reducible refine Kd.C_drewN ?_ _) | (with_reducible refine Kd.C_drew ?_))); (case side2 => exact (Kd.R_reads' HO322.out).2.1); rintro e w200 ⟨v324, rfl, ho0, hb⟩; refine ⟨_, rfl, ?_⟩; have n0_ := Aside0.mk (Kd.R_elder' (by exact rq HO322.out) (Kd.R_base ho0) hb); have n1_ := Aside0.mk (Kd.R_lower (Kd.R_new' ho0 (Kd.R_lt (by exact rq HO322.out))) (below_size (by exact h0q HB.out))); have n2_ := Aside0.mk (below_step (by exact h0q HB.out) hb); clear HO322; clear HB; have HO322 := n0_; have HO325 := n1_; have HB := n2_; clear n0_ n1_ n2_; (try clear hb); (try clear hb2); (try clear hk); (try clear hi); (try clear ho0); obtain ⟨Ao201, co201, eo201⟩ := Kd.R_slice HO325.out; subst eo201) | ((with_reducible refine gate_dst (N := 21) rfl ?_); (try (refine gate_guard (by rfl) ?_; dsimp only)); refine Kd.R_lit k26 _ 26 ?hg (N := 21) ?hd (xs := ([] : List (S26))) (inner := []) (ok := fun _ => True) (okp := fun _ => True) ?hr ?hp (fun _ hk => hk) trivial (Below.refl _ _) (Nat.le_refl _) (by simp) ?_; (case hd => rfl); (case hg => rfl); (case hr => first | (go_simp; done) | (go_simp; rfl)); (case hp => exact (Reps.none _ _)); intro v327 w202 ho203 hb hg_ hnew_; clear hg_ hnew_; (first | rw [← Ny326.out] at ho203 | (simp only [Int.reduceToNat] at ho203; rw [← Ny326.out] at ho203)); have n0_ := Aside0.mk (Kd.R_elder' (by exact rq HO322.out) (Kd.R_base ho203) hb); have n1_ := Aside0.mk (Kd.R_elder' (by exact rq HO325.out) (Kd.R_base ho203) hb); have n2_ := Aside0.mk (Kd.R_lower (Kd.R_new' (Kd.R_new' ho203 (Kd.R_lt (by exact rq HO322.out))) (Kd.R_lt (by exact rq HO325.out))) (below_size (by exact h0q HB.out))); have n3_ := Aside0.mk (below_step (by exact h0q HB.out) hb); clear HO322; clear HO325; clear HB; have HO322 := n0_; have HO325 := n1_; have HO328 := n2_; have HB := n3_; clear n0_ n1_ n2_ n3_; clear hb ho203) | ((with_reducible refine gate_builtin (b := .append) (xs := #[.tmp 21, .tmp 22]) rfl ?_); (try (refine gate_guard (by rfl) ?_; dsimp only)); at_builtin; refine Kd.R_append_rows k26 (w0 := w) w.heap.size rfl (.tmp 21) (.tmp 22) 22 26 (.agg #[(.int .i64 0), (.int .i64 0), (.int .u32 0), (.int .i64 0), (.int .i64 0), (.float .f64 0), (.float .f64 0), (.bool false), (.int .i64 0), (.int .i64 0), (.int .i64 0)]) 88 rfl Try.underlying22 info26 rfl (by decide) (by omega) v327 y326 t323 _ _ _ (fun k_ => some k_ ≠ (.slice Ao199 y320.length co199 : Value).ownBlock ∧ some k_ ≠ (.slice Ao201 t323.length co201 : Value).ownBlock) (fun _ => False) rfl rfl ?aO ?aR (fun _ _ h => h) (fun _ h => h.elim) ?aF ?aB ?aS ?aL ?_; (case aR => repeat (first | exact (Kd.R_reads' HO325.out).2.2 | (with_reducible refine Kd.C_alloc ?_ _) | (with_reducible refine Kd.C_drewN ?_ _) | (with_reducible refine Kd.C_drew ?_))); (case aB => exact (by exact h0q HB.out)); (case aF => exact (fun k_ hk => ⟨Kd.fresh' (Kd.R_lt (by exact rq HO322.out)) k_ hk, Kd.fresh' (Kd.R_lt (by exact rq HO325.out)) k_ hk⟩)); (case aO => exact (by (with_reducible repeat (first | apply Kd.R_alloc | apply Kd.R_drewN | apply Kd.R_drew)); exact Kd.R_mono HO328.out (fun _ hk => ⟨hk.1.2, hk.2⟩))); (case aS => exact (below_size (by exact h0q HB.out))); (case aL => have := LMc9.out; omega); intro v330 w204 ho hb hg hat; rw [← Ny329.out] at ho; have n0_ := Aside0.mk (Kd.R_after (ok := (fun k_ => some k_ ≠ (.slice Ao201 t323.length co201 : Value).ownBlock)) (by (with_reducible repeat (first | apply Kd.R_alloc | apply Kd.R_drewN | apply Kd.R_drew)); exact Kd.R_mono HO322.out (fun _ hk => ⟨hk.1.2, hk.2⟩)) hg hat); have n1_ := Aside0.mk (Kd.R_after (ok := (fun k_ => some k_ ≠ (.slice Ao199 y320.length co199 : Value).ownBlock)) (by (with_reducible repeat (first | apply Kd.R_alloc | apply Kd.R_drewN | apply Kd.R_drew)); exact Kd.R_mono HO325.out (fun _ hk => ⟨hk.1.2, hk.2⟩)) hg hat); have n2_ := Aside0.mk (hb); have n3_ := Aside0.mk (ho); clear HO322; clear HO325; clear HB; clear HO328; have HO322 := n0_; have HO325 := n1_; have HB := n2_; have HO331 := n3_; clear n0_ n1_ n2_ n3_; clear ho hb hg hat; obtain ⟨Ao205, co205, eo205⟩ := Kd.R_slice HO331.out; subst eo205) | (go_at_call 7; (with_reducible refine (order_Sort.calls k _ _ y329 t332 _ ?side1 ?side2 A10.out).mono ?_); (case side1 => repeat (first | exact (Kd.R_reads' HO331.out).2.2 | (with_reducible refine Kd.C_alloc ?_ _) | (with_reducible refine Kd.C_drewN ?_ _) | (with_reducible refine Kd.C_drew ?_))); (case side2 => exact (Kd.R_reads' HO331.out).2.1); rintro e w206 ⟨v333, rfl, ho0, hb⟩; have n0_ := Aside0.mk (Kd.R_elder' (by exact rq HO322.out) (Kd.R_base ho0) hb); have n1_ := Aside0.mk (Kd.R_elder' (by exact rq HO325.out) (Kd.R_base ho0) hb); have n2_ := Aside0.mk (Kd.R_elder' (by exact rq HO331.out) (Kd.R_base ho0) hb); have n3_ := Aside0.mk (Kd.R_lower (Kd.R_new' (Kd.R_new' (Kd.R_new' ho0 (Kd.R_lt (by exact rq HO322.out))) (Kd.R_lt (by exact rq HO325.out))) (Kd.R_lt (by exact rq HO331.out))) (below_size (by exact h0q HB.out))); have n4_ := Aside0.mk (below_step (by exact h0q HB.out) hb); clear HO322; clear HO325; clear HO331; clear HB; have HO322 := n0_; have HO325 := n1_; have HO331 := n2_; have HO334 := n3_; have HB := n4_; clear n0_ n1_ n2_ n3_ n4_; (try clear hb); (try clear hb2); (try clear hk); (try clear hi); (try clear ho0); obtain ⟨Ao207, co207, eo207⟩ := Kd.R_slice HO334.out; subst eo207) | (go_at_call 11; (with_reducible refine (annuitykeep_Events.calls k _ _ t332 _ _ t323 true _ ?side1 ?side2 ?side3 ?side4 A11.out).mono ?_); (case side1 => repeat (first | exact (Kd.R_reads' HO334.out).2.2 | (with_reducible refine Kd.C_alloc ?_ _) | (with_reducible refine Kd.C_drewN ?_ _) | (with_reducible refine Kd.C_drew ?_))); (case side2 => exact (Kd.R_reads' HO334.out).2.1); (case side3 => repeat (first | exact (Kd.R_reads' HO325.out).2.2 | (with_reducible refine Kd.C_alloc ?_ _) | (with_reducible refine Kd.C_drewN ?_ _) | (with_reducible refine Kd.C_drew ?_))); (case side4 => exact (Kd.R_reads' HO325.out).2.1); rintro e w208 ⟨rfl, hb⟩; have n0_ := Aside0.mk (Kd.R_below (by exact rq HO322.out) hb); have n1_ := Aside0.mk (Kd.R_below (by exact rq HO325.out) hb); have n2_ := Aside0.mk (Kd.R_below (by exact rq HO331.out) hb); have n3_ := Aside0.mk (Kd.R_below (by exact rq HO334.out) hb); have n4_ := Aside0.mk (below_step (by exact h0q HB.out) hb); clear HO322; clear HO325; clear HO331; clear HO334; clear HB; have HO322 := n0_; have HO325 := n1_; have HO331 := n2_; have HO334 := n3_; have HB := n4_; clear n0_ n1_ n2_ n3_ n4_; (try clear hb); (try clear hb2); (try clear hk); (try clear hi)))
            have n0_ := Aside0.mk (Kd.R_drew HO322.out)
            have n1_ := Aside0.mk (Kd.R_drew HO325.out)
            have n2_ := Aside0.mk (Kd.R_drew HO331.out)
            have n3_ := Aside0.mk (Kd.R_drew HO334.out)
            have n4_ := Aside0.mk (below_drew1 HB.out)
            clear HO322
            clear HO325
            clear HO331
            clear HO334
            clear HB
            have HO322 := n0_
            have HO325 := n1_
            have HO331 := n2_
            have HO334 := n3_
            have HB := n4_
            clear n0_ n1_ n2_ n3_ n4_
            refine start_ (n := 22) (S := fun w' => True) (ds := []) (annuitylaw23_OrderLast.fl 22 0) (by kernel_rfl) rfl rfl trivial (fun hHeld => ?_); refine with_tabW annuitylaw23_OrderLast.tab6 annuitylaw23_OrderLast.bits6 (fun HT_ HW_ => ?_)
            generalize w208.drew = w209 at HO322 HO325 HO331 HO334 HB hHeld ⊢
            refine annuitylaw23_OrderLast.y 0 29 22 1 HT_.out ?_
            refine annuitylaw23_OrderLast.y 1 30 22 3 HT_.out ?_
            refine annuitylaw23_OrderLast.y 2 31 22 7 HT_.out ?_
            refine annuitylaw23_OrderLast.y 3 32 22 15 HT_.out ?_
            refine annuitylaw23_OrderLast.g 4 33 22 31 HT_.out ?_
            refine annuitylaw23_OrderLast.g 5 34 22 63 HT_.out ?_
            refine annuitylaw23_OrderLast.g 6 35 22 127 HT_.out ?_
            refine annuitylaw23_OrderLast.g 7 36 22 255 HT_.out ?_
            refine annuitylaw23_OrderLast.g 8 37 22 511 HT_.out ?_
            refine annuitylaw23_OrderLast.g 9 38 22 1023 HT_.out ?_
            refine annuitylaw23_OrderLast.g 10 39 22 2047 HT_.out ?_
            refine annuitylaw23_OrderLast.g 11 40 22 4095 HT_.out ?_
            refine annuitylaw23_OrderLast.g 12 41 22 8191 HT_.out ?_
            refine annuitylaw23_OrderLast.g 13 42 22 16383 HT_.out ?_
            refine annuitylaw23_OrderLast.g 14 43 22 32767 HT_.out ?_
            refine annuitylaw23_OrderLast.g 15 44 22 65535 HT_.out ?_
            refine annuitylaw23_OrderLast.g 16 45 22 131071 HT_.out ?_
            refine annuitylaw23_OrderLast.g 17 46 22 262143 HT_.out ?_
            refine annuitylaw23_OrderLast.g 18 47 22 524287 HT_.out ?_
            refine annuitylaw23_OrderLast.g 19 48 22 1048575 HT_.out ?_
            refine annuitylaw23_OrderLast.g 20 49 22 2097151 HT_.out ?_
            refine annuitylaw23_OrderLast.y 21 50 22 4194303 HT_.out ?_
            refine done_ (done_of HT_.out (by kernel_rfl)) ?_
            try go_wp2_with (first | ((with_reducible refine gate_callee (f := 14) rfl ?_); refine goesL_ (some 53) rfl rfl Try.func14 (by kernel_rfl) rfl #[.slice Ao201 t323.length co201, .int .u32 a1] rfl (by (try simp only [List.map_toArray, List.map_cons, List.map_nil]); first | done | rfl | (simp only [List.length_drop, List.length_take]; rfl)) ?_; (with_reducible refine (order_Find.calls k _ _ t323 a1 t350 _ ?side1 ?side2 A124.out).mono ?_); (case side1 => repeat (first | exact (Kd.R_reads' HO325.out).2.2 | (with_reducible refine Kd.C_alloc ?_ _) | (with_reducible refine Kd.C_drewN ?_ _) | (with_reducible refine Kd.C_drew ?_))); (case side2 => exact (Kd.R_reads' HO325.out).2.1); rintro e w210 ⟨rfl, hb⟩; refine ⟨_, rfl, ?_⟩; have n0_ := Aside0.mk (Kd.R_below (by exact rq HO322.out) hb); have n1_ := Aside0.mk (Kd.R_below (by exact rq HO325.out) hb); have n2_ := Aside0.mk (Kd.R_below (by exact rq HO331.out) hb); have n3_ := Aside0.mk (Kd.R_below (by exact rq HO334.out) hb); have n4_ := Aside0.mk (below_step (by exact h0q HB.out) hb); clear HO322; clear HO325; clear HO331; clear HO334; clear HB; have HO322 := n0_; have HO325 := n1_; have HO331 := n2_; have HO334 := n3_; have HB := n4_; clear n0_ n1_ n2_ n3_ n4_; (try clear hb); (try clear hb2); (try clear hk); (try clear hi)) | ((with_reducible refine gate_callee (f := 14) rfl ?_); refine goesL_ (some 75) rfl rfl Try.func14 (by kernel_rfl) rfl #[.slice A0 l0.length c0, .int .u32 a1] rfl (by (try simp only [List.map_toArray, List.map_cons, List.map_nil]); first | done | rfl | (simp only [List.length_drop, List.length_take]; rfl)) ?_; (with_reducible refine (order_Find.calls k _ _ l0 a1 t356 _ ?side1 ?side2 A172.out).mono ?_); (case side1 => repeat (first | exact (Kd.C_below HR0.out HB.out) | (with_reducible refine Kd.C_alloc ?_ _) | (with_reducible refine Kd.C_drewN ?_ _) | (with_reducible refine Kd.C_drew ?_))); (case side2 => exact HC0.out); rintro e w211 ⟨rfl, hb⟩; refine ⟨_, rfl, ?_⟩; have n0_ := Aside0.mk (Kd.R_below (by exact rq HO322.out) hb); have n1_ := Aside0.mk (Kd.R_below (by exact rq HO325.out) hb); have n2_ := Aside0.mk (Kd.R_below (by exact rq HO331.out) hb); have n3_ := Aside0.mk (Kd.R_below (by exact rq HO334.out) hb); have n4_ := Aside0.mk (below_step (by exact h0q HB.out) hb); clear HO322; clear HO325; clear HO331; clear HO334; clear HB; have HO322 := n0_; have HO325 := n1_; have HO331 := n2_; have HO334 := n3_; have HB := n4_; clear n0_ n1_ n2_ n3_ n4_; (try clear hb); (try clear hb2); (try clear hk); (try clear hi)) | (go_at_call 16; (with_reducible refine (order_Last.calls k _ _ l0 t358 _ ?side1 ?side2 A193.out).mono ?_); (case side1 => repeat (first | exact (Kd.C_below HR0.out HB.out) | (with_reducible refine Kd.C_alloc ?_ _) | (with_reducible refine Kd.C_drewN ?_ _) | (with_reducible refine Kd.C_drew ?_))); (case side2 => exact HC0.out); rintro e w212 ⟨rfl, hb⟩; have n0_ := Aside0.mk (Kd.R_below (by exact rq HO322.out) hb); have n1_ := Aside0.mk (Kd.R_below (by exact rq HO325.out) hb); have n2_ := Aside0.mk (Kd.R_below (by exact rq HO331.out) hb); have n3_ := Aside0.mk (Kd.R_below (by exact rq HO334.out) hb); have n4_ := Aside0.mk (below_step (by exact h0q HB.out) hb); clear HO322; clear HO325; clear HO331; clear HO334; clear HB; have HO322 := n0_; have HO325 := n1_; have HO331 := n2_; have HO334 := n3_; have HB := n4_; clear n0_ n1_ n2_ n3_ n4_; (try clear hb); (try clear hb2); (try clear hk); (try clear hi)) | (go_at_call 6; (with_reducible refine (annuitylaw23_wakes.calls k  t359 _ A195.out).mono ?_); rintro e w213 ⟨rfl, hb⟩; have n0_ := Aside0.mk (Kd.R_below (by exact rq HO322.out) hb); have n1_ := Aside0.mk (Kd.R_below (by exact rq HO325.out) hb); have n2_ := Aside0.mk (Kd.R_below (by exact rq HO331.out) hb); have n3_ := Aside0.mk (Kd.R_below (by exact rq HO334.out) hb); have n4_ := Aside0.mk (below_step (by exact h0q HB.out) hb); clear HO322; clear HO325; clear HO331; clear HO334; clear HB; have HO322 := n0_; have HO325 := n1_; have HO331 := n2_; have HO334 := n3_; have HB := n4_; clear n0_ n1_ n2_ n3_ n4_; (try clear hb); (try clear hb2); (try clear hk); (try clear hi)))
            go_ret
            exact ⟨by first | rfl | (simp [errW_none, errW_some] <;> rfl) | (simp [*, errW_none, errW_some] <;> rfl), by exact h0q HB.out⟩
           ·rw [if_neg c194] at H
            exact absurd H (by simp)
         ·rw [if_neg c173] at H
          exact absurd H (by simp)
     ·replace c12 := Bool.eq_false_iff.mpr c12
      subst c12
      have H1 : (none) = some r := by rw [if_neg (show ¬ (false = true) by decide)] at H; exact H
      clear H
      have H := H1
      clear H1
      exact absurd H (by simp)
    ·rw [if_neg c9] at H
     exact absurd H (by simp)
   ·rw [if_neg c8] at H
    exact absurd H (by simp)
  ·rw [if_neg c6] at H
   exact absurd H (by simp)

/-- What is known of an element that came in. -/
def annuitylaw23_OrderLast.wf26 (x : S26) : Prop := (Lit.int .i64 x.f0).wf = true ∧ (Lit.int .i64 x.f1).wf = true ∧ (Lit.int .u32 x.f2).wf = true ∧ (Lit.int .i64 x.f3).wf = true ∧ (Lit.int .i64 x.f4).wf = true ∧ (Lit.int .i64 x.f8).wf = true ∧ (Lit.int .i64 x.f9).wf = true ∧ (Lit.int .i64 x.f10).wf = true
/-- THE ONE PURE STATEMENT of annuitylaw23_OrderLast: yours. -/
def annuitylaw23_OrderLast.Pure : Prop := ∀ (l0 : List (S26)) (a1 : Int), l0.length ≤ maxLen → l0.length * 88 ≤ 140737488351232 → (∀ x ∈ l0, annuitylaw23_OrderLast.wf26 x) → (Lit.int .u32 a1).wf = true → ∃ k, annuitylaw23_OrderLast.f k l0 a1 = some true
theorem annuitylaw23_OrderLast.walk (P : annuitylaw23_OrderLast.Pure) (a0 : Option Addr) (cap0 : Nat) (l0 : List S26) (a1 : Int) (w : World) (hr0 : Kd.C k26 w a0 l0.length l0) (hc0 : l0.length ≤ cap0) (hm0 : l0.length ≤ maxLen) (y0 : l0.length * 88 ≤ 140737488351232) (hw0 : ∀ x ∈ l0, annuitylaw23_OrderLast.wf26 x) (w1 : (Lit.int .u32 a1).wf = true) :
  Calls Try.prog 5 #[.slice a0 l0.length cap0, .int .u32 a1] w fun e w' => e = .returned (.bool true) ∧ Below w.heap.size w w' := by
 obtain ⟨k, h⟩ := P l0 a1 hm0 y0 hw0 w1
 refine (annuitylaw23_OrderLast.calls k _ _ l0 a1 true w hr0 hc0 h).mono ?_
 rintro e w' ⟨rfl, hd⟩
 exact ⟨rfl, hd⟩

end Go.Proofs.Ytjdhhbjnihhncaa.P
