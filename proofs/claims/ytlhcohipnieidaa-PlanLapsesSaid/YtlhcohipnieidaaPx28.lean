/- Functions of the program as plain Lean functions, and proofs that its calls come to just their answers, where they tell one (written by a program of this session). -/
import Derived.Test.YtlhcohipnieidaaZaa
import Derived.Test.YtlhcohipnieidaaPx0
import Derived.Test.YtlhcohipnieidaaPx1
import Derived.Test.YtlhcohipnieidaaZg
import Derived.Test.YtlhcohipnieidaaZp
namespace Go.Proofs.Ytlhcohipnieidaa.P
open Go.RowKit Go.Proofs.YtlhcohipnieidaaW.PrintWords Go.Proofs.YtlhcohipnieidaaW.PrintLast Go.Proofs.YtlhcohipnieidaaW.PrintMore
attribute [local go_sem] max2_int min2_int max_two min_two max_three min_three max_four min_four   -- for this text's walks alone
set_option linter.unusedVariables false
set_option linter.unusedSimpArgs false

/-! ### share_Split: function 52 -/
mutual
def share_Split.j0 : Nat → Int → List Int → Int → Bool → Option (List Int × Int)
 | 0, _, _, _, _ => none
 | k + 1, x0, x1, x6, x36 => if x36 = true then (some (([] : List Int), 1)) else (if 0 ≤ (x1.length : Int) then (if ((x1.length : Int) : Int).toNat ≤ 35184372088832 then (share_Split.l0 k x0 x6 (List.replicate ((x1.length : Int) : Int).toNat 0) (List.replicate ((x1.length : Int) : Int).toNat 0) x0 x1 (x1.length : Int) 0) else (none)) else (none))
def share_Split.l0 : Nat → Int → Int → List Int → List Int → Int → List Int → Int → Int → Option (List Int × Int)
 | 0, _, _, _, _, _, _, _, _ => none
 | k + 1, x0, x6, x8, x9, x10, x44, x45, x46 => if x46 < x45 then (if 0 ≤ x46 then (if x46 < (x44.length : Int) then ((money_Mul.f (IntKind.u64.wrap (x0)) (IntKind.u64.wrap (rd x44 x46))).bind fun bt271 => ((money_Div.f k bt271.1 bt271.2 (IntKind.u64.wrap (x6))).bind fun bt273 => (if x46 < (x8.length : Int) then ((some (x8.set (x46 : Int).toNat (wrap64 (bt273.1)) : List Int)).bind fun y276 => (if x46 < (x9.length : Int) then (share_Split.l0 k x0 x6 y276 (x9.set (x46 : Int).toNat bt273.2.1) (wrap64 (x10 - (rd y276 x46))) x44 x45 (wrap64 (x46 + 1))) else (none))) else (none)))) else (none)) else (none)) else ((share_places_uint64.f k x9).bind fun t279 => (if 0 ≤ x10 then (if x10 ≤ (t279.length : Int) then ((some (t279.take (x10 : Int).toNat : List Int)).bind fun y282 => (share_Split.l1 k x8 y282 (y282.length : Int) 0)) else (none)) else (none)))
def share_Split.l1 : Nat → List Int → List Int → Int → Int → Option (List Int × Int)
 | 0, _, _, _, _ => none
 | k + 1, x8, x87, x88, x89 => if x89 < x88 then (if 0 ≤ x89 then (if x89 < (x87.length : Int) then (if 0 ≤ (rd x87 x89) then (if (rd x87 x89) < (x8.length : Int) then (share_Split.l1 k (x8.set ((rd x87 x89) : Int).toNat (wrap64 ((rd x8 (rd x87 x89)) + 1))) x87 x88 (wrap64 (x89 + 1))) else (none)) else (none)) else (none)) else (none)) else (some (x8, 0))
end
def share_Split.f (k : Nat) (a0 : Int) (l1 : List Int) : Option (List Int × Int) := (money_Sum.f l1).bind fun bt261 => ((share_good.f k a0 l1).bind fun t263 => (if t263 = true then (if bt261.2 = 0 then (share_Split.j0 k a0 l1 bt261.1 (decide (bt261.1 ≤ 0))) else (share_Split.j0 k a0 l1 bt261.1 true)) else (share_Split.j0 k a0 l1 bt261.1 true)))
def share_Split.T4 : Bool × List (List Nat × List Nat) := (true, [([], []), ([0], [0]), ([1, 1], [1]), ([], []), ([3], [3]), ([4, 4], [4]), ([2, 0, 1, 2], [2]), ([5, 6, 0, 1, 2, 3, 4, 5, 6], [5])])
def share_Split.B4 : List Nat := [0, 1, 3, 0, 8, 24, 7, 127]
theorem share_Split.tab4 : rtab .any (opsOf Try.f52 4) = share_Split.T4 := by kernel_rfl
theorem share_Split.bits4 : waitsOk share_Split.T4.2 share_Split.B4 = true := by kernel_rfl
set_option maxHeartbeats 8000000 in
set_option maxRecDepth 100000 in
theorem share_Split.calls (k : Nat) (a0 : Int) (A1 : Option Addr) (c1 : Nat) (l1 : List Int) (r1 : List Int) (r2 : Int) (w : World) (hr1 : Kd.C (Kd.int .i64) w A1 l1.length l1) (hc1 : l1.length ≤ c1) (h : share_Split.f k a0 l1 = some (r1, r2)) :
  Calls Try.prog 52 #[.int .i64 a0, .slice A1 l1.length c1] w fun e w' => ∃ v0_ : Value, e = .returned (.tuple #[v0_, .int .i64 r2]) ∧ Kd.R (Kd.int .i64) 2 w' w.heap.size (fun _ => True) v0_ r1 ∧ Below w.heap.size w w' := by
 have HR1 := Aside0.mk hr1
 have HC1 := Aside0.mk hc1
 clear hr1 hc1
 have HB := Aside0.mk (Below.refl w.heap.size w)
 have H : ((money_Sum.f l1).bind fun bt261 => ((share_good.f k a0 l1).bind fun t263 => (if t263 = true then (if bt261.2 = 0 then (share_Split.j0 k a0 l1 bt261.1 (decide (bt261.1 ≤ 0))) else (share_Split.j0 k a0 l1 bt261.1 true)) else (share_Split.j0 k a0 l1 bt261.1 true)))) = some (r1, r2) := h
 clear h
 replace H := Option.bind_eq_some_iff.mp H
 obtain ⟨⟨t261, t262⟩, A30, H⟩ := H
 replace H : ((share_good.f k a0 l1).bind fun t263 => (if t263 = true then (if t262 = 0 then (share_Split.j0 k a0 l1 t261 (decide (t261 ≤ 0))) else (share_Split.j0 k a0 l1 t261 true)) else (share_Split.j0 k a0 l1 t261 true))) = some (r1, r2) := H
 have A3 := Aside0.mk A30
 clear A30
 have HC4 := Aside0.mk H
 clear H
 go_enter Try.func52, Try.ntmps52
 go_upto_region 2 with (first | ((with_reducible refine gate_callee (f := 64) rfl ?_); refine goesL_ (some 22) rfl rfl Try.func64 (by kernel_rfl) rfl #[.slice A1 l1.length c1] rfl (by (try simp only [List.map_toArray, List.map_cons, List.map_nil]); first | done | rfl | (simp only [List.length_drop, List.length_take]; rfl)) ?_; (with_reducible refine (money_Sum.calls _ _ l1 t261 t262 _ ?side1 ?side2 A3.out).mono ?_); (case side1 => repeat (first | exact HR1.out | (with_reducible refine Kd.C_alloc ?_ _) | (with_reducible refine Kd.C_drewN ?_ _) | (with_reducible refine Kd.C_drew ?_))); (case side2 => exact HC1.out); rintro e w5 ⟨rfl, hb⟩; refine ⟨_, rfl, ?_⟩; have n0_ := Aside0.mk (below_step (by exact h0q HB.out) hb); clear HB; have HB := n0_; clear n0_; (try clear hb); (try clear hb2); (try clear hk); (try clear hi)))
 (try simp only [Act.put, List.setIfInBounds_toArray, List.set_cons_zero, List.set_cons_succ])
 go_cut [36] (fun v36 wc => ∃ (kq : Nat) (x36_3 : Bool), v36 = .bool x36_3 ∧ Aside0 (share_Split.j0 kq a0 l1 t261 x36_3 = some (r1, r2)) ∧ Aside0 (kq ≤ k) ∧ Aside0 (Below w.heap.size w wc))
 case first =>
  have H := HC4.out
  clear HC4
  replace H := Option.bind_eq_some_iff.mp H
  obtain ⟨t263, A60, H⟩ := H
  replace H : (if t263 = true then (if t262 = 0 then (share_Split.j0 k a0 l1 t261 (decide (t261 ≤ 0))) else (share_Split.j0 k a0 l1 t261 true)) else (share_Split.j0 k a0 l1 t261 true)) = some (r1, r2) := H
  have A6 := Aside0.mk A60
  clear A60
  by_cases c7 : t263 = true
  ·subst c7
   have H1 : (if t262 = 0 then (share_Split.j0 k a0 l1 t261 (decide (t261 ≤ 0))) else (share_Split.j0 k a0 l1 t261 true)) = some (r1, r2) := by rw [if_pos rfl] at H; exact H
   clear H
   have H := H1
   clear H1
   by_cases c8 : t262 = 0
   ·rw [if_pos c8] at H
    have c8b0 : (t262 == 0) = true := beq_iff_eq.mpr c8
    have c8b1 : (t262 != 0) = false := bne_eq_false_iff_eq.mpr c8
    clear c8
    (first | rw [c8b0] | (simp only [i64_w, i32_w]; rw [c8b0]) | skip)
    have H' := Aside0.mk H
    clear H
    go_wp2_with (first | ((with_reducible refine gate_callee (f := 65) rfl ?_); refine goesL_ (some 27) rfl rfl Try.func65 (by kernel_rfl) rfl #[.int .i64 a0, .slice A1 l1.length c1] rfl (by (try simp only [List.map_toArray, List.map_cons, List.map_nil]); first | done | rfl | (simp only [List.length_drop, List.length_take]; rfl)) ?_; (with_reducible refine (share_good.calls k a0 _ _ l1 true _ ?side1 ?side2 A6.out).mono ?_); (case side1 => repeat (first | exact (Kd.C_below HR1.out HB.out) | (with_reducible refine Kd.C_alloc ?_ _) | (with_reducible refine Kd.C_drewN ?_ _) | (with_reducible refine Kd.C_drew ?_))); (case side2 => exact HC1.out); rintro e w9 ⟨rfl, hb⟩; refine ⟨_, rfl, ?_⟩; have n0_ := Aside0.mk (below_step (by exact h0q HB.out) hb); clear HB; have HB := n0_; clear n0_; (try clear hb); (try clear hb2); (try clear hk); (try clear hi)))
    go_meet
    case rel => exact ⟨_, (decide (t261 ≤ 0)), (by first | rfl | (simp; done) | (simp [*]; done)), H', ⟨by first | omega | exact Nat.le_refl _⟩, ⟨by exact h0q HB.out⟩⟩
   ·rw [if_neg c8] at H
    have c8b0 : (t262 == 0) = false := beq_eq_false_iff_ne.mpr c8
    have c8b1 : (t262 != 0) = true := bne_iff_ne.mpr c8
    (first | rw [c8b0] | (simp only [i64_w, i32_w]; rw [c8b0]) | skip)
    have H' := Aside0.mk H
    clear H
    go_wp2_with (first | ((with_reducible refine gate_callee (f := 65) rfl ?_); refine goesL_ (some 27) rfl rfl Try.func65 (by kernel_rfl) rfl #[.int .i64 a0, .slice A1 l1.length c1] rfl (by (try simp only [List.map_toArray, List.map_cons, List.map_nil]); first | done | rfl | (simp only [List.length_drop, List.length_take]; rfl)) ?_; (with_reducible refine (share_good.calls k a0 _ _ l1 true _ ?side1 ?side2 A6.out).mono ?_); (case side1 => repeat (first | exact (Kd.C_below HR1.out HB.out) | (with_reducible refine Kd.C_alloc ?_ _) | (with_reducible refine Kd.C_drewN ?_ _) | (with_reducible refine Kd.C_drew ?_))); (case side2 => exact HC1.out); rintro e w10 ⟨rfl, hb⟩; refine ⟨_, rfl, ?_⟩; have n0_ := Aside0.mk (below_step (by exact h0q HB.out) hb); clear HB; have HB := n0_; clear n0_; (try clear hb); (try clear hb2); (try clear hk); (try clear hi)))
    go_meet
    case rel => exact ⟨_, (true), (by first | rfl | (simp; done) | (simp [*]; done)), H', ⟨by first | omega | exact Nat.le_refl _⟩, ⟨by exact h0q HB.out⟩⟩
  ·replace c7 := Bool.eq_false_iff.mpr c7
   subst c7
   have H1 : (share_Split.j0 k a0 l1 t261 true) = some (r1, r2) := by rw [if_neg (show ¬ (false = true) by decide)] at H; exact H
   clear H
   have H := H1
   clear H1
   have H' := Aside0.mk H
   clear H
   go_wp2_with (first | ((with_reducible refine gate_callee (f := 65) rfl ?_); refine goesL_ (some 27) rfl rfl Try.func65 (by kernel_rfl) rfl #[.int .i64 a0, .slice A1 l1.length c1] rfl (by (try simp only [List.map_toArray, List.map_cons, List.map_nil]); first | done | rfl | (simp only [List.length_drop, List.length_take]; rfl)) ?_; (with_reducible refine (share_good.calls k a0 _ _ l1 false _ ?side1 ?side2 A6.out).mono ?_); (case side1 => repeat (first | exact (Kd.C_below HR1.out HB.out) | (with_reducible refine Kd.C_alloc ?_ _) | (with_reducible refine Kd.C_drewN ?_ _) | (with_reducible refine Kd.C_drew ?_))); (case side2 => exact HC1.out); rintro e w11 ⟨rfl, hb⟩; refine ⟨_, rfl, ?_⟩; have n0_ := Aside0.mk (below_step (by exact h0q HB.out) hb); clear HB; have HB := n0_; clear n0_; (try clear hb); (try clear hb2); (try clear hk); (try clear hi)))
   go_meet
   case rel => exact ⟨_, (true), (by first | rfl | (simp; done) | (simp [*]; done)), H', ⟨by first | omega | exact Nat.le_refl _⟩, ⟨by exact h0q HB.out⟩⟩
 case rest =>
  clear HC4
  try clear c1
  try clear c7
  try clear c8
  try clear c8b0 c8b1
  obtain ⟨kq, x36_3, rfl, HA, HJ3, HB⟩ := hcut
  rcases kq with _ | kj3
  ·exact absurd HA.out (by simp [share_Split.j0])
  have H := HA.out
  clear HA
  simp only [share_Split.j0] at H
  by_cases c12 : x36_3 = true
  ·subst c12
   have H1 : (some (([] : List Int), 1)) = some (r1, r2) := by rw [if_pos rfl] at H; exact H
   clear H
   have H := H1
   clear H1
   simp only [Option.some.injEq, Prod.mk.injEq] at H
   obtain ⟨rfl, rfl⟩ := H
   go_wp2
   go_ret2
   exact ⟨_, by first | rfl | (simp [errW_none, errW_some] <;> rfl) | (simp [*, errW_none, errW_some] <;> rfl), by first | exact Kd.R_nil _ _ _ _ _ | exact Kd.N_nil _ _ _ _ _ | exact Kd.V_nil _ _ _ _ _ | exact Kd.Q_nil _ _ _ _ _ | exact Kd.S_nil _ _ _ _ _, by exact h0q HB.out⟩
  ·replace c12 := Bool.eq_false_iff.mpr c12
   subst c12
   have H1 : (if 0 ≤ (l1.length : Int) then (if ((l1.length : Int) : Int).toNat ≤ 35184372088832 then (share_Split.l0 kj3 a0 t261 (List.replicate ((l1.length : Int) : Int).toNat 0) (List.replicate ((l1.length : Int) : Int).toNat 0) a0 l1 (l1.length : Int) 0) else (none)) else (none)) = some (r1, r2) := by rw [if_neg (show ¬ (false = true) by decide)] at H; exact H
   clear H
   have H := H1
   clear H1
   by_cases c13 : 0 ≤ (l1.length : Int)
   ·rw [if_pos c13] at H
    have c13b0 := eq_true c13
    have c13b1 : decide (0 ≤ (l1.length : Int)) = true := decide_eq_true c13
    clear c13
    by_cases c14 : ((l1.length : Int) : Int).toNat ≤ 35184372088832
    ·rw [if_pos c14] at H
     have c14b0 := eq_true c14
     have c14b1 : decide (((l1.length : Int) : Int).toNat ≤ 35184372088832) = true := decide_eq_true c14
     clear c14
     obtain ⟨y264, hy264⟩ : ∃ y_ : List Int, y_ = (List.replicate ((l1.length : Int) : Int).toNat 0) := ⟨_, rfl⟩
     replace H : (share_Split.l0 kj3 a0 t261 y264 (List.replicate ((l1.length : Int) : Int).toNat 0) a0 l1 (l1.length : Int) 0) = some (r1, r2) := by first | (rw [hy264]; with_reducible exact H) | (have H2_ := (Option.bind_some _ _).symm.trans H; rw [hy264]; with_reducible exact H2_) | (have H2_ := (Option.bind_some _ _).symm.trans H; with_reducible exact H2_) | with_reducible exact H | (rw [hy264]; exact H) | exact H
     have Ny264 := Aside0.mk hy264
     clear hy264
     obtain ⟨y267, hy267⟩ : ∃ y_ : List Int, y_ = (List.replicate ((l1.length : Int) : Int).toNat 0) := ⟨_, rfl⟩
     replace H : (share_Split.l0 kj3 a0 t261 y264 y267 a0 l1 (l1.length : Int) 0) = some (r1, r2) := by first | (rw [hy267]; with_reducible exact H) | (have H2_ := (Option.bind_some _ _).symm.trans H; rw [hy267]; with_reducible exact H2_) | (have H2_ := (Option.bind_some _ _).symm.trans H; with_reducible exact H2_) | with_reducible exact H | (rw [hy267]; exact H) | exact H
     have Ny267 := Aside0.mk hy267
     clear hy267
     have H' := Aside0.mk H
     clear H
     try go_wp2
     have n0_ := Aside0.mk (below_drew1 HB.out)
     clear HB
     have HB := n0_
     clear n0_
     refine start_ (n := 8) (S := fun w' => True) (ds := []) #[false, false, false, false, false, false, false, false] (by kernel_rfl) rfl rfl trivial (fun hHeld => ?_); refine with_tabW share_Split.tab4 share_Split.bits4 (fun HT_ HW_ => ?_)
     generalize wc.drew = w15 at HB hHeld ⊢
     refine pure_ (i := 0) (N := some 37) (v := ?_) (a' := ?_) #[true, false, false, false, false, false, false, false] rfl rfl (any_of HT_.out (by kernel_rfl)) (fun _ _ _ h => h) (Or.inl ⟨by rfl, ?_⟩) ?_ ?_
     rotate_left
     ·intro w'
      go_simp
      with_reducible rfl
     rotate_left
     ·simp only [Act.put, List.setIfInBounds_toArray, List.set_cons_zero, List.set_cons_succ, i64_w, i32_w]
      rfl
     refine pure_ (i := 1) (N := some 38) (v := ?_) (a' := ?_) #[true, true, false, false, false, false, false, false] rfl rfl (any_of HT_.out (by kernel_rfl)) (fun _ _ _ h => h) (Or.inl ⟨by rfl, ?_⟩) ?_ ?_
     rotate_left
     ·intro w'
      go_simp
      with_reducible rfl
     rotate_left
     ·simp only [Act.put, List.setIfInBounds_toArray, List.set_cons_zero, List.set_cons_succ, i64_w, i32_w]
      rfl
     refine pure_ (i := 3) (N := some 40) (v := ?_) (a' := ?_) #[true, true, false, true, false, false, false, false] rfl rfl (any_of HT_.out (by kernel_rfl)) (fun _ _ _ h => h) (Or.inl ⟨by rfl, ?_⟩) ?_ ?_
     rotate_left
     ·intro w'
      go_simp
      with_reducible rfl
     rotate_left
     ·simp only [Act.put, List.setIfInBounds_toArray, List.set_cons_zero, List.set_cons_succ, i64_w, i32_w]
      rfl
     refine pure_ (i := 4) (N := some 41) (v := ?_) (a' := ?_) #[true, true, false, true, true, false, false, false] rfl rfl (any_of HT_.out (by kernel_rfl)) (fun _ _ _ h => h) (Or.inl ⟨by rfl, ?_⟩) ?_ ?_
     rotate_left
     ·intro w'
      go_simp
      with_reducible rfl
     rotate_left
     ·simp only [Act.put, List.setIfInBounds_toArray, List.set_cons_zero, List.set_cons_succ, i64_w, i32_w]
      rfl
     refine join_ (σ := Value × Value) 1 #[true, true, true, true, true, true, true, false] (fun s_ => [(39, s_.1), (42, s_.2), (8, s_.1)]) (fun s_ w' => (Kd.R (Kd.int .i64) 2 w' w.heap.size (fun _ => True) s_.1 y264) ∧ (Kd.R (Kd.int .u64) 95 w' w.heap.size (fun _ => True) s_.2 y267) ∧ (Below w.heap.size w w')) ?_ ?_
     rotate_left
     ·intro hCont
      refine two_ (i := 2) (j := 5) (Ni := some 39) (Nj := some 42) #[true, true, true, true, true, false, false, false] #[true, true, false, true, true, true, false, false] rfl rfl rfl rfl (two_of HT_.out (by kernel_rfl)) (by decide) (by decide) (fun K hK => ?_) (fun K hK => ?_)
      ·skip
       refine Kd.R_make_step (Kd.int .i64) _ 2 (by rfl) (N := 39) rfl 47 _ _ rfl (l1.length : Int) rfl rfl Try.underlying47 (.int .i64 0) 8 info2 rfl (by decide) (by omega) 0 (ok := fun _ => True) (okp := fun _ => True) rfl (fun _ hk => hk) trivial (yd) (Nat.le_trans (Nat.mul_le_mul_right _ (yd : (l1.length : Int).toNat ≤ 35184372088832)) (by omega)) (Below.refl _ _) (Nat.le_refl _) ?_
       intro v265 w16 ho17 hb hg_ hnew_
       clear hg_ hnew_
       (first | rw [← Ny264.out] at ho17 | (simp only [Int.reduceToNat] at ho17; rw [← Ny264.out] at ho17))
       have n0_ := Aside0.mk (Kd.R_lower ho17 (below_size (by exact h0q HB.out)))
       have n1_ := Aside0.mk (below_step (by exact h0q HB.out) hb)
       clear HB
       have HO266 := n0_
       have HB := n1_
       clear n0_ n1_
       clear hb ho17
       refine hK.out _ _ trivial (fun hHeld => ?_)
       clear hK K
       refine norm_ (a' := ?_) ?_ ?_
       rotate_left
       ·show Act.put _ (some 39) _ = _
        simp only [Act.put, List.setIfInBounds_toArray, List.set_cons_zero, List.set_cons_succ, i64_w, i32_w]
        rfl
       refine pure_ (i := 6) (N := some 8) (v := ?_) (a' := ?_) #[true, true, true, true, true, false, true, false] rfl rfl (any_of HT_.out (by kernel_rfl)) (fun _ _ _ h => h) (Or.inl ⟨by rfl, ?_⟩) ?_ ?_
       rotate_left
       ·intro w'
        go_simp
        with_reducible rfl
       rotate_left
       ·simp only [Act.put, List.setIfInBounds_toArray, List.set_cons_zero, List.set_cons_succ, i64_w, i32_w]
        rfl
       refine one_ (i := 5) (N := some 42) #[true, true, true, true, true, true, true, false] rfl rfl (one_of HT_.out (by kernel_rfl)) (by decide) (fun K hK => ?_)
       refine Kd.R_make_step (Kd.int .u64) _ 95 (by rfl) (N := 42) rfl 94 _ _ rfl (l1.length : Int) rfl rfl Try.underlying94 (.int .u64 0) 8 info95 rfl (by decide) (by omega) 0 (ok := fun _ => True) (okp := fun _ => True) rfl (fun _ hk => hk) trivial (yd) (Nat.le_trans (Nat.mul_le_mul_right _ (yd : (l1.length : Int).toNat ≤ 35184372088832)) (by omega)) (Below.refl _ _) (Nat.le_refl _) ?_
       intro v268 w18 ho19 hb hg_ hnew_
       clear hg_ hnew_
       (first | rw [← Ny267.out] at ho19 | (simp only [Int.reduceToNat] at ho19; rw [← Ny267.out] at ho19))
       have n0_ := Aside0.mk (Kd.R_below (by exact rq HO266.out) hb)
       have n1_ := Aside0.mk (Kd.R_lower ho19 (below_size (by exact h0q HB.out)))
       have n2_ := Aside0.mk (below_step (by exact h0q HB.out) hb)
       clear HO266
       clear HB
       have HO266 := n0_
       have HO269 := n1_
       have HB := n2_
       clear n0_ n1_ n2_
       clear hb ho19
       refine hK.out _ _ trivial (fun hHeld => ?_)
       clear hK K
       refine norm_ (a' := ?_) ?_ ?_
       rotate_left
       ·show Act.put _ (some 42) _ = _
        simp only [Act.put, List.setIfInBounds_toArray, List.set_cons_zero, List.set_cons_succ, i64_w, i32_w]
        rfl
       exact norm_ (by simp only [putAll, Act.put, List.setIfInBounds_toArray, List.set_cons_zero, List.set_cons_succ]) (hCont (v265, v268) _ ⟨(by exact rq HO266.out), (by exact rq HO269.out), (by exact h0q HB.out)⟩)
      ·skip
       refine Kd.R_make_step (Kd.int .u64) _ 95 (by rfl) (N := 42) rfl 94 _ _ rfl (l1.length : Int) rfl rfl Try.underlying94 (.int .u64 0) 8 info95 rfl (by decide) (by omega) 0 (ok := fun _ => True) (okp := fun _ => True) rfl (fun _ hk => hk) trivial (yd) (Nat.le_trans (Nat.mul_le_mul_right _ (yd : (l1.length : Int).toNat ≤ 35184372088832)) (by omega)) (Below.refl _ _) (Nat.le_refl _) ?_
       intro v268 w16 ho17 hb hg_ hnew_
       clear hg_ hnew_
       (first | rw [← Ny267.out] at ho17 | (simp only [Int.reduceToNat] at ho17; rw [← Ny267.out] at ho17))
       have n0_ := Aside0.mk (Kd.R_lower ho17 (below_size (by exact h0q HB.out)))
       have n1_ := Aside0.mk (below_step (by exact h0q HB.out) hb)
       clear HB
       have HO269 := n0_
       have HB := n1_
       clear n0_ n1_
       clear hb ho17
       refine hK.out _ _ trivial (fun hHeld => ?_)
       clear hK K
       refine norm_ (a' := ?_) ?_ ?_
       rotate_left
       ·show Act.put _ (some 42) _ = _
        simp only [Act.put, List.setIfInBounds_toArray, List.set_cons_zero, List.set_cons_succ, i64_w, i32_w]
        rfl
       refine one_ (i := 2) (N := some 39) #[true, true, true, true, true, true, false, false] rfl rfl (one_of HT_.out (by kernel_rfl)) (by decide) (fun K hK => ?_)
       refine Kd.R_make_step (Kd.int .i64) _ 2 (by rfl) (N := 39) rfl 47 _ _ rfl (l1.length : Int) rfl rfl Try.underlying47 (.int .i64 0) 8 info2 rfl (by decide) (by omega) 0 (ok := fun _ => True) (okp := fun _ => True) rfl (fun _ hk => hk) trivial (yd) (Nat.le_trans (Nat.mul_le_mul_right _ (yd : (l1.length : Int).toNat ≤ 35184372088832)) (by omega)) (Below.refl _ _) (Nat.le_refl _) ?_
       intro v265 w18 ho19 hb hg_ hnew_
       clear hg_ hnew_
       (first | rw [← Ny264.out] at ho19 | (simp only [Int.reduceToNat] at ho19; rw [← Ny264.out] at ho19))
       have n0_ := Aside0.mk (Kd.R_below (by exact rq HO269.out) hb)
       have n1_ := Aside0.mk (Kd.R_lower ho19 (below_size (by exact h0q HB.out)))
       have n2_ := Aside0.mk (below_step (by exact h0q HB.out) hb)
       clear HO269
       clear HB
       have HO269 := n0_
       have HO266 := n1_
       have HB := n2_
       clear n0_ n1_ n2_
       clear hb ho19
       refine hK.out _ _ trivial (fun hHeld => ?_)
       clear hK K
       refine norm_ (a' := ?_) ?_ ?_
       rotate_left
       ·show Act.put _ (some 39) _ = _
        simp only [Act.put, List.setIfInBounds_toArray, List.set_cons_zero, List.set_cons_succ, i64_w, i32_w]
        rfl
       refine pure_ (i := 6) (N := some 8) (v := ?_) (a' := ?_) #[true, true, true, true, true, true, true, false] rfl rfl (any_of HT_.out (by kernel_rfl)) (fun _ _ _ h => h) (Or.inl ⟨by rfl, ?_⟩) ?_ ?_
       rotate_left
       ·intro w'
        go_simp
        with_reducible rfl
       rotate_left
       ·simp only [Act.put, List.setIfInBounds_toArray, List.set_cons_zero, List.set_cons_succ, i64_w, i32_w]
        rfl
       exact norm_ (by simp only [putAll, Act.put, List.setIfInBounds_toArray, List.set_cons_zero, List.set_cons_succ]) (hCont (v265, v268) _ ⟨(by exact rq HO266.out), (by exact rq HO269.out), (by exact h0q HB.out)⟩)
     rintro ⟨v265, v268⟩ w20 ⟨h0_, h1_, h2_⟩
     have n0_ : Aside0 (Kd.R (Kd.int .i64) 2 w20 w.heap.size (fun _ => True) v265 y264) := ⟨h0_⟩
     have n1_ : Aside0 (Kd.R (Kd.int .u64) 95 w20 w.heap.size (fun _ => True) v268 y267) := ⟨h1_⟩
     have n2_ : Aside0 (Below w.heap.size w w20) := ⟨h2_⟩
     clear HB
     clear h0_ h1_ h2_
     have HO266 := n0_
     have HO269 := n1_
     have HB := n2_
     clear n0_ n1_ n2_
     have hHeld := trivial
     refine norm_ (a' := ?_) ?_ ?_
     rotate_left
     ·simp only [putAll, Act.put, List.setIfInBounds_toArray, List.set_cons_zero, List.set_cons_succ]
      rfl
     refine pure_ (i := 7) (N := some 9) (v := ?_) (a' := ?_) #[true, true, true, true, true, true, true, true] rfl rfl (any_of HT_.out (by kernel_rfl)) (fun _ _ _ h => h) (Or.inl ⟨by rfl, ?_⟩) ?_ ?_
     rotate_left
     ·intro w'
      go_simp
      with_reducible rfl
     rotate_left
     ·simp only [Act.put, List.setIfInBounds_toArray, List.set_cons_zero, List.set_cons_succ, i64_w, i32_w]
      rfl
     refine done_ (done_of HT_.out (by kernel_rfl)) ?_
     try go_wp2
     go_loopg [10, 46] kj3 (fun kq v10 v46 w' => ∃ (x8_2 : List Int) (x9_2 : List Int) (x10_2 : Int) (x46_2 : Int), v10 = .int .i64 x10_2 ∧ v46 = .int .i64 x46_2 ∧ Aside0 (share_Split.l0 kq a0 t261 x8_2 x9_2 x10_2 l1 (l1.length : Int) x46_2 = some (r1, r2)) ∧ Aside0 (kq ≤ kj3) ∧ Aside0 (Kd.R (Kd.int .i64) 2 w' w.heap.size (fun _ => True) v265 x8_2) ∧ Aside0 (Kd.R (Kd.int .u64) 95 w' w.heap.size (fun _ => True) v268 x9_2) ∧ Aside0 (Below w.heap.size w w'))
     case atStart => exact ⟨(y264), (y267), (a0), (0), (by first | rfl | (simp; done) | (simp [*]; done)), (by first | rfl | (simp; done) | (simp [*]; done)), H', ⟨Nat.le_refl _⟩, ⟨by exact rq HO266.out⟩, ⟨by exact rq HO269.out⟩, ⟨by exact h0q HB.out⟩⟩
     case round =>
      clear H'
      try clear c1
      try clear c7
      try clear c8
      try clear c8b0 c8b1
      try clear c12
      try clear c13
      try clear c13b0 c13b1
      try clear c14
      try clear c14b0 c14b1
      obtain ⟨x8_2, x9_2, x10_2, x46_2, rfl, rfl, HA, HK2, HO_8, HO_9, HB⟩ := hrel
      rcases gk with _ | k2
      ·exact absurd HA.out (by simp [share_Split.l0])
      have H := HA.out
      clear HA
      simp only [share_Split.l0] at H
      by_cases c21 : x46_2 < (l1.length : Int)
      ·rw [if_pos c21] at H
       have c21b0 : decide (x46_2 < (l1.length : Int)) = true := decide_eq_true c21
       clear c21
       by_cases c22 : 0 ≤ x46_2
       ·rw [if_pos c22] at H
        have c22b0 : decide (0 ≤ x46_2) = true := decide_eq_true c22
        clear c22
        by_cases c23 : x46_2 < (l1.length : Int)
        ·rw [if_pos c23] at H
         have c23b0 : decide (x46_2 < (l1.length : Int)) = true := decide_eq_true c23
         clear c23
         replace H := Option.bind_eq_some_iff.mp H
         obtain ⟨⟨t271, t272⟩, A240, H⟩ := H
         replace H : ((money_Div.f k2 t271 t272 (IntKind.u64.wrap (t261))).bind fun bt273 => (if x46_2 < (x8_2.length : Int) then ((some (x8_2.set (x46_2 : Int).toNat (wrap64 (bt273.1)) : List Int)).bind fun y276 => (if x46_2 < (x9_2.length : Int) then (share_Split.l0 k2 a0 t261 y276 (x9_2.set (x46_2 : Int).toNat bt273.2.1) (wrap64 (x10_2 - (rd y276 x46_2))) l1 (l1.length : Int) (wrap64 (x46_2 + 1))) else (none))) else (none))) = some (r1, r2) := H
         have A24 := Aside0.mk A240
         clear A240
         replace H := Option.bind_eq_some_iff.mp H
         obtain ⟨⟨t273, t274, t275⟩, A250, H⟩ := H
         replace H : (if x46_2 < (x8_2.length : Int) then ((some (x8_2.set (x46_2 : Int).toNat (wrap64 (t273)) : List Int)).bind fun y276 => (if x46_2 < (x9_2.length : Int) then (share_Split.l0 k2 a0 t261 y276 (x9_2.set (x46_2 : Int).toNat t274) (wrap64 (x10_2 - (rd y276 x46_2))) l1 (l1.length : Int) (wrap64 (x46_2 + 1))) else (none))) else (none)) = some (r1, r2) := H
         have A25 := Aside0.mk A250
         clear A250
         by_cases c26 : x46_2 < (x8_2.length : Int)
         ·rw [if_pos c26] at H
          have c26b0 : decide (x46_2 < (x8_2.length : Int)) = true := decide_eq_true c26
          clear c26
          obtain ⟨y276, hy276⟩ : ∃ y_ : List Int, y_ = (x8_2.set (x46_2 : Int).toNat (wrap64 (t273))) := ⟨_, rfl⟩
          replace H : (if x46_2 < (x9_2.length : Int) then (share_Split.l0 k2 a0 t261 y276 (x9_2.set (x46_2 : Int).toNat t274) (wrap64 (x10_2 - (rd y276 x46_2))) l1 (l1.length : Int) (wrap64 (x46_2 + 1))) else (none)) = some (r1, r2) := by first | (rw [hy276]; with_reducible exact H) | (have H2_ := (Option.bind_some _ _).symm.trans H; rw [hy276]; with_reducible exact H2_) | (have H2_ := (Option.bind_some _ _).symm.trans H; with_reducible exact H2_) | with_reducible exact H | (rw [hy276]; exact H) | exact H
          have Ny276 := Aside0.mk hy276
          clear hy276
          by_cases c28 : x46_2 < (x9_2.length : Int)
          ·rw [if_pos c28] at H
           have c28b0 : decide (x46_2 < (x9_2.length : Int)) = true := decide_eq_true c28
           clear c28
           obtain ⟨y277, hy277⟩ : ∃ y_ : List Int, y_ = (x9_2.set (x46_2 : Int).toNat t274) := ⟨_, rfl⟩
           replace H : (share_Split.l0 k2 a0 t261 y276 y277 (wrap64 (x10_2 - (rd y276 x46_2))) l1 (l1.length : Int) (wrap64 (x46_2 + 1))) = some (r1, r2) := by first | (rw [hy277]; with_reducible exact H) | (have H2_ := (Option.bind_some _ _).symm.trans H; rw [hy277]; with_reducible exact H2_) | (have H2_ := (Option.bind_some _ _).symm.trans H; with_reducible exact H2_) | with_reducible exact H | (rw [hy277]; exact H) | exact H
           have Ny277 := Aside0.mk hy277
           clear hy277
           have H' := Aside0.mk H
           clear H
           have p270 : 0 ≤ (x46_2 : Int) := yd
           have q270 : x46_2 < (l1.length : Int) := yd
           obtain ⟨ad270, e270, hx270_0⟩ := Kd.at_int HR1.out x46_2 p270 q270
           cases e270
           replace hx270_0 := hxb HB.out hx270_0
           replace p270 := eq_true p270
           replace q270 := eq_true q270
           go_wp2_with (first | ((with_reducible refine gate_callee (f := 66) rfl ?_); refine goesL_ (some 56) rfl rfl Try.func66 (by kernel_rfl) rfl #[.int .u64 (IntKind.u64.wrap (a0)), .int .u64 (IntKind.u64.wrap (rd l1 x46_2))] rfl (by (try simp only [List.map_toArray, List.map_cons, List.map_nil]); first | done | rfl | (simp only [List.length_drop, List.length_take]; rfl)) ?_; (with_reducible refine (money_Mul.calls (IntKind.u64.wrap (a0)) (IntKind.u64.wrap (rd l1 x46_2)) t271 t272 _ A24.out).mono ?_); rintro e w' ⟨rfl, ⟨nd, rfl⟩⟩; refine ⟨_, rfl, ?_⟩; (try (rw [drewN_self wr]; generalize hq_ : World.drewN wr _ = wr; have n0_ : Aside0 (Kd.R (Kd.int .i64) 2 wr w.heap.size (fun _ => True) v265 x8_2) := ⟨by rw [← hq_]; exact (by exact rq HO_8.out)⟩; have n1_ : Aside0 (Kd.R (Kd.int .u64) 95 wr w.heap.size (fun _ => True) v268 x9_2) := ⟨by rw [← hq_]; exact (by exact rq HO_9.out)⟩; have n2_ : Aside0 (Below w.heap.size w wr) := ⟨by rw [← hq_]; exact (by exact h0q HB.out)⟩; clear HO_8 HO_9 HB hq_; have HO_8 := n0_; have HO_9 := n1_; have HB := n2_; clear n0_ n1_ n2_))) | ((with_reducible refine gate_callee (f := 67) rfl ?_); refine goesL_ (some 64) rfl rfl Try.func67 (by kernel_rfl) rfl #[.int .u64 t271, .int .u64 t272, .int .u64 (IntKind.u64.wrap (t261))] rfl (by (try simp only [List.map_toArray, List.map_cons, List.map_nil]); first | done | rfl | (simp only [List.length_drop, List.length_take]; rfl)) ?_; (with_reducible refine (money_Div.calls k2 t271 t272 (IntKind.u64.wrap (t261)) t273 t274 t275 _ A25.out).mono ?_); rintro e w' ⟨rfl, ⟨nd, rfl⟩⟩; refine ⟨_, rfl, ?_⟩; (try (rw [drewN_self wr]; generalize hq_ : World.drewN wr _ = wr; have n0_ : Aside0 (Kd.R (Kd.int .i64) 2 wr w.heap.size (fun _ => True) v265 x8_2) := ⟨by rw [← hq_]; exact (by exact rq HO_8.out)⟩; have n1_ : Aside0 (Kd.R (Kd.int .u64) 95 wr w.heap.size (fun _ => True) v268 x9_2) := ⟨by rw [← hq_]; exact (by exact rq HO_9.out)⟩; have n2_ : Aside0 (Below w.heap.size w wr) := ⟨by rw [← hq_]; exact (by exact h0q HB.out)⟩; clear HO_8 HO_9 HB hq_; have HO_8 := n0_; have HO_9 := n1_; have HB := n2_; clear n0_ n1_ n2_)); have p27 : 0 ≤ (x46_2 : Int) := yd; have q27 : (x46_2 : Int) < ((x8_2.length : Int) : Int) := yd; obtain ⟨go27, co27, eo27, gb27, gl27, cl27, HG27⟩ := Kd.R_form HO_8.out (by omega); (first | cases eo27 | (injection eo27 with ea_ en_ ec_; (first | subst ea_ | (injection ea_ with ea_; subst ea_)); subst ec_; clear en_)); have GB27 := Aside0.mk gb27; have GG27 := Aside0.mk HG27; clear gb27 gl27 HG27; obtain ⟨hx27_0, hf27_0⟩ := Kd.R_celln 0 HO_8.out (x46_2 : Int) p27 q27; replace p27 := eq_true p27; replace q27 := eq_true q27; obtain ⟨hy30_, hz30_⟩ := Kd.R_celln 0 HO_8.out (x46_2 : Int) (yd) (yd); have HP30 := Kd.R_putg HO_8.out (x46_2 : Int) (wrap64 (t273))) | ((with_reducible refine gate_store (t := 2) (p := 75) rfl ?_); refine store_event (t := 2) (p := 75) (v := ?vo_w31) (w1 := (wr.setCell ⟨go27, (x46_2 : Int).toNat, none⟩ (.int .i64 (wrap64 (t273))))) ?hg ?ho ?hn ?hr ?_; (case ho => rfl); (case hg => rfl); (case hn => rfl); (case hr => first | (go_simp; done) | (go_simp; rfl)); intro w31 hw; have hg : wr.grownBy w31 (some go27) := (by rw [hw]; exact HP30.2); have hp_ : Kd.R (Kd.int .i64) 2 w31 w.heap.size (fun _ => True) (.slice (some ⟨go27, 0, none⟩) x8_2.length co27) y276 := (by rw [hw, Ny276.out]; exact HP30.1); clear HP30; have n0_ := Aside0.mk (hp_); have n1_ := Aside0.mk (Kd.R_over' (v := (.slice (some ⟨go27, 0, none⟩) x8_2.length co27)) (by exact rq HO_9.out) (Kd.R_typed HO_8.out) (by decide) hg); have n2_ := Aside0.mk ((by rw [hw]; exact below_set (HB.out) GB27.out : Below w.heap.size w w31)); clear HO_8; clear HO_9; clear HB; have HO_8 := n0_; have HO_9 := n1_; have HB := n2_; clear n0_ n1_ n2_; clear hg hw hp_; have p29 : 0 ≤ (x46_2 : Int) := yd; have q29 : (x46_2 : Int) < ((x9_2.length : Int) : Int) := yd; obtain ⟨go29, co29, eo29, gb29, gl29, cl29, HG29⟩ := Kd.R_form HO_9.out (by omega); (first | cases eo29 | (injection eo29 with ea_ en_ ec_; (first | subst ea_ | (injection ea_ with ea_; subst ea_)); subst ec_; clear en_)); have GB29 := Aside0.mk gb29; have GG29 := Aside0.mk HG29; clear gb29 gl29 HG29; obtain ⟨hx29_0, hf29_0⟩ := Kd.R_celln 0 HO_9.out (x46_2 : Int) p29 q29; replace p29 := eq_true p29; replace q29 := eq_true q29; obtain ⟨hy32_, hz32_⟩ := Kd.R_celln 0 HO_9.out (x46_2 : Int) (yd) (yd); have HP32 := Kd.R_putg HO_9.out (x46_2 : Int) t274) | ((with_reducible refine gate_store (t := 95) (p := 76) rfl ?_); refine store_event (t := 95) (p := 76) (v := ?vo_w33) (w1 := (w31.setCell ⟨go29, (x46_2 : Int).toNat, none⟩ (.int .u64 t274))) ?hg ?ho ?hn ?hr ?_; (case ho => rfl); (case hg => rfl); (case hn => rfl); (case hr => first | (go_simp; done) | (go_simp; rfl)); intro w33 hw; have hg : w31.grownBy w33 (some go29) := (by rw [hw]; exact HP32.2); have hp_ : Kd.R (Kd.int .u64) 95 w33 w.heap.size (fun _ => True) (.slice (some ⟨go29, 0, none⟩) x9_2.length co29) y277 := (by rw [hw, Ny277.out]; exact HP32.1); clear HP32; have n0_ := Aside0.mk (Kd.R_over' (v := (.slice (some ⟨go29, 0, none⟩) x9_2.length co29)) (by exact rq HO_8.out) (Kd.R_typed HO_9.out) (by decide) hg); have n1_ := Aside0.mk (hp_); have n2_ := Aside0.mk ((by rw [hw]; exact below_set (HB.out) GB29.out : Below w.heap.size w w33)); clear HO_8; clear HO_9; clear HB; have HO_8 := n0_; have HO_9 := n1_; have HB := n2_; clear n0_ n1_ n2_; clear hg hw hp_; have p278 : 0 ≤ (x46_2 : Int) := yd; have q278 : x46_2 < (y276.length : Int) := (by have h_ : (x46_2 : Int) < ((x8_2.length : Int) : Int) := yd; first | (have e_ := (Kd.R_reads' HO_8.out).1; omega) | simpa only [Ny276.out, List.length_set] using h_); have ql278 : ((x46_2 : Int) < ((x8_2.length : Int) : Int)) = True := eq_true (yd); obtain ⟨ad278, e278, hx278_0⟩ := Kd.at_int (Kd.R_reads' HO_8.out).2.2 x46_2 p278 q278; obtain rfl : (⟨go27, 0, none⟩ : Addr) = ad278 := (by injection e278); (first | simp only [add_plain] at hx278_0 | simp only [add_at] at hx278_0 | simp only [Addr.add, Nat.zero_add] at hx278_0 | skip); replace p278 := eq_true p278; replace q278 := eq_true q278))
           go_roundg k2
           case measure => have := HJ3.out; have := HK2.out; omega
           case rel => exact ⟨(y276), (y277), (wrap64 (x10_2 - (rd y276 x46_2))), (wrap64 (x46_2 + 1)), (by first | rfl | (simp; done) | (simp [*]; done)), (by first | rfl | (simp; done) | (simp [*]; done)), H', ⟨by have := HJ3.out; have := HK2.out; omega⟩, ⟨by exact rq HO_8.out⟩, ⟨by exact rq HO_9.out⟩, ⟨by exact h0q HB.out⟩⟩
          ·rw [if_neg c28] at H
           exact absurd H (by simp)
         ·rw [if_neg c26] at H
          exact absurd H (by simp)
        ·rw [if_neg c23] at H
         exact absurd H (by simp)
       ·rw [if_neg c22] at H
        exact absurd H (by simp)
      ·rw [if_neg c21] at H
       have c21b0 : decide (x46_2 < (l1.length : Int)) = false := decide_eq_false c21
       clear c21
       replace H := Option.bind_eq_some_iff.mp H
       obtain ⟨t279, A340, H⟩ := H
       replace H : (if 0 ≤ x10_2 then (if x10_2 ≤ (t279.length : Int) then ((some (t279.take (x10_2 : Int).toNat : List Int)).bind fun y282 => (share_Split.l1 k2 x8_2 y282 (y282.length : Int) 0)) else (none)) else (none)) = some (r1, r2) := H
       have A34 := Aside0.mk A340
       clear A340
       by_cases c35 : 0 ≤ x10_2
       ·rw [if_pos c35] at H
        have c35b0 := eq_true c35
        have c35b1 : decide (0 ≤ x10_2) = true := decide_eq_true c35
        clear c35
        by_cases c36 : x10_2 ≤ (t279.length : Int)
        ·rw [if_pos c36] at H
         have c36b0 := eq_true c36
         have c36b1 : decide (x10_2 ≤ (t279.length : Int)) = true := decide_eq_true c36
         clear c36
         obtain ⟨y282, hy282⟩ : ∃ y_ : List Int, y_ = (t279.take (x10_2 : Int).toNat) := ⟨_, rfl⟩
         replace H : (share_Split.l1 k2 x8_2 y282 (y282.length : Int) 0) = some (r1, r2) := by first | (rw [hy282]; with_reducible exact H) | (have H2_ := (Option.bind_some _ _).symm.trans H; rw [hy282]; with_reducible exact H2_) | (have H2_ := (Option.bind_some _ _).symm.trans H; with_reducible exact H2_) | with_reducible exact H | (rw [hy282]; exact H) | exact H
         have Ny282 := Aside0.mk hy282
         clear hy282
         have H' := Aside0.mk H
         clear H
         obtain ⟨Ao37, co37, eo37⟩ := Kd.R_slice HO_9.out
         subst eo37
         go_wp2_with (first | ((with_reducible refine gate_callee (f := 68) rfl ?_); refine goesL_ (some 85) rfl rfl Try.func68 (by kernel_rfl) rfl #[.slice Ao37 x9_2.length co37] rfl (by (try simp only [List.map_toArray, List.map_cons, List.map_nil]); first | done | rfl | (simp only [List.length_drop, List.length_take]; rfl)) ?_; (with_reducible refine (share_places_uint64.calls k2 _ _ x9_2 t279 _ ?side1 ?side2 A34.out).mono ?_); (case side1 => repeat (first | exact (Kd.R_reads' HO_9.out).2.2 | (with_reducible refine Kd.C_alloc ?_ _) | (with_reducible refine Kd.C_drewN ?_ _) | (with_reducible refine Kd.C_drew ?_))); (case side2 => exact (Kd.R_reads' HO_9.out).2.1); rintro e w38 ⟨v280, rfl, ho0, hb⟩; refine ⟨_, rfl, ?_⟩; have n0_ := Aside0.mk (Kd.R_below (by exact rq HO_8.out) hb); have n1_ := Aside0.mk (Kd.R_below (by exact rq HO_9.out) hb); have n2_ := Aside0.mk (Kd.R_lower ho0 (below_size (by exact h0q HB.out))); have n3_ := Aside0.mk (below_step (by exact h0q HB.out) hb); clear HO_8; clear HO_9; clear HB; have HO_8 := n0_; have HO_9 := n1_; have HO281 := n2_; have HB := n3_; clear n0_ n1_ n2_ n3_; (try clear hb); (try clear hb2); (try clear hk); (try clear hi); (try clear ho0); obtain ⟨Ao40, co40, eo40⟩ := Kd.R_slice HO281.out; subst eo40; have q39 : (x10_2 : Int) ≤ ((t279.length : Int) : Int) := yd; obtain ⟨i039, hi039, _, hsz39, _⟩ := info_parts info3; have hroom39 : t279.length ≤ co40 := (Kd.R_reads' HO281.out).2.1; have hC39 : Kd.C (Kd.int .i64) _ Ao40 t279.length t279 := (Kd.R_reads' HO281.out).2.2; have hcut39 := cut_to (P := Try.prog) 46 3 .i64 Try.underlying46 hi039 Ao40 t279.length co40 x10_2 (yd) q39 hroom39; have hr39 := Kd.C_take (m := (x10_2 : Int).toNat) hC39 (by omega); have hy39 : y282.length = (x10_2 : Int).toNat := (by rw [Ny282.out, List.length_take]; omega); rw [← Ny282.out] at hr39; rw [← hy39] at hcut39; have HR285 := Aside0.mk hr39; have HC285 := Aside0.mk (show y282.length ≤ co40 from by omega); clear hr39 hC39 hroom39 hi039 hsz39; have KY39 := Aside0.mk hy39; clear hy39; have KL39 := Aside0.mk (show (x10_2 : Int).toNat ≤ t279.length from by omega); replace q39 := eq_true q39))
         go_loopg [89] k2 (fun kq v89 w' => ∃ (x8_3 : List Int) (x89_3 : Int), v89 = .int .i64 x89_3 ∧ Aside0 (share_Split.l1 kq x8_3 y282 (y282.length : Int) x89_3 = some (r1, r2)) ∧ Aside0 (kq ≤ k2) ∧ Aside0 (Kd.R (Kd.int .i64) 2 w' w.heap.size (fun _ => True) v265 x8_3) ∧ Aside0 (Kd.R (Kd.int .i64) 3 w' w.heap.size (fun _ => True) (.slice Ao40 t279.length co40) t279) ∧ Aside0 (Below w.heap.size w w'))
         case atStart => exact ⟨(x8_2), (0), (by first | rfl | (simp; done) | (simp [*]; done)), H', ⟨Nat.le_refl _⟩, ⟨by exact rq HO_8.out⟩, ⟨by exact rq HO281.out⟩, ⟨by exact h0q HB.out⟩⟩
         case round =>
          clear H'
          try clear c1
          try clear c7
          try clear c8
          try clear c8b0 c8b1
          try clear c12
          try clear c13
          try clear c13b0 c13b1
          try clear c14
          try clear c14b0 c14b1
          try clear c21
          try clear c21b0
          try clear c22
          try clear c22b0
          try clear c23
          try clear c23b0
          try clear c26
          try clear c26b0
          try clear p27 q27
          try clear c28
          try clear c28b0
          try clear p29 q29
          try clear c35
          try clear c35b0 c35b1
          try clear c36
          try clear c36b0 c36b1
          try clear q39
          try clear hx270_0
          try clear hx278_0
          try clear hx27_0
          try clear hx29_0
          try clear p27
          try clear p270
          try clear p278
          try clear p29
          try clear q27
          try clear q270
          try clear q278
          try clear q29
          try clear q39
          obtain ⟨x8_3, x89_3, rfl, HA, HK3, HO_8, HOP, HB⟩ := hrel
          rcases gk with _ | k3
          ·exact absurd HA.out (by simp [share_Split.l1])
          have H := HA.out
          clear HA
          simp only [share_Split.l1] at H
          by_cases c41 : x89_3 < (y282.length : Int)
          ·rw [if_pos c41] at H
           have c41b0 : decide (x89_3 < (y282.length : Int)) = true := decide_eq_true c41
           clear c41
           by_cases c42 : 0 ≤ x89_3
           ·rw [if_pos c42] at H
            have c42b0 : decide (0 ≤ x89_3) = true := decide_eq_true c42
            clear c42
            by_cases c43 : x89_3 < (y282.length : Int)
            ·rw [if_pos c43] at H
             have c43b0 : decide (x89_3 < (y282.length : Int)) = true := decide_eq_true c43
             clear c43
             by_cases c44 : 0 ≤ (rd y282 x89_3)
             ·rw [if_pos c44] at H
              have c44b0 : decide (0 ≤ (rd y282 x89_3)) = true := decide_eq_true c44
              clear c44
              by_cases c45 : (rd y282 x89_3) < (x8_3.length : Int)
              ·rw [if_pos c45] at H
               have c45b0 : decide ((rd y282 x89_3) < (x8_3.length : Int)) = true := decide_eq_true c45
               clear c45
               obtain ⟨y288, hy288⟩ : ∃ y_ : List Int, y_ = (x8_3.set ((rd y282 x89_3) : Int).toNat (wrap64 ((rd x8_3 (rd y282 x89_3)) + 1))) := ⟨_, rfl⟩
               replace H : (share_Split.l1 k3 y288 y282 (y282.length : Int) (wrap64 (x89_3 + 1))) = some (r1, r2) := by first | (rw [hy288]; with_reducible exact H) | (have H2_ := (Option.bind_some _ _).symm.trans H; rw [hy288]; with_reducible exact H2_) | (have H2_ := (Option.bind_some _ _).symm.trans H; with_reducible exact H2_) | with_reducible exact H | (rw [hy288]; exact H) | exact H
               have Ny288 := Aside0.mk hy288
               clear hy288
               have H' := Aside0.mk H
               clear H
               have p286 : 0 ≤ (x89_3 : Int) := yd
               have q286 : x89_3 < (y282.length : Int) := yd
               have HRY := Kd.C_take (m := (x10_2 : Int).toNat) (Kd.R_reads' HOP.out).2.2 KL39.out
               rw [← Ny282.out] at HRY
               obtain ⟨ad286, e286, hx286_0⟩ := Kd.at_int HRY x89_3 p286 q286
               clear HRY
               cases e286
               replace p286 := eq_true p286
               replace q286 := eq_true q286
               obtain ⟨Ao47, co47, eo47⟩ := Kd.R_slice HO_8.out
               subst eo47
               have p287 : 0 ≤ ((rd y282 x89_3) : Int) := yd
               have q287 : (rd y282 x89_3) < (x8_3.length : Int) := yd
               obtain ⟨ad287, e287, hx287_0⟩ := Kd.at_int (Kd.R_reads' HO_8.out).2.2 (rd y282 x89_3) p287 q287
               cases e287
               replace p287 := eq_true p287
               replace q287 := eq_true q287
               have p46 : 0 ≤ ((rd y282 x89_3) : Int) := yd
               have q46 : ((rd y282 x89_3) : Int) < ((x8_3.length : Int) : Int) := yd
               obtain ⟨go46, co46, eo46, gb46, gl46, cl46, HG46⟩ := Kd.R_form HO_8.out (by omega)
               (first | cases eo46 | (injection eo46 with ea_ en_ ec_; (first | subst ea_ | (injection ea_ with ea_; subst ea_)); subst ec_; clear en_))
               have GB46 := Aside0.mk gb46
               have GG46 := Aside0.mk HG46
               clear gb46 gl46 HG46
               (first | simp only [add_plain] at hx287_0 | skip)
               obtain ⟨hx46_0, hf46_0⟩ := Kd.R_celln 0 HO_8.out ((rd y282 x89_3) : Int) p46 q46
               replace p46 := eq_true p46
               replace q46 := eq_true q46
               have HP48 := Kd.R_putg HO_8.out ((rd y282 x89_3) : Int) (wrap64 ((rd x8_3 (rd y282 x89_3)) + 1))
               go_wp2_with (first | ((with_reducible refine gate_store (t := 2) (p := 98) rfl ?_); refine store_event (t := 2) (p := 98) (v := ?vo_w49) (w1 := (wr.setCell ⟨go46, ((rd y282 x89_3) : Int).toNat, none⟩ (.int .i64 (wrap64 ((rd x8_3 (rd y282 x89_3)) + 1))))) ?hg ?ho ?hn ?hr ?_; (case ho => rfl); (case hg => rfl); (case hn => rfl); (case hr => first | (go_simp; done) | (go_simp; rfl)); intro w49 hw; have hg : wr.grownBy w49 (some go46) := (by rw [hw]; exact HP48.2); have hp_ : Kd.R (Kd.int .i64) 2 w49 w.heap.size (fun _ => True) (.slice (some ⟨go46, 0, none⟩) x8_3.length co47) y288 := (by rw [hw, Ny288.out]; exact HP48.1); clear HP48; have hq_ := Kd.R_over HOP.out HO_8.out (by intro q hq; have h3_ : q = 3 := (by simpa [Kd.int, Kd.scalar] using hq); omega) hg; have n0_ := Aside0.mk (hp_); have n1_ := Aside0.mk ((by rw [hw]; exact below_set (HB.out) GB46.out : Below w.heap.size w w49)); have n2_ := Aside0.mk hq_; clear HO_8; clear HB; clear HOP; have HO_8 := n0_; have HB := n1_; have HOP := n2_; clear n0_ n1_ n2_; clear hg hw hp_ hq_))
               go_roundg k3
               case measure => have := HJ3.out; have := HK2.out; have := HK3.out; omega
               case rel => exact ⟨(y288), (wrap64 (x89_3 + 1)), (by first | rfl | (simp; done) | (simp [*]; done)), H', ⟨by have := HJ3.out; have := HK2.out; have := HK3.out; omega⟩, ⟨by exact rq HO_8.out⟩, ⟨by exact rq HOP.out⟩, ⟨by exact h0q HB.out⟩⟩
              ·rw [if_neg c45] at H
               exact absurd H (by simp)
             ·rw [if_neg c44] at H
              exact absurd H (by simp)
            ·rw [if_neg c43] at H
             exact absurd H (by simp)
           ·rw [if_neg c42] at H
            exact absurd H (by simp)
          ·rw [if_neg c41] at H
           have c41b0 : decide (x89_3 < (y282.length : Int)) = false := decide_eq_false c41
           clear c41
           simp only [Option.some.injEq, Prod.mk.injEq] at H
           obtain ⟨rfl, rfl⟩ := H
           go_wp2
           go_ret2
           exact ⟨_, by first | rfl | (simp [errW_none, errW_some] <;> rfl) | (simp [*, errW_none, errW_some] <;> rfl), by (with_reducible repeat (first | apply Kd.R_alloc | apply Kd.R_drewN | apply Kd.R_drew)); exact HO_8.out, by exact h0q HB.out⟩
        ·rw [if_neg c36] at H
         exact absurd H (by simp)
       ·rw [if_neg c35] at H
        exact absurd H (by simp)
    ·rw [if_neg c14] at H
     exact absurd H (by simp)
   ·rw [if_neg c13] at H
    exact absurd H (by simp)

end Go.Proofs.Ytlhcohipnieidaa.P
