/- Several texts as one (written by a program): what the walks and the plain laws come to, one behind the other. -/
import Derived.Test.YtlhcohipnieidaaGreatQa
import Derived.Test.YtlhcohipnieidaaGreatQb
import Derived.Test.YtlhcohipnieidaaGreatQc
namespace Go.Proofs.YtlhcohipnieidaaGreat.P
open Go.RowKit W.PrintWords W.PrintLast W.PrintMore
attribute [local go_sem] qXg qXd qXq qXr qY2 qY1 qXe qXf
set_option linter.unusedVariables false
set_option linter.unusedSimpArgs false
theorem blk_put13b {w : World} {g : Nat} {t : TypeId} {u0 u1 u2 u3 u4 u5 u6 u7 u8 u9 u10 u11 u12 v0 v1 v2 v3 v4 v5 v6 v7 v8 v9 v10 v11 v12 : Value} (hb : w.heap[g]? = some (.cells #[u0, u1, u2, u3, u4, u5, u6, u7, u8, u9, u10, u11, u12] t (0, 0))) : (((((((((((((w.setCell ⟨g, 0, none⟩ v0).setCell ⟨g, 1, none⟩ v1).setCell ⟨g, 2, none⟩ v2).setCell ⟨g, 3, none⟩ v3).setCell ⟨g, 4, none⟩ v4).setCell ⟨g, 5, none⟩ v5).setCell ⟨g, 6, none⟩ v6).setCell ⟨g, 7, none⟩ v7).setCell ⟨g, 8, none⟩ v8).setCell ⟨g, 9, none⟩ v9).setCell ⟨g, 10, none⟩ v10).setCell ⟨g, 11, none⟩ v11).setCell ⟨g, 12, none⟩ v12).heap[g]? = some (.cells #[v0, v1, v2, v3, v4, v5, v6, v7, v8, v9, v10, v11, v12] t (0, 0)) := by
 refine qZ6 (cs := #[v0, v1, v2, v3, v4, v5, v6, v7, v8, v9, v10, v11, u12]) ?_ 12 _ rfl
 refine qZ6 (cs := #[v0, v1, v2, v3, v4, v5, v6, v7, v8, v9, v10, u11, u12]) ?_ 11 _ rfl
 refine qZ6 (cs := #[v0, v1, v2, v3, v4, v5, v6, v7, v8, v9, u10, u11, u12]) ?_ 10 _ rfl
 refine qZ6 (cs := #[v0, v1, v2, v3, v4, v5, v6, v7, v8, u9, u10, u11, u12]) ?_ 9 _ rfl
 refine qZ6 (cs := #[v0, v1, v2, v3, v4, v5, v6, v7, u8, u9, u10, u11, u12]) ?_ 8 _ rfl
 refine qZ6 (cs := #[v0, v1, v2, v3, v4, v5, v6, u7, u8, u9, u10, u11, u12]) ?_ 7 _ rfl
 refine qZ6 (cs := #[v0, v1, v2, v3, v4, v5, u6, u7, u8, u9, u10, u11, u12]) ?_ 6 _ rfl
 refine qZ6 (cs := #[v0, v1, v2, v3, v4, u5, u6, u7, u8, u9, u10, u11, u12]) ?_ 5 _ rfl
 refine qZ6 (cs := #[v0, v1, v2, v3, u4, u5, u6, u7, u8, u9, u10, u11, u12]) ?_ 4 _ rfl
 refine qZ6 (cs := #[v0, v1, v2, u3, u4, u5, u6, u7, u8, u9, u10, u11, u12]) ?_ 3 _ rfl
 refine qZ6 (cs := #[v0, v1, u2, u3, u4, u5, u6, u7, u8, u9, u10, u11, u12]) ?_ 2 _ rfl
 refine qZ6 (cs := #[v0, u1, u2, u3, u4, u5, u6, u7, u8, u9, u10, u11, u12]) ?_ 1 _ rfl
 refine qZ6 (cs := #[u0, u1, u2, u3, u4, u5, u6, u7, u8, u9, u10, u11, u12]) ?_ 0 _ rfl
 exact hb
theorem R_far13b {α : Type} {d : Kd α} {e : Nat} {w : World} {base : Nat} {ok : Nat → Prop} {v : Value} {xs : List α} {g : Nat} (h : d.R e w base ok v xs) (hok : ∀ k, ok k → k ≠ g) {v0 v1 v2 v3 v4 v5 v6 v7 v8 v9 v10 v11 v12 : Value} : d.R e (((((((((((((w.setCell ⟨g, 0, none⟩ v0).setCell ⟨g, 1, none⟩ v1).setCell ⟨g, 2, none⟩ v2).setCell ⟨g, 3, none⟩ v3).setCell ⟨g, 4, none⟩ v4).setCell ⟨g, 5, none⟩ v5).setCell ⟨g, 6, none⟩ v6).setCell ⟨g, 7, none⟩ v7).setCell ⟨g, 8, none⟩ v8).setCell ⟨g, 9, none⟩ v9).setCell ⟨g, 10, none⟩ v10).setCell ⟨g, 11, none⟩ v11).setCell ⟨g, 12, none⟩ v12) base ok v xs := by
 iterate 13 refine Kd.R_far ?_ hok _
 exact h
mutual
def qQx.j0 : Nat → Int → List Int → Int → Bool → Option (List Int × Int)
 | 0, _, _, _, _ => none
 | k + 1, x0, x1, x6, x36 => if x36 = true then (some (([] : List Int), 1)) else (if 0 ≤ (x1.length : Int) then (if ((x1.length : Int) : Int).toNat ≤ 35184372088832 then (qQx.l0 k x0 x6 (List.replicate ((x1.length : Int) : Int).toNat 0) (List.replicate ((x1.length : Int) : Int).toNat 0) x0 x1 (x1.length : Int) 0) else (none)) else (none))
def qQx.l0 : Nat → Int → Int → List Int → List Int → Int → List Int → Int → Int → Option (List Int × Int)
 | 0, _, _, _, _, _, _, _, _ => none
 | k + 1, x0, x6, x8, x9, x10, x44, x45, x46 => if x46 < x45 then (if 0 ≤ x46 then (if x46 < (x44.length : Int) then ((qXl.f (IntKind.u64.wrap (x0)) (IntKind.u64.wrap (rd x44 x46))).bind fun bt205 => ((qY6.f k bt205.1 bt205.2 (IntKind.u64.wrap (x6))).bind fun bt207 => (if x46 < (x8.length : Int) then ((some (x8.set (x46 : Int).toNat (wrap64 (bt207.1)) : List Int)).bind fun y210 => (if x46 < (x9.length : Int) then (qQx.l0 k x0 x6 y210 (x9.set (x46 : Int).toNat bt207.2.1) (wrap64 (x10 - (rd y210 x46))) x44 x45 (wrap64 (x46 + 1))) else (none))) else (none)))) else (none)) else (none)) else ((qZ5.f k x9).bind fun t213 => (if 0 ≤ x10 then (if x10 ≤ (t213.length : Int) then ((some (t213.take (x10 : Int).toNat : List Int)).bind fun y216 => (qQx.l1 k x8 y216 (y216.length : Int) 0)) else (none)) else (none)))
def qQx.l1 : Nat → List Int → List Int → Int → Int → Option (List Int × Int)
 | 0, _, _, _, _ => none
 | k + 1, x8, x87, x88, x89 => if x89 < x88 then (if 0 ≤ x89 then (if x89 < (x87.length : Int) then (if 0 ≤ (rd x87 x89) then (if (rd x87 x89) < (x8.length : Int) then (qQx.l1 k (x8.set ((rd x87 x89) : Int).toNat (wrap64 ((rd x8 (rd x87 x89)) + 1))) x87 x88 (wrap64 (x89 + 1))) else (none)) else (none)) else (none)) else (none)) else (some (x8, 0))
end
def qQx.f (k : Nat) (a0 : Int) (l1 : List Int) : Option (List Int × Int) := (qZv.f l1).bind fun bt195 => ((qZd.f k a0 l1).bind fun t197 => (if t197 = true then (if bt195.2 = 0 then (qQx.j0 k a0 l1 bt195.1 (decide (bt195.1 ≤ 0))) else (qQx.j0 k a0 l1 bt195.1 true)) else (qQx.j0 k a0 l1 bt195.1 true)))
def qQx.T4 : Bool × List (List Nat × List Nat) := (true, [([], []), ([0], [0]), ([1, 1], [1]), ([], []), ([3], [3]), ([4, 4], [4]), ([2, 0, 1, 2], [2]), ([5, 6, 0, 1, 2, 3, 4, 5, 6], [5])])
def qQx.B4 : List Nat := [0, 1, 3, 0, 8, 24, 7, 127]
theorem qQx.tab4 : rtab .any (opsOf Tryz.f50 4) = qQx.T4 := by kernel_rfl
theorem qQx.bits4 : waitsOk qQx.T4.2 qQx.B4 = true := by kernel_rfl
set_option maxHeartbeats 8000000 in
set_option maxRecDepth 100000 in
theorem qQx.calls (k : Nat) (a0 : Int) (A1 : Option Addr) (c1 : Nat) (l1 : List Int) (r1 : List Int) (r2 : Int) (w : World) (hr1 : Kd.C (Kd.int .i64) w A1 l1.length l1) (hc1 : l1.length ≤ c1) (h : qQx.f k a0 l1 = some (r1, r2)) :
  Calls Tryz.prog 50 #[.int .i64 a0, .slice A1 l1.length c1] w fun e w' => ∃ v0_ : Value, e = .returned (.tuple #[v0_, .int .i64 r2]) ∧ Kd.R (Kd.int .i64) 2 w' w.heap.size (fun _ => True) v0_ r1 ∧ Below w.heap.size w w' := by
 have HR1 := am hr1
 have HC1 := am hc1
 clear hr1 hc1
 have HB := am (Below.refl w.heap.size w)
 have H : ((qZv.f l1).bind fun bt195 => ((qZd.f k a0 l1).bind fun t197 => (if t197 = true then (if bt195.2 = 0 then (qQx.j0 k a0 l1 bt195.1 (decide (bt195.1 ≤ 0))) else (qQx.j0 k a0 l1 bt195.1 true)) else (qQx.j0 k a0 l1 bt195.1 true)))) = some (r1, r2) := h
 clear h
 replace H := Option.bind_eq_some_iff.mp H
 obtain ⟨⟨t195, t196⟩, A30, H⟩ := H
 replace H : ((qZd.f k a0 l1).bind fun t197 => (if t197 = true then (if t196 = 0 then (qQx.j0 k a0 l1 t195 (decide (t195 ≤ 0))) else (qQx.j0 k a0 l1 t195 true)) else (qQx.j0 k a0 l1 t195 true))) = some (r1, r2) := H
 have A3 := am A30
 clear A30
 have HC4 := am H
 clear H
 go_enter Tryz.func50, Tryz.ntmps50
 go_upto_region 2 with (first | ((with_reducible refine qQh (f := 80) rfl ?_); refine goesL_ (some 22) rfl rfl Tryz.func80 (by kernel_rfl) rfl #[.slice A1 l1.length c1] rfl ml ?_; (with_reducible refine (qZv.calls _ _ l1 t195 t196 _ ?side1 ?side2 A3.out).mono ?_); (case side1 => exact cq (HR1.out)); (case side2 => exact HC1.out); rintro e w5 ⟨rfl, hb⟩; refine ⟨_, rfl, ?_⟩; have n0_ := am (qQb (by exact h0q HB.out) hb); clear HB; have HB := n0_; clear n0_; (try clear hb); (try clear hb2); (try clear hk); (try clear hi)))
 (try simp only [Act.put, List.setIfInBounds_toArray, List.set_cons_zero, List.set_cons_succ])
 go_cut [36] (fun v36 wc => ∃ (kq : Nat) (x36_3 : Bool), v36 = .bool x36_3 ∧ Aside0 (qQx.j0 kq a0 l1 t195 x36_3 = some (r1, r2)) ∧ Aside0 (kq ≤ k) ∧ Aside0 (Below w.heap.size w wc))
 case first =>
  have H := HC4.out
  clear HC4
  replace H := Option.bind_eq_some_iff.mp H
  obtain ⟨t197, A60, H⟩ := H
  replace H : (if t197 = true then (if t196 = 0 then (qQx.j0 k a0 l1 t195 (decide (t195 ≤ 0))) else (qQx.j0 k a0 l1 t195 true)) else (qQx.j0 k a0 l1 t195 true)) = some (r1, r2) := H
  have A6 := am A60
  clear A60
  by_cases c7 : t197 = true
  case neg =>
   replace c7 := Bool.eq_false_iff.mpr c7
   subst c7
   have H1 : (qQx.j0 k a0 l1 t195 true) = some (r1, r2) := by rw [if_neg (show ¬ (false = true) by decide)] at H; exact H
   clear H
   have H := H1
   clear H1
   have H' := am H
   clear H
   go_wp2_with (first | ((with_reducible refine qQh (f := 81) rfl ?_); refine goesL_ (some 27) rfl rfl Tryz.func81 (by kernel_rfl) rfl #[.int .i64 a0, .slice A1 l1.length c1] rfl ml ?_; (with_reducible refine (qZd.calls k a0 _ _ l1 false _ ?side1 ?side2 A6.out).mono ?_); (case side1 => exact cq ((Kd.qZq HR1.out HB.out))); (case side2 => exact HC1.out); rintro e w11 ⟨rfl, hb⟩; refine ⟨_, rfl, ?_⟩; have n0_ := am (qQb (by exact h0q HB.out) hb); clear HB; have HB := n0_; clear n0_; (try clear hb); (try clear hb2); (try clear hk); (try clear hi)))
   go_meet
   case rel => exact ⟨_, (true), (by first | rfl | (simp; done) | (simp [*]; done)), H', ⟨by first | omega | exact Nat.le_refl _⟩, ⟨by exact h0q HB.out⟩⟩
  subst c7
  have H1 : (if t196 = 0 then (qQx.j0 k a0 l1 t195 (decide (t195 ≤ 0))) else (qQx.j0 k a0 l1 t195 true)) = some (r1, r2) := by rw [if_pos rfl] at H; exact H
  clear H
  have H := H1
  clear H1
  by_cases c8 : t196 = 0
  case neg =>
   rw [if_neg c8] at H
   have c8b0 : (t196 == 0) = false := beq_eq_false_iff_ne.mpr c8
   have c8b1 : (t196 != 0) = true := bne_iff_ne.mpr c8
   (first | rw [c8b0] | (simp only [i64_w, i32_w]; rw [c8b0]) | skip)
   have H' := am H
   clear H
   go_wp2_with (first | ((with_reducible refine qQh (f := 81) rfl ?_); refine goesL_ (some 27) rfl rfl Tryz.func81 (by kernel_rfl) rfl #[.int .i64 a0, .slice A1 l1.length c1] rfl ml ?_; (with_reducible refine (qZd.calls k a0 _ _ l1 true _ ?side1 ?side2 A6.out).mono ?_); (case side1 => exact cq ((Kd.qZq HR1.out HB.out))); (case side2 => exact HC1.out); rintro e w10 ⟨rfl, hb⟩; refine ⟨_, rfl, ?_⟩; have n0_ := am (qQb (by exact h0q HB.out) hb); clear HB; have HB := n0_; clear n0_; (try clear hb); (try clear hb2); (try clear hk); (try clear hi)))
   go_meet
   case rel => exact ⟨_, (true), (by first | rfl | (simp; done) | (simp [*]; done)), H', ⟨by first | omega | exact Nat.le_refl _⟩, ⟨by exact h0q HB.out⟩⟩
  rw [if_pos c8] at H
  have c8b0 : (t196 == 0) = true := beq_iff_eq.mpr c8
  have c8b1 : (t196 != 0) = false := bne_eq_false_iff_eq.mpr c8
  clear c8
  (first | rw [c8b0] | (simp only [i64_w, i32_w]; rw [c8b0]) | skip)
  have H' := am H
  clear H
  go_wp2_with (first | ((with_reducible refine qQh (f := 81) rfl ?_); refine goesL_ (some 27) rfl rfl Tryz.func81 (by kernel_rfl) rfl #[.int .i64 a0, .slice A1 l1.length c1] rfl ml ?_; (with_reducible refine (qZd.calls k a0 _ _ l1 true _ ?side1 ?side2 A6.out).mono ?_); (case side1 => exact cq ((Kd.qZq HR1.out HB.out))); (case side2 => exact HC1.out); rintro e w9 ⟨rfl, hb⟩; refine ⟨_, rfl, ?_⟩; have n0_ := am (qQb (by exact h0q HB.out) hb); clear HB; have HB := n0_; clear n0_; (try clear hb); (try clear hb2); (try clear hk); (try clear hi)))
  go_meet
  case rel => exact ⟨_, (decide (t195 ≤ 0)), (by first | rfl | (simp; done) | (simp [*]; done)), H', ⟨by first | omega | exact Nat.le_refl _⟩, ⟨by exact h0q HB.out⟩⟩
 case rest =>
  clear HC4
  try clear c1
  try clear c7
  try clear c8
  try clear c8b0 c8b1
  obtain ⟨kq, x36_3, rfl, HA, HJ3, HB⟩ := hcut
  rcases kq with _ | kj3
  ·exact absurd HA.out (by simp [qQx.j0])
  have H := HA.out
  clear HA
  simp only [qQx.j0] at H
  by_cases c12 : x36_3 = true
  ·subst c12
   have H1 : (some (([] : List Int), 1)) = some (r1, r2) := by rw [if_pos rfl] at H; exact H
   clear H
   have H := H1
   clear H1
   simp only [Option.some.injEq, Prod.mk.injEq] at H
   obtain ⟨rfl, rfl⟩ := H
   go_wp2
   go_ret2
   exact ⟨_, er, by first | exact Kd.R_nil _ _ _ _ _ | exact Kd.N_nil _ _ _ _ _ | exact Kd.V_nil _ _ _ _ _ | exact Kd.Q_nil _ _ _ _ _ | exact Kd.S_nil _ _ _ _ _, by exact h0q HB.out⟩
  replace c12 := Bool.eq_false_iff.mpr c12
  subst c12
  have H1 : (if 0 ≤ (l1.length : Int) then (if ((l1.length : Int) : Int).toNat ≤ 35184372088832 then (qQx.l0 kj3 a0 t195 (List.replicate ((l1.length : Int) : Int).toNat 0) (List.replicate ((l1.length : Int) : Int).toNat 0) a0 l1 (l1.length : Int) 0) else (none)) else (none)) = some (r1, r2) := by rw [if_neg (show ¬ (false = true) by decide)] at H; exact H
  clear H
  have H := H1
  clear H1
  by_cases c13 : 0 ≤ (l1.length : Int)
  case neg =>
   rw [if_neg c13] at H
   exact absurd H (by simp)
  rw [if_pos c13] at H
  have c13b0 := eq_true c13
  have c13b1 : decide (0 ≤ (l1.length : Int)) = true := decide_eq_true c13
  clear c13
  by_cases c14 : ((l1.length : Int) : Int).toNat ≤ 35184372088832
  case neg =>
   rw [if_neg c14] at H
   exact absurd H (by simp)
  rw [if_pos c14] at H
  have c14b0 := eq_true c14
  have c14b1 : decide (((l1.length : Int) : Int).toNat ≤ 35184372088832) = true := decide_eq_true c14
  clear c14
  obtain ⟨y198, hy198⟩ : ∃ y_ : List Int, y_ = (List.replicate ((l1.length : Int) : Int).toNat 0) := ⟨_, rfl⟩
  replace H : (qQx.l0 kj3 a0 t195 y198 (List.replicate ((l1.length : Int) : Int).toNat 0) a0 l1 (l1.length : Int) 0) = some (r1, r2) := by first | (rw [hy198]; with_reducible exact H) | (have H2_ := (Option.bind_some _ _).symm.trans H; rw [hy198]; with_reducible exact H2_) | (have H2_ := (Option.bind_some _ _).symm.trans H; with_reducible exact H2_) | with_reducible exact H | (rw [hy198]; exact H) | exact H
  have Ny198 := am hy198
  clear hy198
  obtain ⟨y201, hy201⟩ : ∃ y_ : List Int, y_ = (List.replicate ((l1.length : Int) : Int).toNat 0) := ⟨_, rfl⟩
  replace H : (qQx.l0 kj3 a0 t195 y198 y201 a0 l1 (l1.length : Int) 0) = some (r1, r2) := by first | (rw [hy201]; with_reducible exact H) | (have H2_ := (Option.bind_some _ _).symm.trans H; rw [hy201]; with_reducible exact H2_) | (have H2_ := (Option.bind_some _ _).symm.trans H; with_reducible exact H2_) | with_reducible exact H | (rw [hy201]; exact H) | exact H
  have Ny201 := am hy201
  clear hy201
  have H' := am H
  clear H
  try go_wp2
  have n0_ := am (qXb HB.out)
  clear HB
  have HB := n0_
  clear n0_
  refine start_ (n := 8) (S := fun w' => True) (ds := []) #[false, false, false, false, false, false, false, false] (by kernel_rfl) rfl rfl trivial (fun hHeld => ?_); refine qJz qQx.tab4 qQx.bits4 (fun HT_ HW_ => ?_)
  generalize wc.drew = w15 at HB hHeld ⊢
  refine pure_ (i := 0) (N := some 37) (v := ?_) (a' := ?_) #[true, false, false, false, false, false, false, false] rfl rfl (qX6 HT_.out (by kernel_rfl)) (fun _ _ _ h => h) (Or.inl ⟨by rfl, ?_⟩) ?_ ?_
  rotate_left
  ·intro w'
   go_simp
   with_reducible rfl
  rotate_left
  ·exact pu
  refine pure_ (i := 1) (N := some 38) (v := ?_) (a' := ?_) #[true, true, false, false, false, false, false, false] rfl rfl (qX6 HT_.out (by kernel_rfl)) (fun _ _ _ h => h) (Or.inl ⟨by rfl, ?_⟩) ?_ ?_
  rotate_left
  ·intro w'
   go_simp
   with_reducible rfl
  rotate_left
  ·exact pu
  refine pure_ (i := 3) (N := some 40) (v := ?_) (a' := ?_) #[true, true, false, true, false, false, false, false] rfl rfl (qX6 HT_.out (by kernel_rfl)) (fun _ _ _ h => h) (Or.inl ⟨by rfl, ?_⟩) ?_ ?_
  rotate_left
  ·intro w'
   go_simp
   with_reducible rfl
  rotate_left
  ·exact pu
  refine pure_ (i := 4) (N := some 41) (v := ?_) (a' := ?_) #[true, true, false, true, true, false, false, false] rfl rfl (qX6 HT_.out (by kernel_rfl)) (fun _ _ _ h => h) (Or.inl ⟨by rfl, ?_⟩) ?_ ?_
  rotate_left
  ·intro w'
   go_simp
   with_reducible rfl
  rotate_left
  ·exact pu
  refine join_ (σ := Value × Value) 1 #[true, true, true, true, true, true, true, false] (fun s_ => [(39, s_.1), (42, s_.2), (8, s_.1)]) (fun s_ w' => (Kd.R (Kd.int .i64) 2 w' w.heap.size (fun _ => True) s_.1 y198) ∧ (Kd.R (Kd.int .u64) 102 w' w.heap.size (fun _ => True) s_.2 y201) ∧ (Below w.heap.size w w')) ?_ ?_
  rotate_left
  ·intro hCont
   refine two_ (i := 2) (j := 5) (Ni := some 39) (Nj := some 42) #[true, true, true, true, true, false, false, false] #[true, true, false, true, true, true, false, false] rfl rfl rfl rfl (two_of HT_.out (by kernel_rfl)) (by decide) (by decide) (fun K hK => ?_) (fun K hK => ?_)
   ·skip
    refine Kd.qWi (Kd.int .i64) _ 2 (by rfl) (N := 39) rfl 22 _ _ rfl (l1.length : Int) rfl rfl Tryz.underlying22 (.int .i64 0) 8 info2 rfl (by decide) (by omega) 0 (ok := fun _ => True) (okp := fun _ => True) rfl (fun _ hk => hk) trivial (yd) (Nat.le_trans (Nat.mul_le_mul_right _ (yd : (l1.length : Int).toNat ≤ 35184372088832)) (by omega)) (Below.refl _ _) (Nat.le_refl _) ?_
    intro v199 w16 ho17 hb hg_ hnew_
    clear hg_ hnew_
    (first | rw [← Ny198.out] at ho17 | (simp only [Int.reduceToNat] at ho17; rw [← Ny198.out] at ho17))
    have n0_ := am (Kd.qYx ho17 (qQd (by exact h0q HB.out)))
    have n1_ := am (qQb (by exact h0q HB.out) hb)
    clear HB
    have HO200 := n0_
    have HB := n1_
    clear n0_ n1_ hb ho17
    refine hK.out _ _ trivial (fun hHeld => ?_)
    clear hK K
    refine norm_ (a' := ?_) ?_ ?_
    rotate_left
    ·show Act.put _ (some 39) _ = _
     exact pu
    refine pure_ (i := 6) (N := some 8) (v := ?_) (a' := ?_) #[true, true, true, true, true, false, true, false] rfl rfl (qX6 HT_.out (by kernel_rfl)) (fun _ _ _ h => h) (Or.inl ⟨by rfl, ?_⟩) ?_ ?_
    rotate_left
    ·intro w'
     go_simp
     with_reducible rfl
    rotate_left
    ·exact pu
    refine one_ (i := 5) (N := some 42) #[true, true, true, true, true, true, true, false] rfl rfl (zQz HT_.out (by kernel_rfl)) (by decide) (fun K hK => ?_)
    refine Kd.qWi (Kd.int .u64) _ 102 (by rfl) (N := 42) rfl 118 _ _ rfl (l1.length : Int) rfl rfl Tryz.underlying118 (.int .u64 0) 8 info102 rfl (by decide) (by omega) 0 (ok := fun _ => True) (okp := fun _ => True) rfl (fun _ hk => hk) trivial (yd) (Nat.le_trans (Nat.mul_le_mul_right _ (yd : (l1.length : Int).toNat ≤ 35184372088832)) (by omega)) (Below.refl _ _) (Nat.le_refl _) ?_
    intro v202 w18 ho19 hb hg_ hnew_
    clear hg_ hnew_
    (first | rw [← Ny201.out] at ho19 | (simp only [Int.reduceToNat] at ho19; rw [← Ny201.out] at ho19))
    have n0_ := am (Kd.qQt (by exact rq HO200.out) hb)
    have n1_ := am (Kd.qYx ho19 (qQd (by exact h0q HB.out)))
    have n2_ := am (qQb (by exact h0q HB.out) hb)
    clear HO200 HB
    have HO200 := n0_
    have HO203 := n1_
    have HB := n2_
    clear n0_ n1_ n2_ hb ho19
    refine hK.out _ _ trivial (fun hHeld => ?_)
    clear hK K
    refine norm_ (a' := ?_) ?_ ?_
    rotate_left
    ·show Act.put _ (some 42) _ = _
     exact pu
    exact norm_ (by simp only [putAll, Act.put, List.setIfInBounds_toArray, List.set_cons_zero, List.set_cons_succ]) (hCont (v199, v202) _ ⟨(by exact rq HO200.out), (by exact rq HO203.out), (by exact h0q HB.out)⟩)
   ·skip
    refine Kd.qWi (Kd.int .u64) _ 102 (by rfl) (N := 42) rfl 118 _ _ rfl (l1.length : Int) rfl rfl Tryz.underlying118 (.int .u64 0) 8 info102 rfl (by decide) (by omega) 0 (ok := fun _ => True) (okp := fun _ => True) rfl (fun _ hk => hk) trivial (yd) (Nat.le_trans (Nat.mul_le_mul_right _ (yd : (l1.length : Int).toNat ≤ 35184372088832)) (by omega)) (Below.refl _ _) (Nat.le_refl _) ?_
    intro v202 w16 ho17 hb hg_ hnew_
    clear hg_ hnew_
    (first | rw [← Ny201.out] at ho17 | (simp only [Int.reduceToNat] at ho17; rw [← Ny201.out] at ho17))
    have n0_ := am (Kd.qYx ho17 (qQd (by exact h0q HB.out)))
    have n1_ := am (qQb (by exact h0q HB.out) hb)
    clear HB
    have HO203 := n0_
    have HB := n1_
    clear n0_ n1_ hb ho17
    refine hK.out _ _ trivial (fun hHeld => ?_)
    clear hK K
    refine norm_ (a' := ?_) ?_ ?_
    rotate_left
    ·show Act.put _ (some 42) _ = _
     exact pu
    refine one_ (i := 2) (N := some 39) #[true, true, true, true, true, true, false, false] rfl rfl (zQz HT_.out (by kernel_rfl)) (by decide) (fun K hK => ?_)
    refine Kd.qWi (Kd.int .i64) _ 2 (by rfl) (N := 39) rfl 22 _ _ rfl (l1.length : Int) rfl rfl Tryz.underlying22 (.int .i64 0) 8 info2 rfl (by decide) (by omega) 0 (ok := fun _ => True) (okp := fun _ => True) rfl (fun _ hk => hk) trivial (yd) (Nat.le_trans (Nat.mul_le_mul_right _ (yd : (l1.length : Int).toNat ≤ 35184372088832)) (by omega)) (Below.refl _ _) (Nat.le_refl _) ?_
    intro v199 w18 ho19 hb hg_ hnew_
    clear hg_ hnew_
    (first | rw [← Ny198.out] at ho19 | (simp only [Int.reduceToNat] at ho19; rw [← Ny198.out] at ho19))
    have n0_ := am (Kd.qQt (by exact rq HO203.out) hb)
    have n1_ := am (Kd.qYx ho19 (qQd (by exact h0q HB.out)))
    have n2_ := am (qQb (by exact h0q HB.out) hb)
    clear HO203 HB
    have HO203 := n0_
    have HO200 := n1_
    have HB := n2_
    clear n0_ n1_ n2_ hb ho19
    refine hK.out _ _ trivial (fun hHeld => ?_)
    clear hK K
    refine norm_ (a' := ?_) ?_ ?_
    rotate_left
    ·show Act.put _ (some 39) _ = _
     exact pu
    refine pure_ (i := 6) (N := some 8) (v := ?_) (a' := ?_) #[true, true, true, true, true, true, true, false] rfl rfl (qX6 HT_.out (by kernel_rfl)) (fun _ _ _ h => h) (Or.inl ⟨by rfl, ?_⟩) ?_ ?_
    rotate_left
    ·intro w'
     go_simp
     with_reducible rfl
    rotate_left
    ·exact pu
    exact norm_ (by simp only [putAll, Act.put, List.setIfInBounds_toArray, List.set_cons_zero, List.set_cons_succ]) (hCont (v199, v202) _ ⟨(by exact rq HO200.out), (by exact rq HO203.out), (by exact h0q HB.out)⟩)
  rintro ⟨v199, v202⟩ w20 ⟨h0_, h1_, h2_⟩
  have n0_ : Aside0 (Kd.R (Kd.int .i64) 2 w20 w.heap.size (fun _ => True) v199 y198) := ⟨h0_⟩
  have n1_ : Aside0 (Kd.R (Kd.int .u64) 102 w20 w.heap.size (fun _ => True) v202 y201) := ⟨h1_⟩
  have n2_ : Aside0 (Below w.heap.size w w20) := ⟨h2_⟩
  clear HB h0_ h1_ h2_
  have HO200 := n0_
  have HO203 := n1_
  have HB := n2_
  clear n0_ n1_ n2_
  have hHeld := trivial
  refine norm_ (a' := ?_) ?_ ?_
  rotate_left
  ·simp only [putAll, Act.put, List.setIfInBounds_toArray, List.set_cons_zero, List.set_cons_succ]
   rfl
  refine pure_ (i := 7) (N := some 9) (v := ?_) (a' := ?_) #[true, true, true, true, true, true, true, true] rfl rfl (qX6 HT_.out (by kernel_rfl)) (fun _ _ _ h => h) (Or.inl ⟨by rfl, ?_⟩) ?_ ?_
  rotate_left
  ·intro w'
   go_simp
   with_reducible rfl
  rotate_left
  ·exact pu
  refine done_ (zYf HT_.out (by kernel_rfl)) ?_
  try go_wp2
  go_loopg [10, 46] kj3 (fun kq v10 v46 w' => ∃ (x8_2 : List Int) (x9_2 : List Int) (x10_2 : Int) (x46_2 : Int), v10 = .int .i64 x10_2 ∧ v46 = .int .i64 x46_2 ∧ Aside0 (qQx.l0 kq a0 t195 x8_2 x9_2 x10_2 l1 (l1.length : Int) x46_2 = some (r1, r2)) ∧ Aside0 (kq ≤ kj3) ∧ Aside0 (Kd.R (Kd.int .i64) 2 w' w.heap.size (fun _ => True) v199 x8_2) ∧ Aside0 (Kd.R (Kd.int .u64) 102 w' w.heap.size (fun _ => True) v202 x9_2) ∧ Aside0 (Below w.heap.size w w'))
  case atStart => exact ⟨(y198), (y201), (a0), (0), (by first | rfl | (simp; done) | (simp [*]; done)), (by first | rfl | (simp; done) | (simp [*]; done)), H', ⟨Nat.le_refl _⟩, ⟨by exact rq HO200.out⟩, ⟨by exact rq HO203.out⟩, ⟨by exact h0q HB.out⟩⟩
  case round =>
   clear H'
   try clear c1
   try clear c7
   try clear c8
   try clear c8b0 c8b1
   try clear c12
   try clear c13
   try clear c13b0 c13b1
   try clear c14
   try clear c14b0 c14b1
   obtain ⟨x8_2, x9_2, x10_2, x46_2, rfl, rfl, HA, HK2, HO_8, HO_9, HB⟩ := hrel
   rcases gk with _ | k2
   ·exact absurd HA.out (by simp [qQx.l0])
   have H := HA.out
   clear HA
   simp only [qQx.l0] at H
   by_cases c21 : x46_2 < (l1.length : Int)
   ·rw [if_pos c21] at H
    have c21b0 : decide (x46_2 < (l1.length : Int)) = true := decide_eq_true c21
    clear c21
    by_cases c22 : 0 ≤ x46_2
    case neg =>
     rw [if_neg c22] at H
     exact absurd H (by simp)
    rw [if_pos c22] at H
    have c22b0 : decide (0 ≤ x46_2) = true := decide_eq_true c22
    clear c22
    by_cases c23 : x46_2 < (l1.length : Int)
    case neg =>
     rw [if_neg c23] at H
     exact absurd H (by simp)
    rw [if_pos c23] at H
    have c23b0 : decide (x46_2 < (l1.length : Int)) = true := decide_eq_true c23
    clear c23
    replace H := Option.bind_eq_some_iff.mp H
    obtain ⟨⟨t205, t206⟩, A240, H⟩ := H
    replace H : ((qY6.f k2 t205 t206 (IntKind.u64.wrap (t195))).bind fun bt207 => (if x46_2 < (x8_2.length : Int) then ((some (x8_2.set (x46_2 : Int).toNat (wrap64 (bt207.1)) : List Int)).bind fun y210 => (if x46_2 < (x9_2.length : Int) then (qQx.l0 k2 a0 t195 y210 (x9_2.set (x46_2 : Int).toNat bt207.2.1) (wrap64 (x10_2 - (rd y210 x46_2))) l1 (l1.length : Int) (wrap64 (x46_2 + 1))) else (none))) else (none))) = some (r1, r2) := H
    have A24 := am A240
    clear A240
    replace H := Option.bind_eq_some_iff.mp H
    obtain ⟨⟨t207, t208, t209⟩, A250, H⟩ := H
    replace H : (if x46_2 < (x8_2.length : Int) then ((some (x8_2.set (x46_2 : Int).toNat (wrap64 (t207)) : List Int)).bind fun y210 => (if x46_2 < (x9_2.length : Int) then (qQx.l0 k2 a0 t195 y210 (x9_2.set (x46_2 : Int).toNat t208) (wrap64 (x10_2 - (rd y210 x46_2))) l1 (l1.length : Int) (wrap64 (x46_2 + 1))) else (none))) else (none)) = some (r1, r2) := H
    have A25 := am A250
    clear A250
    by_cases c26 : x46_2 < (x8_2.length : Int)
    case neg =>
     rw [if_neg c26] at H
     exact absurd H (by simp)
    rw [if_pos c26] at H
    have c26b0 : decide (x46_2 < (x8_2.length : Int)) = true := decide_eq_true c26
    clear c26
    obtain ⟨y210, hy210⟩ : ∃ y_ : List Int, y_ = (x8_2.set (x46_2 : Int).toNat (wrap64 (t207))) := ⟨_, rfl⟩
    replace H : (if x46_2 < (x9_2.length : Int) then (qQx.l0 k2 a0 t195 y210 (x9_2.set (x46_2 : Int).toNat t208) (wrap64 (x10_2 - (rd y210 x46_2))) l1 (l1.length : Int) (wrap64 (x46_2 + 1))) else (none)) = some (r1, r2) := by first | (rw [hy210]; with_reducible exact H) | (have H2_ := (Option.bind_some _ _).symm.trans H; rw [hy210]; with_reducible exact H2_) | (have H2_ := (Option.bind_some _ _).symm.trans H; with_reducible exact H2_) | with_reducible exact H | (rw [hy210]; exact H) | exact H
    have Ny210 := am hy210
    clear hy210
    by_cases c28 : x46_2 < (x9_2.length : Int)
    case neg =>
     rw [if_neg c28] at H
     exact absurd H (by simp)
    rw [if_pos c28] at H
    have c28b0 : decide (x46_2 < (x9_2.length : Int)) = true := decide_eq_true c28
    clear c28
    obtain ⟨y211, hy211⟩ : ∃ y_ : List Int, y_ = (x9_2.set (x46_2 : Int).toNat t208) := ⟨_, rfl⟩
    replace H : (qQx.l0 k2 a0 t195 y210 y211 (wrap64 (x10_2 - (rd y210 x46_2))) l1 (l1.length : Int) (wrap64 (x46_2 + 1))) = some (r1, r2) := by first | (rw [hy211]; with_reducible exact H) | (have H2_ := (Option.bind_some _ _).symm.trans H; rw [hy211]; with_reducible exact H2_) | (have H2_ := (Option.bind_some _ _).symm.trans H; with_reducible exact H2_) | with_reducible exact H | (rw [hy211]; exact H) | exact H
    have Ny211 := am hy211
    clear hy211
    have H' := am H
    clear H
    have p204 : 0 ≤ (x46_2 : Int) := yd
    have q204 : x46_2 < (l1.length : Int) := yd
    obtain ⟨ad204, e204, hx204_0⟩ := Kd.qZx HR1.out x46_2 p204 q204
    cases e204
    replace hx204_0 := hxb HB.out hx204_0
    replace p204 := eq_true p204
    replace q204 := eq_true q204
    go_wp2_with (first | ((with_reducible refine qQh (f := 82) rfl ?_); refine goesL_ (some 56) rfl rfl Tryz.func82 (by kernel_rfl) rfl #[.int .u64 (IntKind.u64.wrap (a0)), .int .u64 (IntKind.u64.wrap (rd l1 x46_2))] rfl ml ?_; (with_reducible refine (qXl.calls (IntKind.u64.wrap (a0)) (IntKind.u64.wrap (rd l1 x46_2)) t205 t206 _ A24.out).mono ?_); rintro e w' ⟨rfl, ⟨nd, rfl⟩⟩; refine ⟨_, rfl, ?_⟩; (try (rw [qWp wr]; generalize hq_ : World.drewN wr _ = wr; have n0_ : Aside0 (Kd.R (Kd.int .i64) 2 wr w.heap.size (fun _ => True) v199 x8_2) := ⟨by rw [← hq_]; exact (by exact rq HO_8.out)⟩; have n1_ : Aside0 (Kd.R (Kd.int .u64) 102 wr w.heap.size (fun _ => True) v202 x9_2) := ⟨by rw [← hq_]; exact (by exact rq HO_9.out)⟩; have n2_ : Aside0 (Below w.heap.size w wr) := ⟨by rw [← hq_]; exact (by exact h0q HB.out)⟩; clear HO_8 HO_9 HB hq_; have HO_8 := n0_; have HO_9 := n1_; have HB := n2_; clear n0_ n1_ n2_))) | ((with_reducible refine qQh (f := 83) rfl ?_); refine goesL_ (some 64) rfl rfl Tryz.func83 (by kernel_rfl) rfl #[.int .u64 t205, .int .u64 t206, .int .u64 (IntKind.u64.wrap (t195))] rfl ml ?_; (with_reducible refine (qY6.calls k2 t205 t206 (IntKind.u64.wrap (t195)) t207 t208 t209 _ A25.out).mono ?_); rintro e w' ⟨rfl, ⟨nd, rfl⟩⟩; refine ⟨_, rfl, ?_⟩; (try (rw [qWp wr]; generalize hq_ : World.drewN wr _ = wr; have n0_ : Aside0 (Kd.R (Kd.int .i64) 2 wr w.heap.size (fun _ => True) v199 x8_2) := ⟨by rw [← hq_]; exact (by exact rq HO_8.out)⟩; have n1_ : Aside0 (Kd.R (Kd.int .u64) 102 wr w.heap.size (fun _ => True) v202 x9_2) := ⟨by rw [← hq_]; exact (by exact rq HO_9.out)⟩; have n2_ : Aside0 (Below w.heap.size w wr) := ⟨by rw [← hq_]; exact (by exact h0q HB.out)⟩; clear HO_8 HO_9 HB hq_; have HO_8 := n0_; have HO_9 := n1_; have HB := n2_; clear n0_ n1_ n2_)); have p27 : 0 ≤ (x46_2 : Int) := yd; have q27 : (x46_2 : Int) < ((x8_2.length : Int) : Int) := yd; obtain ⟨go27, co27, eo27, gb27, gl27, cl27, HG27⟩ := Kd.qJh HO_8.out (by omega); (first | cases eo27 | (injection eo27 with ea_ en_ ec_; (first | subst ea_ | (injection ea_ with ea_; subst ea_)); subst ec_; clear en_)); have GB27 := am gb27; have GG27 := am HG27; clear gb27 gl27 HG27; obtain ⟨hx27_0, hf27_0⟩ := Kd.qWj 0 HO_8.out (x46_2 : Int) p27 q27; replace p27 := eq_true p27; replace q27 := eq_true q27; obtain ⟨hy30_, hz30_⟩ := Kd.qWj 0 HO_8.out (x46_2 : Int) (yd) (yd); have HP30 := Kd.qJ4 HO_8.out (x46_2 : Int) (wrap64 (t207))) | ((with_reducible refine qXu (t := 2) (p := 75) rfl ?_); refine qXh (t := 2) (p := 75) (v := ?vo_w31) (w1 := (wr.setCell ⟨go27, (x46_2 : Int).toNat, none⟩ (.int .i64 (wrap64 (t207))))) ?hg ?ho ?hn ?hr ?_; (case ho => rfl); (case hg => rfl); (case hn => rfl); (case hr => first | (go_simp; done) | (go_simp; rfl)); intro w31 hw; have hg : wr.grownBy w31 (some go27) := (by rw [hw]; exact HP30.2); have hp_ : Kd.R (Kd.int .i64) 2 w31 w.heap.size (fun _ => True) (.slice (some ⟨go27, 0, none⟩) x8_2.length co27) y210 := (by rw [hw, Ny210.out]; exact HP30.1); clear HP30; have n0_ := am (hp_); have n1_ := am (Kd.qX9 (v := (.slice (some ⟨go27, 0, none⟩) x8_2.length co27)) (by exact rq HO_9.out) (Kd.qX8 HO_8.out) (by decide) hg); have n2_ := am ((by rw [hw]; exact qYm (HB.out) GB27.out : Below w.heap.size w w31)); clear HO_8; clear HO_9; clear HB; have HO_8 := n0_; have HO_9 := n1_; have HB := n2_; clear n0_ n1_ n2_; clear hg hw hp_; have p29 : 0 ≤ (x46_2 : Int) := yd; have q29 : (x46_2 : Int) < ((x9_2.length : Int) : Int) := yd; obtain ⟨go29, co29, eo29, gb29, gl29, cl29, HG29⟩ := Kd.qJh HO_9.out (by omega); (first | cases eo29 | (injection eo29 with ea_ en_ ec_; (first | subst ea_ | (injection ea_ with ea_; subst ea_)); subst ec_; clear en_)); have GB29 := am gb29; have GG29 := am HG29; clear gb29 gl29 HG29; obtain ⟨hx29_0, hf29_0⟩ := Kd.qWj 0 HO_9.out (x46_2 : Int) p29 q29; replace p29 := eq_true p29; replace q29 := eq_true q29; obtain ⟨hy32_, hz32_⟩ := Kd.qWj 0 HO_9.out (x46_2 : Int) (yd) (yd); have HP32 := Kd.qJ4 HO_9.out (x46_2 : Int) t208) | ((with_reducible refine qXu (t := 102) (p := 76) rfl ?_); refine qXh (t := 102) (p := 76) (v := ?vo_w33) (w1 := (w31.setCell ⟨go29, (x46_2 : Int).toNat, none⟩ (.int .u64 t208))) ?hg ?ho ?hn ?hr ?_; (case ho => rfl); (case hg => rfl); (case hn => rfl); (case hr => first | (go_simp; done) | (go_simp; rfl)); intro w33 hw; have hg : w31.grownBy w33 (some go29) := (by rw [hw]; exact HP32.2); have hp_ : Kd.R (Kd.int .u64) 102 w33 w.heap.size (fun _ => True) (.slice (some ⟨go29, 0, none⟩) x9_2.length co29) y211 := (by rw [hw, Ny211.out]; exact HP32.1); clear HP32; have n0_ := am (Kd.qX9 (v := (.slice (some ⟨go29, 0, none⟩) x9_2.length co29)) (by exact rq HO_8.out) (Kd.qX8 HO_9.out) (by decide) hg); have n1_ := am (hp_); have n2_ := am ((by rw [hw]; exact qYm (HB.out) GB29.out : Below w.heap.size w w33)); clear HO_8; clear HO_9; clear HB; have HO_8 := n0_; have HO_9 := n1_; have HB := n2_; clear n0_ n1_ n2_; clear hg hw hp_; have p212 : 0 ≤ (x46_2 : Int) := yd; have q212 : x46_2 < (y210.length : Int) := (by have h_ : (x46_2 : Int) < ((x8_2.length : Int) : Int) := yd; first | (have e_ := (Kd.qZe HO_8.out).1; omega) | simpa only [Ny210.out, List.length_set] using h_); have ql212 : ((x46_2 : Int) < ((x8_2.length : Int) : Int)) = True := eq_true (yd); obtain ⟨ad212, e212, hx212_0⟩ := Kd.qZx (Kd.qZe HO_8.out).2.2 x46_2 p212 q212; obtain rfl : (⟨go27, 0, none⟩ : Addr) = ad212 := (by injection e212); (first | simp only [add_plain] at hx212_0 | simp only [zYe] at hx212_0 | simp only [Addr.add, Nat.zero_add] at hx212_0 | skip); replace p212 := eq_true p212; replace q212 := eq_true q212))
    go_roundg k2
    case measure => have := HJ3.out; have := HK2.out; omega
    case rel => exact ⟨(y210), (y211), (wrap64 (x10_2 - (rd y210 x46_2))), (wrap64 (x46_2 + 1)), (by first | rfl | (simp; done) | (simp [*]; done)), (by first | rfl | (simp; done) | (simp [*]; done)), H', ⟨by have := HJ3.out; have := HK2.out; omega⟩, ⟨by exact rq HO_8.out⟩, ⟨by exact rq HO_9.out⟩, ⟨by exact h0q HB.out⟩⟩
   rw [if_neg c21] at H
   have c21b0 : decide (x46_2 < (l1.length : Int)) = false := decide_eq_false c21
   clear c21
   replace H := Option.bind_eq_some_iff.mp H
   obtain ⟨t213, A340, H⟩ := H
   replace H : (if 0 ≤ x10_2 then (if x10_2 ≤ (t213.length : Int) then ((some (t213.take (x10_2 : Int).toNat : List Int)).bind fun y216 => (qQx.l1 k2 x8_2 y216 (y216.length : Int) 0)) else (none)) else (none)) = some (r1, r2) := H
   have A34 := am A340
   clear A340
   by_cases c35 : 0 ≤ x10_2
   case neg =>
    rw [if_neg c35] at H
    exact absurd H (by simp)
   rw [if_pos c35] at H
   have c35b0 := eq_true c35
   have c35b1 : decide (0 ≤ x10_2) = true := decide_eq_true c35
   clear c35
   by_cases c36 : x10_2 ≤ (t213.length : Int)
   case neg =>
    rw [if_neg c36] at H
    exact absurd H (by simp)
   rw [if_pos c36] at H
   have c36b0 := eq_true c36
   have c36b1 : decide (x10_2 ≤ (t213.length : Int)) = true := decide_eq_true c36
   clear c36
   obtain ⟨y216, hy216⟩ : ∃ y_ : List Int, y_ = (t213.take (x10_2 : Int).toNat) := ⟨_, rfl⟩
   replace H : (qQx.l1 k2 x8_2 y216 (y216.length : Int) 0) = some (r1, r2) := by first | (rw [hy216]; with_reducible exact H) | (have H2_ := (Option.bind_some _ _).symm.trans H; rw [hy216]; with_reducible exact H2_) | (have H2_ := (Option.bind_some _ _).symm.trans H; with_reducible exact H2_) | with_reducible exact H | (rw [hy216]; exact H) | exact H
   have Ny216 := am hy216
   clear hy216
   have H' := am H
   clear H
   obtain ⟨Ao37, co37, eo37⟩ := Kd.qYy HO_9.out
   subst eo37
   go_wp2_with (first | ((with_reducible refine qQh (f := 84) rfl ?_); refine goesL_ (some 85) rfl rfl Tryz.func84 (by kernel_rfl) rfl #[.slice Ao37 x9_2.length co37] rfl ml ?_; (with_reducible refine (qZ5.calls k2 _ _ x9_2 t213 _ ?side1 ?side2 A34.out).mono ?_); (case side1 => exact cq ((Kd.qZe HO_9.out).2.2)); (case side2 => exact (Kd.qZe HO_9.out).2.1); rintro e w38 ⟨v214, rfl, ho0, hb⟩; refine ⟨_, rfl, ?_⟩; have n0_ := am (Kd.qQt (by exact rq HO_8.out) hb); have n1_ := am (Kd.qQt (by exact rq HO_9.out) hb); have n2_ := am (Kd.qYx ho0 (qQd (by exact h0q HB.out))); have n3_ := am (qQb (by exact h0q HB.out) hb); clear HO_8; clear HO_9; clear HB; have HO_8 := n0_; have HO_9 := n1_; have HO215 := n2_; have HB := n3_; clear n0_ n1_ n2_ n3_; (try clear hb); (try clear hb2); (try clear hk); (try clear hi); (try clear ho0); obtain ⟨Ao40, co40, eo40⟩ := Kd.qYy HO215.out; subst eo40; have q39 : (x10_2 : Int) ≤ ((t213.length : Int) : Int) := yd; obtain ⟨i039, hi039, _, hsz39, _⟩ := info_parts info3; have hroom39 : t213.length ≤ co40 := (Kd.qZe HO215.out).2.1; have hC39 : Kd.C (Kd.int .i64) _ Ao40 t213.length t213 := (Kd.qZe HO215.out).2.2; have hcut39 := cut_to (P := Tryz.prog) 32 3 .i64 Tryz.underlying32 hi039 Ao40 t213.length co40 x10_2 (yd) q39 hroom39; have hr39 := Kd.zWr (m := (x10_2 : Int).toNat) hC39 (by omega); have hy39 : y216.length = (x10_2 : Int).toNat := (by rw [Ny216.out, List.length_take]; omega); rw [← Ny216.out] at hr39; rw [← hy39] at hcut39; have HR219 := am hr39; have HC219 := am (show y216.length ≤ co40 from by omega); clear hr39 hC39 hroom39 hi039 hsz39; have KY39 := am hy39; clear hy39; have KL39 := am (show (x10_2 : Int).toNat ≤ t213.length from by omega); replace q39 := eq_true q39))
   go_loopg [89] k2 (fun kq v89 w' => ∃ (x8_3 : List Int) (x89_3 : Int), v89 = .int .i64 x89_3 ∧ Aside0 (qQx.l1 kq x8_3 y216 (y216.length : Int) x89_3 = some (r1, r2)) ∧ Aside0 (kq ≤ k2) ∧ Aside0 (Kd.R (Kd.int .i64) 2 w' w.heap.size (fun _ => True) v199 x8_3) ∧ Aside0 (Kd.R (Kd.int .i64) 3 w' w.heap.size (fun _ => True) (.slice Ao40 t213.length co40) t213) ∧ Aside0 (Below w.heap.size w w'))
   case atStart => exact ⟨(x8_2), (0), (by first | rfl | (simp; done) | (simp [*]; done)), H', ⟨Nat.le_refl _⟩, ⟨by exact rq HO_8.out⟩, ⟨by exact rq HO215.out⟩, ⟨by exact h0q HB.out⟩⟩
   case round =>
    clear H'
    try clear c1
    try clear c7
    try clear c8
    try clear c8b0 c8b1
    try clear c12
    try clear c13
    try clear c13b0 c13b1
    try clear c14
    try clear c14b0 c14b1
    try clear c21
    try clear c21b0
    try clear c22
    try clear c22b0
    try clear c23
    try clear c23b0
    try clear c26
    try clear c26b0
    try clear p27 q27
    try clear c28
    try clear c28b0
    try clear p29 q29
    try clear c35
    try clear c35b0 c35b1
    try clear c36
    try clear c36b0 c36b1
    try clear q39
    try clear hx204_0
    try clear hx212_0
    try clear hx27_0
    try clear hx29_0
    try clear p204
    try clear p212
    try clear p27
    try clear p29
    try clear q204
    try clear q212
    try clear q27
    try clear q29
    try clear q39
    obtain ⟨x8_3, x89_3, rfl, HA, HK3, HO_8, HOP, HB⟩ := hrel
    rcases gk with _ | k3
    ·exact absurd HA.out (by simp [qQx.l1])
    have H := HA.out
    clear HA
    simp only [qQx.l1] at H
    by_cases c41 : x89_3 < (y216.length : Int)
    case neg =>
     rw [if_neg c41] at H
     have c41b0 : decide (x89_3 < (y216.length : Int)) = false := decide_eq_false c41
     clear c41
     simp only [Option.some.injEq, Prod.mk.injEq] at H
     obtain ⟨rfl, rfl⟩ := H
     go_wp2
     go_ret2
     exact ⟨_, er, by (with_reducible repeat (first | apply Kd.qZz | apply Kd.qZ0 | apply Kd.qYi)); exact HO_8.out, by exact h0q HB.out⟩
    rw [if_pos c41] at H
    have c41b0 : decide (x89_3 < (y216.length : Int)) = true := decide_eq_true c41
    clear c41
    by_cases c42 : 0 ≤ x89_3
    case neg =>
     rw [if_neg c42] at H
     exact absurd H (by simp)
    rw [if_pos c42] at H
    have c42b0 : decide (0 ≤ x89_3) = true := decide_eq_true c42
    clear c42
    by_cases c43 : x89_3 < (y216.length : Int)
    case neg =>
     rw [if_neg c43] at H
     exact absurd H (by simp)
    rw [if_pos c43] at H
    have c43b0 : decide (x89_3 < (y216.length : Int)) = true := decide_eq_true c43
    clear c43
    by_cases c44 : 0 ≤ (rd y216 x89_3)
    case neg =>
     rw [if_neg c44] at H
     exact absurd H (by simp)
    rw [if_pos c44] at H
    have c44b0 : decide (0 ≤ (rd y216 x89_3)) = true := decide_eq_true c44
    clear c44
    by_cases c45 : (rd y216 x89_3) < (x8_3.length : Int)
    case neg =>
     rw [if_neg c45] at H
     exact absurd H (by simp)
    rw [if_pos c45] at H
    have c45b0 : decide ((rd y216 x89_3) < (x8_3.length : Int)) = true := decide_eq_true c45
    clear c45
    obtain ⟨y222, hy222⟩ : ∃ y_ : List Int, y_ = (x8_3.set ((rd y216 x89_3) : Int).toNat (wrap64 ((rd x8_3 (rd y216 x89_3)) + 1))) := ⟨_, rfl⟩
    replace H : (qQx.l1 k3 y222 y216 (y216.length : Int) (wrap64 (x89_3 + 1))) = some (r1, r2) := by first | (rw [hy222]; with_reducible exact H) | (have H2_ := (Option.bind_some _ _).symm.trans H; rw [hy222]; with_reducible exact H2_) | (have H2_ := (Option.bind_some _ _).symm.trans H; with_reducible exact H2_) | with_reducible exact H | (rw [hy222]; exact H) | exact H
    have Ny222 := am hy222
    clear hy222
    have H' := am H
    clear H
    have p220 : 0 ≤ (x89_3 : Int) := yd
    have q220 : x89_3 < (y216.length : Int) := yd
    have HRY := Kd.zWr (m := (x10_2 : Int).toNat) (Kd.qZe HOP.out).2.2 KL39.out
    rw [← Ny216.out] at HRY
    obtain ⟨ad220, e220, hx220_0⟩ := Kd.qZx HRY x89_3 p220 q220
    clear HRY
    cases e220
    replace p220 := eq_true p220
    replace q220 := eq_true q220
    obtain ⟨Ao47, co47, eo47⟩ := Kd.qYy HO_8.out
    subst eo47
    have p221 : 0 ≤ ((rd y216 x89_3) : Int) := yd
    have q221 : (rd y216 x89_3) < (x8_3.length : Int) := yd
    obtain ⟨ad221, e221, hx221_0⟩ := Kd.qZx (Kd.qZe HO_8.out).2.2 (rd y216 x89_3) p221 q221
    cases e221
    replace p221 := eq_true p221
    replace q221 := eq_true q221
    have p46 : 0 ≤ ((rd y216 x89_3) : Int) := yd
    have q46 : ((rd y216 x89_3) : Int) < ((x8_3.length : Int) : Int) := yd
    obtain ⟨go46, co46, eo46, gb46, gl46, cl46, HG46⟩ := Kd.qJh HO_8.out (by omega)
    (first | cases eo46 | (injection eo46 with ea_ en_ ec_; (first | subst ea_ | (injection ea_ with ea_; subst ea_)); subst ec_; clear en_))
    have GB46 := am gb46
    have GG46 := am HG46
    clear gb46 gl46 HG46
    (first | simp only [add_plain] at hx221_0 | skip)
    obtain ⟨hx46_0, hf46_0⟩ := Kd.qWj 0 HO_8.out ((rd y216 x89_3) : Int) p46 q46
    replace p46 := eq_true p46
    replace q46 := eq_true q46
    have HP48 := Kd.qJ4 HO_8.out ((rd y216 x89_3) : Int) (wrap64 ((rd x8_3 (rd y216 x89_3)) + 1))
    go_wp2_with (first | ((with_reducible refine qXu (t := 2) (p := 98) rfl ?_); refine qXh (t := 2) (p := 98) (v := ?vo_w49) (w1 := (wr.setCell ⟨go46, ((rd y216 x89_3) : Int).toNat, none⟩ (.int .i64 (wrap64 ((rd x8_3 (rd y216 x89_3)) + 1))))) ?hg ?ho ?hn ?hr ?_; (case ho => rfl); (case hg => rfl); (case hn => rfl); (case hr => first | (go_simp; done) | (go_simp; rfl)); intro w49 hw; have hg : wr.grownBy w49 (some go46) := (by rw [hw]; exact HP48.2); have hp_ : Kd.R (Kd.int .i64) 2 w49 w.heap.size (fun _ => True) (.slice (some ⟨go46, 0, none⟩) x8_3.length co47) y222 := (by rw [hw, Ny222.out]; exact HP48.1); clear HP48; have hq_ := Kd.R_over HOP.out HO_8.out (by intro q hq; have h3_ : q = 3 := (by simpa [Kd.int, Kd.scalar] using hq); omega) hg; have n0_ := am (hp_); have n1_ := am ((by rw [hw]; exact qYm (HB.out) GB46.out : Below w.heap.size w w49)); have n2_ := am hq_; clear HO_8; clear HB; clear HOP; have HO_8 := n0_; have HB := n1_; have HOP := n2_; clear n0_ n1_ n2_; clear hg hw hp_ hq_))
    go_roundg k3
    case measure => have := HJ3.out; have := HK2.out; have := HK3.out; omega
    case rel => exact ⟨(y222), (wrap64 (x89_3 + 1)), (by first | rfl | (simp; done) | (simp [*]; done)), H', ⟨by have := HJ3.out; have := HK2.out; have := HK3.out; omega⟩, ⟨by exact rq HO_8.out⟩, ⟨by exact rq HOP.out⟩, ⟨by exact h0q HB.out⟩⟩
def qZu.l0 : Nat → Int → List Int → Bool → List (S48) → Int → Int → Option (List Int × Int)
 | 0, _, _, _, _, _, _ => none
 | k + 1, x8, x10, x11, x30, x31, x32 => if x32 < x31 then (if 0 ≤ x32 then (if x32 < (x30.length : Int) then (if x32 < (x10.length : Int) then ((some (x10.set (x32 : Int).toNat ((qQa x30 x32).f1) : List Int)).bind fun y232 => (if x11 = true then (qZu.l0 k x8 y232 true x30 x31 (wrap64 (x32 + 1))) else (qZu.l0 k x8 y232 (decide (((qQa x30 x32).f1) > 0)) x30 x31 (wrap64 (x32 + 1))))) else (none)) else (none)) else (none)) else (if x11 = true then ((qQx.f k x8 x10).bind fun bt233 => (some (bt233.1, bt233.2))) else (some (x10, 0)))
def qZu.f (k : Nat) (a0_0 : Int) (l0_1 : List Int) (a1_0 : Int) (l1_1 : List (S48)) (a1_2 : Int) (a1_3 : Int) (a1_4 : Int) (a1_5 : Int) (l1_6 : List (S54)) (a1_7 : Int) (a1_8 : Int) (a1_9 : Int) (a1_10 : Int) (a1_11 : Int) (a1_12 : Int) (l2 : List (S48)) : Option (List Int × Int) := (qXk.f k l0_1 a1_5 a1_4).bind fun bt225 => (if bt225.2 = 0 then (if 0 ≤ (l2.length : Int) then (if ((l2.length : Int) : Int).toNat ≤ 35184372088832 then (qZu.l0 k bt225.1 (List.replicate ((l2.length : Int) : Int).toNat 0) false l2 (l2.length : Int) 0) else (none)) else (none)) else (some (([] : List Int), bt225.2)))
set_option maxHeartbeats 8000000 in
set_option maxRecDepth 100000 in
theorem qZu.calls (k : Nat) (a0_0 : Int) (A0_1 : Option Addr) (c0_1 : Nat) (l0_1 : List Int) (a1_0 : Int) (A1_1 : Option Addr) (c1_1 : Nat) (l1_1 : List (S48)) (a1_2 : Int) (a1_3 : Int) (a1_4 : Int) (a1_5 : Int) (A1_6 : Option Addr) (c1_6 : Nat) (l1_6 : List (S54)) (a1_7 : Int) (a1_8 : Int) (a1_9 : Int) (a1_10 : Int) (a1_11 : Int) (a1_12 : Int) (A2 : Option Addr) (c2 : Nat) (l2 : List (S48)) (r1 : List Int) (r2 : Int) (w : World) (hr0_1 : Kd.C (Kd.int .i64) w A0_1 l0_1.length l0_1) (hc0_1 : l0_1.length ≤ c0_1) (hr1_1 : Kd.C k48 w A1_1 l1_1.length l1_1) (hc1_1 : l1_1.length ≤ c1_1) (hr1_6 : Kd.C k54 w A1_6 l1_6.length l1_6) (hc1_6 : l1_6.length ≤ c1_6) (hr2 : Kd.C k48 w A2 l2.length l2) (hc2 : l2.length ≤ c2) (h : qZu.f k a0_0 l0_1 a1_0 l1_1 a1_2 a1_3 a1_4 a1_5 l1_6 a1_7 a1_8 a1_9 a1_10 a1_11 a1_12 l2 = some (r1, r2)) :
  Calls Tryz.prog 29 #[.agg #[.int .i64 a0_0, .slice A0_1 l0_1.length c0_1], .agg #[.int .i64 a1_0, .slice A1_1 l1_1.length c1_1, .int .i64 a1_2, .int .i64 a1_3, .int .i64 a1_4, .int .i64 a1_5, .slice A1_6 l1_6.length c1_6, .int .i64 a1_7, .int .i64 a1_8, .int .i64 a1_9, .int .i64 a1_10, .int .i64 a1_11, .int .i64 a1_12], .slice A2 l2.length c2] w fun e w' => ∃ v0_ : Value, e = .returned (.tuple #[v0_, .int .i64 r2]) ∧ Kd.R (Kd.int .i64) 2 w' w.heap.size (fun _ => True) v0_ r1 ∧ Below w.heap.size w w' := by
 have hu37 := Tryz.underlying37
 have hu28 := Tryz.underlying28
 have hu48 := Tryz.underlying48
 have HR0_1 := am hr0_1
 have HC0_1 := am hc0_1
 clear hr0_1 hc0_1
 have HR1_1 := am hr1_1
 have HC1_1 := am hc1_1
 clear hr1_1 hc1_1
 have HR1_6 := am hr1_6
 have HC1_6 := am hc1_6
 clear hr1_6 hc1_6
 have HR2 := am hr2
 have HC2 := am hc2
 clear hr2 hc2
 have HB := am (Below.refl w.heap.size w)
 have H : ((qXk.f k l0_1 a1_5 a1_4).bind fun bt225 => (if bt225.2 = 0 then (if 0 ≤ (l2.length : Int) then (if ((l2.length : Int) : Int).toNat ≤ 35184372088832 then (qZu.l0 k bt225.1 (List.replicate ((l2.length : Int) : Int).toNat 0) false l2 (l2.length : Int) 0) else (none)) else (none)) else (some (([] : List Int), bt225.2)))) = some (r1, r2) := h
 clear h
 replace H := Option.bind_eq_some_iff.mp H
 obtain ⟨⟨t225, t226⟩, A40, H⟩ := H
 replace H : (if t226 = 0 then (if 0 ≤ (l2.length : Int) then (if ((l2.length : Int) : Int).toNat ≤ 35184372088832 then (qZu.l0 k t225 (List.replicate ((l2.length : Int) : Int).toNat 0) false l2 (l2.length : Int) 0) else (none)) else (none)) else (some (([] : List Int), t226))) = some (r1, r2) := H
 have A4 := am A40
 clear A40
 by_cases c5 : t226 = 0
 case neg =>
  rw [if_neg c5] at H
  have c5b0 : (t226 == 0) = false := beq_eq_false_iff_ne.mpr c5
  have c5b1 : (t226 != 0) = true := bne_iff_ne.mpr c5
  simp only [Option.some.injEq, Prod.mk.injEq] at H
  obtain ⟨rfl, rfl⟩ := H
  go_enter Tryz.func29, Tryz.ntmps29
  go_wp2_with (first | ((with_reducible refine qQ0 (N := 3) rfl ?_); refine qQs ?hg (N := 3) ?hd (cs := #[.int .i64 a0_0, .slice A0_1 l0_1.length c0_1]) (t := 37) ?hr ?_; (case hd => rfl); (case hg => rfl); (case hr => first | (go_simp; done) | (go_simp; rfl)); intro gb223 hg w43 hbox hb; have n0_ := am (qQb (by exact h0q HB.out) hb); have n1_ := am (hbox); have n2_ := am ((by rw [hg]; exact (qQd (by exact h0q HB.out)) : w.heap.size ≤ gb223)); have n3_ := am ((by rw [hg]; exact (qQd (by exact h0q HB.out)) : w.heap.size ≤ gb223)); clear HB; have HB := n0_; have BK223 := n1_; have GW223 := n2_; have GE223 := n3_; clear n0_ n1_ n2_ n3_; clear hb hbox hg) | ((with_reducible refine qQ0 (N := 4) rfl ?_); refine qQs ?hg (N := 4) ?hd (cs := #[.int .i64 a1_0, .slice A1_1 l1_1.length c1_1, .int .i64 a1_2, .int .i64 a1_3, .int .i64 a1_4, .int .i64 a1_5, .slice A1_6 l1_6.length c1_6, .int .i64 a1_7, .int .i64 a1_8, .int .i64 a1_9, .int .i64 a1_10, .int .i64 a1_11, .int .i64 a1_12]) (t := 28) ?hr ?_; (case hd => rfl); (case hg => rfl); (case hr => first | (go_simp; done) | (go_simp; rfl)); intro gb224 hg w44 hbox hb; have n0_ := am (qQg (g := gb223) (Up.up BK223.out) hb); have n1_ := am (qQb (by exact h1q HB.out GE223.out) hb); have n2_ := am (hbox); have n3_ := am ((by rw [hg]; exact (qQd (by exact h1q HB.out GE223.out)) : w.heap.size ≤ gb224)); have n4_ := am ((by rw [hg]; exact (qQd (by exact h1q HB.out GE223.out)) : w.heap.size ≤ gb224)); have n5_ := am ((by rw [hg]; exact Nat.ne_of_lt (qZr (g := gb223) (Up.up BK223.out)) : gb223 ≠ gb224)); have n6_ := am ((by rw [hg]; exact Nat.ne_of_gt (qZr (g := gb223) (Up.up BK223.out)) : gb224 ≠ gb223)); clear BK223; clear HB; have BK223 := n0_; have HB := n1_; have BK224 := n2_; have GW224 := n3_; have GE224 := n4_; have NB223_224 := n5_; have NB224_223 := n6_; clear n0_ n1_ n2_ n3_ n4_ n5_ n6_; clear hb hbox hg; have hnb45 := NB223_224.out; have hnc45 := NB224_223.out; have hcz46_0 : w44.cell? ⟨gb223, 0, none⟩ = some (.int .i64 a0_0) := (qQc BK223.out 0).trans rfl; have hcz46_1 : w44.cell? ⟨gb223, 1, none⟩ = some (.slice A0_1 l0_1.length c0_1) := (qQc BK223.out 1).trans rfl; have hfz46_0 := qQi BK223.out 0; have hfz46_1 := qQi BK223.out 1; have hz47 := lc13 BK224.out) | ((with_reducible refine qQh (f := 49) rfl ?_); refine goesL_ (some 21) rfl rfl Tryz.func49 (by kernel_rfl) rfl #[.slice A0_1 l0_1.length c0_1, .int .i64 a1_5, .int .i64 a1_4] rfl ml ?_; (with_reducible refine (qXk.calls k _ _ l0_1 a1_5 a1_4 t225 t226 _ ?side1 ?side2 A4.out).mono ?_); (case side1 => exact cq ((Kd.qZq HR0_1.out HB.out))); (case side2 => exact HC0_1.out); rintro e w48 ⟨rfl, hb⟩; refine ⟨_, rfl, ?_⟩; have n0_ := am (qQg (g := gb223) (Up.up BK223.out) hb); have n1_ := am (qQg (g := gb224) (Up.up BK224.out) hb); have n2_ := am (qQb (by exact h2q HB.out GE223.out GE224.out) hb); clear BK223; clear BK224; clear HB; have BK223 := n0_; have BK224 := n1_; have HB := n2_; clear n0_ n1_ n2_; (try clear hb); (try clear hb2); (try clear hk); (try clear hi)))
  go_ret2
  exact ⟨_, er, by first | exact Kd.R_nil _ _ _ _ _ | exact Kd.N_nil _ _ _ _ _ | exact Kd.V_nil _ _ _ _ _ | exact Kd.Q_nil _ _ _ _ _ | exact Kd.S_nil _ _ _ _ _, by exact h2q HB.out GE223.out GE224.out⟩
 rw [if_pos c5] at H
 have c5b0 : (t226 == 0) = true := beq_iff_eq.mpr c5
 have c5b1 : (t226 != 0) = false := bne_eq_false_iff_eq.mpr c5
 clear c5
 by_cases c6 : 0 ≤ (l2.length : Int)
 case neg =>
  rw [if_neg c6] at H
  exact absurd H (by simp)
 rw [if_pos c6] at H
 have c6b0 := eq_true c6
 have c6b1 : decide (0 ≤ (l2.length : Int)) = true := decide_eq_true c6
 clear c6
 by_cases c7 : ((l2.length : Int) : Int).toNat ≤ 35184372088832
 case neg =>
  rw [if_neg c7] at H
  exact absurd H (by simp)
 rw [if_pos c7] at H
 have c7b0 := eq_true c7
 have c7b1 : decide (((l2.length : Int) : Int).toNat ≤ 35184372088832) = true := decide_eq_true c7
 clear c7
 obtain ⟨y227, hy227⟩ : ∃ y_ : List Int, y_ = (List.replicate ((l2.length : Int) : Int).toNat 0) := ⟨_, rfl⟩
 replace H : (qZu.l0 k t225 y227 false l2 (l2.length : Int) 0) = some (r1, r2) := by first | (rw [hy227]; with_reducible exact H) | (have H2_ := (Option.bind_some _ _).symm.trans H; rw [hy227]; with_reducible exact H2_) | (have H2_ := (Option.bind_some _ _).symm.trans H; with_reducible exact H2_) | with_reducible exact H | (rw [hy227]; exact H) | exact H
 have Ny227 := am hy227
 clear hy227
 have H' := am H
 clear H
 go_enter Tryz.func29, Tryz.ntmps29
 go_wp2_with (first | ((with_reducible refine qQ0 (N := 3) rfl ?_); refine qQs ?hg (N := 3) ?hd (cs := #[.int .i64 a0_0, .slice A0_1 l0_1.length c0_1]) (t := 37) ?hr ?_; (case hd => rfl); (case hg => rfl); (case hr => first | (go_simp; done) | (go_simp; rfl)); intro gb223 hg w8 hbox hb; have n0_ := am (qQb (by exact h0q HB.out) hb); have n1_ := am (hbox); have n2_ := am ((by rw [hg]; exact (qQd (by exact h0q HB.out)) : w.heap.size ≤ gb223)); have n3_ := am ((by rw [hg]; exact (qQd (by exact h0q HB.out)) : w.heap.size ≤ gb223)); clear HB; have HB := n0_; have BK223 := n1_; have GW223 := n2_; have GE223 := n3_; clear n0_ n1_ n2_ n3_; clear hb hbox hg) | ((with_reducible refine qQ0 (N := 4) rfl ?_); refine qQs ?hg (N := 4) ?hd (cs := #[.int .i64 a1_0, .slice A1_1 l1_1.length c1_1, .int .i64 a1_2, .int .i64 a1_3, .int .i64 a1_4, .int .i64 a1_5, .slice A1_6 l1_6.length c1_6, .int .i64 a1_7, .int .i64 a1_8, .int .i64 a1_9, .int .i64 a1_10, .int .i64 a1_11, .int .i64 a1_12]) (t := 28) ?hr ?_; (case hd => rfl); (case hg => rfl); (case hr => first | (go_simp; done) | (go_simp; rfl)); intro gb224 hg w9 hbox hb; have n0_ := am (qQg (g := gb223) (Up.up BK223.out) hb); have n1_ := am (qQb (by exact h1q HB.out GE223.out) hb); have n2_ := am (hbox); have n3_ := am ((by rw [hg]; exact (qQd (by exact h1q HB.out GE223.out)) : w.heap.size ≤ gb224)); have n4_ := am ((by rw [hg]; exact (qQd (by exact h1q HB.out GE223.out)) : w.heap.size ≤ gb224)); have n5_ := am ((by rw [hg]; exact Nat.ne_of_lt (qZr (g := gb223) (Up.up BK223.out)) : gb223 ≠ gb224)); have n6_ := am ((by rw [hg]; exact Nat.ne_of_gt (qZr (g := gb223) (Up.up BK223.out)) : gb224 ≠ gb223)); clear BK223; clear HB; have BK223 := n0_; have HB := n1_; have BK224 := n2_; have GW224 := n3_; have GE224 := n4_; have NB223_224 := n5_; have NB224_223 := n6_; clear n0_ n1_ n2_ n3_ n4_ n5_ n6_; clear hb hbox hg; have hnb10 := NB223_224.out; have hnc10 := NB224_223.out; have hcz11_0 : w9.cell? ⟨gb223, 0, none⟩ = some (.int .i64 a0_0) := (qQc BK223.out 0).trans rfl; have hcz11_1 : w9.cell? ⟨gb223, 1, none⟩ = some (.slice A0_1 l0_1.length c0_1) := (qQc BK223.out 1).trans rfl; have hfz11_0 := qQi BK223.out 0; have hfz11_1 := qQi BK223.out 1; have hz12 := lc13 BK224.out) | ((with_reducible refine qQh (f := 49) rfl ?_); refine goesL_ (some 21) rfl rfl Tryz.func49 (by kernel_rfl) rfl #[.slice A0_1 l0_1.length c0_1, .int .i64 a1_5, .int .i64 a1_4] rfl ml ?_; (with_reducible refine (qXk.calls k _ _ l0_1 a1_5 a1_4 t225 t226 _ ?side1 ?side2 A4.out).mono ?_); (case side1 => exact cq ((Kd.qZq HR0_1.out HB.out))); (case side2 => exact HC0_1.out); rintro e w13 ⟨rfl, hb⟩; refine ⟨_, rfl, ?_⟩; have n0_ := am (qQg (g := gb223) (Up.up BK223.out) hb); have n1_ := am (qQg (g := gb224) (Up.up BK224.out) hb); have n2_ := am (qQb (by exact h2q HB.out GE223.out GE224.out) hb); clear BK223; clear BK224; clear HB; have BK223 := n0_; have BK224 := n1_; have HB := n2_; clear n0_ n1_ n2_; (try clear hb); (try clear hb2); (try clear hk); (try clear hi)) | ((with_reducible refine qQ0 (N := 29) rfl ?_); refine Kd.zWz (Kd.int .i64) _ 2 rfl (N := 29) rfl 22 _ _ rfl (l2.length : Int) rfl rfl Tryz.underlying22 (.int .i64 0) 8 info2 rfl (by decide) (by omega) 0 (ok := fun _ => True) (okp := fun _ => True) rfl (fun _ hk => hk) trivial (yd) (Nat.le_trans (Nat.mul_le_mul_right _ (yd : (l2.length : Int).toNat ≤ 35184372088832)) (by omega)) (Below.refl _ _) (Nat.le_refl _) ?_; intro v228 w14 ho15 hb hg_ hnew_; clear hg_ hnew_; (first | rw [← Ny227.out] at ho15 | (simp only [Int.reduceToNat] at ho15; rw [← Ny227.out] at ho15)); have n0_ := am (Kd.qYx ho15 (qQd (by exact h2q HB.out GE223.out GE224.out))); have n1_ := am (qQg (g := gb223) (Up.up BK223.out) hb); have n2_ := am (qQg (g := gb224) (Up.up BK224.out) hb); have n3_ := am (qQb (by exact h2q HB.out GE223.out GE224.out) hb); clear BK223; clear BK224; clear HB; have HO229 := n0_; have BK223 := n1_; have BK224 := n2_; have HB := n3_; clear n0_ n1_ n2_ n3_; clear hb ho15))
 go_loopg [11, 32] k (fun kq v11 v32 w' => ∃ (x10_1 : List Int) (x11_1 : Bool) (x32_1 : Int), v11 = .bool x11_1 ∧ v32 = .int .i64 x32_1 ∧ Aside0 (qZu.l0 kq t225 x10_1 x11_1 l2 (l2.length : Int) x32_1 = some (r1, r2)) ∧ Aside0 (kq ≤ k) ∧ Aside0 (Kd.R (Kd.int .i64) 2 w' w.heap.size (fun _ => True) v228 x10_1) ∧ Aside0 (w'.heap[gb223]? = some (.cells #[.int .i64 a0_0, (.slice A0_1 l0_1.length c0_1)] 37 (0, 0))) ∧ Aside0 (w'.heap[gb224]? = some (.cells #[.int .i64 a1_0, (.slice A1_1 l1_1.length c1_1), .int .i64 a1_2, .int .i64 a1_3, .int .i64 a1_4, .int .i64 a1_5, (.slice A1_6 l1_6.length c1_6), .int .i64 a1_7, .int .i64 a1_8, .int .i64 a1_9, .int .i64 a1_10, .int .i64 a1_11, .int .i64 a1_12] 28 (0, 0))) ∧ Aside0 (Below w.heap.size w w'))
 case atStart => exact ⟨(y227), (false), (0), (by first | rfl | (simp; done) | (simp [*]; done)), (by first | rfl | (simp; done) | (simp [*]; done)), H', ⟨Nat.le_refl _⟩, ⟨by exact rq HO229.out⟩, ⟨by exact bb BK223.out⟩, ⟨by exact bb BK224.out⟩, ⟨by exact h2q HB.out GE223.out GE224.out⟩⟩
 case round =>
  clear H'
  try clear c2
  try clear c5
  try clear c5b0 c5b1
  try clear c6
  try clear c6b0 c6b1
  try clear c7
  try clear c7b0 c7b1
  try clear hcz11_0
  try clear hcz11_1
  try clear hz12
  try clear hfz11_0
  try clear hfz11_1
  obtain ⟨x10_1, x11_1, x32_1, rfl, rfl, HA, HK1, HO_10, BK223, BK224, HB⟩ := hrel
  rcases gk with _ | k1
  ·exact absurd HA.out (by simp [qZu.l0])
  have H := HA.out
  clear HA
  simp only [qZu.l0] at H
  by_cases c16 : x32_1 < (l2.length : Int)
  case neg =>
   rw [if_neg c16] at H
   have c16b0 : decide (x32_1 < (l2.length : Int)) = false := decide_eq_false c16
   clear c16
   by_cases c39 : x11_1 = true
   case neg =>
    replace c39 := Bool.eq_false_iff.mpr c39
    subst c39
    have H1 : (some (x10_1, 0)) = some (r1, r2) := by rw [if_neg (show ¬ (false = true) by decide)] at H; exact H
    clear H
    have H := H1
    clear H1
    simp only [Option.some.injEq, Prod.mk.injEq] at H
    obtain ⟨rfl, rfl⟩ := H
    go_wp2
    go_ret2
    exact ⟨_, er, by (with_reducible repeat (first | apply Kd.qZz | apply Kd.qZ0 | apply Kd.qYi)); exact HO_10.out, by exact h2q HB.out GE223.out GE224.out⟩
   subst c39
   have H1 : ((qQx.f k1 t225 x10_1).bind fun bt233 => (some (bt233.1, bt233.2))) = some (r1, r2) := by rw [if_pos rfl] at H; exact H
   clear H
   have H := H1
   clear H1
   replace H := Option.bind_eq_some_iff.mp H
   obtain ⟨⟨t233, t234⟩, A400, H⟩ := H
   replace H : (some (t233, t234)) = some (r1, r2) := H
   have A40 := am A400
   clear A400
   simp only [Option.some.injEq, Prod.mk.injEq] at H
   obtain ⟨rfl, rfl⟩ := H
   obtain ⟨Ao41, co41, eo41⟩ := Kd.qYy HO_10.out
   subst eo41
   go_wp2_with (first | ((with_reducible refine qQh (f := 50) rfl ?_); refine goesL_ (some 54) rfl rfl Tryz.func50 (by kernel_rfl) rfl #[.int .i64 t225, .slice Ao41 x10_1.length co41] rfl ml ?_; (with_reducible refine (qQx.calls k1 t225 _ _ x10_1 t233 t234 _ ?side1 ?side2 A40.out).mono ?_); (case side1 => exact cq ((Kd.qZe HO_10.out).2.2)); (case side2 => exact (Kd.qZe HO_10.out).2.1); rintro e w42 ⟨v235, rfl, ho0, hb⟩; refine ⟨_, rfl, ?_⟩; have n0_ := am (Kd.qXv (by exact rq HO_10.out) (Kd.qWw ho0) hb); have n1_ := am (Kd.qYx (Kd.qWu ho0 (Kd.R_lt (by exact rq HO_10.out))) (qQd (by exact h2q HB.out GE223.out GE224.out))); have n2_ := am (qQg (g := gb223) (Up.up BK223.out) hb); have n3_ := am (qQg (g := gb224) (Up.up BK224.out) hb); have n4_ := am (qQb (by exact h2q HB.out GE223.out GE224.out) hb); clear HO_10; clear BK223; clear BK224; clear HB; have HO_10 := n0_; have HO236 := n1_; have BK223 := n2_; have BK224 := n3_; have HB := n4_; clear n0_ n1_ n2_ n3_ n4_; (try clear hb); (try clear hb2); (try clear hk); (try clear hi); (try clear ho0)))
   go_ret2
   exact ⟨_, er, by (with_reducible repeat (first | apply Kd.qZz | apply Kd.qZ0 | apply Kd.qYi)); exact Kd.qZ2 HO236.out (fun _ hk => trivial), by exact h2q HB.out GE223.out GE224.out⟩
  rw [if_pos c16] at H
  have c16b0 : decide (x32_1 < (l2.length : Int)) = true := decide_eq_true c16
  clear c16
  by_cases c17 : 0 ≤ x32_1
  case neg =>
   rw [if_neg c17] at H
   exact absurd H (by simp)
  rw [if_pos c17] at H
  have c17b0 : decide (0 ≤ x32_1) = true := decide_eq_true c17
  clear c17
  by_cases c18 : x32_1 < (l2.length : Int)
  case neg =>
   rw [if_neg c18] at H
   exact absurd H (by simp)
  rw [if_pos c18] at H
  have c18b0 : decide (x32_1 < (l2.length : Int)) = true := decide_eq_true c18
  clear c18
  by_cases c19 : x32_1 < (x10_1.length : Int)
  case neg =>
   rw [if_neg c19] at H
   exact absurd H (by simp)
  rw [if_pos c19] at H
  have c19b0 : decide (x32_1 < (x10_1.length : Int)) = true := decide_eq_true c19
  clear c19
  obtain ⟨y232, hy232⟩ : ∃ y_ : List Int, y_ = (x10_1.set (x32_1 : Int).toNat ((qQa l2 x32_1).f1)) := ⟨_, rfl⟩
  replace H : (if x11_1 = true then (qZu.l0 k1 t225 y232 true l2 (l2.length : Int) (wrap64 (x32_1 + 1))) else (qZu.l0 k1 t225 y232 (decide (((qQa l2 x32_1).f1) > 0)) l2 (l2.length : Int) (wrap64 (x32_1 + 1)))) = some (r1, r2) := by first | (rw [hy232]; with_reducible exact H) | (have H2_ := (Option.bind_some _ _).symm.trans H; rw [hy232]; with_reducible exact H2_) | (have H2_ := (Option.bind_some _ _).symm.trans H; with_reducible exact H2_) | with_reducible exact H | (rw [hy232]; exact H) | exact H
  have Ny232 := am hy232
  clear hy232
  by_cases c21 : x11_1 = true
  ·subst c21
   have H1 : (qZu.l0 k1 t225 y232 true l2 (l2.length : Int) (wrap64 (x32_1 + 1))) = some (r1, r2) := by rw [if_pos rfl] at H; exact H
   clear H
   have H := H1
   clear H1
   have H' := am H
   clear H
   have p230 : 0 ≤ (x32_1 : Int) := yd
   have q230 : x32_1 < (l2.length : Int) := yd
   obtain ⟨ad230, e230, hx230_0, hx230_1, hx230_2, hx230_3, hx230_4, hx230_5, hx230_6, hx230_7, hx230_8, hx230_9, hx230_10, hx230_11, hx230_12⟩ := qY8 HR2.out x32_1 p230 q230
   cases e230
   replace hx230_0 := hxb HB.out hx230_0
   replace hx230_1 := hxb HB.out hx230_1
   replace hx230_2 := hxb HB.out hx230_2
   replace hx230_3 := hxb HB.out hx230_3
   replace hx230_4 := hxb HB.out hx230_4
   replace hx230_5 := hxb HB.out hx230_5
   replace hx230_6 := hxb HB.out hx230_6
   replace hx230_7 := hxb HB.out hx230_7
   replace hx230_8 := hxb HB.out hx230_8
   replace hx230_9 := hxb HB.out hx230_9
   replace hx230_10 := hxb HB.out hx230_10
   replace hx230_11 := hxb HB.out hx230_11
   replace hx230_12 := hxb HB.out hx230_12
   replace p230 := eq_true p230
   replace q230 := eq_true q230
   go_wp2_with (first | ((with_reducible refine qQ0 (N := 13) rfl ?_); refine qQs ?hg (N := 13) ?hd (cs := #[.int .i64 0, .int .i64 0, .int .i64 0, .int .i64 0, .int .i64 0, .int .i64 0, .bool false, .int .i64 0, .int .i64 0, .int .i64 0, .int .i64 0, .int .i64 0, .int .i64 0]) (t := 48) ?hr ?_; (case hd => rfl); (case hg => rfl); (case hr => first | (go_simp; done) | (go_simp; rfl)); intro gb231 hg w22 hbox hb; have n0_ := am (Kd.qQt (by exact rq HO_10.out) hb); have n1_ := am (qQg (g := gb223) (Up.up BK223.out) hb); have n2_ := am (qQg (g := gb224) (Up.up BK224.out) hb); have n3_ := am (qQb (by exact h2q HB.out GE223.out GE224.out) hb); have n4_ := am (hbox); have n5_ := am ((by rw [hg]; exact (qQd (by exact h2q HB.out GE223.out GE224.out)) : w.heap.size ≤ gb231)); have n6_ := am ((by rw [hg]; exact (qQd (by exact h2q HB.out GE223.out GE224.out)) : w.heap.size ≤ gb231)); have n7_ := am ((by rw [hg]; exact Nat.ne_of_lt (qZr (g := gb223) (Up.up BK223.out)) : gb223 ≠ gb231)); have n8_ := am ((by rw [hg]; exact Nat.ne_of_gt (qZr (g := gb223) (Up.up BK223.out)) : gb231 ≠ gb223)); have n9_ := am ((by rw [hg]; exact Nat.ne_of_lt (qZr (g := gb224) (Up.up BK224.out)) : gb224 ≠ gb231)); have n10_ := am ((by rw [hg]; exact Nat.ne_of_gt (qZr (g := gb224) (Up.up BK224.out)) : gb231 ≠ gb224)); clear HO_10; clear BK223; clear BK224; clear HB; have HO_10 := n0_; have BK223 := n1_; have BK224 := n2_; have HB := n3_; have BK231 := n4_; have GW231 := n5_; have GE231 := n6_; have NB223_231 := n7_; have NB231_223 := n8_; have NB224_231 := n9_; have NB231_224 := n10_; clear n0_ n1_ n2_ n3_ n4_ n5_ n6_ n7_ n8_ n9_ n10_; clear hb hbox hg; have hnb23 := NB231_223.out; have hnc23 := NB223_231.out; have hnb24 := NB231_224.out; have hnc24 := NB224_231.out; have hz25 := lc13 BK231.out) | ((with_reducible refine qXu (t := 48) (p := 13) rfl ?_); refine qXh (t := 48) (p := 13) (v := ?vo_w26) (w1 := (((((((((((((w22.setCell ⟨gb231, 0, none⟩ (.int .i64 ((qQa l2 x32_1).f0))).setCell ⟨gb231, 1, none⟩ (.int .i64 ((qQa l2 x32_1).f1))).setCell ⟨gb231, 2, none⟩ (.int .i64 ((qQa l2 x32_1).f2))).setCell ⟨gb231, 3, none⟩ (.int .i64 ((qQa l2 x32_1).f3))).setCell ⟨gb231, 4, none⟩ (.int .i64 ((qQa l2 x32_1).f4))).setCell ⟨gb231, 5, none⟩ (.int .i64 ((qQa l2 x32_1).f5))).setCell ⟨gb231, 6, none⟩ (.bool ((qQa l2 x32_1).f6))).setCell ⟨gb231, 7, none⟩ (.int .i64 ((qQa l2 x32_1).f7))).setCell ⟨gb231, 8, none⟩ (.int .i64 ((qQa l2 x32_1).f8))).setCell ⟨gb231, 9, none⟩ (.int .i64 ((qQa l2 x32_1).f9))).setCell ⟨gb231, 10, none⟩ (.int .i64 ((qQa l2 x32_1).f10))).setCell ⟨gb231, 11, none⟩ (.int .i64 ((qQa l2 x32_1).f11))).setCell ⟨gb231, 12, none⟩ (.int .i64 ((qQa l2 x32_1).f12)))) ?hg ?ho ?hn ?hr ?_; (case ho => rfl); (case hg => rfl); (case hn => rfl); (case hr => first | (go_simp; done) | (go_simp; rfl)); intro w26 hw; have n0_ : Aside0 (Kd.R (Kd.int .i64) 2 w26 w.heap.size (fun _ => True) v228 x10_1) := ⟨(by rw [hw]; exact (by (with_reducible repeat (first | apply Kd.qZz | apply Kd.qZ0 | apply Kd.qYi)); exact Kd.qZ2 (R_far13b (Kd.qY7 HO_10.out BK231.out (by decide)) (fun _ hk => hk.2)) (fun _ hk => trivial)))⟩; have n1_ : Aside0 (w26.heap[gb223]? = some (.cells #[.int .i64 a0_0, .slice A0_1 l0_1.length c0_1] 37 (0, 0))) := ⟨(by rw [hw]; exact (by (iterate 13 ((with_reducible repeat (first | refine qQj ?_ _ | refine qQv ?_ | refine qQm ?_ _)); refine qYr ?_ NB223_231.out _)); (with_reducible repeat (first | refine qQj ?_ _ | refine qQv ?_ | refine qQm ?_ _)); exact BK223.out))⟩; have n2_ : Aside0 (w26.heap[gb224]? = some (.cells #[.int .i64 a1_0, .slice A1_1 l1_1.length c1_1, .int .i64 a1_2, .int .i64 a1_3, .int .i64 a1_4, .int .i64 a1_5, .slice A1_6 l1_6.length c1_6, .int .i64 a1_7, .int .i64 a1_8, .int .i64 a1_9, .int .i64 a1_10, .int .i64 a1_11, .int .i64 a1_12] 28 (0, 0))) := ⟨(by rw [hw]; exact (by (iterate 13 ((with_reducible repeat (first | refine qQj ?_ _ | refine qQv ?_ | refine qQm ?_ _)); refine qYr ?_ NB224_231.out _)); (with_reducible repeat (first | refine qQj ?_ _ | refine qQv ?_ | refine qQm ?_ _)); exact BK224.out))⟩; have n3_ : Aside0 (w26.heap[gb231]? = some (.cells #[.int .i64 ((qQa l2 x32_1).f0), .int .i64 ((qQa l2 x32_1).f1), .int .i64 ((qQa l2 x32_1).f2), .int .i64 ((qQa l2 x32_1).f3), .int .i64 ((qQa l2 x32_1).f4), .int .i64 ((qQa l2 x32_1).f5), .bool ((qQa l2 x32_1).f6), .int .i64 ((qQa l2 x32_1).f7), .int .i64 ((qQa l2 x32_1).f8), .int .i64 ((qQa l2 x32_1).f9), .int .i64 ((qQa l2 x32_1).f10), .int .i64 ((qQa l2 x32_1).f11), .int .i64 ((qQa l2 x32_1).f12)] 48 (0, 0))) := ⟨(by rw [hw]; exact (by (with_reducible repeat (first | refine qQj ?_ _ | refine qQv ?_ | refine qQm ?_ _)); apply blk_put13b; (with_reducible repeat (first | refine qQj ?_ _ | refine qQv ?_ | refine qQm ?_ _)); exact BK231.out))⟩; have n4_ : Aside0 (Below w.heap.size w w26) := ⟨(by rw [hw]; exact (by exact h3q HB.out GE223.out GE224.out GE231.out))⟩; clear hw; clear HO_10; clear BK223; clear BK224; clear BK231; clear HB; have HO_10 := n0_; have BK223 := n1_; have BK224 := n2_; have BK231 := n3_; have HB := n4_; clear n0_ n1_ n2_ n3_ n4_; have hz27 := lc13 BK231.out; have p20 : 0 ≤ (x32_1 : Int) := yd; have q20 : (x32_1 : Int) < ((x10_1.length : Int) : Int) := yd; obtain ⟨go20, co20, eo20, gb20, gl20, cl20, HG20⟩ := Kd.qJh HO_10.out (by omega); (first | cases eo20 | (injection eo20 with ea_ en_ ec_; (first | subst ea_ | (injection ea_ with ea_; subst ea_)); subst ec_; clear en_)); have GB20 := am gb20; have GG20 := am HG20; clear gb20 gl20 HG20; obtain ⟨hx20_0, hf20_0⟩ := Kd.qWj 0 HO_10.out (x32_1 : Int) p20 q20; replace p20 := eq_true p20; replace q20 := eq_true q20; obtain ⟨hy28_, hz28_⟩ := Kd.qWj 0 HO_10.out (x32_1 : Int) (yd) (yd); have HP28 := Kd.qJ4 HO_10.out (x32_1 : Int) ((qQa l2 x32_1).f1)) | ((with_reducible refine qXu (t := 2) (p := 41) rfl ?_); refine qXh (t := 2) (p := 41) (v := ?vo_w29) (w1 := (w26.setCell ⟨go20, (x32_1 : Int).toNat, none⟩ (.int .i64 ((qQa l2 x32_1).f1)))) ?hg ?ho ?hn ?hr ?_; (case ho => rfl); (case hg => rfl); (case hn => rfl); (case hr => first | (go_simp; done) | (go_simp; rfl)); intro w29 hw; have hg : w26.grownBy w29 (some go20) := (by rw [hw]; exact HP28.2); have hp_ : Kd.R (Kd.int .i64) 2 w29 w.heap.size (fun _ => True) (.slice (some ⟨go20, 0, none⟩) x10_1.length co20) y232 := (by rw [hw, Ny232.out]; exact HP28.1); clear HP28; have n0_ := am (hp_); have n1_ := am (qYs (g := gb223) (Up.up BK223.out) hg (Kd.R_ne HO_10.out BK223.out (by decide))); have n2_ := am (qYs (g := gb224) (Up.up BK224.out) hg (Kd.R_ne HO_10.out BK224.out (by decide))); have n3_ := am (qYs (g := gb231) (Up.up BK231.out) hg (Kd.R_ne HO_10.out BK231.out (by decide))); have n4_ := am ((by rw [hw]; exact qYm (HB.out) GB20.out : Below w.heap.size w w29)); clear HO_10; clear BK223; clear BK224; clear BK231; clear HB; have HO_10 := n0_; have BK223 := n1_; have BK224 := n2_; have BK231 := n3_; have HB := n4_; clear n0_ n1_ n2_ n3_ n4_; clear hg hw hp_))
   go_roundg k1
   case measure => have := HK1.out; omega
   case rel => exact ⟨(y232), (true), (wrap64 (x32_1 + 1)), (by first | rfl | (simp; done) | (simp [*]; done)), (by first | rfl | (simp; done) | (simp [*]; done)), H', ⟨by have := HK1.out; omega⟩, ⟨by exact rq HO_10.out⟩, ⟨by exact bb BK223.out⟩, ⟨by exact bb BK224.out⟩, ⟨by exact h3q HB.out GE223.out GE224.out GE231.out⟩⟩
  replace c21 := Bool.eq_false_iff.mpr c21
  subst c21
  have H1 : (qZu.l0 k1 t225 y232 (decide (((qQa l2 x32_1).f1) > 0)) l2 (l2.length : Int) (wrap64 (x32_1 + 1))) = some (r1, r2) := by rw [if_neg (show ¬ (false = true) by decide)] at H; exact H
  clear H
  have H := H1
  clear H1
  have H' := am H
  clear H
  have p230 : 0 ≤ (x32_1 : Int) := yd
  have q230 : x32_1 < (l2.length : Int) := yd
  obtain ⟨ad230, e230, hx230_0, hx230_1, hx230_2, hx230_3, hx230_4, hx230_5, hx230_6, hx230_7, hx230_8, hx230_9, hx230_10, hx230_11, hx230_12⟩ := qY8 HR2.out x32_1 p230 q230
  cases e230
  replace hx230_0 := hxb HB.out hx230_0
  replace hx230_1 := hxb HB.out hx230_1
  replace hx230_2 := hxb HB.out hx230_2
  replace hx230_3 := hxb HB.out hx230_3
  replace hx230_4 := hxb HB.out hx230_4
  replace hx230_5 := hxb HB.out hx230_5
  replace hx230_6 := hxb HB.out hx230_6
  replace hx230_7 := hxb HB.out hx230_7
  replace hx230_8 := hxb HB.out hx230_8
  replace hx230_9 := hxb HB.out hx230_9
  replace hx230_10 := hxb HB.out hx230_10
  replace hx230_11 := hxb HB.out hx230_11
  replace hx230_12 := hxb HB.out hx230_12
  replace p230 := eq_true p230
  replace q230 := eq_true q230
  go_wp2_with (first | ((with_reducible refine qQ0 (N := 13) rfl ?_); refine qQs ?hg (N := 13) ?hd (cs := #[.int .i64 0, .int .i64 0, .int .i64 0, .int .i64 0, .int .i64 0, .int .i64 0, .bool false, .int .i64 0, .int .i64 0, .int .i64 0, .int .i64 0, .int .i64 0, .int .i64 0]) (t := 48) ?hr ?_; (case hd => rfl); (case hg => rfl); (case hr => first | (go_simp; done) | (go_simp; rfl)); intro gb231 hg w30 hbox hb; have n0_ := am (Kd.qQt (by exact rq HO_10.out) hb); have n1_ := am (qQg (g := gb223) (Up.up BK223.out) hb); have n2_ := am (qQg (g := gb224) (Up.up BK224.out) hb); have n3_ := am (qQb (by exact h2q HB.out GE223.out GE224.out) hb); have n4_ := am (hbox); have n5_ := am ((by rw [hg]; exact (qQd (by exact h2q HB.out GE223.out GE224.out)) : w.heap.size ≤ gb231)); have n6_ := am ((by rw [hg]; exact (qQd (by exact h2q HB.out GE223.out GE224.out)) : w.heap.size ≤ gb231)); have n7_ := am ((by rw [hg]; exact Nat.ne_of_lt (qZr (g := gb223) (Up.up BK223.out)) : gb223 ≠ gb231)); have n8_ := am ((by rw [hg]; exact Nat.ne_of_gt (qZr (g := gb223) (Up.up BK223.out)) : gb231 ≠ gb223)); have n9_ := am ((by rw [hg]; exact Nat.ne_of_lt (qZr (g := gb224) (Up.up BK224.out)) : gb224 ≠ gb231)); have n10_ := am ((by rw [hg]; exact Nat.ne_of_gt (qZr (g := gb224) (Up.up BK224.out)) : gb231 ≠ gb224)); clear HO_10; clear BK223; clear BK224; clear HB; have HO_10 := n0_; have BK223 := n1_; have BK224 := n2_; have HB := n3_; have BK231 := n4_; have GW231 := n5_; have GE231 := n6_; have NB223_231 := n7_; have NB231_223 := n8_; have NB224_231 := n9_; have NB231_224 := n10_; clear n0_ n1_ n2_ n3_ n4_ n5_ n6_ n7_ n8_ n9_ n10_; clear hb hbox hg; have hnb31 := NB231_223.out; have hnc31 := NB223_231.out; have hnb32 := NB231_224.out; have hnc32 := NB224_231.out; have hz33 := lc13 BK231.out) | ((with_reducible refine qXu (t := 48) (p := 13) rfl ?_); refine qXh (t := 48) (p := 13) (v := ?vo_w34) (w1 := (((((((((((((w30.setCell ⟨gb231, 0, none⟩ (.int .i64 ((qQa l2 x32_1).f0))).setCell ⟨gb231, 1, none⟩ (.int .i64 ((qQa l2 x32_1).f1))).setCell ⟨gb231, 2, none⟩ (.int .i64 ((qQa l2 x32_1).f2))).setCell ⟨gb231, 3, none⟩ (.int .i64 ((qQa l2 x32_1).f3))).setCell ⟨gb231, 4, none⟩ (.int .i64 ((qQa l2 x32_1).f4))).setCell ⟨gb231, 5, none⟩ (.int .i64 ((qQa l2 x32_1).f5))).setCell ⟨gb231, 6, none⟩ (.bool ((qQa l2 x32_1).f6))).setCell ⟨gb231, 7, none⟩ (.int .i64 ((qQa l2 x32_1).f7))).setCell ⟨gb231, 8, none⟩ (.int .i64 ((qQa l2 x32_1).f8))).setCell ⟨gb231, 9, none⟩ (.int .i64 ((qQa l2 x32_1).f9))).setCell ⟨gb231, 10, none⟩ (.int .i64 ((qQa l2 x32_1).f10))).setCell ⟨gb231, 11, none⟩ (.int .i64 ((qQa l2 x32_1).f11))).setCell ⟨gb231, 12, none⟩ (.int .i64 ((qQa l2 x32_1).f12)))) ?hg ?ho ?hn ?hr ?_; (case ho => rfl); (case hg => rfl); (case hn => rfl); (case hr => first | (go_simp; done) | (go_simp; rfl)); intro w34 hw; have n0_ : Aside0 (Kd.R (Kd.int .i64) 2 w34 w.heap.size (fun _ => True) v228 x10_1) := ⟨(by rw [hw]; exact (by (with_reducible repeat (first | apply Kd.qZz | apply Kd.qZ0 | apply Kd.qYi)); exact Kd.qZ2 (R_far13b (Kd.qY7 HO_10.out BK231.out (by decide)) (fun _ hk => hk.2)) (fun _ hk => trivial)))⟩; have n1_ : Aside0 (w34.heap[gb223]? = some (.cells #[.int .i64 a0_0, .slice A0_1 l0_1.length c0_1] 37 (0, 0))) := ⟨(by rw [hw]; exact (by (iterate 13 ((with_reducible repeat (first | refine qQj ?_ _ | refine qQv ?_ | refine qQm ?_ _)); refine qYr ?_ NB223_231.out _)); (with_reducible repeat (first | refine qQj ?_ _ | refine qQv ?_ | refine qQm ?_ _)); exact BK223.out))⟩; have n2_ : Aside0 (w34.heap[gb224]? = some (.cells #[.int .i64 a1_0, .slice A1_1 l1_1.length c1_1, .int .i64 a1_2, .int .i64 a1_3, .int .i64 a1_4, .int .i64 a1_5, .slice A1_6 l1_6.length c1_6, .int .i64 a1_7, .int .i64 a1_8, .int .i64 a1_9, .int .i64 a1_10, .int .i64 a1_11, .int .i64 a1_12] 28 (0, 0))) := ⟨(by rw [hw]; exact (by (iterate 13 ((with_reducible repeat (first | refine qQj ?_ _ | refine qQv ?_ | refine qQm ?_ _)); refine qYr ?_ NB224_231.out _)); (with_reducible repeat (first | refine qQj ?_ _ | refine qQv ?_ | refine qQm ?_ _)); exact BK224.out))⟩; have n3_ : Aside0 (w34.heap[gb231]? = some (.cells #[.int .i64 ((qQa l2 x32_1).f0), .int .i64 ((qQa l2 x32_1).f1), .int .i64 ((qQa l2 x32_1).f2), .int .i64 ((qQa l2 x32_1).f3), .int .i64 ((qQa l2 x32_1).f4), .int .i64 ((qQa l2 x32_1).f5), .bool ((qQa l2 x32_1).f6), .int .i64 ((qQa l2 x32_1).f7), .int .i64 ((qQa l2 x32_1).f8), .int .i64 ((qQa l2 x32_1).f9), .int .i64 ((qQa l2 x32_1).f10), .int .i64 ((qQa l2 x32_1).f11), .int .i64 ((qQa l2 x32_1).f12)] 48 (0, 0))) := ⟨(by rw [hw]; exact (by (with_reducible repeat (first | refine qQj ?_ _ | refine qQv ?_ | refine qQm ?_ _)); apply blk_put13b; (with_reducible repeat (first | refine qQj ?_ _ | refine qQv ?_ | refine qQm ?_ _)); exact BK231.out))⟩; have n4_ : Aside0 (Below w.heap.size w w34) := ⟨(by rw [hw]; exact (by exact h3q HB.out GE223.out GE224.out GE231.out))⟩; clear hw; clear HO_10; clear BK223; clear BK224; clear BK231; clear HB; have HO_10 := n0_; have BK223 := n1_; have BK224 := n2_; have BK231 := n3_; have HB := n4_; clear n0_ n1_ n2_ n3_ n4_; have hz35 := lc13 BK231.out; have p20 : 0 ≤ (x32_1 : Int) := yd; have q20 : (x32_1 : Int) < ((x10_1.length : Int) : Int) := yd; obtain ⟨go20, co20, eo20, gb20, gl20, cl20, HG20⟩ := Kd.qJh HO_10.out (by omega); (first | cases eo20 | (injection eo20 with ea_ en_ ec_; (first | subst ea_ | (injection ea_ with ea_; subst ea_)); subst ec_; clear en_)); have GB20 := am gb20; have GG20 := am HG20; clear gb20 gl20 HG20; obtain ⟨hx20_0, hf20_0⟩ := Kd.qWj 0 HO_10.out (x32_1 : Int) p20 q20; replace p20 := eq_true p20; replace q20 := eq_true q20; obtain ⟨hy36_, hz36_⟩ := Kd.qWj 0 HO_10.out (x32_1 : Int) (yd) (yd); have HP36 := Kd.qJ4 HO_10.out (x32_1 : Int) ((qQa l2 x32_1).f1)) | ((with_reducible refine qXu (t := 2) (p := 41) rfl ?_); refine qXh (t := 2) (p := 41) (v := ?vo_w37) (w1 := (w34.setCell ⟨go20, (x32_1 : Int).toNat, none⟩ (.int .i64 ((qQa l2 x32_1).f1)))) ?hg ?ho ?hn ?hr ?_; (case ho => rfl); (case hg => rfl); (case hn => rfl); (case hr => first | (go_simp; done) | (go_simp; rfl)); intro w37 hw; have hg : w34.grownBy w37 (some go20) := (by rw [hw]; exact HP36.2); have hp_ : Kd.R (Kd.int .i64) 2 w37 w.heap.size (fun _ => True) (.slice (some ⟨go20, 0, none⟩) x10_1.length co20) y232 := (by rw [hw, Ny232.out]; exact HP36.1); clear HP36; have n0_ := am (hp_); have n1_ := am (qYs (g := gb223) (Up.up BK223.out) hg (Kd.R_ne HO_10.out BK223.out (by decide))); have n2_ := am (qYs (g := gb224) (Up.up BK224.out) hg (Kd.R_ne HO_10.out BK224.out (by decide))); have n3_ := am (qYs (g := gb231) (Up.up BK231.out) hg (Kd.R_ne HO_10.out BK231.out (by decide))); have n4_ := am ((by rw [hw]; exact qYm (HB.out) GB20.out : Below w.heap.size w w37)); clear HO_10; clear BK223; clear BK224; clear BK231; clear HB; have HO_10 := n0_; have BK223 := n1_; have BK224 := n2_; have BK231 := n3_; have HB := n4_; clear n0_ n1_ n2_ n3_ n4_; clear hg hw hp_; have hz38 := lc13 BK231.out))
  go_roundg k1
  case measure => have := HK1.out; omega
  case rel => exact ⟨(y232), (decide (((qQa l2 x32_1).f1) > 0)), (wrap64 (x32_1 + 1)), (by first | rfl | (simp; done) | (simp [*]; done)), (by first | rfl | (simp; done) | (simp [*]; done)), H', ⟨by have := HK1.out; omega⟩, ⟨by exact rq HO_10.out⟩, ⟨by exact bb BK223.out⟩, ⟨by exact bb BK224.out⟩, ⟨by exact h3q HB.out GE223.out GE224.out GE231.out⟩⟩
end Go.Proofs.YtlhcohipnieidaaGreat.P
