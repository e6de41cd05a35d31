/- Several texts as one (written by a program): what the walks and the plain laws come to, one behind the other. -/
import Derived.Test.YtlhcohipnieidaaGreatQa
import Derived.Test.YtlhcohipnieidaaGreatQb
import Derived.Test.YtlhcohipnieidaaGreatQc
namespace Go.Proofs.YtlhcohipnieidaaGreat.P
open Go.RowKit W.PrintWords W.PrintLast W.PrintMore
attribute [local go_sem] qX8 qWa qWu qWv qXt qXu qX9 qWb
set_option linter.unusedVariables false
set_option linter.unusedSimpArgs false
mutual
def qQz.j0 : Nat -> Int -> List Int -> Int -> Bool -> Option (List Int × Int)
 | 0, _, _, _, _ => none
 | k + 1, x0, x1, x6, vU => if vU = true then (some (([] : List Int), 1)) else (if 0 <= (x1.length : Int) then (if ((x1.length : Int) : Int).toNat <= 35184372088832 then (qQz.l0 k x0 x6 (List.replicate ((x1.length : Int) : Int).toNat 0) (List.replicate ((x1.length : Int) : Int).toNat 0) x0 x1 (x1.length : Int) 0) else (none)) else (none))
def qQz.l0 : Nat -> Int -> Int -> List Int -> List Int -> Int -> List Int -> Int -> Int -> Option (List Int × Int)
 | 0, _, _, _, _, _, _, _, _ => none
 | k + 1, x0, x6, x8, x9, eS, rE, t2, i9 => if i9 < t2 then (if 0 <= i9 then (if i9 < (rE.length : Int) then ((qWk.f (IntKind.u64.wrap (x0)) (IntKind.u64.wrap (rd rE i9))).bind fun kD => ((qX7.f k kD.1 kD.2 (IntKind.u64.wrap (x6))).bind fun kE => (if i9 < (x8.length : Int) then ((some (x8.set (i9 : Int).toNat (wrap64 (kE.1)) : List Int)).bind fun eR => (if i9 < (x9.length : Int) then (qQz.l0 k x0 x6 eR (x9.set (i9 : Int).toNat kE.2.1) (wrap64 (eS - (rd eR i9))) rE t2 (wrap64 (i9 + 1))) else (none))) else (none)))) else (none)) else (none)) else ((qYe.f k x9).bind fun dN => (if 0 <= eS then (if eS <= (dN.length : Int) then ((some (dN.take (eS : Int).toNat : List Int)).bind fun b5 => (qQz.l1 k x8 b5 (b5.length : Int) 0)) else (none)) else (none)))
def qQz.l1 : Nat -> List Int -> List Int -> Int -> Int -> Option (List Int × Int)
 | 0, _, _, _, _ => none
 | k + 1, x8, mZ, t3, kU => if kU < t3 then (if 0 <= kU then (if kU < (mZ.length : Int) then (if 0 <= (rd mZ kU) then (if (rd mZ kU) < (x8.length : Int) then (qQz.l1 k (x8.set ((rd mZ kU) : Int).toNat (wrap64 ((rd x8 (rd mZ kU)) + 1))) mZ t3 (wrap64 (kU + 1))) else (none)) else (none)) else (none)) else (none)) else (some (x8, 0))
end
def qQz.f (k : Nat) (a0 : Int) (l1 : List Int) : Option (List Int × Int) := (qZ3.f l1).bind fun fC => ((qZj.f k a0 l1).bind fun lW => (if lW = true then (if fC.2 = 0 then (qQz.j0 k a0 l1 fC.1 (decide (fC.1 <= 0))) else (qQz.j0 k a0 l1 fC.1 true)) else (qQz.j0 k a0 l1 fC.1 true)))
def qQz.T4 : Bool × List (List Nat × List Nat) := (true, [([], []), ([0], [0]), ([1, 1], [1]), ([], []), ([3], [3]), ([4, 4], [4]), ([2, 0, 1, 2], [2]), ([5, 6, 0, 1, 2, 3, 4, 5, 6], [5])])
def qQz.B4 : List Nat := [0, 1, 3, 0, 8, 24, 7, 127]
theorem qQz.tab4 : rtab .any (opsOf Tryz.f50 4) = qQz.T4 := by kernel_rfl
theorem qQz.bits4 : waitsOk qQz.T4.2 qQz.B4 = true := by kernel_rfl
set_option maxHeartbeats 8000000 in
set_option maxRecDepth 100000 in
theorem qQz.calls (k : Nat) (a0 : Int) (A1 : Option Addr) (c1 : Nat) (l1 r1 : List Int) (r2 : Int) (w : World) (hr1 : Kd.C (Kd.int .i64) w A1 l1.length l1) (hc1 : l1.length <= c1) (h : qQz.f k a0 l1 = some (r1, r2)) :
  Calls Tryz.prog 50 #[.int .i64 a0, .slice A1 l1.length c1] w fun e w' => ∃ v0_ : Value, e = .returned (.tuple #[v0_, .int .i64 r2]) /\ Kd.R (Kd.int .i64) 2 w' w.heap.size (fun _ => True) v0_ r1 /\ Below w.heap.size w w' := by
 have hU := am hr1
 have mM := am hc1
 clear hr1 hc1
 have HB := am (Below.refl w.heap.size w)
 have H := h
 unfold qQz.f at H
 clear h
 obtain ⟨⟨fL, pC⟩, A3, H⟩ := bd H
 have kW := am H
 clear H
 go_enter Tryz.func50, Tryz.ntmps50
 go_upto_region 2 with (first | ((with_reducible refine gf 80 ?_); refine gC (some 22) Tryz.func80 (qZ3.calls _ _ _ fL pC _ ?side1 ?side2 A3.out) ?_; (case side1 => exact cq (hU.out)); (case side2 => exact mM.out); rintro e w5 ⟨rfl, hb⟩; refine ⟨_, rfl, ?_⟩; replace HB := s0 HB hb; (try clear hb); (try clear hb2); (try clear hk); (try clear hi)))
 (try simp only [Act.put, List.setIfInBounds_toArray, List.set_cons_zero, List.set_cons_succ])
 go_cut [36] (fun vH wc => ∃ (kq : Nat) (hA : Bool), vH = .bool hA /\ Aside0 (qQz.j0 kq a0 l1 fL hA = some (r1, r2)) /\ Aside0 (kq <= k) /\ Aside0 (Below w.heap.size w wc))
 case first =>
  have H := kW.out
  clear kW
  obtain ⟨lW, A6, H⟩ := bd H
  by_cases c7 : lW = true
  case neg =>
   replace c7 := Bool.eq_false_iff.mpr c7
   subst c7
   rw [if_neg (show ¬ (false = true) by decide)] at H
   have H' := am H
   clear H
   go_wp2_with (first | ((with_reducible refine gf 81 ?_); refine gC (some 27) Tryz.func81 (qZj.calls _ _ _ _ _ false _ ?side1 ?side2 A6.out) ?_; (case side1 => exact cq ((Kd.qZp hU.out HB.out))); (case side2 => exact mM.out); rintro e vW ⟨rfl, hb⟩; refine ⟨_, rfl, ?_⟩; replace HB := s0 HB hb; (try clear hb); (try clear hb2); (try clear hk); (try clear hi)))
   go_meet
   case rel => exact ⟨_, (true), fr, H', o0, a0_ HB⟩
  subst c7
  rw [if_pos rfl] at H
  by_cases c8 : pC = 0
  case neg =>
   rw [if_neg c8] at H
   have d3 := beq_eq_false_iff_ne.mpr c8
   have hN := bne_iff_ne.mpr c8
   (first | rw [d3] | (simp only [i64_w, i32_w]; rw [d3]) | skip)
   have H' := am H
   clear H
   go_wp2_with (first | ((with_reducible refine gf 81 ?_); refine gC (some 27) Tryz.func81 (qZj.calls _ _ _ _ _ true _ ?side1 ?side2 A6.out) ?_; (case side1 => exact cq ((Kd.qZp hU.out HB.out))); (case side2 => exact mM.out); rintro e tY ⟨rfl, hb⟩; refine ⟨_, rfl, ?_⟩; replace HB := s0 HB hb; (try clear hb); (try clear hb2); (try clear hk); (try clear hi)))
   go_meet
   case rel => exact ⟨_, (true), fr, H', o0, a0_ HB⟩
  rw [if_pos c8] at H
  have d3 := beq_iff_eq.mpr c8
  have hN := bne_eq_false_iff_eq.mpr c8
  clear c8
  (first | rw [d3] | (simp only [i64_w, i32_w]; rw [d3]) | skip)
  have H' := am H
  clear H
  go_wp2_with (first | ((with_reducible refine gf 81 ?_); refine gC (some 27) Tryz.func81 (qZj.calls _ _ _ _ _ true _ ?side1 ?side2 A6.out) ?_; (case side1 => exact cq ((Kd.qZp hU.out HB.out))); (case side2 => exact mM.out); rintro e w9 ⟨rfl, hb⟩; refine ⟨_, rfl, ?_⟩; replace HB := s0 HB hb; (try clear hb); (try clear hb2); (try clear hk); (try clear hi)))
  go_meet
  case rel => exact ⟨_, (decide (fL <= 0)), fr, H', o0, a0_ HB⟩
 case rest =>
  clear kW
  try clear c1
  try clear c7
  try clear c8
  try clear d3 hN
  obtain ⟨kq, hA, rfl, HA, fQ, HB⟩ := hcut
  rcases kq with _ | lP
  ·exact absurd HA.out (by simp [qQz.j0])
  have H := HA.out
  clear HA
  simp only [qQz.j0] at H
  by_cases hM : hA = true
  ·subst hM
   rw [if_pos rfl] at H
   simp only [Option.some.injEq, Prod.mk.injEq] at H
   obtain ⟨rfl, rfl⟩ := H
   go_wp2
   go_ret2
   exact ⟨_, er, by first | exact Kd.R_nil _ _ _ _ _ | exact Kd.N_nil _ _ _ _ _ | exact Kd.V_nil _ _ _ _ _ | exact Kd.Q_nil _ _ _ _ _ | exact Kd.S_nil _ _ _ _ _, by exact h0q HB.out⟩
  replace hM := Bool.eq_false_iff.mpr hM
  subst hM
  rw [if_neg (show ¬ (false = true) by decide)] at H
  by_cases gS : 0 <= (l1.length : Int)
  case neg =>
   rw [if_neg gS] at H
   exact absurd H (by simp)
  rw [if_pos gS] at H
  have gT := eq_true gS
  have kG := decide_eq_true gS
  clear gS
  by_cases kZ : ((l1.length : Int) : Int).toNat <= 35184372088832
  case neg =>
   rw [if_neg kZ] at H
   exact absurd H (by simp)
  rw [if_pos kZ] at H
  have kH := eq_true kZ
  have kI := decide_eq_true kZ
  clear kZ
  obtain ⟨i8, iO⟩ : ∃ y_ : List Int, y_ = (List.replicate ((l1.length : Int) : Int).toNat 0) := ⟨_, rfl⟩
  replace H : (qQz.l0 lP a0 fL i8 (List.replicate ((l1.length : Int) : Int).toNat 0) a0 l1 (l1.length : Int) 0) = some (r1, r2) := by exact hyq H iO
  have gO := am iO
  clear iO
  obtain ⟨j5, iP⟩ : ∃ y_ : List Int, y_ = (List.replicate ((l1.length : Int) : Int).toNat 0) := ⟨_, rfl⟩
  replace H : (qQz.l0 lP a0 fL i8 j5 a0 l1 (l1.length : Int) 0) = some (r1, r2) := by exact hyq H iP
  have gP := am iP
  clear iP
  have H' := am H
  clear H
  try go_wp2
  replace HB := am (qZk HB.out)
  refine start_ (n := 8) (S := fun w' => True) (ds := []) #[false, false, false, false, false, false, false, false] (by kernel_rfl) rfl rfl trivial (fun hHeld => ?_); refine qX5 qQz.tab4 qQz.bits4 (fun HT_ HW_ => ?_)
  generalize wc.drew = tZ at HB hHeld ⊢
  refine pure_ (i := 0) (N := some 37) (v := ?_) (a' := ?_) #[true, false, false, false, false, false, false, false] rfl rfl (qZ0 HT_.out (by kernel_rfl)) (fun _ _ _ h => h) (Or.inl ⟨by rfl, ?_⟩) ?_ ?_
  rotate_left
  ·intro w'
   go_simp
   with_reducible rfl
  rotate_left
  ·exact pu
  refine pure_ (i := 1) (N := some 38) (v := ?_) (a' := ?_) #[true, true, false, false, false, false, false, false] rfl rfl (qZ0 HT_.out (by kernel_rfl)) (fun _ _ _ h => h) (Or.inl ⟨by rfl, ?_⟩) ?_ ?_
  rotate_left
  ·intro w'
   go_simp
   with_reducible rfl
  rotate_left
  ·exact pu
  refine pure_ (i := 3) (N := some 40) (v := ?_) (a' := ?_) #[true, true, false, true, false, false, false, false] rfl rfl (qZ0 HT_.out (by kernel_rfl)) (fun _ _ _ h => h) (Or.inl ⟨by rfl, ?_⟩) ?_ ?_
  rotate_left
  ·intro w'
   go_simp
   with_reducible rfl
  rotate_left
  ·exact pu
  refine pure_ (i := 4) (N := some 41) (v := ?_) (a' := ?_) #[true, true, false, true, true, false, false, false] rfl rfl (qZ0 HT_.out (by kernel_rfl)) (fun _ _ _ h => h) (Or.inl ⟨by rfl, ?_⟩) ?_ ?_
  rotate_left
  ·intro w'
   go_simp
   with_reducible rfl
  rotate_left
  ·exact pu
  refine join_ (σ := Value × Value) 1 #[true, true, true, true, true, true, true, false] (fun s_ => [(39, s_.1), (42, s_.2), (8, s_.1)]) (fun s_ w' => (Kd.R (Kd.int .i64) 2 w' w.heap.size (fun _ => True) s_.1 i8) /\ (Kd.R (Kd.int .u64) 102 w' w.heap.size (fun _ => True) s_.2 j5) /\ (Below w.heap.size w w')) ?_ ?_
  rotate_left
  ·intro hCont
   refine two_ (i := 2) (j := 5) (Ni := some 39) (Nj := some 42) #[true, true, true, true, true, false, false, false] #[true, true, false, true, true, true, false, false] rfl rfl rfl rfl (zZi HT_.out (by kernel_rfl)) (by decide) (by decide) (fun K hK => ?_) (fun K hK => ?_)
   ·skip
    refine Kd.qW9 (Kd.int .i64) _ 2 (by rfl) (N := 39) rfl 22 _ _ rfl (l1.length : Int) rfl rfl Tryz.underlying22 (.int .i64 0) 8 info2 rfl (by decide) (by omega) 0 (ok := fun _ => True) (okp := fun _ => True) rfl (fun _ hk => hk) trivial (yd) (Nat.le_trans (Nat.mul_le_mul_right _ (yd : (l1.length : Int).toNat <= 35184372088832)) (by omega)) (Below.refl _ _) (Nat.le_refl _) ?_
    intro e4 vN eN hb hg_ hnew_
    clear hg_ hnew_
    (first | rw [<- gO.out] at eN | (simp only [Int.reduceToNat] at eN; rw [<- gO.out] at eN))
    have eH := am (Kd.qZ1 eN (qQn (by exact h0q HB.out)))
    replace HB := s0 HB hb
    clear hb eN
    refine hK.out _ _ trivial (fun hHeld => ?_)
    clear hK K
    refine norm_ (a' := ?_) ?_ ?_
    rotate_left
    ·show Act.put _ (some 39) _ = _
     exact pu
    refine pure_ (i := 6) (N := some 8) (v := ?_) (a' := ?_) #[true, true, true, true, true, false, true, false] rfl rfl (qZ0 HT_.out (by kernel_rfl)) (fun _ _ _ h => h) (Or.inl ⟨by rfl, ?_⟩) ?_ ?_
    rotate_left
    ·intro w'
     go_simp
     with_reducible rfl
    rotate_left
    ·exact pu
    refine one_ (i := 5) (N := some 42) #[true, true, true, true, true, true, true, false] rfl rfl (qXj HT_.out (by kernel_rfl)) (by decide) (fun K hK => ?_)
    refine Kd.qW9 (Kd.int .u64) _ 102 (by rfl) (N := 42) rfl 118 _ _ rfl (l1.length : Int) rfl rfl Tryz.underlying118 (.int .u64 0) 8 info102 rfl (by decide) (by omega) 0 (ok := fun _ => True) (okp := fun _ => True) rfl (fun _ hk => hk) trivial (yd) (Nat.le_trans (Nat.mul_le_mul_right _ (yd : (l1.length : Int).toNat <= 35184372088832)) (by omega)) (Below.refl _ _) (Nat.le_refl _) ?_
    intro fM vO eO hb hg_ hnew_
    clear hg_ hnew_
    (first | rw [<- gP.out] at eO | (simp only [Int.reduceToNat] at eO; rw [<- gP.out] at eO))
    replace eH := Rb eH hb
    have eI := am (Kd.qZ1 eO (qQn (by exact h0q HB.out)))
    replace HB := s0 HB hb
    clear hb eO
    refine hK.out _ _ trivial (fun hHeld => ?_)
    clear hK K
    refine norm_ (a' := ?_) ?_ ?_
    rotate_left
    ·show Act.put _ (some 42) _ = _
     exact pu
    exact norm_ (by simp only [putAll, Act.put, List.setIfInBounds_toArray, List.set_cons_zero, List.set_cons_succ]) (hCont (e4, fM) _ ⟨(by exact rq eH.out), (by exact rq eI.out), (by exact h0q HB.out)⟩)
   ·skip
    refine Kd.qW9 (Kd.int .u64) _ 102 (by rfl) (N := 42) rfl 118 _ _ rfl (l1.length : Int) rfl rfl Tryz.underlying118 (.int .u64 0) 8 info102 rfl (by decide) (by omega) 0 (ok := fun _ => True) (okp := fun _ => True) rfl (fun _ hk => hk) trivial (yd) (Nat.le_trans (Nat.mul_le_mul_right _ (yd : (l1.length : Int).toNat <= 35184372088832)) (by omega)) (Below.refl _ _) (Nat.le_refl _) ?_
    intro fM vN eN hb hg_ hnew_
    clear hg_ hnew_
    (first | rw [<- gP.out] at eN | (simp only [Int.reduceToNat] at eN; rw [<- gP.out] at eN))
    have eI := am (Kd.qZ1 eN (qQn (by exact h0q HB.out)))
    replace HB := s0 HB hb
    clear hb eN
    refine hK.out _ _ trivial (fun hHeld => ?_)
    clear hK K
    refine norm_ (a' := ?_) ?_ ?_
    rotate_left
    ·show Act.put _ (some 42) _ = _
     exact pu
    refine one_ (i := 2) (N := some 39) #[true, true, true, true, true, true, false, false] rfl rfl (qXj HT_.out (by kernel_rfl)) (by decide) (fun K hK => ?_)
    refine Kd.qW9 (Kd.int .i64) _ 2 (by rfl) (N := 39) rfl 22 _ _ rfl (l1.length : Int) rfl rfl Tryz.underlying22 (.int .i64 0) 8 info2 rfl (by decide) (by omega) 0 (ok := fun _ => True) (okp := fun _ => True) rfl (fun _ hk => hk) trivial (yd) (Nat.le_trans (Nat.mul_le_mul_right _ (yd : (l1.length : Int).toNat <= 35184372088832)) (by omega)) (Below.refl _ _) (Nat.le_refl _) ?_
    intro e4 vO eO hb hg_ hnew_
    clear hg_ hnew_
    (first | rw [<- gO.out] at eO | (simp only [Int.reduceToNat] at eO; rw [<- gO.out] at eO))
    replace eI := Rb eI hb
    have eH := am (Kd.qZ1 eO (qQn (by exact h0q HB.out)))
    replace HB := s0 HB hb
    clear hb eO
    refine hK.out _ _ trivial (fun hHeld => ?_)
    clear hK K
    refine norm_ (a' := ?_) ?_ ?_
    rotate_left
    ·show Act.put _ (some 39) _ = _
     exact pu
    refine pure_ (i := 6) (N := some 8) (v := ?_) (a' := ?_) #[true, true, true, true, true, true, true, false] rfl rfl (qZ0 HT_.out (by kernel_rfl)) (fun _ _ _ h => h) (Or.inl ⟨by rfl, ?_⟩) ?_ ?_
    rotate_left
    ·intro w'
     go_simp
     with_reducible rfl
    rotate_left
    ·exact pu
    exact norm_ (by simp only [putAll, Act.put, List.setIfInBounds_toArray, List.set_cons_zero, List.set_cons_succ]) (hCont (e4, fM) _ ⟨(by exact rq eH.out), (by exact rq eI.out), (by exact h0q HB.out)⟩)
  rintro ⟨e4, fM⟩ p4 ⟨h0_, h1_, h2_⟩
  have g6 : Aside0 (Kd.R (Kd.int .i64) 2 p4 w.heap.size (fun _ => True) e4 i8) := ⟨h0_⟩
  have g7 : Aside0 (Kd.R (Kd.int .u64) 102 p4 w.heap.size (fun _ => True) fM j5) := ⟨h1_⟩
  have g8 : Aside0 (Below w.heap.size w p4) := ⟨h2_⟩
  clear HB h0_ h1_ h2_
  have eH := g6
  have eI := g7
  have HB := g8
  clear g6 g7 g8
  have hHeld := trivial
  refine norm_ (a' := ?_) ?_ ?_
  rotate_left
  ·simp only [putAll, Act.put, List.setIfInBounds_toArray, List.set_cons_zero, List.set_cons_succ]
   rfl
  refine pure_ (i := 7) (N := some 9) (v := ?_) (a' := ?_) #[true, true, true, true, true, true, true, true] rfl rfl (qZ0 HT_.out (by kernel_rfl)) (fun _ _ _ h => h) (Or.inl ⟨by rfl, ?_⟩) ?_ ?_
  rotate_left
  ·intro w'
   go_simp
   with_reducible rfl
  rotate_left
  ·exact pu
  refine done_ (qW0 HT_.out (by kernel_rfl)) ?_
  try go_wp2
  go_loopg [10, 46] lP (fun kq q5 vI w' => ∃ (dS : List Int) (aI : List Int) (cF : Int) (aU : Int), q5 = .int .i64 cF /\ vI = .int .i64 aU /\ Aside0 (qQz.l0 kq a0 fL dS aI cF l1 (l1.length : Int) aU = some (r1, r2)) /\ Aside0 (kq <= lP) /\ Aside0 (Kd.R (Kd.int .i64) 2 w' w.heap.size (fun _ => True) e4 dS) /\ Aside0 (Kd.R (Kd.int .u64) 102 w' w.heap.size (fun _ => True) fM aI) /\ Aside0 (Below w.heap.size w w'))
  case atStart => exact ⟨(i8), (j5), (a0), (0), fr, fr, H', ⟨Nat.le_refl _⟩, rA eH, rA eI, a0_ HB⟩
  case round =>
   clear H'
   try clear c1
   try clear c7
   try clear c8
   try clear d3 hN
   try clear hM
   try clear gS
   try clear gT kG
   try clear kZ
   try clear kH kI
   obtain ⟨dS, aI, cF, aU, rfl, rfl, HA, fR, bS, aW, HB⟩ := hrel
   rcases gk with _ | k2
   ·exact absurd HA.out (by simp [qQz.l0])
   have H := HA.out
   clear HA
   simp only [qQz.l0] at H
   by_cases hQ : aU < (l1.length : Int)
   ·rw [if_pos hQ] at H
    have kJ := decide_eq_true hQ
    clear hQ
    by_cases nY : 0 <= aU
    case neg =>
     rw [if_neg nY] at H
     exact absurd H (by simp)
    rw [if_pos nY] at H
    have nZ := decide_eq_true nY
    clear nY
    by_cases gU : aU < (l1.length : Int)
    case neg =>
     rw [if_neg gU] at H
     exact absurd H (by simp)
    rw [if_pos gU] at H
    have fD := decide_eq_true gU
    clear gU
    obtain ⟨⟨q0, q1⟩, t5, H⟩ := bd H
    obtain ⟨⟨jV, i4, q2⟩, t6, H⟩ := bd H
    by_cases n0 : aU < (dS.length : Int)
    case neg =>
     rw [if_neg n0] at H
     exact absurd H (by simp)
    rw [if_pos n0] at H
    have n1 := decide_eq_true n0
    clear n0
    obtain ⟨eR, iQ⟩ : ∃ y_ : List Int, y_ = (dS.set (aU : Int).toNat (wrap64 (jV))) := ⟨_, rfl⟩
    replace H : (if aU < (aI.length : Int) then (qQz.l0 k2 a0 fL eR (aI.set (aU : Int).toNat i4) (wrap64 (cF - (rd eR aU))) l1 (l1.length : Int) (wrap64 (aU + 1))) else (none)) = some (r1, r2) := by exact hyq H iQ
    have j8 := am iQ
    clear iQ
    by_cases hR : aU < (aI.length : Int)
    case neg =>
     rw [if_neg hR] at H
     exact absurd H (by simp)
    rw [if_pos hR] at H
    have n2 := decide_eq_true hR
    clear hR
    obtain ⟨mJ, iR⟩ : ∃ y_ : List Int, y_ = (aI.set (aU : Int).toNat i4) := ⟨_, rfl⟩
    replace H : (qQz.l0 k2 a0 fL eR mJ (wrap64 (cF - (rd eR aU))) l1 (l1.length : Int) (wrap64 (aU + 1))) = some (r1, r2) := by exact hyq H iR
    have nH := am iR
    clear iR
    have H' := am H
    clear H
    have jR : 0 <= (aU : Int) := yd
    have jT : aU < (l1.length : Int) := yd
    obtain ⟨rT, qE, eY⟩ := Kd.qZ7 hU.out aU jR jT
    cases qE
    replace eY := hxb HB.out eY
    replace jR := eq_true jR
    replace jT := eq_true jT
    go_wp2_with (first | ((with_reducible refine gf 82 ?_); refine gC (some 56) Tryz.func82 (qWk.calls _ _ q0 q1 _ t5.out) ?_; rintro e w' ⟨rfl, ⟨nd, rfl⟩⟩; refine ⟨_, rfl, ?_⟩; (try (rw [qWy wr]; generalize hq_ : World.drewN wr _ = wr; have g6 : Aside0 (Kd.R (Kd.int .i64) 2 wr w.heap.size (fun _ => True) e4 dS) := ⟨by rw [<- hq_]; exact (by exact rq bS.out)⟩; have g7 : Aside0 (Kd.R (Kd.int .u64) 102 wr w.heap.size (fun _ => True) fM aI) := ⟨by rw [<- hq_]; exact (by exact rq aW.out)⟩; have g8 : Aside0 (Below w.heap.size w wr) := ⟨by rw [<- hq_]; exact (by exact h0q HB.out)⟩; clear bS aW HB hq_; have bS := g6; have aW := g7; have HB := g8; clear g6 g7 g8))) | ((with_reducible refine gf 83 ?_); refine gC (some 64) Tryz.func83 (qX7.calls _ _ _ _ jV i4 q2 _ t6.out) ?_; rintro e w' ⟨rfl, ⟨nd, rfl⟩⟩; refine ⟨_, rfl, ?_⟩; (try (rw [qWy wr]; generalize hq_ : World.drewN wr _ = wr; have g6 : Aside0 (Kd.R (Kd.int .i64) 2 wr w.heap.size (fun _ => True) e4 dS) := ⟨by rw [<- hq_]; exact (by exact rq bS.out)⟩; have g7 : Aside0 (Kd.R (Kd.int .u64) 102 wr w.heap.size (fun _ => True) fM aI) := ⟨by rw [<- hq_]; exact (by exact rq aW.out)⟩; have g8 : Aside0 (Below w.heap.size w wr) := ⟨by rw [<- hq_]; exact (by exact h0q HB.out)⟩; clear bS aW HB hq_; have bS := g6; have aW := g7; have HB := g8; clear g6 g7 g8)); have o7 : 0 <= (aU : Int) := yd; have o9 : (aU : Int) < ((dS.length : Int) : Int) := yd; obtain ⟨iL, oF, oJ, oM, gl27, cl27, HG27⟩ := Kd.qKs bS.out (by omega); (first | cases oJ | (injection oJ with ea_ en_ ec_; (first | subst ea_ | (injection ea_ with ea_; subst ea_)); subst ec_; clear en_)); have GB27 := am oM; have GG27 := am HG27; clear oM gl27 HG27; obtain ⟨lK, hf27_0⟩ := Kd.qXy 0 bS.out (aU : Int) o7 o9; replace o7 := eq_true o7; replace o9 := eq_true o9; obtain ⟨hy30_, hz30_⟩ := Kd.qXy 0 bS.out (aU : Int) (yd) (yd); have HP30 := Kd.qVu bS.out (aU : Int) (wrap64 (jV))) | ((with_reducible refine qXv (t := 2) (p := 75) rfl ?_); refine qXp (t := 2) (p := 75) (v := ?vo_w31) (w1 := (wr.setCell ⟨iL, (aU : Int).toNat, none⟩ (.int .i64 (wrap64 (jV))))) ?hg ?ho ?hn ?hr ?_; (case ho => rfl); (case hg => rfl); (case hn => rfl); (case hr => first | (go_simp; done) | (go_simp; rfl)); intro mX hw; have hg : wr.grownBy mX (some iL) := (by rw [hw]; exact HP30.2); have hp_ : Kd.R (Kd.int .i64) 2 mX w.heap.size (fun _ => True) (.slice (some ⟨iL, 0, none⟩) dS.length oF) eR := (by rw [hw, j8.out]; exact HP30.1); clear HP30; replace aW := am (Kd.qYc (v := (.slice (some ⟨iL, 0, none⟩) dS.length oF)) (by exact rq aW.out) (Kd.qYb bS.out) (by decide) hg); replace bS := am hp_; replace HB := am ((by rw [hw]; exact qQ1 (HB.out) GB27.out : Below w.heap.size w mX)); clear hg hw hp_; have o8 : 0 <= (aU : Int) := yd; have pA : (aU : Int) < ((aI.length : Int) : Int) := yd; obtain ⟨jF, oG, oK, oN, gl29, cl29, HG29⟩ := Kd.qKs aW.out (by omega); (first | cases oK | (injection oK with ea_ en_ ec_; (first | subst ea_ | (injection ea_ with ea_; subst ea_)); subst ec_; clear en_)); have GB29 := am oN; have GG29 := am HG29; clear oN gl29 HG29; obtain ⟨lL, hf29_0⟩ := Kd.qXy 0 aW.out (aU : Int) o8 pA; replace o8 := eq_true o8; replace pA := eq_true pA; obtain ⟨hy32_, hz32_⟩ := Kd.qXy 0 aW.out (aU : Int) (yd) (yd); have HP32 := Kd.qVu aW.out (aU : Int) i4) | ((with_reducible refine qXv (t := 102) (p := 76) rfl ?_); refine qXp (t := 102) (p := 76) (v := ?vo_w33) (w1 := (mX.setCell ⟨jF, (aU : Int).toNat, none⟩ (.int .u64 i4))) ?hg ?ho ?hn ?hr ?_; (case ho => rfl); (case hg => rfl); (case hn => rfl); (case hr => first | (go_simp; done) | (go_simp; rfl)); intro rB hw; have hg : mX.grownBy rB (some jF) := (by rw [hw]; exact HP32.2); have hp_ : Kd.R (Kd.int .u64) 102 rB w.heap.size (fun _ => True) (.slice (some ⟨jF, 0, none⟩) aI.length oG) mJ := (by rw [hw, nH.out]; exact HP32.1); clear HP32; replace bS := am (Kd.qYc (v := (.slice (some ⟨jF, 0, none⟩) aI.length oG)) (by exact rq bS.out) (Kd.qYb aW.out) (by decide) hg); replace aW := am hp_; replace HB := am ((by rw [hw]; exact qQ1 (HB.out) GB29.out : Below w.heap.size w rB)); clear hg hw hp_; have jS : 0 <= (aU : Int) := yd; have jU : aU < (eR.length : Int) := (by have h_ : (aU : Int) < ((dS.length : Int) : Int) := yd; first | (have e_ := (Kd.qQq bS.out).1; omega) | simpa only [j8.out, List.length_set] using h_); have ql212 : ((aU : Int) < ((dS.length : Int) : Int)) = True := eq_true (yd); obtain ⟨nP, qF, eG⟩ := Kd.qZ7 (Kd.qQq bS.out).2.2 aU jS jU; obtain rfl : (⟨iL, 0, none⟩ : Addr) = nP := (by injection qF); (first | simp only [add_plain] at eG | simp only [zXz] at eG | simp only [Addr.add, Nat.zero_add] at eG | skip); replace jS := eq_true jS; replace jU := eq_true jU))
    go_roundg k2
    case measure => have := fQ.out; have := fR.out; omega
    case rel => exact ⟨(eR), (mJ), (wrap64 (cF - (rd eR aU))), (wrap64 (aU + 1)), fr, fr, H', o2 fQ fR, rA bS, rA aW, a0_ HB⟩
   rw [if_neg hQ] at H
   have kJ := decide_eq_false hQ
   clear hQ
   obtain ⟨dN, t7, H⟩ := bd H
   by_cases mT : 0 <= cF
   case neg =>
    rw [if_neg mT] at H
    exact absurd H (by simp)
   rw [if_pos mT] at H
   have n3 := eq_true mT
   have n4 := decide_eq_true mT
   clear mT
   by_cases mU : cF <= (dN.length : Int)
   case neg =>
    rw [if_neg mU] at H
    exact absurd H (by simp)
   rw [if_pos mU] at H
   have n5 := eq_true mU
   have n6 := decide_eq_true mU
   clear mU
   obtain ⟨b5, iS⟩ : ∃ y_ : List Int, y_ = (dN.take (cF : Int).toNat) := ⟨_, rfl⟩
   replace H : (qQz.l1 k2 dS b5 (b5.length : Int) 0) = some (r1, r2) := by exact hyq H iS
   have hV := am iS
   clear iS
   have H' := am H
   clear H
   obtain ⟨uA, uH, qI⟩ := Kd.qZq aW.out
   subst qI
   go_wp2_with (first | ((with_reducible refine gf 84 ?_); refine gC (some 85) Tryz.func84 (qYe.calls _ _ _ _ dN _ ?side1 ?side2 t7.out) ?_; (case side1 => exact cq ((Kd.qQq aW.out).2.2)); (case side2 => exact (Kd.qQq aW.out).2.1); rintro e t0 ⟨u3, rfl, fP, hb⟩; refine ⟨_, rfl, ?_⟩; replace bS := Rb bS hb; replace aW := Rb aW hb; have gM := am (Kd.qZ1 fP (qQn (by exact h0q HB.out))); replace HB := s0 HB hb; (try clear hb); (try clear hb2); (try clear hk); (try clear hi); (try clear fP); obtain ⟨kV, jE, qJ⟩ := Kd.qZq gM.out; subst qJ; have pB : (cF : Int) <= ((dN.length : Int) : Int) := yd; obtain ⟨i039, hi039, _, hsz39, _⟩ := info_parts info3; have hroom39 : dN.length <= jE := (Kd.qQq gM.out).2.1; have oP : Kd.C (Kd.int .i64) _ kV dN.length dN := (Kd.qQq gM.out).2.2; have hcut39 := cut_to (P := Tryz.prog) 32 3 .i64 Tryz.underlying32 hi039 kV dN.length jE cF (yd) pB hroom39; have hr39 := Kd.zKu (m := (cF : Int).toNat) oP (by omega); have lM : b5.length = (cF : Int).toNat := (by rw [hV.out, List.length_take]; omega); rw [<- hV.out] at hr39; rw [<- lM] at hcut39; have rS := am hr39; have rP := am (show b5.length <= jE from by omega); clear hr39 oP hroom39 hi039 hsz39; have KY39 := am lM; clear lM; have KL39 := am (show (cF : Int).toNat <= dN.length from by omega); replace pB := eq_true pB))
   go_loopg [89] k2 (fun kq vK w' => ∃ (eQ : List Int) (bM : Int), vK = .int .i64 bM /\ Aside0 (qQz.l1 kq eQ b5 (b5.length : Int) bM = some (r1, r2)) /\ Aside0 (kq <= k2) /\ Aside0 (Kd.R (Kd.int .i64) 2 w' w.heap.size (fun _ => True) e4 eQ) /\ Aside0 (Kd.R (Kd.int .i64) 3 w' w.heap.size (fun _ => True) (.slice kV dN.length jE) dN) /\ Aside0 (Below w.heap.size w w'))
   case atStart => exact ⟨(dS), (0), fr, H', ⟨Nat.le_refl _⟩, rA bS, rA gM, a0_ HB⟩
   case round =>
    clear H'
    try clear c1
    try clear c7
    try clear c8
    try clear d3 hN
    try clear hM
    try clear gS
    try clear gT kG
    try clear kZ
    try clear kH kI
    try clear hQ
    try clear kJ
    try clear nY
    try clear nZ
    try clear gU
    try clear fD
    try clear n0
    try clear n1
    try clear o7 o9
    try clear hR
    try clear n2
    try clear o8 pA
    try clear mT
    try clear n3 n4
    try clear mU
    try clear n5 n6
    try clear pB
    try clear eY
    try clear eG
    try clear lK
    try clear lL
    try clear jR
    try clear jS
    try clear o7
    try clear o8
    try clear jT
    try clear jU
    try clear o9
    try clear pA
    try clear pB
    obtain ⟨eQ, bM, rfl, HA, rQ, bS, HOP, HB⟩ := hrel
    rcases gk with _ | k3
    ·exact absurd HA.out (by simp [qQz.l1])
    have H := HA.out
    clear HA
    simp only [qQz.l1] at H
    by_cases mV : bM < (b5.length : Int)
    case neg =>
     rw [if_neg mV] at H
     have n7 := decide_eq_false mV
     clear mV
     simp only [Option.some.injEq, Prod.mk.injEq] at H
     obtain ⟨rfl, rfl⟩ := H
     go_wp2
     go_ret2
     exact ⟨_, er, by refine rw_ ?_; exact bS.out, by exact h0q HB.out⟩
    rw [if_pos mV] at H
    have n7 := decide_eq_true mV
    clear mV
    by_cases pQ : 0 <= bM
    case neg =>
     rw [if_neg pQ] at H
     exact absurd H (by simp)
    rw [if_pos pQ] at H
    have rZ := decide_eq_true pQ
    clear pQ
    by_cases pR : bM < (b5.length : Int)
    case neg =>
     rw [if_neg pR] at H
     exact absurd H (by simp)
    rw [if_pos pR] at H
    have r0 := decide_eq_true pR
    clear pR
    by_cases fS : 0 <= (rd b5 bM)
    case neg =>
     rw [if_neg fS] at H
     exact absurd H (by simp)
    rw [if_pos fS] at H
    have gV := decide_eq_true fS
    clear fS
    by_cases pS : (rd b5 bM) < (eQ.length : Int)
    case neg =>
     rw [if_neg pS] at H
     exact absurd H (by simp)
    rw [if_pos pS] at H
    have sA := decide_eq_true pS
    clear pS
    obtain ⟨mK, iT⟩ : ∃ y_ : List Int, y_ = (eQ.set ((rd b5 bM) : Int).toNat (wrap64 ((rd eQ (rd b5 bM)) + 1))) := ⟨_, rfl⟩
    replace H : (qQz.l1 k3 mK b5 (b5.length : Int) (wrap64 (bM + 1))) = some (r1, r2) := by exact hyq H iT
    have nI := am iT
    clear iT
    have H' := am H
    clear H
    have lR : 0 <= (bM : Int) := yd
    have lU : bM < (b5.length : Int) := yd
    have HRY := Kd.zKu (m := (cF : Int).toNat) (Kd.qQq HOP.out).2.2 KL39.out
    rw [<- hV.out] at HRY
    obtain ⟨rU, qG, p2⟩ := Kd.qZ7 HRY bM lR lU
    clear HRY
    cases qG
    replace lR := eq_true lR
    replace lU := eq_true lU
    obtain ⟨uD, qB, qM⟩ := Kd.qZq bS.out
    subst qM
    have lS : 0 <= ((rd b5 bM) : Int) := yd
    have lV : (rd b5 bM) < (eQ.length : Int) := yd
    obtain ⟨rV, qH, jK⟩ := Kd.qZ7 (Kd.qQq bS.out).2.2 (rd b5 bM) lS lV
    cases qH
    replace lS := eq_true lS
    replace lV := eq_true lV
    have qY : 0 <= ((rd b5 bM) : Int) := yd
    have qZ : ((rd b5 bM) : Int) < ((eQ.length : Int) : Int) := yd
    obtain ⟨lI, uK, oL, oO, gl46, cl46, HG46⟩ := Kd.qKs bS.out (by omega)
    (first | cases oL | (injection oL with ea_ en_ ec_; (first | subst ea_ | (injection ea_ with ea_; subst ea_)); subst ec_; clear en_))
    have GB46 := am oO
    have GG46 := am HG46
    clear oO gl46 HG46
    (first | simp only [add_plain] at jK | skip)
    obtain ⟨qV, hf46_0⟩ := Kd.qXy 0 bS.out ((rd b5 bM) : Int) qY qZ
    replace qY := eq_true qY
    replace qZ := eq_true qZ
    have HP48 := Kd.qVu bS.out ((rd b5 bM) : Int) (wrap64 ((rd eQ (rd b5 bM)) + 1))
    go_wp2_with (first | ((with_reducible refine qXv (t := 2) (p := 98) rfl ?_); refine qXp (t := 2) (p := 98) (v := ?vo_w49) (w1 := (wr.setCell ⟨lI, ((rd b5 bM) : Int).toNat, none⟩ (.int .i64 (wrap64 ((rd eQ (rd b5 bM)) + 1))))) ?hg ?ho ?hn ?hr ?_; (case ho => rfl); (case hg => rfl); (case hn => rfl); (case hr => first | (go_simp; done) | (go_simp; rfl)); intro p5 hw; have hg : wr.grownBy p5 (some lI) := (by rw [hw]; exact HP48.2); have hp_ : Kd.R (Kd.int .i64) 2 p5 w.heap.size (fun _ => True) (.slice (some ⟨lI, 0, none⟩) eQ.length qB) mK := (by rw [hw, nI.out]; exact HP48.1); clear HP48; have hq_ := Kd.R_over HOP.out bS.out (by intro q hq; have h3_ : q = 3 := (by simpa [Kd.int, Kd.scalar] using hq); omega) hg; replace bS := am hp_; replace HB := am ((by rw [hw]; exact qQ1 (HB.out) GB46.out : Below w.heap.size w p5)); replace HOP := am hq_; clear hg hw hp_ hq_))
    go_roundg k3
    case measure => have := fQ.out; have := fR.out; have := rQ.out; omega
    case rel => exact ⟨(mK), (wrap64 (bM + 1)), fr, H', ⟨by have := fQ.out; have := fR.out; have := rQ.out; omega⟩, rA bS, rA HOP, a0_ HB⟩
def qZ5.l0 : Nat -> Int -> List Int -> Bool -> List (S48) -> Int -> Int -> Option (List Int × Int)
 | 0, _, _, _, _, _, _ => none
 | k + 1, x8, eS, pD, pE, pF, j4 => if j4 < pF then (if 0 <= j4 then (if j4 < (pE.length : Int) then (if j4 < (eS.length : Int) then ((some (eS.set (j4 : Int).toNat ((qQb pE j4).f1) : List Int)).bind fun e6 => (if pD = true then (qZ5.l0 k x8 e6 true pE pF (wrap64 (j4 + 1))) else (qZ5.l0 k x8 e6 (decide (((qQb pE j4).f1) > 0)) pE pF (wrap64 (j4 + 1))))) else (none)) else (none)) else (none)) else (if pD = true then ((qQz.f k x8 eS).bind fun kF => (some (kF.1, kF.2))) else (some (eS, 0)))
def qZ5.f (k : Nat) (bH : Int) (a8 : List Int) (bZ : Int) (aG : List (S48)) (b0 b1 bU bV : Int) (bP : List (S54)) (b2 b3 b4 bC bD bF : Int) (l2 : List (S48)) : Option (List Int × Int) := (qWe.f k a8 bV bU).bind fun hZ => (if hZ.2 = 0 then (if 0 <= (l2.length : Int) then (if ((l2.length : Int) : Int).toNat <= 35184372088832 then (qZ5.l0 k hZ.1 (List.replicate ((l2.length : Int) : Int).toNat 0) false l2 (l2.length : Int) 0) else (none)) else (none)) else (some (([] : List Int), hZ.2)))
set_option maxHeartbeats 8000000 in
set_option maxRecDepth 100000 in
theorem qZ5.calls (k : Nat) (bH : Int) (cC : Option Addr) (cD : Nat) (a8 : List Int) (bZ : Int) (dA : Option Addr) (cM : Nat) (aG : List (S48)) (b0 b1 bU bV : Int) (cL : Option Addr) (cN : Nat) (bP : List (S54)) (b2 b3 b4 bC bD bF : Int) (A2 : Option Addr) (c2 : Nat) (l2 : List (S48)) (r1 : List Int) (r2 : Int) (w : World) (fH : Kd.C (Kd.int .i64) w cC a8.length a8) (fE : a8.length <= cD) (fI : Kd.C k48 w dA aG.length aG) (fF : aG.length <= cM) (fJ : Kd.C k54 w cL bP.length bP) (fG : bP.length <= cN) (hr2 : Kd.C k48 w A2 l2.length l2) (hc2 : l2.length <= c2) (h : qZ5.f k bH a8 bZ aG b0 b1 bU bV bP b2 b3 b4 bC bD bF l2 = some (r1, r2)) :
  Calls Tryz.prog 29 #[.agg #[.int .i64 bH, .slice cC a8.length cD], .agg #[.int .i64 bZ, .slice dA aG.length cM, .int .i64 b0, .int .i64 b1, .int .i64 bU, .int .i64 bV, .slice cL bP.length cN, .int .i64 b2, .int .i64 b3, .int .i64 b4, .int .i64 bC, .int .i64 bD, .int .i64 bF], .slice A2 l2.length c2] w fun e w' => ∃ v0_ : Value, e = .returned (.tuple #[v0_, .int .i64 r2]) /\ Kd.R (Kd.int .i64) 2 w' w.heap.size (fun _ => True) v0_ r1 /\ Below w.heap.size w w' := by
 have qU := Tryz.underlying37
 have qT := Tryz.underlying28
 have oV := Tryz.underlying48
 have d1 := am fH
 have d0 := am fE
 clear fH fE
 have eK := am fI
 have e8 := am fF
 clear fI fF
 have gN := am fJ
 have gL := am fG
 clear fJ fG
 have rR := am hr2
 have vV := am hc2
 clear hr2 hc2
 have HB := am (Below.refl w.heap.size w)
 have H := h
 unfold qZ5.f at H
 clear h
 obtain ⟨⟨hP, lX⟩, A4, H⟩ := bd H
 by_cases c5 : lX = 0
 case neg =>
  rw [if_neg c5] at H
  have eT := beq_eq_false_iff_ne.mpr c5
  have jD := bne_iff_ne.mpr c5
  simp only [Option.some.injEq, Prod.mk.injEq] at H
  obtain ⟨rfl, rfl⟩ := H
  go_enter Tryz.func29, Tryz.ntmps29
  go_wp2_with (first | ((with_reducible refine gd 3 ?_); refine bE 3 _ 37 ?_; intro d2 hg vT hbox hb; have aN := am hbox; have m2 := e0 HB hg; have bI := e0 HB hg; replace HB := s0 HB hb; clear hb hbox hg) | ((with_reducible refine gd 4 ?_); refine bE 4 _ 28 ?_; intro gW hg t1 hbox hb; have a5 := am hbox; have m3 := e1 HB bI hg; have bQ := e1 HB bI hg; replace HB := s1 HB bI hb; have dT := nL aN hg; have dU := nG aN hg; replace aN := bB aN hb; clear hb hbox hg; have sP := dT.out; have tF := dU.out; have pY : t1.cell? ⟨d2, 0, none⟩ = some (.int .i64 bH) := (qQa aN.out 0).trans rfl; have pZ : t1.cell? ⟨d2, 1, none⟩ = some (.slice cC a8.length cD) := (qQa aN.out 1).trans rfl; have p0 := qQd aN.out 0; have p1 := qQd aN.out 1; have uV := lc13 a5.out) | ((with_reducible refine gf 49 ?_); refine gC (some 21) Tryz.func49 (qWe.calls _ _ _ _ _ _ hP lX _ ?side1 ?side2 A4.out) ?_; (case side1 => exact cq ((Kd.qZp d1.out HB.out))); (case side2 => exact d0.out); rintro e v8 ⟨rfl, hb⟩; refine ⟨_, rfl, ?_⟩; replace aN := bB aN hb; replace a5 := bB a5 hb; replace HB := s2 HB bI bQ hb; (try clear hb); (try clear hb2); (try clear hk); (try clear hi)))
  go_ret2
  exact ⟨_, er, by first | exact Kd.R_nil _ _ _ _ _ | exact Kd.N_nil _ _ _ _ _ | exact Kd.V_nil _ _ _ _ _ | exact Kd.Q_nil _ _ _ _ _ | exact Kd.S_nil _ _ _ _ _, by exact h2q HB.out bI.out bQ.out⟩
 rw [if_pos c5] at H
 have eT := beq_iff_eq.mpr c5
 have jD := bne_eq_false_iff_eq.mpr c5
 clear c5
 by_cases c6 : 0 <= (l2.length : Int)
 case neg =>
  rw [if_neg c6] at H
  exact absurd H (by simp)
 rw [if_pos c6] at H
 have iI := eq_true c6
 have k7 := decide_eq_true c6
 clear c6
 by_cases c7 : ((l2.length : Int) : Int).toNat <= 35184372088832
 case neg =>
  rw [if_neg c7] at H
  exact absurd H (by simp)
 rw [if_pos c7] at H
 have eW := eq_true c7
 have eX := decide_eq_true c7
 clear c7
 obtain ⟨pG, iU⟩ : ∃ y_ : List Int, y_ = (List.replicate ((l2.length : Int) : Int).toNat 0) := ⟨_, rfl⟩
 replace H : (qZ5.l0 k hP pG false l2 (l2.length : Int) 0) = some (r1, r2) := by exact hyq H iU
 have j9 := am iU
 clear iU
 have H' := am H
 clear H
 go_enter Tryz.func29, Tryz.ntmps29
 go_wp2_with (first | ((with_reducible refine gd 3 ?_); refine bE 3 _ 37 ?_; intro d2 hg w8 hbox hb; have aN := am hbox; have m2 := e0 HB hg; have bI := e0 HB hg; replace HB := s0 HB hb; clear hb hbox hg) | ((with_reducible refine gd 4 ?_); refine bE 4 _ 28 ?_; intro gW hg w9 hbox hb; have a5 := am hbox; have m3 := e1 HB bI hg; have bQ := e1 HB bI hg; replace HB := s1 HB bI hb; have dT := nL aN hg; have dU := nG aN hg; replace aN := bB aN hb; clear hb hbox hg; have sF := dT.out; have s5 := dU.out; have jG : w9.cell? ⟨d2, 0, none⟩ = some (.int .i64 bH) := (qQa aN.out 0).trans rfl; have jH : w9.cell? ⟨d2, 1, none⟩ = some (.slice cC a8.length cD) := (qQa aN.out 1).trans rfl; have jI := qQd aN.out 0; have jJ := qQd aN.out 1; have oW := lc13 a5.out) | ((with_reducible refine gf 49 ?_); refine gC (some 21) Tryz.func49 (qWe.calls _ _ _ _ _ _ hP lX _ ?side1 ?side2 A4.out) ?_; (case side1 => exact cq ((Kd.qZp d1.out HB.out))); (case side2 => exact d0.out); rintro e vM ⟨rfl, hb⟩; refine ⟨_, rfl, ?_⟩; replace aN := bB aN hb; replace a5 := bB a5 hb; replace HB := s2 HB bI bQ hb; (try clear hb); (try clear hb2); (try clear hk); (try clear hi)) | ((with_reducible refine gd 29 ?_); refine Kd.zXu (Kd.int .i64) _ 2 rfl (N := 29) rfl 22 _ _ rfl (l2.length : Int) rfl rfl Tryz.underlying22 (.int .i64 0) 8 info2 rfl (by decide) (by omega) 0 (ok := fun _ => True) (okp := fun _ => True) rfl (fun _ hk => hk) trivial (yd) (Nat.le_trans (Nat.mul_le_mul_right _ (yd : (l2.length : Int).toNat <= 35184372088832)) (by omega)) (Below.refl _ _) (Nat.le_refl _) ?_; intro mH vX iM hb hg_ hnew_; clear hg_ hnew_; (first | rw [<- j9.out] at iM | (simp only [Int.reduceToNat] at iM; rw [<- j9.out] at iM)); have m6 := am (Kd.qZ1 iM (qQn (by exact h2q HB.out bI.out bQ.out))); replace aN := bB aN hb; replace a5 := bB a5 hb; replace HB := s2 HB bI bQ hb; clear hb iM))
 go_loopg [11, 32] k (fun kq u1 vE w' => ∃ (cO : List Int) (eV : Bool) (aE : Int), u1 = .bool eV /\ vE = .int .i64 aE /\ Aside0 (qZ5.l0 kq hP cO eV l2 (l2.length : Int) aE = some (r1, r2)) /\ Aside0 (kq <= k) /\ Aside0 (Kd.R (Kd.int .i64) 2 w' w.heap.size (fun _ => True) mH cO) /\ Aside0 (w'.heap[d2]? = some (.cells #[.int .i64 bH, (.slice cC a8.length cD)] 37 (0, 0))) /\ Aside0 (w'.heap[gW]? = some (.cells #[.int .i64 bZ, (.slice dA aG.length cM), .int .i64 b0, .int .i64 b1, .int .i64 bU, .int .i64 bV, (.slice cL bP.length cN), .int .i64 b2, .int .i64 b3, .int .i64 b4, .int .i64 bC, .int .i64 bD, .int .i64 bF] 28 (0, 0))) /\ Aside0 (Below w.heap.size w w'))
 case atStart => exact ⟨(pG), (false), (0), fr, fr, H', ⟨Nat.le_refl _⟩, rA m6, bA aN, bA a5, a2_ HB bI bQ⟩
 case round =>
  clear H'
  try clear c2
  try clear c5
  try clear eT jD
  try clear c6
  try clear iI k7
  try clear c7
  try clear eW eX
  try clear jG
  try clear jH
  try clear oW
  try clear jI
  try clear jJ
  obtain ⟨cO, eV, aE, rfl, rfl, HA, hD, aY, aN, a5, HB⟩ := hrel
  rcases gk with _ | k1
  ·exact absurd HA.out (by simp [qZ5.l0])
  have H := HA.out
  clear HA
  simp only [qZ5.l0] at H
  by_cases mO : aE < (l2.length : Int)
  case neg =>
   rw [if_neg mO] at H
   have nX := decide_eq_false mO
   clear mO
   by_cases pP : eV = true
   case neg =>
    replace pP := Bool.eq_false_iff.mpr pP
    subst pP
    rw [if_neg (show ¬ (false = true) by decide)] at H
    simp only [Option.some.injEq, Prod.mk.injEq] at H
    obtain ⟨rfl, rfl⟩ := H
    go_wp2
    go_ret2
    exact ⟨_, er, by refine rw_ ?_; exact aY.out, by exact h2q HB.out bI.out bQ.out⟩
   subst pP
   rw [if_pos rfl] at H
   obtain ⟨⟨q3, q4⟩, t8, H⟩ := bd H
   simp only [Option.some.injEq, Prod.mk.injEq] at H
   obtain ⟨rfl, rfl⟩ := H
   obtain ⟨uB, uI, qK⟩ := Kd.qZq aY.out
   subst qK
   go_wp2_with (first | ((with_reducible refine gf 50 ?_); refine gC (some 54) Tryz.func50 (qQz.calls _ _ _ _ _ q3 q4 _ ?side1 ?side2 t8.out) ?_; (case side1 => exact cq ((Kd.qQq aY.out).2.2)); (case side2 => exact (Kd.qQq aY.out).2.1); rintro e vS ⟨u4, rfl, fP, hb⟩; refine ⟨_, rfl, ?_⟩; have m7 := am (Kd.qZ1 (Kd.qXc fP (Kd.R_lt (by exact rq aY.out))) (qQn (by exact h2q HB.out bI.out bQ.out))); replace aY := Re aY fP hb; replace aN := bB aN hb; replace a5 := bB a5 hb; replace HB := s2 HB bI bQ hb; (try clear hb); (try clear hb2); (try clear hk); (try clear hi); (try clear fP)))
   go_ret2
   exact ⟨_, er, by refine rw_ ?_; exact Kd.qQ4 m7.out (fun _ hk => trivial), by exact h2q HB.out bI.out bQ.out⟩
  rw [if_pos mO] at H
  have nX := decide_eq_true mO
  clear mO
  by_cases pM : 0 <= aE
  case neg =>
   rw [if_neg pM] at H
   exact absurd H (by simp)
  rw [if_pos pM] at H
  have rW := decide_eq_true pM
  clear pM
  by_cases pN : aE < (l2.length : Int)
  case neg =>
   rw [if_neg pN] at H
   exact absurd H (by simp)
  rw [if_pos pN] at H
  have rX := decide_eq_true pN
  clear pN
  by_cases pO : aE < (cO.length : Int)
  case neg =>
   rw [if_neg pO] at H
   exact absurd H (by simp)
  rw [if_pos pO] at H
  have rY := decide_eq_true pO
  clear pO
  obtain ⟨e6, iV⟩ : ∃ y_ : List Int, y_ = (cO.set (aE : Int).toNat ((qQb l2 aE).f1)) := ⟨_, rfl⟩
  replace H : (if eV = true then (qZ5.l0 k1 hP e6 true l2 (l2.length : Int) (wrap64 (aE + 1))) else (qZ5.l0 k1 hP e6 (decide (((qQb l2 aE).f1) > 0)) l2 (l2.length : Int) (wrap64 (aE + 1)))) = some (r1, r2) := by exact hyq H iV
  have kA := am iV
  clear iV
  by_cases hQ : eV = true
  ·subst hQ
   rw [if_pos rfl] at H
   have H' := am H
   clear H
   have fX : 0 <= (aE : Int) := yd
   have gD : aE < (l2.length : Int) := yd
   obtain ⟨nQ, lC, fK⟩ := qXr rR.out aE fX gD
   cases lC
   replace fK := h13 HB fK
   replace fX := eq_true fX
   replace gD := eq_true gD
   go_wp2_with (first | ((with_reducible refine gd 13 ?_); refine bE 13 _ 48 ?_; intro a7 hg vP hbox hb; replace aY := Rb aY hb; have b6 := am hbox; have m4 := e2 HB bI bQ hg; have e7 := e2 HB bI bQ hg; replace HB := s2 HB bI bQ hb; have cH := nL aN hg; have dV := nG aN hg; replace aN := bB aN hb; have cI := nL a5 hg; have dW := nG a5 hg; replace a5 := bB a5 hb; clear hb hbox hg; have sM := dV.out; have tC := cH.out; have sN := dW.out; have tD := cI.out; have qW := lc13 b6.out) | ((with_reducible refine qXv (t := 48) (p := 13) rfl ?_); refine qXp (t := 48) (p := 13) (v := ?vo_w26) (w1 := (((((((((((((vP.setCell ⟨a7, 0, none⟩ (.int .i64 ((qQb l2 aE).f0))).setCell ⟨a7, 1, none⟩ (.int .i64 ((qQb l2 aE).f1))).setCell ⟨a7, 2, none⟩ (.int .i64 ((qQb l2 aE).f2))).setCell ⟨a7, 3, none⟩ (.int .i64 ((qQb l2 aE).f3))).setCell ⟨a7, 4, none⟩ (.int .i64 ((qQb l2 aE).f4))).setCell ⟨a7, 5, none⟩ (.int .i64 ((qQb l2 aE).f5))).setCell ⟨a7, 6, none⟩ (.bool ((qQb l2 aE).f6))).setCell ⟨a7, 7, none⟩ (.int .i64 ((qQb l2 aE).f7))).setCell ⟨a7, 8, none⟩ (.int .i64 ((qQb l2 aE).f8))).setCell ⟨a7, 9, none⟩ (.int .i64 ((qQb l2 aE).f9))).setCell ⟨a7, 10, none⟩ (.int .i64 ((qQb l2 aE).f10))).setCell ⟨a7, 11, none⟩ (.int .i64 ((qQb l2 aE).f11))).setCell ⟨a7, 12, none⟩ (.int .i64 ((qQb l2 aE).f12)))) ?hg ?ho ?hn ?hr ?_; (case ho => rfl); (case hg => rfl); (case hn => rfl); (case hr => first | (go_simp; done) | (go_simp; rfl)); intro kT hw; have g6 : Aside0 (Kd.R (Kd.int .i64) 2 kT w.heap.size (fun _ => True) mH cO) := ⟨(by rw [hw]; exact (by refine rw_ ?_; exact Kd.qQ4 (qYt (Kd.qZy aY.out b6.out (by decide)) (fun _ hk => hk.2)) (fun _ hk => trivial)))⟩; have g7 : Aside0 (kT.heap[d2]? = some (.cells #[.int .i64 bH, .slice cC a8.length cD] 37 (0, 0))) := ⟨(by rw [hw]; exact (by (iterate 13 (refine bw ?_; refine qZ8 ?_ cH.out _)); refine bw ?_; exact aN.out))⟩; have g8 : Aside0 (kT.heap[gW]? = some (.cells #[.int .i64 bZ, .slice dA aG.length cM, .int .i64 b0, .int .i64 b1, .int .i64 bU, .int .i64 bV, .slice cL bP.length cN, .int .i64 b2, .int .i64 b3, .int .i64 b4, .int .i64 bC, .int .i64 bD, .int .i64 bF] 28 (0, 0))) := ⟨(by rw [hw]; exact (by (iterate 13 (refine bw ?_; refine qZ8 ?_ cI.out _)); refine bw ?_; exact a5.out))⟩; have o5 : Aside0 (kT.heap[a7]? = some (.cells #[.int .i64 ((qQb l2 aE).f0), .int .i64 ((qQb l2 aE).f1), .int .i64 ((qQb l2 aE).f2), .int .i64 ((qQb l2 aE).f3), .int .i64 ((qQb l2 aE).f4), .int .i64 ((qQb l2 aE).f5), .bool ((qQb l2 aE).f6), .int .i64 ((qQb l2 aE).f7), .int .i64 ((qQb l2 aE).f8), .int .i64 ((qQb l2 aE).f9), .int .i64 ((qQb l2 aE).f10), .int .i64 ((qQb l2 aE).f11), .int .i64 ((qQb l2 aE).f12)] 48 (0, 0))) := ⟨(by rw [hw]; exact (by refine bw ?_; apply qY6; refine bw ?_; exact b6.out))⟩; have o6 : Aside0 (Below w.heap.size w kT) := ⟨(by rw [hw]; exact (by exact h3q HB.out bI.out bQ.out e7.out))⟩; clear hw; clear aY; clear aN; clear a5; clear b6; clear HB; have aY := g6; have aN := g7; have a5 := g8; have b6 := o5; have HB := o6; clear g6 g7 g8 o5 o6; have qX := lc13 b6.out; have lQ : 0 <= (aE : Int) := yd; have lT : (aE : Int) < ((cO.length : Int) : Int) := yd; obtain ⟨fV, lB, iJ, iK, gl20, cl20, HG20⟩ := Kd.qKs aY.out (by omega); (first | cases iJ | (injection iJ with ea_ en_ ec_; (first | subst ea_ | (injection ea_ with ea_; subst ea_)); subst ec_; clear en_)); have GB20 := am iK; have GG20 := am HG20; clear iK gl20 HG20; obtain ⟨lJ, hf20_0⟩ := Kd.qXy 0 aY.out (aE : Int) lQ lT; replace lQ := eq_true lQ; replace lT := eq_true lT; obtain ⟨hy28_, hz28_⟩ := Kd.qXy 0 aY.out (aE : Int) (yd) (yd); have HP28 := Kd.qVu aY.out (aE : Int) ((qQb l2 aE).f1)) | ((with_reducible refine qXv (t := 2) (p := 41) rfl ?_); refine qXp (t := 2) (p := 41) (v := ?vo_w29) (w1 := (kT.setCell ⟨fV, (aE : Int).toNat, none⟩ (.int .i64 ((qQb l2 aE).f1)))) ?hg ?ho ?hn ?hr ?_; (case ho => rfl); (case hg => rfl); (case hn => rfl); (case hr => first | (go_simp; done) | (go_simp; rfl)); intro q8 hw; have hg : kT.grownBy q8 (some fV) := (by rw [hw]; exact HP28.2); have hp_ : Kd.R (Kd.int .i64) 2 q8 w.heap.size (fun _ => True) (.slice (some ⟨fV, 0, none⟩) cO.length lB) e6 := (by rw [hw, kA.out]; exact HP28.1); clear HP28; replace aN := bG aN hg aY; replace a5 := bG a5 hg aY; replace b6 := bG b6 hg aY; replace aY := am hp_; replace HB := am ((by rw [hw]; exact qQ1 (HB.out) GB20.out : Below w.heap.size w q8)); clear hg hw hp_))
   go_roundg k1
   case measure => have := hD.out; omega
   case rel => exact ⟨(e6), (true), (wrap64 (aE + 1)), fr, fr, H', o1 hD, rA aY, bA aN, bA a5, a3_ HB bI bQ e7⟩
  replace hQ := Bool.eq_false_iff.mpr hQ
  subst hQ
  rw [if_neg (show ¬ (false = true) by decide)] at H
  have H' := am H
  clear H
  have fX : 0 <= (aE : Int) := yd
  have gD : aE < (l2.length : Int) := yd
  obtain ⟨nQ, lC, fK⟩ := qXr rR.out aE fX gD
  cases lC
  replace fK := h13 HB fK
  replace fX := eq_true fX
  replace gD := eq_true gD
  go_wp2_with (first | ((with_reducible refine gd 13 ?_); refine bE 13 _ 48 ?_; intro a7 hg q9 hbox hb; replace aY := Rb aY hb; have b6 := am hbox; have m4 := e2 HB bI bQ hg; have e7 := e2 HB bI bQ hg; replace HB := s2 HB bI bQ hb; have cH := nL aN hg; have dV := nG aN hg; replace aN := bB aN hb; have cI := nL a5 hg; have dW := nG a5 hg; replace a5 := bB a5 hb; clear hb hbox hg; have oQ := dV.out; have oS := cH.out; have kR := dW.out; have kS := cI.out; have jP := lc13 b6.out) | ((with_reducible refine qXv (t := 48) (p := 13) rfl ?_); refine qXp (t := 48) (p := 13) (v := ?vo_w34) (w1 := (((((((((((((q9.setCell ⟨a7, 0, none⟩ (.int .i64 ((qQb l2 aE).f0))).setCell ⟨a7, 1, none⟩ (.int .i64 ((qQb l2 aE).f1))).setCell ⟨a7, 2, none⟩ (.int .i64 ((qQb l2 aE).f2))).setCell ⟨a7, 3, none⟩ (.int .i64 ((qQb l2 aE).f3))).setCell ⟨a7, 4, none⟩ (.int .i64 ((qQb l2 aE).f4))).setCell ⟨a7, 5, none⟩ (.int .i64 ((qQb l2 aE).f5))).setCell ⟨a7, 6, none⟩ (.bool ((qQb l2 aE).f6))).setCell ⟨a7, 7, none⟩ (.int .i64 ((qQb l2 aE).f7))).setCell ⟨a7, 8, none⟩ (.int .i64 ((qQb l2 aE).f8))).setCell ⟨a7, 9, none⟩ (.int .i64 ((qQb l2 aE).f9))).setCell ⟨a7, 10, none⟩ (.int .i64 ((qQb l2 aE).f10))).setCell ⟨a7, 11, none⟩ (.int .i64 ((qQb l2 aE).f11))).setCell ⟨a7, 12, none⟩ (.int .i64 ((qQb l2 aE).f12)))) ?hg ?ho ?hn ?hr ?_; (case ho => rfl); (case hg => rfl); (case hn => rfl); (case hr => first | (go_simp; done) | (go_simp; rfl)); intro j1 hw; have g6 : Aside0 (Kd.R (Kd.int .i64) 2 j1 w.heap.size (fun _ => True) mH cO) := ⟨(by rw [hw]; exact (by refine rw_ ?_; exact Kd.qQ4 (qYt (Kd.qZy aY.out b6.out (by decide)) (fun _ hk => hk.2)) (fun _ hk => trivial)))⟩; have g7 : Aside0 (j1.heap[d2]? = some (.cells #[.int .i64 bH, .slice cC a8.length cD] 37 (0, 0))) := ⟨(by rw [hw]; exact (by (iterate 13 (refine bw ?_; refine qZ8 ?_ cH.out _)); refine bw ?_; exact aN.out))⟩; have g8 : Aside0 (j1.heap[gW]? = some (.cells #[.int .i64 bZ, .slice dA aG.length cM, .int .i64 b0, .int .i64 b1, .int .i64 bU, .int .i64 bV, .slice cL bP.length cN, .int .i64 b2, .int .i64 b3, .int .i64 b4, .int .i64 bC, .int .i64 bD, .int .i64 bF] 28 (0, 0))) := ⟨(by rw [hw]; exact (by (iterate 13 (refine bw ?_; refine qZ8 ?_ cI.out _)); refine bw ?_; exact a5.out))⟩; have o5 : Aside0 (j1.heap[a7]? = some (.cells #[.int .i64 ((qQb l2 aE).f0), .int .i64 ((qQb l2 aE).f1), .int .i64 ((qQb l2 aE).f2), .int .i64 ((qQb l2 aE).f3), .int .i64 ((qQb l2 aE).f4), .int .i64 ((qQb l2 aE).f5), .bool ((qQb l2 aE).f6), .int .i64 ((qQb l2 aE).f7), .int .i64 ((qQb l2 aE).f8), .int .i64 ((qQb l2 aE).f9), .int .i64 ((qQb l2 aE).f10), .int .i64 ((qQb l2 aE).f11), .int .i64 ((qQb l2 aE).f12)] 48 (0, 0))) := ⟨(by rw [hw]; exact (by refine bw ?_; apply qY6; refine bw ?_; exact b6.out))⟩; have o6 : Aside0 (Below w.heap.size w j1) := ⟨(by rw [hw]; exact (by exact h3q HB.out bI.out bQ.out e7.out))⟩; clear hw; clear aY; clear aN; clear a5; clear b6; clear HB; have aY := g6; have aN := g7; have a5 := g8; have b6 := o5; have HB := o6; clear g6 g7 g8 o5 o6; have jQ := lc13 b6.out; have lQ : 0 <= (aE : Int) := yd; have lT : (aE : Int) < ((cO.length : Int) : Int) := yd; obtain ⟨fV, lB, iJ, iK, gl20, cl20, HG20⟩ := Kd.qKs aY.out (by omega); (first | cases iJ | (injection iJ with ea_ en_ ec_; (first | subst ea_ | (injection ea_ with ea_; subst ea_)); subst ec_; clear en_)); have GB20 := am iK; have GG20 := am HG20; clear iK gl20 HG20; obtain ⟨lJ, hf20_0⟩ := Kd.qXy 0 aY.out (aE : Int) lQ lT; replace lQ := eq_true lQ; replace lT := eq_true lT; obtain ⟨hy36_, hz36_⟩ := Kd.qXy 0 aY.out (aE : Int) (yd) (yd); have HP36 := Kd.qVu aY.out (aE : Int) ((qQb l2 aE).f1)) | ((with_reducible refine qXv (t := 2) (p := 41) rfl ?_); refine qXp (t := 2) (p := 41) (v := ?vo_w37) (w1 := (j1.setCell ⟨fV, (aE : Int).toNat, none⟩ (.int .i64 ((qQb l2 aE).f1)))) ?hg ?ho ?hn ?hr ?_; (case ho => rfl); (case hg => rfl); (case hn => rfl); (case hr => first | (go_simp; done) | (go_simp; rfl)); intro rC hw; have hg : j1.grownBy rC (some fV) := (by rw [hw]; exact HP36.2); have hp_ : Kd.R (Kd.int .i64) 2 rC w.heap.size (fun _ => True) (.slice (some ⟨fV, 0, none⟩) cO.length lB) e6 := (by rw [hw, kA.out]; exact HP36.1); clear HP36; replace aN := bG aN hg aY; replace a5 := bG a5 hg aY; replace b6 := bG b6 hg aY; replace aY := am hp_; replace HB := am ((by rw [hw]; exact qQ1 (HB.out) GB20.out : Below w.heap.size w rC)); clear hg hw hp_; have uR := lc13 b6.out))
  go_roundg k1
  case measure => have := hD.out; omega
  case rel => exact ⟨(e6), (decide (((qQb l2 aE).f1) > 0)), (wrap64 (aE + 1)), fr, fr, H', o1 hD, rA aY, bA aN, bA a5, a3_ HB bI bQ e7⟩
mutual
def qZa.j0 : Nat -> Int -> List Int -> List Int -> Bool -> Int -> List Int -> Int -> List (S48) -> Int -> Int -> Int -> Int -> List (S54) -> Int -> Int -> Int -> Int -> Int -> Int -> Option (List Int × List Int × Int)
 | 0, _, _, _, _, _, _, _, _, _, _, _, _, _, _, _, _, _, _, _ => none
 | k + 1, x2, x6, x7, pF, dP, dQ, cP, cG, cQ, cR, cS, cT, cU, cV, cW, cX, cY, cZ, c9 => if pF = true then (some (([] : List Int), ([] : List Int), 1)) else (qZa.l0 k x2 x6 x7 ([] : List (S48)) cG (cG.length : Int) 0 dP dQ cP cG cQ cR cS cT cU cV cW cX cY cZ c9)
def qZa.l0 : Nat -> Int -> List Int -> List Int -> List (S48) -> List (S48) -> Int -> Int -> Int -> List Int -> Int -> List (S48) -> Int -> Int -> Int -> Int -> List (S54) -> Int -> Int -> Int -> Int -> Int -> Int -> Option (List Int × List Int × Int)
 | 0, _, _, _, _, _, _, _, _, _, _, _, _, _, _, _, _, _, _, _, _, _, _ => none
 | k + 1, x2, x6, x7, x9, dJ, rD, dE, dP, dQ, cP, cG, cQ, cR, cS, cT, cU, cV, cW, cX, cY, cZ, c9 => if dE < rD then (if 0 <= dE then (if dE < (dJ.length : Int) then ((qYm.f ((qQb dJ dE).f0) ((qQb dJ dE).f1) ((qQb dJ dE).f2) ((qQb dJ dE).f3) ((qQb dJ dE).f4) ((qQb dJ dE).f5) ((qQb dJ dE).f6) ((qQb dJ dE).f7) ((qQb dJ dE).f8) ((qQb dJ dE).f9) ((qQb dJ dE).f10) ((qQb dJ dE).f11) ((qQb dJ dE).f12)).bind fun l3 => (if l3 = true then (if x9.length < 1353245080339 then (if x6.length < 17592186044416 then (qZa.l0 k x2 (x6 ++ [(qQb dJ dE).f0]) x7 (x9 ++ [(⟨(qQb dJ dE).f0, (qQb dJ dE).f1, (qQb dJ dE).f2, (qQb dJ dE).f3, (qQb dJ dE).f4, (qQb dJ dE).f5, (qQb dJ dE).f6, (qQb dJ dE).f7, (qQb dJ dE).f8, (qQb dJ dE).f9, (qQb dJ dE).f10, (qQb dJ dE).f11, (qQb dJ dE).f12⟩ : S48)]) dJ rD (wrap64 (dE + 1)) dP dQ cP cG cQ cR cS cT cU cV cW cX cY cZ c9) else (none)) else (none)) else (qZa.l0 k x2 x6 x7 x9 dJ rD (wrap64 (dE + 1)) dP dQ cP cG cQ cR cS cT cU cV cW cX cY cZ c9))) else (none)) else (none)) else (if (x9.length : Int) = 0 then (some (([] : List Int), ([] : List Int), 0)) else ((qWp.f k cP cG cQ cR cS cT cU cV cW cX cY cZ c9 x2).bind fun dO => (if 0 <= (x9.length : Int) then (if ((x9.length : Int) : Int).toNat <= 35184372088832 then (if dO = 4 then ((qZ5.f k dP dQ cP cG cQ cR cS cT cU cV cW cX cY cZ c9 x9).bind fun eL => (if eL.2 = 0 then (qZa.j2 k x2 x6 x7 x9 dO eL.1) else (some (([] : List Int), ([] : List Int), eL.2)))) else (qZa.j2 k x2 x6 x7 x9 dO (List.replicate ((x9.length : Int) : Int).toNat 0))) else (none)) else (none))))
def qZa.j2 : Nat -> Int -> List Int -> List Int -> List (S48) -> Int -> List Int -> Option (List Int × List Int × Int)
 | 0, _, _, _, _, _, _ => none
 | k + 1, x2, x6, x7, x9, j3, mY => qZa.l1 k x2 x6 x7 j3 mY x9 (x9.length : Int) 0
def qZa.l1 : Nat -> Int -> List Int -> List Int -> Int -> List Int -> List (S48) -> Int -> Int -> Option (List Int × List Int × Int)
 | 0, _, _, _, _, _, _, _, _ => none
 | k + 1, x2, x6, x7, j3, mY, dR, rF, dB => if dB < rF then (if 0 <= dB then (if dB < (dR.length : Int) then (if dB < (mY.length : Int) then (if j3 = 4 then ((qYs.f k ((qQb dR dB).f0) ((qQb dR dB).f1) ((qQb dR dB).f2) ((qQb dR dB).f3) ((qQb dR dB).f4) ((qQb dR dB).f5) ((qQb dR dB).f6) ((qQb dR dB).f7) ((qQb dR dB).f8) ((qQb dR dB).f9) ((qQb dR dB).f10) ((qQb dR dB).f11) ((qQb dR dB).f12) (rd mY dB)).bind fun h0 => (if h0.2 = 0 then (if x7.length < 17592186044416 then (qZa.l1 k x2 x6 (x7 ++ [h0.1]) j3 mY dR rF (wrap64 (dB + 1))) else (none)) else (some (([] : List Int), ([] : List Int), h0.2)))) else ((qYk.f k ((qQb dR dB).f0) ((qQb dR dB).f1) ((qQb dR dB).f2) ((qQb dR dB).f3) ((qQb dR dB).f4) ((qQb dR dB).f5) ((qQb dR dB).f6) ((qQb dR dB).f7) ((qQb dR dB).f8) ((qQb dR dB).f9) ((qQb dR dB).f10) ((qQb dR dB).f11) ((qQb dR dB).f12) j3 x2).bind fun h4 => (if h4.2 = 0 then (if x7.length < 17592186044416 then (qZa.l1 k x2 x6 (x7 ++ [h4.1]) j3 mY dR rF (wrap64 (dB + 1))) else (none)) else (some (([] : List Int), ([] : List Int), h4.2))))) else (none)) else (none)) else (none)) else (some (x6, x7, 0))
end
def qZa.f (k : Nat) (bH : Int) (a8 : List Int) (bZ : Int) (aG : List (S48)) (b0 b1 bU bV : Int) (bP : List (S54)) (b2 b3 b4 bC bD bF a2 : Int) : Option (List Int × List Int × Int) := (qZt.f k a8).bind fun lY => (if lY = true then ((qZz.f a2).bind fun lZ => (if lZ = true then ((qXb.f k aG).bind fun jW => (qZa.j0 k a2 ([] : List Int) ([] : List Int) jW bH a8 bZ aG b0 b1 bU bV bP b2 b3 b4 bC bD bF)) else (qZa.j0 k a2 ([] : List Int) ([] : List Int) true bH a8 bZ aG b0 b1 bU bV bP b2 b3 b4 bC bD bF))) else (qZa.j0 k a2 ([] : List Int) ([] : List Int) true bH a8 bZ aG b0 b1 bU bV bP b2 b3 b4 bC bD bF))
set_option maxHeartbeats 8000000 in
set_option maxRecDepth 100000 in
theorem qZa.calls (k : Nat) (bH : Int) (cC : Option Addr) (cD : Nat) (a8 : List Int) (bZ : Int) (dA : Option Addr) (cM : Nat) (aG : List (S48)) (b0 b1 bU bV : Int) (cL : Option Addr) (cN : Nat) (bP : List (S54)) (b2 b3 b4 bC bD bF a2 : Int) (r1 r2 : List Int) (r3 : Int) (w : World) (fH : Kd.C (Kd.int .i64) w cC a8.length a8) (fE : a8.length <= cD) (fI : Kd.C k48 w dA aG.length aG) (fF : aG.length <= cM) (fJ : Kd.C k54 w cL bP.length bP) (fG : bP.length <= cN) (h : qZa.f k bH a8 bZ aG b0 b1 bU bV bP b2 b3 b4 bC bD bF a2 = some (r1, r2, r3)) :
  Calls Tryz.prog 8 #[.agg #[.int .i64 bH, .slice cC a8.length cD], .agg #[.int .i64 bZ, .slice dA aG.length cM, .int .i64 b0, .int .i64 b1, .int .i64 bU, .int .i64 bV, .slice cL bP.length cN, .int .i64 b2, .int .i64 b3, .int .i64 b4, .int .i64 bC, .int .i64 bD, .int .i64 bF], .int .i64 a2] w fun e w' => ∃ v0_ v1_ : Value, e = .returned (.tuple #[v0_, v1_, .int .i64 r3]) /\ Kd.R (Kd.int .i64) 3 w' w.heap.size (fun _ => True) v0_ r1 /\ Kd.R (Kd.int .i64) 2 w' w.heap.size (fun _ => True) v1_ r2 /\ Below w.heap.size w w' := by
 have qU := Tryz.underlying37
 have qT := Tryz.underlying28
 have oV := Tryz.underlying48
 have d1 := am fH
 have d0 := am fE
 clear fH fE
 have eK := am fI
 have e8 := am fF
 clear fI fF
 have gN := am fJ
 have gL := am fG
 clear fJ fG
 have HB := am (Below.refl w.heap.size w)
 have H := h
 unfold qZa.f at H
 clear h
 have kW := am H
 clear H
 go_enter Tryz.func8, Tryz.ntmps8
 go_upto_region 1 with (first | ((with_reducible refine gd 3 ?_); refine bE 3 _ 37 ?_; intro bR hg w5 hbox hb; have aC := am hbox; have rM := e0 HB hg; have aJ := e0 HB hg; replace HB := s0 HB hb; clear hb hbox hg) | ((with_reducible refine gd 4 ?_); refine bE 4 _ 28 ?_; intro dC hg w6 hbox hb; have aH := am hbox; have rN := e1 HB aJ hg; have aK := e1 HB aJ hg; replace HB := s1 HB aJ hb; have b8 := nL aC hg; have b9 := nG aC hg; replace aC := bB aC hb; clear hb hbox hg))
 (try simp only [Act.put, List.setIfInBounds_toArray, List.set_cons_zero, List.set_cons_succ])
 go_cut [31] (fun vD wc => ∃ (kq : Nat) (g9 : Bool), vD = .bool g9 /\ Aside0 (qZa.j0 kq a2 ([] : List Int) ([] : List Int) g9 bH a8 bZ aG b0 b1 bU bV bP b2 b3 b4 bC bD bF = some (r1, r2, r3)) /\ Aside0 (kq <= k) /\ Aside0 (Kd.R (Kd.int .i64) 3 wc w.heap.size (fun _ => True) (.slice none 0 0) ([] : List Int)) /\ Aside0 (Kd.R (Kd.int .i64) 2 wc w.heap.size (fun _ => True) (.slice none 0 0) ([] : List Int)) /\ Aside0 (wc.heap[bR]? = some (.cells #[.int .i64 bH, (.slice cC a8.length cD)] 37 (0, 0))) /\ Aside0 (wc.heap[dC]? = some (.cells #[.int .i64 bZ, (.slice dA aG.length cM), .int .i64 b0, .int .i64 b1, .int .i64 bU, .int .i64 bV, (.slice cL bP.length cN), .int .i64 b2, .int .i64 b3, .int .i64 b4, .int .i64 bC, .int .i64 bD, .int .i64 bF] 28 (0, 0))) /\ Aside0 (Below w.heap.size w wc))
 case first =>
  have H := kW.out
  clear kW
  obtain ⟨lY, A7, H⟩ := bd H
  by_cases c8 : lY = true
  case neg =>
   replace c8 := Bool.eq_false_iff.mpr c8
   subst c8
   rw [if_neg (show ¬ (false = true) by decide)] at H
   have H' := am H
   clear H
   have sJ := b8.out
   have s9 := b9.out
   have d8 : w6.cell? ⟨bR, 0, none⟩ = some (.int .i64 bH) := (qQa aC.out 0).trans rfl
   have d9 : w6.cell? ⟨bR, 1, none⟩ = some (.slice cC a8.length cD) := (qQa aC.out 1).trans rfl
   have eE := qQd aC.out 0
   have eF := qQd aC.out 1
   go_wp2_with (first | ((with_reducible refine gf 22 ?_); refine gC (some 20) Tryz.func22 (qZt.calls _ _ _ _ false _ ?side1 ?side2 A7.out) ?_; (case side1 => exact cq ((Kd.qZp d1.out HB.out))); (case side2 => exact d0.out); rintro e w' ⟨rfl, ⟨nd, rfl⟩⟩; refine ⟨_, rfl, ?_⟩))
   go_meet
   case rel => exact ⟨_, (true), fr, H', o0, ⟨by first | exact Kd.R_nil _ _ _ _ _ | exact Kd.N_nil _ _ _ _ _ | exact Kd.V_nil _ _ _ _ _ | exact Kd.Q_nil _ _ _ _ _ | exact Kd.S_nil _ _ _ _ _⟩, ⟨by first | exact Kd.R_nil _ _ _ _ _ | exact Kd.N_nil _ _ _ _ _ | exact Kd.V_nil _ _ _ _ _ | exact Kd.Q_nil _ _ _ _ _ | exact Kd.S_nil _ _ _ _ _⟩, bA aC, bA aH, a2_ HB aJ aK⟩
  subst c8
  rw [if_pos rfl] at H
  obtain ⟨lZ, A9, H⟩ := bd H
  by_cases hL : lZ = true
  case neg =>
   replace hL := Bool.eq_false_iff.mpr hL
   subst hL
   rw [if_neg (show ¬ (false = true) by decide)] at H
   have H' := am H
   clear H
   have sI := b8.out
   have s8 := b9.out
   have d6 : w6.cell? ⟨bR, 0, none⟩ = some (.int .i64 bH) := (qQa aC.out 0).trans rfl
   have d7 : w6.cell? ⟨bR, 1, none⟩ = some (.slice cC a8.length cD) := (qQa aC.out 1).trans rfl
   have eC := qQd aC.out 0
   have eD := qQd aC.out 1
   go_wp2_with (first | ((with_reducible refine gf 22 ?_); refine gC (some 20) Tryz.func22 (qZt.calls _ _ _ _ true _ ?side1 ?side2 A7.out) ?_; (case side1 => exact cq ((Kd.qZp d1.out HB.out))); (case side2 => exact d0.out); rintro e w' ⟨rfl, ⟨nd, rfl⟩⟩; refine ⟨_, rfl, ?_⟩) | (go_at_call 23; (with_reducible refine (qZz.calls _ false _ A9.out).mono ?_); rintro e w' ⟨rfl, ⟨nd, rfl⟩⟩))
   go_meet
   case rel => exact ⟨_, (true), fr, H', o0, ⟨by first | exact Kd.R_nil _ _ _ _ _ | exact Kd.N_nil _ _ _ _ _ | exact Kd.V_nil _ _ _ _ _ | exact Kd.Q_nil _ _ _ _ _ | exact Kd.S_nil _ _ _ _ _⟩, ⟨by first | exact Kd.R_nil _ _ _ _ _ | exact Kd.N_nil _ _ _ _ _ | exact Kd.V_nil _ _ _ _ _ | exact Kd.Q_nil _ _ _ _ _ | exact Kd.S_nil _ _ _ _ _⟩, bA aC, bA aH, a2_ HB aJ aK⟩
  subst hL
  rw [if_pos rfl] at H
  obtain ⟨jW, t4, H⟩ := bd H
  have H' := am H
  clear H
  have sH := b8.out
  have s7 := b9.out
  have d4 : w6.cell? ⟨bR, 0, none⟩ = some (.int .i64 bH) := (qQa aC.out 0).trans rfl
  have d5 : w6.cell? ⟨bR, 1, none⟩ = some (.slice cC a8.length cD) := (qQa aC.out 1).trans rfl
  have eA := qQd aC.out 0
  have eB := qQd aC.out 1
  go_wp2_with (first | ((with_reducible refine gf 22 ?_); refine gC (some 20) Tryz.func22 (qZt.calls _ _ _ _ true _ ?side1 ?side2 A7.out) ?_; (case side1 => exact cq ((Kd.qZp d1.out HB.out))); (case side2 => exact d0.out); rintro e w' ⟨rfl, ⟨nd, rfl⟩⟩; refine ⟨_, rfl, ?_⟩) | (go_at_call 23; (with_reducible refine (qZz.calls _ true _ A9.out).mono ?_); rintro e w' ⟨rfl, ⟨nd, rfl⟩⟩; have i3 := lc13 aH.out) | (go_at_call 24; (with_reducible refine (qXb.calls _ _ _ _ jW _ ?side1 ?side2 t4.out).mono ?_); (case side1 => repeat (first | exact (Kd.qZp eK.out (by exact h2q HB.out aJ.out aK.out)) | (with_reducible refine Kd.zXr ?_ _) | (with_reducible refine Kd.zZl ?_ _) | (with_reducible refine Kd.zKt ?_))); (case side2 => exact e8.out); rintro e tZ ⟨rfl, hb⟩; replace aC := bB aC hb; replace aH := bB aH hb; replace HB := s2 HB aJ aK hb; (try clear hb); (try clear hb2); (try clear hk); (try clear hi)))
  go_meet
  case rel => exact ⟨_, (jW), fr, H', o0, ⟨by first | exact Kd.R_nil _ _ _ _ _ | exact Kd.N_nil _ _ _ _ _ | exact Kd.V_nil _ _ _ _ _ | exact Kd.Q_nil _ _ _ _ _ | exact Kd.S_nil _ _ _ _ _⟩, ⟨by first | exact Kd.R_nil _ _ _ _ _ | exact Kd.N_nil _ _ _ _ _ | exact Kd.V_nil _ _ _ _ _ | exact Kd.Q_nil _ _ _ _ _ | exact Kd.S_nil _ _ _ _ _⟩, bA aC, bA aH, a2_ HB aJ aK⟩
 case rest =>
  clear kW
  try clear c8
  try clear hL
  try clear d4
  try clear d5
  try clear i3
  try clear d6
  try clear d7
  try clear d8
  try clear d9
  try clear eA
  try clear eB
  try clear eC
  try clear eD
  try clear eE
  try clear eF
  obtain ⟨kq, g9, rfl, HA, fQ, aV, aQ, aC, aH, HB⟩ := hcut
  rcases kq with _ | lP
  ·exact absurd HA.out (by simp [qZa.j0])
  have H := HA.out
  clear HA
  simp only [qZa.j0] at H
  by_cases k0 : g9 = true
  ·subst k0
   rw [if_pos rfl] at H
   simp only [Option.some.injEq, Prod.mk.injEq] at H
   obtain ⟨rfl, rfl, rfl⟩ := H
   go_wp2
   go_ret3
   exact ⟨_, _, er, by first | exact Kd.R_nil _ _ _ _ _ | exact Kd.N_nil _ _ _ _ _ | exact Kd.V_nil _ _ _ _ _ | exact Kd.Q_nil _ _ _ _ _ | exact Kd.S_nil _ _ _ _ _, by first | exact Kd.R_nil _ _ _ _ _ | exact Kd.N_nil _ _ _ _ _ | exact Kd.V_nil _ _ _ _ _ | exact Kd.Q_nil _ _ _ _ _ | exact Kd.S_nil _ _ _ _ _, by exact h2q HB.out aJ.out aK.out⟩
  replace k0 := Bool.eq_false_iff.mpr k0
  subst k0
  rw [if_neg (show ¬ (false = true) by decide)] at H
  have H' := am H
  clear H
  have sK := b9.out
  have tA := b8.out
  have lN := lc13 aH.out
  go_wp2
  go_loopg [6, 9, 35] lP (fun kq v6 v9 vG w' => ∃ (dZ : List Int) (aI : List (S48)) (aA : Int), vG = .int .i64 aA /\ Aside0 (qZa.l0 kq a2 dZ ([] : List Int) aI aG (aG.length : Int) aA bH a8 bZ aG b0 b1 bU bV bP b2 b3 b4 bC bD bF = some (r1, r2, r3)) /\ Aside0 (kq <= lP) /\ Aside0 (Kd.R (Kd.int .i64) 3 w' w.heap.size (fun _ => True) v6 dZ) /\ Aside0 (Kd.R (Kd.int .i64) 2 w' w.heap.size (fun _ => True) (.slice none 0 0) ([] : List Int)) /\ Aside0 (Kd.R k48 48 w' w.heap.size (fun _ => True) v9 aI) /\ Aside0 (w'.heap[bR]? = some (.cells #[.int .i64 bH, (.slice cC a8.length cD)] 37 (0, 0))) /\ Aside0 (w'.heap[dC]? = some (.cells #[.int .i64 bZ, (.slice dA aG.length cM), .int .i64 b0, .int .i64 b1, .int .i64 bU, .int .i64 bV, (.slice cL bP.length cN), .int .i64 b2, .int .i64 b3, .int .i64 b4, .int .i64 bC, .int .i64 bD, .int .i64 bF] 28 (0, 0))) /\ Aside0 (Below w.heap.size w w'))
  case atStart => exact ⟨(([] : List Int)), (([] : List (S48))), (0), fr, H', ⟨Nat.le_refl _⟩, rA aV, rA aQ, ⟨by first | exact Kd.R_nil _ _ _ _ _ | exact Kd.N_nil _ _ _ _ _ | exact Kd.V_nil _ _ _ _ _ | exact Kd.Q_nil _ _ _ _ _ | exact Kd.S_nil _ _ _ _ _⟩, bA aC, bA aH, a2_ HB aJ aK⟩
  case round =>
   clear H'
   try clear c8
   try clear hL
   try clear k0
   try clear d4
   try clear d5
   try clear i3
   try clear d6
   try clear d7
   try clear d8
   try clear d9
   try clear lN
   try clear eA
   try clear eB
   try clear eC
   try clear eD
   try clear eE
   try clear eF
   obtain ⟨dZ, aI, aA, rfl, HA, fR, aV, aQ, aW, aC, aH, HB⟩ := hrel
   rcases gk with _ | k2
   ·exact absurd HA.out (by simp [qZa.l0])
   have H := HA.out
   clear HA
   simp only [qZa.l0] at H
   by_cases gU : aA < (aG.length : Int)
   ·rw [if_pos gU] at H
    have fD := decide_eq_true gU
    clear gU
    by_cases mP : 0 <= aA
    case neg =>
     rw [if_neg mP] at H
     exact absurd H (by simp)
    rw [if_pos mP] at H
    have kK := decide_eq_true mP
    clear mP
    by_cases mQ : aA < (aG.length : Int)
    case neg =>
     rw [if_neg mQ] at H
     exact absurd H (by simp)
    rw [if_pos mQ] at H
    have kL := decide_eq_true mQ
    clear mQ
    obtain ⟨l3, rH, H⟩ := bd H
    by_cases mR : l3 = true
    case neg =>
     replace mR := Bool.eq_false_iff.mpr mR
     subst mR
     rw [if_neg (show ¬ (false = true) by decide)] at H
     have H' := am H
     clear H
     have eZ : 0 <= (aA : Int) := yd
     have e3 : aA < (aG.length : Int) := yd
     obtain ⟨hX, lD, eP⟩ := qXr eK.out aA eZ e3
     cases lD
     replace eP := h13 HB eP
     replace eZ := eq_true eZ
     replace e3 := eq_true e3
     go_wp2_with (first | ((with_reducible refine gd 11 ?_); refine bE 11 _ 48 ?_; intro dD hg vR hbox hb; replace aV := Rb aV hb; replace aQ := Rb aQ hb; replace aW := am (Kd.qYa (Kd.qVp (by exact rq aW.out) dD (Nat.le_of_eq hg.symm)) hb); have b7 := am hbox; have m5 := e2 HB aJ aK hg; have dK := e2 HB aJ aK hg; replace HB := s2 HB aJ aK hb; have cJ := nL aC hg; have dX := nG aC hg; replace aC := bB aC hb; have cK := nL aH hg; have dY := nG aH hg; replace aH := bB aH hb; clear hb hbox hg; have oR := dX.out; have oT := cJ.out; have sO := dY.out; have tE := cK.out; have oX := lc13 b7.out) | ((with_reducible refine gf 27 ?_); refine gC (some 40) Tryz.func27 (qYm.calls _ _ _ _ _ _ _ _ _ _ _ _ _ false _ rH.out) ?_; rintro e vT ⟨rfl, hb⟩; refine ⟨_, rfl, ?_⟩; replace aV := am (Kd.qYa (by refine rw_ ?_; exact (Kd.qQ4 (qYt (Kd.qZy aV.out b7.out (by decide)) (fun _ hk => hk.2)) (fun _ h_ => h_.1))) hb); replace aQ := am (Kd.qYa (by refine rw_ ?_; exact (Kd.qQ4 (qYt (Kd.qZy aQ.out b7.out (by decide)) (fun _ hk => hk.2)) (fun _ h_ => h_.1))) hb); replace aW := am (Kd.qYa (by refine rw_ ?_; exact (Kd.qQ4 (qYt (Kd.qQ4 aW.out (fun k_ hk => (⟨hk, hk.2⟩ : _ /\ k_ ≠ dD))) (fun _ hk => hk.2)) (fun _ h_ => h_.1))) hb); replace aC := am (qQv (g := bR) (o := .cells #[.int .i64 bH, .slice cC a8.length cD] 37 (0, 0)) (by (iterate 13 (refine bw ?_; refine qZ8 ?_ cJ.out _)); refine bw ?_; exact aC.out) hb); replace aH := am (qQv (g := dC) (o := .cells #[.int .i64 bZ, .slice (some hX) aG.length cM, .int .i64 b0, .int .i64 b1, .int .i64 bU, .int .i64 bV, .slice cL bP.length cN, .int .i64 b2, .int .i64 b3, .int .i64 b4, .int .i64 bC, .int .i64 bD, .int .i64 bF] 28 (0, 0)) (by (iterate 13 (refine bw ?_; refine qZ8 ?_ cK.out _)); refine bw ?_; exact aH.out) hb); replace b7 := am (qQv (g := dD) (o := .cells #[.int .i64 ((qQb aG aA).f0), .int .i64 ((qQb aG aA).f1), .int .i64 ((qQb aG aA).f2), .int .i64 ((qQb aG aA).f3), .int .i64 ((qQb aG aA).f4), .int .i64 ((qQb aG aA).f5), .bool ((qQb aG aA).f6), .int .i64 ((qQb aG aA).f7), .int .i64 ((qQb aG aA).f8), .int .i64 ((qQb aG aA).f9), .int .i64 ((qQb aG aA).f10), .int .i64 ((qQb aG aA).f11), .int .i64 ((qQb aG aA).f12)] 48 (0, 0)) (by refine bw ?_; apply qY6; refine bw ?_; exact b7.out) hb); replace HB := s3 HB aJ aK dK hb; (try clear hb); (try clear hb2); (try clear hk); (try clear hi)))
     go_roundg k2
     case measure => have := fQ.out; have := fR.out; omega
     case rel => exact ⟨(dZ), (aI), (wrap64 (aA + 1)), fr, H', o2 fQ fR, rA aV, rA aQ, ⟨by refine rw_ ?_; exact Kd.qQ4 aW.out (fun _ hk => trivial)⟩, bA aC, bA aH, a3_ HB aJ aK dK⟩
    subst mR
    rw [if_pos rfl] at H
    by_cases hR : aI.length < 1353245080339
    case neg =>
     rw [if_neg hR] at H
     exact absurd H (by simp)
    rw [if_pos hR] at H
    have nC := am hR
    clear hR
    obtain ⟨mL, iW⟩ : ∃ y_ : List (S48), y_ = (aI ++ [(⟨(qQb aG aA).f0, (qQb aG aA).f1, (qQb aG aA).f2, (qQb aG aA).f3, (qQb aG aA).f4, (qQb aG aA).f5, (qQb aG aA).f6, (qQb aG aA).f7, (qQb aG aA).f8, (qQb aG aA).f9, (qQb aG aA).f10, (qQb aG aA).f11, (qQb aG aA).f12⟩ : S48)]) := ⟨_, rfl⟩
    replace H : (if dZ.length < 17592186044416 then (qZa.l0 k2 a2 (dZ ++ [(qQb aG aA).f0]) ([] : List Int) mL aG (aG.length : Int) (wrap64 (aA + 1)) bH a8 bZ aG b0 b1 bU bV bP b2 b3 b4 bC bD bF) else (none)) = some (r1, r2, r3) := by exact hyq H iW
    have nJ := am iW
    clear iW
    by_cases mS : dZ.length < 17592186044416
    case neg =>
     rw [if_neg mS] at H
     exact absurd H (by simp)
    rw [if_pos mS] at H
    have nD := am mS
    clear mS
    obtain ⟨pH, iX⟩ : ∃ y_ : List Int, y_ = (dZ ++ [(qQb aG aA).f0]) := ⟨_, rfl⟩
    replace H : (qZa.l0 k2 a2 pH ([] : List Int) mL aG (aG.length : Int) (wrap64 (aA + 1)) bH a8 bZ aG b0 b1 bU bV bP b2 b3 b4 bC bD bF) = some (r1, r2, r3) := by exact hyq H iX
    have nK := am iX
    clear iX
    have H' := am H
    clear H
    have eZ : 0 <= (aA : Int) := yd
    have e3 : aA < (aG.length : Int) := yd
    obtain ⟨hX, lD, eP⟩ := qXr eK.out aA eZ e3
    cases lD
    replace eP := h13 HB eP
    replace eZ := eq_true eZ
    replace e3 := eq_true e3
    go_wp2_with (first | ((with_reducible refine gd 11 ?_); refine bE 11 _ 48 ?_; intro dD hg q9 hbox hb; replace aV := Rb aV hb; replace aQ := Rb aQ hb; replace aW := am (Kd.qYa (Kd.qVp (by exact rq aW.out) dD (Nat.le_of_eq hg.symm)) hb); have b7 := am hbox; have m5 := e2 HB aJ aK hg; have dK := e2 HB aJ aK hg; replace HB := s2 HB aJ aK hb; have cJ := nL aC hg; have dX := nG aC hg; replace aC := bB aC hb; have cK := nL aH hg; have dY := nG aH hg; replace aH := bB aH hb; clear hb hbox hg; have oQ := dX.out; have oS := cJ.out; have kR := dY.out; have kS := cK.out; have jP := lc13 b7.out) | ((with_reducible refine gf 27 ?_); refine gC (some 40) Tryz.func27 (qYm.calls _ _ _ _ _ _ _ _ _ _ _ _ _ true _ rH.out) ?_; rintro e j1 ⟨rfl, hb⟩; refine ⟨_, rfl, ?_⟩; replace aV := am (Kd.qYa (by refine rw_ ?_; exact (Kd.qQ4 (qYt (Kd.qZy aV.out b7.out (by decide)) (fun _ hk => hk.2)) (fun _ h_ => h_.1))) hb); replace aQ := am (Kd.qYa (by refine rw_ ?_; exact (Kd.qQ4 (qYt (Kd.qZy aQ.out b7.out (by decide)) (fun _ hk => hk.2)) (fun _ h_ => h_.1))) hb); replace aW := am (Kd.qYa (by refine rw_ ?_; exact (Kd.qQ4 (qYt (Kd.qQ4 aW.out (fun k_ hk => (⟨hk, hk.2⟩ : _ /\ k_ ≠ dD))) (fun _ hk => hk.2)) (fun _ h_ => h_.1))) hb); replace aC := am (qQv (g := bR) (o := .cells #[.int .i64 bH, .slice cC a8.length cD] 37 (0, 0)) (by (iterate 13 (refine bw ?_; refine qZ8 ?_ cJ.out _)); refine bw ?_; exact aC.out) hb); replace aH := am (qQv (g := dC) (o := .cells #[.int .i64 bZ, .slice (some hX) aG.length cM, .int .i64 b0, .int .i64 b1, .int .i64 bU, .int .i64 bV, .slice cL bP.length cN, .int .i64 b2, .int .i64 b3, .int .i64 b4, .int .i64 bC, .int .i64 bD, .int .i64 bF] 28 (0, 0)) (by (iterate 13 (refine bw ?_; refine qZ8 ?_ cK.out _)); refine bw ?_; exact aH.out) hb); replace b7 := am (qQv (g := dD) (o := .cells #[.int .i64 ((qQb aG aA).f0), .int .i64 ((qQb aG aA).f1), .int .i64 ((qQb aG aA).f2), .int .i64 ((qQb aG aA).f3), .int .i64 ((qQb aG aA).f4), .int .i64 ((qQb aG aA).f5), .bool ((qQb aG aA).f6), .int .i64 ((qQb aG aA).f7), .int .i64 ((qQb aG aA).f8), .int .i64 ((qQb aG aA).f9), .int .i64 ((qQb aG aA).f10), .int .i64 ((qQb aG aA).f11), .int .i64 ((qQb aG aA).f12)] 48 (0, 0)) (by refine bw ?_; apply qY6; refine bw ?_; exact b7.out) hb); replace HB := s3 HB aJ aK dK hb; (try clear hb); (try clear hb2); (try clear hk); (try clear hi); have jQ := lc13 b7.out) | ((with_reducible refine qY9 (b := .append) (xs := #[.tmp 41, .tmp 43]) rfl ?_); at_builtin; refine Kd.qW8 k48 (w0 := w) w.heap.size rfl (.tmp 41) (.tmp 43) 23 48 (.agg #[(.int .i64 0), (.int .i64 0), (.int .i64 0), (.int .i64 0), (.int .i64 0), (.int .i64 0), (.bool false), (.int .i64 0), (.int .i64 0), (.int .i64 0), (.int .i64 0), (.int .i64 0), (.int .i64 0)]) 104 rfl Tryz.underlying23 info48 rfl (by decide) (by omega) u9 aI (⟨(qQb aG aA).f0, (qQb aG aA).f1, (qQb aG aA).f2, (qQb aG aA).f3, (qQb aG aA).f4, (qQb aG aA).f5, (qQb aG aA).f6, (qQb aG aA).f7, (qQb aG aA).f8, (qQb aG aA).f9, (qQb aG aA).f10, (qQb aG aA).f11, (qQb aG aA).f12⟩ : S48) [.int .i64 ((qQb aG aA).f0), .int .i64 ((qQb aG aA).f1), .int .i64 ((qQb aG aA).f2), .int .i64 ((qQb aG aA).f3), .int .i64 ((qQb aG aA).f4), .int .i64 ((qQb aG aA).f5), .bool ((qQb aG aA).f6), .int .i64 ((qQb aG aA).f7), .int .i64 ((qQb aG aA).f8), .int .i64 ((qQb aG aA).f9), .int .i64 ((qQb aG aA).f10), .int .i64 ((qQb aG aA).f11), .int .i64 ((qQb aG aA).f12)] (fun k_ => k_ ≠ dD) (fun _ => False) rfl rfl ?aP (fun _ hk => hk.elim) ?aF ?aO ?aB ?aS ?aL ?_; (case aP => exact zZr _ _ _ (⟨(qQb aG aA).f0, (qQb aG aA).f1, (qQb aG aA).f2, (qQb aG aA).f3, (qQb aG aA).f4, (qQb aG aA).f5, (qQb aG aA).f6, (qQb aG aA).f7, (qQb aG aA).f8, (qQb aG aA).f9, (qQb aG aA).f10, (qQb aG aA).f11, (qQb aG aA).f12⟩ : S48)); (case aB => exact (by exact h3q HB.out aJ.out aK.out dK.out)); (case aF => exact (fun k_ hk => Kd.freshB (g := dD) (Up.up b7.out) k_ hk)); (case aO => exact (by refine rw_ ?_; exact Kd.qQ4 aW.out (fun _ hk => hk.2))); (case aS => exact (qQn (by exact h3q HB.out aJ.out aK.out dK.out))); (case aL => have := nC.out; omega); intro u5 vQ ho hb hg hat; rw [<- nJ.out] at ho; replace aV := am (Kd.qYc (by exact rq aV.out) (Kd.qYb (by exact rq aW.out)) (by decide) hg); replace aQ := am (Kd.qYc (by exact rq aQ.out) (Kd.qYb (by exact rq aW.out)) (by decide) hg); replace aC := bG aC hg aW; replace aH := bG aH hg aW; replace b7 := am (qVk (g := dD) (Up.up b7.out) hg (Kd.zKx aW.out (fun _ hk => hk.2))); replace HB := am hb; have hT := am ho; clear aW; clear ho hb hg hat; have lO := lc13 b7.out) | ((with_reducible refine qY9 (b := .append) (xs := #[.tmp 45, .tmp 48]) rfl ?_); at_builtin; refine Kd.qW8 (Kd.int .i64) (w0 := w) w.heap.size rfl (.tmp 45) (.tmp 48) 32 3 (.int .i64 0) 8 rfl Tryz.underlying32 info3 rfl (by decide) (by omega) u6 dZ ((qQb aG aA).f0) [.int .i64 ((qQb aG aA).f0)] (fun _ => True) (fun _ => False) rfl rfl ?aP (fun _ hk => hk.elim) ?aF ?aO ?aB ?aS ?aL ?_; (case aP => exact rfl); (case aB => exact (by exact h3q HB.out aJ.out aK.out dK.out)); (case aF => exact (fun _ _ => trivial)); (case aO => exact (by exact rq aV.out)); (case aS => exact (qQn (by exact h3q HB.out aJ.out aK.out dK.out))); (case aL => have := nD.out; omega); intro u8 t0 ho hb hg hat; rw [<- nK.out] at ho; replace aQ := am (Kd.qYc (by exact rq aQ.out) (Kd.qYb (by exact rq aV.out)) (by decide) hg); replace aC := bG aC hg aV; replace aH := bG aH hg aV; replace b7 := bG b7 hg aV; replace hT := am (Kd.qYc (by exact rq hT.out) (Kd.qYb (by exact rq aV.out)) (by decide) hg); replace HB := am hb; have m8 := am ho; clear aV; clear ho hb hg hat))
    go_roundg k2
    case measure => have := fQ.out; have := fR.out; omega
    case rel => exact ⟨(pH), (mL), (wrap64 (aA + 1)), fr, H', o2 fQ fR, rA m8, rA aQ, ⟨by refine rw_ ?_; exact Kd.qQ4 hT.out (fun _ hk => trivial)⟩, bA aC, bA aH, a3_ HB aJ aK dK⟩
   rw [if_neg gU] at H
   have fD := decide_eq_false gU
   clear gU
   by_cases fS : (aI.length : Int) = 0
   ·rw [if_pos fS] at H
    have gV := beq_iff_eq.mpr fS
    have iD := bne_eq_false_iff_eq.mpr fS
    clear fS
    simp only [Option.some.injEq, Prod.mk.injEq] at H
    obtain ⟨rfl, rfl, rfl⟩ := H
    obtain ⟨uC, uJ, qL⟩ := Kd.qZq aW.out
    subst qL
    go_wp2
    go_ret3
    exact ⟨_, _, er, by first | exact Kd.R_nil _ _ _ _ _ | exact Kd.N_nil _ _ _ _ _ | exact Kd.V_nil _ _ _ _ _ | exact Kd.Q_nil _ _ _ _ _ | exact Kd.S_nil _ _ _ _ _, by first | exact Kd.R_nil _ _ _ _ _ | exact Kd.N_nil _ _ _ _ _ | exact Kd.V_nil _ _ _ _ _ | exact Kd.Q_nil _ _ _ _ _ | exact Kd.S_nil _ _ _ _ _, by exact h2q HB.out aJ.out aK.out⟩
   rw [if_neg fS] at H
   have gV := beq_eq_false_iff_ne.mpr fS
   have iD := bne_iff_ne.mpr fS
   have kM : ¬ (aI = []) := fun h_ => fS (by rw [h_]; rfl)
   obtain ⟨dO, t9, H⟩ := bd H
   by_cases k5 : 0 <= (aI.length : Int)
   case neg =>
    rw [if_neg k5] at H
    exact absurd H (by simp)
   rw [if_pos k5] at H
   have kN := eq_true k5
   have kO := decide_eq_true k5
   clear k5
   by_cases k6 : ((aI.length : Int) : Int).toNat <= 35184372088832
   case neg =>
    rw [if_neg k6] at H
    exact absurd H (by simp)
   rw [if_pos k6] at H
   have kP := eq_true k6
   have kQ := decide_eq_true k6
   clear k6
   obtain ⟨pI, iY⟩ : ∃ y_ : List Int, y_ = (List.replicate ((aI.length : Int) : Int).toNat 0) := ⟨_, rfl⟩
   replace H : (if dO = 4 then ((qZ5.f k2 bH a8 bZ aG b0 b1 bU bV bP b2 b3 b4 bC bD bF aI).bind fun eL => (if eL.2 = 0 then (qZa.j2 k2 a2 dZ ([] : List Int) aI dO eL.1) else (some (([] : List Int), ([] : List Int), eL.2)))) else (qZa.j2 k2 a2 dZ ([] : List Int) aI dO pI)) = some (r1, r2, r3) := by exact hyq H iY
   have kB := am iY
   clear iY
   have kX := am H
   clear H
   obtain ⟨m0, oH, qN⟩ := Kd.qZq aW.out
   subst qN
   have sR := b9.out
   have tH := b8.out
   have oY := lc13 aH.out
   go_upto_if 61 with (first | ((with_reducible refine gf 28 ?_); refine gC (some 56) Tryz.func28 (qWp.calls _ _ _ _ _ _ _ _ _ _ _ _ _ _ _ _ _ _ _ dO _ ?side1 ?side2 ?side3 ?side4 t9.out) ?_; (case side1 => exact cq ((Kd.qZp eK.out HB.out))); (case side2 => exact e8.out); (case side3 => exact cq ((Kd.qZp gN.out HB.out))); (case side4 => exact gL.out); rintro e wA ⟨rfl, hb⟩; refine ⟨_, rfl, ?_⟩; replace aV := Rb aV hb; replace aQ := Rb aQ hb; replace aW := Rb aW hb; replace aC := bB aC hb; replace aH := bB aH hb; replace HB := s2 HB aJ aK hb; (try clear hb); (try clear hb2); (try clear hk); (try clear hi)) | ((with_reducible refine gd 59 ?_); refine Kd.zXu (Kd.int .i64) _ 2 rfl (N := 59) rfl 22 _ _ rfl (aI.length : Int) rfl rfl Tryz.underlying22 (.int .i64 0) 8 info2 rfl (by decide) (by omega) 0 (ok := fun _ => True) (okp := fun _ => True) rfl (fun _ hk => hk) trivial (yd) (Nat.le_trans (Nat.mul_le_mul_right _ (yd : (aI.length : Int).toNat <= 35184372088832)) (by omega)) (Below.refl _ _) (Nat.le_refl _) ?_; intro vA p6 hO hb hg_ hnew_; clear hg_ hnew_; (first | rw [<- kB.out] at hO | (simp only [Int.reduceToNat] at hO; rw [<- kB.out] at hO)); replace aV := Rb aV hb; replace aW := Rb aW hb; have eJ := am (Kd.qZ1 (Kd.qXc hO (Kd.R_lt (by exact rq aQ.out))) (qQn (by exact h2q HB.out aJ.out aK.out))); replace aQ := Re aQ hO hb; replace aC := bB aC hb; replace aH := bB aH hb; replace HB := s2 HB aJ aK hb; clear hb hO))
   (try simp only [Act.put, List.setIfInBounds_toArray, List.set_cons_zero, List.set_cons_succ])
   go_cut [6, 7, 13] (fun v6 v7 tX wc => ∃ (kq : Nat) (hB : List Int) (hC : List Int) (bY : List Int), Aside0 (qZa.j2 kq a2 hB hC aI dO bY = some (r1, r2, r3)) /\ Aside0 (kq <= k2) /\ Aside0 (Kd.R (Kd.int .i64) 3 wc w.heap.size (fun _ => True) v6 hB) /\ Aside0 (Kd.R (Kd.int .i64) 2 wc w.heap.size (fun k_ => some k_ ≠ (tX : Value).ownBlock) v7 hC) /\ Aside0 (Kd.R k48 48 wc w.heap.size (fun _ => True) (.slice m0 aI.length oH) aI) /\ Aside0 (Kd.R (Kd.int .i64) 2 wc w.heap.size (fun k_ => some k_ ≠ (v7 : Value).ownBlock) tX bY) /\ Aside0 (wc.heap[bR]? = some (.cells #[.int .i64 bH, (.slice cC a8.length cD)] 37 (0, 0))) /\ Aside0 (wc.heap[dC]? = some (.cells #[.int .i64 bZ, (.slice dA aG.length cM), .int .i64 b0, .int .i64 b1, .int .i64 bU, .int .i64 bV, (.slice cL bP.length cN), .int .i64 b2, .int .i64 b3, .int .i64 b4, .int .i64 bC, .int .i64 bD, .int .i64 bF] 28 (0, 0))) /\ Aside0 (Below w.heap.size w wc))
   case first =>
    have H := kX.out
    clear kX
    by_cases jB : dO = 4
    case neg =>
     rw [if_neg jB] at H
     have eM := beq_eq_false_iff_ne.mpr jB
     have iF := bne_iff_ne.mpr jB
     (first | rw [eM] | (simp only [i64_w, i32_w]; rw [eM]) | skip)
     have H' := am H
     clear H
     go_wp2
     go_meet
     case rel => exact ⟨_, (dZ), (([] : List Int)), (pI), H', o2 fQ fR, rA aV, ⟨by refine rw_ ?_; exact Kd.qQ4 aQ.out (fun _ hk => hk.2)⟩, rA aW, ⟨by refine rw_ ?_; exact Kd.qQ4 eJ.out (fun _ hk => hk.2)⟩, bA aC, bA aH, a2_ HB aJ aK⟩
    rw [if_pos jB] at H
    have eM := beq_iff_eq.mpr jB
    have iF := bne_eq_false_iff_eq.mpr jB
    clear jB
    (first | rw [eM] | (simp only [i64_w, i32_w]; rw [eM]) | skip)
    obtain ⟨⟨l4, l5⟩, rI, H⟩ := bd H
    by_cases jC : l5 = 0
    case neg =>
     rw [if_neg jC] at H
     have iG := beq_eq_false_iff_ne.mpr jC
     have iH := bne_iff_ne.mpr jC
     simp only [Option.some.injEq, Prod.mk.injEq] at H
     obtain ⟨rfl, rfl, rfl⟩ := H
     have sT := b8.out
     have tJ := b9.out
     have g0 : p6.cell? ⟨bR, 0, none⟩ = some (.int .i64 bH) := (qQa aC.out 0).trans rfl
     have g1 : p6.cell? ⟨bR, 1, none⟩ = some (.slice cC a8.length cD) := (qQa aC.out 1).trans rfl
     have g4 := qQd aC.out 0
     have g5 := qQd aC.out 1
     have o3 := lc13 aH.out
     go_wp2_with (first | ((with_reducible refine gf 29 ?_); refine gC (some 66) Tryz.func29 (qZ5.calls _ _ _ _ _ _ _ _ _ _ _ _ _ _ _ _ _ _ _ _ _ _ _ _ _ l4 l5 _ ?side1 ?side2 ?side3 ?side4 ?side5 ?side6 ?side7 ?side8 rI.out) ?_; (case side1 => exact cq ((Kd.qZp d1.out HB.out))); (case side2 => exact d0.out); (case side3 => exact cq ((Kd.qZp eK.out HB.out))); (case side4 => exact e8.out); (case side5 => exact cq ((Kd.qZp gN.out HB.out))); (case side6 => exact gL.out); (case side7 => exact cq ((Kd.qQq aW.out).2.2)); (case side8 => exact (Kd.qQq aW.out).2.1); rintro e wC ⟨q6, rfl, fP, hb⟩; refine ⟨_, rfl, ?_⟩; replace aV := Rb aV hb; replace aW := Rb aW hb; have j6 := am (Kd.qZ1 (Kd.qXc (Kd.qXc fP (Kd.R_lt (by exact rq aQ.out))) (Kd.R_lt (by exact rq eJ.out))) (qQn (by exact h2q HB.out aJ.out aK.out))); replace aQ := Re aQ fP hb; replace eJ := Re eJ fP hb; replace aC := bB aC hb; replace aH := bB aH hb; replace HB := s2 HB aJ aK hb; (try clear hb); (try clear hb2); (try clear hk); (try clear hi); (try clear fP)))
     go_ret3
     exact ⟨_, _, er, by first | exact Kd.R_nil _ _ _ _ _ | exact Kd.N_nil _ _ _ _ _ | exact Kd.V_nil _ _ _ _ _ | exact Kd.Q_nil _ _ _ _ _ | exact Kd.S_nil _ _ _ _ _, by first | exact Kd.R_nil _ _ _ _ _ | exact Kd.N_nil _ _ _ _ _ | exact Kd.V_nil _ _ _ _ _ | exact Kd.Q_nil _ _ _ _ _ | exact Kd.S_nil _ _ _ _ _, by exact h2q HB.out aJ.out aK.out⟩
    rw [if_pos jC] at H
    have iG := beq_iff_eq.mpr jC
    have iH := bne_eq_false_iff_eq.mpr jC
    clear jC
    have H' := am H
    clear H
    have sS := b8.out
    have tI := b9.out
    have gY : p6.cell? ⟨bR, 0, none⟩ = some (.int .i64 bH) := (qQa aC.out 0).trans rfl
    have gZ : p6.cell? ⟨bR, 1, none⟩ = some (.slice cC a8.length cD) := (qQa aC.out 1).trans rfl
    have g2 := qQd aC.out 0
    have g3 := qQd aC.out 1
    have oZ := lc13 aH.out
    go_wp2_with (first | ((with_reducible refine gf 29 ?_); refine gC (some 66) Tryz.func29 (qZ5.calls _ _ _ _ _ _ _ _ _ _ _ _ _ _ _ _ _ _ _ _ _ _ _ _ _ l4 l5 _ ?side1 ?side2 ?side3 ?side4 ?side5 ?side6 ?side7 ?side8 rI.out) ?_; (case side1 => exact cq ((Kd.qZp d1.out HB.out))); (case side2 => exact d0.out); (case side3 => exact cq ((Kd.qZp eK.out HB.out))); (case side4 => exact e8.out); (case side5 => exact cq ((Kd.qZp gN.out HB.out))); (case side6 => exact gL.out); (case side7 => exact cq ((Kd.qQq aW.out).2.2)); (case side8 => exact (Kd.qQq aW.out).2.1); rintro e wB ⟨q6, rfl, fP, hb⟩; refine ⟨_, rfl, ?_⟩; replace aV := Rb aV hb; replace aW := Rb aW hb; have j6 := am (Kd.qZ1 (Kd.qXc (Kd.qXc fP (Kd.R_lt (by exact rq aQ.out))) (Kd.R_lt (by exact rq eJ.out))) (qQn (by exact h2q HB.out aJ.out aK.out))); replace aQ := Re aQ fP hb; replace eJ := Re eJ fP hb; replace aC := bB aC hb; replace aH := bB aH hb; replace HB := s2 HB aJ aK hb; (try clear hb); (try clear hb2); (try clear hk); (try clear hi); (try clear fP)))
    go_meet
    case rel => exact ⟨_, (dZ), (([] : List Int)), (l4), H', o2 fQ fR, rA aV, ⟨by refine rw_ ?_; exact Kd.qQ4 aQ.out (fun _ hk => hk.2)⟩, rA aW, ⟨by refine rw_ ?_; exact Kd.qQ4 j6.out (fun _ hk => hk.1.2)⟩, bA aC, bA aH, a2_ HB aJ aK⟩
   case rest =>
    clear kX
    try clear c8
    try clear hL
    try clear k0
    try clear gU
    try clear fD
    try clear mP
    try clear kK
    try clear mQ
    try clear kL
    try clear mR
    try clear hR
    try clear mS
    try clear fS
    try clear gV iD
    try clear kM
    try clear k5
    try clear kN kO
    try clear k6
    try clear kP kQ
    try clear jB
    try clear eM iF
    try clear jC
    try clear iG iH
    try clear d4
    try clear d5
    try clear i3
    try clear d6
    try clear d7
    try clear d8
    try clear d9
    try clear lN
    try clear jP
    try clear jQ
    try clear lO
    try clear oX
    try clear oY
    try clear gY
    try clear gZ
    try clear oZ
    try clear g0
    try clear g1
    try clear o3
    try clear eA
    try clear eB
    try clear eC
    try clear eD
    try clear eE
    try clear eF
    try clear g2
    try clear g3
    try clear g4
    try clear g5
    try clear eP
    try clear eZ e3
    obtain ⟨kq, hB, hC, bY, HA, jA, aV, aQ, aW, aT, aC, aH, HB⟩ := hcut
    rcases kq with _ | o4
    ·exact absurd HA.out (by simp [qZa.j2])
    have H := HA.out
    clear HA
    simp only [qZa.j2] at H
    have H' := am H
    clear H
    go_wp2
    go_loopg [6, 7, 74] o4 (fun kq v6 v7 vJ w' => ∃ (gI : List Int) (e5 : List Int) (aD : Int), vJ = .int .i64 aD /\ Aside0 (qZa.l1 kq a2 gI e5 dO bY aI (aI.length : Int) aD = some (r1, r2, r3)) /\ Aside0 (kq <= o4) /\ Aside0 (Kd.R (Kd.int .i64) 3 w' w.heap.size (fun _ => True) v6 gI) /\ Aside0 (Kd.R (Kd.int .i64) 2 w' w.heap.size (fun k_ => some k_ ≠ (u13 : Value).ownBlock) v7 e5) /\ Aside0 (Kd.R (Kd.int .i64) 2 w' w.heap.size (fun k_ => some k_ ≠ (v7 : Value).ownBlock) u13 bY) /\ Aside0 (Kd.R k48 48 w' w.heap.size (fun _ => True) (.slice m0 aI.length oH) aI) /\ Aside0 (w'.heap[bR]? = some (.cells #[.int .i64 bH, (.slice cC a8.length cD)] 37 (0, 0))) /\ Aside0 (w'.heap[dC]? = some (.cells #[.int .i64 bZ, (.slice dA aG.length cM), .int .i64 b0, .int .i64 b1, .int .i64 bU, .int .i64 bV, (.slice cL bP.length cN), .int .i64 b2, .int .i64 b3, .int .i64 b4, .int .i64 bC, .int .i64 bD, .int .i64 bF] 28 (0, 0))) /\ Aside0 (Below w.heap.size w w'))
    case atStart => exact ⟨(hB), (hC), (0), fr, H', ⟨Nat.le_refl _⟩, rA aV, rA aQ, rA aT, rA aW, bA aC, bA aH, a2_ HB aJ aK⟩
    case round =>
     clear H'
     try clear c8
     try clear hL
     try clear k0
     try clear gU
     try clear fD
     try clear mP
     try clear kK
     try clear mQ
     try clear kL
     try clear mR
     try clear hR
     try clear mS
     try clear fS
     try clear gV iD
     try clear kM
     try clear k5
     try clear kN kO
     try clear k6
     try clear kP kQ
     try clear jB
     try clear eM iF
     try clear jC
     try clear iG iH
     try clear d4
     try clear d5
     try clear i3
     try clear d6
     try clear d7
     try clear d8
     try clear d9
     try clear lN
     try clear jP
     try clear jQ
     try clear lO
     try clear oX
     try clear oY
     try clear gY
     try clear gZ
     try clear oZ
     try clear g0
     try clear g1
     try clear o3
     try clear eA
     try clear eB
     try clear eC
     try clear eD
     try clear eE
     try clear eF
     try clear g2
     try clear g3
     try clear g4
     try clear g5
     try clear eP
     try clear eZ e3
     obtain ⟨gI, e5, aD, rfl, HA, pL, aV, aQ, aT, bL, aC, aH, HB⟩ := hrel
     rcases gk with _ | k4
     ·exact absurd HA.out (by simp [qZa.l1])
     have H := HA.out
     clear HA
     simp only [qZa.l1] at H
     by_cases mW : aD < (aI.length : Int)
     case neg =>
      rw [if_neg mW] at H
      have n8 := decide_eq_false mW
      clear mW
      simp only [Option.some.injEq, Prod.mk.injEq] at H
      obtain ⟨rfl, rfl, rfl⟩ := H
      go_wp2
      go_ret3
      exact ⟨_, _, er, by refine rw_ ?_; exact aV.out, by refine rw_ ?_; exact Kd.qQ4 aQ.out (fun _ hk => trivial), by exact h2q HB.out aJ.out aK.out⟩
     rw [if_pos mW] at H
     have n8 := decide_eq_true mW
     clear mW
     by_cases pT : 0 <= aD
     case neg =>
      rw [if_neg pT] at H
      exact absurd H (by simp)
     rw [if_pos pT] at H
     have sB := decide_eq_true pT
     clear pT
     by_cases pU : aD < (aI.length : Int)
     case neg =>
      rw [if_neg pU] at H
      exact absurd H (by simp)
     rw [if_pos pU] at H
     have sC := decide_eq_true pU
     clear pU
     by_cases pV : aD < (bY.length : Int)
     case neg =>
      rw [if_neg pV] at H
      exact absurd H (by simp)
     rw [if_pos pV] at H
     have sD := decide_eq_true pV
     clear pV
     by_cases k8 : dO = 4
     case neg =>
      rw [if_neg k8] at H
      have n9 := beq_eq_false_iff_ne.mpr k8
      have oA := bne_iff_ne.mpr k8
      obtain ⟨⟨i6, l7⟩, rK, H⟩ := bd H
      by_cases lA : l7 = 0
      case neg =>
       rw [if_neg lA] at H
       have oD := beq_eq_false_iff_ne.mpr lA
       have oE := bne_iff_ne.mpr lA
       simp only [Option.some.injEq, Prod.mk.injEq] at H
       obtain ⟨rfl, rfl, rfl⟩ := H
       have dF : 0 <= (aD : Int) := yd
       have dH : aD < (aI.length : Int) := yd
       obtain ⟨hY, fT, iN⟩ := qXr (Kd.qQq bL.out).2.2 aD dF dH
       cases fT
       replace dF := eq_true dF
       replace dH := eq_true dH
       go_wp2_with (first | ((with_reducible refine gd 15 ?_); refine bE 15 _ 48 ?_; intro bW hg wL hbox hb; replace aV := Rb aV hb; replace aQ := Rb aQ hb; replace aT := Rb aT hb; replace bL := am (Kd.qYa (Kd.qVp (by exact rq bL.out) bW (Nat.le_of_eq hg.symm)) hb); have aX := am hbox; have hS := e2 HB aJ aK hg; have cE := e2 HB aJ aK hg; replace HB := s2 HB aJ aK hb; have bJ := nL aC hg; have cA := nG aC hg; replace aC := bB aC hb; have bK := nL aH hg; have cB := nG aH hg; replace aH := bB aH hb; clear hb hbox hg; have s4 := cA.out; have tQ := bJ.out; have qR := cB.out; have qS := bK.out; have tR := lc13 aX.out; obtain ⟨rL, sE, oI⟩ := Kd.qZq aT.out; subst oI; have dG : 0 <= (aD : Int) := yd; have dI : aD < (bY.length : Int) := yd; obtain ⟨dL, fU, bX⟩ := Kd.qZ7 (Kd.qQq aT.out).2.2 aD dG dI; cases fU; have a6 : dL.block ≠ bW := Kd.qK4 (Kd.R_ne aT.out aX.out (by decide)); replace bX := cfS (qQb aI aD) (by first | (rw [add_block]; exact a6) | (show (Addr.add _ _).block ≠ _; rw [add_block]; exact a6) | exact a6) bX; clear a6; replace dG := eq_true dG; replace dI := eq_true dI) | ((with_reducible refine gf 18 ?_); refine gC (some 95) Tryz.func18 (qYk.calls _ _ _ _ _ _ _ _ _ _ _ _ _ _ _ _ i6 l7 _ rK.out) ?_; rintro e vL ⟨rfl, hb⟩; refine ⟨_, rfl, ?_⟩; replace aV := am (Kd.qYa (by refine rw_ ?_; exact (Kd.qQ4 (qYt (Kd.qZy aV.out aX.out (by decide)) (fun _ hk => hk.2)) (fun _ h_ => h_.1))) hb); replace aQ := am (Kd.qYa (by refine rw_ ?_; exact (Kd.qQ4 (qYt (Kd.qZy aQ.out aX.out (by decide)) (fun _ hk => hk.2)) (fun _ h_ => h_.1))) hb); replace aT := am (Kd.qYa (by refine rw_ ?_; exact (Kd.qQ4 (qYt (Kd.qZy aT.out aX.out (by decide)) (fun _ hk => hk.2)) (fun _ h_ => h_.1))) hb); replace bL := am (Kd.qYa (by refine rw_ ?_; exact (Kd.qQ4 (qYt (Kd.qQ4 bL.out (fun k_ hk => (⟨hk, hk.2⟩ : _ /\ k_ ≠ bW))) (fun _ hk => hk.2)) (fun _ h_ => h_.1))) hb); replace aC := am (qQv (g := bR) (o := .cells #[.int .i64 bH, .slice cC a8.length cD] 37 (0, 0)) (by (iterate 13 (refine bw ?_; refine qZ8 ?_ bJ.out _)); refine bw ?_; exact aC.out) hb); replace aH := am (qQv (g := dC) (o := .cells #[.int .i64 bZ, .slice dA aG.length cM, .int .i64 b0, .int .i64 b1, .int .i64 bU, .int .i64 bV, .slice cL bP.length cN, .int .i64 b2, .int .i64 b3, .int .i64 b4, .int .i64 bC, .int .i64 bD, .int .i64 bF] 28 (0, 0)) (by (iterate 13 (refine bw ?_; refine qZ8 ?_ bK.out _)); refine bw ?_; exact aH.out) hb); replace aX := am (qQv (g := bW) (o := .cells #[.int .i64 ((qQb aI aD).f0), .int .i64 ((qQb aI aD).f1), .int .i64 ((qQb aI aD).f2), .int .i64 ((qQb aI aD).f3), .int .i64 ((qQb aI aD).f4), .int .i64 ((qQb aI aD).f5), .bool ((qQb aI aD).f6), .int .i64 ((qQb aI aD).f7), .int .i64 ((qQb aI aD).f8), .int .i64 ((qQb aI aD).f9), .int .i64 ((qQb aI aD).f10), .int .i64 ((qQb aI aD).f11), .int .i64 ((qQb aI aD).f12)] 48 (0, 0)) (by refine bw ?_; apply qY6; refine bw ?_; exact aX.out) hb); replace HB := s3 HB aJ aK cE hb; (try clear hb); (try clear hb2); (try clear hk); (try clear hi)))
       go_ret3
       exact ⟨_, _, er, by first | exact Kd.R_nil _ _ _ _ _ | exact Kd.N_nil _ _ _ _ _ | exact Kd.V_nil _ _ _ _ _ | exact Kd.Q_nil _ _ _ _ _ | exact Kd.S_nil _ _ _ _ _, by first | exact Kd.R_nil _ _ _ _ _ | exact Kd.N_nil _ _ _ _ _ | exact Kd.V_nil _ _ _ _ _ | exact Kd.Q_nil _ _ _ _ _ | exact Kd.S_nil _ _ _ _ _, by exact h3q HB.out aJ.out aK.out cE.out⟩
      rw [if_pos lA] at H
      have oD := beq_iff_eq.mpr lA
      have oE := bne_eq_false_iff_eq.mpr lA
      clear lA
      by_cases pX : e5.length < 17592186044416
      case neg =>
       rw [if_neg pX] at H
       exact absurd H (by simp)
      rw [if_pos pX] at H
      have nF := am pX
      clear pX
      obtain ⟨pK, i0⟩ : ∃ y_ : List Int, y_ = (e5 ++ [i6]) := ⟨_, rfl⟩
      replace H : (qZa.l1 k4 a2 gI pK dO bY aI (aI.length : Int) (wrap64 (aD + 1))) = some (r1, r2, r3) := by exact hyq H i0
      have nN := am i0
      clear i0
      have H' := am H
      clear H
      have dF : 0 <= (aD : Int) := yd
      have dH : aD < (aI.length : Int) := yd
      obtain ⟨hY, fT, iN⟩ := qXr (Kd.qQq bL.out).2.2 aD dF dH
      cases fT
      replace dF := eq_true dF
      replace dH := eq_true dH
      go_wp2_with (first | ((with_reducible refine gd 15 ?_); refine bE 15 _ 48 ?_; intro bW hg wI hbox hb; replace aV := Rb aV hb; replace aQ := Rb aQ hb; replace aT := Rb aT hb; replace bL := am (Kd.qYa (Kd.qVp (by exact rq bL.out) bW (Nat.le_of_eq hg.symm)) hb); have aX := am hbox; have hS := e2 HB aJ aK hg; have cE := e2 HB aJ aK hg; replace HB := s2 HB aJ aK hb; have bJ := nL aC hg; have cA := nG aC hg; replace aC := bB aC hb; have bK := nL aH hg; have cB := nG aH hg; replace aH := bB aH hb; clear hb hbox hg; have sY := cA.out; have tO := bJ.out; have sZ := cB.out; have tP := bK.out; have u0 := lc13 aX.out; obtain ⟨uG, qD, qQ⟩ := Kd.qZq aT.out; subst qQ; have dG : 0 <= (aD : Int) := yd; have dI : aD < (bY.length : Int) := yd; obtain ⟨dL, fU, bX⟩ := Kd.qZ7 (Kd.qQq aT.out).2.2 aD dG dI; cases fU; have a6 : dL.block ≠ bW := Kd.qK4 (Kd.R_ne aT.out aX.out (by decide)); replace bX := cfS (qQb aI aD) (by first | (rw [add_block]; exact a6) | (show (Addr.add _ _).block ≠ _; rw [add_block]; exact a6) | exact a6) bX; clear a6; replace dG := eq_true dG; replace dI := eq_true dI) | ((with_reducible refine gf 18 ?_); refine gC (some 95) Tryz.func18 (qYk.calls _ _ _ _ _ _ _ _ _ _ _ _ _ _ _ _ i6 l7 _ rK.out) ?_; rintro e wJ ⟨rfl, hb⟩; refine ⟨_, rfl, ?_⟩; replace aV := am (Kd.qYa (by refine rw_ ?_; exact (Kd.qQ4 (qYt (Kd.qZy aV.out aX.out (by decide)) (fun _ hk => hk.2)) (fun _ h_ => h_.1))) hb); replace aQ := am (Kd.qYa (by refine rw_ ?_; exact (Kd.qQ4 (qYt (Kd.qZy aQ.out aX.out (by decide)) (fun _ hk => hk.2)) (fun _ h_ => h_.1))) hb); replace aT := am (Kd.qYa (by refine rw_ ?_; exact (Kd.qQ4 (qYt (Kd.qZy aT.out aX.out (by decide)) (fun _ hk => hk.2)) (fun _ h_ => h_.1))) hb); replace bL := am (Kd.qYa (by refine rw_ ?_; exact (Kd.qQ4 (qYt (Kd.qQ4 bL.out (fun k_ hk => (⟨hk, hk.2⟩ : _ /\ k_ ≠ bW))) (fun _ hk => hk.2)) (fun _ h_ => h_.1))) hb); replace aC := am (qQv (g := bR) (o := .cells #[.int .i64 bH, .slice cC a8.length cD] 37 (0, 0)) (by (iterate 13 (refine bw ?_; refine qZ8 ?_ bJ.out _)); refine bw ?_; exact aC.out) hb); replace aH := am (qQv (g := dC) (o := .cells #[.int .i64 bZ, .slice dA aG.length cM, .int .i64 b0, .int .i64 b1, .int .i64 bU, .int .i64 bV, .slice cL bP.length cN, .int .i64 b2, .int .i64 b3, .int .i64 b4, .int .i64 bC, .int .i64 bD, .int .i64 bF] 28 (0, 0)) (by (iterate 13 (refine bw ?_; refine qZ8 ?_ bK.out _)); refine bw ?_; exact aH.out) hb); replace aX := am (qQv (g := bW) (o := .cells #[.int .i64 ((qQb aI aD).f0), .int .i64 ((qQb aI aD).f1), .int .i64 ((qQb aI aD).f2), .int .i64 ((qQb aI aD).f3), .int .i64 ((qQb aI aD).f4), .int .i64 ((qQb aI aD).f5), .bool ((qQb aI aD).f6), .int .i64 ((qQb aI aD).f7), .int .i64 ((qQb aI aD).f8), .int .i64 ((qQb aI aD).f9), .int .i64 ((qQb aI aD).f10), .int .i64 ((qQb aI aD).f11), .int .i64 ((qQb aI aD).f12)] 48 (0, 0)) (by refine bw ?_; apply qY6; refine bw ?_; exact aX.out) hb); replace HB := s3 HB aJ aK cE hb; (try clear hb); (try clear hb2); (try clear hk); (try clear hi)) | ((with_reducible refine qY9 (b := .append) (xs := #[.tmp 101, .tmp 103]) rfl ?_); at_builtin; refine Kd.qW8 (Kd.int .i64) (w0 := w) w.heap.size rfl (.tmp 101) (.tmp 103) 22 2 (.int .i64 0) 8 rfl Tryz.underlying22 info2 rfl (by decide) (by omega) u7 e5 i6 [.int .i64 i6] (fun k_ => some k_ ≠ (.slice (some dL) bY.length qD : Value).ownBlock) (fun _ => False) rfl rfl ?aP (fun _ hk => hk.elim) ?aF ?aO ?aB ?aS ?aL ?_; (case aP => exact rfl); (case aB => exact (by exact h3q HB.out aJ.out aK.out cE.out)); (case aF => exact (fun k_ hk => Kd.fresh' (Kd.R_lt (by exact rq aT.out)) k_ hk)); (case aO => exact (by exact rq aQ.out)); (case aS => exact (qQn (by exact h3q HB.out aJ.out aK.out cE.out))); (case aL => have := nF.out; omega); intro vC wK ho hb hg hat; rw [<- nN.out] at ho; replace aV := am (Kd.qYc (by exact rq aV.out) (Kd.qYb (by exact rq aQ.out)) (by decide) hg); replace aT := am (Kd.qWc (ok := (fun _ => True)) (by refine rw_ ?_; exact Kd.qQ4 aT.out (fun _ hk => ⟨trivial, hk⟩)) hg hat); replace bL := am (Kd.qYc (by exact rq bL.out) (Kd.qYb (by exact rq aQ.out)) (by decide) hg); replace aC := bG aC hg aQ; replace aH := bG aH hg aQ; replace aX := bG aX hg aQ; replace HB := am hb; have nA := am ho; clear aQ; clear ho hb hg hat))
      go_roundg k4
      case measure => have := fQ.out; have := fR.out; have := jA.out; have := pL.out; omega
      case rel => exact ⟨(gI), (pK), (wrap64 (aD + 1)), fr, H', ⟨by have := fQ.out; have := fR.out; have := jA.out; have := pL.out; omega⟩, rA aV, rA nA, ⟨by refine rw_ ?_; exact Kd.qQ4 aT.out (fun _ hk => hk.2)⟩, ⟨by refine rw_ ?_; exact Kd.qQ4 bL.out (fun _ hk => trivial)⟩, bA aC, bA aH, a3_ HB aJ aK cE⟩
     rw [if_pos k8] at H
     have n9 := beq_iff_eq.mpr k8
     have oA := bne_eq_false_iff_eq.mpr k8
     clear k8
     obtain ⟨⟨i5, l6⟩, rJ, H⟩ := bd H
     by_cases k9 : l6 = 0
     case neg =>
      rw [if_neg k9] at H
      have oB := beq_eq_false_iff_ne.mpr k9
      have oC := bne_iff_ne.mpr k9
      simp only [Option.some.injEq, Prod.mk.injEq] at H
      obtain ⟨rfl, rfl, rfl⟩ := H
      have dF : 0 <= (aD : Int) := yd
      have dH : aD < (aI.length : Int) := yd
      obtain ⟨hY, fT, iN⟩ := qXr (Kd.qQq bL.out).2.2 aD dF dH
      cases fT
      replace dF := eq_true dF
      replace dH := eq_true dH
      go_wp2_with (first | ((with_reducible refine gd 15 ?_); refine bE 15 _ 48 ?_; intro bW hg wG hbox hb; replace aV := Rb aV hb; replace aQ := Rb aQ hb; replace aT := Rb aT hb; replace bL := am (Kd.qYa (Kd.qVp (by exact rq bL.out) bW (Nat.le_of_eq hg.symm)) hb); have aX := am hbox; have hS := e2 HB aJ aK hg; have cE := e2 HB aJ aK hg; replace HB := s2 HB aJ aK hb; have bJ := nL aC hg; have cA := nG aC hg; replace aC := bB aC hb; have bK := nL aH hg; have cB := nG aH hg; replace aH := bB aH hb; clear hb hbox hg; have sW := cA.out; have tM := bJ.out; have sX := cB.out; have tN := bK.out; have uZ := lc13 aX.out; obtain ⟨uF, uL, qP⟩ := Kd.qZq aT.out; subst qP; have dG : 0 <= (aD : Int) := yd; have dI : aD < (bY.length : Int) := yd; obtain ⟨dL, fU, bX⟩ := Kd.qZ7 (Kd.qQq aT.out).2.2 aD dG dI; cases fU; have a6 : dL.block ≠ bW := Kd.qK4 (Kd.R_ne aT.out aX.out (by decide)); replace bX := cfS (qQb aI aD) (by first | (rw [add_block]; exact a6) | (show (Addr.add _ _).block ≠ _; rw [add_block]; exact a6) | exact a6) bX; clear a6; replace dG := eq_true dG; replace dI := eq_true dI) | ((with_reducible refine gf 30 ?_); refine gC (some 88) Tryz.func30 (qYs.calls _ _ _ _ _ _ _ _ _ _ _ _ _ _ _ i5 l6 _ rJ.out) ?_; rintro e wH ⟨rfl, hb⟩; refine ⟨_, rfl, ?_⟩; replace aV := am (Kd.qYa (by refine rw_ ?_; exact (Kd.qQ4 (qYt (Kd.qZy aV.out aX.out (by decide)) (fun _ hk => hk.2)) (fun _ h_ => h_.1))) hb); replace aQ := am (Kd.qYa (by refine rw_ ?_; exact (Kd.qQ4 (qYt (Kd.qZy aQ.out aX.out (by decide)) (fun _ hk => hk.2)) (fun _ h_ => h_.1))) hb); replace aT := am (Kd.qYa (by refine rw_ ?_; exact (Kd.qQ4 (qYt (Kd.qZy aT.out aX.out (by decide)) (fun _ hk => hk.2)) (fun _ h_ => h_.1))) hb); replace bL := am (Kd.qYa (by refine rw_ ?_; exact (Kd.qQ4 (qYt (Kd.qQ4 bL.out (fun k_ hk => (⟨hk, hk.2⟩ : _ /\ k_ ≠ bW))) (fun _ hk => hk.2)) (fun _ h_ => h_.1))) hb); replace aC := am (qQv (g := bR) (o := .cells #[.int .i64 bH, .slice cC a8.length cD] 37 (0, 0)) (by (iterate 13 (refine bw ?_; refine qZ8 ?_ bJ.out _)); refine bw ?_; exact aC.out) hb); replace aH := am (qQv (g := dC) (o := .cells #[.int .i64 bZ, .slice dA aG.length cM, .int .i64 b0, .int .i64 b1, .int .i64 bU, .int .i64 bV, .slice cL bP.length cN, .int .i64 b2, .int .i64 b3, .int .i64 b4, .int .i64 bC, .int .i64 bD, .int .i64 bF] 28 (0, 0)) (by (iterate 13 (refine bw ?_; refine qZ8 ?_ bK.out _)); refine bw ?_; exact aH.out) hb); replace aX := am (qQv (g := bW) (o := .cells #[.int .i64 ((qQb aI aD).f0), .int .i64 ((qQb aI aD).f1), .int .i64 ((qQb aI aD).f2), .int .i64 ((qQb aI aD).f3), .int .i64 ((qQb aI aD).f4), .int .i64 ((qQb aI aD).f5), .bool ((qQb aI aD).f6), .int .i64 ((qQb aI aD).f7), .int .i64 ((qQb aI aD).f8), .int .i64 ((qQb aI aD).f9), .int .i64 ((qQb aI aD).f10), .int .i64 ((qQb aI aD).f11), .int .i64 ((qQb aI aD).f12)] 48 (0, 0)) (by refine bw ?_; apply qY6; refine bw ?_; exact aX.out) hb); replace HB := s3 HB aJ aK cE hb; (try clear hb); (try clear hb2); (try clear hk); (try clear hi)))
      go_ret3
      exact ⟨_, _, er, by first | exact Kd.R_nil _ _ _ _ _ | exact Kd.N_nil _ _ _ _ _ | exact Kd.V_nil _ _ _ _ _ | exact Kd.Q_nil _ _ _ _ _ | exact Kd.S_nil _ _ _ _ _, by first | exact Kd.R_nil _ _ _ _ _ | exact Kd.N_nil _ _ _ _ _ | exact Kd.V_nil _ _ _ _ _ | exact Kd.Q_nil _ _ _ _ _ | exact Kd.S_nil _ _ _ _ _, by exact h3q HB.out aJ.out aK.out cE.out⟩
     rw [if_pos k9] at H
     have oB := beq_iff_eq.mpr k9
     have oC := bne_eq_false_iff_eq.mpr k9
     clear k9
     by_cases pW : e5.length < 17592186044416
     case neg =>
      rw [if_neg pW] at H
      exact absurd H (by simp)
     rw [if_pos pW] at H
     have nE := am pW
     clear pW
     obtain ⟨pJ, iZ⟩ : ∃ y_ : List Int, y_ = (e5 ++ [i5]) := ⟨_, rfl⟩
     replace H : (qZa.l1 k4 a2 gI pJ dO bY aI (aI.length : Int) (wrap64 (aD + 1))) = some (r1, r2, r3) := by exact hyq H iZ
     have nM := am iZ
     clear iZ
     have H' := am H
     clear H
     have dF : 0 <= (aD : Int) := yd
     have dH : aD < (aI.length : Int) := yd
     obtain ⟨hY, fT, iN⟩ := qXr (Kd.qQq bL.out).2.2 aD dF dH
     cases fT
     replace dF := eq_true dF
     replace dH := eq_true dH
     go_wp2_with (first | ((with_reducible refine gd 15 ?_); refine bE 15 _ 48 ?_; intro bW hg wD hbox hb; replace aV := Rb aV hb; replace aQ := Rb aQ hb; replace aT := Rb aT hb; replace bL := am (Kd.qYa (Kd.qVp (by exact rq bL.out) bW (Nat.le_of_eq hg.symm)) hb); have aX := am hbox; have hS := e2 HB aJ aK hg; have cE := e2 HB aJ aK hg; replace HB := s2 HB aJ aK hb; have bJ := nL aC hg; have cA := nG aC hg; replace aC := bB aC hb; have bK := nL aH hg; have cB := nG aH hg; replace aH := bB aH hb; clear hb hbox hg; have sU := cA.out; have tK := bJ.out; have sV := cB.out; have tL := bK.out; have uY := lc13 aX.out; obtain ⟨uE, qC, qO⟩ := Kd.qZq aT.out; subst qO; have dG : 0 <= (aD : Int) := yd; have dI : aD < (bY.length : Int) := yd; obtain ⟨dL, fU, bX⟩ := Kd.qZ7 (Kd.qQq aT.out).2.2 aD dG dI; cases fU; have a6 : dL.block ≠ bW := Kd.qK4 (Kd.R_ne aT.out aX.out (by decide)); replace bX := cfS (qQb aI aD) (by first | (rw [add_block]; exact a6) | (show (Addr.add _ _).block ≠ _; rw [add_block]; exact a6) | exact a6) bX; clear a6; replace dG := eq_true dG; replace dI := eq_true dI) | ((with_reducible refine gf 30 ?_); refine gC (some 88) Tryz.func30 (qYs.calls _ _ _ _ _ _ _ _ _ _ _ _ _ _ _ i5 l6 _ rJ.out) ?_; rintro e wE ⟨rfl, hb⟩; refine ⟨_, rfl, ?_⟩; replace aV := am (Kd.qYa (by refine rw_ ?_; exact (Kd.qQ4 (qYt (Kd.qZy aV.out aX.out (by decide)) (fun _ hk => hk.2)) (fun _ h_ => h_.1))) hb); replace aQ := am (Kd.qYa (by refine rw_ ?_; exact (Kd.qQ4 (qYt (Kd.qZy aQ.out aX.out (by decide)) (fun _ hk => hk.2)) (fun _ h_ => h_.1))) hb); replace aT := am (Kd.qYa (by refine rw_ ?_; exact (Kd.qQ4 (qYt (Kd.qZy aT.out aX.out (by decide)) (fun _ hk => hk.2)) (fun _ h_ => h_.1))) hb); replace bL := am (Kd.qYa (by refine rw_ ?_; exact (Kd.qQ4 (qYt (Kd.qQ4 bL.out (fun k_ hk => (⟨hk, hk.2⟩ : _ /\ k_ ≠ bW))) (fun _ hk => hk.2)) (fun _ h_ => h_.1))) hb); replace aC := am (qQv (g := bR) (o := .cells #[.int .i64 bH, .slice cC a8.length cD] 37 (0, 0)) (by (iterate 13 (refine bw ?_; refine qZ8 ?_ bJ.out _)); refine bw ?_; exact aC.out) hb); replace aH := am (qQv (g := dC) (o := .cells #[.int .i64 bZ, .slice dA aG.length cM, .int .i64 b0, .int .i64 b1, .int .i64 bU, .int .i64 bV, .slice cL bP.length cN, .int .i64 b2, .int .i64 b3, .int .i64 b4, .int .i64 bC, .int .i64 bD, .int .i64 bF] 28 (0, 0)) (by (iterate 13 (refine bw ?_; refine qZ8 ?_ bK.out _)); refine bw ?_; exact aH.out) hb); replace aX := am (qQv (g := bW) (o := .cells #[.int .i64 ((qQb aI aD).f0), .int .i64 ((qQb aI aD).f1), .int .i64 ((qQb aI aD).f2), .int .i64 ((qQb aI aD).f3), .int .i64 ((qQb aI aD).f4), .int .i64 ((qQb aI aD).f5), .bool ((qQb aI aD).f6), .int .i64 ((qQb aI aD).f7), .int .i64 ((qQb aI aD).f8), .int .i64 ((qQb aI aD).f9), .int .i64 ((qQb aI aD).f10), .int .i64 ((qQb aI aD).f11), .int .i64 ((qQb aI aD).f12)] 48 (0, 0)) (by refine bw ?_; apply qY6; refine bw ?_; exact aX.out) hb); replace HB := s3 HB aJ aK cE hb; (try clear hb); (try clear hb2); (try clear hk); (try clear hi)) | ((with_reducible refine qY9 (b := .append) (xs := #[.tmp 101, .tmp 103]) rfl ?_); at_builtin; refine Kd.qW8 (Kd.int .i64) (w0 := w) w.heap.size rfl (.tmp 101) (.tmp 103) 22 2 (.int .i64 0) 8 rfl Tryz.underlying22 info2 rfl (by decide) (by omega) u7 e5 i5 [.int .i64 i5] (fun k_ => some k_ ≠ (.slice (some dL) bY.length qC : Value).ownBlock) (fun _ => False) rfl rfl ?aP (fun _ hk => hk.elim) ?aF ?aO ?aB ?aS ?aL ?_; (case aP => exact rfl); (case aB => exact (by exact h3q HB.out aJ.out aK.out cE.out)); (case aF => exact (fun k_ hk => Kd.fresh' (Kd.R_lt (by exact rq aT.out)) k_ hk)); (case aO => exact (by exact rq aQ.out)); (case aS => exact (qQn (by exact h3q HB.out aJ.out aK.out cE.out))); (case aL => have := nE.out; omega); intro vB wF ho hb hg hat; rw [<- nM.out] at ho; replace aV := am (Kd.qYc (by exact rq aV.out) (Kd.qYb (by exact rq aQ.out)) (by decide) hg); replace aT := am (Kd.qWc (ok := (fun _ => True)) (by refine rw_ ?_; exact Kd.qQ4 aT.out (fun _ hk => ⟨trivial, hk⟩)) hg hat); replace bL := am (Kd.qYc (by exact rq bL.out) (Kd.qYb (by exact rq aQ.out)) (by decide) hg); replace aC := bG aC hg aQ; replace aH := bG aH hg aQ; replace aX := bG aX hg aQ; replace HB := am hb; have m9 := am ho; clear aQ; clear ho hb hg hat))
     go_roundg k4
     case measure => have := fQ.out; have := fR.out; have := jA.out; have := pL.out; omega
     case rel => exact ⟨(gI), (pJ), (wrap64 (aD + 1)), fr, H', ⟨by have := fQ.out; have := fR.out; have := jA.out; have := pL.out; omega⟩, rA aV, rA m9, ⟨by refine rw_ ?_; exact Kd.qQ4 aT.out (fun _ hk => hk.2)⟩, ⟨by refine rw_ ?_; exact Kd.qQ4 bL.out (fun _ hk => trivial)⟩, bA aC, bA aH, a3_ HB aJ aK cE⟩
def qZf.l0 : Nat -> List Int -> List Int -> Int -> Option (Bool)
 | 0, _, _, _ => none
 | k + 1, x0, x1, x5 => if x5 < (x0.length : Int) then (if 0 <= x5 then (if x5 < (x1.length : Int) then (if (rd x0 x5) = (rd x1 x5) then (qZf.l0 k x0 x1 (wrap64 (x5 + 1))) else (some false)) else (none)) else (none)) else (some true)
def qZf.f (k : Nat) (l0 l1 : List Int) : Option (Bool) := if (l0.length : Int) = (l1.length : Int) then (qZf.l0 k l0 l1 0) else (some false)
set_option maxHeartbeats 8000000 in
set_option maxRecDepth 100000 in
theorem qZf.calls (k : Nat) (A0 : Option Addr) (c0 : Nat) (l0 : List Int) (A1 : Option Addr) (c1 : Nat) (l1 : List Int) (r : Bool) (w : World) (hr0 : Kd.C (Kd.int .i64) w A0 l0.length l0) (hc0 : l0.length <= c0) (hr1 : Kd.C (Kd.int .i64) w A1 l1.length l1) (hc1 : l1.length <= c1) (h : qZf.f k l0 l1 = some r) :
  Calls Tryz.prog 10 #[.slice A0 l0.length c0, .slice A1 l1.length c1] w fun e w' => e = .returned (.bool r) /\ Drawn0 w w' := by
 have kY := am hr0
 have rO := am hc0
 clear hr0 hc0
 have hU := am hr1
 have mM := am hc1
 clear hr1 hc1
 have H := h
 unfold qZf.f at H
 clear h
 by_cases c3 : (l0.length : Int) = (l1.length : Int)
 case neg =>
  rw [if_neg c3] at H
  have iA := beq_eq_false_iff_ne.mpr c3
  have iB := bne_iff_ne.mpr c3
  have iC : (l0.length == l1.length) = false := by first | simpa using c3 | (simp at c3 ⊢; omega)
  obtain rfl := Option.some.inj H
  go_enter Tryz.func10, Tryz.ntmps10
  go_wp2
  repeat (go_quiet (fail); try go_wp2)
  go_ret
  exact ⟨by first | rfl | (simp [i64_w, i32_w, qQj, qQk]; done) | (simp; done) | (simp [*]; done), dr⟩
 rw [if_pos c3] at H
 have iA := beq_iff_eq.mpr c3
 have iB := bne_eq_false_iff_eq.mpr c3
 have iC : (l0.length == l1.length) = true := by first | simpa using c3 | (simp at c3 ⊢; omega)
 clear c3
 have H' := am H
 clear H
 go_enter Tryz.func10, Tryz.ntmps10
 go_wp2
 repeat (go_quiet (fail); try go_wp2)
 go_loopg [5] k (fun kq v5 w' => ∃ (a9 : Int), v5 = .int .i64 a9 /\ Aside0 (qZf.l0 kq l0 l1 a9 = some r) /\ Aside0 (kq <= k) /\ Drawn0 w w')
 case atStart => exact ⟨(0), (by first | rfl | (simp [i64_w, i32_w, qQj, qQk]; done) | (simp; done) | (simp [*]; done)), H', ⟨Nat.le_refl _⟩, dr⟩
 case round =>
  clear H'
  try clear c1
  try clear c3
  try clear iA iB
  try clear iC
  obtain ⟨a9, rfl, HA, hD, ⟨m1, rfl⟩⟩ := hrel
  rcases gk with _ | k1
  ·exact absurd HA.out (by simp [qZf.l0])
  have H := HA.out
  clear HA
  simp only [qZf.l0] at H
  by_cases c4 : a9 < (l0.length : Int)
  case neg =>
   rw [if_neg c4] at H
   have iE := decide_eq_false c4
   clear c4
   obtain rfl := Option.some.inj H
   go_wp2
   repeat (go_quiet (fail); try go_wp2)
   go_ret
   exact ⟨by first | rfl | (simp [i64_w, i32_w, qQj, qQk]; done) | (simp; done) | (simp [*]; done), dr⟩
  rw [if_pos c4] at H
  have iE := decide_eq_true c4
  clear c4
  by_cases c5 : 0 <= a9
  case neg =>
   rw [if_neg c5] at H
   exact absurd H (by simp)
  rw [if_pos c5] at H
  have eT := decide_eq_true c5
  clear c5
  by_cases c6 : a9 < (l1.length : Int)
  case neg =>
   rw [if_neg c6] at H
   exact absurd H (by simp)
  rw [if_pos c6] at H
  have iI := decide_eq_true c6
  clear c6
  by_cases c7 : (rd l0 a9) = (rd l1 a9)
  case neg =>
   rw [if_neg c7] at H
   have eW := beq_eq_false_iff_ne.mpr c7
   have eX := bne_iff_ne.mpr c7
   obtain rfl := Option.some.inj H
   have fY : 0 <= (a9 : Int) := yd
   have gE : a9 < (l0.length : Int) := yd
   obtain ⟨nR, lE, jL⟩ := Kd.qZ7 kY.out a9 fY gE
   cases lE
   replace fY := eq_true fY
   replace gE := eq_true gE
   have fZ : 0 <= (a9 : Int) := yd
   have gF : a9 < (l1.length : Int) := yd
   obtain ⟨nS, lF, jM⟩ := Kd.qZ7 hU.out a9 fZ gF
   cases lF
   replace fZ := eq_true fZ
   replace gF := eq_true gF
   go_wp2
   repeat (go_quiet (fail); try go_wp2)
   go_ret
   exact ⟨by first | rfl | (simp [i64_w, i32_w, qQj, qQk]; done) | (simp; done) | (simp [*]; done), dr⟩
  rw [if_pos c7] at H
  have eW := beq_iff_eq.mpr c7
  have eX := bne_eq_false_iff_eq.mpr c7
  clear c7
  have H' := am H
  clear H
  have fY : 0 <= (a9 : Int) := yd
  have gE : a9 < (l0.length : Int) := yd
  obtain ⟨nR, lE, jL⟩ := Kd.qZ7 kY.out a9 fY gE
  cases lE
  replace fY := eq_true fY
  replace gE := eq_true gE
  have fZ : 0 <= (a9 : Int) := yd
  have gF : a9 < (l1.length : Int) := yd
  obtain ⟨nS, lF, jM⟩ := Kd.qZ7 hU.out a9 fZ gF
  cases lF
  replace fZ := eq_true fZ
  replace gF := eq_true gF
  go_wp2
  repeat (go_quiet (fail); try go_wp2)
  go_roundg k1
  case measure => have := hD.out; omega
  case rel => exact ⟨(wrap64 (a9 + 1)), (by first | rfl | (simp [i64_w, i32_w, qQj, qQk]; done) | (simp; done) | (simp [*]; done)), H', o1 hD, dr⟩
def qZb.l0 : Nat -> List Int -> List Int -> Int -> Option (Bool)
 | 0, _, _, _ => none
 | k + 1, x0, x1, x5 => if x5 < (x0.length : Int) then (if 0 <= x5 then (if x5 < (x1.length : Int) then (if (rd x0 x5) = (rd x1 x5) then (qZb.l0 k x0 x1 (wrap64 (x5 + 1))) else (some false)) else (none)) else (none)) else (some true)
def qZb.f (k : Nat) (l0 l1 : List Int) : Option (Bool) := if (l0.length : Int) = (l1.length : Int) then (qZb.l0 k l0 l1 0) else (some false)
set_option maxHeartbeats 8000000 in
set_option maxRecDepth 100000 in
theorem qZb.calls (k : Nat) (A0 : Option Addr) (c0 : Nat) (l0 : List Int) (A1 : Option Addr) (c1 : Nat) (l1 : List Int) (r : Bool) (w : World) (hr0 : Kd.C (Kd.int .i64) w A0 l0.length l0) (hc0 : l0.length <= c0) (hr1 : Kd.C (Kd.int .i64) w A1 l1.length l1) (hc1 : l1.length <= c1) (h : qZb.f k l0 l1 = some r) :
  Calls Tryz.prog 11 #[.slice A0 l0.length c0, .slice A1 l1.length c1] w fun e w' => e = .returned (.bool r) /\ Drawn0 w w' := by
 have kY := am hr0
 have rO := am hc0
 clear hr0 hc0
 have hU := am hr1
 have mM := am hc1
 clear hr1 hc1
 have H := h
 unfold qZb.f at H
 clear h
 by_cases c3 : (l0.length : Int) = (l1.length : Int)
 case neg =>
  rw [if_neg c3] at H
  have iA := beq_eq_false_iff_ne.mpr c3
  have iB := bne_iff_ne.mpr c3
  have iC : (l0.length == l1.length) = false := by first | simpa using c3 | (simp at c3 ⊢; omega)
  obtain rfl := Option.some.inj H
  go_enter Tryz.func11, Tryz.ntmps11
  go_wp2
  repeat (go_quiet (fail); try go_wp2)
  go_ret
  exact ⟨by first | rfl | (simp [i64_w, i32_w, qQj, qQk]; done) | (simp; done) | (simp [*]; done), dr⟩
 rw [if_pos c3] at H
 have iA := beq_iff_eq.mpr c3
 have iB := bne_eq_false_iff_eq.mpr c3
 have iC : (l0.length == l1.length) = true := by first | simpa using c3 | (simp at c3 ⊢; omega)
 clear c3
 have H' := am H
 clear H
 go_enter Tryz.func11, Tryz.ntmps11
 go_wp2
 repeat (go_quiet (fail); try go_wp2)
 go_loopg [5] k (fun kq v5 w' => ∃ (a9 : Int), v5 = .int .i64 a9 /\ Aside0 (qZb.l0 kq l0 l1 a9 = some r) /\ Aside0 (kq <= k) /\ Drawn0 w w')
 case atStart => exact ⟨(0), (by first | rfl | (simp [i64_w, i32_w, qQj, qQk]; done) | (simp; done) | (simp [*]; done)), H', ⟨Nat.le_refl _⟩, dr⟩
 case round =>
  clear H'
  try clear c1
  try clear c3
  try clear iA iB
  try clear iC
  obtain ⟨a9, rfl, HA, hD, ⟨m1, rfl⟩⟩ := hrel
  rcases gk with _ | k1
  ·exact absurd HA.out (by simp [qZb.l0])
  have H := HA.out
  clear HA
  simp only [qZb.l0] at H
  by_cases c4 : a9 < (l0.length : Int)
  case neg =>
   rw [if_neg c4] at H
   have iE := decide_eq_false c4
   clear c4
   obtain rfl := Option.some.inj H
   go_wp2
   repeat (go_quiet (fail); try go_wp2)
   go_ret
   exact ⟨by first | rfl | (simp [i64_w, i32_w, qQj, qQk]; done) | (simp; done) | (simp [*]; done), dr⟩
  rw [if_pos c4] at H
  have iE := decide_eq_true c4
  clear c4
  by_cases c5 : 0 <= a9
  case neg =>
   rw [if_neg c5] at H
   exact absurd H (by simp)
  rw [if_pos c5] at H
  have eT := decide_eq_true c5
  clear c5
  by_cases c6 : a9 < (l1.length : Int)
  case neg =>
   rw [if_neg c6] at H
   exact absurd H (by simp)
  rw [if_pos c6] at H
  have iI := decide_eq_true c6
  clear c6
  by_cases c7 : (rd l0 a9) = (rd l1 a9)
  case neg =>
   rw [if_neg c7] at H
   have eW := beq_eq_false_iff_ne.mpr c7
   have eX := bne_iff_ne.mpr c7
   obtain rfl := Option.some.inj H
   have gA : 0 <= (a9 : Int) := yd
   have gG : a9 < (l0.length : Int) := yd
   obtain ⟨nT, lG, jN⟩ := Kd.qZ7 kY.out a9 gA gG
   cases lG
   replace gA := eq_true gA
   replace gG := eq_true gG
   have gB : 0 <= (a9 : Int) := yd
   have gH : a9 < (l1.length : Int) := yd
   obtain ⟨nU, lH, jO⟩ := Kd.qZ7 hU.out a9 gB gH
   cases lH
   replace gB := eq_true gB
   replace gH := eq_true gH
   go_wp2
   repeat (go_quiet (fail); try go_wp2)
   go_ret
   exact ⟨by first | rfl | (simp [i64_w, i32_w, qQj, qQk]; done) | (simp; done) | (simp [*]; done), dr⟩
  rw [if_pos c7] at H
  have eW := beq_iff_eq.mpr c7
  have eX := bne_eq_false_iff_eq.mpr c7
  clear c7
  have H' := am H
  clear H
  have gA : 0 <= (a9 : Int) := yd
  have gG : a9 < (l0.length : Int) := yd
  obtain ⟨nT, lG, jN⟩ := Kd.qZ7 kY.out a9 gA gG
  cases lG
  replace gA := eq_true gA
  replace gG := eq_true gG
  have gB : 0 <= (a9 : Int) := yd
  have gH : a9 < (l1.length : Int) := yd
  obtain ⟨nU, lH, jO⟩ := Kd.qZ7 hU.out a9 gB gH
  cases lH
  replace gB := eq_true gB
  replace gH := eq_true gH
  go_wp2
  repeat (go_quiet (fail); try go_wp2)
  go_roundg k1
  case measure => have := hD.out; omega
  case rel => exact ⟨(wrap64 (a9 + 1)), (by first | rfl | (simp [i64_w, i32_w, qQj, qQk]; done) | (simp; done) | (simp [*]; done)), H', o1 hD, dr⟩
def qX6.f (a0 a1 a2 a3 : Int) : Option (Bool) := if a0 ≥ 0 then ((qQ3.f a0).bind fun l8 => (if l8 = true then (if a1 ≥ 0 then ((qQ3.f a1).bind fun l9 => (if l9 = true then (if a2 ≥ 0 then (if a2 <= 1000000 then (if a3 ≥ 0 then (some (decide (a3 <= 360))) else (some false)) else (some false)) else (some false)) else (some false))) else (some false)) else (some false))) else (some false)
set_option maxHeartbeats 8000000 in
set_option maxRecDepth 100000 in
theorem qX6.calls (a0 a1 a2 a3 : Int) (r : Bool) (w : World) (h : qX6.f a0 a1 a2 a3 = some r) :
  Calls Tryz.prog 66 #[.int .i64 a0, .int .i64 a1, .int .i64 a2, .int .i64 a3] w fun e w' => e = .returned (.bool r) /\ Drawn0 w w' := by
 have H := h
 unfold qX6.f at H
 clear h
 by_cases c5 : a0 ≥ 0
 case neg =>
  rw [if_neg c5] at H
  have eT : decide (0 <= a0) = false := decide_eq_false c5
  clear c5
  obtain rfl := Option.some.inj H
  go_enter Tryz.func66, Tryz.ntmps66
  go_wp2
  go_ret
  exact ⟨fr, dr⟩
 rw [if_pos c5] at H
 have eT : decide (0 <= a0) = true := decide_eq_true c5
 clear c5
 obtain ⟨l8, A6, H⟩ := bd H
 by_cases c7 : l8 = true
 case neg =>
  replace c7 := Bool.eq_false_iff.mpr c7
  subst c7
  rw [if_neg (show ¬ (false = true) by decide)] at H
  obtain rfl := Option.some.inj H
  go_enter Tryz.func66, Tryz.ntmps66
  go_wp2_with (first | (go_at_call 74; (with_reducible refine (qQ3.calls _ false _ A6.out).mono ?_); rintro e w' ⟨rfl, ⟨nd, rfl⟩⟩))
  go_ret
  exact ⟨fr, dr⟩
 subst c7
 rw [if_pos rfl] at H
 by_cases c8 : a1 ≥ 0
 case neg =>
  rw [if_neg c8] at H
  have d3 : decide (0 <= a1) = false := decide_eq_false c8
  clear c8
  obtain rfl := Option.some.inj H
  go_enter Tryz.func66, Tryz.ntmps66
  go_wp2_with (first | (go_at_call 74; (with_reducible refine (qQ3.calls _ true _ A6.out).mono ?_); rintro e w' ⟨rfl, ⟨nd, rfl⟩⟩))
  go_ret
  exact ⟨fr, dr⟩
 rw [if_pos c8] at H
 have d3 : decide (0 <= a1) = true := decide_eq_true c8
 clear c8
 obtain ⟨l9, A9, H⟩ := bd H
 by_cases hL : l9 = true
 case neg =>
  replace hL := Bool.eq_false_iff.mpr hL
  subst hL
  rw [if_neg (show ¬ (false = true) by decide)] at H
  obtain rfl := Option.some.inj H
  go_enter Tryz.func66, Tryz.ntmps66
  go_wp2_with (first | (go_at_call 74; (with_reducible refine (qQ3.calls _ true _ A6.out).mono ?_); rintro e w' ⟨rfl, ⟨nd, rfl⟩⟩) | (go_at_call 74; (with_reducible refine (qQ3.calls _ false _ A9.out).mono ?_); rintro e w' ⟨rfl, ⟨nd, rfl⟩⟩))
  go_ret
  exact ⟨fr, dr⟩
 subst hL
 rw [if_pos rfl] at H
 by_cases mN : a2 ≥ 0
 case neg =>
  rw [if_neg mN] at H
  have nV : decide (0 <= a2) = false := decide_eq_false mN
  clear mN
  obtain rfl := Option.some.inj H
  go_enter Tryz.func66, Tryz.ntmps66
  go_wp2_with (first | (go_at_call 74; (with_reducible refine (qQ3.calls _ true _ A6.out).mono ?_); rintro e w' ⟨rfl, ⟨nd, rfl⟩⟩) | (go_at_call 74; (with_reducible refine (qQ3.calls _ true _ A9.out).mono ?_); rintro e w' ⟨rfl, ⟨nd, rfl⟩⟩))
  go_ret
  exact ⟨fr, dr⟩
 rw [if_pos mN] at H
 have nV : decide (0 <= a2) = true := decide_eq_true mN
 clear mN
 by_cases hM : a2 <= 1000000
 case neg =>
  rw [if_neg hM] at H
  have nW := decide_eq_false hM
  clear hM
  obtain rfl := Option.some.inj H
  go_enter Tryz.func66, Tryz.ntmps66
  go_wp2_with (first | (go_at_call 74; (with_reducible refine (qQ3.calls _ true _ A6.out).mono ?_); rintro e w' ⟨rfl, ⟨nd, rfl⟩⟩) | (go_at_call 74; (with_reducible refine (qQ3.calls _ true _ A9.out).mono ?_); rintro e w' ⟨rfl, ⟨nd, rfl⟩⟩))
  go_ret
  exact ⟨fr, dr⟩
 rw [if_pos hM] at H
 have nW := decide_eq_true hM
 clear hM
 by_cases gS : a3 ≥ 0
 ·rw [if_pos gS] at H
  have gT : decide (0 <= a3) = true := decide_eq_true gS
  clear gS
  obtain rfl := Option.some.inj H
  go_enter Tryz.func66, Tryz.ntmps66
  go_wp2_with (first | (go_at_call 74; (with_reducible refine (qQ3.calls _ true _ A6.out).mono ?_); rintro e w' ⟨rfl, ⟨nd, rfl⟩⟩) | (go_at_call 74; (with_reducible refine (qQ3.calls _ true _ A9.out).mono ?_); rintro e w' ⟨rfl, ⟨nd, rfl⟩⟩))
  go_ret
  exact ⟨fr, dr⟩
 rw [if_neg gS] at H
 have gT : decide (0 <= a3) = false := decide_eq_false gS
 clear gS
 obtain rfl := Option.some.inj H
 go_enter Tryz.func66, Tryz.ntmps66
 go_wp2_with (first | (go_at_call 74; (with_reducible refine (qQ3.calls _ true _ A6.out).mono ?_); rintro e w' ⟨rfl, ⟨nd, rfl⟩⟩) | (go_at_call 74; (with_reducible refine (qQ3.calls _ true _ A9.out).mono ?_); rintro e w' ⟨rfl, ⟨nd, rfl⟩⟩))
 go_ret
 exact ⟨fr, dr⟩
def qX1.f (k : Nat) (a0 a1 a2 : Int) : Option (Int × Int) := (qQx.f k a0 a2 12000000 1).bind fun h5 => (if h5.2 = 0 then ((qZ9.f a0 h5.1).bind fun h6 => (if h6.2 = 0 then (some (mx (wrap64 (h6.1 - a1)) 0, 0)) else (some (0, h6.2)))) else (some (0, h5.2)))
set_option maxHeartbeats 8000000 in
set_option maxRecDepth 100000 in
theorem qX1.calls (k : Nat) (a0 a1 a2 r1 r2 : Int) (w : World) (h : qX1.f k a0 a1 a2 = some (r1, r2)) :
  Calls Tryz.prog 91 #[.int .i64 a0, .int .i64 a1, .int .i64 a2] w fun e w' => e = .returned (.tuple #[.int .i64 r1, .int .i64 r2]) /\ Below w.heap.size w w' := by
 have HB := am (Below.refl w.heap.size w)
 have H := h
 unfold qX1.f at H
 clear h
 obtain ⟨⟨mA, jX⟩, A4, H⟩ := bd H
 by_cases c5 : jX = 0
 case neg =>
  rw [if_neg c5] at H
  have eT := beq_eq_false_iff_ne.mpr c5
  have jD := bne_iff_ne.mpr c5
  simp only [Option.some.injEq, Prod.mk.injEq] at H
  obtain ⟨rfl, rfl⟩ := H
  go_enter Tryz.func91, Tryz.ntmps91
  go_wp2_with (first | ((with_reducible refine gf 79 ?_); refine gC (some 13) Tryz.func79 (qQx.calls _ _ _ _ _ mA jX _ A4.out) ?_; rintro e w' ⟨rfl, ⟨nd, rfl⟩⟩; refine ⟨_, rfl, ?_⟩))
  go_ret2
  exact ⟨er, by exact h0q HB.out⟩
 rw [if_pos c5] at H
 have eT := beq_iff_eq.mpr c5
 have jD := bne_eq_false_iff_eq.mpr c5
 clear c5
 obtain ⟨⟨i7, mB⟩, A6, H⟩ := bd H
 by_cases c7 : mB = 0
 case neg =>
  rw [if_neg c7] at H
  have eW := beq_eq_false_iff_ne.mpr c7
  have eX := bne_iff_ne.mpr c7
  simp only [Option.some.injEq, Prod.mk.injEq] at H
  obtain ⟨rfl, rfl⟩ := H
  go_enter Tryz.func91, Tryz.ntmps91
  go_wp2_with (first | ((with_reducible refine gf 79 ?_); refine gC (some 13) Tryz.func79 (qQx.calls _ _ _ _ _ mA jX _ A4.out) ?_; rintro e w' ⟨rfl, ⟨nd, rfl⟩⟩; refine ⟨_, rfl, ?_⟩) | ((with_reducible refine gf 110 ?_); refine gC (some 22) Tryz.func110 (qZ9.calls _ _ i7 mB _ A6.out) ?_; rintro e tY ⟨rfl, hb⟩; refine ⟨_, rfl, ?_⟩; replace HB := s0 HB hb; (try clear hb); (try clear hb2); (try clear hk); (try clear hi)))
  go_ret2
  exact ⟨er, by exact h0q HB.out⟩
 rw [if_pos c7] at H
 have eW := beq_iff_eq.mpr c7
 have eX := bne_eq_false_iff_eq.mpr c7
 clear c7
 obtain ⟨p3, fW⟩ : ∃ j_ : Int, (mx (wrap64 (i7 - a1)) 0) = j_ := ⟨_, rfl⟩
 replace H : (some (p3, 0)) = some (r1, r2) := by first | (rw [fW] at H; exact H) | (simp only [fW] at H ⊢; exact H)
 (try rw [fW] at A4)
 (try rw [fW] at A6)
 (try (have hji8l : 0 <= p3 := by (rw [<- fW]; unfold mx; (repeat' split) <;> omega)))
 (try (have hji8m : 0 <= p3 := by omega))
 have hji8_ : (if (wrap64 (i7 - a1)) < 0 then 0 else (wrap64 (i7 - a1))) = p3 := fW
 simp only [Option.some.injEq, Prod.mk.injEq] at H
 obtain ⟨rfl, rfl⟩ := H
 go_enter Tryz.func91, Tryz.ntmps91
 go_wp2_with (first | ((with_reducible refine gf 79 ?_); refine gC (some 13) Tryz.func79 (qQx.calls _ _ _ _ _ mA jX _ A4.out) ?_; rintro e w' ⟨rfl, ⟨nd, rfl⟩⟩; refine ⟨_, rfl, ?_⟩) | ((with_reducible refine gf 110 ?_); refine gC (some 22) Tryz.func110 (qZ9.calls _ _ i7 mB _ A6.out) ?_; rintro e w9 ⟨rfl, hb⟩; refine ⟨_, rfl, ?_⟩; replace HB := s0 HB hb; (try clear hb); (try clear hb2); (try clear hk); (try clear hi)))
 go_ret2
 exact ⟨by first | rfl | (simp [qQj, qQk] <;> rfl) | (simp only [<- fW]; first | rfl | (simp [qQj, qQk] <;> rfl)) | (simp [*, qQj, qQk] <;> rfl), by exact h0q HB.out⟩
def qY2.l0 : Nat -> Int -> Int -> Int -> Int -> Int -> Option (Int × Int)
 | 0, _, _, _, _, _ => none
 | k + 1, x0, x1, x2, pD, j3 => if j3 < pD then ((qX1.f k x0 x1 x2).bind fun h7 => (if h7.2 = 0 then (qY2.l0 k h7.1 x1 x2 pD (wrap64 (j3 + 1))) else (some (0, h7.2)))) else (some (x0, 0))
def qY2.f (k : Nat) (a0 a1 a2 a3 : Int) : Option (Int × Int) := qY2.l0 k a0 a1 a2 a3 0
set_option maxHeartbeats 8000000 in
set_option maxRecDepth 100000 in
theorem qY2.calls (k : Nat) (a0 a1 a2 a3 r1 r2 : Int) (w : World) (h : qY2.f k a0 a1 a2 a3 = some (r1, r2)) :
  Calls Tryz.prog 68 #[.int .i64 a0, .int .i64 a1, .int .i64 a2, .int .i64 a3] w fun e w' => e = .returned (.tuple #[.int .i64 r1, .int .i64 r2]) /\ Below w.heap.size w w' := by
 have HB := am (Below.refl w.heap.size w)
 have H := h
 unfold qY2.f at H
 clear h
 have H' := am H
 clear H
 go_enter Tryz.func68, Tryz.ntmps68
 go_wp2
 go_loopg [0, 12] k (fun kq v0 u2 w' => ∃ (mI : Int) (fN : Int), v0 = .int .i64 mI /\ u2 = .int .i64 fN /\ Aside0 (qY2.l0 kq mI a1 a2 a3 fN = some (r1, r2)) /\ Aside0 (kq <= k) /\ Aside0 (Below w.heap.size w w'))
 case atStart => exact ⟨(a0), (0), fr, fr, H', ⟨Nat.le_refl _⟩, a0_ HB⟩
 case round =>
  clear H'
  obtain ⟨mI, fN, rfl, rfl, HA, hD, HB⟩ := hrel
  rcases gk with _ | k1
  ·exact absurd HA.out (by simp [qY2.l0])
  have H := HA.out
  clear HA
  simp only [qY2.l0] at H
  by_cases c5 : fN < a3
  case neg =>
   rw [if_neg c5] at H
   have eT := decide_eq_false c5
   clear c5
   simp only [Option.some.injEq, Prod.mk.injEq] at H
   obtain ⟨rfl, rfl⟩ := H
   go_wp2
   go_ret2
   exact ⟨er, by exact h0q HB.out⟩
  rw [if_pos c5] at H
  have eT := decide_eq_true c5
  clear c5
  obtain ⟨⟨mC, mD⟩, A6, H⟩ := bd H
  by_cases c7 : mD = 0
  case neg =>
   rw [if_neg c7] at H
   have eW := beq_eq_false_iff_ne.mpr c7
   have eX := bne_iff_ne.mpr c7
   simp only [Option.some.injEq, Prod.mk.injEq] at H
   obtain ⟨rfl, rfl⟩ := H
   go_wp2_with (first | ((with_reducible refine gf 91 ?_); refine gC (some 18) Tryz.func91 (qX1.calls _ _ _ _ mC mD _ A6.out) ?_; rintro e w9 ⟨rfl, hb⟩; refine ⟨_, rfl, ?_⟩; replace HB := s0 HB hb; (try clear hb); (try clear hb2); (try clear hk); (try clear hi)))
   go_ret2
   exact ⟨er, by exact h0q HB.out⟩
  rw [if_pos c7] at H
  have eW := beq_iff_eq.mpr c7
  have eX := bne_eq_false_iff_eq.mpr c7
  clear c7
  have H' := am H
  clear H
  go_wp2_with (first | ((with_reducible refine gf 91 ?_); refine gC (some 18) Tryz.func91 (qX1.calls _ _ _ _ mC mD _ A6.out) ?_; rintro e w8 ⟨rfl, hb⟩; refine ⟨_, rfl, ?_⟩; replace HB := s0 HB hb; (try clear hb); (try clear hb2); (try clear hk); (try clear hi)))
  go_roundg k1
  case measure => have := hD.out; omega
  case rel => exact ⟨(mC), (wrap64 (fN + 1)), fr, fr, H', o1 hD, a0_ HB⟩
-- NOT PRINTED: function 67 (level_Of_1)
def qZu.en (k : Nat) (a0 a1 a2 pay : Int) : Option (Bool) := (qY2.f k a0 pay a1 a2).bind fun r => if r.2 = 0 then some (r.1 == 0) else some false
def qZu.l0 : Nat -> Int -> Int -> Int -> Int -> Int -> Option (Int × Int)
 | 0, _, _, _, _, _ => none
 | k + 1, x0, x1, x2, x9, eS => if x9 < eS then ((qZu.en k x0 x1 x2 (wrap64 (Int.tdiv (wrap64 (x9 + eS)) 2))).bind fun t => (if t = true then (qZu.l0 k x0 x1 x2 x9 (wrap64 (Int.tdiv (wrap64 (x9 + eS)) 2))) else (qZu.l0 k x0 x1 x2 (wrap64 ((wrap64 (Int.tdiv (wrap64 (x9 + eS)) 2)) + 1)) eS))) else (some (x9, 0))
def qZu.f (k : Nat) (a0 a1 a2 : Int) : Option (Int × Int) := (qX6.f a0 0 a1 a2).bind fun m => if m = true then (if a2 < 1 then (some (0, 1)) else ((qZu.en k a0 a1 a2 10000000000000).bind fun t => (if t = true then (qZu.l0 k a0 a1 a2 0 10000000000000) else (some (0, 14))))) else (some (0, 1))
set_option maxHeartbeats 8000000 in
set_option maxRecDepth 100000 in
theorem qZu.enough (k : Nat) (a0 a1 a2 pay : Int) (g : Nat) (r : Bool) (w : World) (h : qZu.en k a0 a1 a2 pay = some r)
  (h1 : w.heap[g]? = some (.cells #[.int .i64 a0] 2 (0, 0))) (h2 : w.heap[g + 1]? = some (.cells #[.int .i64 a1] 3 (0, 0))) (h3 : w.heap[g + 2]? = some (.cells #[.int .i64 a2] 3 (0, 0))) :
  Calls Tryz.prog 67 #[.int .i64 pay, .pointer (some ⟨g, 0, none⟩), .pointer (some ⟨g + 1, 0, none⟩), .pointer (some ⟨g + 2, 0, none⟩)] w fun e w' => e = .returned (.bool r) /\ Below w.heap.size w w' := by
 unfold qZu.en at h
 obtain ⟨⟨x, e⟩, hl, h⟩ := Option.bind_eq_some_iff.mp h
 have A := am hl
 clear hl
 have c1 : w.cell? ⟨g, 0, none⟩ = some (.int .i64 a0) := (qQa h1 0).trans rfl
 have c2 : w.cell? ⟨g + 1, 0, none⟩ = some (.int .i64 a1) := (qQa h2 0).trans rfl
 have c3 : w.cell? ⟨g + 2, 0, none⟩ = some (.int .i64 a2) := (qQa h3 0).trans rfl
 have f1 := qQd h1 0
 have f2 := qQd h2 0
 have f3 := qQd h3 0
 clear h1 h2 h3
 simp only at h
 by_cases c : e = 0
 ·rw [if_pos c] at h
  subst c
  obtain rfl := Option.some.inj h
  clear h
  go_enter Tryz.func67, Tryz.ntmps67
  go_wp2_with (go_at_call 68; (with_reducible refine (qY2.calls k a0 pay a1 a2 x 0 _ A.out).mono ?_); rintro e w1 ⟨rfl, hb⟩)
  go_ret
  exact ⟨by first | rfl | (simp; done), hb⟩
 ·rw [if_neg c] at h
  have c4 : (e == 0) = false := beq_eq_false_iff_ne.mpr c
  obtain rfl := Option.some.inj h
  clear h
  go_enter Tryz.func67, Tryz.ntmps67
  go_wp2_with (go_at_call 68; (with_reducible refine (qY2.calls k a0 pay a1 a2 x e _ A.out).mono ?_); rintro e w1 ⟨rfl, hb⟩)
  go_ret
  exact ⟨by first | rfl | (simp; done), hb⟩
theorem qZu.kept {w w' : World} {i : Nat} {o : Obj} (hb : Below w.heap.size w w') (h : w.heap[i]? = some o) : w'.heap[i]? = some o :=
 (hb.block i (qXq h)).trans h
set_option maxHeartbeats 8000000 in
set_option maxRecDepth 100000 in
theorem qZu.calls (k : Nat) (a0 a1 a2 r1 r2 : Int) (w : World) (h : qZu.f k a0 a1 a2 = some (r1, r2)) :
  Calls Tryz.prog 44 #[.int .i64 a0, .int .i64 a1, .int .i64 a2] w fun e w' => e = .returned (.tuple #[.int .i64 r1, .int .i64 r2]) /\ Below w.heap.size w w' := by
 unfold qZu.f at h
 obtain ⟨m, hm, h⟩ := Option.bind_eq_some_iff.mp h
 have M := am hm
 have H := am h
 clear hm h
 have hmf : ∀ (fn : Fn) (first cap : Array Value) (w : World), (Instr.makeFunc fn first cap).run Tryz.prog w = .ok (.func fn first cap) w := fun _ _ _ _ => rfl
 go_enter Tryz.func44, Tryz.ntmps44
 go_upto_region 1 with (fail)
 obtain ⟨W, hW⟩ : ∃ W, W = ((w.alloc (Obj.cells #[.int .i64 a0] 2)).alloc (Obj.cells #[.int .i64 a1] 3)).alloc (Obj.cells #[.int .i64 a2] 3) := ⟨_, rfl⟩
 have B0 : Aside0 (W.heap[w.heap.size]? = some (.cells #[.int .i64 a0] 2 (0, 0))) := ⟨by rw [hW]; exact qYq (qYq (qXs w _) _) _⟩
 have B1 : Aside0 (W.heap[w.heap.size + 1]? = some (.cells #[.int .i64 a1] 3 (0, 0))) := ⟨by
  have := qYq (qXs (w.alloc (Obj.cells #[.int .i64 a0] 2)) (Obj.cells #[.int .i64 a1] 3)) (Obj.cells #[.int .i64 a2] 3)
  rw [hW]; simpa using this⟩
 have B2 : Aside0 (W.heap[w.heap.size + 2]? = some (.cells #[.int .i64 a2] 3 (0, 0))) := ⟨by
  have := qXs ((w.alloc (Obj.cells #[.int .i64 a0] 2)).alloc (Obj.cells #[.int .i64 a1] 3)) (Obj.cells #[.int .i64 a2] 3)
  rw [hW]; simpa using this⟩
 have HB : Aside0 (Below w.heap.size w W) := ⟨by rw [hW]; exact (((Below.refl _ _).alloc (Nat.le_refl _) _).alloc (by simp) _).alloc (by simp; omega) _⟩
 rw [<- hW]
 clear hW h
 rw [show w.heap.size + 1 + 1 = w.heap.size + 2 from rfl]
 have c0 : W.cell? ⟨w.heap.size, 0, none⟩ = some (.int .i64 a0) := (qQa B0.out 0).trans rfl
 have c1 : W.cell? ⟨w.heap.size + 1, 0, none⟩ = some (.int .i64 a1) := (qQa B1.out 0).trans rfl
 have c2 : W.cell? ⟨w.heap.size + 2, 0, none⟩ = some (.int .i64 a2) := (qQa B2.out 0).trans rfl
 have f0 := qQd B0.out 0
 have f1 := qQd B1.out 0
 have f2 := qQd B2.out 0
 cases m with
 | false =>
  have h := H.out
  rw [if_neg (show ¬ (false = true) by decide)] at h
  simp only [Option.some.injEq, Prod.mk.injEq] at h
  obtain ⟨rfl, rfl⟩ := h
  clear H
  go_wp2_with (go_at_call 66; (with_reducible refine (qX6.calls a0 0 a1 a2 false _ M.out).mono ?_); rintro e w' ⟨rfl, ⟨nd, rfl⟩⟩)
  go_ret2
  exact ⟨rfl, qQr HB.out _⟩
 | true =>
  have h := H.out
  rw [if_pos rfl] at h
  by_cases c : a2 < 1
  ·rw [if_pos c] at h
   have c' : decide (a2 < 1) = true := decide_eq_true c
   simp only [Option.some.injEq, Prod.mk.injEq] at h
   obtain ⟨rfl, rfl⟩ := h
   clear H c
   go_wp2_with (go_at_call 66; (with_reducible refine (qX6.calls a0 0 a1 a2 true _ M.out).mono ?_); rintro e w' ⟨rfl, ⟨nd, rfl⟩⟩)
   go_ret2
   exact ⟨rfl, qQr HB.out _⟩
  ·rw [if_neg c] at h
   have c' : decide (a2 < 1) = false := decide_eq_false c
   obtain ⟨t, A0, h⟩ := Option.bind_eq_some_iff.mp h
   have A := am A0
   have H1 := am h
   clear H c A0 h
   cases t with
   | false =>
    have h := H1.out
    rw [if_neg (show ¬ (false = true) by decide)] at h
    simp only [Option.some.injEq, Prod.mk.injEq] at h
    obtain ⟨rfl, rfl⟩ := h
    clear H1
    go_wp2_with (first | (go_at_call 66; (with_reducible refine (qX6.calls a0 0 a1 a2 true _ M.out).mono ?_); rintro e w' ⟨rfl, ⟨nd, rfl⟩⟩) | (go_at_call 67; (with_reducible refine (qZu.enough k a0 a1 a2 10000000000000 w.heap.size false _ A.out (qZ4 B0.out _) (qZ4 B1.out _) (qZ4 B2.out _)).mono ?_); rintro e w1 ⟨rfl, hb⟩))
    go_ret2
    exact ⟨rfl, qQo (qQr HB.out _) hb⟩
   | true =>
    have h := H1.out
    rw [if_pos rfl] at h
    have H2 := am h
    clear H1 h
    go_wp2_with (first | (go_at_call 66; (with_reducible refine (qX6.calls a0 0 a1 a2 true _ M.out).mono ?_); rintro e w' ⟨rfl, ⟨nd, rfl⟩⟩) | (go_at_call 67; (with_reducible refine (qZu.enough k a0 a1 a2 10000000000000 w.heap.size true _ A.out (qZ4 B0.out _) (qZ4 B1.out _) (qZ4 B2.out _)).mono ?_); rintro e w1 ⟨rfl, hb⟩))
    have C0 : Aside0 (w1.heap[w.heap.size]? = some (.cells #[.int .i64 a0] 2 (0, 0))) := ⟨qZu.kept hb (qZ4 B0.out _)⟩
    have C1 : Aside0 (w1.heap[w.heap.size + 1]? = some (.cells #[.int .i64 a1] 3 (0, 0))) := ⟨qZu.kept hb (qZ4 B1.out _)⟩
    have C2 : Aside0 (w1.heap[w.heap.size + 2]? = some (.cells #[.int .i64 a2] 3 (0, 0))) := ⟨qZu.kept hb (qZ4 B2.out _)⟩
    have HC : Aside0 (Below w.heap.size w w1) := ⟨qQo (qQr HB.out _) hb⟩
    clear hb f0 f1 f2 c0 c1 c2 B0 B1 B2 HB A M c'
    go_loopg [9, 10] k (fun kq v9 q5 wr => ∃ (x9 eS : Int), v9 = .int .i64 x9 /\ q5 = .int .i64 eS /\ Aside0 (qZu.l0 kq a0 a1 a2 x9 eS = some (r1, r2)) /\ Aside0 (kq <= k) /\ Aside0 (wr.heap[w.heap.size]? = some (.cells #[.int .i64 a0] 2 (0, 0))) /\ Aside0 (wr.heap[w.heap.size + 1]? = some (.cells #[.int .i64 a1] 3 (0, 0))) /\ Aside0 (wr.heap[w.heap.size + 2]? = some (.cells #[.int .i64 a2] 3 (0, 0))) /\ Aside0 (Below w.heap.size w wr))
    case atStart => exact ⟨0, 10000000000000, rfl, rfl, H2, ⟨Nat.le_refl _⟩, C0, C1, C2, HC⟩
    case round =>
     clear C0 C1 C2 HC H2
     obtain ⟨x9, eS, rfl, rfl, HA, HK, B0, B1, B2, HB⟩ := hrel
     rcases gk with _ | kq
     ·exact absurd HA.out (by simp [qZu.l0])
     have h := HA.out
     simp only [qZu.l0] at h
     clear HA
     by_cases cc : x9 < eS
     case neg =>
      rw [if_neg cc] at h
      have cc' : decide (x9 < eS) = false := decide_eq_false cc
      simp only [Option.some.injEq, Prod.mk.injEq] at h
      obtain ⟨rfl, rfl⟩ := h
      clear cc
      go_wp2
      go_ret2
      exact ⟨rfl, HB.out⟩
     rw [if_pos cc] at h
     have cc' : decide (x9 < eS) = true := decide_eq_true cc
     obtain ⟨t, A0, h⟩ := Option.bind_eq_some_iff.mp h
     have A := am A0
     clear cc A0
     cases t with
     | true =>
      rw [if_pos rfl] at h
      have HN := am h
      clear h
      go_wp2_with (go_at_call 67; (with_reducible refine (qZu.enough kq a0 a1 a2 _ w.heap.size true _ A.out B0.out B1.out B2.out).mono ?_); rintro e w2 ⟨rfl, hb⟩)
      go_roundg kq
      case measure => have := HK.out; omega
      case rel => exact ⟨_, _, rfl, rfl, HN, o1 HK, ⟨qZu.kept hb B0.out⟩, ⟨qZu.kept hb B1.out⟩, ⟨qZu.kept hb B2.out⟩, ⟨qQo HB.out hb⟩⟩
     | false =>
      rw [if_neg (show ¬ (false = true) by decide)] at h
      have HN := am h
      clear h
      go_wp2_with (go_at_call 67; (with_reducible refine (qZu.enough kq a0 a1 a2 _ w.heap.size false _ A.out B0.out B1.out B2.out).mono ?_); rintro e w2 ⟨rfl, hb⟩)
      go_roundg kq
      case measure => have := HK.out; omega
      case rel => exact ⟨_, _, rfl, rfl, HN, o1 HK, ⟨qZu.kept hb B0.out⟩, ⟨qZu.kept hb B1.out⟩, ⟨qZu.kept hb B2.out⟩, ⟨qQo HB.out hb⟩⟩
def qVd.f (k : Nat) (bH e9 hE hF hG fA : Int) (hH : Bool) (hI fB hJ gQ gR eU : Int) : Option (Int × Int × Int × Int × Int × Int × Bool × Int × Int × Int × Int × Int × Int × Int) := (qQt.f k bH e9 hE hF hG fA hH hI fB hJ gQ gR eU).bind fun mE => (if mE = true then (if fB = 0 then ((qZu.f k e9 fA 120).bind fun h8 => (if h8.2 = 0 then ((qZu.f k e9 fA 300).bind fun h9 => (if h9.2 = 0 then (some (bH, e9, hE, hF, hG, fA, hH, hI, fB, hJ, h8.1, h9.1, eU, 0)) else (some (0, 0, 0, 0, 0, 0, false, 0, 0, 0, 0, 0, 0, h9.2)))) else (some (0, 0, 0, 0, 0, 0, false, 0, 0, 0, 0, 0, 0, h8.2)))) else (some (0, 0, 0, 0, 0, 0, false, 0, 0, 0, 0, 0, 0, 61))) else (some (0, 0, 0, 0, 0, 0, false, 0, 0, 0, 0, 0, 0, 1)))
set_option maxHeartbeats 8000000 in
set_option maxRecDepth 100000 in
theorem qVd.calls (k : Nat) (bH e9 hE hF hG fA : Int) (hH : Bool) (hI fB hJ gQ gR eU r1 r2 r3 r4 r5 r6 : Int) (r7 : Bool) (r8 r9 tS tT tU tV tW : Int) (w : World) (h : qVd.f k bH e9 hE hF hG fA hH hI fB hJ gQ gR eU = some (r1, r2, r3, r4, r5, r6, r7, r8, r9, tS, tT, tU, tV, tW)) :
  Calls Tryz.prog 17 #[.agg #[.int .i64 bH, .int .i64 e9, .int .i64 hE, .int .i64 hF, .int .i64 hG, .int .i64 fA, .bool hH, .int .i64 hI, .int .i64 fB, .int .i64 hJ, .int .i64 gQ, .int .i64 gR, .int .i64 eU]] w fun e w' => e = .returned (.tuple #[.agg #[.int .i64 r1, .int .i64 r2, .int .i64 r3, .int .i64 r4, .int .i64 r5, .int .i64 r6, .bool r7, .int .i64 r8, .int .i64 r9, .int .i64 tS, .int .i64 tT, .int .i64 tU, .int .i64 tV], .int .i64 tW]) /\ Below w.heap.size w w' := by
 have oV := Tryz.underlying48
 have HB := am (Below.refl w.heap.size w)
 have H := h
 unfold qVd.f at H
 clear h
 obtain ⟨mE, A2, H⟩ := bd H
 by_cases c3 : mE = true
 case neg =>
  replace c3 := Bool.eq_false_iff.mpr c3
  subst c3
  rw [if_neg (show ¬ (false = true) by decide)] at H
  simp only [Option.some.injEq, Prod.mk.injEq] at H
  obtain ⟨rfl, rfl, rfl, rfl, rfl, rfl, rfl, rfl, rfl, rfl, rfl, rfl, rfl, rfl⟩ := H
  go_enter Tryz.func17, Tryz.ntmps17
  go_wp2_with (first | ((with_reducible refine gd 1 ?_); refine bE 1 _ 48 ?_; intro gX hg v3 hbox hb; have aM := am hbox; have gJ := e0 HB hg; have a4 := e0 HB hg; replace HB := s0 HB hb; clear hb hbox hg) | ((with_reducible refine gd 2 ?_); refine bE 2 _ 48 ?_; intro dM hg v4 hbox hb; have aZ := am hbox; have gK := e1 HB a4 hg; have bT := e1 HB a4 hg; replace HB := s1 HB a4 hb; have bO := nL aM hg; have bN := nG aM hg; replace aM := bB aM hb; clear hb hbox hg; have sQ := bO.out; have tG := bN.out; have uW := lc13 aM.out) | ((with_reducible refine gf 26 ?_); refine gC (some 9) Tryz.func26 (qQt.calls _ _ _ _ _ _ _ _ _ _ _ _ _ _ false _ A2.out) ?_; rintro e p5 ⟨rfl, hb⟩; refine ⟨_, rfl, ?_⟩; replace aM := bB aM hb; replace aZ := bB aZ hb; replace HB := s2 HB a4 bT hb; (try clear hb); (try clear hb2); (try clear hk); (try clear hi); have uX := lc13 aZ.out))
  refine bodyPost_ret (qY4 rfl _ _ dM 48 #[.int .i64 0, .int .i64 0, .int .i64 0, .int .i64 0, .int .i64 0, .int .i64 0, .bool false, .int .i64 0, .int .i64 0, .int .i64 0, .int .i64 0, .int .i64 0, .int .i64 0] (0, 0) _ rfl (by refine bw ?_; apply qY6; refine bw ?_; exact aZ.out) Tryz.underlying48 rfl (by kernel_rfl)) rfl ?_
  exact ⟨er, by exact h2q HB.out a4.out bT.out⟩
 subst c3
 rw [if_pos rfl] at H
 by_cases c4 : fB = 0
 case neg =>
  rw [if_neg c4] at H
  have iE := beq_eq_false_iff_ne.mpr c4
  have qA := bne_iff_ne.mpr c4
  simp only [Option.some.injEq, Prod.mk.injEq] at H
  obtain ⟨rfl, rfl, rfl, rfl, rfl, rfl, rfl, rfl, rfl, rfl, rfl, rfl, rfl, rfl⟩ := H
  go_enter Tryz.func17, Tryz.ntmps17
  go_wp2_with (first | ((with_reducible refine gd 1 ?_); refine bE 1 _ 48 ?_; intro gX hg t0 hbox hb; have aM := am hbox; have gJ := e0 HB hg; have a4 := e0 HB hg; replace HB := s0 HB hb; clear hb hbox hg) | ((with_reducible refine gd 2 ?_); refine bE 2 _ 48 ?_; intro dM hg vR hbox hb; have aZ := am hbox; have gK := e1 HB a4 hg; have bT := e1 HB a4 hg; replace HB := s1 HB a4 hb; have bO := nL aM hg; have bN := nG aM hg; replace aM := bB aM hb; clear hb hbox hg; have oR := bO.out; have oT := bN.out; have uS := lc13 aM.out) | ((with_reducible refine gf 26 ?_); refine gC (some 9) Tryz.func26 (qQt.calls _ _ _ _ _ _ _ _ _ _ _ _ _ _ true _ A2.out) ?_; rintro e vS ⟨rfl, hb⟩; refine ⟨_, rfl, ?_⟩; replace aM := bB aM hb; replace aZ := bB aZ hb; replace HB := s2 HB a4 bT hb; (try clear hb); (try clear hb2); (try clear hk); (try clear hi); have uT := lc13 aM.out; have uU := lc13 aZ.out))
  refine bodyPost_ret (qY4 rfl _ _ dM 48 #[.int .i64 0, .int .i64 0, .int .i64 0, .int .i64 0, .int .i64 0, .int .i64 0, .bool false, .int .i64 0, .int .i64 0, .int .i64 0, .int .i64 0, .int .i64 0, .int .i64 0] (0, 0) _ rfl (by refine bw ?_; apply qY6; refine bw ?_; exact aZ.out) Tryz.underlying48 rfl (by kernel_rfl)) rfl ?_
  exact ⟨er, by exact h2q HB.out a4.out bT.out⟩
 rw [if_pos c4] at H
 have iE := beq_iff_eq.mpr c4
 have qA := bne_eq_false_iff_eq.mpr c4
 clear c4
 obtain ⟨⟨jY, jZ⟩, A5, H⟩ := bd H
 by_cases c6 : jZ = 0
 case neg =>
  rw [if_neg c6] at H
  have iI := beq_eq_false_iff_ne.mpr c6
  have k7 := bne_iff_ne.mpr c6
  simp only [Option.some.injEq, Prod.mk.injEq] at H
  obtain ⟨rfl, rfl, rfl, rfl, rfl, rfl, rfl, rfl, rfl, rfl, rfl, rfl, rfl, rfl⟩ := H
  go_enter Tryz.func17, Tryz.ntmps17
  go_wp2_with (first | ((with_reducible refine gd 1 ?_); refine bE 1 _ 48 ?_; intro gX hg q9 hbox hb; have aM := am hbox; have gJ := e0 HB hg; have a4 := e0 HB hg; replace HB := s0 HB hb; clear hb hbox hg) | ((with_reducible refine gd 2 ?_); refine bE 2 _ 48 ?_; intro dM hg mX hbox hb; have aZ := am hbox; have gK := e1 HB a4 hg; have bT := e1 HB a4 hg; replace HB := s1 HB a4 hb; have bO := nL aM hg; have bN := nG aM hg; replace aM := bB aM hb; clear hb hbox hg; have kR := bO.out; have kS := bN.out; have jP := lc13 aM.out) | ((with_reducible refine gf 26 ?_); refine gC (some 9) Tryz.func26 (qQt.calls _ _ _ _ _ _ _ _ _ _ _ _ _ _ true _ A2.out) ?_; rintro e j1 ⟨rfl, hb⟩; refine ⟨_, rfl, ?_⟩; replace aM := bB aM hb; replace aZ := bB aZ hb; replace HB := s2 HB a4 bT hb; (try clear hb); (try clear hb2); (try clear hk); (try clear hi); have jQ := lc13 aM.out) | ((with_reducible refine gf 44 ?_); refine gC (some 22) Tryz.func44 (qZu.calls _ _ _ _ jY jZ _ A5.out) ?_; rintro e vQ ⟨rfl, hb⟩; refine ⟨_, rfl, ?_⟩; replace aM := bB aM hb; replace aZ := bB aZ hb; replace HB := s2 HB a4 bT hb; (try clear hb); (try clear hb2); (try clear hk); (try clear hi); have lO := lc13 aZ.out))
  refine bodyPost_ret (qY4 rfl _ _ dM 48 #[.int .i64 0, .int .i64 0, .int .i64 0, .int .i64 0, .int .i64 0, .int .i64 0, .bool false, .int .i64 0, .int .i64 0, .int .i64 0, .int .i64 0, .int .i64 0, .int .i64 0] (0, 0) _ rfl (by refine bw ?_; apply qY6; refine bw ?_; exact aZ.out) Tryz.underlying48 rfl (by kernel_rfl)) rfl ?_
  exact ⟨er, by exact h2q HB.out a4.out bT.out⟩
 rw [if_pos c6] at H
 have iI := beq_iff_eq.mpr c6
 have k7 := bne_eq_false_iff_eq.mpr c6
 clear c6
 obtain ⟨⟨mF, mG⟩, A7, H⟩ := bd H
 by_cases c8 : mG = 0
 case neg =>
  rw [if_neg c8] at H
  have d3 := beq_eq_false_iff_ne.mpr c8
  have hN := bne_iff_ne.mpr c8
  simp only [Option.some.injEq, Prod.mk.injEq] at H
  obtain ⟨rfl, rfl, rfl, rfl, rfl, rfl, rfl, rfl, rfl, rfl, rfl, rfl, rfl, rfl⟩ := H
  go_enter Tryz.func17, Tryz.ntmps17
  go_wp2_with (first | ((with_reducible refine gd 1 ?_); refine bE 1 _ 48 ?_; intro gX hg p4 hbox hb; have aM := am hbox; have gJ := e0 HB hg; have a4 := e0 HB hg; replace HB := s0 HB hb; clear hb hbox hg) | ((with_reducible refine gd 2 ?_); refine bE 2 _ 48 ?_; intro dM hg vZ hbox hb; have aZ := am hbox; have gK := e1 HB a4 hg; have bT := e1 HB a4 hg; replace HB := s1 HB a4 hb; have bO := nL aM hg; have bN := nG aM hg; replace aM := bB aM hb; clear hb hbox hg; have sL := bO.out; have tB := bN.out; have uP := lc13 aM.out) | ((with_reducible refine gf 26 ?_); refine gC (some 9) Tryz.func26 (qQt.calls _ _ _ _ _ _ _ _ _ _ _ _ _ _ true _ A2.out) ?_; rintro e v1 ⟨rfl, hb⟩; refine ⟨_, rfl, ?_⟩; replace aM := bB aM hb; replace aZ := bB aZ hb; replace HB := s2 HB a4 bT hb; (try clear hb); (try clear hb2); (try clear hk); (try clear hi); have qW := lc13 aM.out) | ((with_reducible refine gf 44 ?_); refine gC (some 22) Tryz.func44 (qZu.calls _ _ _ _ jY jZ _ A5.out) ?_; rintro e kT ⟨rfl, hb⟩; refine ⟨_, rfl, ?_⟩; replace aM := bB aM hb; replace aZ := bB aZ hb; replace HB := s2 HB a4 bT hb; (try clear hb); (try clear hb2); (try clear hk); (try clear hi); have qX := lc13 aM.out) | ((with_reducible refine gf 44 ?_); refine gC (some 34) Tryz.func44 (qZu.calls _ _ _ _ mF mG _ A7.out) ?_; rintro e v2 ⟨rfl, hb⟩; refine ⟨_, rfl, ?_⟩; replace aM := bB aM hb; replace aZ := bB aZ hb; replace HB := s2 HB a4 bT hb; (try clear hb); (try clear hb2); (try clear hk); (try clear hi); have uQ := lc13 aZ.out))
  refine bodyPost_ret (qY4 rfl _ _ dM 48 #[.int .i64 0, .int .i64 0, .int .i64 0, .int .i64 0, .int .i64 0, .int .i64 0, .bool false, .int .i64 0, .int .i64 0, .int .i64 0, .int .i64 0, .int .i64 0, .int .i64 0] (0, 0) _ rfl (by refine bw ?_; apply qY6; refine bw ?_; exact aZ.out) Tryz.underlying48 rfl (by kernel_rfl)) rfl ?_
  exact ⟨er, by exact h2q HB.out a4.out bT.out⟩
 rw [if_pos c8] at H
 have d3 := beq_iff_eq.mpr c8
 have hN := bne_eq_false_iff_eq.mpr c8
 clear c8
 simp only [Option.some.injEq, Prod.mk.injEq] at H
 obtain ⟨rfl, rfl, rfl, rfl, rfl, rfl, rfl, rfl, rfl, rfl, rfl, rfl, rfl, rfl⟩ := H
 go_enter Tryz.func17, Tryz.ntmps17
 go_wp2_with (first | ((with_reducible refine gd 1 ?_); refine bE 1 _ 48 ?_; intro gX hg w9 hbox hb; have aM := am hbox; have gJ := e0 HB hg; have a4 := e0 HB hg; replace HB := s0 HB hb; clear hb hbox hg) | ((with_reducible refine gd 2 ?_); refine bE 2 _ 48 ?_; intro dM hg tY hbox hb; have aZ := am hbox; have gK := e1 HB a4 hg; have bT := e1 HB a4 hg; replace HB := s1 HB a4 hb; have bO := nL aM hg; have bN := nG aM hg; replace aM := bB aM hb; clear hb hbox hg; have sG := bO.out; have s6 := bN.out; have oW := lc13 aM.out) | ((with_reducible refine gf 26 ?_); refine gC (some 9) Tryz.func26 (qQt.calls _ _ _ _ _ _ _ _ _ _ _ _ _ _ true _ A2.out) ?_; rintro e vM ⟨rfl, hb⟩; refine ⟨_, rfl, ?_⟩; replace aM := bB aM hb; replace aZ := bB aZ hb; replace HB := s2 HB a4 bT hb; (try clear hb); (try clear hb2); (try clear hk); (try clear hi); have i3 := lc13 aM.out) | ((with_reducible refine gf 44 ?_); refine gC (some 22) Tryz.func44 (qZu.calls _ _ _ _ jY jZ _ A5.out) ?_; rintro e tZ ⟨rfl, hb⟩; refine ⟨_, rfl, ?_⟩; replace aM := bB aM hb; replace aZ := bB aZ hb; replace HB := s2 HB a4 bT hb; (try clear hb); (try clear hb2); (try clear hk); (try clear hi); have uM := lc13 aM.out) | ((with_reducible refine gf 44 ?_); refine gC (some 34) Tryz.func44 (qZu.calls _ _ _ _ mF mG _ A7.out) ?_; rintro e vY ⟨rfl, hb⟩; refine ⟨_, rfl, ?_⟩; replace aM := bB aM hb; replace aZ := bB aZ hb; replace HB := s2 HB a4 bT hb; (try clear hb); (try clear hb2); (try clear hk); (try clear hi); have uN := lc13 aM.out; have uO := lc13 aZ.out))
 refine bodyPost_ret (qY4 rfl _ _ dM 48 #[.int .i64 bH, .int .i64 e9, .int .i64 hE, .int .i64 hF, .int .i64 hG, .int .i64 fA, .bool hH, .int .i64 hI, .int .i64 fB, .int .i64 hJ, .int .i64 jY, .int .i64 mF, .int .i64 eU] (0, 0) _ rfl (by refine bw ?_; apply qY6; (iterate 2 (refine bw ?_; refine qZ8 ?_ bN.out _)); refine bw ?_; exact aZ.out) Tryz.underlying48 rfl (by kernel_rfl)) rfl ?_
 exact ⟨er, by exact h2q HB.out a4.out bT.out⟩
def qYy.f (a0 : Int) : Option (Bool) := if a0 = 1 then (some true) else (some (a0 == 4))
set_option maxHeartbeats 8000000 in
set_option maxRecDepth 100000 in
theorem qYy.calls (a0 : Int) (r : Bool) (w : World) (h : qYy.f a0 = some r) :
  Calls Tryz.prog 19 #[.int .i64 a0] w fun e w' => e = .returned (.bool r) /\ Drawn0 w w' := by
 have H := h
 unfold qYy.f at H
 clear h
 by_cases c2 : a0 = 1
 case neg =>
  rw [if_neg c2] at H
  have p8 := beq_eq_false_iff_ne.mpr c2
  have p9 := bne_iff_ne.mpr c2
  obtain rfl := Option.some.inj H
  go_enter Tryz.func19, Tryz.ntmps19
  go_wp2
  go_ret
  exact ⟨fr, dr⟩
 rw [if_pos c2] at H
 have p8 := beq_iff_eq.mpr c2
 have p9 := bne_eq_false_iff_eq.mpr c2
 clear c2
 obtain rfl := Option.some.inj H
 go_enter Tryz.func19, Tryz.ntmps19
 go_wp2
 go_ret
 exact ⟨fr, dr⟩
-- NOT PRINTED: function 6 (qZw)
def qYl.f (l0 : List (S48)) : Option ((List (S48))) := (some (([] : List (S48)) : List (S48))).bind fun fO => (if fO.length + l0.length < 1353245080339 then (some (fO ++ l0)) else (none))
set_option maxHeartbeats 8000000 in
set_option maxRecDepth 100000 in
theorem qYl.calls (A0 : Option Addr) (c0 : Nat) (l0 : List (S48)) (r : List (S48)) (w : World) (hr0 : Kd.C k48 w A0 l0.length l0) (hc0 : l0.length <= c0) (h : qYl.f l0 = some r) :
  Calls Tryz.prog 20 #[.slice A0 l0.length c0] w fun e w' => ∃ v0_ : Value, e = .returned (v0_) /\ Kd.R k48 48 w' w.heap.size (fun _ => True) v0_ r /\ Below w.heap.size w w' := by
 have kY := am hr0
 have rO := am hc0
 clear hr0 hc0
 have HB := am (Below.refl w.heap.size w)
 have H := h
 unfold qYl.f at H
 clear h
 obtain ⟨fO, i1⟩ : ∃ y_ : List (S48), y_ = (([] : List (S48))) := ⟨_, rfl⟩
 replace H : (if fO.length + l0.length < 1353245080339 then (some (fO ++ l0)) else (none)) = some r := by exact hyq H i1
 have kC := am i1
 clear i1
 by_cases c2 : fO.length + l0.length < 1353245080339
 case neg =>
  rw [if_neg c2] at H
  exact absurd H (by simp)
 rw [if_pos c2] at H
 have p7 := am c2
 clear c2
 obtain ⟨rG, i2⟩ : ∃ y_ : List (S48), y_ = (fO ++ l0) := ⟨_, rfl⟩
 replace H : (some rG) = some r := by exact hyq H i2
 have nO := am i2
 clear i2
 obtain rfl := Option.some.inj H
 go_enter Tryz.func20, Tryz.ntmps20
 go_wp2_with (first | ((with_reducible refine gd 3 ?_); refine Kd.R_lit k48 _ 48 ?hg (N := 3) ?hd (xs := ([] : List (S48))) (inner := []) (ok := fun _ => True) (okp := fun _ => True) ?hr ?hp (fun _ hk => hk) trivial (Below.refl _ _) (Nat.le_refl _) (by simp) ?_; (case hd => rfl); (case hg => rfl); (case hr => first | (go_simp; done) | (go_simp; rfl)); (case hp => exact (Reps.none _ _)); intro q7 w3 oU hb hg_ hnew_; clear hg_ hnew_; (first | rw [<- kC.out] at oU | (simp only [Int.reduceToNat] at oU; rw [<- kC.out] at oU)); have j7 := am (Kd.qZ1 oU (qQn (by exact h0q HB.out))); replace HB := s0 HB hb; clear hb oU) | ((with_reducible refine qY9 (b := .append) (xs := #[.tmp 3, .tmp 4]) rfl ?_); at_builtin; refine Kd.qWg k48 (w0 := w) w.heap.size rfl (.tmp 3) (.tmp 4) 23 48 (.agg #[(.int .i64 0), (.int .i64 0), (.int .i64 0), (.int .i64 0), (.int .i64 0), (.int .i64 0), (.bool false), (.int .i64 0), (.int .i64 0), (.int .i64 0), (.int .i64 0), (.int .i64 0), (.int .i64 0)]) 104 rfl Tryz.underlying23 info48 rfl (by decide) (by omega) q7 fO l0 _ _ _ (fun _ => True) (fun _ => False) rfl rfl ?aO ?aR (fun _ _ h => h) (fun _ h => h.elim) ?aF ?aB ?aS ?aL ?_; (case aR => exact cq ((Kd.qZp kY.out HB.out))); (case aB => exact (by exact h0q HB.out)); (case aF => exact (fun _ _ => trivial)); (case aO => exact (by exact rq j7.out)); (case aS => exact (qQn (by exact h0q HB.out))); (case aL => have := p7.out; omega); intro vF w5 ho hb hg hat; rw [<- nO.out] at ho; replace HB := am hb; have nB := am ho; clear j7; clear ho hb hg hat))
 go_ret
 exact ⟨_, er, by refine rw_ ?_; exact nB.out, by exact h0q HB.out⟩
end Go.Proofs.YtlhcohipnieidaaGreat.P
