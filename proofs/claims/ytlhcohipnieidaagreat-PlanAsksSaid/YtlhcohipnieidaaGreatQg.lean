/- Several texts as one (written by a program): what the walks and the plain laws come to, one behind the other. -/
import Derived.Test.YtlhcohipnieidaaGreatQa
import Derived.Test.YtlhcohipnieidaaGreatQe
import Derived.Test.YtlhcohipnieidaaGreatQf
import Derived.Test.YtlhcohipnieidaaGreatQd
namespace Go.Proofs.YtlhcohipnieidaaGreat.P
open Go.RowKit W.PrintWords W.PrintLast W.PrintMore
attribute [local go_sem] qX8 qWa qWu qWv qXt qXu qX9 qWb
set_option linter.unusedVariables false
set_option linter.unusedSimpArgs false
mutual
def qQp.j0 : Nat -> Int -> Int -> Bool -> Int -> Int -> Int -> Int -> Int -> Int -> Bool -> Int -> Int -> Int -> Int -> Int -> Int -> Option (Int × Int)
 | 0, _, _, _, _, _, _, _, _, _, _, _, _, _, _, _, _ => none
 | k + 1, x1, x2, wF, c2, dA, dB, dC, dD, dE, dF, dG, dH, cP, cL, cQ, dI => if wF = true then (some (0, 1)) else ((qYg.f c2 dA dB dC dD dE dF dG dH cP cL cQ dI).bind fun mI => (if mI = true then (if x1 = 2 then (qQp.j1 k x1 x2 cQ c2 dA dB dC dD dE dF dG dH cP cL cQ dI) else (qQp.j1 k x1 x2 cL c2 dA dB dC dD dE dF dG dH cP cL cQ dI)) else (some (0, 0))))
def qQp.j1 : Nat -> Int -> Int -> Int -> Int -> Int -> Int -> Int -> Int -> Int -> Bool -> Int -> Int -> Int -> Int -> Int -> Int -> Option (Int × Int)
 | 0, _, _, _, _, _, _, _, _, _, _, _, _, _, _, _, _ => none
 | k + 1, x1, x2, x8, c2, dA, dB, dC, dD, dE, dF, dG, dH, cP, cL, cQ, dI => if x1 = 3 then ((qZd.f k cP x2).bind fun g0 => ((qZs.f k cL g0).bind fun jA => (if jA.2 = 0 then ((qZx.f c2 dA dB dC dD dE dF dG dH cP cL cQ dI).bind fun jB => (if jB.2 = 0 then (some (mn jA.1 jB.1, 0)) else (some (0, jB.2)))) else (some (0, jA.2))))) else ((qZx.f c2 dA dB dC dD dE dF dG dH cP cL cQ dI).bind fun jC => (if jC.2 = 0 then (some (mn x8 jC.1, 0)) else (some (0, jC.2))))
end
def qQp.f (k : Nat) (a4 bV bC bI bW b8 : Int) (cJ : Bool) (b9 cB b5 a7 a9 bK a1 a2 : Int) : Option (Int × Int) := (qZm.f a4 bV bC bI bW b8 cJ b9 cB b5 a7 a9 bK).bind fun mH => (if mH = true then (if a1 < 1 then (qQp.j0 k a1 a2 true a4 bV bC bI bW b8 cJ b9 cB b5 a7 a9 bK) else (if a1 > 3 then (qQp.j0 k a1 a2 true a4 bV bC bI bW b8 cJ b9 cB b5 a7 a9 bK) else ((qZl.f a2).bind fun kR => (qQp.j0 k a1 a2 (!kR) a4 bV bC bI bW b8 cJ b9 cB b5 a7 a9 bK)))) else (qQp.j0 k a1 a2 true a4 bV bC bI bW b8 cJ b9 cB b5 a7 a9 bK))
def qQp.T9 : Bool × List (List Nat × List Nat) := (true, [([], []), ([0], [0]), ([], []), ([2], [2]), ([], []), ([3, 4], [3, 4]), ([1, 5, 5], [1, 5]), ([6], [6]), ([7], [7]), ([7], [7]), ([8, 6, 0, 1, 2, 3, 4, 5, 6, 7, 8], [8]), ([9, 10, 0, 1, 2, 3, 4, 5, 6, 7, 8, 9, 10], [9])])
def qQp.B9 : List Nat := [0, 1, 0, 4, 0, 28, 63, 127, 255, 255, 511, 2047]
theorem qQp.tab9 : rtab .any (opsOf Tryz.f35 9) = qQp.T9 := by kernel_rfl
theorem qQp.bits9 : waitsOk qQp.T9.2 qQp.B9 = true := by kernel_rfl
set_option maxHeartbeats 8000000 in
set_option maxRecDepth 100000 in
theorem qQp.calls (k : Nat) (a4 bV bC bI bW b8 : Int) (cJ : Bool) (b9 cB b5 a7 a9 bK a1 a2 r1 r2 : Int) (w : World) (h : qQp.f k a4 bV bC bI bW b8 cJ b9 cB b5 a7 a9 bK a1 a2 = some (r1, r2)) :
  Calls Tryz.prog 35 #[.agg #[.int .i64 a4, .int .i64 bV, .int .i64 bC, .int .i64 bI, .int .i64 bW, .int .i64 b8, .bool cJ, .int .i64 b9, .int .i64 cB, .int .i64 b5, .int .i64 a7, .int .i64 a9, .int .i64 bK], .int .i64 a1, .int .i64 a2] w fun e w' => e = .returned (.tuple #[.int .i64 r1, .int .i64 r2]) /\ Below w.heap.size w w' := by
 have l8 := Tryz.underlying48
 have HB := am (Below.refl w.heap.size w)
 have H := h
 unfold qQp.f at H
 clear h
 have lT := am H
 clear H
 go_enter Tryz.func35, Tryz.ntmps35
 go_upto_region 1 with (first | ((with_reducible refine gd 3 ?_); refine bE 3 _ 48 ?_; intro a3 hg w5 hbox hb; have aT := am hbox; have r8 := e0 HB hg; have a8 := e0 HB hg; replace HB := s0 HB hb; clear hb hbox hg))
 (try simp only [Act.put, List.setIfInBounds_toArray, List.set_cons_zero, List.set_cons_succ])
 go_cut [28] (fun vY wc => ∃ (kq : Nat) (iQ : Bool), vY = .bool iQ /\ Aside0 (qQp.j0 kq a1 a2 iQ a4 bV bC bI bW b8 cJ b9 cB b5 a7 a9 bK = some (r1, r2)) /\ Aside0 (kq <= k) /\ Aside0 (wc.heap[a3]? = some (.cells #[.int .i64 a4, .int .i64 bV, .int .i64 bC, .int .i64 bI, .int .i64 bW, .int .i64 b8, .bool cJ, .int .i64 b9, .int .i64 cB, .int .i64 b5, .int .i64 a7, .int .i64 a9, .int .i64 bK] 48 (0, 0))) /\ Aside0 (Below w.heap.size w wc))
 case first =>
  have H := lT.out
  clear lT
  obtain ⟨mH, A6, H⟩ := bd H
  by_cases c7 : mH = true
  case neg =>
   replace c7 := Bool.eq_false_iff.mpr c7
   subst c7
   rw [if_neg (show ¬ (false = true) by decide)] at H
   have H' := am H
   clear H
   have oX := lc13 aT.out
   go_wp2_with (first | ((with_reducible refine gf 33 ?_); refine gC (some 14) Tryz.func33 (qZm.calls _ _ _ _ _ _ _ _ _ _ _ _ _ false _ A6.out) ?_; rintro e wH ⟨rfl, hb⟩; refine ⟨_, rfl, ?_⟩; replace aT := bB aT hb; replace HB := s1 HB a8 hb; (try clear hb); (try clear hb2); (try clear hk); (try clear hi)))
   go_meet
   case rel => exact ⟨_, (true), fr, H', o0, bA aT, a1_ HB a8⟩
  subst c7
  rw [if_pos rfl] at H
  by_cases c8 : a1 < 1
  ·rw [if_pos c8] at H
   have fN := decide_eq_true c8
   clear c8
   (first | rw [fN] | (simp only [i64_w, i32_w]; rw [fN]) | skip)
   have H' := am H
   clear H
   have rY := lc13 aT.out
   go_wp2_with (first | ((with_reducible refine gf 33 ?_); refine gC (some 14) Tryz.func33 (qZm.calls _ _ _ _ _ _ _ _ _ _ _ _ _ true _ A6.out) ?_; rintro e g9 ⟨rfl, hb⟩; refine ⟨_, rfl, ?_⟩; replace aT := bB aT hb; replace HB := s1 HB a8 hb; (try clear hb); (try clear hb2); (try clear hk); (try clear hi)))
   go_meet
   case rel => exact ⟨_, (true), fr, H', o0, bA aT, a1_ HB a8⟩
  rw [if_neg c8] at H
  have fN := decide_eq_false c8
  clear c8
  (first | rw [fN] | (simp only [i64_w, i32_w]; rw [fN]) | skip)
  by_cases fM : a1 > 3
  ·rw [if_pos fM] at H
   have hL : decide (3 < a1) = true := decide_eq_true fM
   clear fM
   have H' := am H
   clear H
   have oV := lc13 aT.out
   go_wp2_with (first | ((with_reducible refine gf 33 ?_); refine gC (some 14) Tryz.func33 (qZm.calls _ _ _ _ _ _ _ _ _ _ _ _ _ true _ A6.out) ?_; rintro e wG ⟨rfl, hb⟩; refine ⟨_, rfl, ?_⟩; replace aT := bB aT hb; replace HB := s1 HB a8 hb; (try clear hb); (try clear hb2); (try clear hk); (try clear hi)))
   go_meet
   case rel => exact ⟨_, (true), fr, H', o0, bA aT, a1_ HB a8⟩
  rw [if_neg fM] at H
  have hL : decide (3 < a1) = false := decide_eq_false fM
  clear fM
  obtain ⟨kR, u9, H⟩ := bd H
  have H' := am H
  clear H
  have oW := lc13 aT.out
  go_wp2_with (first | ((with_reducible refine gf 33 ?_); refine gC (some 14) Tryz.func33 (qZm.calls _ _ _ _ _ _ _ _ _ _ _ _ _ true _ A6.out) ?_; rintro e u2 ⟨rfl, hb⟩; refine ⟨_, rfl, ?_⟩; replace aT := bB aT hb; replace HB := s1 HB a8 hb; (try clear hb); (try clear hb2); (try clear hk); (try clear hi)) | (go_at_call 32; (with_reducible refine (qZl.calls _ kR _ u9.out).mono ?_); rintro e w' ⟨rfl, ⟨nd, rfl⟩⟩))
  go_meet
  case rel => exact ⟨_, (!kR), fr, H', o0, bA aT, a1_ HB a8⟩
 case rest =>
  clear lT
  try clear c7
  try clear c8
  try clear fN
  try clear fM
  try clear hL
  try clear oV
  try clear oW
  try clear oX
  try clear rY
  obtain ⟨kq, iQ, rfl, HA, jY, aT, HB⟩ := hcut
  rcases kq with _ | p8
  ·exact absurd HA.out (by simp [qQp.j0])
  have H := HA.out
  clear HA
  simp only [qQp.j0] at H
  by_cases nP : iQ = true
  ·subst nP
   rw [if_pos rfl] at H
   simp only [Option.some.injEq, Prod.mk.injEq] at H
   obtain ⟨rfl, rfl⟩ := H
   go_wp2
   go_ret2
   exact ⟨er, by exact h1q HB.out a8.out⟩
  replace nP := Bool.eq_false_iff.mpr nP
  subst nP
  rw [if_neg (show ¬ (false = true) by decide)] at H
  obtain ⟨mI, r4, H⟩ := bd H
  by_cases iZ : mI = true
  case neg =>
   replace iZ := Bool.eq_false_iff.mpr iZ
   subst iZ
   rw [if_neg (show ¬ (false = true) by decide)] at H
   simp only [Option.some.injEq, Prod.mk.injEq] at H
   obtain ⟨rfl, rfl⟩ := H
   have vU := lc13 aT.out
   go_wp2_with (first | ((with_reducible refine gf 13 ?_); refine gC (some 30) Tryz.func13 (qYg.calls _ _ _ _ _ _ _ _ _ _ _ _ _ false _ r4.out) ?_; rintro e wX ⟨rfl, hb⟩; refine ⟨_, rfl, ?_⟩; replace aT := bB aT hb; replace HB := s1 HB a8 hb; (try clear hb); (try clear hb2); (try clear hk); (try clear hi)))
   go_ret2
   exact ⟨er, by exact h1q HB.out a8.out⟩
  subst iZ
  rw [if_pos rfl] at H
  have lS := am H
  clear H
  have rM := lc13 aT.out
  go_upto_if 35 with (first | ((with_reducible refine gf 13 ?_); refine gC (some 30) Tryz.func13 (qYg.calls _ _ _ _ _ _ _ _ _ _ _ _ _ true _ r4.out) ?_; rintro e wK ⟨rfl, hb⟩; refine ⟨_, rfl, ?_⟩; replace aT := bB aT hb; replace HB := s1 HB a8 hb; (try clear hb); (try clear hb2); (try clear hk); (try clear hi); have oY := lc13 aT.out))
  (try simp only [Act.put, List.setIfInBounds_toArray, List.set_cons_zero, List.set_cons_succ])
  go_cut [8] (fun v8 wc => ∃ (kq : Nat) (fL : Int), v8 = .int .i64 fL /\ Aside0 (qQp.j1 kq a1 a2 fL a4 bV bC bI bW b8 cJ b9 cB b5 a7 a9 bK = some (r1, r2)) /\ Aside0 (kq <= p8) /\ Aside0 (wc.heap[a3]? = some (.cells #[.int .i64 a4, .int .i64 bV, .int .i64 bC, .int .i64 bI, .int .i64 bW, .int .i64 b8, .bool cJ, .int .i64 b9, .int .i64 cB, .int .i64 b5, .int .i64 a7, .int .i64 a9, .int .i64 bK] 48 (0, 0))) /\ Aside0 (Below w.heap.size w wc))
  case first =>
   have H := lS.out
   clear lS
   by_cases hM : a1 = 2
   case neg =>
    rw [if_neg hM] at H
    have fG := beq_eq_false_iff_ne.mpr hM
    have k6 := bne_iff_ne.mpr hM
    (first | rw [fG] | (simp only [i64_w, i32_w]; rw [fG]) | skip)
    have H' := am H
    clear H
    go_wp2
    go_meet
    case rel => exact ⟨_, (a7), fr, H', o1 jY, bA aT, a1_ HB a8⟩
   rw [if_pos hM] at H
   have fG := beq_iff_eq.mpr hM
   have k6 := bne_eq_false_iff_eq.mpr hM
   clear hM
   (first | rw [fG] | (simp only [i64_w, i32_w]; rw [fG]) | skip)
   have H' := am H
   clear H
   have oZ := lc13 aT.out
   go_wp2
   go_meet
   case rel => exact ⟨_, (a9), fr, H', o1 jY, bA aT, a1_ HB a8⟩
  case rest =>
   clear lS
   try clear c7
   try clear c8
   try clear fN
   try clear fM
   try clear hL
   try clear nP
   try clear iZ
   try clear hM
   try clear fG k6
   try clear oV
   try clear oW
   try clear oX
   try clear rM
   try clear oY
   try clear oZ
   try clear rY
   obtain ⟨kq, fL, rfl, HA, vF, aT, HB⟩ := hcut
   rcases kq with _ | vV
   ·exact absurd HA.out (by simp [qQp.j1])
   have H := HA.out
   clear HA
   simp only [qQp.j1] at H
   by_cases lW : a1 = 3
   case neg =>
    rw [if_neg lW] at H
    have nU := beq_eq_false_iff_ne.mpr lW
    have nV := bne_iff_ne.mpr lW
    obtain ⟨⟨jS, mK⟩, qD, H⟩ := bd H
    by_cases l2 : mK = 0
    case neg =>
     rw [if_neg l2] at H
     have n0 := beq_eq_false_iff_ne.mpr l2
     have n1 := bne_iff_ne.mpr l2
     simp only [Option.some.injEq, Prod.mk.injEq] at H
     obtain ⟨rfl, rfl⟩ := H
     have vT := lc13 aT.out
     go_wp2_with (first | ((with_reducible refine gf 14 ?_); refine gC (some 56) Tryz.func14 (qZx.calls _ _ _ _ _ _ _ _ _ _ _ _ _ jS mK _ qD.out) ?_; rintro e wW ⟨rfl, hb⟩; refine ⟨_, rfl, ?_⟩; replace aT := bB aT hb; replace HB := s1 HB a8 hb; (try clear hb); (try clear hb2); (try clear hk); (try clear hi)))
     go_ret2
     exact ⟨er, by exact h1q HB.out a8.out⟩
    rw [if_pos l2] at H
    have n0 := beq_iff_eq.mpr l2
    have n1 := bne_eq_false_iff_eq.mpr l2
    clear l2
    obtain ⟨o5, gP⟩ : ∃ j_ : Int, (mn fL jS) = j_ := ⟨_, rfl⟩
    replace H : (some (o5, 0)) = some (r1, r2) := by first | (rw [gP] at H; exact H) | (simp only [gP] at H ⊢; exact H)
    (try rw [gP] at qD)
    have hji50_ : (if jS < fL then jS else fL) = o5 := gP
    simp only [Option.some.injEq, Prod.mk.injEq] at H
    obtain ⟨rfl, rfl⟩ := H
    have vS := lc13 aT.out
    go_wp2_with (first | ((with_reducible refine gf 14 ?_); refine gC (some 56) Tryz.func14 (qZx.calls _ _ _ _ _ _ _ _ _ _ _ _ _ jS mK _ qD.out) ?_; rintro e wV ⟨rfl, hb⟩; refine ⟨_, rfl, ?_⟩; replace aT := bB aT hb; replace HB := s1 HB a8 hb; (try clear hb); (try clear hb2); (try clear hk); (try clear hi)))
    go_ret2
    exact ⟨by first | rfl | (simp [qQj, qQk] <;> rfl) | (simp only [<- gP]; first | rfl | (simp [qQj, qQk] <;> rfl)) | (simp [*, qQj, qQk] <;> rfl), by exact h1q HB.out a8.out⟩
   rw [if_pos lW] at H
   have nU := beq_iff_eq.mpr lW
   have nV := bne_eq_false_iff_eq.mpr lW
   clear lW
   obtain ⟨g0, pB, H⟩ := bd H
   obtain ⟨⟨i2, kS⟩, pC, H⟩ := bd H
   by_cases lX : kS = 0
   case neg =>
    rw [if_neg lX] at H
    have nW := beq_eq_false_iff_ne.mpr lX
    have nX := bne_iff_ne.mpr lX
    simp only [Option.some.injEq, Prod.mk.injEq] at H
    obtain ⟨rfl, rfl⟩ := H
    try go_wp2
    replace aT := am (qXf aT.out)
    replace HB := am (qZk HB.out)
    refine start_ (n := 12) (S := fun w' => w'.cell? ⟨a3, 0, none⟩ = some (.int .i64 a4) /\ w'.cell? ⟨a3, 1, none⟩ = some (.int .i64 bV) /\ w'.cell? ⟨a3, 2, none⟩ = some (.int .i64 bC) /\ w'.cell? ⟨a3, 3, none⟩ = some (.int .i64 bI) /\ w'.cell? ⟨a3, 4, none⟩ = some (.int .i64 bW) /\ w'.cell? ⟨a3, 5, none⟩ = some (.int .i64 b8) /\ w'.cell? ⟨a3, 6, none⟩ = some (.bool cJ) /\ w'.cell? ⟨a3, 7, none⟩ = some (.int .i64 b9) /\ w'.cell? ⟨a3, 8, none⟩ = some (.int .i64 cB) /\ w'.cell? ⟨a3, 9, none⟩ = some (.int .i64 b5) /\ w'.cell? ⟨a3, 10, none⟩ = some (.int .i64 a7) /\ w'.cell? ⟨a3, 11, none⟩ = some (.int .i64 a9) /\ w'.cell? ⟨a3, 12, none⟩ = some (.int .i64 bK)) (ds := []) #[false, false, false, false, false, false, false, false, false, false, false, false] (by kernel_rfl) rfl rfl (bcs aT) (fun hHeld => ?_); refine qX5 qQp.tab9 qQp.bits9 (fun HT_ HW_ => ?_)
    generalize wc.drew = wS at aT HB hHeld ⊢
    refine pure_ (i := 0) (N := some 41) (v := ?_) (a' := ?_) #[true, false, false, false, false, false, false, false, false, false, false, false] rfl rfl (qZ0 HT_.out (by kernel_rfl)) (fun _ _ _ h => h) (Or.inl ⟨by rfl, ?_⟩) ?_ ?_
    rotate_left
    ·intro w'
     go_simp
     with_reducible rfl
    rotate_left
    ·exact pu
    refine pure_ (i := 2) (N := some 43) (v := ?_) (a' := ?_) #[true, false, true, false, false, false, false, false, false, false, false, false] rfl rfl (qZ0 HT_.out (by kernel_rfl)) (fun _ _ _ h => h) (Or.inl ⟨by rfl, ?_⟩) ?_ ?_
    rotate_left
    ·intro w'
     go_simp
     with_reducible rfl
    rotate_left
    ·exact pu
    refine pure_ (i := 4) (N := some 45) (v := ?_) (a' := ?_) #[true, false, true, false, true, false, false, false, false, false, false, false] rfl rfl (qZ0 HT_.out (by kernel_rfl)) (fun _ _ _ h => h) (Or.inl ⟨by rfl, ?_⟩) ?_ ?_
    rotate_left
    ·intro w'
     go_simp
     with_reducible rfl
    rotate_left
    ·exact pu
    refine take_ (i := 1) (N := some 42) (v := ?_) (a' := ?_) #[true, true, true, false, true, false, false, false, false, false, false, false] rfl rfl (qXm HT_.out HW_.out (by kernel_rfl)) (fun _ _ _ h => h) (Or.inl ⟨by rfl, ?_⟩) hHeld ?_ ?_
    rotate_left
    ·rintro w' ⟨s0, s1, s2, s3, s4, s5, s6, s7, s8, s9, s10, s11, s12⟩
     go_simp
     with_reducible rfl
    rotate_left
    ·exact pu
    refine take_ (i := 3) (N := some 44) (v := ?_) (a' := ?_) #[true, true, true, true, true, false, false, false, false, false, false, false] rfl rfl (qXm HT_.out HW_.out (by kernel_rfl)) (fun _ _ _ h => h) (Or.inl ⟨by rfl, ?_⟩) hHeld ?_ ?_
    rotate_left
    ·rintro w' ⟨s0, s1, s2, s3, s4, s5, s6, s7, s8, s9, s10, s11, s12⟩
     go_simp
     with_reducible rfl
    rotate_left
    ·exact pu
    refine one_ (i := 5) (N := some 46) #[true, true, true, true, true, true, false, false, false, false, false, false] rfl rfl (qXj HT_.out (by kernel_rfl)) (by decide) (fun K hK => ?_)
    refine goes_ Tryz.func56 (by kernel_rfl) rfl #[.int .i64 b5, .int .i64 a2] (by rfl) rfl rfl ml ?_
    with_reducible refine (qZd.calls _ _ _ g0 _ pB.out).mono ?_
    rintro e wT ⟨rfl, hb⟩
    refine ⟨_, rfl, ?_⟩
    replace aT := bB aT hb
    replace HB := s1 HB a8 hb
    (try clear hb)
    (try clear hb2)
    (try clear hk)
    (try clear hi)
    refine hK.out _ _ (bcs aT) (fun hHeld => ?_)
    clear hK K
    refine norm_ (a' := ?_) ?_ ?_
    rotate_left
    ·show Act.put _ (some 46) _ = _
     exact pu
    refine one_ (i := 6) (N := some 47) #[true, true, true, true, true, true, true, false, false, false, false, false] rfl rfl (qXj HT_.out (by kernel_rfl)) (by decide) (fun K hK => ?_)
    refine goes_ Tryz.func55 (by kernel_rfl) rfl #[.int .i64 a7, .int .i64 g0] (by rfl) rfl rfl ml ?_
    with_reducible refine (qZs.calls _ _ _ i2 kS _ pC.out).mono ?_
    rintro e wU ⟨rfl, hb⟩
    refine ⟨_, rfl, ?_⟩
    replace aT := bB aT hb
    replace HB := s1 HB a8 hb
    (try clear hb)
    (try clear hb2)
    (try clear hk)
    (try clear hi)
    refine hK.out _ _ (bcs aT) (fun hHeld => ?_)
    clear hK K
    refine norm_ (a' := ?_) ?_ ?_
    rotate_left
    ·show Act.put _ (some 47) _ = _
     exact pu
    refine pure_ (i := 7) (N := some 40) (v := ?_) (a' := ?_) #[true, true, true, true, true, true, true, true, false, false, false, false] rfl rfl (qZ0 HT_.out (by kernel_rfl)) (fun _ _ _ h => h) (Or.inl ⟨by rfl, ?_⟩) ?_ ?_
    rotate_left
    ·intro w'
     go_simp
     with_reducible rfl
    rotate_left
    ·exact pu
    refine pure_ (i := 8) (N := some 48) (v := ?_) (a' := ?_) #[true, true, true, true, true, true, true, true, true, false, false, false] rfl rfl (qZ0 HT_.out (by kernel_rfl)) (fun _ _ _ h => h) (Or.inl ⟨by rfl, ?_⟩) ?_ ?_
    rotate_left
    ·intro w'
     go_simp
     with_reducible rfl
    rotate_left
    ·exact pu
    refine pure_ (i := 9) (N := some 49) (v := ?_) (a' := ?_) #[true, true, true, true, true, true, true, true, true, true, false, false] rfl rfl (qZ0 HT_.out (by kernel_rfl)) (fun _ _ _ h => h) (Or.inl ⟨by rfl, ?_⟩) ?_ ?_
    rotate_left
    ·intro w'
     go_simp
     with_reducible rfl
    rotate_left
    ·exact pu
    refine pure_ (i := 10) (N := some 9) (v := ?_) (a' := ?_) #[true, true, true, true, true, true, true, true, true, true, true, false] rfl rfl (qZ0 HT_.out (by kernel_rfl)) (fun _ _ _ h => h) (Or.inl ⟨by rfl, ?_⟩) ?_ ?_
    rotate_left
    ·intro w'
     go_simp
     with_reducible rfl
    rotate_left
    ·exact pu
    refine pure_ (i := 11) (N := some 10) (v := ?_) (a' := ?_) #[true, true, true, true, true, true, true, true, true, true, true, true] rfl rfl (qZ0 HT_.out (by kernel_rfl)) (fun _ _ _ h => h) (Or.inl ⟨by rfl, ?_⟩) ?_ ?_
    rotate_left
    ·intro w'
     go_simp
     with_reducible rfl
    rotate_left
    ·exact pu
    refine done_ (qW0 HT_.out (by kernel_rfl)) ?_
    try go_wp2
    go_ret2
    exact ⟨er, by exact h1q HB.out a8.out⟩
   rw [if_pos lX] at H
   have nW := beq_iff_eq.mpr lX
   have nX := bne_eq_false_iff_eq.mpr lX
   clear lX
   obtain ⟨⟨jR, mJ⟩, qC, H⟩ := bd H
   by_cases lY : mJ = 0
   case neg =>
    rw [if_neg lY] at H
    have nY := beq_eq_false_iff_ne.mpr lY
    have nZ := bne_iff_ne.mpr lY
    simp only [Option.some.injEq, Prod.mk.injEq] at H
    obtain ⟨rfl, rfl⟩ := H
    try go_wp2
    replace aT := am (qXf aT.out)
    replace HB := am (qZk HB.out)
    refine start_ (n := 12) (S := fun w' => w'.cell? ⟨a3, 0, none⟩ = some (.int .i64 a4) /\ w'.cell? ⟨a3, 1, none⟩ = some (.int .i64 bV) /\ w'.cell? ⟨a3, 2, none⟩ = some (.int .i64 bC) /\ w'.cell? ⟨a3, 3, none⟩ = some (.int .i64 bI) /\ w'.cell? ⟨a3, 4, none⟩ = some (.int .i64 bW) /\ w'.cell? ⟨a3, 5, none⟩ = some (.int .i64 b8) /\ w'.cell? ⟨a3, 6, none⟩ = some (.bool cJ) /\ w'.cell? ⟨a3, 7, none⟩ = some (.int .i64 b9) /\ w'.cell? ⟨a3, 8, none⟩ = some (.int .i64 cB) /\ w'.cell? ⟨a3, 9, none⟩ = some (.int .i64 b5) /\ w'.cell? ⟨a3, 10, none⟩ = some (.int .i64 a7) /\ w'.cell? ⟨a3, 11, none⟩ = some (.int .i64 a9) /\ w'.cell? ⟨a3, 12, none⟩ = some (.int .i64 bK)) (ds := []) #[false, false, false, false, false, false, false, false, false, false, false, false] (by kernel_rfl) rfl rfl (bcs aT) (fun hHeld => ?_); refine qX5 qQp.tab9 qQp.bits9 (fun HT_ HW_ => ?_)
    generalize wc.drew = wQ at aT HB hHeld ⊢
    refine pure_ (i := 0) (N := some 41) (v := ?_) (a' := ?_) #[true, false, false, false, false, false, false, false, false, false, false, false] rfl rfl (qZ0 HT_.out (by kernel_rfl)) (fun _ _ _ h => h) (Or.inl ⟨by rfl, ?_⟩) ?_ ?_
    rotate_left
    ·intro w'
     go_simp
     with_reducible rfl
    rotate_left
    ·exact pu
    refine pure_ (i := 2) (N := some 43) (v := ?_) (a' := ?_) #[true, false, true, false, false, false, false, false, false, false, false, false] rfl rfl (qZ0 HT_.out (by kernel_rfl)) (fun _ _ _ h => h) (Or.inl ⟨by rfl, ?_⟩) ?_ ?_
    rotate_left
    ·intro w'
     go_simp
     with_reducible rfl
    rotate_left
    ·exact pu
    refine pure_ (i := 4) (N := some 45) (v := ?_) (a' := ?_) #[true, false, true, false, true, false, false, false, false, false, false, false] rfl rfl (qZ0 HT_.out (by kernel_rfl)) (fun _ _ _ h => h) (Or.inl ⟨by rfl, ?_⟩) ?_ ?_
    rotate_left
    ·intro w'
     go_simp
     with_reducible rfl
    rotate_left
    ·exact pu
    refine take_ (i := 1) (N := some 42) (v := ?_) (a' := ?_) #[true, true, true, false, true, false, false, false, false, false, false, false] rfl rfl (qXm HT_.out HW_.out (by kernel_rfl)) (fun _ _ _ h => h) (Or.inl ⟨by rfl, ?_⟩) hHeld ?_ ?_
    rotate_left
    ·rintro w' ⟨s0, s1, s2, s3, s4, s5, s6, s7, s8, s9, s10, s11, s12⟩
     go_simp
     with_reducible rfl
    rotate_left
    ·exact pu
    refine take_ (i := 3) (N := some 44) (v := ?_) (a' := ?_) #[true, true, true, true, true, false, false, false, false, false, false, false] rfl rfl (qXm HT_.out HW_.out (by kernel_rfl)) (fun _ _ _ h => h) (Or.inl ⟨by rfl, ?_⟩) hHeld ?_ ?_
    rotate_left
    ·rintro w' ⟨s0, s1, s2, s3, s4, s5, s6, s7, s8, s9, s10, s11, s12⟩
     go_simp
     with_reducible rfl
    rotate_left
    ·exact pu
    refine one_ (i := 5) (N := some 46) #[true, true, true, true, true, true, false, false, false, false, false, false] rfl rfl (qXj HT_.out (by kernel_rfl)) (by decide) (fun K hK => ?_)
    refine goes_ Tryz.func56 (by kernel_rfl) rfl #[.int .i64 b5, .int .i64 a2] (by rfl) rfl rfl ml ?_
    with_reducible refine (qZd.calls _ _ _ g0 _ pB.out).mono ?_
    rintro e wR ⟨rfl, hb⟩
    refine ⟨_, rfl, ?_⟩
    replace aT := bB aT hb
    replace HB := s1 HB a8 hb
    (try clear hb)
    (try clear hb2)
    (try clear hk)
    (try clear hi)
    refine hK.out _ _ (bcs aT) (fun hHeld => ?_)
    clear hK K
    refine norm_ (a' := ?_) ?_ ?_
    rotate_left
    ·show Act.put _ (some 46) _ = _
     exact pu
    refine one_ (i := 6) (N := some 47) #[true, true, true, true, true, true, true, false, false, false, false, false] rfl rfl (qXj HT_.out (by kernel_rfl)) (by decide) (fun K hK => ?_)
    refine goes_ Tryz.func55 (by kernel_rfl) rfl #[.int .i64 a7, .int .i64 g0] (by rfl) rfl rfl ml ?_
    with_reducible refine (qZs.calls _ _ _ i2 kS _ pC.out).mono ?_
    rintro e wB ⟨rfl, hb⟩
    refine ⟨_, rfl, ?_⟩
    replace aT := bB aT hb
    replace HB := s1 HB a8 hb
    (try clear hb)
    (try clear hb2)
    (try clear hk)
    (try clear hi)
    refine hK.out _ _ (bcs aT) (fun hHeld => ?_)
    clear hK K
    refine norm_ (a' := ?_) ?_ ?_
    rotate_left
    ·show Act.put _ (some 47) _ = _
     exact pu
    refine pure_ (i := 7) (N := some 40) (v := ?_) (a' := ?_) #[true, true, true, true, true, true, true, true, false, false, false, false] rfl rfl (qZ0 HT_.out (by kernel_rfl)) (fun _ _ _ h => h) (Or.inl ⟨by rfl, ?_⟩) ?_ ?_
    rotate_left
    ·intro w'
     go_simp
     with_reducible rfl
    rotate_left
    ·exact pu
    refine pure_ (i := 8) (N := some 48) (v := ?_) (a' := ?_) #[true, true, true, true, true, true, true, true, true, false, false, false] rfl rfl (qZ0 HT_.out (by kernel_rfl)) (fun _ _ _ h => h) (Or.inl ⟨by rfl, ?_⟩) ?_ ?_
    rotate_left
    ·intro w'
     go_simp
     with_reducible rfl
    rotate_left
    ·exact pu
    refine pure_ (i := 9) (N := some 49) (v := ?_) (a' := ?_) #[true, true, true, true, true, true, true, true, true, true, false, false] rfl rfl (qZ0 HT_.out (by kernel_rfl)) (fun _ _ _ h => h) (Or.inl ⟨by rfl, ?_⟩) ?_ ?_
    rotate_left
    ·intro w'
     go_simp
     with_reducible rfl
    rotate_left
    ·exact pu
    refine pure_ (i := 10) (N := some 9) (v := ?_) (a' := ?_) #[true, true, true, true, true, true, true, true, true, true, true, false] rfl rfl (qZ0 HT_.out (by kernel_rfl)) (fun _ _ _ h => h) (Or.inl ⟨by rfl, ?_⟩) ?_ ?_
    rotate_left
    ·intro w'
     go_simp
     with_reducible rfl
    rotate_left
    ·exact pu
    refine pure_ (i := 11) (N := some 10) (v := ?_) (a' := ?_) #[true, true, true, true, true, true, true, true, true, true, true, true] rfl rfl (qZ0 HT_.out (by kernel_rfl)) (fun _ _ _ h => h) (Or.inl ⟨by rfl, ?_⟩) ?_ ?_
    rotate_left
    ·intro w'
     go_simp
     with_reducible rfl
    rotate_left
    ·exact pu
    refine done_ (qW0 HT_.out (by kernel_rfl)) ?_
    have o3 := lc13 aT.out
    try go_wp2_with (first | ((with_reducible refine gf 14 ?_); refine gC (some 56) Tryz.func14 (qZx.calls _ _ _ _ _ _ _ _ _ _ _ _ _ jR mJ _ qC.out) ?_; rintro e wC ⟨rfl, hb⟩; refine ⟨_, rfl, ?_⟩; replace aT := bB aT hb; replace HB := s1 HB a8 hb; (try clear hb); (try clear hb2); (try clear hk); (try clear hi)))
    go_ret2
    exact ⟨er, by exact h1q HB.out a8.out⟩
   rw [if_pos lY] at H
   have nY := beq_iff_eq.mpr lY
   have nZ := bne_eq_false_iff_eq.mpr lY
   clear lY
   obtain ⟨o4, e4⟩ : ∃ j_ : Int, (mn i2 jR) = j_ := ⟨_, rfl⟩
   replace H : (some (o4, 0)) = some (r1, r2) := by first | (rw [e4] at H; exact H) | (simp only [e4] at H ⊢; exact H)
   (try rw [e4] at pB)
   (try rw [e4] at pC)
   (try rw [e4] at qC)
   have hji34_ : (if jR < i2 then jR else i2) = o4 := e4
   simp only [Option.some.injEq, Prod.mk.injEq] at H
   obtain ⟨rfl, rfl⟩ := H
   try go_wp2
   replace aT := am (qXf aT.out)
   replace HB := am (qZk HB.out)
   refine start_ (n := 12) (S := fun w' => w'.cell? ⟨a3, 0, none⟩ = some (.int .i64 a4) /\ w'.cell? ⟨a3, 1, none⟩ = some (.int .i64 bV) /\ w'.cell? ⟨a3, 2, none⟩ = some (.int .i64 bC) /\ w'.cell? ⟨a3, 3, none⟩ = some (.int .i64 bI) /\ w'.cell? ⟨a3, 4, none⟩ = some (.int .i64 bW) /\ w'.cell? ⟨a3, 5, none⟩ = some (.int .i64 b8) /\ w'.cell? ⟨a3, 6, none⟩ = some (.bool cJ) /\ w'.cell? ⟨a3, 7, none⟩ = some (.int .i64 b9) /\ w'.cell? ⟨a3, 8, none⟩ = some (.int .i64 cB) /\ w'.cell? ⟨a3, 9, none⟩ = some (.int .i64 b5) /\ w'.cell? ⟨a3, 10, none⟩ = some (.int .i64 a7) /\ w'.cell? ⟨a3, 11, none⟩ = some (.int .i64 a9) /\ w'.cell? ⟨a3, 12, none⟩ = some (.int .i64 bK)) (ds := []) #[false, false, false, false, false, false, false, false, false, false, false, false] (by kernel_rfl) rfl rfl (bcs aT) (fun hHeld => ?_); refine qX5 qQp.tab9 qQp.bits9 (fun HT_ HW_ => ?_)
   generalize wc.drew = v7 at aT HB hHeld ⊢
   refine pure_ (i := 0) (N := some 41) (v := ?_) (a' := ?_) #[true, false, false, false, false, false, false, false, false, false, false, false] rfl rfl (qZ0 HT_.out (by kernel_rfl)) (fun _ _ _ h => h) (Or.inl ⟨by rfl, ?_⟩) ?_ ?_
   rotate_left
   ·intro w'
    go_simp
    with_reducible rfl
   rotate_left
   ·exact pu
   refine pure_ (i := 2) (N := some 43) (v := ?_) (a' := ?_) #[true, false, true, false, false, false, false, false, false, false, false, false] rfl rfl (qZ0 HT_.out (by kernel_rfl)) (fun _ _ _ h => h) (Or.inl ⟨by rfl, ?_⟩) ?_ ?_
   rotate_left
   ·intro w'
    go_simp
    with_reducible rfl
   rotate_left
   ·exact pu
   refine pure_ (i := 4) (N := some 45) (v := ?_) (a' := ?_) #[true, false, true, false, true, false, false, false, false, false, false, false] rfl rfl (qZ0 HT_.out (by kernel_rfl)) (fun _ _ _ h => h) (Or.inl ⟨by rfl, ?_⟩) ?_ ?_
   rotate_left
   ·intro w'
    go_simp
    with_reducible rfl
   rotate_left
   ·exact pu
   refine take_ (i := 1) (N := some 42) (v := ?_) (a' := ?_) #[true, true, true, false, true, false, false, false, false, false, false, false] rfl rfl (qXm HT_.out HW_.out (by kernel_rfl)) (fun _ _ _ h => h) (Or.inl ⟨by rfl, ?_⟩) hHeld ?_ ?_
   rotate_left
   ·rintro w' ⟨s0, s1, s2, s3, s4, s5, s6, s7, s8, s9, s10, s11, s12⟩
    go_simp
    with_reducible rfl
   rotate_left
   ·exact pu
   refine take_ (i := 3) (N := some 44) (v := ?_) (a' := ?_) #[true, true, true, true, true, false, false, false, false, false, false, false] rfl rfl (qXm HT_.out HW_.out (by kernel_rfl)) (fun _ _ _ h => h) (Or.inl ⟨by rfl, ?_⟩) hHeld ?_ ?_
   rotate_left
   ·rintro w' ⟨s0, s1, s2, s3, s4, s5, s6, s7, s8, s9, s10, s11, s12⟩
    go_simp
    with_reducible rfl
   rotate_left
   ·exact pu
   refine one_ (i := 5) (N := some 46) #[true, true, true, true, true, true, false, false, false, false, false, false] rfl rfl (qXj HT_.out (by kernel_rfl)) (by decide) (fun K hK => ?_)
   refine goes_ Tryz.func56 (by kernel_rfl) rfl #[.int .i64 b5, .int .i64 a2] (by rfl) rfl rfl ml ?_
   with_reducible refine (qZd.calls _ _ _ g0 _ pB.out).mono ?_
   rintro e wO ⟨rfl, hb⟩
   refine ⟨_, rfl, ?_⟩
   replace aT := bB aT hb
   replace HB := s1 HB a8 hb
   (try clear hb)
   (try clear hb2)
   (try clear hk)
   (try clear hi)
   refine hK.out _ _ (bcs aT) (fun hHeld => ?_)
   clear hK K
   refine norm_ (a' := ?_) ?_ ?_
   rotate_left
   ·show Act.put _ (some 46) _ = _
    exact pu
   refine one_ (i := 6) (N := some 47) #[true, true, true, true, true, true, true, false, false, false, false, false] rfl rfl (qXj HT_.out (by kernel_rfl)) (by decide) (fun K hK => ?_)
   refine goes_ Tryz.func55 (by kernel_rfl) rfl #[.int .i64 a7, .int .i64 g0] (by rfl) rfl rfl ml ?_
   with_reducible refine (qZs.calls _ _ _ i2 kS _ pC.out).mono ?_
   rintro e wA ⟨rfl, hb⟩
   refine ⟨_, rfl, ?_⟩
   replace aT := bB aT hb
   replace HB := s1 HB a8 hb
   (try clear hb)
   (try clear hb2)
   (try clear hk)
   (try clear hi)
   refine hK.out _ _ (bcs aT) (fun hHeld => ?_)
   clear hK K
   refine norm_ (a' := ?_) ?_ ?_
   rotate_left
   ·show Act.put _ (some 47) _ = _
    exact pu
   refine pure_ (i := 7) (N := some 40) (v := ?_) (a' := ?_) #[true, true, true, true, true, true, true, true, false, false, false, false] rfl rfl (qZ0 HT_.out (by kernel_rfl)) (fun _ _ _ h => h) (Or.inl ⟨by rfl, ?_⟩) ?_ ?_
   rotate_left
   ·intro w'
    go_simp
    with_reducible rfl
   rotate_left
   ·exact pu
   refine pure_ (i := 8) (N := some 48) (v := ?_) (a' := ?_) #[true, true, true, true, true, true, true, true, true, false, false, false] rfl rfl (qZ0 HT_.out (by kernel_rfl)) (fun _ _ _ h => h) (Or.inl ⟨by rfl, ?_⟩) ?_ ?_
   rotate_left
   ·intro w'
    go_simp
    with_reducible rfl
   rotate_left
   ·exact pu
   refine pure_ (i := 9) (N := some 49) (v := ?_) (a' := ?_) #[true, true, true, true, true, true, true, true, true, true, false, false] rfl rfl (qZ0 HT_.out (by kernel_rfl)) (fun _ _ _ h => h) (Or.inl ⟨by rfl, ?_⟩) ?_ ?_
   rotate_left
   ·intro w'
    go_simp
    with_reducible rfl
   rotate_left
   ·exact pu
   refine pure_ (i := 10) (N := some 9) (v := ?_) (a' := ?_) #[true, true, true, true, true, true, true, true, true, true, true, false] rfl rfl (qZ0 HT_.out (by kernel_rfl)) (fun _ _ _ h => h) (Or.inl ⟨by rfl, ?_⟩) ?_ ?_
   rotate_left
   ·intro w'
    go_simp
    with_reducible rfl
   rotate_left
   ·exact pu
   refine pure_ (i := 11) (N := some 10) (v := ?_) (a' := ?_) #[true, true, true, true, true, true, true, true, true, true, true, true] rfl rfl (qZ0 HT_.out (by kernel_rfl)) (fun _ _ _ h => h) (Or.inl ⟨by rfl, ?_⟩) ?_ ?_
   rotate_left
   ·intro w'
    go_simp
    with_reducible rfl
   rotate_left
   ·exact pu
   refine done_ (qW0 HT_.out (by kernel_rfl)) ?_
   have vR := lc13 aT.out
   try go_wp2_with (first | ((with_reducible refine gf 14 ?_); refine gC (some 56) Tryz.func14 (qZx.calls _ _ _ _ _ _ _ _ _ _ _ _ _ jR mJ _ qC.out) ?_; rintro e wP ⟨rfl, hb⟩; refine ⟨_, rfl, ?_⟩; replace aT := bB aT hb; replace HB := s1 HB a8 hb; (try clear hb); (try clear hb2); (try clear hk); (try clear hi)))
   go_ret2
   exact ⟨by first | rfl | (simp [qQj, qQk] <;> rfl) | (simp only [<- e4]; first | rfl | (simp [qQj, qQk] <;> rfl)) | (simp [*, qQj, qQk] <;> rfl), by exact h1q HB.out a8.out⟩
mutual
def qQe.j0 : Nat -> Int -> Bool -> Int -> List Int -> Int -> List (S48) -> Int -> Int -> Int -> Int -> List (S54) -> Int -> Int -> Int -> Int -> Int -> Int -> Option (List Int × List Int × Int)
 | 0, _, _, _, _, _, _, _, _, _, _, _, _, _, _, _, _, _ => none
 | k + 1, x2, wE, d0, d1, dJ, aK, dK, dL, dM, dN, dO, dP, dQ, dR, dS, dT, dU => if wE = true then (some (([] : List Int), ([] : List Int), 1)) else (qQe.l0 k x2 ([] : List (S48)) 0 d0 d1 dJ aK dK dL dM dN dO dP dQ dR dS dT dU)
def qQe.l0 : Nat -> Int -> List (S48) -> Int -> Int -> List Int -> Int -> List (S48) -> Int -> Int -> Int -> Int -> List (S54) -> Int -> Int -> Int -> Int -> Int -> Int -> Option (List Int × List Int × Int)
 | 0, _, _, _, _, _, _, _, _, _, _, _, _, _, _, _, _, _, _ => none
 | k + 1, x2, x8, x9, d0, d1, dJ, aK, dK, dL, dM, dN, dO, dP, dQ, dR, dS, dT, dU => if x9 < (aK.length : Int) then (if 0 <= x9 then ((qZm.f ((qQb aK x9).f0) ((qQb aK x9).f1) ((qQb aK x9).f2) ((qQb aK x9).f3) ((qQb aK x9).f4) ((qQb aK x9).f5) ((qQb aK x9).f6) ((qQb aK x9).f7) ((qQb aK x9).f8) ((qQb aK x9).f9) ((qQb aK x9).f10) ((qQb aK x9).f11) ((qQb aK x9).f12)).bind fun mM => (if mM = true then ((qYg.f ((qQb aK x9).f0) ((qQb aK x9).f1) ((qQb aK x9).f2) ((qQb aK x9).f3) ((qQb aK x9).f4) ((qQb aK x9).f5) ((qQb aK x9).f6) ((qQb aK x9).f7) ((qQb aK x9).f8) ((qQb aK x9).f9) ((qQb aK x9).f10) ((qQb aK x9).f11) ((qQb aK x9).f12)).bind fun mN => (if mN = true then ((some (([(⟨(qQb aK x9).f0, (qQb aK x9).f1, (qQb aK x9).f2, (qQb aK x9).f3, (qQb aK x9).f4, (qQb aK x9).f5, (qQb aK x9).f6, (qQb aK x9).f7, (qQb aK x9).f8, (qQb aK x9).f9, (qQb aK x9).f10, (qQb aK x9).f11, (qQb aK x9).f12⟩ : S48)] : List (S48)) : List (S48))).bind fun fU => (if x8.length + fU.length < 1353245080339 then (qQe.l0 k x2 (x8 ++ fU) (wrap64 (x9 + 1)) d0 d1 dJ aK dK dL dM dN dO dP dQ dR dS dT dU) else (none))) else (qQe.l0 k x2 x8 (wrap64 (x9 + 1)) d0 d1 dJ aK dK dL dM dN dO dP dQ dR dS dT dU))) else (some (([] : List Int), ([] : List Int), 1)))) else (none)) else (if (x8.length : Int) = 0 then (some (([] : List Int), ([] : List Int), 0)) else ((qYv.f k dJ aK dK dL dM dN dO dP dQ dR dS dT dU x2).bind fun e7 => (if e7 = 4 then ((qQc.f k d0 d1 dJ aK dK dL dM dN dO dP dQ dR dS dT dU x8).bind fun jD => (some (jD.1, jD.2.1, jD.2.2))) else (qQe.l1 k x2 x8 e7 0 ([] : List Int) ([] : List Int)))))
def qQe.l1 : Nat -> Int -> List (S48) -> Int -> Int -> List Int -> List Int -> Option (List Int × List Int × Int)
 | 0, _, _, _, _, _, _ => none
 | k + 1, x2, x8, u6, g3, fS, fT => if g3 < (x8.length : Int) then (if 0 <= g3 then ((qQp.f k ((qQb x8 g3).f0) ((qQb x8 g3).f1) ((qQb x8 g3).f2) ((qQb x8 g3).f3) ((qQb x8 g3).f4) ((qQb x8 g3).f5) ((qQb x8 g3).f6) ((qQb x8 g3).f7) ((qQb x8 g3).f8) ((qQb x8 g3).f9) ((qQb x8 g3).f10) ((qQb x8 g3).f11) ((qQb x8 g3).f12) u6 x2).bind fun jE => (if jE.2 = 0 then ((some (([(qQb x8 g3).f0] : List Int) : List Int)).bind fun cT => (if fS.length + cT.length < 17592186044416 then ((some (([jE.1] : List Int) : List Int)).bind fun cZ => (if fT.length + cZ.length < 17592186044416 then (qQe.l1 k x2 x8 u6 (wrap64 (g3 + 1)) (fS ++ cT) (fT ++ cZ)) else (none))) else (none))) else (some (([] : List Int), ([] : List Int), jE.2)))) else (none)) else (some (fS, fT, 0))
end
def qQe.f (k : Nat) (a4 : Int) (b6 : List Int) (bD : Int) (aN : List (S48)) (bF bJ bX cC : Int) (cG : List (S54)) (cD cE cF bL bM bP a2 : Int) : Option (List Int × List Int × Int) := (qZc.f k b6).bind fun mL => (if mL = true then ((qZl.f a2).bind fun kT => (qQe.j0 k a2 (!kT) a4 b6 bD aN bF bJ bX cC cG cD cE cF bL bM bP)) else (qQe.j0 k a2 true a4 b6 bD aN bF bJ bX cC cG cD cE cF bL bM bP))
def qQe.T23 : Bool × List (List Nat × List Nat) := (true, [([], []), ([0], [0]), ([], []), ([], []), ([2, 3], [2, 3]), ([4], [4]), ([5], [5]), ([6], [6]), ([1, 7], [1, 7]), ([], []), ([9], [9]), ([], []), ([11], [11]), ([10, 12, 8], [10, 12]), ([0, 1, 2, 3, 4, 5, 6, 7, 8, 9, 10], []), ([14, 8, 13, 0, 1, 2, 3, 4, 5, 6, 7, 8, 9, 10], [8, 14]), ([0, 1, 2, 3, 4, 5, 6, 7, 8, 9, 10, 11, 12, 13, 14, 15], []), ([16, 13, 15, 0, 1, 2, 3, 4, 5, 6, 7, 8, 9, 10, 11, 12, 13, 14, 15], [13, 16])])
def qQe.B23 : List Nat := [0, 1, 0, 0, 12, 28, 60, 124, 255, 0, 512, 0, 2048, 8191, 2047, 32767, 65535, 131071]
theorem qQe.tab23 : rtab .any (opsOf Tryz.f9 23) = qQe.T23 := by kernel_rfl
theorem qQe.bits23 : waitsOk qQe.T23.2 qQe.B23 = true := by kernel_rfl
section
variable {P : Program} {ops : Array Oper} {Q : Exit -> Act -> World -> Prop} {S : World -> Prop} {ds : List Nat} {fuel : Nat} {a a' : Act} {w : World} {oi : Oper} {v : Value} {T : Bool × List (List Nat × List Nat)} {B : List Nat}
def qQe.fl (n m : Nat) : Array Bool := ((List.range n).map fun j => m.testBit j).toArray
theorem qQe.y (i N n m : Nat) {l : Array Bool} (hT : rtab .any ops = T) (h : wpAnyLast P .any ops Q S ds fuel (qQe.fl n m) a' w)
  (hi : ops[i]? = some oi := by rfl) (hN : oi.dst = some N := by rfl) (hc : anyT T l.toList (qQe.fl n m).toList i = true := by kernel_rfl)
  (hQ : ∀ c a w, Q (.panic c) (a.put oi.dst v) w -> Q (.panic c) a w := by exact fun _ _ _ h => h) (hw : Region.wanted oi (yielded ops a.tmps) = true := by rfl)
  (hy : ∀ w, (execOp a.eval oi).run P w = .ok (.value v) w := by (intro w'; go_simp; with_reducible rfl)) (ha : a.put (some N) v = a' := by (simp only [Act.put, List.setIfInBounds_toArray, List.set_cons_zero, List.set_cons_succ, i64_w, i32_w]; rfl)) :
  wpAnyLast P .any ops Q S ds (fuel + 1) l a w := pure_ (N := some N) (qQe.fl n m) hi hN (qZ0 hT hc) hQ (Or.inl ⟨hw, hy⟩) ha h
theorem qQe.t (i N n m : Nat) {l : Array Bool} (hT : rtab .any ops = T) (hB : waitsOk T.2 B = true) (hS : S w) (h : wpAnyLast P .any ops Q S ds fuel (qQe.fl n m) a' w)
  (hi : ops[i]? = some oi := by rfl) (hN : oi.dst = some N := by rfl) (hc : takeW T B ds l.toList (qQe.fl n m).toList i = true := by kernel_rfl)
  (hQ : ∀ c a w, Q (.panic c) (a.put oi.dst v) w -> Q (.panic c) a w := by exact fun _ _ _ h => h) (hw : Region.wanted oi (yielded ops a.tmps) = true := by rfl)
  (hy : ∀ w, S w -> (execOp a.eval oi).run P w = .ok (.value v) w := by (intro w' hs_; (try dsimp only at hs_); go_simp; with_reducible rfl)) (ha : a.put (some N) v = a' := by (simp only [Act.put, List.setIfInBounds_toArray, List.set_cons_zero, List.set_cons_succ, i64_w, i32_w]; rfl)) :
  wpAnyLast P .any ops Q S ds (fuel + 1) l a w := take_ (N := some N) (qQe.fl n m) hi hN (qXm hT hB hc) hQ (Or.inl ⟨hw, hy⟩) hS ha h
end
set_option maxHeartbeats 8000000 in
set_option maxRecDepth 100000 in
theorem qQe.calls (k : Nat) (a4 : Int) (d2 : Option Addr) (d4 : Nat) (b6 : List Int) (bD : Int) (e9 : Option Addr) (fC : Nat) (aN : List (S48)) (bF bJ bX cC : Int) (fA : Option Addr) (fD : Nat) (cG : List (S54)) (cD cE cF bL bM bP a2 : Int) (r1 r2 : List Int) (r3 : Int) (w : World) (gQ : Kd.C (Kd.int .i64) w d2 b6.length b6) (gM : b6.length <= d4) (gR : Kd.C k48 w e9 aN.length aN) (gN : aN.length <= fC) (gS : Kd.C k54 w fA cG.length cG) (gO : cG.length <= fD) (h : qQe.f k a4 b6 bD aN bF bJ bX cC cG cD cE cF bL bM bP a2 = some (r1, r2, r3)) :
  Calls Tryz.prog 9 #[.agg #[.int .i64 a4, .slice d2 b6.length d4], .agg #[.int .i64 bD, .slice e9 aN.length fC, .int .i64 bF, .int .i64 bJ, .int .i64 bX, .int .i64 cC, .slice fA cG.length fD, .int .i64 cD, .int .i64 cE, .int .i64 cF, .int .i64 bL, .int .i64 bM, .int .i64 bP], .int .i64 a2] w fun e w' => ∃ v0_ v1_ : Value, e = .returned (.tuple #[.agg #[v0_, v1_], .int .i64 r3]) /\ Kd.R (Kd.int .i64) 3 w' w.heap.size (fun _ => True) v0_ r1 /\ Kd.R (Kd.int .i64) 2 w' w.heap.size (fun _ => True) v1_ r2 /\ Below w.heap.size w w' := by
 have vL := Tryz.underlying37
 have rI := Tryz.underlying28
 have vM := Tryz.underlying39
 have l8 := Tryz.underlying48
 have gE := am gQ
 have fZ := am gM
 clear gQ gM
 have cU := am gR
 have gA := am gN
 clear gR gN
 have gF := am gS
 have gB := am gO
 clear gS gO
 have HB := am (Below.refl w.heap.size w)
 have H := h
 unfold qQe.f at H
 clear h
 have lT := am H
 clear H
 go_enter Tryz.func9, Tryz.ntmps9
 go_upto_region 1 with (first | ((with_reducible refine gd 3 ?_); refine bE 3 _ 37 ?_; intro cX hg w5 hbox hb; have aH := am hbox; have r9 := e0 HB hg; have aV := e0 HB hg; replace HB := s0 HB hb; clear hb hbox hg) | ((with_reducible refine gd 4 ?_); refine bE 4 _ 28 ?_; intro gL hg w6 hbox hb; have aI := am hbox; have sA := e1 HB aV hg; have aW := e1 HB aV hg; replace HB := s1 HB aV hb; have bY := nL aH hg; have b1 := nG aH hg; replace aH := bB aH hb; clear hb hbox hg) | ((with_reducible refine gd 6 ?_); refine bE 6 _ 39 ?_; intro a6 hg w7 hbox hb; have aE := am hbox; have sB := e2 HB aV aW hg; have aX := e2 HB aV aW hg; replace HB := s2 HB aV aW hb; have bZ := nL aH hg; have b2 := nG aH hg; replace aH := bB aH hb; have bR := nL aI hg; have bT := nG aI hg; replace aI := bB aI hb; clear hb hbox hg))
 (try simp only [Act.put, List.setIfInBounds_toArray, List.set_cons_zero, List.set_cons_succ])
 go_cut [23] (fun vX wc => ∃ (kq : Nat) (iP : Bool), vX = .bool iP /\ Aside0 (qQe.j0 kq a2 iP a4 b6 bD aN bF bJ bX cC cG cD cE cF bL bM bP = some (r1, r2, r3)) /\ Aside0 (kq <= k) /\ Aside0 (wc.heap[cX]? = some (.cells #[.int .i64 a4, (.slice d2 b6.length d4)] 37 (0, 0))) /\ Aside0 (wc.heap[gL]? = some (.cells #[.int .i64 bD, (.slice e9 aN.length fC), .int .i64 bF, .int .i64 bJ, .int .i64 bX, .int .i64 cC, (.slice fA cG.length fD), .int .i64 cD, .int .i64 cE, .int .i64 cF, .int .i64 bL, .int .i64 bM, .int .i64 bP] 28 (0, 0))) /\ Aside0 (wc.heap[a6]? = some (.cells #[(.slice none 0 0), (.slice none 0 0)] 39 (0, 0))) /\ Aside0 (Below w.heap.size w wc))
 case first =>
  have H := lT.out
  clear lT
  obtain ⟨mL, A8, H⟩ := bd H
  by_cases c9 : mL = true
  case neg =>
   replace c9 := Bool.eq_false_iff.mpr c9
   subst c9
   rw [if_neg (show ¬ (false = true) by decide)] at H
   have H' := am H
   clear H
   have sZ := bY.out
   have t0 := b1.out
   have tA := bZ.out
   have t1 := b2.out
   have fO : w7.cell? ⟨cX, 0, none⟩ = some (.int .i64 a4) := (qQa aH.out 0).trans rfl
   have fP : w7.cell? ⟨cX, 1, none⟩ = some (.slice d2 b6.length d4) := (qQa aH.out 1).trans rfl
   have fQ := qQd aH.out 0
   have fR := qQd aH.out 1
   go_wp2_with (first | ((with_reducible refine gf 31 ?_); refine gC (some 17) Tryz.func31 (qZc.calls _ _ _ _ false _ ?side1 ?side2 A8.out) ?_; (case side1 => exact cq ((Kd.qZp gE.out HB.out))); (case side2 => exact fZ.out); rintro e w' ⟨rfl, ⟨nd, rfl⟩⟩; refine ⟨_, rfl, ?_⟩))
   go_meet
   case rel => exact ⟨_, (true), fr, H', o0, bA aH, bA aI, bA aE, a3_ HB aV aW aX⟩
  subst c9
  rw [if_pos rfl] at H
  obtain ⟨kT, qA, H⟩ := bd H
  have H' := am H
  clear H
  have oQ := bY.out
  have oS := b1.out
  have sY := bZ.out
  have tZ := b2.out
  have d9 : w7.cell? ⟨cX, 0, none⟩ = some (.int .i64 a4) := (qQa aH.out 0).trans rfl
  have eA : w7.cell? ⟨cX, 1, none⟩ = some (.slice d2 b6.length d4) := (qQa aH.out 1).trans rfl
  have eB := qQd aH.out 0
  have eC := qQd aH.out 1
  go_wp2_with (first | ((with_reducible refine gf 31 ?_); refine gC (some 17) Tryz.func31 (qZc.calls _ _ _ _ true _ ?side1 ?side2 A8.out) ?_; (case side1 => exact cq ((Kd.qZp gE.out HB.out))); (case side2 => exact fZ.out); rintro e w' ⟨rfl, ⟨nd, rfl⟩⟩; refine ⟨_, rfl, ?_⟩) | (go_at_call 32; (with_reducible refine (qZl.calls _ kT _ qA.out).mono ?_); rintro e w' ⟨rfl, ⟨nd, rfl⟩⟩))
  go_meet
  case rel => exact ⟨_, (!kT), fr, H', o0, bA aH, bA aI, bA aE, a3_ HB aV aW aX⟩
 case rest =>
  clear lT
  try clear c9
  try clear d9
  try clear eA
  try clear fO
  try clear fP
  try clear eB
  try clear eC
  try clear fQ
  try clear fR
  obtain ⟨kq, iP, rfl, HA, jY, aH, aI, aE, HB⟩ := hcut
  rcases kq with _ | p8
  ·exact absurd HA.out (by simp [qQe.j0])
  have H := HA.out
  clear HA
  simp only [qQe.j0] at H
  by_cases mW : iP = true
  ·subst mW
   rw [if_pos rfl] at H
   simp only [Option.some.injEq, Prod.mk.injEq] at H
   obtain ⟨rfl, rfl, rfl⟩ := H
   have tB := b2.out
   have t2 := bZ.out
   have tC := bT.out
   have t3 := bR.out
   have hU : wc.cell? ⟨a6, 0, none⟩ = some (.slice none 0 0) := (qQa aE.out 0).trans rfl
   have hV : wc.cell? ⟨a6, 1, none⟩ = some (.slice none 0 0) := (qQa aE.out 1).trans rfl
   have hW := qQd aE.out 0
   have hX := qQd aE.out 1
   go_wp2
   refine bodyPost_ret (qY4 rfl _ _ a6 39 #[.slice none 0 0, .slice none 0 0] (0, 0) _ rfl (by refine bw ?_; refine qQ0 (cs := #[.slice none 0 0, .slice none 0 0]) ?_ 1 _ rfl; refine bw ?_; refine qQ0 (cs := #[.slice none 0 0, .slice none 0 0]) ?_ 0 _ rfl; refine bw ?_; exact aE.out) Tryz.underlying39 rfl (by kernel_rfl)) rfl ?_
   exact ⟨_, _, er, by first | exact Kd.R_nil _ _ _ _ _ | exact Kd.N_nil _ _ _ _ _ | exact Kd.V_nil _ _ _ _ _ | exact Kd.Q_nil _ _ _ _ _ | exact Kd.S_nil _ _ _ _ _, by first | exact Kd.R_nil _ _ _ _ _ | exact Kd.N_nil _ _ _ _ _ | exact Kd.V_nil _ _ _ _ _ | exact Kd.Q_nil _ _ _ _ _ | exact Kd.S_nil _ _ _ _ _, by exact h3q HB.out aV.out aW.out aX.out⟩
  replace mW := Bool.eq_false_iff.mpr mW
  subst mW
  rw [if_neg (show ¬ (false = true) by decide)] at H
  have H' := am H
  clear H
  go_wp2
  go_loopg [8, 9] p8 (fun kq v8 v9 w' => ∃ (a0 : List (S48)) (aU : Int), v9 = .int .i64 aU /\ Aside0 (qQe.l0 kq a2 a0 aU a4 b6 bD aN bF bJ bX cC cG cD cE cF bL bM bP = some (r1, r2, r3)) /\ Aside0 (kq <= p8) /\ Aside0 (Kd.R k48 48 w' w.heap.size (fun _ => True) v8 a0) /\ Aside0 (w'.heap[cX]? = some (.cells #[.int .i64 a4, (.slice d2 b6.length d4)] 37 (0, 0))) /\ Aside0 (w'.heap[gL]? = some (.cells #[.int .i64 bD, (.slice e9 aN.length fC), .int .i64 bF, .int .i64 bJ, .int .i64 bX, .int .i64 cC, (.slice fA cG.length fD), .int .i64 cD, .int .i64 cE, .int .i64 cF, .int .i64 bL, .int .i64 bM, .int .i64 bP] 28 (0, 0))) /\ Aside0 (w'.heap[a6]? = some (.cells #[(.slice none 0 0), (.slice none 0 0)] 39 (0, 0))) /\ Aside0 (Below w.heap.size w w'))
  case atStart => exact ⟨(([] : List (S48))), (0), fr, H', ⟨Nat.le_refl _⟩, ⟨by first | exact Kd.R_nil _ _ _ _ _ | exact Kd.N_nil _ _ _ _ _ | exact Kd.V_nil _ _ _ _ _ | exact Kd.Q_nil _ _ _ _ _ | exact Kd.S_nil _ _ _ _ _⟩, bA aH, bA aI, bA aE, a3_ HB aV aW aX⟩
  case round =>
   clear H'
   try clear c9
   try clear mW
   try clear d9
   try clear eA
   try clear fO
   try clear fP
   try clear hU
   try clear hV
   try clear eB
   try clear eC
   try clear fQ
   try clear fR
   try clear hW
   try clear hX
   obtain ⟨a0, aU, rfl, HA, mV, aZ, aH, aI, aE, HB⟩ := hrel
   rcases gk with _ | k2
   ·exact absurd HA.out (by simp [qQe.l0])
   have H := HA.out
   clear HA
   simp only [qQe.l0] at H
   by_cases iZ : aU < (aN.length : Int)
   ·rw [if_pos iZ] at H
    have k5 := decide_eq_true iZ
    clear iZ
    by_cases nQ : 0 <= aU
    case neg =>
     rw [if_neg nQ] at H
     exact absurd H (by simp)
    rw [if_pos nQ] at H
    have nR := decide_eq_true nQ
    clear nQ
    obtain ⟨mM, qB, H⟩ := bd H
    by_cases nS : mM = true
    case neg =>
     replace nS := Bool.eq_false_iff.mpr nS
     subst nS
     rw [if_neg (show ¬ (false = true) by decide)] at H
     simp only [Option.some.injEq, Prod.mk.injEq] at H
     obtain ⟨rfl, rfl, rfl⟩ := H
     have tH := b1.out
     have t8 := bY.out
     have tI := bR.out
     have t9 := bT.out
     have rR := lc13 aI.out
     have d7 : 0 <= (aU : Int) := yd
     have d8 : aU < (aN.length : Int) := yd
     obtain ⟨gH, jJ, dW⟩ := qXr cU.out aU d7 d8
     cases jJ
     replace dW := h13 HB dW
     replace d7 := eq_true d7
     replace d8 := eq_true d8
     go_wp2_with (first | ((with_reducible refine gf 33 ?_); refine gC (some 37) Tryz.func33 (qZm.calls _ _ _ _ _ _ _ _ _ _ _ _ _ false _ qB.out) ?_; rintro e u3 ⟨rfl, hb⟩; refine ⟨_, rfl, ?_⟩; replace aZ := Rb aZ hb; replace aH := bB aH hb; replace aI := bB aI hb; replace aE := bB aE hb; replace HB := s3 HB aV aW aX hb; (try clear hb); (try clear hb2); (try clear hk); (try clear hi); have tJ := b2.out; have uA := bZ.out; have j5 : u3.cell? ⟨a6, 0, none⟩ = some (.slice none 0 0) := (qQa aE.out 0).trans rfl; have j6 : u3.cell? ⟨a6, 1, none⟩ = some (.slice none 0 0) := (qQa aE.out 1).trans rfl; have kF := qQd aE.out 0; have kG := qQd aE.out 1))
     refine bodyPost_ret (qY4 rfl _ _ a6 39 #[.slice none 0 0, .slice none 0 0] (0, 0) _ rfl (by refine bw ?_; refine qQ0 (cs := #[.slice none 0 0, .slice none 0 0]) ?_ 1 _ rfl; refine bw ?_; refine qQ0 (cs := #[.slice none 0 0, .slice none 0 0]) ?_ 0 _ rfl; refine bw ?_; exact aE.out) Tryz.underlying39 rfl (by kernel_rfl)) rfl ?_
     exact ⟨_, _, er, by first | exact Kd.R_nil _ _ _ _ _ | exact Kd.N_nil _ _ _ _ _ | exact Kd.V_nil _ _ _ _ _ | exact Kd.Q_nil _ _ _ _ _ | exact Kd.S_nil _ _ _ _ _, by first | exact Kd.R_nil _ _ _ _ _ | exact Kd.N_nil _ _ _ _ _ | exact Kd.V_nil _ _ _ _ _ | exact Kd.Q_nil _ _ _ _ _ | exact Kd.S_nil _ _ _ _ _, by exact h3q HB.out aV.out aW.out aX.out⟩
    subst nS
    rw [if_pos rfl] at H
    obtain ⟨mN, r5, H⟩ := bd H
    by_cases hM : mN = true
    case neg =>
     replace hM := Bool.eq_false_iff.mpr hM
     subst hM
     rw [if_neg (show ¬ (false = true) by decide)] at H
     have H' := am H
     clear H
     have tF := b1.out
     have t6 := bY.out
     have tG := bR.out
     have t7 := bT.out
     have rQ := lc13 aI.out
     have d7 : 0 <= (aU : Int) := yd
     have d8 : aU < (aN.length : Int) := yd
     obtain ⟨gH, jJ, dW⟩ := qXr cU.out aU d7 d8
     cases jJ
     replace dW := h13 HB dW
     replace d7 := eq_true d7
     replace d8 := eq_true d8
     go_wp2_with (first | ((with_reducible refine gf 33 ?_); refine gC (some 37) Tryz.func33 (qZm.calls _ _ _ _ _ _ _ _ _ _ _ _ _ true _ qB.out) ?_; rintro e wB ⟨rfl, hb⟩; refine ⟨_, rfl, ?_⟩; replace aZ := Rb aZ hb; replace aH := bB aH hb; replace aI := bB aI hb; replace aE := bB aE hb; replace HB := s3 HB aV aW aX hb; (try clear hb); (try clear hb2); (try clear hk); (try clear hi); have o3 := lc13 aI.out; have gY : 0 <= (aU : Int) := yd; have gZ : aU < (aN.length : Int) := yd; obtain ⟨i9, l6, fK⟩ := qXr cU.out aU gY gZ; obtain rfl : gH = i9 := (by injection l6); replace fK := h13 HB fK; replace gY := eq_true gY; replace gZ := eq_true gZ) | ((with_reducible refine gf 13 ?_); refine gC (some 45) Tryz.func13 (qYg.calls _ _ _ _ _ _ _ _ _ _ _ _ _ false _ r5.out) ?_; rintro e wC ⟨rfl, hb⟩; refine ⟨_, rfl, ?_⟩; replace aZ := Rb aZ hb; replace aH := bB aH hb; replace aI := bB aI hb; replace aE := bB aE hb; replace HB := s3 HB aV aW aX hb; (try clear hb); (try clear hb2); (try clear hk); (try clear hi)))
     go_roundg k2
     case measure => have := jY.out; have := mV.out; omega
     case rel => exact ⟨(a0), (wrap64 (aU + 1)), fr, H', o2 jY mV, rA aZ, bA aH, bA aI, bA aE, a3_ HB aV aW aX⟩
    subst hM
    rw [if_pos rfl] at H
    obtain ⟨fU, jL⟩ : ∃ y_ : List (S48), y_ = (([(⟨(qQb aN aU).f0, (qQb aN aU).f1, (qQb aN aU).f2, (qQb aN aU).f3, (qQb aN aU).f4, (qQb aN aU).f5, (qQb aN aU).f6, (qQb aN aU).f7, (qQb aN aU).f8, (qQb aN aU).f9, (qQb aN aU).f10, (qQb aN aU).f11, (qQb aN aU).f12⟩ : S48)] : List (S48))) := ⟨_, rfl⟩
    replace H : (if a0.length + fU.length < 1353245080339 then (qQe.l0 k2 a2 (a0 ++ fU) (wrap64 (aU + 1)) a4 b6 bD aN bF bJ bX cC cG cD cE cF bL bM bP) else (none)) = some (r1, r2, r3) := by exact hyq H jL
    have k4 := am jL
    clear jL
    by_cases nT : a0.length + fU.length < 1353245080339
    case neg =>
     rw [if_neg nT] at H
     exact absurd H (by simp)
    rw [if_pos nT] at H
    have nC := am nT
    clear nT
    obtain ⟨pA, jM⟩ : ∃ y_ : List (S48), y_ = (a0 ++ fU) := ⟨_, rfl⟩
    replace H : (qQe.l0 k2 a2 pA (wrap64 (aU + 1)) a4 b6 bD aN bF bJ bX cC cG cD cE cF bL bM bP) = some (r1, r2, r3) := by exact hyq H jM
    have nE := am jM
    clear jM
    have H' := am H
    clear H
    have tD := b1.out
    have t4 := bY.out
    have tE := bR.out
    have t5 := bT.out
    have rN := lc13 aI.out
    have d7 : 0 <= (aU : Int) := yd
    have d8 : aU < (aN.length : Int) := yd
    obtain ⟨gH, jJ, dW⟩ := qXr cU.out aU d7 d8
    cases jJ
    replace dW := h13 HB dW
    replace d7 := eq_true d7
    replace d8 := eq_true d8
    go_wp2_with (first | ((with_reducible refine gf 33 ?_); refine gC (some 37) Tryz.func33 (qZm.calls _ _ _ _ _ _ _ _ _ _ _ _ _ true _ qB.out) ?_; rintro e wM ⟨rfl, hb⟩; refine ⟨_, rfl, ?_⟩; replace aZ := Rb aZ hb; replace aH := bB aH hb; replace aI := bB aI hb; replace aE := bB aE hb; replace HB := s3 HB aV aW aX hb; (try clear hb); (try clear hb2); (try clear hk); (try clear hi); have rO := lc13 aI.out; have gY : 0 <= (aU : Int) := yd; have gZ : aU < (aN.length : Int) := yd; obtain ⟨i9, l6, fK⟩ := qXr cU.out aU gY gZ; obtain rfl : gH = i9 := (by injection l6); replace fK := h13 HB fK; replace gY := eq_true gY; replace gZ := eq_true gZ) | ((with_reducible refine gf 13 ?_); refine gC (some 45) Tryz.func13 (qYg.calls _ _ _ _ _ _ _ _ _ _ _ _ _ true _ r5.out) ?_; rintro e wN ⟨rfl, hb⟩; refine ⟨_, rfl, ?_⟩; replace aZ := Rb aZ hb; replace aH := bB aH hb; replace aI := bB aI hb; replace aE := bB aE hb; replace HB := s3 HB aV aW aX hb; (try clear hb); (try clear hb2); (try clear hk); (try clear hi); have rP := lc13 aI.out; have kP : 0 <= (aU : Int) := yd; have kQ : aU < (aN.length : Int) := yd; obtain ⟨nH, qM, jK⟩ := qXr cU.out aU kP kQ; obtain rfl : gH = nH := (by injection qM); replace jK := h13 HB jK; replace kP := eq_true kP; replace kQ := eq_true kQ) | ((with_reducible refine gd 52 ?_); refine Kd.R_lit k48 _ 48 ?hg (N := 52) ?hd (xs := ([(⟨(qQb aN aU).f0, (qQb aN aU).f1, (qQb aN aU).f2, (qQb aN aU).f3, (qQb aN aU).f4, (qQb aN aU).f5, (qQb aN aU).f6, (qQb aN aU).f7, (qQb aN aU).f8, (qQb aN aU).f9, (qQb aN aU).f10, (qQb aN aU).f11, (qQb aN aU).f12⟩ : S48)] : List (S48))) (inner := [.int .i64 ((qQb aN aU).f0), .int .i64 ((qQb aN aU).f1), .int .i64 ((qQb aN aU).f2), .int .i64 ((qQb aN aU).f3), .int .i64 ((qQb aN aU).f4), .int .i64 ((qQb aN aU).f5), .bool ((qQb aN aU).f6), .int .i64 ((qQb aN aU).f7), .int .i64 ((qQb aN aU).f8), .int .i64 ((qQb aN aU).f9), .int .i64 ((qQb aN aU).f10), .int .i64 ((qQb aN aU).f11), .int .i64 ((qQb aN aU).f12)]) (ok := fun _ => True) (okp := fun _ => True) ?hr ?hp (fun _ hk => hk) trivial (Below.refl _ _) (Nat.le_refl _) (by simp) ?_; (case hd => rfl); (case hg => rfl); (case hr => first | (go_simp; done) | (go_simp; rfl)); (case hp => exact (Reps.front (show Kd.M k48 _ _ _ (⟨(qQb aN aU).f0, (qQb aN aU).f1, (qQb aN aU).f2, (qQb aN aU).f3, (qQb aN aU).f4, (qQb aN aU).f5, (qQb aN aU).f6, (qQb aN aU).f7, (qQb aN aU).f8, (qQb aN aU).f9, (qQb aN aU).f10, (qQb aN aU).f11, (qQb aN aU).f12⟩ : S48) [.int .i64 ((qQb aN aU).f0), .int .i64 ((qQb aN aU).f1), .int .i64 ((qQb aN aU).f2), .int .i64 ((qQb aN aU).f3), .int .i64 ((qQb aN aU).f4), .int .i64 ((qQb aN aU).f5), .bool ((qQb aN aU).f6), .int .i64 ((qQb aN aU).f7), .int .i64 ((qQb aN aU).f8), .int .i64 ((qQb aN aU).f9), .int .i64 ((qQb aN aU).f10), .int .i64 ((qQb aN aU).f11), .int .i64 ((qQb aN aU).f12)] from (zZr _ _ _ (⟨(qQb aN aU).f0, (qQb aN aU).f1, (qQb aN aU).f2, (qQb aN aU).f3, (qQb aN aU).f4, (qQb aN aU).f5, (qQb aN aU).f6, (qQb aN aU).f7, (qQb aN aU).f8, (qQb aN aU).f9, (qQb aN aU).f10, (qQb aN aU).f11, (qQb aN aU).f12⟩ : S48) )) rfl (Reps.none _ _) rfl)); intro vZ v7 i1 hb hg_ hnew_; clear hg_ hnew_; (first | rw [<- k4.out] at i1 | (simp only [Int.reduceToNat] at i1; rw [<- k4.out] at i1)); have gD := am (Kd.qZ1 (Kd.qXc i1 (Kd.R_lt (by exact rq aZ.out))) (qQn (by exact h3q HB.out aV.out aW.out aX.out))); replace aZ := Re aZ i1 hb; replace aH := bB aH hb; replace aI := bB aI hb; replace aE := bB aE hb; replace HB := s3 HB aV aW aX hb; clear hb i1; obtain ⟨qE, qL, qS⟩ := Kd.qZq gD.out; subst qS) | ((with_reducible refine qY9 (b := .append) (xs := #[.tmp 46, .tmp 52]) rfl ?_); at_builtin; refine Kd.qWg k48 (w0 := w) w.heap.size rfl (.tmp 46) (.tmp 52) 23 48 (.agg #[(.int .i64 0), (.int .i64 0), (.int .i64 0), (.int .i64 0), (.int .i64 0), (.int .i64 0), (.bool false), (.int .i64 0), (.int .i64 0), (.int .i64 0), (.int .i64 0), (.int .i64 0), (.int .i64 0)]) 104 rfl Tryz.underlying23 info48 rfl (by decide) (by omega) u8 a0 fU _ _ _ (fun k_ => some k_ ≠ (.slice qE fU.length qL : Value).ownBlock) (fun _ => False) rfl rfl ?aO ?aR (fun _ _ h => h) (fun _ h => h.elim) ?aF ?aB ?aS ?aL ?_; (case aR => exact cq ((Kd.qQq gD.out).2.2)); (case aB => exact (by exact h3q HB.out aV.out aW.out aX.out)); (case aF => exact (fun k_ hk => Kd.fresh' (Kd.R_lt (by exact rq gD.out)) k_ hk)); (case aO => exact (by refine rw_ ?_; exact Kd.qQ4 aZ.out (fun _ hk => hk.2))); (case aS => exact (qQn (by exact h3q HB.out aV.out aW.out aX.out))); (case aL => have := nC.out; omega); intro v0 wA ho hb hg hat; rw [<- nE.out] at ho; replace aH := bG aH hg aZ; replace aI := bG aI hg aZ; replace aE := bG aE hg aZ; replace gD := am (Kd.qWc (ok := (fun _ => True)) (by exact rq gD.out) hg hat); replace HB := am hb; have m8 := am ho; clear aZ; clear ho hb hg hat))
    go_roundg k2
    case measure => have := jY.out; have := mV.out; omega
    case rel => exact ⟨(pA), (wrap64 (aU + 1)), fr, H', o2 jY mV, ⟨by refine rw_ ?_; exact Kd.qQ4 m8.out (fun _ hk => trivial)⟩, bA aH, bA aI, bA aE, a3_ HB aV aW aX⟩
   rw [if_neg iZ] at H
   have k5 := decide_eq_false iZ
   clear iZ
   by_cases jZ : (a0.length : Int) = 0
   ·rw [if_pos jZ] at H
    have k7 := beq_iff_eq.mpr jZ
    have k8 := bne_eq_false_iff_eq.mpr jZ
    clear jZ
    simp only [Option.some.injEq, Prod.mk.injEq] at H
    obtain ⟨rfl, rfl, rfl⟩ := H
    have tK := b1.out
    have uB := bY.out
    have tL := bR.out
    have uC := bT.out
    have rS := lc13 aI.out
    go_wp2_with (first | ((with_reducible refine gd 10 ?_); refine bE 10 _ 39 ?_; intro bQ hg p9 hbox hb; replace aZ := Rb aZ hb; have aM := am hbox; have kX := e3 HB aV aW aX hg; have a5 := e3 HB aV aW aX hg; replace HB := s3 HB aV aW aX hb; have b0 := nL aH hg; have b7 := nG aH hg; replace aH := bB aH hb; have bS := nL aI hg; have b3 := nG aI hg; replace aI := bB aI hb; have bU := nL aE hg; have b4 := nG aE hg; replace aE := bB aE hb; clear hb hbox hg; obtain ⟨vB, vH, qT⟩ := Kd.qZq aZ.out; subst qT; have tM := b7.out; have uD := b0.out; have tN := b3.out; have uE := bS.out; have tO := b4.out; have uF := bU.out; have j7 : p9.cell? ⟨bQ, 0, none⟩ = some (.slice none 0 0) := (qQa aM.out 0).trans rfl; have j8 : p9.cell? ⟨bQ, 1, none⟩ = some (.slice none 0 0) := (qQa aM.out 1).trans rfl; have kH := qQd aM.out 0; have kI := qQd aM.out 1; have tP := b2.out; have uG := bZ.out; have j9 : p9.cell? ⟨a6, 0, none⟩ = some (.slice none 0 0) := (qQa aE.out 0).trans rfl; have kA : p9.cell? ⟨a6, 1, none⟩ = some (.slice none 0 0) := (qQa aE.out 1).trans rfl; have kJ := qQd aE.out 0; have kK := qQd aE.out 1))
    refine bodyPost_ret (qY4 rfl _ _ a6 39 #[.slice none 0 0, .slice none 0 0] (0, 0) _ rfl (by refine bw ?_; refine qQ0 (cs := #[.slice none 0 0, .slice none 0 0]) ?_ 1 _ rfl; refine bw ?_; refine qQ0 (cs := #[.slice none 0 0, .slice none 0 0]) ?_ 0 _ rfl; refine bw ?_; exact aE.out) Tryz.underlying39 rfl (by kernel_rfl)) rfl ?_
    exact ⟨_, _, er, by first | exact Kd.R_nil _ _ _ _ _ | exact Kd.N_nil _ _ _ _ _ | exact Kd.V_nil _ _ _ _ _ | exact Kd.Q_nil _ _ _ _ _ | exact Kd.S_nil _ _ _ _ _, by first | exact Kd.R_nil _ _ _ _ _ | exact Kd.N_nil _ _ _ _ _ | exact Kd.V_nil _ _ _ _ _ | exact Kd.Q_nil _ _ _ _ _ | exact Kd.S_nil _ _ _ _ _, by exact h4q HB.out aV.out aW.out aX.out a5.out⟩
   rw [if_neg jZ] at H
   have k7 := beq_eq_false_iff_ne.mpr jZ
   have k8 := bne_iff_ne.mpr jZ
   have n3 : ¬ (a0 = []) := fun h_ => jZ (by rw [h_]; rfl)
   obtain ⟨e7, r6, H⟩ := bd H
   by_cases k9 : e7 = 4
   ·rw [if_pos k9] at H
    have lA := beq_iff_eq.mpr k9
    have lB := bne_eq_false_iff_eq.mpr k9
    clear k9
    obtain ⟨⟨jT, kU, rZ⟩, vA, H⟩ := bd H
    simp only [Option.some.injEq, Prod.mk.injEq] at H
    obtain ⟨rfl, rfl, rfl⟩ := H
    have tQ := b1.out
    have uH := bY.out
    have tR := bR.out
    have uI := bT.out
    have rT := lc13 aI.out
    go_wp2_with (first | ((with_reducible refine gd 10 ?_); refine bE 10 _ 39 ?_; intro bQ hg wY hbox hb; replace aZ := Rb aZ hb; have aM := am hbox; have kX := e3 HB aV aW aX hg; have a5 := e3 HB aV aW aX hg; replace HB := s3 HB aV aW aX hb; have b0 := nL aH hg; have b7 := nG aH hg; replace aH := bB aH hb; have bS := nL aI hg; have b3 := nG aI hg; replace aI := bB aI hb; have bU := nL aE hg; have b4 := nG aE hg; replace aE := bB aE hb; clear hb hbox hg; obtain ⟨vC, vI, qU⟩ := Kd.qZq aZ.out; subst qU; have tS := bS.out; have uJ := b3.out; have rU := lc13 aI.out) | ((with_reducible refine gf 15 ?_); refine gC (some 60) Tryz.func15 (qYv.calls _ _ _ _ _ _ _ _ _ _ _ _ _ _ _ _ _ _ _ e7 _ ?side1 ?side2 ?side3 ?side4 r6.out) ?_; (case side1 => exact cq ((Kd.qZp cU.out HB.out))); (case side2 => exact gA.out); (case side3 => exact cq ((Kd.qZp gF.out HB.out))); (case side4 => exact gB.out); rintro e u4 ⟨rfl, hb⟩; refine ⟨_, rfl, ?_⟩; replace aZ := Rb aZ hb; replace aH := bB aH hb; replace aI := bB aI hb; replace aE := bB aE hb; replace aM := bB aM hb; replace HB := s4 HB aV aW aX a5 hb; (try clear hb); (try clear hb2); (try clear hk); (try clear hi); have tT := bZ.out; have uK := b2.out; have tU := b0.out; have uL := b7.out; have kB : u4.cell? ⟨cX, 0, none⟩ = some (.int .i64 a4) := (qQa aH.out 0).trans rfl; have kC : u4.cell? ⟨cX, 1, none⟩ = some (.slice d2 b6.length d4) := (qQa aH.out 1).trans rfl; have kL := qQd aH.out 0; have kM := qQd aH.out 1; have rV := lc13 aI.out) | ((with_reducible refine gf 34 ?_); refine gC (some 66) Tryz.func34 (qQc.calls _ _ _ _ _ _ _ _ _ _ _ _ _ _ _ _ _ _ _ _ _ _ _ _ _ jT kU rZ _ ?side1 ?side2 ?side3 ?side4 ?side5 ?side6 ?side7 ?side8 vA.out) ?_; (case side1 => exact cq ((Kd.qZp gE.out HB.out))); (case side2 => exact fZ.out); (case side3 => exact cq ((Kd.qZp cU.out HB.out))); (case side4 => exact gA.out); (case side5 => exact cq ((Kd.qZp gF.out HB.out))); (case side6 => exact gB.out); (case side7 => exact cq ((Kd.qQq aZ.out).2.2)); (case side8 => exact (Kd.qQq aZ.out).2.1); rintro e u5 ⟨v1, v2, rfl, uQ, uR, hb⟩; refine ⟨_, rfl, ?_⟩; replace aZ := Rb aZ hb; have kY := am (Kd.qZ1 uQ (qQn (by exact h4q HB.out aV.out aW.out aX.out a5.out))); have kZ := am (Kd.qZ1 uR (qQn (by exact h4q HB.out aV.out aW.out aX.out a5.out))); replace aH := bB aH hb; replace aI := bB aI hb; replace aE := bB aE hb; replace aM := bB aM hb; replace HB := s4 HB aV aW aX a5 hb; (try clear hb); (try clear hb2); (try clear hk); (try clear hi); (try clear uQ); (try clear uR); obtain ⟨jV, j4, qV⟩ := Kd.qZq kY.out; subst qV; have tV := bU.out; have uM := b4.out; have kD : u5.cell? ⟨a6, 0, none⟩ = some (.slice none 0 0) := (qQa aE.out 0).trans rfl; have kE : u5.cell? ⟨a6, 1, none⟩ = some (.slice none 0 0) := (qQa aE.out 1).trans rfl; have kN := qQd aE.out 0; have kO := qQd aE.out 1; obtain ⟨lR, l4, qW⟩ := Kd.qZq kZ.out; subst qW))
    refine bodyPost_ret (qY4 rfl _ _ a6 39 #[.slice jV jT.length j4, .slice lR kU.length l4] (0, 0) _ rfl (by refine bw ?_; refine qQ0 (cs := #[.slice jV jT.length j4, .slice none 0 0]) ?_ 1 _ rfl; refine bw ?_; refine qQ0 (cs := #[.slice none 0 0, .slice none 0 0]) ?_ 0 _ rfl; refine bw ?_; exact aE.out) Tryz.underlying39 rfl (by kernel_rfl)) rfl ?_
    exact ⟨_, _, er, by refine rw_ ?_; exact Kd.qQ4 (Kd.R_far (p := ⟨a6, 1, none⟩) (Kd.R_far (p := ⟨a6, 0, none⟩) (Kd.qZy kY.out aE.out (by decide)) (fun _ hk => hk.2) (.slice jV jT.length j4)) (fun _ hk => hk.2) (.slice lR kU.length l4)) (fun _ hk => trivial), by refine rw_ ?_; exact Kd.qQ4 (Kd.R_far (p := ⟨a6, 1, none⟩) (Kd.R_far (p := ⟨a6, 0, none⟩) (Kd.qZy kZ.out aE.out (by decide)) (fun _ hk => hk.2) (.slice jV jT.length j4)) (fun _ hk => hk.2) (.slice lR kU.length l4)) (fun _ hk => trivial), by exact h4q HB.out aV.out aW.out aX.out a5.out⟩
   rw [if_neg k9] at H
   have lA := beq_eq_false_iff_ne.mpr k9
   have lB := bne_iff_ne.mpr k9
   have H' := am H
   clear H
   have tW := b1.out
   have uN := bY.out
   have tX := bR.out
   have uO := bT.out
   have rW := lc13 aI.out
   go_wp2_with (first | ((with_reducible refine gd 10 ?_); refine bE 10 _ 39 ?_; intro bQ hg wZ hbox hb; replace aZ := Rb aZ hb; have aM := am hbox; have kX := e3 HB aV aW aX hg; have a5 := e3 HB aV aW aX hg; replace HB := s3 HB aV aW aX hb; have b0 := nL aH hg; have b7 := nG aH hg; replace aH := bB aH hb; have bS := nL aI hg; have b3 := nG aI hg; replace aI := bB aI hb; have bU := nL aE hg; have b4 := nG aE hg; replace aE := bB aE hb; clear hb hbox hg; obtain ⟨qF, l5, qX⟩ := Kd.qZq aZ.out; subst qX; have tY := bS.out; have uP := b3.out; have rX := lc13 aI.out) | ((with_reducible refine gf 15 ?_); refine gC (some 60) Tryz.func15 (qYv.calls _ _ _ _ _ _ _ _ _ _ _ _ _ _ _ _ _ _ _ e7 _ ?side1 ?side2 ?side3 ?side4 r6.out) ?_; (case side1 => exact cq ((Kd.qZp cU.out HB.out))); (case side2 => exact gA.out); (case side3 => exact cq ((Kd.qZp gF.out HB.out))); (case side4 => exact gB.out); rintro e w2 ⟨rfl, hb⟩; refine ⟨_, rfl, ?_⟩; replace aZ := Rb aZ hb; replace aH := bB aH hb; replace aI := bB aI hb; replace aE := bB aE hb; replace aM := bB aM hb; replace HB := s4 HB aV aW aX a5 hb; (try clear hb); (try clear hb2); (try clear hk); (try clear hi)))
   go_loopg [12] k2 (fun kq vW w' => ∃ (aA : Int) (aY : List Int) (aQ : List Int) (u499000 : Value) (u499001 : Value), vW = .int .i64 aA /\ Aside0 (qQe.l1 kq a2 a0 e7 aA aY aQ = some (r1, r2, r3)) /\ Aside0 (kq <= k2) /\ Aside0 (Kd.R k48 48 w' w.heap.size (fun _ => True) (.slice qF a0.length l5) a0) /\ Aside0 (Kd.R (Kd.int .i64) 3 w' w.heap.size (fun _ => True) u499000 aY) /\ Aside0 (Kd.R (Kd.int .i64) 2 w' w.heap.size (fun _ => True) u499001 aQ) /\ Aside0 (w'.heap[cX]? = some (.cells #[.int .i64 a4, (.slice d2 b6.length d4)] 37 (0, 0))) /\ Aside0 (w'.heap[gL]? = some (.cells #[.int .i64 bD, (.slice e9 aN.length fC), .int .i64 bF, .int .i64 bJ, .int .i64 bX, .int .i64 cC, (.slice fA cG.length fD), .int .i64 cD, .int .i64 cE, .int .i64 cF, .int .i64 bL, .int .i64 bM, .int .i64 bP] 28 (0, 0))) /\ Aside0 (w'.heap[a6]? = some (.cells #[(.slice none 0 0), (.slice none 0 0)] 39 (0, 0))) /\ Aside0 (w'.heap[bQ]? = some (.cells #[u499000, u499001] 39 (0, 0))) /\ Aside0 (Below w.heap.size w w'))
   case atStart => exact ⟨(0), (([] : List Int)), (([] : List Int)), (.slice none 0 0), (.slice none 0 0), fr, H', ⟨Nat.le_refl _⟩, rA aZ, ⟨by first | exact Kd.R_nil _ _ _ _ _ | exact Kd.N_nil _ _ _ _ _ | exact Kd.V_nil _ _ _ _ _ | exact Kd.Q_nil _ _ _ _ _ | exact Kd.S_nil _ _ _ _ _⟩, ⟨by first | exact Kd.R_nil _ _ _ _ _ | exact Kd.N_nil _ _ _ _ _ | exact Kd.V_nil _ _ _ _ _ | exact Kd.Q_nil _ _ _ _ _ | exact Kd.S_nil _ _ _ _ _⟩, bA aH, bA aI, bA aE, bA aM, a4_ HB aV aW aX a5⟩
   case round =>
    clear H'
    try clear c9
    try clear mW
    try clear iZ
    try clear k5
    try clear nQ
    try clear nR
    try clear nS
    try clear hM
    try clear nT
    try clear jZ
    try clear k7 k8
    try clear n3
    try clear k9
    try clear lA lB
    try clear d9
    try clear eA
    try clear fO
    try clear fP
    try clear hU
    try clear hV
    try clear rN
    try clear rO
    try clear rP
    try clear rQ
    try clear o3
    try clear rR
    try clear j5
    try clear j6
    try clear rS
    try clear j7
    try clear j8
    try clear j9
    try clear kA
    try clear rT
    try clear rU
    try clear kB
    try clear kC
    try clear rV
    try clear kD
    try clear kE
    try clear rW
    try clear rX
    try clear eB
    try clear eC
    try clear fQ
    try clear fR
    try clear hW
    try clear hX
    try clear kF
    try clear kG
    try clear kH
    try clear kI
    try clear kJ
    try clear kK
    try clear kL
    try clear kM
    try clear kN
    try clear kO
    try clear dW
    try clear fK
    try clear jK
    try clear d7
    try clear gY
    try clear kP
    try clear d8
    try clear gZ
    try clear kQ
    obtain ⟨aA, aY, aQ, u499000, u499001, rfl, HA, sK, aZ, aD, aG, aH, aI, aE, aM, HB⟩ := hrel
    rcases gk with _ | k3
    ·exact absurd HA.out (by simp [qQe.l1])
    have H := HA.out
    clear HA
    simp only [qQe.l1] at H
    by_cases mX : aA < (a0.length : Int)
    case neg =>
     rw [if_neg mX] at H
     have n8 := decide_eq_false mX
     clear mX
     simp only [Option.some.injEq, Prod.mk.injEq] at H
     obtain ⟨rfl, rfl, rfl⟩ := H
     have q3 := b7.out
     have rC := b0.out
     have q4 := b3.out
     have rD := bS.out
     have q5 := b4.out
     have rE := bU.out
     have oG : wr.cell? ⟨bQ, 0, none⟩ = some (u499000) := (qQa aM.out 0).trans rfl
     have oH : wr.cell? ⟨bQ, 1, none⟩ = some (u499001) := (qQa aM.out 1).trans rfl
     have oM := qQd aM.out 0
     have oN := qQd aM.out 1
     obtain ⟨hC, hP, oC⟩ := Kd.qZq aD.out
     subst oC
     have q6 := b2.out
     have rF := bZ.out
     have q7 := bT.out
     have rG := bR.out
     have oI : wr.cell? ⟨a6, 0, none⟩ = some (.slice none 0 0) := (qQa aE.out 0).trans rfl
     have oJ : wr.cell? ⟨a6, 1, none⟩ = some (.slice none 0 0) := (qQa aE.out 1).trans rfl
     have oO := qQd aE.out 0
     have oP := qQd aE.out 1
     obtain ⟨i6, jI, oD⟩ := Kd.qZq aG.out
     subst oD
     go_wp2
     refine bodyPost_ret (qY4 rfl _ _ a6 39 #[.slice hC aY.length hP, .slice i6 aQ.length jI] (0, 0) _ rfl (by refine bw ?_; refine qQ0 (cs := #[.slice hC aY.length hP, .slice none 0 0]) ?_ 1 _ rfl; refine bw ?_; refine qQ0 (cs := #[.slice none 0 0, .slice none 0 0]) ?_ 0 _ rfl; refine bw ?_; exact aE.out) Tryz.underlying39 rfl (by kernel_rfl)) rfl ?_
     exact ⟨_, _, er, by refine rw_ ?_; exact Kd.qQ4 (Kd.R_far (p := ⟨a6, 1, none⟩) (Kd.R_far (p := ⟨a6, 0, none⟩) (Kd.qZy aD.out aE.out (by decide)) (fun _ hk => hk.2) (.slice hC aY.length hP)) (fun _ hk => hk.2) (.slice i6 aQ.length jI)) (fun _ hk => trivial), by refine rw_ ?_; exact Kd.qQ4 (Kd.R_far (p := ⟨a6, 1, none⟩) (Kd.R_far (p := ⟨a6, 0, none⟩) (Kd.qZy aG.out aE.out (by decide)) (fun _ hk => hk.2) (.slice hC aY.length hP)) (fun _ hk => hk.2) (.slice i6 aQ.length jI)) (fun _ hk => trivial), by exact h4q HB.out aV.out aW.out aX.out a5.out⟩
    rw [if_pos mX] at H
    have n8 := decide_eq_true mX
    clear mX
    by_cases pD : 0 <= aA
    case neg =>
     rw [if_neg pD] at H
     exact absurd H (by simp)
    rw [if_pos pD] at H
    have sS := decide_eq_true pD
    clear pD
    obtain ⟨⟨cY, mO⟩, r7, H⟩ := bd H
    by_cases l3 : mO = 0
    case neg =>
     rw [if_neg l3] at H
     have n9 := beq_eq_false_iff_ne.mpr l3
     have oA := bne_iff_ne.mpr l3
     simp only [Option.some.injEq, Prod.mk.injEq] at H
     obtain ⟨rfl, rfl, rfl⟩ := H
     have g7 : 0 <= (aA : Int) := yd
     have g8 : aA < (a0.length : Int) := yd
     obtain ⟨aJ, l7, oU⟩ := qXr (Kd.qQq aZ.out).2.2 aA g7 g8
     cases l7
     replace g7 := eq_true g7
     replace g8 := eq_true g8
     go_wp2_with (first | ((with_reducible refine gf 35 ?_); refine gC (some 82) Tryz.func35 (qQp.calls _ _ _ _ _ _ _ _ _ _ _ _ _ _ _ _ cY mO _ r7.out) ?_; rintro e o9 ⟨rfl, hb⟩; refine ⟨_, rfl, ?_⟩; replace aZ := Rb aZ hb; replace aD := Rb aD hb; replace aG := Rb aG hb; replace aH := bB aH hb; replace aI := bB aI hb; replace aE := bB aE hb; replace aM := bB aM hb; replace HB := s4 HB aV aW aX a5 hb; (try clear hb); (try clear hb2); (try clear hk); (try clear hi); have q0 := b2.out; have q8 := bZ.out; have q1 := bT.out; have q9 := bR.out; have q2 := bU.out; have rB := b4.out; have oE : o9.cell? ⟨a6, 0, none⟩ = some (.slice none 0 0) := (qQa aE.out 0).trans rfl; have oF : o9.cell? ⟨a6, 1, none⟩ = some (.slice none 0 0) := (qQa aE.out 1).trans rfl; have oK := qQd aE.out 0; have oL := qQd aE.out 1))
     refine bodyPost_ret (qY4 rfl _ _ a6 39 #[.slice none 0 0, .slice none 0 0] (0, 0) _ rfl (by refine bw ?_; refine qQ0 (cs := #[.slice none 0 0, .slice none 0 0]) ?_ 1 _ rfl; refine bw ?_; refine qQ0 (cs := #[.slice none 0 0, .slice none 0 0]) ?_ 0 _ rfl; refine bw ?_; exact aE.out) Tryz.underlying39 rfl (by kernel_rfl)) rfl ?_
     exact ⟨_, _, er, by first | exact Kd.R_nil _ _ _ _ _ | exact Kd.N_nil _ _ _ _ _ | exact Kd.V_nil _ _ _ _ _ | exact Kd.Q_nil _ _ _ _ _ | exact Kd.S_nil _ _ _ _ _, by first | exact Kd.R_nil _ _ _ _ _ | exact Kd.N_nil _ _ _ _ _ | exact Kd.V_nil _ _ _ _ _ | exact Kd.Q_nil _ _ _ _ _ | exact Kd.S_nil _ _ _ _ _, by exact h4q HB.out aV.out aW.out aX.out a5.out⟩
    rw [if_pos l3] at H
    have n9 := beq_iff_eq.mpr l3
    have oA := bne_eq_false_iff_eq.mpr l3
    clear l3
    obtain ⟨cT, jN⟩ : ∃ y_ : List Int, y_ = (([(qQb a0 aA).f0] : List Int)) := ⟨_, rfl⟩
    replace H : (if aY.length + cT.length < 17592186044416 then ((some (([cY] : List Int) : List Int)).bind fun cZ => (if aQ.length + cZ.length < 17592186044416 then (qQe.l1 k3 a2 a0 e7 (wrap64 (aA + 1)) (aY ++ cT) (aQ ++ cZ)) else (none))) else (none)) = some (r1, r2, r3) := by exact hyq H jN
    have hJ := am jN
    clear jN
    by_cases pE : aY.length + cT.length < 17592186044416
    case neg =>
     rw [if_neg pE] at H
     exact absurd H (by simp)
    rw [if_pos pE] at H
    have i7 := am pE
    clear pE
    obtain ⟨e8, jO⟩ : ∃ y_ : List Int, y_ = (aY ++ cT) := ⟨_, rfl⟩
    replace H : ((some (([cY] : List Int) : List Int)).bind fun cZ => (if aQ.length + cZ.length < 17592186044416 then (qQe.l1 k3 a2 a0 e7 (wrap64 (aA + 1)) e8 (aQ ++ cZ)) else (none))) = some (r1, r2, r3) := by exact hyq H jO
    have i8 := am jO
    clear jO
    obtain ⟨cZ, jP⟩ : ∃ y_ : List Int, y_ = (([cY] : List Int)) := ⟨_, rfl⟩
    replace H : (if aQ.length + cZ.length < 17592186044416 then (qQe.l1 k3 a2 a0 e7 (wrap64 (aA + 1)) e8 (aQ ++ cZ)) else (none)) = some (r1, r2, r3) := by exact hyq H jP
    have fF := am jP
    clear jP
    by_cases pF : aQ.length + cZ.length < 17592186044416
    case neg =>
     rw [if_neg pF] at H
     exact absurd H (by simp)
    rw [if_pos pF] at H
    have nD := am pF
    clear pF
    obtain ⟨i3, jQ⟩ : ∃ y_ : List Int, y_ = (aQ ++ cZ) := ⟨_, rfl⟩
    replace H : (qQe.l1 k3 a2 a0 e7 (wrap64 (aA + 1)) e8 i3) = some (r1, r2, r3) := by exact hyq H jQ
    have nF := am jQ
    clear jQ
    have H' := am H
    clear H
    have g7 : 0 <= (aA : Int) := yd
    have g8 : aA < (a0.length : Int) := yd
    obtain ⟨aJ, l7, oU⟩ := qXr (Kd.qQq aZ.out).2.2 aA g7 g8
    cases l7
    replace g7 := eq_true g7
    replace g8 := eq_true g8
    try go_wp2_with (first | ((with_reducible refine gf 35 ?_); refine gC (some 82) Tryz.func35 (qQp.calls _ _ _ _ _ _ _ _ _ _ _ _ _ _ _ _ cY mO _ r7.out) ?_; rintro e wD ⟨rfl, hb⟩; refine ⟨_, rfl, ?_⟩; replace aZ := Rb aZ hb; replace aD := Rb aD hb; replace aG := Rb aG hb; replace aH := bB aH hb; replace aI := bB aI hb; replace aE := bB aE hb; replace aM := bB aM hb; replace HB := s4 HB aV aW aX a5 hb; (try clear hb); (try clear hb2); (try clear hk); (try clear hi); obtain ⟨fB, fE, qY⟩ := Kd.qZq aD.out; subst qY; obtain ⟨d3, d5, qZ⟩ := Kd.qZq aG.out; subst qZ))
    replace aZ := am (Kd.qVj aZ.out)
    replace aD := am (Kd.qVj aD.out)
    replace aG := am (Kd.qVj aG.out)
    replace aH := am (qXf aH.out)
    replace aI := am (qXf aI.out)
    replace aE := am (qXf aE.out)
    replace aM := am (qXf aM.out)
    replace HB := am (qZk HB.out)
    have e5 : 0 <= (aA : Int) := yd
    have e6 : aA < (a0.length : Int) := yd
    obtain ⟨nI, qN, lO⟩ := qXr (Kd.qQq aZ.out).2.2 aA e5 e6
    obtain rfl : aJ = nI := (by injection qN)
    replace e5 := eq_true e5
    replace e6 := eq_true e6
    refine start_ (n := 18) (S := fun w' => w'.cell? ⟨bQ, 0, none⟩ = some (.slice fB aY.length fE) /\ w'.cell? ⟨bQ, 1, none⟩ = some (.slice d3 aQ.length d5) /\ w'.cell? (aJ.add ((aA).toNat * 13)) = some (.int .i64 ((qQb a0 aA).f0)) /\ w'.cell? ⟨(aJ.add ((aA).toNat * 13)).block, (aJ.add ((aA).toNat * 13)).off + 1, none⟩ = some (.int .i64 ((qQb a0 aA).f1)) /\ w'.cell? ⟨(aJ.add ((aA).toNat * 13)).block, (aJ.add ((aA).toNat * 13)).off + 2, none⟩ = some (.int .i64 ((qQb a0 aA).f2)) /\ w'.cell? ⟨(aJ.add ((aA).toNat * 13)).block, (aJ.add ((aA).toNat * 13)).off + 3, none⟩ = some (.int .i64 ((qQb a0 aA).f3)) /\ w'.cell? ⟨(aJ.add ((aA).toNat * 13)).block, (aJ.add ((aA).toNat * 13)).off + 4, none⟩ = some (.int .i64 ((qQb a0 aA).f4)) /\ w'.cell? ⟨(aJ.add ((aA).toNat * 13)).block, (aJ.add ((aA).toNat * 13)).off + 5, none⟩ = some (.int .i64 ((qQb a0 aA).f5)) /\ w'.cell? ⟨(aJ.add ((aA).toNat * 13)).block, (aJ.add ((aA).toNat * 13)).off + 6, none⟩ = some (.bool ((qQb a0 aA).f6)) /\ w'.cell? ⟨(aJ.add ((aA).toNat * 13)).block, (aJ.add ((aA).toNat * 13)).off + 7, none⟩ = some (.int .i64 ((qQb a0 aA).f7)) /\ w'.cell? ⟨(aJ.add ((aA).toNat * 13)).block, (aJ.add ((aA).toNat * 13)).off + 8, none⟩ = some (.int .i64 ((qQb a0 aA).f8)) /\ w'.cell? ⟨(aJ.add ((aA).toNat * 13)).block, (aJ.add ((aA).toNat * 13)).off + 9, none⟩ = some (.int .i64 ((qQb a0 aA).f9)) /\ w'.cell? ⟨(aJ.add ((aA).toNat * 13)).block, (aJ.add ((aA).toNat * 13)).off + 10, none⟩ = some (.int .i64 ((qQb a0 aA).f10)) /\ w'.cell? ⟨(aJ.add ((aA).toNat * 13)).block, (aJ.add ((aA).toNat * 13)).off + 11, none⟩ = some (.int .i64 ((qQb a0 aA).f11)) /\ w'.cell? ⟨(aJ.add ((aA).toNat * 13)).block, (aJ.add ((aA).toNat * 13)).off + 12, none⟩ = some (.int .i64 ((qQb a0 aA).f12))) (ds := [15, 17]) (qQe.fl 18 0) (by kernel_rfl) rfl rfl ⟨(qQa aM.out 0).trans rfl, (qQa aM.out 1).trans rfl, lO⟩ (fun hHeld => ?_); refine qX5 qQe.tab23 qQe.bits23 (fun HT_ HW_ => ?_)
    generalize wD.drew = v4 at aZ aD aG aH aI aE aM HB lO hHeld ⊢
    refine qQe.y 0 89 18 1 HT_.out ?_
    refine qQe.y 2 91 18 5 HT_.out ?_
    refine qQe.y 3 92 18 13 HT_.out ?_
    refine qQe.y 4 93 18 29 HT_.out ?_
    refine qQe.y 5 94 18 61 HT_.out ?_
    refine qQe.y 9 98 18 573 HT_.out ?_
    refine qQe.y 11 100 18 2621 HT_.out ?_
    refine qQe.t 1 90 18 2623 HT_.out HW_.out hHeld ?_
    refine qQe.t 6 95 18 2687 HT_.out HW_.out hHeld ?_
    refine qQe.t 10 99 18 3711 HT_.out HW_.out hHeld ?_
    refine join_ (σ := Value × Value × Value) 4 (qQe.fl 18 24575) (fun s_ => [(96, s_.1), (97, s_.2.1), (101, s_.2.2), (103, .pointer (some ⟨bQ, 0, none⟩))]) (fun s_ w' => (w'.cell? ⟨bQ, 0, none⟩ = some (.slice fB aY.length fE) /\ w'.cell? ⟨bQ, 1, none⟩ = some (.slice d3 aQ.length d5) /\ w'.cell? (aJ.add ((aA).toNat * 13)) = some (.int .i64 ((qQb a0 aA).f0)) /\ w'.cell? ⟨(aJ.add ((aA).toNat * 13)).block, (aJ.add ((aA).toNat * 13)).off + 1, none⟩ = some (.int .i64 ((qQb a0 aA).f1)) /\ w'.cell? ⟨(aJ.add ((aA).toNat * 13)).block, (aJ.add ((aA).toNat * 13)).off + 2, none⟩ = some (.int .i64 ((qQb a0 aA).f2)) /\ w'.cell? ⟨(aJ.add ((aA).toNat * 13)).block, (aJ.add ((aA).toNat * 13)).off + 3, none⟩ = some (.int .i64 ((qQb a0 aA).f3)) /\ w'.cell? ⟨(aJ.add ((aA).toNat * 13)).block, (aJ.add ((aA).toNat * 13)).off + 4, none⟩ = some (.int .i64 ((qQb a0 aA).f4)) /\ w'.cell? ⟨(aJ.add ((aA).toNat * 13)).block, (aJ.add ((aA).toNat * 13)).off + 5, none⟩ = some (.int .i64 ((qQb a0 aA).f5)) /\ w'.cell? ⟨(aJ.add ((aA).toNat * 13)).block, (aJ.add ((aA).toNat * 13)).off + 6, none⟩ = some (.bool ((qQb a0 aA).f6)) /\ w'.cell? ⟨(aJ.add ((aA).toNat * 13)).block, (aJ.add ((aA).toNat * 13)).off + 7, none⟩ = some (.int .i64 ((qQb a0 aA).f7)) /\ w'.cell? ⟨(aJ.add ((aA).toNat * 13)).block, (aJ.add ((aA).toNat * 13)).off + 8, none⟩ = some (.int .i64 ((qQb a0 aA).f8)) /\ w'.cell? ⟨(aJ.add ((aA).toNat * 13)).block, (aJ.add ((aA).toNat * 13)).off + 9, none⟩ = some (.int .i64 ((qQb a0 aA).f9)) /\ w'.cell? ⟨(aJ.add ((aA).toNat * 13)).block, (aJ.add ((aA).toNat * 13)).off + 10, none⟩ = some (.int .i64 ((qQb a0 aA).f10)) /\ w'.cell? ⟨(aJ.add ((aA).toNat * 13)).block, (aJ.add ((aA).toNat * 13)).off + 11, none⟩ = some (.int .i64 ((qQb a0 aA).f11)) /\ w'.cell? ⟨(aJ.add ((aA).toNat * 13)).block, (aJ.add ((aA).toNat * 13)).off + 12, none⟩ = some (.int .i64 ((qQb a0 aA).f12))) /\ (Kd.R (Kd.int .i64) 3 w' w.heap.size (fun k_ => some k_ ≠ (s_.2.1 : Value).ownBlock) s_.1 cT) /\ (Kd.R (Kd.int .i64) 3 w' w.heap.size (fun k_ => some k_ ≠ (s_.1 : Value).ownBlock) s_.2.1 e8) /\ (Kd.R (Kd.int .i64) 2 w' w.heap.size (fun k_ => some k_ ≠ (.slice d3 aQ.length d5 : Value).ownBlock) s_.2.2 cZ) /\ (Kd.R (Kd.int .i64) 2 w' w.heap.size (fun k_ => some k_ ≠ (s_.2.2 : Value).ownBlock) (.slice d3 aQ.length d5) aQ) /\ (Kd.R k48 48 w' w.heap.size (fun _ => True) (.slice (some aJ) a0.length l5) a0) /\ (w'.heap[cX]? = some (.cells #[.int .i64 a4, .slice d2 b6.length d4] 37 (0, 0))) /\ (w'.heap[gL]? = some (.cells #[.int .i64 bD, .slice e9 aN.length fC, .int .i64 bF, .int .i64 bJ, .int .i64 bX, .int .i64 cC, .slice fA cG.length fD, .int .i64 cD, .int .i64 cE, .int .i64 cF, .int .i64 bL, .int .i64 bM, .int .i64 bP] 28 (0, 0))) /\ (w'.heap[a6]? = some (.cells #[.slice none 0 0, .slice none 0 0] 39 (0, 0))) /\ (w'.heap[bQ]? = some (.cells #[.slice fB aY.length fE, .slice d3 aQ.length d5] 39 (0, 0))) /\ (Below w.heap.size w w')) ?_ ?_
    rotate_left
    ·intro hCont
     refine two_ (i := 7) (j := 12) (Ni := some 96) (Nj := some 101) (qQe.fl 18 3839) (qQe.fl 18 7807) rfl rfl rfl rfl (zZi HT_.out (by kernel_rfl)) (by decide) (by decide) (fun K hK => ?_) (fun K hK => ?_)
     ·skip
      refine Kd.qXl (Kd.int .i64) _ 3 ?hg (N := 96) ?hd (xs := ([(qQb a0 aA).f0] : List Int)) (inner := [.int .i64 ((qQb a0 aA).f0)]) (ok := fun _ => True) (okp := fun _ => True) ?hr ?hp (fun _ hk => hk) trivial (Below.refl _ _) (Nat.le_refl _) (by simp) ?_; (case hd => rfl); (case hg => rfl); (case hr => first | (go_simp; done) | (go_simp; rfl)); (case hp => exact (Reps.one (show Kd.M (Kd.int .i64) _ _ _ ((qQb a0 aA).f0) [.int .i64 ((qQb a0 aA).f0)] from rfl) (Reps.none _ _)))
      intro kV r0 cM hb hg_ hnew_
      have HS_ := h13 (am hb) hHeld.2.2
      clear hg_ hnew_
      (first | rw [<- hJ.out] at cM | (simp only [Int.reduceToNat] at cM; rw [<- hJ.out] at cM))
      replace aZ := Rb aZ hb
      replace aG := Rb aG hb
      have bH := am (Kd.qZ1 (Kd.qXc cM (Kd.R_lt (by exact rq aD.out))) (qQn (by exact h4q HB.out aV.out aW.out aX.out a5.out)))
      replace aD := Re aD cM hb
      replace aH := bB aH hb
      replace aI := bB aI hb
      replace aE := bB aE hb
      replace aM := bB aM hb
      replace HB := s4 HB aV aW aX a5 hb
      clear hb cM
      obtain ⟨kW, lC, lD⟩ := Kd.qZq bH.out
      (first | subst lD | (injection lD with f1_ f2_ f3_; have f4_ := f1_.symm; have f5_ := f3_.symm; clear f1_ f2_ f3_; subst f4_; subst f5_))
      refine hK.out _ _ ⟨(qQa aM.out 0).trans rfl, (qQa aM.out 1).trans rfl, HS_⟩ (fun hHeld => ?_)
      clear hK K
      refine norm_ (a' := ?_) ?_ ?_
      rotate_left
      ·show Act.put _ (some 96) _ = _
       exact pu
      refine two_ (i := 8) (j := 12) (Ni := some 97) (Nj := some 101) (qQe.fl 18 4095) (qQe.fl 18 7935) rfl rfl rfl rfl (zZi HT_.out (by kernel_rfl)) (by decide) (by decide) (fun K hK => ?_) (fun K hK => ?_)
      ·skip
       refine Kd.qYj (Kd.int .i64) (w0 := w) w.heap.size (by rfl) (.tmp 90) (.tmp 96) 32 3 (.int .i64 0) 8 rfl Tryz.underlying32 info3 rfl (by decide) (by omega) (.slice fB aY.length fE) aY cT _ _ _ (fun k_ => some k_ ≠ (.slice kW cT.length lC : Value).ownBlock) (fun _ => False) rfl rfl ?aO ?aR (fun _ _ h => h) (fun _ h => h.elim) ?aF ?aB ?aS ?aL ?_
       (case aR => exact cq ((Kd.qQq bH.out).2.2))
       (case aB => exact (by exact h4q HB.out aV.out aW.out aX.out a5.out))
       (case aF => exact (fun k_ hk => Kd.fresh' (Kd.R_lt (by exact rq bH.out)) k_ hk))
       (case aO => exact (by refine rw_ ?_; exact Kd.qQ4 aD.out (fun _ hk => hk.2)))
       (case aS => exact (qQn (by exact h4q HB.out aV.out aW.out aX.out a5.out)))
       (case aL => have := i7.out; omega)
       intro g1 o6 ho hb hg hat
       rw [<- i8.out] at ho
       replace aZ := am (Kd.qYc (by exact rq aZ.out) (Kd.qYb (by exact rq aD.out)) (by decide) hg)
       replace aG := am (Kd.qYc (by exact rq aG.out) (Kd.qYb (by exact rq aD.out)) (by decide) hg)
       replace aH := bG aH hg aD
       replace aI := bG aI hg aD
       replace aE := bG aE hg aD
       replace aM := bG aM hg aD
       replace bH := am (Kd.qWc (ok := (fun _ => True)) (by exact rq bH.out) hg hat)
       replace HB := am hb
       have cS := am ho
       clear aD ho hb hg hat
       refine hK.out _ _ ⟨(qQa aM.out 0).trans rfl, (qQa aM.out 1).trans rfl, at48 (Kd.qQq aZ.out).2.2 aA (by first | exact e5 | exact of_eq_true e5) (by first | exact e6 | exact of_eq_true e6)⟩ (fun hHeld => ?_)
       clear hK K
       refine norm_ (a' := ?_) ?_ ?_
       rotate_left
       ·show Act.put _ (some 97) _ = _
        exact pu
       refine qQe.y 14 103 18 20479 HT_.out ?_
       refine one_ (i := 12) (N := some 101) (qQe.fl 18 24575) rfl rfl (qXj HT_.out (by kernel_rfl)) (by decide) (fun K hK => ?_)
       refine Kd.qXl (Kd.int .i64) _ 2 ?hg (N := 101) ?hd (xs := ([cY] : List Int)) (inner := [.int .i64 cY]) (ok := fun _ => True) (okp := fun _ => True) ?hr ?hp (fun _ hk => hk) trivial (Below.refl _ _) (Nat.le_refl _) (by simp) ?_; (case hd => rfl); (case hg => rfl); (case hr => first | (go_simp; done) | (go_simp; rfl)); (case hp => exact (Reps.one (show Kd.M (Kd.int .i64) _ _ _ cY [.int .i64 cY] from rfl) (Reps.none _ _)))
       intro g2 o7 fJ hb hg_ hnew_
       have HS_ := h13 (am hb) hHeld.2.2
       clear hg_ hnew_
       (first | rw [<- fF.out] at fJ | (simp only [Int.reduceToNat] at fJ; rw [<- fF.out] at fJ))
       replace aZ := Rb aZ hb
       replace bH := Rb bH hb
       replace cS := Rb cS hb
       have cA := am (Kd.qZ1 (Kd.qXc fJ (Kd.R_lt (by exact rq aG.out))) (qQn (by exact h4q HB.out aV.out aW.out aX.out a5.out)))
       replace aG := Re aG fJ hb
       replace aH := bB aH hb
       replace aI := bB aI hb
       replace aE := bB aE hb
       replace aM := bB aM hb
       replace HB := s4 HB aV aW aX a5 hb
       clear hb fJ
       refine hK.out _ _ ⟨(qQa aM.out 0).trans rfl, (qQa aM.out 1).trans rfl, HS_⟩ (fun hHeld => ?_)
       clear hK K
       refine norm_ (a' := ?_) ?_ ?_
       rotate_left
       ·show Act.put _ (some 101) _ = _
        exact pu
       exact norm_ (by simp only [putAll, Act.put, List.setIfInBounds_toArray, List.set_cons_zero, List.set_cons_succ]) (hCont (.slice kW cT.length lC, g1, g2) _ ⟨hHeld, (by refine rw_ ?_; exact Kd.qQ4 bH.out (fun _ hk => hk.2)), (by exact rq cS.out), (by refine rw_ ?_; exact Kd.qQ4 cA.out (fun _ hk => hk.2)), (by refine rw_ ?_; exact Kd.qQ4 aG.out (fun _ hk => hk.2)), (by exact rq aZ.out), (Up.up aH.out), (Up.up aI.out), (Up.up aE.out), (Up.up aM.out), (by exact h4q HB.out aV.out aW.out aX.out a5.out)⟩)
      ·skip
       refine Kd.qXl (Kd.int .i64) _ 2 ?hg (N := 101) ?hd (xs := ([cY] : List Int)) (inner := [.int .i64 cY]) (ok := fun _ => True) (okp := fun _ => True) ?hr ?hp (fun _ hk => hk) trivial (Below.refl _ _) (Nat.le_refl _) (by simp) ?_; (case hd => rfl); (case hg => rfl); (case hr => first | (go_simp; done) | (go_simp; rfl)); (case hp => exact (Reps.one (show Kd.M (Kd.int .i64) _ _ _ cY [.int .i64 cY] from rfl) (Reps.none _ _)))
       intro g2 o6 cN hb hg_ hnew_
       have HS_ := h13 (am hb) hHeld.2.2
       clear hg_ hnew_
       (first | rw [<- fF.out] at cN | (simp only [Int.reduceToNat] at cN; rw [<- fF.out] at cN))
       replace aZ := Rb aZ hb
       replace aD := Rb aD hb
       replace bH := Rb bH hb
       have cA := am (Kd.qZ1 (Kd.qXc cN (Kd.R_lt (by exact rq aG.out))) (qQn (by exact h4q HB.out aV.out aW.out aX.out a5.out)))
       replace aG := Re aG cN hb
       replace aH := bB aH hb
       replace aI := bB aI hb
       replace aE := bB aE hb
       replace aM := bB aM hb
       replace HB := s4 HB aV aW aX a5 hb
       clear hb cN
       obtain ⟨fV, gI, gK⟩ := Kd.qZq bH.out
       (first | subst gK | (injection gK with f1_ f2_ f3_; have f4_ := f1_.symm; have f5_ := f3_.symm; clear f1_ f2_ f3_; subst f4_; subst f5_))
       refine hK.out _ _ ⟨(qQa aM.out 0).trans rfl, (qQa aM.out 1).trans rfl, HS_⟩ (fun hHeld => ?_)
       clear hK K
       refine norm_ (a' := ?_) ?_ ?_
       rotate_left
       ·show Act.put _ (some 101) _ = _
        exact pu
       refine one_ (i := 8) (N := some 97) (qQe.fl 18 8191) rfl rfl (qXj HT_.out (by kernel_rfl)) (by decide) (fun K hK => ?_)
       refine Kd.qYj (Kd.int .i64) (w0 := w) w.heap.size (by rfl) (.tmp 90) (.tmp 96) 32 3 (.int .i64 0) 8 rfl Tryz.underlying32 info3 rfl (by decide) (by omega) (.slice fB aY.length fE) aY cT _ _ _ (fun k_ => some k_ ≠ (.slice fV cT.length gI : Value).ownBlock) (fun _ => False) rfl rfl ?aO ?aR (fun _ _ h => h) (fun _ h => h.elim) ?aF ?aB ?aS ?aL ?_
       (case aR => exact cq ((Kd.qQq bH.out).2.2))
       (case aB => exact (by exact h4q HB.out aV.out aW.out aX.out a5.out))
       (case aF => exact (fun k_ hk => Kd.fresh' (Kd.R_lt (by exact rq bH.out)) k_ hk))
       (case aO => exact (by refine rw_ ?_; exact Kd.qQ4 aD.out (fun _ hk => hk.2)))
       (case aS => exact (qQn (by exact h4q HB.out aV.out aW.out aX.out a5.out)))
       (case aL => have := i7.out; omega)
       intro g1 o7 ho hb hg hat
       rw [<- i8.out] at ho
       replace aZ := am (Kd.qYc (by exact rq aZ.out) (Kd.qYb (by exact rq aD.out)) (by decide) hg)
       replace aG := am (Kd.qYc (by exact rq aG.out) (Kd.qYb (by exact rq aD.out)) (by decide) hg)
       replace aH := bG aH hg aD
       replace aI := bG aI hg aD
       replace aE := bG aE hg aD
       replace aM := bG aM hg aD
       replace bH := am (Kd.qWc (ok := (fun _ => True)) (by exact rq bH.out) hg hat)
       replace cA := am (Kd.qYc (by exact rq cA.out) (Kd.qYb (by exact rq aD.out)) (by decide) hg)
       replace HB := am hb
       have cS := am ho
       clear aD ho hb hg hat
       refine hK.out _ _ ⟨(qQa aM.out 0).trans rfl, (qQa aM.out 1).trans rfl, at48 (Kd.qQq aZ.out).2.2 aA (by first | exact e5 | exact of_eq_true e5) (by first | exact e6 | exact of_eq_true e6)⟩ (fun hHeld => ?_)
       clear hK K
       refine norm_ (a' := ?_) ?_ ?_
       rotate_left
       ·show Act.put _ (some 97) _ = _
        exact pu
       refine qQe.y 14 103 18 24575 HT_.out ?_
       exact norm_ (by simp only [putAll, Act.put, List.setIfInBounds_toArray, List.set_cons_zero, List.set_cons_succ]) (hCont (.slice fV cT.length gI, g1, g2) _ ⟨hHeld, (by refine rw_ ?_; exact Kd.qQ4 bH.out (fun _ hk => hk.2)), (by exact rq cS.out), (by refine rw_ ?_; exact Kd.qQ4 cA.out (fun _ hk => hk.2)), (by refine rw_ ?_; exact Kd.qQ4 aG.out (fun _ hk => hk.2)), (by exact rq aZ.out), (Up.up aH.out), (Up.up aI.out), (Up.up aE.out), (Up.up aM.out), (by exact h4q HB.out aV.out aW.out aX.out a5.out)⟩)
     ·skip
      refine Kd.qXl (Kd.int .i64) _ 2 ?hg (N := 101) ?hd (xs := ([cY] : List Int)) (inner := [.int .i64 cY]) (ok := fun _ => True) (okp := fun _ => True) ?hr ?hp (fun _ hk => hk) trivial (Below.refl _ _) (Nat.le_refl _) (by simp) ?_; (case hd => rfl); (case hg => rfl); (case hr => first | (go_simp; done) | (go_simp; rfl)); (case hp => exact (Reps.one (show Kd.M (Kd.int .i64) _ _ _ cY [.int .i64 cY] from rfl) (Reps.none _ _)))
      intro g2 r0 cM hb hg_ hnew_
      have HS_ := h13 (am hb) hHeld.2.2
      clear hg_ hnew_
      (first | rw [<- fF.out] at cM | (simp only [Int.reduceToNat] at cM; rw [<- fF.out] at cM))
      replace aZ := Rb aZ hb
      replace aD := Rb aD hb
      have cA := am (Kd.qZ1 (Kd.qXc cM (Kd.R_lt (by exact rq aG.out))) (qQn (by exact h4q HB.out aV.out aW.out aX.out a5.out)))
      replace aG := Re aG cM hb
      replace aH := bB aH hb
      replace aI := bB aI hb
      replace aE := bB aE hb
      replace aM := bB aM hb
      replace HB := s4 HB aV aW aX a5 hb
      clear hb cM
      refine hK.out _ _ ⟨(qQa aM.out 0).trans rfl, (qQa aM.out 1).trans rfl, HS_⟩ (fun hHeld => ?_)
      clear hK K
      refine norm_ (a' := ?_) ?_ ?_
      rotate_left
      ·show Act.put _ (some 101) _ = _
       exact pu
      refine one_ (i := 7) (N := some 96) (qQe.fl 18 7935) rfl rfl (qXj HT_.out (by kernel_rfl)) (by decide) (fun K hK => ?_)
      refine Kd.qXl (Kd.int .i64) _ 3 ?hg (N := 96) ?hd (xs := ([(qQb a0 aA).f0] : List Int)) (inner := [.int .i64 ((qQb a0 aA).f0)]) (ok := fun _ => True) (okp := fun _ => True) ?hr ?hp (fun _ hk => hk) trivial (Below.refl _ _) (Nat.le_refl _) (by simp) ?_; (case hd => rfl); (case hg => rfl); (case hr => first | (go_simp; done) | (go_simp; rfl)); (case hp => exact (Reps.one (show Kd.M (Kd.int .i64) _ _ _ ((qQb a0 aA).f0) [.int .i64 ((qQb a0 aA).f0)] from rfl) (Reps.none _ _)))
      intro kV o6 cN hb hg_ hnew_
      have HS_ := h13 (am hb) hHeld.2.2
      clear hg_ hnew_
      (first | rw [<- hJ.out] at cN | (simp only [Int.reduceToNat] at cN; rw [<- hJ.out] at cN))
      replace aZ := Rb aZ hb
      replace aG := Rb aG hb
      replace cA := Rb cA hb
      have bH := am (Kd.qZ1 (Kd.qXc cN (Kd.R_lt (by exact rq aD.out))) (qQn (by exact h4q HB.out aV.out aW.out aX.out a5.out)))
      replace aD := Re aD cN hb
      replace aH := bB aH hb
      replace aI := bB aI hb
      replace aE := bB aE hb
      replace aM := bB aM hb
      replace HB := s4 HB aV aW aX a5 hb
      clear hb cN
      obtain ⟨fV, gI, gK⟩ := Kd.qZq bH.out
      (first | subst gK | (injection gK with f1_ f2_ f3_; have f4_ := f1_.symm; have f5_ := f3_.symm; clear f1_ f2_ f3_; subst f4_; subst f5_))
      refine hK.out _ _ ⟨(qQa aM.out 0).trans rfl, (qQa aM.out 1).trans rfl, HS_⟩ (fun hHeld => ?_)
      clear hK K
      refine norm_ (a' := ?_) ?_ ?_
      rotate_left
      ·show Act.put _ (some 96) _ = _
       exact pu
      refine one_ (i := 8) (N := some 97) (qQe.fl 18 8191) rfl rfl (qXj HT_.out (by kernel_rfl)) (by decide) (fun K hK => ?_)
      refine Kd.qYj (Kd.int .i64) (w0 := w) w.heap.size (by rfl) (.tmp 90) (.tmp 96) 32 3 (.int .i64 0) 8 rfl Tryz.underlying32 info3 rfl (by decide) (by omega) (.slice fB aY.length fE) aY cT _ _ _ (fun k_ => some k_ ≠ (.slice fV cT.length gI : Value).ownBlock) (fun _ => False) rfl rfl ?aO ?aR (fun _ _ h => h) (fun _ h => h.elim) ?aF ?aB ?aS ?aL ?_
      (case aR => exact cq ((Kd.qQq bH.out).2.2))
      (case aB => exact (by exact h4q HB.out aV.out aW.out aX.out a5.out))
      (case aF => exact (fun k_ hk => Kd.fresh' (Kd.R_lt (by exact rq bH.out)) k_ hk))
      (case aO => exact (by refine rw_ ?_; exact Kd.qQ4 aD.out (fun _ hk => hk.2)))
      (case aS => exact (qQn (by exact h4q HB.out aV.out aW.out aX.out a5.out)))
      (case aL => have := i7.out; omega)
      intro g1 o7 ho hb hg hat
      rw [<- i8.out] at ho
      replace aZ := am (Kd.qYc (by exact rq aZ.out) (Kd.qYb (by exact rq aD.out)) (by decide) hg)
      replace aG := am (Kd.qYc (by exact rq aG.out) (Kd.qYb (by exact rq aD.out)) (by decide) hg)
      replace aH := bG aH hg aD
      replace aI := bG aI hg aD
      replace aE := bG aE hg aD
      replace aM := bG aM hg aD
      replace cA := am (Kd.qYc (by exact rq cA.out) (Kd.qYb (by exact rq aD.out)) (by decide) hg)
      replace bH := am (Kd.qWc (ok := (fun _ => True)) (by exact rq bH.out) hg hat)
      replace HB := am hb
      have cS := am ho
      clear aD ho hb hg hat
      refine hK.out _ _ ⟨(qQa aM.out 0).trans rfl, (qQa aM.out 1).trans rfl, at48 (Kd.qQq aZ.out).2.2 aA (by first | exact e5 | exact of_eq_true e5) (by first | exact e6 | exact of_eq_true e6)⟩ (fun hHeld => ?_)
      clear hK K
      refine norm_ (a' := ?_) ?_ ?_
      rotate_left
      ·show Act.put _ (some 97) _ = _
       exact pu
      refine qQe.y 14 103 18 24575 HT_.out ?_
      exact norm_ (by simp only [putAll, Act.put, List.setIfInBounds_toArray, List.set_cons_zero, List.set_cons_succ]) (hCont (.slice fV cT.length gI, g1, g2) _ ⟨hHeld, (by refine rw_ ?_; exact Kd.qQ4 bH.out (fun _ hk => hk.2)), (by exact rq cS.out), (by refine rw_ ?_; exact Kd.qQ4 cA.out (fun _ hk => hk.2)), (by refine rw_ ?_; exact Kd.qQ4 aG.out (fun _ hk => hk.2)), (by exact rq aZ.out), (Up.up aH.out), (Up.up aI.out), (Up.up aE.out), (Up.up aM.out), (by exact h4q HB.out aV.out aW.out aX.out a5.out)⟩)
    rintro ⟨kV, g1, g2⟩ cH ⟨hS_, h0_, h1_, h2_, h3_, h4_, h5_, h6_, h7_, h8_, h9_⟩
    have uS : Aside0 (Kd.R (Kd.int .i64) 3 cH w.heap.size (fun k_ => some k_ ≠ (g1 : Value).ownBlock) kV cT) := ⟨h0_⟩
    have uT : Aside0 (Kd.R (Kd.int .i64) 3 cH w.heap.size (fun k_ => some k_ ≠ (kV : Value).ownBlock) g1 e8) := ⟨h1_⟩
    have uU : Aside0 (Kd.R (Kd.int .i64) 2 cH w.heap.size (fun k_ => some k_ ≠ (.slice d3 aQ.length d5 : Value).ownBlock) g2 cZ) := ⟨h2_⟩
    have uV : Aside0 (Kd.R (Kd.int .i64) 2 cH w.heap.size (fun k_ => some k_ ≠ (g2 : Value).ownBlock) (.slice d3 aQ.length d5) aQ) := ⟨h3_⟩
    have uW : Aside0 (Kd.R k48 48 cH w.heap.size (fun _ => True) (.slice (some aJ) a0.length l5) a0) := ⟨h4_⟩
    have uX : Aside0 (cH.heap[cX]? = some (.cells #[.int .i64 a4, .slice d2 b6.length d4] 37 (0, 0))) := ⟨h5_⟩
    have uY : Aside0 (cH.heap[gL]? = some (.cells #[.int .i64 bD, .slice e9 aN.length fC, .int .i64 bF, .int .i64 bJ, .int .i64 bX, .int .i64 cC, .slice fA cG.length fD, .int .i64 cD, .int .i64 cE, .int .i64 cF, .int .i64 bL, .int .i64 bM, .int .i64 bP] 28 (0, 0))) := ⟨h6_⟩
    have uZ : Aside0 (cH.heap[a6]? = some (.cells #[.slice none 0 0, .slice none 0 0] 39 (0, 0))) := ⟨h7_⟩
    have u0 : Aside0 (cH.heap[bQ]? = some (.cells #[.slice fB aY.length fE, .slice d3 aQ.length d5] 39 (0, 0))) := ⟨h8_⟩
    have u1 : Aside0 (Below w.heap.size w cH) := ⟨h9_⟩
    clear aZ aD aG aH aI aE aM HB h0_ h1_ h2_ h3_ h4_ h5_ h6_ h7_ h8_ h9_
    have bH := uS
    have cS := uT
    have cA := uU
    have aG := uV
    have aZ := uW
    have aH := uX
    have aI := uY
    have aE := uZ
    have aM := u0
    have HB := u1
    clear uS uT uU uV uW uX uY uZ u0 u1
    have hHeld : cH.cell? ⟨bQ, 0, none⟩ = some (.slice fB aY.length fE) /\ cH.cell? ⟨bQ, 1, none⟩ = some (.slice d3 aQ.length d5) /\ cH.cell? (aJ.add ((aA).toNat * 13)) = some (.int .i64 ((qQb a0 aA).f0)) /\ cH.cell? ⟨(aJ.add ((aA).toNat * 13)).block, (aJ.add ((aA).toNat * 13)).off + 1, none⟩ = some (.int .i64 ((qQb a0 aA).f1)) /\ cH.cell? ⟨(aJ.add ((aA).toNat * 13)).block, (aJ.add ((aA).toNat * 13)).off + 2, none⟩ = some (.int .i64 ((qQb a0 aA).f2)) /\ cH.cell? ⟨(aJ.add ((aA).toNat * 13)).block, (aJ.add ((aA).toNat * 13)).off + 3, none⟩ = some (.int .i64 ((qQb a0 aA).f3)) /\ cH.cell? ⟨(aJ.add ((aA).toNat * 13)).block, (aJ.add ((aA).toNat * 13)).off + 4, none⟩ = some (.int .i64 ((qQb a0 aA).f4)) /\ cH.cell? ⟨(aJ.add ((aA).toNat * 13)).block, (aJ.add ((aA).toNat * 13)).off + 5, none⟩ = some (.int .i64 ((qQb a0 aA).f5)) /\ cH.cell? ⟨(aJ.add ((aA).toNat * 13)).block, (aJ.add ((aA).toNat * 13)).off + 6, none⟩ = some (.bool ((qQb a0 aA).f6)) /\ cH.cell? ⟨(aJ.add ((aA).toNat * 13)).block, (aJ.add ((aA).toNat * 13)).off + 7, none⟩ = some (.int .i64 ((qQb a0 aA).f7)) /\ cH.cell? ⟨(aJ.add ((aA).toNat * 13)).block, (aJ.add ((aA).toNat * 13)).off + 8, none⟩ = some (.int .i64 ((qQb a0 aA).f8)) /\ cH.cell? ⟨(aJ.add ((aA).toNat * 13)).block, (aJ.add ((aA).toNat * 13)).off + 9, none⟩ = some (.int .i64 ((qQb a0 aA).f9)) /\ cH.cell? ⟨(aJ.add ((aA).toNat * 13)).block, (aJ.add ((aA).toNat * 13)).off + 10, none⟩ = some (.int .i64 ((qQb a0 aA).f10)) /\ cH.cell? ⟨(aJ.add ((aA).toNat * 13)).block, (aJ.add ((aA).toNat * 13)).off + 11, none⟩ = some (.int .i64 ((qQb a0 aA).f11)) /\ cH.cell? ⟨(aJ.add ((aA).toNat * 13)).block, (aJ.add ((aA).toNat * 13)).off + 12, none⟩ = some (.int .i64 ((qQb a0 aA).f12)) := hS_
    obtain ⟨mZ, oB, lE⟩ := Kd.qZq cA.out
    (first | subst lE | (injection lE with f1_ f2_ f3_; have f4_ := f1_.symm; have f5_ := f3_.symm; clear f1_ f2_ f3_; subst f4_; subst f5_))
    refine norm_ (a' := ?_) ?_ ?_
    rotate_left
    ·simp only [putAll, Act.put, List.setIfInBounds_toArray, List.set_cons_zero, List.set_cons_succ]
     rfl
    refine one_ (i := 13) (N := some 102) (qQe.fl 18 32767) rfl rfl (qXj HT_.out (by kernel_rfl)) (by decide) (fun K hK => ?_)
    refine Kd.qYj (Kd.int .i64) (w0 := w) w.heap.size (by rfl) (.tmp 99) (.tmp 101) 22 2 (.int .i64 0) 8 rfl Tryz.underlying22 info2 rfl (by decide) (by omega) (.slice d3 aQ.length d5) aQ cZ _ _ _ (fun k_ => some k_ ≠ (.slice mZ cZ.length oB : Value).ownBlock) (fun _ => False) rfl rfl ?aO ?aR (fun _ _ h => h) (fun _ h => h.elim) ?aF ?aB ?aS ?aL ?_
    (case aR => exact cq ((Kd.qQq cA.out).2.2))
    (case aB => exact (by exact h4q HB.out aV.out aW.out aX.out a5.out))
    (case aF => exact (fun k_ hk => Kd.fresh' (Kd.R_lt (by exact rq cA.out)) k_ hk))
    (case aO => exact (by exact rq aG.out))
    (case aS => exact (qQn (by exact h4q HB.out aV.out aW.out aX.out a5.out)))
    (case aL => have := nD.out; omega)
    intro v3 o8 ho hb hg hat
    rw [<- nF.out] at ho
    replace aZ := am (Kd.qYc (by exact rq aZ.out) (Kd.qYb (by exact rq aG.out)) (by decide) hg)
    replace aH := bG aH hg aG
    replace aI := bG aI hg aG
    replace aE := bG aE hg aG
    replace aM := bG aM hg aG
    replace bH := am (Kd.qYc (by exact rq bH.out) (Kd.qYb (by exact rq aG.out)) (by decide) hg)
    replace cS := am (Kd.qYc (by exact rq cS.out) (Kd.qYb (by exact rq aG.out)) (by decide) hg)
    replace cA := am (Kd.qWc (ok := (fun _ => True)) (by refine rw_ ?_; exact Kd.qQ4 cA.out (fun _ hk => ⟨trivial, hk⟩)) hg hat)
    replace HB := am hb
    have k0 := am ho
    clear aG ho hb hg hat
    obtain ⟨fW, gJ, lF⟩ := Kd.qZq cS.out
    (first | subst lF | (injection lF with f1_ f2_ f3_; have f4_ := f1_.symm; have f5_ := f3_.symm; clear f1_ f2_ f3_; subst f4_; subst f5_))
    obtain ⟨hA, hO, lG⟩ := Kd.qZq k0.out
    (first | subst lG | (injection lG with f1_ f2_ f3_; have f4_ := f1_.symm; have f5_ := f3_.symm; clear f1_ f2_ f3_; subst f4_; subst f5_))
    refine hK.out _ _ ⟨(qQa aM.out 0).trans rfl, (qQa aM.out 1).trans rfl, at48 (Kd.qQq aZ.out).2.2 aA (by first | exact e5 | exact of_eq_true e5) (by first | exact e6 | exact of_eq_true e6)⟩ (fun hHeld => ?_)
    clear hK K
    refine norm_ (a' := ?_) ?_ ?_
    rotate_left
    ·show Act.put _ (some 102) _ = _
     exact pu
    refine last_ (i := 15) (N := none) (qQe.fl 18 65535) rfl rfl (qXj HT_.out (by kernel_rfl)) (by decide) (fun K hK => ?_)
    have hs111 : o8.cell? ⟨bQ, 0, none⟩ = some (.slice fB aY.length fE) := (qQa aM.out 0).trans rfl
    have hfs111 := qQd aM.out 0
    have hns111_0 := b0.out
    have hns111_1 := bS.out
    have hns111_2 := bU.out
    have hms111_0 := b7.out
    have hms111_1 := b3.out
    have hms111_2 := b4.out
    refine skip_ (w1 := ?_) (by rfl) rfl ?_ ?_
    rotate_left
    ·go_simp
     rfl
    refine hK.out _ _ ?_
    clear hK K
    refine qQe.y 16 104 18 131071 HT_.out ?_
    refine last_ (i := 17) (N := none) (qQe.fl 18 262143) rfl rfl (qXj HT_.out (by kernel_rfl)) (by decide) (fun K hK => ?_)
    have hs113 : o8.cell? ⟨bQ, 1, none⟩ = some (.slice d3 aQ.length d5) := (qQa aM.out 1).trans rfl
    have hfs113 := qQd aM.out 1
    have hns113_0 := b0.out
    have hns113_1 := bS.out
    have hns113_2 := bU.out
    have hms113_0 := b7.out
    have hms113_1 := b3.out
    have hms113_2 := b4.out
    refine skip_ (w1 := ?_) (by rfl) rfl ?_ ?_
    rotate_left
    ·go_simp
     rfl
    refine hK.out _ _ ?_
    clear hK K
    refine done_ (qW0 HT_.out (by kernel_rfl)) ?_
    try go_wp2
    go_roundg k3
    case measure => have := jY.out; have := mV.out; have := sK.out; omega
    case rel => exact ⟨(wrap64 (aA + 1)), (e8), (i3), (.slice fW e8.length gJ), (.slice hA i3.length hO), fr, H', ⟨by have := jY.out; have := mV.out; have := sK.out; omega⟩, ⟨by refine rw_ ?_; exact Kd.qQ4 (Kd.R_far (p := ⟨bQ, 1, none⟩) (Kd.R_far (p := ⟨bQ, 0, none⟩) (Kd.qZy aZ.out aM.out (by decide)) (fun _ hk => hk.2) (.slice fW e8.length gJ)) (fun _ hk => hk.2) (.slice hA i3.length hO)) (fun _ hk => trivial)⟩, ⟨by refine rw_ ?_; exact Kd.qQ4 (Kd.R_far (p := ⟨bQ, 1, none⟩) (Kd.R_far (p := ⟨bQ, 0, none⟩) (Kd.qZy cS.out aM.out (by decide)) (fun _ hk => hk.2) (.slice fW e8.length gJ)) (fun _ hk => hk.2) (.slice hA i3.length hO)) (fun _ hk => trivial)⟩, ⟨by refine rw_ ?_; exact Kd.qQ4 (Kd.R_far (p := ⟨bQ, 1, none⟩) (Kd.R_far (p := ⟨bQ, 0, none⟩) (Kd.qZy k0.out aM.out (by decide)) (fun _ hk => hk.2) (.slice fW e8.length gJ)) (fun _ hk => hk.2) (.slice hA i3.length hO)) (fun _ hk => trivial)⟩, ⟨by (iterate 2 (refine bw ?_; refine qZ8 ?_ b0.out _)); refine bw ?_; exact aH.out⟩, ⟨by (iterate 2 (refine bw ?_; refine qZ8 ?_ bS.out _)); refine bw ?_; exact aI.out⟩, ⟨by (iterate 2 (refine bw ?_; refine qZ8 ?_ bU.out _)); refine bw ?_; exact aE.out⟩, ⟨by refine bw ?_; refine qQ0 (cs := #[.slice fW e8.length gJ, .slice d3 aQ.length d5]) ?_ 1 _ rfl; refine bw ?_; refine qQ0 (cs := #[.slice fB aY.length fE, .slice d3 aQ.length d5]) ?_ 0 _ rfl; refine bw ?_; exact aM.out⟩, a4_ HB aV aW aX a5⟩
def qXi.f (a4 bV bC bI bW b8 : Int) (cJ : Bool) (b9 cB b5 a7 a9 bK bD cO bF bJ bX cC : Int) (gG : Bool) (cD cE cF bL bM bP : Int) : Option (Bool) := if a4 = bD then (if bV = cO then (if bC = bF then (if bI = bJ then (if bW = bX then (if b8 = cC then (if (cJ == gG) = true then (if b9 = cD then (if cB = cE then (if b5 = cF then (if a7 = bL then (if a9 = bM then (some (bK == bP)) else (none)) else (none)) else (none)) else (none)) else (none)) else (none)) else (none)) else (none)) else (none)) else (none)) else (none)) else (none)
set_option maxHeartbeats 8000000 in
set_option maxRecDepth 100000 in
theorem qXi.calls (a4 bV bC bI bW b8 : Int) (cJ : Bool) (b9 cB b5 a7 a9 bK bD cO bF bJ bX cC : Int) (gG : Bool) (cD cE cF bL bM bP : Int) (r : Bool) (w : World) (h : qXi.f a4 bV bC bI bW b8 cJ b9 cB b5 a7 a9 bK bD cO bF bJ bX cC gG cD cE cF bL bM bP = some r) :
  Calls Tryz.prog 57 #[.agg #[.int .i64 a4, .int .i64 bV, .int .i64 bC, .int .i64 bI, .int .i64 bW, .int .i64 b8, .bool cJ, .int .i64 b9, .int .i64 cB, .int .i64 b5, .int .i64 a7, .int .i64 a9, .int .i64 bK], .agg #[.int .i64 bD, .int .i64 cO, .int .i64 bF, .int .i64 bJ, .int .i64 bX, .int .i64 cC, .bool gG, .int .i64 cD, .int .i64 cE, .int .i64 cF, .int .i64 bL, .int .i64 bM, .int .i64 bP]] w fun e w' => e = .returned (.bool r) /\ Below w.heap.size w w' := by
 have l8 := Tryz.underlying48
 have HB := am (Below.refl w.heap.size w)
 have H := h
 unfold qXi.f at H
 clear h
 by_cases c3 : a4 = bD
 case neg =>
  rw [if_neg c3] at H
  exact absurd H (by simp)
 rw [if_pos c3] at H
 have g4 := beq_iff_eq.mpr c3
 have g5 := bne_eq_false_iff_eq.mpr c3
 clear c3
 by_cases c4 : bV = cO
 case neg =>
  rw [if_neg c4] at H
  exact absurd H (by simp)
 rw [if_pos c4] at H
 have i0 := beq_iff_eq.mpr c4
 have n2 := bne_eq_false_iff_eq.mpr c4
 clear c4
 by_cases c5 : bC = bF
 case neg =>
  rw [if_neg c5] at H
  exact absurd H (by simp)
 rw [if_pos c5] at H
 have j2 := beq_iff_eq.mpr c5
 have n4 := bne_eq_false_iff_eq.mpr c5
 clear c5
 by_cases c6 : bI = bJ
 case neg =>
  rw [if_neg c6] at H
  exact absurd H (by simp)
 rw [if_pos c6] at H
 have j3 := beq_iff_eq.mpr c6
 have n5 := bne_eq_false_iff_eq.mpr c6
 clear c6
 by_cases c7 : bW = bX
 case neg =>
  rw [if_neg c7] at H
  exact absurd H (by simp)
 rw [if_pos c7] at H
 have n6 := beq_iff_eq.mpr c7
 have n7 := bne_eq_false_iff_eq.mpr c7
 clear c7
 by_cases c8 : b8 = cC
 case neg =>
  rw [if_neg c8] at H
  exact absurd H (by simp)
 rw [if_pos c8] at H
 have fN := beq_iff_eq.mpr c8
 have qI := bne_eq_false_iff_eq.mpr c8
 clear c8
 by_cases c9 : (cJ == gG) = true
 case neg =>
  rw [if_neg c9] at H
  exact absurd H (by simp)
 rw [if_pos c9] at H
 have qJ : (cJ == gG) = true := c9
 (try (have qK : decide (cJ = gG) = true := by simpa using c9))
 (try (have vG : (cJ == gG) = true := by simpa using c9))
 clear c9
 by_cases nK : b9 = cD
 case neg =>
  rw [if_neg nK] at H
  exact absurd H (by simp)
 rw [if_pos nK] at H
 have sL := beq_iff_eq.mpr nK
 have sM := bne_eq_false_iff_eq.mpr nK
 clear nK
 by_cases fM : cB = cE
 case neg =>
  rw [if_neg fM] at H
  exact absurd H (by simp)
 rw [if_pos fM] at H
 have hL := beq_iff_eq.mpr fM
 have sN := bne_eq_false_iff_eq.mpr fM
 clear fM
 by_cases jF : b5 = cF
 case neg =>
  rw [if_neg jF] at H
  exact absurd H (by simp)
 rw [if_pos jF] at H
 have nM := beq_iff_eq.mpr jF
 have nN := bne_eq_false_iff_eq.mpr jF
 clear jF
 by_cases nO : a7 = bL
 case neg =>
  rw [if_neg nO] at H
  exact absurd H (by simp)
 rw [if_pos nO] at H
 have sO := beq_iff_eq.mpr nO
 have sP := bne_eq_false_iff_eq.mpr nO
 clear nO
 by_cases jU : a9 = bM
 case neg =>
  rw [if_neg jU] at H
  exact absurd H (by simp)
 rw [if_pos jU] at H
 have sQ := beq_iff_eq.mpr jU
 have sR := bne_eq_false_iff_eq.mpr jU
 clear jU
 obtain rfl := Option.some.inj H
 go_enter Tryz.func57, Tryz.ntmps57
 go_wp2_with (first | ((with_reducible refine gd 2 ?_); refine bE 2 _ 48 ?_; intro sT hg v6 hbox hb; have fX := am hbox; have sC := e0 HB hg; have hD := e0 HB hg; replace HB := s0 HB hb; clear hb hbox hg) | ((with_reducible refine gd 3 ?_); refine bE 3 _ 48 ?_; intro sU hg u2 hbox hb; have m0 := am hbox; have sD := e1 HB hD hg; have m1 := e1 HB hD hg; replace HB := s1 HB hD hb; have iR := nL fX hg; have iS := nG fX hg; replace fX := bB fX hb; clear hb hbox hg; have oR := iR.out; have oT := iS.out; have rK := lc13 fX.out; have rL := lc13 m0.out))
 go_ret
 exact ⟨er, by exact h2q HB.out hD.out m1.out⟩
def qQ8.l0 : Nat -> List (S48) -> List (S48) -> Int -> Option (Bool)
 | 0, _, _, _ => none
 | k + 1, x0, x1, x5 => if x5 < (x0.length : Int) then (if 0 <= x5 then (if x5 < (x1.length : Int) then ((qXi.f ((qQb x0 x5).f0) ((qQb x0 x5).f1) ((qQb x0 x5).f2) ((qQb x0 x5).f3) ((qQb x0 x5).f4) ((qQb x0 x5).f5) ((qQb x0 x5).f6) ((qQb x0 x5).f7) ((qQb x0 x5).f8) ((qQb x0 x5).f9) ((qQb x0 x5).f10) ((qQb x0 x5).f11) ((qQb x0 x5).f12) ((qQb x1 x5).f0) ((qQb x1 x5).f1) ((qQb x1 x5).f2) ((qQb x1 x5).f3) ((qQb x1 x5).f4) ((qQb x1 x5).f5) ((qQb x1 x5).f6) ((qQb x1 x5).f7) ((qQb x1 x5).f8) ((qQb x1 x5).f9) ((qQb x1 x5).f10) ((qQb x1 x5).f11) ((qQb x1 x5).f12)).bind fun mP => (if mP = true then (qQ8.l0 k x0 x1 (wrap64 (x5 + 1))) else (none))) else (none)) else (none)) else (some true)
def qQ8.f (k : Nat) (l0 : List (S48)) (l1 : List (S48)) : Option (Bool) := if (l0.length : Int) = (l1.length : Int) then (qQ8.l0 k l0 l1 0) else (none)
def qQ8.T6 : Bool × List (List Nat × List Nat) := (true, [([], []), ([], []), ([0, 1], [0, 1]), ([2], [2]), ([], []), ([], []), ([4, 5], [4, 5]), ([6], [6]), ([3, 7], [3, 7]), ([8], [8])])
def qQ8.B6 : List Nat := [0, 0, 3, 7, 0, 0, 48, 112, 255, 511]
theorem qQ8.tab6 : rtab .any (opsOf Tryz.f36 6) = qQ8.T6 := by kernel_rfl
theorem qQ8.bits6 : waitsOk qQ8.T6.2 qQ8.B6 = true := by kernel_rfl
set_option maxHeartbeats 8000000 in
set_option maxRecDepth 100000 in
theorem qQ8.calls (k : Nat) (A0 : Option Addr) (c0 : Nat) (l0 : List (S48)) (A1 : Option Addr) (c1 : Nat) (l1 : List (S48)) (r : Bool) (w : World) (hr0 : Kd.C k48 w A0 l0.length l0) (hc0 : l0.length <= c0) (hr1 : Kd.C k48 w A1 l1.length l1) (hc1 : l1.length <= c1) (h : qQ8.f k l0 l1 = some r) :
  Calls Tryz.prog 36 #[.slice A0 l0.length c0, .slice A1 l1.length c1] w fun e w' => e = .returned (.bool r) /\ Below w.heap.size w w' := by
 have l8 := Tryz.underlying48
 have qG := am hr0
 have vD := am hc0
 clear hr0 hc0
 have qH := am hr1
 have vE := am hc1
 clear hr1 hc1
 have HB := am (Below.refl w.heap.size w)
 have H := h
 unfold qQ8.f at H
 clear h
 by_cases c3 : (l0.length : Int) = (l1.length : Int)
 case neg =>
  rw [if_neg c3] at H
  exact absurd H (by simp)
 rw [if_pos c3] at H
 have g4 := beq_iff_eq.mpr c3
 have g5 := bne_eq_false_iff_eq.mpr c3
 have lZ : (l0.length == l1.length) = true := by first | simpa using c3 | (simp at c3 ⊢; omega)
 clear c3
 have H' := am H
 clear H
 go_enter Tryz.func36, Tryz.ntmps36
 go_wp2
 go_loopg [5] k (fun kq v5 w' => ∃ (aC : Int), v5 = .int .i64 aC /\ Aside0 (qQ8.l0 kq l0 l1 aC = some r) /\ Aside0 (kq <= k) /\ Aside0 (Below w.heap.size w w'))
 case atStart => exact ⟨(0), fr, H', ⟨Nat.le_refl _⟩, a0_ HB⟩
 case round =>
  clear H'
  try clear c1
  try clear c3
  try clear g4 g5
  try clear lZ
  obtain ⟨aC, rfl, HA, m7, HB⟩ := hrel
  rcases gk with _ | k1
  ·exact absurd HA.out (by simp [qQ8.l0])
  have H := HA.out
  clear HA
  simp only [qQ8.l0] at H
  by_cases c4 : aC < (l0.length : Int)
  case neg =>
   rw [if_neg c4] at H
   have i0 := decide_eq_false c4
   clear c4
   obtain rfl := Option.some.inj H
   go_wp2
   go_ret
   exact ⟨er, by exact h0q HB.out⟩
  rw [if_pos c4] at H
  have i0 := decide_eq_true c4
  clear c4
  by_cases c5 : 0 <= aC
  case neg =>
   rw [if_neg c5] at H
   exact absurd H (by simp)
  rw [if_pos c5] at H
  have j2 := decide_eq_true c5
  clear c5
  by_cases c6 : aC < (l1.length : Int)
  case neg =>
   rw [if_neg c6] at H
   exact absurd H (by simp)
  rw [if_pos c6] at H
  have j3 := decide_eq_true c6
  clear c6
  obtain ⟨mP, A7, H⟩ := bd H
  by_cases c8 : mP = true
  case neg =>
   replace c8 := Bool.eq_false_iff.mpr c8
   subst c8
   rw [if_neg (show ¬ (false = true) by decide)] at H
   exact absurd H (by simp)
  subst c8
  rw [if_pos rfl] at H
  have H' := am H
  clear H
  try go_wp2
  replace HB := am (qZk HB.out)
  have l9 : 0 <= (aC : Int) := yd
  have mD : aC < (l0.length : Int) := yd
  obtain ⟨bN, qO, eD, eE, eF, eG, eH, eI, eJ, eK, eL, eM, dX, dY, dZ⟩ := qXr qG.out aC l9 mD
  have gV := dZ
  have gU := dY
  have gT := dX
  have iB := eM
  have iA := eL
  have h9 := eK
  have h8 := eJ
  have h7 := eI
  have h6 := eH
  have h5 := eG
  have h4 := eF
  have h3 := eE
  have h2 := eD
  cases qO
  replace eD := hxb HB.out eD
  replace eE := hxb HB.out eE
  replace eF := hxb HB.out eF
  replace eG := hxb HB.out eG
  replace eH := hxb HB.out eH
  replace eI := hxb HB.out eI
  replace eJ := hxb HB.out eJ
  replace eK := hxb HB.out eK
  replace eL := hxb HB.out eL
  replace eM := hxb HB.out eM
  replace dX := hxb HB.out dX
  replace dY := hxb HB.out dY
  replace dZ := hxb HB.out dZ
  replace l9 := eq_true l9
  replace mD := eq_true mD
  have mA : 0 <= (aC : Int) := yd
  have mE : aC < (l1.length : Int) := yd
  obtain ⟨bO, qP, iO⟩ := qXr qH.out aC mA mE
  have lN := iO
  cases qP
  replace iO := h13 HB iO
  replace mA := eq_true mA
  replace mE := eq_true mE
  refine start_ (n := 10) (S := fun w' => w'.cell? (bN.add ((aC).toNat * 13)) = some (.int .i64 ((qQb l0 aC).f0)) /\ w'.cell? ⟨(bN.add ((aC).toNat * 13)).block, (bN.add ((aC).toNat * 13)).off + 1, none⟩ = some (.int .i64 ((qQb l0 aC).f1)) /\ w'.cell? ⟨(bN.add ((aC).toNat * 13)).block, (bN.add ((aC).toNat * 13)).off + 2, none⟩ = some (.int .i64 ((qQb l0 aC).f2)) /\ w'.cell? ⟨(bN.add ((aC).toNat * 13)).block, (bN.add ((aC).toNat * 13)).off + 3, none⟩ = some (.int .i64 ((qQb l0 aC).f3)) /\ w'.cell? ⟨(bN.add ((aC).toNat * 13)).block, (bN.add ((aC).toNat * 13)).off + 4, none⟩ = some (.int .i64 ((qQb l0 aC).f4)) /\ w'.cell? ⟨(bN.add ((aC).toNat * 13)).block, (bN.add ((aC).toNat * 13)).off + 5, none⟩ = some (.int .i64 ((qQb l0 aC).f5)) /\ w'.cell? ⟨(bN.add ((aC).toNat * 13)).block, (bN.add ((aC).toNat * 13)).off + 6, none⟩ = some (.bool ((qQb l0 aC).f6)) /\ w'.cell? ⟨(bN.add ((aC).toNat * 13)).block, (bN.add ((aC).toNat * 13)).off + 7, none⟩ = some (.int .i64 ((qQb l0 aC).f7)) /\ w'.cell? ⟨(bN.add ((aC).toNat * 13)).block, (bN.add ((aC).toNat * 13)).off + 8, none⟩ = some (.int .i64 ((qQb l0 aC).f8)) /\ w'.cell? ⟨(bN.add ((aC).toNat * 13)).block, (bN.add ((aC).toNat * 13)).off + 9, none⟩ = some (.int .i64 ((qQb l0 aC).f9)) /\ w'.cell? ⟨(bN.add ((aC).toNat * 13)).block, (bN.add ((aC).toNat * 13)).off + 10, none⟩ = some (.int .i64 ((qQb l0 aC).f10)) /\ w'.cell? ⟨(bN.add ((aC).toNat * 13)).block, (bN.add ((aC).toNat * 13)).off + 11, none⟩ = some (.int .i64 ((qQb l0 aC).f11)) /\ w'.cell? ⟨(bN.add ((aC).toNat * 13)).block, (bN.add ((aC).toNat * 13)).off + 12, none⟩ = some (.int .i64 ((qQb l0 aC).f12)) /\ w'.cell? (bO.add ((aC).toNat * 13)) = some (.int .i64 ((qQb l1 aC).f0)) /\ w'.cell? ⟨(bO.add ((aC).toNat * 13)).block, (bO.add ((aC).toNat * 13)).off + 1, none⟩ = some (.int .i64 ((qQb l1 aC).f1)) /\ w'.cell? ⟨(bO.add ((aC).toNat * 13)).block, (bO.add ((aC).toNat * 13)).off + 2, none⟩ = some (.int .i64 ((qQb l1 aC).f2)) /\ w'.cell? ⟨(bO.add ((aC).toNat * 13)).block, (bO.add ((aC).toNat * 13)).off + 3, none⟩ = some (.int .i64 ((qQb l1 aC).f3)) /\ w'.cell? ⟨(bO.add ((aC).toNat * 13)).block, (bO.add ((aC).toNat * 13)).off + 4, none⟩ = some (.int .i64 ((qQb l1 aC).f4)) /\ w'.cell? ⟨(bO.add ((aC).toNat * 13)).block, (bO.add ((aC).toNat * 13)).off + 5, none⟩ = some (.int .i64 ((qQb l1 aC).f5)) /\ w'.cell? ⟨(bO.add ((aC).toNat * 13)).block, (bO.add ((aC).toNat * 13)).off + 6, none⟩ = some (.bool ((qQb l1 aC).f6)) /\ w'.cell? ⟨(bO.add ((aC).toNat * 13)).block, (bO.add ((aC).toNat * 13)).off + 7, none⟩ = some (.int .i64 ((qQb l1 aC).f7)) /\ w'.cell? ⟨(bO.add ((aC).toNat * 13)).block, (bO.add ((aC).toNat * 13)).off + 8, none⟩ = some (.int .i64 ((qQb l1 aC).f8)) /\ w'.cell? ⟨(bO.add ((aC).toNat * 13)).block, (bO.add ((aC).toNat * 13)).off + 9, none⟩ = some (.int .i64 ((qQb l1 aC).f9)) /\ w'.cell? ⟨(bO.add ((aC).toNat * 13)).block, (bO.add ((aC).toNat * 13)).off + 10, none⟩ = some (.int .i64 ((qQb l1 aC).f10)) /\ w'.cell? ⟨(bO.add ((aC).toNat * 13)).block, (bO.add ((aC).toNat * 13)).off + 11, none⟩ = some (.int .i64 ((qQb l1 aC).f11)) /\ w'.cell? ⟨(bO.add ((aC).toNat * 13)).block, (bO.add ((aC).toNat * 13)).off + 12, none⟩ = some (.int .i64 ((qQb l1 aC).f12))) (ds := []) #[false, false, false, false, false, false, false, false, false, false] (by kernel_rfl) rfl rfl ⟨(hxb HB.out h2), (hxb HB.out h3), (hxb HB.out h4), (hxb HB.out h5), (hxb HB.out h6), (hxb HB.out h7), (hxb HB.out h8), (hxb HB.out h9), (hxb HB.out iA), (hxb HB.out iB), (hxb HB.out gT), (hxb HB.out gU), (hxb HB.out gV), h13 HB lN⟩ (fun hHeld => ?_); refine qX5 qQ8.tab6 qQ8.bits6 (fun HT_ HW_ => ?_)
  generalize wr.drew = w9 at HB eD eE dX dY dZ eF eG eH eI eJ eK eL eM iO hHeld ⊢
  refine pure_ (i := 0) (N := some 17) (v := ?_) (a' := ?_) #[true, false, false, false, false, false, false, false, false, false] rfl rfl (qZ0 HT_.out (by kernel_rfl)) (fun _ _ _ h => h) (Or.inl ⟨by rfl, ?_⟩) ?_ ?_
  rotate_left
  ·intro w'
   go_simp
   with_reducible rfl
  rotate_left
  ·exact pu
  refine pure_ (i := 1) (N := some 18) (v := ?_) (a' := ?_) #[true, true, false, false, false, false, false, false, false, false] rfl rfl (qZ0 HT_.out (by kernel_rfl)) (fun _ _ _ h => h) (Or.inl ⟨by rfl, ?_⟩) ?_ ?_
  rotate_left
  ·intro w'
   go_simp
   with_reducible rfl
  rotate_left
  ·exact pu
  refine pure_ (i := 2) (N := some 19) (v := ?_) (a' := ?_) #[true, true, true, false, false, false, false, false, false, false] rfl rfl (qZ0 HT_.out (by kernel_rfl)) (fun _ _ _ h => h) (Or.inl ⟨by rfl, ?_⟩) ?_ ?_
  rotate_left
  ·intro w'
   go_simp
   with_reducible rfl
  rotate_left
  ·exact pu
  refine pure_ (i := 4) (N := some 21) (v := ?_) (a' := ?_) #[true, true, true, false, true, false, false, false, false, false] rfl rfl (qZ0 HT_.out (by kernel_rfl)) (fun _ _ _ h => h) (Or.inl ⟨by rfl, ?_⟩) ?_ ?_
  rotate_left
  ·intro w'
   go_simp
   with_reducible rfl
  rotate_left
  ·exact pu
  refine pure_ (i := 5) (N := some 22) (v := ?_) (a' := ?_) #[true, true, true, false, true, true, false, false, false, false] rfl rfl (qZ0 HT_.out (by kernel_rfl)) (fun _ _ _ h => h) (Or.inl ⟨by rfl, ?_⟩) ?_ ?_
  rotate_left
  ·intro w'
   go_simp
   with_reducible rfl
  rotate_left
  ·exact pu
  refine pure_ (i := 6) (N := some 23) (v := ?_) (a' := ?_) #[true, true, true, false, true, true, true, false, false, false] rfl rfl (qZ0 HT_.out (by kernel_rfl)) (fun _ _ _ h => h) (Or.inl ⟨by rfl, ?_⟩) ?_ ?_
  rotate_left
  ·intro w'
   go_simp
   with_reducible rfl
  rotate_left
  ·exact pu
  refine take_ (i := 3) (N := some 20) (v := ?_) (a' := ?_) #[true, true, true, true, true, true, true, false, false, false] rfl rfl (qXm HT_.out HW_.out (by kernel_rfl)) (fun _ _ _ h => h) (Or.inl ⟨by rfl, ?_⟩) hHeld ?_ ?_
  rotate_left
  ·rintro w' ⟨s0, s1, s2, s3, s4, s5, s6, s7, s8, s9, s10, s11, s12, s13, s14, s15, s16, s17, s18, s19, s20, s21, s22, s23, s24, s25⟩
   go_simp
   with_reducible rfl
  rotate_left
  ·exact pu
  refine take_ (i := 7) (N := some 24) (v := ?_) (a' := ?_) #[true, true, true, true, true, true, true, true, false, false] rfl rfl (qXm HT_.out HW_.out (by kernel_rfl)) (fun _ _ _ h => h) (Or.inl ⟨by rfl, ?_⟩) hHeld ?_ ?_
  rotate_left
  ·rintro w' ⟨s0, s1, s2, s3, s4, s5, s6, s7, s8, s9, s10, s11, s12, s13, s14, s15, s16, s17, s18, s19, s20, s21, s22, s23, s24, s25⟩
   go_simp
   with_reducible rfl
  rotate_left
  ·exact pu
  refine one_ (i := 8) (N := some 25) #[true, true, true, true, true, true, true, true, true, false] rfl rfl (qXj HT_.out (by kernel_rfl)) (by decide) (fun K hK => ?_)
  refine goes_ Tryz.func57 (by kernel_rfl) rfl #[.agg #[.int .i64 ((qQb l0 aC).f0), .int .i64 ((qQb l0 aC).f1), .int .i64 ((qQb l0 aC).f2), .int .i64 ((qQb l0 aC).f3), .int .i64 ((qQb l0 aC).f4), .int .i64 ((qQb l0 aC).f5), .bool ((qQb l0 aC).f6), .int .i64 ((qQb l0 aC).f7), .int .i64 ((qQb l0 aC).f8), .int .i64 ((qQb l0 aC).f9), .int .i64 ((qQb l0 aC).f10), .int .i64 ((qQb l0 aC).f11), .int .i64 ((qQb l0 aC).f12)], .agg #[.int .i64 ((qQb l1 aC).f0), .int .i64 ((qQb l1 aC).f1), .int .i64 ((qQb l1 aC).f2), .int .i64 ((qQb l1 aC).f3), .int .i64 ((qQb l1 aC).f4), .int .i64 ((qQb l1 aC).f5), .bool ((qQb l1 aC).f6), .int .i64 ((qQb l1 aC).f7), .int .i64 ((qQb l1 aC).f8), .int .i64 ((qQb l1 aC).f9), .int .i64 ((qQb l1 aC).f10), .int .i64 ((qQb l1 aC).f11), .int .i64 ((qQb l1 aC).f12)]] (by rfl) rfl rfl ml ?_
  with_reducible refine (qXi.calls _ _ _ _ _ _ _ _ _ _ _ _ _ _ _ _ _ _ _ _ _ _ _ _ _ _ true _ A7.out).mono ?_
  rintro e g9 ⟨rfl, hb⟩
  refine ⟨_, rfl, ?_⟩
  replace HB := s0 HB hb
  (try clear hb)
  (try clear hb2)
  (try clear hk)
  (try clear hi)
  refine hK.out _ _ ⟨(hxb HB.out h2), (hxb HB.out h3), (hxb HB.out h4), (hxb HB.out h5), (hxb HB.out h6), (hxb HB.out h7), (hxb HB.out h8), (hxb HB.out h9), (hxb HB.out iA), (hxb HB.out iB), (hxb HB.out gT), (hxb HB.out gU), (hxb HB.out gV), h13 HB lN⟩ (fun hHeld => ?_)
  clear hK K
  refine norm_ (a' := ?_) ?_ ?_
  rotate_left
  ·show Act.put _ (some 25) _ = _
   exact pu
  refine pure_ (i := 9) (N := some 26) (v := ?_) (a' := ?_) #[true, true, true, true, true, true, true, true, true, true] rfl rfl (qZ0 HT_.out (by kernel_rfl)) (fun _ _ _ h => h) (Or.inl ⟨by rfl, ?_⟩) ?_ ?_
  rotate_left
  ·intro w'
   go_simp
   with_reducible rfl
  rotate_left
  ·exact pu
  refine done_ (qW0 HT_.out (by kernel_rfl)) ?_
  try go_wp2
  go_roundg k1
  case measure => have := m7.out; omega
  case rel => exact ⟨(wrap64 (aC + 1)), fr, H', o1 m7, a0_ HB⟩
def qXh.f (k : Nat) (a4 bV bC bI bW : Int) (gW : List Int) (bD cO bF bJ bX : Int) (gX : List Int) : Option (Bool) := if a4 = bD then (if bV = cO then (if bC = bF then (if bI = bJ then (if bW = bX then ((qZf.f k gW gX).bind fun mQ => (some mQ)) else (none)) else (none)) else (none)) else (none)) else (none)
set_option maxHeartbeats 8000000 in
set_option maxRecDepth 100000 in
theorem qXh.calls (k : Nat) (a4 bV bC bI bW : Int) (lP : Option Addr) (lU : Nat) (gW : List Int) (bD cO bF bJ bX : Int) (lQ : Option Addr) (lV : Nat) (gX : List Int) (r : Bool) (w : World) (lK : Kd.C (Kd.int .i64) w lP gW.length gW) (lH : gW.length <= lU) (lM : Kd.C (Kd.int .i64) w lQ gX.length gX) (lJ : gX.length <= lV) (h : qXh.f k a4 bV bC bI bW gW bD cO bF bJ bX gX = some r) :
  Calls Tryz.prog 58 #[.agg #[.int .i64 a4, .int .i64 bV, .int .i64 bC, .int .i64 bI, .int .i64 bW, .slice lP gW.length lU], .agg #[.int .i64 bD, .int .i64 cO, .int .i64 bF, .int .i64 bJ, .int .i64 bX, .slice lQ gX.length lV]] w fun e w' => e = .returned (.bool r) /\ Below w.heap.size w w' := by
 have rJ := Tryz.underlying54
 have m9 := am lK
 have m4 := am lH
 clear lK lH
 have nB := am lM
 have m6 := am lJ
 clear lM lJ
 have HB := am (Below.refl w.heap.size w)
 have H := h
 unfold qXh.f at H
 clear h
 by_cases c3 : a4 = bD
 case neg =>
  rw [if_neg c3] at H
  exact absurd H (by simp)
 rw [if_pos c3] at H
 have g4 := beq_iff_eq.mpr c3
 have g5 := bne_eq_false_iff_eq.mpr c3
 clear c3
 by_cases c4 : bV = cO
 case neg =>
  rw [if_neg c4] at H
  exact absurd H (by simp)
 rw [if_pos c4] at H
 have i0 := beq_iff_eq.mpr c4
 have n2 := bne_eq_false_iff_eq.mpr c4
 clear c4
 by_cases c5 : bC = bF
 case neg =>
  rw [if_neg c5] at H
  exact absurd H (by simp)
 rw [if_pos c5] at H
 have j2 := beq_iff_eq.mpr c5
 have n4 := bne_eq_false_iff_eq.mpr c5
 clear c5
 by_cases c6 : bI = bJ
 case neg =>
  rw [if_neg c6] at H
  exact absurd H (by simp)
 rw [if_pos c6] at H
 have j3 := beq_iff_eq.mpr c6
 have n5 := bne_eq_false_iff_eq.mpr c6
 clear c6
 by_cases c7 : bW = bX
 case neg =>
  rw [if_neg c7] at H
  exact absurd H (by simp)
 rw [if_pos c7] at H
 have n6 := beq_iff_eq.mpr c7
 have n7 := bne_eq_false_iff_eq.mpr c7
 clear c7
 obtain ⟨mQ, A8, H⟩ := bd H
 obtain rfl := Option.some.inj H
 go_enter Tryz.func58, Tryz.ntmps58
 go_wp2_with (first | ((with_reducible refine gd 2 ?_); refine bE 2 _ 54 ?_; intro fH hg w9 hbox hb; have cI := am hbox; have sE := e0 HB hg; have hE := e0 HB hg; replace HB := s0 HB hb; clear hb hbox hg) | ((with_reducible refine gd 3 ?_); refine bE 3 _ 54 ?_; intro fI hg g9 hbox hb; have cR := am hbox; have sF := e1 HB hE hg; have m2 := e1 HB hE hg; replace HB := s1 HB hE hb; have iT := nL cI hg; have iU := nG cI hg; replace cI := bB cI hb; clear hb hbox hg; have oQ := iT.out; have oS := iU.out; have pK : g9.cell? ⟨fH, 0, none⟩ = some (.int .i64 a4) := (qQa cI.out 0).trans rfl; have pL : g9.cell? ⟨fH, 1, none⟩ = some (.int .i64 bV) := (qQa cI.out 1).trans rfl; have pM : g9.cell? ⟨fH, 2, none⟩ = some (.int .i64 bC) := (qQa cI.out 2).trans rfl; have pN : g9.cell? ⟨fH, 3, none⟩ = some (.int .i64 bI) := (qQa cI.out 3).trans rfl; have pO : g9.cell? ⟨fH, 4, none⟩ = some (.int .i64 bW) := (qQa cI.out 4).trans rfl; have pP : g9.cell? ⟨fH, 5, none⟩ = some (.slice lP gW.length lU) := (qQa cI.out 5).trans rfl; have pY := qQd cI.out 0; have pZ := qQd cI.out 1; have p0 := qQd cI.out 2; have p1 := qQd cI.out 3; have p2 := qQd cI.out 4; have p3 := qQd cI.out 5; have d9 : g9.cell? ⟨fI, 0, none⟩ = some (.int .i64 bD) := (qQa cR.out 0).trans rfl; have eA : g9.cell? ⟨fI, 1, none⟩ = some (.int .i64 cO) := (qQa cR.out 1).trans rfl; have pQ : g9.cell? ⟨fI, 2, none⟩ = some (.int .i64 bF) := (qQa cR.out 2).trans rfl; have pR : g9.cell? ⟨fI, 3, none⟩ = some (.int .i64 bJ) := (qQa cR.out 3).trans rfl; have pS : g9.cell? ⟨fI, 4, none⟩ = some (.int .i64 bX) := (qQa cR.out 4).trans rfl; have pT : g9.cell? ⟨fI, 5, none⟩ = some (.slice lQ gX.length lV) := (qQa cR.out 5).trans rfl; have eB := qQd cR.out 0; have eC := qQd cR.out 1; have p4 := qQd cR.out 2; have p5 := qQd cR.out 3; have p6 := qQd cR.out 4; have p7 := qQd cR.out 5) | (go_at_call 10; (with_reducible refine (qZf.calls _ _ _ _ _ _ _ mQ _ ?side1 ?side2 ?side3 ?side4 A8.out).mono ?_); (case side1 => exact cq ((Kd.qZp m9.out HB.out))); (case side2 => exact m4.out); (case side3 => exact cq ((Kd.qZp nB.out HB.out))); (case side4 => exact m6.out); rintro e w' ⟨rfl, ⟨nd, rfl⟩⟩))
 go_ret
 exact ⟨er, by exact h2q HB.out hE.out m2.out⟩
def qQ7.l0 : Nat -> List (S54) -> List (S54) -> Int -> Option (Bool)
 | 0, _, _, _ => none
 | k + 1, x0, x1, x5 => if x5 < (x0.length : Int) then (if 0 <= x5 then (if x5 < (x1.length : Int) then ((qXh.f k ((qQu x0 x5).f0) ((qQu x0 x5).f1) ((qQu x0 x5).f2) ((qQu x0 x5).f3) ((qQu x0 x5).f4) ((qQu x0 x5).f5) ((qQu x1 x5).f0) ((qQu x1 x5).f1) ((qQu x1 x5).f2) ((qQu x1 x5).f3) ((qQu x1 x5).f4) ((qQu x1 x5).f5)).bind fun mR => (if mR = true then (qQ7.l0 k x0 x1 (wrap64 (x5 + 1))) else (none))) else (none)) else (none)) else (some true)
def qQ7.f (k : Nat) (l0 : List (S54)) (l1 : List (S54)) : Option (Bool) := if (l0.length : Int) = (l1.length : Int) then (qQ7.l0 k l0 l1 0) else (none)
def qQ7.T6 : Bool × List (List Nat × List Nat) := (true, [([], []), ([], []), ([0, 1], [0, 1]), ([2], [2]), ([], []), ([], []), ([4, 5], [4, 5]), ([6], [6]), ([3, 7], [3, 7]), ([8], [8])])
def qQ7.B6 : List Nat := [0, 0, 3, 7, 0, 0, 48, 112, 255, 511]
theorem qQ7.tab6 : rtab .any (opsOf Tryz.f37 6) = qQ7.T6 := by kernel_rfl
theorem qQ7.bits6 : waitsOk qQ7.T6.2 qQ7.B6 = true := by kernel_rfl
set_option maxHeartbeats 8000000 in
set_option maxRecDepth 100000 in
theorem qQ7.calls (k : Nat) (A0 : Option Addr) (c0 : Nat) (l0 : List (S54)) (A1 : Option Addr) (c1 : Nat) (l1 : List (S54)) (r : Bool) (w : World) (hr0 : Kd.C k54 w A0 l0.length l0) (hc0 : l0.length <= c0) (hr1 : Kd.C k54 w A1 l1.length l1) (hc1 : l1.length <= c1) (h : qQ7.f k l0 l1 = some r) :
  Calls Tryz.prog 37 #[.slice A0 l0.length c0, .slice A1 l1.length c1] w fun e w' => e = .returned (.bool r) /\ Below w.heap.size w w' := by
 have rJ := Tryz.underlying54
 have qG := am hr0
 have vD := am hc0
 clear hr0 hc0
 have qH := am hr1
 have vE := am hc1
 clear hr1 hc1
 have HB := am (Below.refl w.heap.size w)
 have H := h
 unfold qQ7.f at H
 clear h
 by_cases c3 : (l0.length : Int) = (l1.length : Int)
 case neg =>
  rw [if_neg c3] at H
  exact absurd H (by simp)
 rw [if_pos c3] at H
 have g4 := beq_iff_eq.mpr c3
 have g5 := bne_eq_false_iff_eq.mpr c3
 have lZ : (l0.length == l1.length) = true := by first | simpa using c3 | (simp at c3 ⊢; omega)
 clear c3
 have H' := am H
 clear H
 go_enter Tryz.func37, Tryz.ntmps37
 go_wp2
 go_loopg [5] k (fun kq v5 w' => ∃ (aC : Int), v5 = .int .i64 aC /\ Aside0 (qQ7.l0 kq l0 l1 aC = some r) /\ Aside0 (kq <= k) /\ Aside0 (Below w.heap.size w w'))
 case atStart => exact ⟨(0), fr, H', ⟨Nat.le_refl _⟩, a0_ HB⟩
 case round =>
  clear H'
  try clear c1
  try clear c3
  try clear g4 g5
  try clear lZ
  obtain ⟨aC, rfl, HA, m7, HB⟩ := hrel
  rcases gk with _ | k1
  ·exact absurd HA.out (by simp [qQ7.l0])
  have H := HA.out
  clear HA
  simp only [qQ7.l0] at H
  by_cases c4 : aC < (l0.length : Int)
  case neg =>
   rw [if_neg c4] at H
   have i0 := decide_eq_false c4
   clear c4
   obtain rfl := Option.some.inj H
   go_wp2
   go_ret
   exact ⟨er, by exact h0q HB.out⟩
  rw [if_pos c4] at H
  have i0 := decide_eq_true c4
  clear c4
  by_cases c5 : 0 <= aC
  case neg =>
   rw [if_neg c5] at H
   exact absurd H (by simp)
  rw [if_pos c5] at H
  have j2 := decide_eq_true c5
  clear c5
  by_cases c6 : aC < (l1.length : Int)
  case neg =>
   rw [if_neg c6] at H
   exact absurd H (by simp)
  rw [if_pos c6] at H
  have j3 := decide_eq_true c6
  clear c6
  obtain ⟨mR, A7, H⟩ := bd H
  by_cases c8 : mR = true
  case neg =>
   replace c8 := Bool.eq_false_iff.mpr c8
   subst c8
   rw [if_neg (show ¬ (false = true) by decide)] at H
   exact absurd H (by simp)
  subst c8
  rw [if_pos rfl] at H
  have H' := am H
  clear H
  try go_wp2
  replace HB := am (qZk HB.out)
  have mB : 0 <= (aC : Int) := yd
  have mF : aC < (l0.length : Int) := yd
  obtain ⟨cV, i4, jG, qQ, eN, eO, eP, eQ, eR, eS, h0, hY⟩ := zQm qG.out aC mB mF
  have iH := eS
  have iG := eR
  have iF := eQ
  have iE := eP
  have iD := eO
  have iC := eN
  cases qQ
  replace eN := hxb HB.out eN
  replace eO := hxb HB.out eO
  replace eP := hxb HB.out eP
  replace eQ := hxb HB.out eQ
  replace eR := hxb HB.out eR
  replace eS := hxb HB.out eS
  have hH := am hY
  have jW := am h0
  clear hY h0
  replace mB := eq_true mB
  replace mF := eq_true mF
  have mC : 0 <= (aC : Int) := yd
  have mG : aC < (l1.length : Int) := yd
  obtain ⟨cW, i5, jH, qR, eT, eU, eV, eW, eX, eY, h1, hZ⟩ := zQm qH.out aC mC mG
  have iN := eY
  have iM := eX
  have iL := eW
  have iK := eV
  have iJ := eU
  have iI := eT
  cases qR
  replace eT := hxb HB.out eT
  replace eU := hxb HB.out eU
  replace eV := hxb HB.out eV
  replace eW := hxb HB.out eW
  replace eX := hxb HB.out eX
  replace eY := hxb HB.out eY
  have hI := am hZ
  have jX := am h1
  clear hZ h1
  replace mC := eq_true mC
  replace mG := eq_true mG
  refine start_ (n := 10) (S := fun w' => w'.cell? (cV.add ((aC).toNat * 6)) = some (.int .i64 ((qQu l0 aC).f0)) /\ w'.cell? ⟨(cV.add ((aC).toNat * 6)).block, (cV.add ((aC).toNat * 6)).off + 1, none⟩ = some (.int .i64 ((qQu l0 aC).f1)) /\ w'.cell? ⟨(cV.add ((aC).toNat * 6)).block, (cV.add ((aC).toNat * 6)).off + 2, none⟩ = some (.int .i64 ((qQu l0 aC).f2)) /\ w'.cell? ⟨(cV.add ((aC).toNat * 6)).block, (cV.add ((aC).toNat * 6)).off + 3, none⟩ = some (.int .i64 ((qQu l0 aC).f3)) /\ w'.cell? ⟨(cV.add ((aC).toNat * 6)).block, (cV.add ((aC).toNat * 6)).off + 4, none⟩ = some (.int .i64 ((qQu l0 aC).f4)) /\ w'.cell? ⟨(cV.add ((aC).toNat * 6)).block, (cV.add ((aC).toNat * 6)).off + 5, none⟩ = some (.slice i4 ((qQu l0 aC).f5).length jG) /\ w'.cell? (cW.add ((aC).toNat * 6)) = some (.int .i64 ((qQu l1 aC).f0)) /\ w'.cell? ⟨(cW.add ((aC).toNat * 6)).block, (cW.add ((aC).toNat * 6)).off + 1, none⟩ = some (.int .i64 ((qQu l1 aC).f1)) /\ w'.cell? ⟨(cW.add ((aC).toNat * 6)).block, (cW.add ((aC).toNat * 6)).off + 2, none⟩ = some (.int .i64 ((qQu l1 aC).f2)) /\ w'.cell? ⟨(cW.add ((aC).toNat * 6)).block, (cW.add ((aC).toNat * 6)).off + 3, none⟩ = some (.int .i64 ((qQu l1 aC).f3)) /\ w'.cell? ⟨(cW.add ((aC).toNat * 6)).block, (cW.add ((aC).toNat * 6)).off + 4, none⟩ = some (.int .i64 ((qQu l1 aC).f4)) /\ w'.cell? ⟨(cW.add ((aC).toNat * 6)).block, (cW.add ((aC).toNat * 6)).off + 5, none⟩ = some (.slice i5 ((qQu l1 aC).f5).length jH)) (ds := []) #[false, false, false, false, false, false, false, false, false, false] (by kernel_rfl) rfl rfl ⟨(hxb HB.out iC), (hxb HB.out iD), (hxb HB.out iE), (hxb HB.out iF), (hxb HB.out iG), (hxb HB.out iH), (hxb HB.out iI), (hxb HB.out iJ), (hxb HB.out iK), (hxb HB.out iL), (hxb HB.out iM), (hxb HB.out iN)⟩ (fun hHeld => ?_); refine qX5 qQ7.tab6 qQ7.bits6 (fun HT_ HW_ => ?_)
  generalize wr.drew = w9 at HB hH hI eN eO eP eQ eR eS eT eU eV eW eX eY hHeld ⊢
  refine pure_ (i := 0) (N := some 17) (v := ?_) (a' := ?_) #[true, false, false, false, false, false, false, false, false, false] rfl rfl (qZ0 HT_.out (by kernel_rfl)) (fun _ _ _ h => h) (Or.inl ⟨by rfl, ?_⟩) ?_ ?_
  rotate_left
  ·intro w'
   go_simp
   with_reducible rfl
  rotate_left
  ·exact pu
  refine pure_ (i := 1) (N := some 18) (v := ?_) (a' := ?_) #[true, true, false, false, false, false, false, false, false, false] rfl rfl (qZ0 HT_.out (by kernel_rfl)) (fun _ _ _ h => h) (Or.inl ⟨by rfl, ?_⟩) ?_ ?_
  rotate_left
  ·intro w'
   go_simp
   with_reducible rfl
  rotate_left
  ·exact pu
  refine pure_ (i := 2) (N := some 19) (v := ?_) (a' := ?_) #[true, true, true, false, false, false, false, false, false, false] rfl rfl (qZ0 HT_.out (by kernel_rfl)) (fun _ _ _ h => h) (Or.inl ⟨by rfl, ?_⟩) ?_ ?_
  rotate_left
  ·intro w'
   go_simp
   with_reducible rfl
  rotate_left
  ·exact pu
  refine pure_ (i := 4) (N := some 21) (v := ?_) (a' := ?_) #[true, true, true, false, true, false, false, false, false, false] rfl rfl (qZ0 HT_.out (by kernel_rfl)) (fun _ _ _ h => h) (Or.inl ⟨by rfl, ?_⟩) ?_ ?_
  rotate_left
  ·intro w'
   go_simp
   with_reducible rfl
  rotate_left
  ·exact pu
  refine pure_ (i := 5) (N := some 22) (v := ?_) (a' := ?_) #[true, true, true, false, true, true, false, false, false, false] rfl rfl (qZ0 HT_.out (by kernel_rfl)) (fun _ _ _ h => h) (Or.inl ⟨by rfl, ?_⟩) ?_ ?_
  rotate_left
  ·intro w'
   go_simp
   with_reducible rfl
  rotate_left
  ·exact pu
  refine pure_ (i := 6) (N := some 23) (v := ?_) (a' := ?_) #[true, true, true, false, true, true, true, false, false, false] rfl rfl (qZ0 HT_.out (by kernel_rfl)) (fun _ _ _ h => h) (Or.inl ⟨by rfl, ?_⟩) ?_ ?_
  rotate_left
  ·intro w'
   go_simp
   with_reducible rfl
  rotate_left
  ·exact pu
  refine take_ (i := 3) (N := some 20) (v := ?_) (a' := ?_) #[true, true, true, true, true, true, true, false, false, false] rfl rfl (qXm HT_.out HW_.out (by kernel_rfl)) (fun _ _ _ h => h) (Or.inl ⟨by rfl, ?_⟩) hHeld ?_ ?_
  rotate_left
  ·rintro w' ⟨s0, s1, s2, s3, s4, s5, s6, s7, s8, s9, s10, s11⟩
   go_simp
   with_reducible rfl
  rotate_left
  ·exact pu
  refine take_ (i := 7) (N := some 24) (v := ?_) (a' := ?_) #[true, true, true, true, true, true, true, true, false, false] rfl rfl (qXm HT_.out HW_.out (by kernel_rfl)) (fun _ _ _ h => h) (Or.inl ⟨by rfl, ?_⟩) hHeld ?_ ?_
  rotate_left
  ·rintro w' ⟨s0, s1, s2, s3, s4, s5, s6, s7, s8, s9, s10, s11⟩
   go_simp
   with_reducible rfl
  rotate_left
  ·exact pu
  refine one_ (i := 8) (N := some 25) #[true, true, true, true, true, true, true, true, true, false] rfl rfl (qXj HT_.out (by kernel_rfl)) (by decide) (fun K hK => ?_)
  refine goes_ Tryz.func58 (by kernel_rfl) rfl #[.agg #[.int .i64 ((qQu l0 aC).f0), .int .i64 ((qQu l0 aC).f1), .int .i64 ((qQu l0 aC).f2), .int .i64 ((qQu l0 aC).f3), .int .i64 ((qQu l0 aC).f4), .slice i4 ((qQu l0 aC).f5).length jG], .agg #[.int .i64 ((qQu l1 aC).f0), .int .i64 ((qQu l1 aC).f1), .int .i64 ((qQu l1 aC).f2), .int .i64 ((qQu l1 aC).f3), .int .i64 ((qQu l1 aC).f4), .slice i5 ((qQu l1 aC).f5).length jH]] (by rfl) rfl rfl ml ?_
  with_reducible refine (qXh.calls _ _ _ _ _ _ _ _ _ _ _ _ _ _ _ _ _ true _ ?side1 ?side2 ?side3 ?side4 A7.out).mono ?_
  (case side1 => exact cq ((Kd.qZp hH.out HB.out)))
  (case side2 => exact jW.out)
  (case side3 => exact cq ((Kd.qZp hI.out HB.out)))
  (case side4 => exact jX.out)
  rintro e g9 ⟨rfl, hb⟩
  refine ⟨_, rfl, ?_⟩
  replace HB := s0 HB hb
  (try clear hb)
  (try clear hb2)
  (try clear hk)
  (try clear hi)
  refine hK.out _ _ ⟨(hxb HB.out iC), (hxb HB.out iD), (hxb HB.out iE), (hxb HB.out iF), (hxb HB.out iG), (hxb HB.out iH), (hxb HB.out iI), (hxb HB.out iJ), (hxb HB.out iK), (hxb HB.out iL), (hxb HB.out iM), (hxb HB.out iN)⟩ (fun hHeld => ?_)
  clear hK K
  refine norm_ (a' := ?_) ?_ ?_
  rotate_left
  ·show Act.put _ (some 25) _ = _
   exact pu
  refine pure_ (i := 9) (N := some 26) (v := ?_) (a' := ?_) #[true, true, true, true, true, true, true, true, true, true] rfl rfl (qZ0 HT_.out (by kernel_rfl)) (fun _ _ _ h => h) (Or.inl ⟨by rfl, ?_⟩) ?_ ?_
  rotate_left
  ·intro w'
   go_simp
   with_reducible rfl
  rotate_left
  ·exact pu
  refine done_ (qW0 HT_.out (by kernel_rfl)) ?_
  try go_wp2
  go_roundg k1
  case measure => have := m7.out; omega
  case rel => exact ⟨(wrap64 (aC + 1)), fr, H', o1 m7, a0_ HB⟩
def qXa.f (a4 bV bC bI bD cO bF bJ : Int) : Option (Bool) := if a4 = bD then (if bV = cO then (if bC = bF then (some (bI == bJ)) else (none)) else (none)) else (none)
set_option maxHeartbeats 8000000 in
set_option maxRecDepth 100000 in
theorem qXa.calls (a4 bV bC bI bD cO bF bJ : Int) (r : Bool) (w : World) (h : qXa.f a4 bV bC bI bD cO bF bJ = some r) :
  Calls Tryz.prog 38 #[.agg #[.int .i64 a4, .int .i64 bV, .int .i64 bC, .int .i64 bI], .agg #[.int .i64 bD, .int .i64 cO, .int .i64 bF, .int .i64 bJ]] w fun e w' => e = .returned (.bool r) /\ Below w.heap.size w w' := by
 have rH := Tryz.underlying26
 have HB := am (Below.refl w.heap.size w)
 have H := h
 unfold qXa.f at H
 clear h
 by_cases c3 : a4 = bD
 case neg =>
  rw [if_neg c3] at H
  exact absurd H (by simp)
 rw [if_pos c3] at H
 have g4 := beq_iff_eq.mpr c3
 have g5 := bne_eq_false_iff_eq.mpr c3
 clear c3
 by_cases c4 : bV = cO
 case neg =>
  rw [if_neg c4] at H
  exact absurd H (by simp)
 rw [if_pos c4] at H
 have i0 := beq_iff_eq.mpr c4
 have n2 := bne_eq_false_iff_eq.mpr c4
 clear c4
 by_cases c5 : bC = bF
 case neg =>
  rw [if_neg c5] at H
  exact absurd H (by simp)
 rw [if_pos c5] at H
 have j2 := beq_iff_eq.mpr c5
 have n4 := bne_eq_false_iff_eq.mpr c5
 clear c5
 obtain rfl := Option.some.inj H
 go_enter Tryz.func38, Tryz.ntmps38
 go_wp2_with (first | ((with_reducible refine gd 2 ?_); refine bE 2 _ 26 ?_; intro sV hg w6 hbox hb; have fY := am hbox; have sG := e0 HB hg; have hF := e0 HB hg; replace HB := s0 HB hb; clear hb hbox hg) | ((with_reducible refine gd 3 ?_); refine bE 3 _ 26 ?_; intro hR hg w7 hbox hb; have d6 := am hbox; have sH := e1 HB hF hg; have m3 := e1 HB hF hg; replace HB := s1 HB hF hb; have iV := nL fY hg; have iW := nG fY hg; replace fY := bB fY hb; clear hb hbox hg; have vJ := iV.out; have vK := iW.out; have rY := lc4_ fY.out; have pG : w7.cell? ⟨hR, 0, none⟩ = some (.int .i64 bD) := (qQa d6.out 0).trans rfl; have pH : w7.cell? ⟨hR, 1, none⟩ = some (.int .i64 cO) := (qQa d6.out 1).trans rfl; have pI : w7.cell? ⟨hR, 2, none⟩ = some (.int .i64 bF) := (qQa d6.out 2).trans rfl; have pJ : w7.cell? ⟨hR, 3, none⟩ = some (.int .i64 bJ) := (qQa d6.out 3).trans rfl; have pU := qQd d6.out 0; have pV := qQd d6.out 1; have pW := qQd d6.out 2; have pX := qQd d6.out 3))
 go_ret
 exact ⟨er, by exact h2q HB.out hF.out m3.out⟩
def qYn.f (k : Nat) (a4 : Int) (b6 : List (S48)) (bC bI bW b8 : Int) (g6 : List (S54)) (b9 cB b5 a7 a9 bK bD : Int) (aN : List (S48)) (bF bJ bX cC : Int) (cG : List (S54)) (cD cE cF bL bM bP : Int) : Option (Bool) := if a4 = bD then ((qQ8.f k b6 aN).bind fun mS => (if mS = true then (if bC = bF then (if bI = bJ then (if bW = bX then (if b8 = cC then ((qQ7.f k g6 cG).bind fun mT => (if mT = true then (if b9 = cD then ((qXa.f cB b5 a7 a9 cE cF bL bM).bind fun mU => (if mU = true then (some (bK == bP)) else (none))) else (none)) else (none))) else (none)) else (none)) else (none)) else (none)) else (none))) else (none)
set_option maxHeartbeats 8000000 in
set_option maxRecDepth 100000 in
theorem qYn.calls (k : Nat) (a4 : Int) (d2 : Option Addr) (d4 : Nat) (b6 : List (S48)) (bC bI bW b8 : Int) (mY : Option Addr) (nJ : Nat) (g6 : List (S54)) (b9 cB b5 a7 a9 bK bD : Int) (e9 : Option Addr) (fC : Nat) (aN : List (S48)) (bF bJ bX cC : Int) (fA : Option Addr) (fD : Nat) (cG : List (S54)) (cD cE cF bL bM bP : Int) (r : Bool) (w : World) (gQ : Kd.C k48 w d2 b6.length b6) (gM : b6.length <= d4) (lL : Kd.C k54 w mY g6.length g6) (lI : g6.length <= nJ) (gR : Kd.C k48 w e9 aN.length aN) (gN : aN.length <= fC) (gS : Kd.C k54 w fA cG.length cG) (gO : cG.length <= fD) (h : qYn.f k a4 b6 bC bI bW b8 g6 b9 cB b5 a7 a9 bK bD aN bF bJ bX cC cG cD cE cF bL bM bP = some r) :
  Calls Tryz.prog 12 #[.agg #[.int .i64 a4, .slice d2 b6.length d4, .int .i64 bC, .int .i64 bI, .int .i64 bW, .int .i64 b8, .slice mY g6.length nJ, .int .i64 b9, .int .i64 cB, .int .i64 b5, .int .i64 a7, .int .i64 a9, .int .i64 bK], .agg #[.int .i64 bD, .slice e9 aN.length fC, .int .i64 bF, .int .i64 bJ, .int .i64 bX, .int .i64 cC, .slice fA cG.length fD, .int .i64 cD, .int .i64 cE, .int .i64 cF, .int .i64 bL, .int .i64 bM, .int .i64 bP]] w fun e w' => e = .returned (.bool r) /\ Below w.heap.size w w' := by
 have rI := Tryz.underlying28
 have rH := Tryz.underlying26
 have gE := am gQ
 have fZ := am gM
 clear gQ gM
 have nA := am lL
 have m5 := am lI
 clear lL lI
 have cU := am gR
 have gA := am gN
 clear gR gN
 have gF := am gS
 have gB := am gO
 clear gS gO
 have HB := am (Below.refl w.heap.size w)
 have H := h
 unfold qYn.f at H
 clear h
 by_cases c3 : a4 = bD
 case neg =>
  rw [if_neg c3] at H
  exact absurd H (by simp)
 rw [if_pos c3] at H
 have g4 := beq_iff_eq.mpr c3
 have g5 := bne_eq_false_iff_eq.mpr c3
 clear c3
 obtain ⟨mS, A4, H⟩ := bd H
 by_cases c5 : mS = true
 case neg =>
  replace c5 := Bool.eq_false_iff.mpr c5
  subst c5
  rw [if_neg (show ¬ (false = true) by decide)] at H
  exact absurd H (by simp)
 subst c5
 rw [if_pos rfl] at H
 by_cases c6 : bC = bF
 case neg =>
  rw [if_neg c6] at H
  exact absurd H (by simp)
 rw [if_pos c6] at H
 have j3 := beq_iff_eq.mpr c6
 have n5 := bne_eq_false_iff_eq.mpr c6
 clear c6
 by_cases c7 : bI = bJ
 case neg =>
  rw [if_neg c7] at H
  exact absurd H (by simp)
 rw [if_pos c7] at H
 have n6 := beq_iff_eq.mpr c7
 have n7 := bne_eq_false_iff_eq.mpr c7
 clear c7
 by_cases c8 : bW = bX
 case neg =>
  rw [if_neg c8] at H
  exact absurd H (by simp)
 rw [if_pos c8] at H
 have fN := beq_iff_eq.mpr c8
 have qI := bne_eq_false_iff_eq.mpr c8
 clear c8
 by_cases c9 : b8 = cC
 case neg =>
  rw [if_neg c9] at H
  exact absurd H (by simp)
 rw [if_pos c9] at H
 have qJ := beq_iff_eq.mpr c9
 have qK := bne_eq_false_iff_eq.mpr c9
 clear c9
 obtain ⟨mT, qA, H⟩ := bd H
 by_cases fM : mT = true
 case neg =>
  replace fM := Bool.eq_false_iff.mpr fM
  subst fM
  rw [if_neg (show ¬ (false = true) by decide)] at H
  exact absurd H (by simp)
 subst fM
 rw [if_pos rfl] at H
 by_cases jF : b9 = cD
 case neg =>
  rw [if_neg jF] at H
  exact absurd H (by simp)
 rw [if_pos jF] at H
 have nM := beq_iff_eq.mpr jF
 have nN := bne_eq_false_iff_eq.mpr jF
 clear jF
 obtain ⟨mU, u7, H⟩ := bd H
 by_cases jU : mU = true
 case neg =>
  replace jU := Bool.eq_false_iff.mpr jU
  subst jU
  rw [if_neg (show ¬ (false = true) by decide)] at H
  exact absurd H (by simp)
 subst jU
 rw [if_pos rfl] at H
 obtain rfl := Option.some.inj H
 go_enter Tryz.func12, Tryz.ntmps12
 go_wp2_with (first | ((with_reducible refine gd 2 ?_); refine bE 2 _ 28 ?_; intro sW hg v6 hbox hb; have cK := am hbox; have sI := e0 HB hg; have eZ := e0 HB hg; replace HB := s0 HB hb; clear hb hbox hg) | ((with_reducible refine gd 3 ?_); refine bE 3 _ 28 ?_; intro sX hg u2 hbox hb; have dV := am hbox; have sJ := e1 HB eZ hg; have hG := e1 HB eZ hg; replace HB := s1 HB eZ hb; have iX := nL cK hg; have iY := nG cK hg; replace cK := bB cK hb; clear hb hbox hg; have oR := iX.out; have oT := iY.out; have rK := lc13 cK.out; have rL := lc13 dV.out) | (go_at_call 36; (with_reducible refine (qQ8.calls _ _ _ _ _ _ _ true _ ?side1 ?side2 ?side3 ?side4 A4.out).mono ?_); (case side1 => exact cq ((Kd.qZp gE.out HB.out))); (case side2 => exact fZ.out); (case side3 => exact cq ((Kd.qZp cU.out HB.out))); (case side4 => exact gA.out); rintro e wI ⟨rfl, hb⟩; replace cK := bB cK hb; replace dV := bB dV hb; replace HB := s2 HB eZ hG hb; (try clear hb); (try clear hb2); (try clear hk); (try clear hi); have vN := lc13 cK.out; have vO := lc13 dV.out) | (go_at_call 37; (with_reducible refine (qQ7.calls _ _ _ _ _ _ _ true _ ?side1 ?side2 ?side3 ?side4 qA.out).mono ?_); (case side1 => exact cq ((Kd.qZp nA.out HB.out))); (case side2 => exact m5.out); (case side3 => exact cq ((Kd.qZp gF.out HB.out))); (case side4 => exact gB.out); rintro e wJ ⟨rfl, hb⟩; replace cK := bB cK hb; replace dV := bB dV hb; replace HB := s2 HB eZ hG hb; (try clear hb); (try clear hb2); (try clear hk); (try clear hi); have vP := lc13 cK.out; have oY := lc13 dV.out) | (go_at_call 38; (with_reducible refine (qXa.calls _ _ _ _ _ _ _ _ true _ u7.out).mono ?_); rintro e wL ⟨rfl, hb⟩; replace cK := bB cK hb; replace dV := bB dV hb; replace HB := s2 HB eZ hG hb; (try clear hb); (try clear hb2); (try clear hk); (try clear hi); have oZ := lc13 cK.out; have vQ := lc13 dV.out))
 go_ret
 exact ⟨er, by exact h2q HB.out eZ.out hG.out⟩
-- NOT PRINTED: function 3 (qZi)
-- NOT PRINTED: function 4 (annuitylaw18_PlanMost)
end Go.Proofs.YtlhcohipnieidaaGreat.P
