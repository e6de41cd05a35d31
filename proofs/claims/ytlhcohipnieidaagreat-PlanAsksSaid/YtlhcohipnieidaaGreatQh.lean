/- Several texts as one (written by a program): what the walks and the plain laws come to, one behind the other. -/
import Derived.Test.YtlhcohipnieidaaGreatQa
import Derived.Test.YtlhcohipnieidaaGreatQd
import Derived.Test.YtlhcohipnieidaaGreatQb
import Derived.Test.YtlhcohipnieidaaGreatQe
import Derived.Test.YtlhcohipnieidaaGreatQg
import Derived.Deep.Slices
import Derived.WalkKit
import Derived.ProofKit
import Derived.OpenShut
import Derived.ShutString
import Derived.ChangeOld
import Derived.Below
import Derived.SizedLaws
import Derived.Test.YtlhcohipnieidaaGreatWAll
import Derived.Laws.BitsLemmas
import Derived.Laws.Bits64
import Derived.Lib.ItoaNum
import Derived.RowKit
import Derived.Test.YtlhcohipnieidaaGreatQf
namespace Go.Proofs.YtlhcohipnieidaaGreat.P
open Go.RowKit W.PrintWords W.PrintLast W.PrintMore
attribute [local go_sem] qX8 qWa qWu qWv qXt qXu qX9 qWb
set_option linter.unusedVariables false
set_option linter.unusedSimpArgs false
-- BREAK
def qZw.f (k : Nat)  : Option (Bool) := (qVd.f k 1 120000 0 0 0 0 false 5 0 0 0 0 0).bind fun aG => ((qYk.f k aG.1 aG.2.1 aG.2.2.1 aG.2.2.2.1 aG.2.2.2.2.1 aG.2.2.2.2.2.1 aG.2.2.2.2.2.2.1 aG.2.2.2.2.2.2.2.1 aG.2.2.2.2.2.2.2.2.1 aG.2.2.2.2.2.2.2.2.2.1 aG.2.2.2.2.2.2.2.2.2.2.1 aG.2.2.2.2.2.2.2.2.2.2.2.1 aG.2.2.2.2.2.2.2.2.2.2.2.2.1 1 40).bind fun eV => ((qZa.f k 0 (([0] : List Int)) 0 (([(⟨aG.1, aG.2.1, aG.2.2.1, aG.2.2.2.1, aG.2.2.2.2.1, aG.2.2.2.2.2.1, aG.2.2.2.2.2.2.1, aG.2.2.2.2.2.2.2.1, aG.2.2.2.2.2.2.2.2.1, aG.2.2.2.2.2.2.2.2.2.1, aG.2.2.2.2.2.2.2.2.2.2.1, aG.2.2.2.2.2.2.2.2.2.2.2.1, aG.2.2.2.2.2.2.2.2.2.2.2.2.1⟩ : S48)] : List (S48))) 4 30 12000 1 ([] : List (S54)) 0 0 0 0 0 0 40).bind fun bJ => (if aG.2.2.2.2.2.2.2.2.2.2.2.2.2 = 0 then (if eV.2 = 0 then (if bJ.2.2 = 0 then (if aG.2.2.2.2.2.2.2.2.2.2.1 = 1000 then (if aG.2.2.2.2.2.2.2.2.2.2.2.1 = 400 then (if eV.1 = 1000 then ((qZf.f k bJ.1 (([1] : List Int))).bind fun dK => (if dK = true then ((qZb.f k bJ.2.1 (([100] : List Int))).bind fun cO => (if cO = true then ((qYy.f 1).bind fun cP => (if cP = true then ((qYy.f 2).bind fun cQ => (some (!cQ))) else (none))) else (none))) else (none))) else (none)) else (none)) else (none)) else (none)) else (none)) else (none))))
set_option maxHeartbeats 8000000 in
set_option maxRecDepth 100000 in
theorem qZw.calls (k : Nat)  (r : Bool) (w : World) (h : qZw.f k  = some r) :
  Calls Tryz.prog 6 #[] w fun e w' => e = .returned (.bool r) /\ Below w.heap.size w w' := by
 have i8 := Tryz.underlying48
 have hA := Tryz.underlying37
 have g9 := Tryz.underlying28
 have HB := am (Below.refl w.heap.size w)
 have H := h
 unfold qZw.f at H
 clear h
 obtain ⟨⟨cZ, dA, dB, dC, dD, dE, dF, dG, dH, dI, cM, cN, dJ, eI⟩, A1, H⟩ := bd H
 obtain ⟨⟨eJ, eK⟩, A2, H⟩ := bd H
 obtain ⟨fN, d8⟩ : ∃ y_ : List Int, y_ = (([0] : List Int)) := ⟨_, rfl⟩
 replace H : ((qZa.f k 0 fN 0 (([(⟨cZ, dA, dB, dC, dD, dE, dF, dG, dH, dI, cM, cN, dJ⟩ : S48)] : List (S48))) 4 30 12000 1 ([] : List (S54)) 0 0 0 0 0 0 40).bind fun bJ => (if eI = 0 then (if eK = 0 then (if bJ.2.2 = 0 then (if cM = 1000 then (if cN = 400 then (if eJ = 1000 then ((qZf.f k bJ.1 (([1] : List Int))).bind fun dK => (if dK = true then ((qZb.f k bJ.2.1 (([100] : List Int))).bind fun cO => (if cO = true then ((qYy.f 1).bind fun cP => (if cP = true then ((qYy.f 2).bind fun cQ => (some (!cQ))) else (none))) else (none))) else (none))) else (none)) else (none)) else (none)) else (none)) else (none)) else (none))) = some r := by exact hyq H d8
 have eQ := am d8
 clear d8
 obtain ⟨f7, d9⟩ : ∃ y_ : List (S48), y_ = (([(⟨cZ, dA, dB, dC, dD, dE, dF, dG, dH, dI, cM, cN, dJ⟩ : S48)] : List (S48))) := ⟨_, rfl⟩
 replace H : ((qZa.f k 0 fN 0 f7 4 30 12000 1 ([] : List (S54)) 0 0 0 0 0 0 40).bind fun bJ => (if eI = 0 then (if eK = 0 then (if bJ.2.2 = 0 then (if cM = 1000 then (if cN = 400 then (if eJ = 1000 then ((qZf.f k bJ.1 (([1] : List Int))).bind fun dK => (if dK = true then ((qZb.f k bJ.2.1 (([100] : List Int))).bind fun cO => (if cO = true then ((qYy.f 1).bind fun cP => (if cP = true then ((qYy.f 2).bind fun cQ => (some (!cQ))) else (none))) else (none))) else (none))) else (none)) else (none)) else (none)) else (none)) else (none)) else (none))) = some r := by exact hyq H d9
 have eR := am d9
 clear d9
 obtain ⟨⟨f2, fG, f4⟩, A3, H⟩ := bd H
 by_cases c4 : eI = 0
 case neg =>
  rw [if_neg c4] at H
  exact absurd H (by simp)
 rw [if_pos c4] at H
 have iS := beq_iff_eq.mpr c4
 have iT := bne_eq_false_iff_eq.mpr c4
 clear c4
 by_cases c5 : eK = 0
 case neg =>
  rw [if_neg c5] at H
  exact absurd H (by simp)
 rw [if_pos c5] at H
 have iU := beq_iff_eq.mpr c5
 have iV := bne_eq_false_iff_eq.mpr c5
 clear c5
 by_cases c6 : f4 = 0
 case neg =>
  rw [if_neg c6] at H
  exact absurd H (by simp)
 rw [if_pos c6] at H
 have iW := beq_iff_eq.mpr c6
 have iX := bne_eq_false_iff_eq.mpr c6
 clear c6
 by_cases c7 : cM = 1000
 case neg =>
  rw [if_neg c7] at H
  exact absurd H (by simp)
 rw [if_pos c7] at H
 have iY := beq_iff_eq.mpr c7
 have iZ := bne_eq_false_iff_eq.mpr c7
 clear c7
 by_cases c8 : cN = 400
 case neg =>
  rw [if_neg c8] at H
  exact absurd H (by simp)
 rw [if_pos c8] at H
 have i0 := beq_iff_eq.mpr c8
 have i1 := bne_eq_false_iff_eq.mpr c8
 clear c8
 by_cases c9 : eJ = 1000
 case neg =>
  rw [if_neg c9] at H
  exact absurd H (by simp)
 rw [if_pos c9] at H
 have i2 := beq_iff_eq.mpr c9
 have i3 := bne_eq_false_iff_eq.mpr c9
 clear c9
 obtain ⟨hH, eA⟩ : ∃ y_ : List Int, y_ = (([1] : List Int)) := ⟨_, rfl⟩
 replace H : ((qZf.f k f2 hH).bind fun dK => (if dK = true then ((qZb.f k fG (([100] : List Int))).bind fun cO => (if cO = true then ((qYy.f 1).bind fun cP => (if cP = true then ((qYy.f 2).bind fun cQ => (some (!cQ))) else (none))) else (none))) else (none))) = some r := by exact hyq H eA
 have eS := am eA
 clear eA
 obtain ⟨dK, iE, H⟩ := bd H
 by_cases dN : dK = true
 case neg =>
  replace dN := Bool.eq_false_iff.mpr dN
  subst dN
  rw [if_neg (show ¬ (false = true) by decide)] at H
  exact absurd H (by simp)
 subst dN
 rw [if_pos rfl] at H
 obtain ⟨hI, eB⟩ : ∃ y_ : List Int, y_ = (([100] : List Int)) := ⟨_, rfl⟩
 replace H : ((qZb.f k fG hI).bind fun cO => (if cO = true then ((qYy.f 1).bind fun cP => (if cP = true then ((qYy.f 2).bind fun cQ => (some (!cQ))) else (none))) else (none))) = some r := by exact hyq H eB
 have eT := am eB
 clear eB
 obtain ⟨cO, gK, H⟩ := bd H
 by_cases f8 : cO = true
 case neg =>
  replace f8 := Bool.eq_false_iff.mpr f8
  subst f8
  rw [if_neg (show ¬ (false = true) by decide)] at H
  exact absurd H (by simp)
 subst f8
 rw [if_pos rfl] at H
 obtain ⟨cP, iF, H⟩ := bd H
 by_cases f9 : cP = true
 case neg =>
  replace f9 := Bool.eq_false_iff.mpr f9
  subst f9
  rw [if_neg (show ¬ (false = true) by decide)] at H
  exact absurd H (by simp)
 subst f9
 rw [if_pos rfl] at H
 obtain ⟨cQ, iG, H⟩ := bd H
 obtain rfl := Option.some.inj H
 go_enter Tryz.func6, Tryz.ntmps6
 go_wp2_with (first | ((with_reducible refine gf 17 ?_); refine gC (some 10) Tryz.func17 (qVd.calls _ _ _ _ _ _ _ _ _ _ _ _ _ _ cZ dA dB dC dD dE dF dG dH dI cM cN dJ eI _ A1.out) ?_; rintro e j8 ⟨rfl, hb⟩; refine ⟨_, rfl, ?_⟩; replace HB := s0 HB hb; (try clear hb); (try clear hb2); (try clear hk); (try clear hi)) | ((with_reducible refine gd 1 ?_); (try (refine qYw (by rfl) ?_; dsimp only)); refine bE 1 _ 48 ?_; intro eW hg j9 hbox hb; have aQ := am hbox; have hJ := e0 HB hg; have aU := e0 HB hg; replace HB := s0 HB hb; clear hb hbox hg; have jA := lc13 aQ.out) | ((with_reducible refine gf 18 ?_); refine gC (some 15) Tryz.func18 (qYk.calls _ _ _ _ _ _ _ _ _ _ _ _ _ _ _ _ eJ eK _ A2.out) ?_; rintro e kA ⟨rfl, hb⟩; refine ⟨_, rfl, ?_⟩; replace aQ := am (qQv (g := eW) (o := .cells #[.int .i64 cZ, .int .i64 dA, .int .i64 dB, .int .i64 dC, .int .i64 dD, .int .i64 dE, .bool dF, .int .i64 dG, .int .i64 dH, .int .i64 dI, .int .i64 cM, .int .i64 cN, .int .i64 dJ] 48 (0, 0)) (by refine bw ?_; apply qY6; refine bw ?_; exact aQ.out) hb); replace HB := s1 HB aU hb; (try clear hb); (try clear hb2); (try clear hk); (try clear hi)) | ((with_reducible refine gd 19 ?_); (try (refine qYw (by rfl) ?_; dsimp only)); refine Kd.R_lit (Kd.int .i64) _ 2 ?hg (N := 19) ?hd (xs := ([0] : List Int)) (inner := [.int .i64 0]) (ok := fun _ => True) (okp := fun _ => True) ?hr ?hp (fun _ hk => hk) trivial (Below.refl _ _) (Nat.le_refl _) (by simp) ?_; (case hd => rfl); (case hg => rfl); (case hr => first | (go_simp; done) | (go_simp; rfl)); (case hp => exact (Reps.one (show Kd.M (Kd.int .i64) _ _ _ 0 [.int .i64 0] from rfl) (Reps.none _ _))); intro jJ kB d5 hb hg_ hnew_; clear hg_ hnew_; (first | rw [<- eQ.out] at d5 | (simp only [Int.reduceToNat] at d5; rw [<- eQ.out] at d5)); have aV := am (Kd.qZ1 d5 (qQn (by exact h1q HB.out aU.out))); replace aQ := bB aQ hb; replace HB := s1 HB aU hb; clear hb d5; obtain ⟨gL, gO, gR⟩ := Kd.qZq aV.out; subst gR; have jB := lc13 aQ.out) | ((with_reducible refine gd 22 ?_); (try (refine qYw (by rfl) ?_; dsimp only)); refine Kd.R_lit k48 _ 48 ?hg (N := 22) ?hd (xs := ([(⟨cZ, dA, dB, dC, dD, dE, dF, dG, dH, dI, cM, cN, dJ⟩ : S48)] : List (S48))) (inner := [.int .i64 cZ, .int .i64 dA, .int .i64 dB, .int .i64 dC, .int .i64 dD, .int .i64 dE, .bool dF, .int .i64 dG, .int .i64 dH, .int .i64 dI, .int .i64 cM, .int .i64 cN, .int .i64 dJ]) (ok := fun _ => True) (okp := fun _ => True) ?hr ?hp (fun _ hk => hk) trivial (Below.refl _ _) (Nat.le_refl _) (by simp) ?_; (case hd => rfl); (case hg => rfl); (case hr => first | (go_simp; done) | (go_simp; rfl)); (case hp => exact (Reps.front (show Kd.M k48 _ _ _ (⟨cZ, dA, dB, dC, dD, dE, dF, dG, dH, dI, cM, cN, dJ⟩ : S48) [.int .i64 cZ, .int .i64 dA, .int .i64 dB, .int .i64 dC, .int .i64 dD, .int .i64 dE, .bool dF, .int .i64 dG, .int .i64 dH, .int .i64 dI, .int .i64 cM, .int .i64 cN, .int .i64 dJ] from (zZr _ _ _ (⟨cZ, dA, dB, dC, dD, dE, dF, dG, dH, dI, cM, cN, dJ⟩ : S48) )) rfl (Reps.none _ _) rfl)); intro jK kC d6 hb hg_ hnew_; clear hg_ hnew_; (first | rw [<- eR.out] at d6 | (simp only [Int.reduceToNat] at d6; rw [<- eR.out] at d6)); replace aV := Rb aV hb; have b5 := am (Kd.qZ1 (Kd.R_newB d6 (g := eW) (Up.up aQ.out)) (qQn (by exact h1q HB.out aU.out))); replace aQ := bB aQ hb; replace HB := s1 HB aU hb; clear hb d6; obtain ⟨gM, gP, gS⟩ := Kd.qZq b5.out; subst gS) | ((with_reducible refine gf 8 ?_); refine goesL_ (some 24) rfl rfl Tryz.func8 (by kernel_rfl) rfl #[.agg #[.int .i64 0, .slice gL fN.length gO], .agg #[.int .i64 0, .slice gM f7.length gP, .int .i64 4, .int .i64 30, .int .i64 12000, .int .i64 1, .slice none 0 0, .int .i64 0, .int .i64 0, .int .i64 0, .int .i64 0, .int .i64 0, .int .i64 0], .int .i64 40] rfl ml ?_; (refine (qZa.calls _ _ _ _ _ _ _ _ _ _ _ _ _ _ _ _ _ _ _ _ _ _ _ f2 fG f4 _ ?side1 ?side2 ?side3 ?side4 ?side5 ?side6 A3.out).mono ?_); (case side1 => exact cq ((Kd.qQq aV.out).2.2)); (case side2 => exact (Kd.qQq aV.out).2.1); (case side3 => exact cq ((Kd.qQq b5.out).2.2)); (case side4 => exact (Kd.qQq b5.out).2.1); (case side5 => exact Kd.C_nil _ _); (case side6 => exact Nat.le_refl _); rintro e kD ⟨jL, jM, rfl, dW, dP, hb⟩; refine ⟨_, rfl, ?_⟩; replace b5 := Rb b5 hb; have cJ := am (Kd.qZ1 dW (qQn (by exact h1q HB.out aU.out))); have cK := am (Kd.qZ1 (Kd.qXc dP (Kd.R_lt (by exact rq aV.out))) (qQn (by exact h1q HB.out aU.out))); replace aV := Re aV dP hb; replace aQ := bB aQ hb; replace HB := s1 HB aU hb; (try clear hb); (try clear hb2); (try clear hk); (try clear hi); (try clear dW); (try clear dP); have jC := lc13 aQ.out) | ((with_reducible refine gd 54 ?_); (try (refine qYw (by rfl) ?_; dsimp only)); refine Kd.R_lit (Kd.int .i64) _ 3 ?hg (N := 54) ?hd (xs := ([1] : List Int)) (inner := [.int .i64 1]) (ok := fun _ => True) (okp := fun _ => True) ?hr ?hp (fun _ hk => hk) trivial (Below.refl _ _) (Nat.le_refl _) (by simp) ?_; (case hd => rfl); (case hg => rfl); (case hr => first | (go_simp; done) | (go_simp; rfl)); (case hp => exact (Reps.one (show Kd.M (Kd.int .i64) _ _ _ 1 [.int .i64 1] from rfl) (Reps.none _ _))); intro jN kF d2 hb hg_ hnew_; clear hg_ hnew_; (first | rw [<- eS.out] at d2 | (simp only [Int.reduceToNat] at d2; rw [<- eS.out] at d2)); replace aV := Rb aV hb; replace b5 := Rb b5 hb; replace cK := Rb cK hb; have dM := am (Kd.qZ1 (Kd.qXc d2 (Kd.R_lt (by exact rq cJ.out))) (qQn (by exact h1q HB.out aU.out))); replace cJ := Re cJ d2 hb; replace aQ := bB aQ hb; replace HB := s1 HB aU hb; clear hb d2; obtain ⟨iO, i4, gT⟩ := Kd.qZq cJ.out; subst gT; obtain ⟨iP, i5, gU⟩ := Kd.qZq dM.out; subst gU) | (go_at_call 10; (with_reducible refine (qZf.calls _ _ _ _ _ _ _ true _ ?side1 ?side2 ?side3 ?side4 iE.out).mono ?_); (case side1 => exact cq ((Kd.qQq cJ.out).2.2)); (case side2 => exact (Kd.qQq cJ.out).2.1); (case side3 => exact cq ((Kd.qQq dM.out).2.2)); (case side4 => exact (Kd.qQq dM.out).2.1); rintro e w' ⟨rfl, ⟨nd, rfl⟩⟩) | ((with_reducible refine gd 59 ?_); (try (refine qYw (by rfl) ?_; dsimp only)); refine Kd.R_lit (Kd.int .i64) _ 2 ?hg (N := 59) ?hd (xs := ([100] : List Int)) (inner := [.int .i64 100]) (ok := fun _ => True) (okp := fun _ => True) ?hr ?hp (fun _ hk => hk) trivial (Below.refl _ _) (Nat.le_refl _) (by simp) ?_; (case hd => rfl); (case hg => rfl); (case hr => first | (go_simp; done) | (go_simp; rfl)); (case hp => exact (Reps.one (show Kd.M (Kd.int .i64) _ _ _ 100 [.int .i64 100] from rfl) (Reps.none _ _))); intro jO fL dQ hb hg_ hnew_; clear hg_ hnew_; (first | rw [<- eT.out] at dQ | (simp only [Int.reduceToNat] at dQ; rw [<- eT.out] at dQ)); replace b5 := Rb b5 hb; replace cJ := Rb cJ hb; replace dM := Rb dM hb; have d4 := am (Kd.qZ1 (Kd.qXc (Kd.qXc dQ (Kd.R_lt (by exact rq aV.out))) (Kd.R_lt (by exact rq cK.out))) (qQn (by exact h1q HB.out aU.out))); replace aV := Re aV dQ hb; replace cK := Re cK dQ hb; replace aQ := bB aQ hb; replace HB := s1 HB aU hb; clear hb dQ; obtain ⟨iQ, i6, gV⟩ := Kd.qZq cK.out; subst gV; obtain ⟨b9, b8, fF⟩ := Kd.qZq d4.out; subst fF) | (go_at_call 11; (with_reducible refine (qZb.calls _ _ _ _ _ _ _ true _ ?side1 ?side2 ?side3 ?side4 gK.out).mono ?_); (case side1 => exact cq ((Kd.qQq cK.out).2.2)); (case side2 => exact (Kd.qQq cK.out).2.1); (case side3 => exact cq ((Kd.qQq d4.out).2.2)); (case side4 => exact (Kd.qQq d4.out).2.1); rintro e w' ⟨rfl, ⟨nd, rfl⟩⟩) | (go_at_call 19; (with_reducible refine (qYy.calls _ true _ iF.out).mono ?_); rintro e w' ⟨rfl, ⟨nd, rfl⟩⟩) | (go_at_call 19; (with_reducible refine (qYy.calls _ cQ _ iG.out).mono ?_); rintro e w' ⟨rfl, ⟨nd, rfl⟩⟩))
 go_ret
 exact ⟨er, by exact h1q HB.out aU.out⟩
def qZi.f (k : Nat) (l0 : List Int) (cA : Int) (bO : List (S48)) (cB cC cD cE : Int) (bP : List (S54)) (cF cG cH aW aX aY a2 : Int) : Option (Bool) := (qQ5.f k cA bO cB cC cD cE bP cF cG cH aW aX aY).bind fun fH => (if fH = true then ((qZw.f k).bind fun fI => (some fI)) else (if (l0.length : Int) > 100 then ((qZw.f k).bind fun fJ => (some fJ)) else ((qZh.f k cA bO cB cC cD cE bP cF cG cH aW aX aY).bind fun aK => ((some (([] : List Int) : List Int)).bind fun dO => (if dO.length + l0.length < 17592186044416 then ((qZa.f k 5 (dO ++ l0) aK.1 aK.2.1 aK.2.2.1 aK.2.2.2.1 aK.2.2.2.2.1 aK.2.2.2.2.2.1 aK.2.2.2.2.2.2.1 aK.2.2.2.2.2.2.2.1 aK.2.2.2.2.2.2.2.2.1 aK.2.2.2.2.2.2.2.2.2.1 aK.2.2.2.2.2.2.2.2.2.2.1 aK.2.2.2.2.2.2.2.2.2.2.2.1 aK.2.2.2.2.2.2.2.2.2.2.2.2 a2).bind fun bK => ((qQe.f k 5 l0 cA bO cB cC cD cE bP cF cG cH aW aX aY a2).bind fun bL => ((qZf.f k bK.1 bL.1).bind fun dR => (if dR = true then ((qZb.f k bK.2.1 bL.2.1).bind fun dS => (if dS = true then (if bK.2.2 = bL.2.2 then ((qYn.f k aK.1 aK.2.1 aK.2.2.1 aK.2.2.2.1 aK.2.2.2.2.1 aK.2.2.2.2.2.1 aK.2.2.2.2.2.2.1 aK.2.2.2.2.2.2.2.1 aK.2.2.2.2.2.2.2.2.1 aK.2.2.2.2.2.2.2.2.2.1 aK.2.2.2.2.2.2.2.2.2.2.1 aK.2.2.2.2.2.2.2.2.2.2.2.1 aK.2.2.2.2.2.2.2.2.2.2.2.2 cA bO cB cC cD cE bP cF cG cH aW aX aY).bind fun dT => (if dT = true then ((qZw.f k).bind fun dU => (some dU)) else (none))) else (none)) else (none))) else (none))))) else (none))))))
def qZi.T4 : Bool × List (List Nat × List Nat) := (true, [([], []), ([], []), ([0, 1], [0, 1]), ([2], [2]), ([], []), ([], []), ([3, 4, 5, 2], [3, 4, 5]), ([6], [6]), ([7], [7]), ([7], [7]), ([7], [7]), ([8, 6, 0, 1, 2, 3, 4, 5, 6, 7, 8], [8]), ([9, 11, 0, 1, 2, 3, 4, 5, 6, 7, 8, 9, 11], [9]), ([10, 12, 0, 1, 2, 3, 4, 5, 6, 7, 8, 9, 10, 11, 12], [10])])
def qZi.B4 : List Nat := [0, 0, 3, 7, 0, 0, 63, 127, 255, 255, 255, 511, 3071, 8191]
theorem qZi.tab4 : rtab .any (opsOf Tryz.f3 4) = qZi.T4 := by kernel_rfl
theorem qZi.bits4 : waitsOk qZi.T4.2 qZi.B4 = true := by kernel_rfl
set_option maxHeartbeats 8000000 in
set_option maxRecDepth 100000 in
theorem qZi.calls (k : Nat) (A0 : Option Addr) (c0 : Nat) (l0 : List Int) (cA : Int) (eE : Option Addr) (eG : Nat) (bO : List (S48)) (cB cC cD cE : Int) (eF : Option Addr) (eH : Nat) (bP : List (S54)) (cF cG cH aW aX aY a2 : Int) (r : Bool) (w : World) (hr0 : Kd.C (Kd.int .i64) w A0 l0.length l0) (hc0 : l0.length <= c0) (eZ : Kd.C k48 w eE bO.length bO) (eX : bO.length <= eG) (fA : Kd.C k54 w eF bP.length bP) (eY : bP.length <= eH) (h : qZi.f k l0 cA bO cB cC cD cE bP cF cG cH aW aX aY a2 = some r) :
  Calls Tryz.prog 3 #[.slice A0 l0.length c0, .agg #[.int .i64 cA, .slice eE bO.length eG, .int .i64 cB, .int .i64 cC, .int .i64 cD, .int .i64 cE, .slice eF bP.length eH, .int .i64 cF, .int .i64 cG, .int .i64 cH, .int .i64 aW, .int .i64 aX, .int .i64 aY], .int .i64 a2] w fun e w' => e = .returned (.bool r) /\ Below w.heap.size w w' := by
 have g9 := Tryz.underlying28
 have hA := Tryz.underlying37
 have i7 := Tryz.underlying39
 have hP := am hr0
 have iR := am hc0
 clear hr0 hc0
 have cU := am eZ
 have cR := am eX
 clear eZ eX
 have cV := am fA
 have cS := am eY
 clear fA eY
 have HB := am (Below.refl w.heap.size w)
 have H := h
 unfold qZi.f at H
 clear h
 obtain ⟨fH, A4, H⟩ := bd H
 by_cases c5 : fH = true
 ·subst c5
  rw [if_pos rfl] at H
  obtain ⟨fI, A6, H⟩ := bd H
  obtain rfl := Option.some.inj H
  go_enter Tryz.func3, Tryz.ntmps3
  go_wp2_with (first | ((with_reducible refine gd 4 ?_); (try (refine qYw (by rfl) ?_; dsimp only)); refine bE 4 _ 28 ?_; intro dV hg w7 hbox hb; have aC := am hbox; have eP := e0 HB hg; have aD := e0 HB hg; replace HB := s0 HB hb; clear hb hbox hg; have jY := lc13 aC.out) | ((with_reducible refine gf 5 ?_); refine gC (some 14) Tryz.func5 (qQ5.calls _ _ _ _ _ _ _ _ _ _ _ _ _ _ _ _ _ _ true _ ?side1 ?side2 ?side3 ?side4 A4.out) ?_; (case side1 => exact cq ((Kd.qZp cU.out HB.out))); (case side2 => exact cR.out); (case side3 => exact cq ((Kd.qZp cV.out HB.out))); (case side4 => exact cS.out); rintro e w9 ⟨rfl, hb⟩; refine ⟨_, rfl, ?_⟩; replace aC := bB aC hb; replace HB := s1 HB aD hb; (try clear hb); (try clear hb2); (try clear hk); (try clear hi)) | ((with_reducible refine gf 6 ?_); refine gC (some 20) Tryz.func6 (qZw.calls _ fI _ A6.out) ?_; rintro e jZ ⟨rfl, hb⟩; refine ⟨_, rfl, ?_⟩; replace aC := bB aC hb; replace HB := s1 HB aD hb; (try clear hb); (try clear hb2); (try clear hk); (try clear hi)))
  go_ret
  exact ⟨er, by exact h1q HB.out aD.out⟩
 replace c5 := Bool.eq_false_iff.mpr c5
 subst c5
 rw [if_neg (show ¬ (false = true) by decide)] at H
 by_cases dN : (l0.length : Int) > 100
 ·rw [if_pos dN] at H
  have fS : decide (100 < (l0.length : Int)) = true := decide_eq_true dN
  have fT : decide (100 < l0.length) = true := decide_eq_true (by omega)
  clear dN
  obtain ⟨fJ, gK, H⟩ := bd H
  obtain rfl := Option.some.inj H
  go_enter Tryz.func3, Tryz.ntmps3
  go_wp2_with (first | ((with_reducible refine gd 4 ?_); (try (refine qYw (by rfl) ?_; dsimp only)); refine bE 4 _ 28 ?_; intro dV hg j5 hbox hb; have aC := am hbox; have eP := e0 HB hg; have aD := e0 HB hg; replace HB := s0 HB hb; clear hb hbox hg; have i9 := lc13 aC.out) | ((with_reducible refine gf 5 ?_); refine gC (some 14) Tryz.func5 (qQ5.calls _ _ _ _ _ _ _ _ _ _ _ _ _ _ _ _ _ _ false _ ?side1 ?side2 ?side3 ?side4 A4.out) ?_; (case side1 => exact cq ((Kd.qZp cU.out HB.out))); (case side2 => exact cR.out); (case side3 => exact cq ((Kd.qZp cV.out HB.out))); (case side4 => exact cS.out); rintro e j6 ⟨rfl, hb⟩; refine ⟨_, rfl, ?_⟩; replace aC := bB aC hb; replace HB := s1 HB aD hb; (try clear hb); (try clear hb2); (try clear hk); (try clear hi)) | ((with_reducible refine gf 6 ?_); refine gC (some 20) Tryz.func6 (qZw.calls _ fJ _ gK.out) ?_; rintro e j7 ⟨rfl, hb⟩; refine ⟨_, rfl, ?_⟩; replace aC := bB aC hb; replace HB := s1 HB aD hb; (try clear hb); (try clear hb2); (try clear hk); (try clear hi)))
  go_ret
  exact ⟨er, by exact h1q HB.out aD.out⟩
 rw [if_neg dN] at H
 have fS : decide (100 < (l0.length : Int)) = false := decide_eq_false dN
 have fT : decide (100 < l0.length) = false := decide_eq_false (by omega)
 clear dN
 obtain ⟨⟨bQ, aZ, bR, bS, bT, bU, bA, bV, bW, bX, bY, bZ, b3⟩, iH, H⟩ := bd H
 obtain ⟨dO, eC⟩ : ∃ y_ : List Int, y_ = (([] : List Int)) := ⟨_, rfl⟩
 replace H : (if dO.length + l0.length < 17592186044416 then ((qZa.f k 5 (dO ++ l0) bQ aZ bR bS bT bU bA bV bW bX bY bZ b3 a2).bind fun bK => ((qQe.f k 5 l0 cA bO cB cC cD cE bP cF cG cH aW aX aY a2).bind fun bL => ((qZf.f k bK.1 bL.1).bind fun dR => (if dR = true then ((qZb.f k bK.2.1 bL.2.1).bind fun dS => (if dS = true then (if bK.2.2 = bL.2.2 then ((qYn.f k bQ aZ bR bS bT bU bA bV bW bX bY bZ b3 cA bO cB cC cD cE bP cF cG cH aW aX aY).bind fun dT => (if dT = true then ((qZw.f k).bind fun dU => (some dU)) else (none))) else (none)) else (none))) else (none))))) else (none)) = some r := by exact hyq H eC
 have eU := am eC
 clear eC
 by_cases gA : dO.length + l0.length < 17592186044416
 case neg =>
  rw [if_neg gA] at H
  exact absurd H (by simp)
 rw [if_pos gA] at H
 have fP := am gA
 clear gA
 obtain ⟨eO, eD⟩ : ∃ y_ : List Int, y_ = (dO ++ l0) := ⟨_, rfl⟩
 replace H : ((qZa.f k 5 eO bQ aZ bR bS bT bU bA bV bW bX bY bZ b3 a2).bind fun bK => ((qQe.f k 5 l0 cA bO cB cC cD cE bP cF cG cH aW aX aY a2).bind fun bL => ((qZf.f k bK.1 bL.1).bind fun dR => (if dR = true then ((qZb.f k bK.2.1 bL.2.1).bind fun dS => (if dS = true then (if bK.2.2 = bL.2.2 then ((qYn.f k bQ aZ bR bS bT bU bA bV bW bX bY bZ b3 cA bO cB cC cD cE bP cF cG cH aW aX aY).bind fun dT => (if dT = true then ((qZw.f k).bind fun dU => (some dU)) else (none))) else (none)) else (none))) else (none))))) = some r := by exact hyq H eD
 have fQ := am eD
 clear eD
 obtain ⟨⟨eL, fK, f5⟩, iI, H⟩ := bd H
 obtain ⟨⟨bC, bM, f6⟩, iJ, H⟩ := bd H
 obtain ⟨dR, iK, H⟩ := bd H
 by_cases gB : dR = true
 case neg =>
  replace gB := Bool.eq_false_iff.mpr gB
  subst gB
  rw [if_neg (show ¬ (false = true) by decide)] at H
  exact absurd H (by simp)
 subst gB
 rw [if_pos rfl] at H
 obtain ⟨dS, iL, H⟩ := bd H
 by_cases gD : dS = true
 case neg =>
  replace gD := Bool.eq_false_iff.mpr gD
  subst gD
  rw [if_neg (show ¬ (false = true) by decide)] at H
  exact absurd H (by simp)
 subst gD
 rw [if_pos rfl] at H
 by_cases fV : f5 = f6
 case neg =>
  rw [if_neg fV] at H
  exact absurd H (by simp)
 rw [if_pos fV] at H
 have hQ := beq_iff_eq.mpr fV
 have hS := bne_eq_false_iff_eq.mpr fV
 clear fV
 obtain ⟨dT, iM, H⟩ := bd H
 by_cases gE : dT = true
 case neg =>
  replace gE := Bool.eq_false_iff.mpr gE
  subst gE
  rw [if_neg (show ¬ (false = true) by decide)] at H
  exact absurd H (by simp)
 subst gE
 rw [if_pos rfl] at H
 obtain ⟨dU, iN, H⟩ := bd H
 obtain rfl := Option.some.inj H
 go_enter Tryz.func3, Tryz.ntmps3
 try go_wp2_with (first | ((with_reducible refine gd 4 ?_); (try (refine qYw (by rfl) ?_; dsimp only)); refine bE 4 _ 28 ?_; intro dV hg kE hbox hb; have aC := am hbox; have eP := e0 HB hg; have aD := e0 HB hg; replace HB := s0 HB hb; clear hb hbox hg; have jD := lc13 aC.out) | ((with_reducible refine gf 5 ?_); refine gC (some 14) Tryz.func5 (qQ5.calls _ _ _ _ _ _ _ _ _ _ _ _ _ _ _ _ _ _ false _ ?side1 ?side2 ?side3 ?side4 A4.out) ?_; (case side1 => exact cq ((Kd.qZp cU.out HB.out))); (case side2 => exact cR.out); (case side3 => exact cq ((Kd.qZp cV.out HB.out))); (case side4 => exact cS.out); rintro e kG ⟨rfl, hb⟩; refine ⟨_, rfl, ?_⟩; replace aC := bB aC hb; replace HB := s1 HB aD hb; (try clear hb); (try clear hb2); (try clear hk); (try clear hi); have jE := lc13 aC.out) | ((with_reducible refine gf 7 ?_); refine gC (some 22) Tryz.func7 (qZh.calls _ _ _ _ _ _ _ _ _ _ _ _ _ _ _ _ _ _ bQ aZ bR bS bT bU bA bV bW bX bY bZ b3 _ ?side1 ?side2 ?side3 ?side4 iH.out) ?_; (case side1 => exact cq ((Kd.qZp cU.out HB.out))); (case side2 => exact cR.out); (case side3 => exact cq ((Kd.qZp cV.out HB.out))); (case side4 => exact cS.out); rintro e kH ⟨jP, jQ, rfl, dW, dP, hb⟩; refine ⟨_, rfl, ?_⟩; have aI := am (Kd.qZ1 dW (qQn (by exact h1q HB.out aD.out))); have aJ := am (Kd.zXw dP (qQn (by exact h1q HB.out aD.out))); replace aC := bB aC hb; replace HB := s1 HB aD hb; (try clear hb); (try clear hb2); (try clear hk); (try clear hi); (try clear dW); (try clear dP)) | ((with_reducible refine gd 7 ?_); (try (refine qYw (by rfl) ?_; dsimp only)); refine bE 7 _ 28 ?_; intro aA hg fL hbox hb; replace aI := Rb aI hb; replace aJ := am (Kd.qVa (by (with_reducible repeat (first | apply Kd.qXw | apply Kd.qXx | apply Kd.qWh)); exact aJ.out) hb); have aE := am hbox; have hN := e1 HB aD hg; have aN := e1 HB aD hg; replace HB := s1 HB aD hb; have cW := nL aC hg; have dX := nG aC hg; replace aC := bB aC hb; clear hb hbox hg; have hW := dX.out; have hZ := cW.out; have jF := lc13 aE.out; obtain ⟨b9, b8, fF⟩ := Kd.qZq aI.out; subst fF; obtain ⟨cL, cI, gW⟩ := Kd.zXx aJ.out; subst gW))
 have hB : Aside0 (Kd.R k48 48 (((((((((((((fL.setCell ⟨aA, 0, none⟩ (.int .i64 bQ)).setCell ⟨aA, 1, none⟩ (.slice b9 aZ.length b8)).setCell ⟨aA, 2, none⟩ (.int .i64 bR)).setCell ⟨aA, 3, none⟩ (.int .i64 bS)).setCell ⟨aA, 4, none⟩ (.int .i64 bT)).setCell ⟨aA, 5, none⟩ (.int .i64 bU)).setCell ⟨aA, 6, none⟩ (.slice cL bA.length cI)).setCell ⟨aA, 7, none⟩ (.int .i64 bV)).setCell ⟨aA, 8, none⟩ (.int .i64 bW)).setCell ⟨aA, 9, none⟩ (.int .i64 bX)).setCell ⟨aA, 10, none⟩ (.int .i64 bY)).setCell ⟨aA, 11, none⟩ (.int .i64 bZ)).setCell ⟨aA, 12, none⟩ (.int .i64 b3)) w.heap.size (fun _ => True) (.slice b9 aZ.length b8) aZ) := ⟨by refine rw_ ?_; exact Kd.qQ4 (qYt (Kd.qZy aI.out aE.out (by decide)) (fun _ hk => hk.2)) (fun _ hk => trivial)⟩
 have hC : Aside0 (Kd.S k54 54 (((((((((((((fL.setCell ⟨aA, 0, none⟩ (.int .i64 bQ)).setCell ⟨aA, 1, none⟩ (.slice b9 aZ.length b8)).setCell ⟨aA, 2, none⟩ (.int .i64 bR)).setCell ⟨aA, 3, none⟩ (.int .i64 bS)).setCell ⟨aA, 4, none⟩ (.int .i64 bT)).setCell ⟨aA, 5, none⟩ (.int .i64 bU)).setCell ⟨aA, 6, none⟩ (.slice cL bA.length cI)).setCell ⟨aA, 7, none⟩ (.int .i64 bV)).setCell ⟨aA, 8, none⟩ (.int .i64 bW)).setCell ⟨aA, 9, none⟩ (.int .i64 bX)).setCell ⟨aA, 10, none⟩ (.int .i64 bY)).setCell ⟨aA, 11, none⟩ (.int .i64 bZ)).setCell ⟨aA, 12, none⟩ (.int .i64 b3)) w.heap.size (fun _ => True) (.slice cL bA.length cI) bA) := ⟨by (with_reducible repeat (first | apply Kd.qXw | apply Kd.qXx | apply Kd.qWh)); exact Kd.qW5 (Kd.S_far (p := ⟨aA, 12, none⟩) (Kd.S_far (p := ⟨aA, 11, none⟩) (Kd.S_far (p := ⟨aA, 10, none⟩) (Kd.S_far (p := ⟨aA, 9, none⟩) (Kd.S_far (p := ⟨aA, 8, none⟩) (Kd.S_far (p := ⟨aA, 7, none⟩) (Kd.S_far (p := ⟨aA, 6, none⟩) (Kd.S_far (p := ⟨aA, 5, none⟩) (Kd.S_far (p := ⟨aA, 4, none⟩) (Kd.S_far (p := ⟨aA, 3, none⟩) (Kd.S_far (p := ⟨aA, 2, none⟩) (Kd.S_far (p := ⟨aA, 1, none⟩) (Kd.S_far (p := ⟨aA, 0, none⟩) (Kd.qKu aJ.out aE.out (by decide)) (fun _ hk => hk.2) (.int .i64 bQ)) (fun _ hk => hk.2) (.slice b9 aZ.length b8)) (fun _ hk => hk.2) (.int .i64 bR)) (fun _ hk => hk.2) (.int .i64 bS)) (fun _ hk => hk.2) (.int .i64 bT)) (fun _ hk => hk.2) (.int .i64 bU)) (fun _ hk => hk.2) (.slice cL bA.length cI)) (fun _ hk => hk.2) (.int .i64 bV)) (fun _ hk => hk.2) (.int .i64 bW)) (fun _ hk => hk.2) (.int .i64 bX)) (fun _ hk => hk.2) (.int .i64 bY)) (fun _ hk => hk.2) (.int .i64 bZ)) (fun _ hk => hk.2) (.int .i64 b3)) (fun _ hk => trivial)⟩
 have hD : Aside0 ((((((((((((((fL.setCell ⟨aA, 0, none⟩ (.int .i64 bQ)).setCell ⟨aA, 1, none⟩ (.slice b9 aZ.length b8)).setCell ⟨aA, 2, none⟩ (.int .i64 bR)).setCell ⟨aA, 3, none⟩ (.int .i64 bS)).setCell ⟨aA, 4, none⟩ (.int .i64 bT)).setCell ⟨aA, 5, none⟩ (.int .i64 bU)).setCell ⟨aA, 6, none⟩ (.slice cL bA.length cI)).setCell ⟨aA, 7, none⟩ (.int .i64 bV)).setCell ⟨aA, 8, none⟩ (.int .i64 bW)).setCell ⟨aA, 9, none⟩ (.int .i64 bX)).setCell ⟨aA, 10, none⟩ (.int .i64 bY)).setCell ⟨aA, 11, none⟩ (.int .i64 bZ)).setCell ⟨aA, 12, none⟩ (.int .i64 b3)).heap[dV]? = some (.cells #[.int .i64 cA, .slice eE bO.length eG, .int .i64 cB, .int .i64 cC, .int .i64 cD, .int .i64 cE, .slice eF bP.length eH, .int .i64 cF, .int .i64 cG, .int .i64 cH, .int .i64 aW, .int .i64 aX, .int .i64 aY] 28 (0, 0))) := ⟨by (iterate 13 (refine bw ?_; refine qZ8 ?_ cW.out _)); refine bw ?_; exact aC.out⟩
 have hE : Aside0 ((((((((((((((fL.setCell ⟨aA, 0, none⟩ (.int .i64 bQ)).setCell ⟨aA, 1, none⟩ (.slice b9 aZ.length b8)).setCell ⟨aA, 2, none⟩ (.int .i64 bR)).setCell ⟨aA, 3, none⟩ (.int .i64 bS)).setCell ⟨aA, 4, none⟩ (.int .i64 bT)).setCell ⟨aA, 5, none⟩ (.int .i64 bU)).setCell ⟨aA, 6, none⟩ (.slice cL bA.length cI)).setCell ⟨aA, 7, none⟩ (.int .i64 bV)).setCell ⟨aA, 8, none⟩ (.int .i64 bW)).setCell ⟨aA, 9, none⟩ (.int .i64 bX)).setCell ⟨aA, 10, none⟩ (.int .i64 bY)).setCell ⟨aA, 11, none⟩ (.int .i64 bZ)).setCell ⟨aA, 12, none⟩ (.int .i64 b3)).heap[aA]? = some (.cells #[.int .i64 bQ, .slice b9 aZ.length b8, .int .i64 bR, .int .i64 bS, .int .i64 bT, .int .i64 bU, .slice cL bA.length cI, .int .i64 bV, .int .i64 bW, .int .i64 bX, .int .i64 bY, .int .i64 bZ, .int .i64 b3] 28 (0, 0))) := ⟨by refine bw ?_; apply qY6; refine bw ?_; exact aE.out⟩
 have hF : Aside0 (Below w.heap.size w (((((((((((((fL.setCell ⟨aA, 0, none⟩ (.int .i64 bQ)).setCell ⟨aA, 1, none⟩ (.slice b9 aZ.length b8)).setCell ⟨aA, 2, none⟩ (.int .i64 bR)).setCell ⟨aA, 3, none⟩ (.int .i64 bS)).setCell ⟨aA, 4, none⟩ (.int .i64 bT)).setCell ⟨aA, 5, none⟩ (.int .i64 bU)).setCell ⟨aA, 6, none⟩ (.slice cL bA.length cI)).setCell ⟨aA, 7, none⟩ (.int .i64 bV)).setCell ⟨aA, 8, none⟩ (.int .i64 bW)).setCell ⟨aA, 9, none⟩ (.int .i64 bX)).setCell ⟨aA, 10, none⟩ (.int .i64 bY)).setCell ⟨aA, 11, none⟩ (.int .i64 bZ)).setCell ⟨aA, 12, none⟩ (.int .i64 b3))) := a2_ HB aD aN
 (try clear aI)
 (try clear aJ)
 (try clear aC)
 (try clear aE)
 (try clear HB)
 try simp only [show ∀ (w_ : World) (n_ : Nat) (p_ : Addr) (v_ : Value), (w_.drewN n_).setCell p_ v_ = (w_.setCell p_ v_).drewN n_ from fun _ _ _ _ => rfl]
 generalize (((((((((((((fL.setCell ⟨aA, 0, none⟩ (.int .i64 bQ)).setCell ⟨aA, 1, none⟩ (.slice b9 aZ.length b8)).setCell ⟨aA, 2, none⟩ (.int .i64 bR)).setCell ⟨aA, 3, none⟩ (.int .i64 bS)).setCell ⟨aA, 4, none⟩ (.int .i64 bT)).setCell ⟨aA, 5, none⟩ (.int .i64 bU)).setCell ⟨aA, 6, none⟩ (.slice cL bA.length cI)).setCell ⟨aA, 7, none⟩ (.int .i64 bV)).setCell ⟨aA, 8, none⟩ (.int .i64 bW)).setCell ⟨aA, 9, none⟩ (.int .i64 bX)).setCell ⟨aA, 10, none⟩ (.int .i64 bY)).setCell ⟨aA, 11, none⟩ (.int .i64 bZ)).setCell ⟨aA, 12, none⟩ (.int .i64 b3)) = jW at hB hC hD hE hF ⊢
 have aI := hB
 have aJ := hC
 have aC := hD
 have aE := hE
 have HB := hF
 clear hB hC hD hE hF
 replace aI := am (Kd.qVj aI.out)
 replace aJ := am (Kd.qWh aJ.out)
 replace aC := am (qXf aC.out)
 replace aE := am (qXf aE.out)
 replace HB := am (qZk HB.out)
 refine start_ (n := 14) (S := fun w' => w'.cell? ⟨aA, 0, none⟩ = some (.int .i64 bQ) /\ w'.cell? ⟨aA, 1, none⟩ = some (.slice b9 aZ.length b8) /\ w'.cell? ⟨aA, 2, none⟩ = some (.int .i64 bR) /\ w'.cell? ⟨aA, 3, none⟩ = some (.int .i64 bS) /\ w'.cell? ⟨aA, 4, none⟩ = some (.int .i64 bT) /\ w'.cell? ⟨aA, 5, none⟩ = some (.int .i64 bU) /\ w'.cell? ⟨aA, 6, none⟩ = some (.slice cL bA.length cI) /\ w'.cell? ⟨aA, 7, none⟩ = some (.int .i64 bV) /\ w'.cell? ⟨aA, 8, none⟩ = some (.int .i64 bW) /\ w'.cell? ⟨aA, 9, none⟩ = some (.int .i64 bX) /\ w'.cell? ⟨aA, 10, none⟩ = some (.int .i64 bY) /\ w'.cell? ⟨aA, 11, none⟩ = some (.int .i64 bZ) /\ w'.cell? ⟨aA, 12, none⟩ = some (.int .i64 b3)) (ds := []) #[false, false, false, false, false, false, false, false, false, false, false, false, false, false] (by kernel_rfl) rfl rfl (bcs aE) (fun hHeld => ?_); refine qX5 qZi.tab4 qZi.bits4 (fun HT_ HW_ => ?_)
 generalize jW.drew = kI at aI aJ aC aE HB hHeld ⊢
 refine pure_ (i := 1) (N := some 25) (v := ?_) (a' := ?_) #[false, true, false, false, false, false, false, false, false, false, false, false, false, false] rfl rfl (qZ0 HT_.out (by kernel_rfl)) (fun _ _ _ h => h) (Or.inl ⟨by rfl, ?_⟩) ?_ ?_
 rotate_left
 ·intro w'
  go_simp
  with_reducible rfl
 rotate_left
 ·exact pu
 refine pure_ (i := 5) (N := some 29) (v := ?_) (a' := ?_) #[false, true, false, false, false, true, false, false, false, false, false, false, false, false] rfl rfl (qZ0 HT_.out (by kernel_rfl)) (fun _ _ _ h => h) (Or.inl ⟨by rfl, ?_⟩) ?_ ?_
 rotate_left
 ·intro w'
  go_simp
  with_reducible rfl
 rotate_left
 ·exact pu
 refine take_ (i := 4) (N := some 28) (v := ?_) (a' := ?_) #[false, true, false, false, true, true, false, false, false, false, false, false, false, false] rfl rfl (qXm HT_.out HW_.out (by kernel_rfl)) (fun _ _ _ h => h) (Or.inl ⟨by rfl, ?_⟩) hHeld ?_ ?_
 rotate_left
 ·rintro w' ⟨s0, s1, s2, s3, s4, s5, s6, s7, s8, s9, s10, s11, s12⟩
  go_simp
  with_reducible rfl
 rotate_left
 ·exact pu
 refine one_ (i := 0) (N := some 24) #[true, true, false, false, true, true, false, false, false, false, false, false, false, false] rfl rfl (qXj HT_.out (by kernel_rfl)) (by decide) (fun K hK => ?_)
 refine Kd.qXl (Kd.int .i64) _ 2 ?hg (N := 24) ?hd (xs := ([] : List Int)) (inner := []) (ok := fun _ => True) (okp := fun _ => True) ?hr ?hp (fun _ hk => hk) trivial (Below.refl _ _) (Nat.le_refl _) (by simp) ?_; (case hd => rfl); (case hg => rfl); (case hr => first | (go_simp; done) | (go_simp; rfl)); (case hp => exact (Reps.none _ _))
 intro hG kJ d7 hb hg_ hnew_
 clear hg_ hnew_
 (first | rw [<- eU.out] at d7 | (simp only [Int.reduceToNat] at d7; rw [<- eU.out] at d7))
 replace aI := Rb aI hb
 replace aJ := am (Kd.qVa (by (with_reducible repeat (first | apply Kd.qXw | apply Kd.qXx | apply Kd.qWh)); exact aJ.out) hb)
 have cT := am (Kd.qZ1 d7 (qQn (by exact h2q HB.out aD.out aN.out)))
 replace aC := bB aC hb
 replace aE := bB aE hb
 replace HB := s2 HB aD aN hb
 clear hb d7
 refine hK.out _ _ (bcs aE) (fun hHeld => ?_)
 clear hK K
 refine norm_ (a' := ?_) ?_ ?_
 rotate_left
 ·show Act.put _ (some 24) _ = _
  exact pu
 refine one_ (i := 2) (N := some 26) #[true, true, true, false, true, true, false, false, false, false, false, false, false, false] rfl rfl (qXj HT_.out (by kernel_rfl)) (by decide) (fun K hK => ?_)
 refine Kd.qYj (Kd.int .i64) (w0 := w) w.heap.size (by rfl) (.tmp 24) (.tmp 25) 22 2 (.int .i64 0) 8 rfl Tryz.underlying22 info2 rfl (by decide) (by omega) hG dO l0 _ _ _ (fun _ => True) (fun _ => False) rfl rfl ?aO ?aR (fun _ _ h => h) (fun _ h => h.elim) ?aF ?aB ?aS ?aL ?_
 (case aR => exact cq ((Kd.qZp hP.out HB.out)))
 (case aB => exact (by exact h2q HB.out aD.out aN.out))
 (case aF => exact (fun _ _ => trivial))
 (case aO => exact (by exact rq cT.out))
 (case aS => exact (qQn (by exact h2q HB.out aD.out aN.out)))
 (case aL => have := fP.out; omega)
 intro jR kK ho hb hg hat
 rw [<- fQ.out] at ho
 replace aC := bG aC hg cT
 replace aI := am (Kd.qYc (by exact rq aI.out) (Kd.qYb (by exact rq cT.out)) (by decide) hg)
 replace aJ := am (Kd.zJb (by (with_reducible repeat (first | apply Kd.qXw | apply Kd.qXx | apply Kd.qWh)); exact aJ.out) (Kd.qYb (by exact rq cT.out)) (by decide) hg)
 replace aE := bG aE hg cT
 replace HB := am hb
 have aT := am ho
 clear cT ho hb hg hat
 obtain ⟨fC, fD, fZ⟩ := Kd.qZq aT.out
 (first | subst fZ | (injection fZ with f1_ f2_ f3_; have f4_ := f1_.symm; have f5_ := f3_.symm; clear f1_ f2_ f3_; subst f4_; subst f5_))
 refine hK.out _ _ (bcs aE) (fun hHeld => ?_)
 clear hK K
 refine norm_ (a' := ?_) ?_ ?_
 rotate_left
 ·show Act.put _ (some 26) _ = _
  exact pu
 refine pure_ (i := 3) (N := some 27) (v := ?_) (a' := ?_) #[true, true, true, true, true, true, false, false, false, false, false, false, false, false] rfl rfl (qZ0 HT_.out (by kernel_rfl)) (fun _ _ _ h => h) (Or.inl ⟨by rfl, ?_⟩) ?_ ?_
 rotate_left
 ·intro w'
  go_simp
  with_reducible rfl
 rotate_left
 ·exact pu
 refine one_ (i := 6) (N := some 30) #[true, true, true, true, true, true, true, false, false, false, false, false, false, false] rfl rfl (qXj HT_.out (by kernel_rfl)) (by decide) (fun K hK => ?_)
 refine goes_ Tryz.func8 (by kernel_rfl) rfl #[.agg #[.int .i64 5, .slice fC eO.length fD], .agg #[.int .i64 bQ, .slice b9 aZ.length b8, .int .i64 bR, .int .i64 bS, .int .i64 bT, .int .i64 bU, .slice cL bA.length cI, .int .i64 bV, .int .i64 bW, .int .i64 bX, .int .i64 bY, .int .i64 bZ, .int .i64 b3], .int .i64 a2] (by rfl) rfl rfl ml ?_
 with_reducible refine (qZa.calls _ _ _ _ _ _ _ _ _ _ _ _ _ _ _ _ _ _ _ _ _ _ _ eL fK f5 _ ?side1 ?side2 ?side3 ?side4 ?side5 ?side6 iI.out).mono ?_
 (case side1 => exact cq ((Kd.qQq aT.out).2.2))
 (case side2 => exact (Kd.qQq aT.out).2.1)
 (case side3 => exact cq ((Kd.qQq aI.out).2.2))
 (case side4 => exact (Kd.qQq aI.out).2.1)
 (case side5 => exact cq ((Kd.qKo aJ.out).2.2))
 (case side6 => exact (Kd.qKo aJ.out).2.1)
 rintro e kL ⟨jS, jT, rfl, dW, dP, hb⟩
 refine ⟨_, rfl, ?_⟩
 replace aI := Rb aI hb
 replace aJ := am (Kd.qJ6 (by (with_reducible repeat (first | apply Kd.qXw | apply Kd.qXx | apply Kd.qWh)); exact aJ.out) (Kd.zYf dW) hb)
 have bD := am (Kd.qZ1 dW (qQn (by exact h2q HB.out aD.out aN.out)))
 have bF := am (Kd.qZ1 (Kd.qXc dP (Kd.R_lt (by exact rq aT.out))) (qQn (by exact h2q HB.out aD.out aN.out)))
 replace aT := Re aT dP hb
 replace aC := bB aC hb
 replace aE := bB aE hb
 replace HB := s2 HB aD aN hb
 (try clear hb)
 (try clear hb2)
 (try clear hk)
 (try clear hi)
 (try clear dW)
 (try clear dP)
 refine hK.out _ _ (bcs aE) (fun hHeld => ?_)
 clear hK K
 refine norm_ (a' := ?_) ?_ ?_
 rotate_left
 ·show Act.put _ (some 30) _ = _
  exact pu
 refine pure_ (i := 7) (N := some 23) (v := ?_) (a' := ?_) #[true, true, true, true, true, true, true, true, false, false, false, false, false, false] rfl rfl (qZ0 HT_.out (by kernel_rfl)) (fun _ _ _ h => h) (Or.inl ⟨by rfl, ?_⟩) ?_ ?_
 rotate_left
 ·intro w'
  go_simp
  with_reducible rfl
 rotate_left
 ·exact pu
 refine pure_ (i := 8) (N := some 31) (v := ?_) (a' := ?_) #[true, true, true, true, true, true, true, true, true, false, false, false, false, false] rfl rfl (qZ0 HT_.out (by kernel_rfl)) (fun _ _ _ h => h) (Or.inl ⟨by rfl, ?_⟩) ?_ ?_
 rotate_left
 ·intro w'
  go_simp
  with_reducible rfl
 rotate_left
 ·exact pu
 refine pure_ (i := 9) (N := some 32) (v := ?_) (a' := ?_) #[true, true, true, true, true, true, true, true, true, true, false, false, false, false] rfl rfl (qZ0 HT_.out (by kernel_rfl)) (fun _ _ _ h => h) (Or.inl ⟨by rfl, ?_⟩) ?_ ?_
 rotate_left
 ·intro w'
  go_simp
  with_reducible rfl
 rotate_left
 ·exact pu
 refine pure_ (i := 10) (N := some 33) (v := ?_) (a' := ?_) #[true, true, true, true, true, true, true, true, true, true, true, false, false, false] rfl rfl (qZ0 HT_.out (by kernel_rfl)) (fun _ _ _ h => h) (Or.inl ⟨by rfl, ?_⟩) ?_ ?_
 rotate_left
 ·intro w'
  go_simp
  with_reducible rfl
 rotate_left
 ·exact pu
 refine pure_ (i := 11) (N := some 8) (v := ?_) (a' := ?_) #[true, true, true, true, true, true, true, true, true, true, true, true, false, false] rfl rfl (qZ0 HT_.out (by kernel_rfl)) (fun _ _ _ h => h) (Or.inl ⟨by rfl, ?_⟩) ?_ ?_
 rotate_left
 ·intro w'
  go_simp
  with_reducible rfl
 rotate_left
 ·exact pu
 refine pure_ (i := 12) (N := some 9) (v := ?_) (a' := ?_) #[true, true, true, true, true, true, true, true, true, true, true, true, true, false] rfl rfl (qZ0 HT_.out (by kernel_rfl)) (fun _ _ _ h => h) (Or.inl ⟨by rfl, ?_⟩) ?_ ?_
 rotate_left
 ·intro w'
  go_simp
  with_reducible rfl
 rotate_left
 ·exact pu
 refine pure_ (i := 13) (N := some 10) (v := ?_) (a' := ?_) #[true, true, true, true, true, true, true, true, true, true, true, true, true, true] rfl rfl (qZ0 HT_.out (by kernel_rfl)) (fun _ _ _ h => h) (Or.inl ⟨by rfl, ?_⟩) ?_ ?_
 rotate_left
 ·intro w'
  go_simp
  with_reducible rfl
 rotate_left
 ·exact pu
 refine done_ (qW0 HT_.out (by kernel_rfl)) ?_
 have jG := lc13 aC.out
 try go_wp2_with (first | ((with_reducible refine gf 9 ?_); refine gC (some 39) Tryz.func9 (qQe.calls _ _ _ _ _ _ _ _ _ _ _ _ _ _ _ _ _ _ _ _ _ _ _ bC bM f6 _ ?side1 ?side2 ?side3 ?side4 ?side5 ?side6 iJ.out) ?_; (case side1 => exact cq ((Kd.qZp hP.out HB.out))); (case side2 => exact iR.out); (case side3 => exact cq ((Kd.qZp cU.out HB.out))); (case side4 => exact cR.out); (case side5 => exact cq ((Kd.qZp cV.out HB.out))); (case side6 => exact cS.out); rintro e kM ⟨jU, jV, rfl, dW, dP, hb⟩; refine ⟨_, rfl, ?_⟩; replace aI := Rb aI hb; replace aJ := am (Kd.qJ6 (by (with_reducible repeat (first | apply Kd.qXw | apply Kd.qXx | apply Kd.qWh)); exact aJ.out) (Kd.zYf dW) hb); have b6 := am (Kd.qZ1 (Kd.qXc dW (Kd.R_lt (by exact rq bD.out))) (qQn (by exact h2q HB.out aD.out aN.out))); replace bD := Re bD dW hb; have b7 := am (Kd.qZ1 (Kd.qXc (Kd.qXc dP (Kd.R_lt (by exact rq aT.out))) (Kd.R_lt (by exact rq bF.out))) (qQn (by exact h2q HB.out aD.out aN.out))); replace aT := Re aT dP hb; replace bF := Re bF dP hb; replace aC := bB aC hb; replace aE := bB aE hb; replace HB := s2 HB aD aN hb; (try clear hb); (try clear hb2); (try clear hk); (try clear hi); (try clear dW); (try clear dP)) | ((with_reducible refine gd 11 ?_); (try (refine qYw (by rfl) ?_; dsimp only)); refine bE 11 _ 39 ?_; intro aH hg iC hbox hb; replace aI := Rb aI hb; replace aJ := am (Kd.qVa (by (with_reducible repeat (first | apply Kd.qXw | apply Kd.qXx | apply Kd.qWh)); exact aJ.out) hb); replace aT := Rb aT hb; replace bD := Rb bD hb; replace bF := Rb bF hb; replace b6 := Rb b6 hb; replace b7 := Rb b7 hb; have aM := am hbox; have hO := e2 HB aD aN hg; have dL := e2 HB aD aN hg; replace HB := s2 HB aD aN hb; have cX := nL aC hg; have dY := nG aC hg; replace aC := bB aC hb; have cY := nL aE hg; have dZ := nG aE hg; replace aE := bB aE hb; clear hb hbox hg; obtain ⟨bI, bH, gX⟩ := Kd.qZq b6.out; subst gX; have hX := dY.out; have iA := cX.out; have hY := dZ.out; have iB := cY.out; have gF : iC.cell? ⟨aH, 0, none⟩ = some (.slice none 0 0) := (qQa aM.out 0).trans rfl; have gG : iC.cell? ⟨aH, 1, none⟩ = some (.slice none 0 0) := (qQa aM.out 1).trans rfl; have gH := qQd aM.out 0; have gI := qQd aM.out 1; obtain ⟨b4, bN, gY⟩ := Kd.qZq b7.out; subst gY; obtain ⟨fO, fE, gZ⟩ := Kd.qZq bD.out; subst gZ) | ((with_reducible refine gf 10 ?_); refine gC (some 45) Tryz.func10 (qZf.calls _ _ _ _ _ _ _ true _ ?side1 ?side2 ?side3 ?side4 iK.out) ?_; (case side1 => refine (Kd.qQq (e := 3) (base := w.heap.size) (ok := fun k_ => (True /\ some k_ ≠ (.slice bI bC.length bH : Value).ownBlock)) (n := eL.length) (c := fE) ?_).2.2; exact (by refine rw_ ?_; exact (Kd.qQ4 (Kd.R_far (p := ⟨aH, 1, none⟩) (Kd.R_far (p := ⟨aH, 0, none⟩) (Kd.qZy bD.out aM.out (by decide)) (fun _ hk => hk.2) (.slice bI bC.length bH)) (fun _ hk => hk.2) (.slice b4 bM.length bN)) (fun _ h_ => h_.1)))); (case side2 => exact (Kd.qQq bD.out).2.1); (case side3 => refine (Kd.qQq (e := 3) (base := w.heap.size) (ok := fun k_ => (True /\ some k_ ≠ (.slice fO eL.length fE : Value).ownBlock)) (n := bC.length) (c := bH) ?_).2.2; exact (by refine rw_ ?_; exact (Kd.qQ4 (Kd.R_far (p := ⟨aH, 1, none⟩) (Kd.R_far (p := ⟨aH, 0, none⟩) (Kd.qZy b6.out aM.out (by decide)) (fun _ hk => hk.2) (.slice bI bC.length bH)) (fun _ hk => hk.2) (.slice b4 bM.length bN)) (fun _ h_ => h_.1)))); (case side4 => exact (Kd.qQq b6.out).2.1); rintro e w' ⟨rfl, ⟨nd, rfl⟩⟩; refine ⟨_, rfl, ?_⟩; obtain ⟨gN, fW, g8⟩ := Kd.qZq bF.out; subst g8) | (go_at_call 11; (with_reducible refine (qZb.calls _ _ _ _ _ _ _ true _ ?side1 ?side2 ?side3 ?side4 iL.out).mono ?_); (case side1 => refine (Kd.qQq (e := 2) (base := w.heap.size) (ok := fun k_ => ((True /\ some k_ ≠ (.slice fC eO.length fD : Value).ownBlock) /\ some k_ ≠ (.slice b4 bM.length bN : Value).ownBlock)) (n := fK.length) (c := fW) ?_).2.2; exact (by refine rw_ ?_; exact (Kd.qQ4 (Kd.R_far (p := ⟨aH, 1, none⟩) (Kd.R_far (p := ⟨aH, 0, none⟩) (Kd.qZy bF.out aM.out (by decide)) (fun _ hk => hk.2) (.slice bI bC.length bH)) (fun _ hk => hk.2) (.slice b4 bM.length bN)) (fun _ h_ => h_.1)))); (case side2 => exact (Kd.qQq bF.out).2.1); (case side3 => refine (Kd.qQq (e := 2) (base := w.heap.size) (ok := fun k_ => ((True /\ some k_ ≠ (.slice fC eO.length fD : Value).ownBlock) /\ some k_ ≠ (.slice gN fK.length fW : Value).ownBlock)) (n := bM.length) (c := bN) ?_).2.2; exact (by refine rw_ ?_; exact (Kd.qQ4 (Kd.R_far (p := ⟨aH, 1, none⟩) (Kd.R_far (p := ⟨aH, 0, none⟩) (Kd.qZy b7.out aM.out (by decide)) (fun _ hk => hk.2) (.slice bI bC.length bH)) (fun _ hk => hk.2) (.slice b4 bM.length bN)) (fun _ h_ => h_.1)))); (case side4 => exact (Kd.qQq b7.out).2.1); rintro e w' ⟨rfl, ⟨nd, rfl⟩⟩; have jH := lc13 aE.out; have jI := lc13 aC.out) | (go_at_call 12; (with_reducible refine (qYn.calls _ _ _ _ _ _ _ _ _ _ _ _ _ _ _ _ _ _ _ _ _ _ _ _ _ _ _ _ _ _ _ _ _ _ _ true _ ?side1 ?side2 ?side3 ?side4 ?side5 ?side6 ?side7 ?side8 iM.out).mono ?_); (case side1 => refine (Kd.qQq (e := 48) (base := w.heap.size) (ok := fun k_ => True) (n := aZ.length) (c := b8) ?_).2.2; exact (by refine rw_ ?_; exact (Kd.qQ4 (Kd.R_far (p := ⟨aH, 1, none⟩) (Kd.R_far (p := ⟨aH, 0, none⟩) (Kd.qZy aI.out aM.out (by decide)) (fun _ hk => hk.2) (.slice bI bC.length bH)) (fun _ hk => hk.2) (.slice b4 bM.length bN)) (fun _ h_ => h_.1)))); (case side2 => exact (Kd.qQq aI.out).2.1); (case side3 => refine (Kd.qKo (e := 54) (base := w.heap.size) (ok := fun k_ => ((True /\ some k_ ≠ (.slice fO eL.length fE : Value).ownBlock) /\ some k_ ≠ (.slice bI bC.length bH : Value).ownBlock)) (n := bA.length) (c := cI) ?_).2.2; exact (by (with_reducible repeat (first | apply Kd.qXw | apply Kd.qXx | apply Kd.qWh)); exact (Kd.qW5 (Kd.S_far (p := ⟨aH, 1, none⟩) (Kd.S_far (p := ⟨aH, 0, none⟩) (Kd.qKu aJ.out aM.out (by decide)) (fun _ hk => hk.2) (.slice bI bC.length bH)) (fun _ hk => hk.2) (.slice b4 bM.length bN)) (fun _ h_ => h_.1)))); (case side4 => exact (Kd.qKo aJ.out).2.1); (case side5 => exact Kd.qZp cU.out (by exact h3q HB.out aD.out aN.out dL.out)); (case side6 => exact cR.out); (case side7 => exact Kd.qZp cV.out (by exact h3q HB.out aD.out aN.out dL.out)); (case side8 => exact cS.out); rintro e kN ⟨rfl, hb⟩; replace aI := am (Kd.qYa (by refine rw_ ?_; exact (Kd.qQ4 (Kd.R_far (p := ⟨aH, 1, none⟩) (Kd.R_far (p := ⟨aH, 0, none⟩) (Kd.qZy aI.out aM.out (by decide)) (fun _ hk => hk.2) (.slice bI bC.length bH)) (fun _ hk => hk.2) (.slice b4 bM.length bN)) (fun _ h_ => h_.1))) hb); replace aJ := am (Kd.qVa (by (with_reducible repeat (first | apply Kd.qXw | apply Kd.qXx | apply Kd.qWh)); exact (Kd.qW5 (Kd.S_far (p := ⟨aH, 1, none⟩) (Kd.S_far (p := ⟨aH, 0, none⟩) (Kd.qKu aJ.out aM.out (by decide)) (fun _ hk => hk.2) (.slice bI bC.length bH)) (fun _ hk => hk.2) (.slice b4 bM.length bN)) (fun _ h_ => h_.1))) hb); replace aT := am (Kd.qYa (by refine rw_ ?_; exact (Kd.qQ4 (Kd.R_far (p := ⟨aH, 1, none⟩) (Kd.R_far (p := ⟨aH, 0, none⟩) (Kd.qZy aT.out aM.out (by decide)) (fun _ hk => hk.2) (.slice bI bC.length bH)) (fun _ hk => hk.2) (.slice b4 bM.length bN)) (fun _ h_ => h_.1))) hb); replace bD := am (Kd.qYa (by refine rw_ ?_; exact (Kd.qQ4 (Kd.R_far (p := ⟨aH, 1, none⟩) (Kd.R_far (p := ⟨aH, 0, none⟩) (Kd.qZy bD.out aM.out (by decide)) (fun _ hk => hk.2) (.slice bI bC.length bH)) (fun _ hk => hk.2) (.slice b4 bM.length bN)) (fun _ h_ => h_.1))) hb); replace bF := am (Kd.qYa (by refine rw_ ?_; exact (Kd.qQ4 (Kd.R_far (p := ⟨aH, 1, none⟩) (Kd.R_far (p := ⟨aH, 0, none⟩) (Kd.qZy bF.out aM.out (by decide)) (fun _ hk => hk.2) (.slice bI bC.length bH)) (fun _ hk => hk.2) (.slice b4 bM.length bN)) (fun _ h_ => h_.1))) hb); replace b6 := am (Kd.qYa (by refine rw_ ?_; exact (Kd.qQ4 (Kd.R_far (p := ⟨aH, 1, none⟩) (Kd.R_far (p := ⟨aH, 0, none⟩) (Kd.qZy b6.out aM.out (by decide)) (fun _ hk => hk.2) (.slice bI bC.length bH)) (fun _ hk => hk.2) (.slice b4 bM.length bN)) (fun _ h_ => h_.1))) hb); replace b7 := am (Kd.qYa (by refine rw_ ?_; exact (Kd.qQ4 (Kd.R_far (p := ⟨aH, 1, none⟩) (Kd.R_far (p := ⟨aH, 0, none⟩) (Kd.qZy b7.out aM.out (by decide)) (fun _ hk => hk.2) (.slice bI bC.length bH)) (fun _ hk => hk.2) (.slice b4 bM.length bN)) (fun _ h_ => h_.1))) hb); replace aC := am (qQv (g := dV) (o := .cells #[.int .i64 cA, .slice eE bO.length eG, .int .i64 cB, .int .i64 cC, .int .i64 cD, .int .i64 cE, .slice eF bP.length eH, .int .i64 cF, .int .i64 cG, .int .i64 cH, .int .i64 aW, .int .i64 aX, .int .i64 aY] 28 (0, 0)) (by (iterate 2 (refine bw ?_; refine qZ8 ?_ cX.out _)); refine bw ?_; exact aC.out) hb); replace aE := am (qQv (g := aA) (o := .cells #[.int .i64 bQ, .slice b9 aZ.length b8, .int .i64 bR, .int .i64 bS, .int .i64 bT, .int .i64 bU, .slice cL bA.length cI, .int .i64 bV, .int .i64 bW, .int .i64 bX, .int .i64 bY, .int .i64 bZ, .int .i64 b3] 28 (0, 0)) (by (iterate 2 (refine bw ?_; refine qZ8 ?_ cY.out _)); refine bw ?_; exact aE.out) hb); replace aM := am (qQv (g := aH) (o := .cells #[.slice bI bC.length bH, .slice b4 bM.length bN] 39 (0, 0)) (by refine bw ?_; refine qQ0 (cs := #[.slice bI bC.length bH, .slice none 0 0]) ?_ 1 _ rfl; refine bw ?_; refine qQ0 (cs := #[.slice none 0 0, .slice none 0 0]) ?_ 0 _ rfl; refine bw ?_; exact aM.out) hb); replace HB := s3 HB aD aN dL hb; (try clear hb); (try clear hb2); (try clear hk); (try clear hi)) | (go_at_call 6; (with_reducible refine (qZw.calls _ dU _ iN.out).mono ?_); rintro e kO ⟨rfl, hb⟩; replace aI := Rb aI hb; replace aJ := am (Kd.qVa (by (with_reducible repeat (first | apply Kd.qXw | apply Kd.qXx | apply Kd.qWh)); exact aJ.out) hb); replace aT := Rb aT hb; replace bD := Rb bD hb; replace bF := Rb bF hb; replace b6 := Rb b6 hb; replace b7 := Rb b7 hb; replace aC := bB aC hb; replace aE := bB aE hb; replace aM := bB aM hb; replace HB := s3 HB aD aN dL hb; (try clear hb); (try clear hb2); (try clear hk); (try clear hi)))
 go_ret
 exact ⟨er, by exact h3q HB.out aD.out aN.out dL.out⟩
end Go.Proofs.YtlhcohipnieidaaGreat.P
namespace Go.Proofs.YtlhcohipnieidaaGreat.Reads
open Go.ChangeShapes Go.WideShapes Go.ChangeAt Go.RowKit
open Go.ChangeMaps (open_string shut_string)
open W.PrintWords
set_option linter.unusedVariables false
set_option linter.unusedSimpArgs false
set_option linter.constructorNameAsVariable false
def IsRow (k : IntKind) (w : World) (a : Option Addr) (len cap : Nat) (zs : List Int) : Prop :=
 (a = none /\ len = 0 /\ cap = 0 /\ zs = []) \/
 ∃ x, a = some x /\ len <= cap /\ cap <= maxLen /\ zs.length = cap /\ (∀ i, i < zs.length -> w.cell? (x.add i) = some (.int k (zs.getD i 0))) /\ ∀ n ∈ zs, (Lit.int k n).wf = true
theorem zWa {w : World} {base : Nat} {a : Addr} {n : Nat} {cs : List Value} (h : w.cells? base a n = some cs) : cs.length = n /\ ∀ (i : Nat) (u : Value), cs[i]? = some u -> w.cell? (a.add i) = some u := by
 unfold World.cells? at h
 split at h
 ·have hl : cs.length = n := by simpa using mapM_some_length h
  refine ⟨hl, fun i u hu => ?_⟩
  have hi : i < n := by rw [<- hl]; exact (List.getElem?_eq_some_iff.1 hu).1
  have := mapM_some_get h i i (by simp [hi])
  rw [this]; exact hu
 ·cases h
theorem zW3 {α H : Type} {enc : TypeId × Value -> H} {P : Program} {W : World} {base : Nat} {spare : Nat -> Bool} {held : Bool} {t e : TypeId}
  {d : Kd α} (hu : P.underlying t = some (.slice e)) (hc : P.cellsOf e = d.sz)
  (hel : ∀ (n : Nat) (cs : List Value) (y : DataW H × List MemPlace), DataW.trod enc P W base spare held n e cs = some y -> ∃ x : α, d.K W x cs)
  {fuel : Nat} {cs : List Value} {y : DataW H × List MemPlace} (hf : DataW.trod enc P W base spare held fuel t cs = some y) :
  ∃ (a : Option Addr) (cap : Nat) (l : List α), cs = [.slice a l.length cap] /\ l.length <= cap /\ l.length <= maxLen /\ Kd.C d W a l.length l := by
 rcases Go.Deep.open_slice hu hf with ⟨hcs, hx⟩ | ⟨ad, l0, c0, m, n, D, Pl, hcs, hb, hl, hm, hm2, hx, hel2⟩
 ·exact ⟨none, 0, [], hcs, Nat.le_refl _, Nat.zero_le _, ⟨rfl, by simp, fun h => absurd h (by simp)⟩⟩
 ·have hml : l0 <= m := by rw [hm2]; split <;> omega
  have hmx : maxLen <= 9223372036854775807 := by decide
  have ex : ∀ i : Fin l0, ∃ x : α, ∃ cs', W.cells? base (ad.add (i.val * P.cellsOf e)) (P.cellsOf e) = some cs' /\ d.K W x cs' := fun i => by
   obtain ⟨cs', h1, h2⟩ := hel2 i.val (by have := i.isLt; omega)
   obtain ⟨x, h3⟩ := hel _ _ _ h2
   exact ⟨x, cs', h1, h3⟩
  refine ⟨some ad, c0, List.ofFn (fun i => Classical.choose (ex i)), by simpa using hcs, by simpa using hl, by simp; omega, ⟨by simp, by simp; omega, fun _ => ⟨ad, rfl, fun j p hp => ?_⟩⟩⟩
  have hj : j < l0 := by have := (List.getElem?_eq_some_iff.1 hp).1; simpa using this
  have hp2 : Classical.choose (ex ⟨j, hj⟩) = p := by
   have := (List.getElem?_eq_some_iff.1 hp).2
   simpa using this
  obtain ⟨cs', h1, h2⟩ := Classical.choose_spec (ex ⟨j, hj⟩)
  rw [hp2] at h2
  obtain ⟨g1, g2⟩ := zWa h1
  refine ⟨cs', g1.trans hc, h2, fun i u hi => ?_⟩
  have := g2 i u hi
  rw [Addr.add_add, hc] at this
  exact this
theorem listE4 {α : Type} {cs : List α} (h : cs.length = 4) : ∃ c0 c1 c2 c3, cs = [c0, c1, c2, c3] := by
 match cs, h with
 | [c0, c1, c2, c3], _ => exact ⟨c0, c1, c2, c3, rfl⟩
theorem listE6 {α : Type} {cs : List α} (h : cs.length = 6) : ∃ c0 c1 c2 c3 c4 c5, cs = [c0, c1, c2, c3, c4, c5] := by
 match cs, h with
 | [c0, c1, c2, c3, c4, c5], _ => exact ⟨c0, c1, c2, c3, c4, c5, rfl⟩
theorem listE10 {α : Type} {cs : List α} (h : cs.length = 10) : ∃ c0 c1 c2 c3 c4 c5 c6 c7 c8 c9, cs = [c0, c1, c2, c3, c4, c5, c6, c7, c8, c9] := by
 match cs, h with
 | [c0, c1, c2, c3, c4, c5, c6, c7, c8, c9], _ => exact ⟨c0, c1, c2, c3, c4, c5, c6, c7, c8, c9, rfl⟩
theorem listE13 {α : Type} {cs : List α} (h : cs.length = 13) : ∃ c0 c1 c2 c3 c4 c5 c6 c7 c8 c9 fR dN fU, cs = [c0, c1, c2, c3, c4, c5, c6, c7, c8, c9, fR, dN, fU] := by
 match cs, h with
 | [c0, c1, c2, c3, c4, c5, c6, c7, c8, c9, fR, dN, fU], _ => exact ⟨c0, c1, c2, c3, c4, c5, c6, c7, c8, c9, fR, dN, fU, rfl⟩
theorem elL {H : Type} {enc : TypeId × Value -> H} {W : World} {held : Bool} (n : Nat) (cs : List Value) (y : DataW H × List MemPlace) (hy : DataW.trod enc Tryz.prog W 0 (fun _ => true) held n 48 cs = some y) : ∃ x : P.S48, P.k48.K W x cs := by
 have hci : Tryz.prog.cellsOf 3 = 1 := by kernel_rfl
 have hcw : Tryz.prog.cellsOf 2 = 1 := by kernel_rfl
 have hcb : Tryz.prog.cellsOf 4 = 1 := by kernel_rfl
 have hcs : Tryz.prog.cellsOf 48 = 13 := by kernel_rfl
 obtain ⟨ys, m, _, hx, hcl, hl, hf⟩ := Go.DataW.trod_struct Tryz.underlying48 hy
 obtain ⟨y0, y1, y2, y3, y4, y5, y6, y7, y8, y9, kP, kQ, kR, rfl⟩ := listE13 hl
 obtain ⟨c0, c1, c2, c3, c4, c5, c6, c7, c8, c9, fR, dN, fU, rfl⟩ := listE13 (hcl.trans hcs)
 have h0 := hf 0 _ rfl
 simp [hci] at h0
 obtain ⟨x0, e0, _, _⟩ := Go.DataW.trod_int Tryz.underlying3 h0
 simp at e0
 subst e0
 have h1 := hf 1 _ rfl
 simp [hcw] at h1
 obtain ⟨x1, e1, _, _⟩ := Go.DataW.trod_int Tryz.underlying2 h1
 simp at e1
 subst e1
 have h2 := hf 2 _ rfl
 simp [hcw] at h2
 obtain ⟨x2, e2, _, _⟩ := Go.DataW.trod_int Tryz.underlying2 h2
 simp at e2
 subst e2
 have h3 := hf 3 _ rfl
 simp [hcw] at h3
 obtain ⟨x3, e3, _, _⟩ := Go.DataW.trod_int Tryz.underlying2 h3
 simp at e3
 subst e3
 have h4 := hf 4 _ rfl
 simp [hcw] at h4
 obtain ⟨x4, e4, _, _⟩ := Go.DataW.trod_int Tryz.underlying2 h4
 simp at e4
 subst e4
 have h5 := hf 5 _ rfl
 simp [hci] at h5
 obtain ⟨x5, e5, _, _⟩ := Go.DataW.trod_int Tryz.underlying3 h5
 simp at e5
 subst e5
 have h6 := hf 6 _ rfl
 simp [hcb] at h6
 obtain ⟨x6, e6, _⟩ := Go.DataW.trod_bool Tryz.underlying4 h6
 simp at e6
 subst e6
 have h7 := hf 7 _ rfl
 simp [hci] at h7
 obtain ⟨x7, e7, _, _⟩ := Go.DataW.trod_int Tryz.underlying3 h7
 simp at e7
 subst e7
 have h8 := hf 8 _ rfl
 simp [hci] at h8
 obtain ⟨x8, e8, _, _⟩ := Go.DataW.trod_int Tryz.underlying3 h8
 simp at e8
 subst e8
 have h9 := hf 9 _ rfl
 simp [hci] at h9
 obtain ⟨x9, e9, _, _⟩ := Go.DataW.trod_int Tryz.underlying3 h9
 simp at e9
 subst e9
 have h10 := hf 10 _ rfl
 simp [hcw] at h10
 obtain ⟨d3, fX, _, _⟩ := Go.DataW.trod_int Tryz.underlying2 h10
 simp at fX
 subst fX
 have h11 := hf 11 _ rfl
 simp [hcw] at h11
 obtain ⟨eN, fY, _, _⟩ := Go.DataW.trod_int Tryz.underlying2 h11
 simp at fY
 subst fY
 have h12 := hf 12 _ rfl
 simp [hci] at h12
 obtain ⟨iD, hV, _, _⟩ := Go.DataW.trod_int Tryz.underlying3 h12
 simp at hV
 subst hV
 exact ⟨⟨x0, x1, x2, x3, x4, x5, x6, x7, x8, x9, d3, eN, iD⟩, P.k48_mk W ⟨x0, x1, x2, x3, x4, x5, x6, x7, x8, x9, d3, eN, iD⟩⟩
theorem elB {H : Type} {enc : TypeId × Value -> H} {W : World} {held : Bool} (n : Nat) (cs : List Value) (y : DataW H × List MemPlace) (hy : DataW.trod enc Tryz.prog W 0 (fun _ => true) held n 54 cs = some y) : ∃ x : P.S54, P.k54.K W x cs := by
 have hci : Tryz.prog.cellsOf 3 = 1 := by kernel_rfl
 have hcw : Tryz.prog.cellsOf 2 = 1 := by kernel_rfl
 have hcr : Tryz.prog.cellsOf 32 = 1 := by kernel_rfl
 have hcs : Tryz.prog.cellsOf 54 = 6 := by kernel_rfl
 obtain ⟨ys, m, _, hx, hcl, hl, hf⟩ := Go.DataW.trod_struct Tryz.underlying54 hy
 obtain ⟨y0, y1, y2, y3, y4, y5, rfl⟩ := listE6 hl
 obtain ⟨c0, c1, c2, c3, c4, c5, rfl⟩ := listE6 (hcl.trans hcs)
 have h0 := hf 0 _ rfl
 simp [hci] at h0
 obtain ⟨x0, e0, _, _⟩ := Go.DataW.trod_int Tryz.underlying3 h0
 simp at e0
 subst e0
 have h1 := hf 1 _ rfl
 simp [hcw] at h1
 obtain ⟨x1, e1, _, _⟩ := Go.DataW.trod_int Tryz.underlying2 h1
 simp at e1
 subst e1
 have h2 := hf 2 _ rfl
 simp [hcw] at h2
 obtain ⟨x2, e2, _, _⟩ := Go.DataW.trod_int Tryz.underlying2 h2
 simp at e2
 subst e2
 have h3 := hf 3 _ rfl
 simp [hci] at h3
 obtain ⟨x3, e3, _, _⟩ := Go.DataW.trod_int Tryz.underlying3 h3
 simp at e3
 subst e3
 have h4 := hf 4 _ rfl
 simp [hci] at h4
 obtain ⟨x4, e4, _, _⟩ := Go.DataW.trod_int Tryz.underlying3 h4
 simp at e4
 subst e4
 have h5 := hf 5 _ rfl
 simp [hcr] at h5
 obtain ⟨A5, n5, q5, e5, zs5, w5⟩ : ∃ (A_ : Option Addr) (n_ q_ : Nat), c5 = .slice A_ n_ q_ /\ ∃ zs, IsRow .i64 W A_ n_ q_ zs := by
  rcases open_ints Tryz.underlying32 Tryz.underlying3 (by kernel_rfl) h5 with ⟨hcs, _⟩ | ⟨x, l, c, zs, hcs, _, hl, hm, hz, _, hcell, hwz⟩
  ·simp at hcs; exact ⟨none, 0, 0, hcs, [], .inl ⟨rfl, rfl, rfl, rfl⟩⟩
  ·simp at hcs; exact ⟨some x, l, c, hcs, zs, .inr ⟨_, rfl, hl, hm, by simpa using hz, hcell, hwz⟩⟩
 subst e5
 obtain ⟨x5, rfl, hr5, hm5, jX, hq5⟩ := ReadsInt.ofRowC w5
 exact ⟨⟨x0, x1, x2, x3, x4, x5⟩, P.k54_mk W ⟨x0, x1, x2, x3, x4, x5⟩ hq5 (Kd.qJo (d := (0 : Int)) (h1 := fun _ => rfl) hr5)⟩
theorem elP {H : Type} {enc : TypeId × Value -> H} {W : World} {held : Bool} (n : Nat) (cs : List Value) (y : DataW H × List MemPlace) (hy : DataW.trod enc Tryz.prog W 0 (fun _ => true) held n 26 cs = some y) : ∃ x0 x1 x2 x3 : Int, cs = [.int .i64 x0, .int .i64 x1, .int .i64 x2, .int .i64 x3] := by
 have hcw : Tryz.prog.cellsOf 2 = 1 := by kernel_rfl
 have hcs : Tryz.prog.cellsOf 26 = 4 := by kernel_rfl
 obtain ⟨ys, m, _, hx, hcl, hl, hf⟩ := Go.DataW.trod_struct Tryz.underlying26 hy
 obtain ⟨y0, y1, y2, y3, rfl⟩ := listE4 hl
 obtain ⟨c0, c1, c2, c3, rfl⟩ := listE4 (hcl.trans hcs)
 have h0 := hf 0 _ rfl
 simp [hcw] at h0
 obtain ⟨x0, e0, _, _⟩ := Go.DataW.trod_int Tryz.underlying2 h0
 simp at e0
 subst e0
 have h1 := hf 1 _ rfl
 simp [hcw] at h1
 obtain ⟨x1, e1, _, _⟩ := Go.DataW.trod_int Tryz.underlying2 h1
 simp at e1
 subst e1
 have h2 := hf 2 _ rfl
 simp [hcw] at h2
 obtain ⟨x2, e2, _, _⟩ := Go.DataW.trod_int Tryz.underlying2 h2
 simp at e2
 subst e2
 have h3 := hf 3 _ rfl
 simp [hcw] at h3
 obtain ⟨x3, e3, _, _⟩ := Go.DataW.trod_int Tryz.underlying2 h3
 simp at e3
 subst e3
 exact ⟨x0, x1, x2, x3, rfl⟩
theorem elS {H : Type} {enc : TypeId × Value -> H} {W : World} {held : Bool} (n : Nat) (cs : List Value) (y : DataW H × List MemPlace) (hy : DataW.trod enc Tryz.prog W 0 (fun _ => true) held n 28 cs = some y) : ∃ (a0 : Int) (A1 : Option Addr) (q1 : Nat) (l1 : List P.S48) (a2 a3 a4 a5 : Int) (A6 : Option Addr) (q6 : Nat) (l6 : List P.S54) (a7 a8 a9 a10 a11 a12 : Int),
  cs = [.int .i64 a0, .slice A1 l1.length q1, .int .i64 a2, .int .i64 a3, .int .i64 a4, .int .i64 a5, .slice A6 l6.length q6, .int .i64 a7, .int .i64 a8, .int .i64 a9, .int .i64 a10, .int .i64 a11, .int .i64 a12] /\ (Kd.C P.k48 W A1 l1.length l1 /\ l1.length <= q1 /\ l1.length <= maxLen) /\ (Kd.C P.k54 W A6 l6.length l6 /\ l6.length <= q6 /\ l6.length <= maxLen) := by
 have hci : Tryz.prog.cellsOf 3 = 1 := by kernel_rfl
 have hcw : Tryz.prog.cellsOf 2 = 1 := by kernel_rfl
 have hcu : Tryz.prog.cellsOf 23 = 1 := by kernel_rfl
 have hcv : Tryz.prog.cellsOf 24 = 1 := by kernel_rfl
 have hcp : Tryz.prog.cellsOf 26 = 4 := by kernel_rfl
 have hcs : Tryz.prog.cellsOf 28 = 13 := by kernel_rfl
 obtain ⟨ys, m, _, hx, hcl, hl, hf⟩ := Go.DataW.trod_struct Tryz.underlying28 hy
 obtain ⟨y0, y1, y2, y3, y4, y5, y6, y7, y8, y9, rfl⟩ := listE10 hl
 obtain ⟨c0, c1, c2, c3, c4, c5, c6, c7, c8, c9, fR, dN, fU, rfl⟩ := listE13 (hcl.trans hcs)
 have h0 := hf 0 _ rfl
 simp [hci] at h0
 obtain ⟨a0, e0, _, _⟩ := Go.DataW.trod_int Tryz.underlying3 h0
 simp at e0
 subst e0
 have h1 := hf 1 _ rfl
 simp [hcu] at h1
 obtain ⟨A1, q1, l1, e1, g1a, g1b, g1c⟩ := zW3 Tryz.underlying23 (d := P.k48) (by kernel_rfl) elL h1
 simp at e1
 subst e1
 have h2 := hf 2 _ rfl
 simp [hci] at h2
 obtain ⟨a2, e2, _, _⟩ := Go.DataW.trod_int Tryz.underlying3 h2
 simp at e2
 subst e2
 have h3 := hf 3 _ rfl
 simp [hci] at h3
 obtain ⟨a3, e3, _, _⟩ := Go.DataW.trod_int Tryz.underlying3 h3
 simp at e3
 subst e3
 have h4 := hf 4 _ rfl
 simp [hcw] at h4
 obtain ⟨a4, e4, _, _⟩ := Go.DataW.trod_int Tryz.underlying2 h4
 simp at e4
 subst e4
 have h5 := hf 5 _ rfl
 simp [hci] at h5
 obtain ⟨a5, e5, _, _⟩ := Go.DataW.trod_int Tryz.underlying3 h5
 simp at e5
 subst e5
 have h6 := hf 6 _ rfl
 simp [hcv] at h6
 obtain ⟨A6, q6, l6, e6, g6a, g6b, g6c⟩ := zW3 Tryz.underlying24 (d := P.k54) (by kernel_rfl) elB h6
 simp at e6
 subst e6
 have h7 := hf 7 _ rfl
 simp [hcw] at h7
 obtain ⟨a7, e7, _, _⟩ := Go.DataW.trod_int Tryz.underlying2 h7
 simp at e7
 subst e7
 have h8 := hf 8 _ rfl
 simp [hcp] at h8
 obtain ⟨a8, a9, a10, a11, e8⟩ := elP _ _ _ h8
 simp at e8
 obtain ⟨rfl, rfl, rfl, rfl⟩ := e8
 have h9 := hf 9 _ rfl
 simp [hcw] at h9
 obtain ⟨a12, e9, _, _⟩ := Go.DataW.trod_int Tryz.underlying2 h9
 simp at e9
 subst e9
 exact ⟨a0, A1, q1, l1, a2, a3, a4, a5, A6, q6, l6, a7, a8, a9, a10, a11, a12, rfl, ⟨g1c, g1a, g1b⟩, ⟨g6c, g6a, g6b⟩⟩
theorem openS {H : Type} {enc : TypeId × Value -> H} {w : World} {held : Bool} {r : Reach} {b0 : Nat} {v : Value} {d : DataW H} {p : List MemPlace}
  (hval : Value.okWide Tryz.prog w r b0 28 v) (hd : DataW.Trod enc Tryz.prog w 0 (fun _ => true) held 28 v d p) :
  ∃ (a0 : Int) (A1 : Option Addr) (q1 : Nat) (l1 : List P.S48) (a2 a3 a4 a5 : Int) (A6 : Option Addr) (q6 : Nat) (l6 : List P.S54) (a7 a8 a9 a10 a11 a12 : Int),
  v = .agg #[.int .i64 a0, .slice A1 l1.length q1, .int .i64 a2, .int .i64 a3, .int .i64 a4, .int .i64 a5, .slice A6 l6.length q6, .int .i64 a7, .int .i64 a8, .int .i64 a9, .int .i64 a10, .int .i64 a11, .int .i64 a12] /\ (Kd.C P.k48 w A1 l1.length l1 /\ l1.length <= q1 /\ l1.length <= maxLen) /\ (Kd.C P.k54 w A6 l6.length l6 /\ l6.length <= q6 /\ l6.length <= maxLen) := by
 obtain ⟨cs, rfl, _⟩ : ∃ cs, v = .agg cs /\ cs.size = Tryz.prog.cellsOf 28 := by
  simp only [Value.okWide, Tryz.underlying28] at hval
  obtain ⟨cs, h1, h2, _⟩ := hval
  exact ⟨cs, h1, h2⟩
 obtain ⟨fuel, hy⟩ := hd
 obtain ⟨a0, A1, q1, l1, a2, a3, a4, a5, A6, q6, l6, a7, a8, a9, a10, a11, a12, e, h1, h2⟩ := elS _ _ _ hy
 refine ⟨a0, A1, q1, l1, a2, a3, a4, a5, A6, q6, l6, a7, a8, a9, a10, a11, a12, ?_, h1, h2⟩
 obtain ⟨cl⟩ := cs
 have e2 : cl = _ := e
 rw [e2]
end Go.Proofs.YtlhcohipnieidaaGreat.Reads
namespace Go.Proofs.YtlhcohipnieidaaGreat.PlainM
open Go Go.RowKit
theorem w64 {e : Int} (h : -9223372036854775808 <= e) (h' : e <= 9223372036854775807) : wrap64 e = e := by unfold wrap64; omega
theorem obind {α β : Type} (a : α) (f : α -> Option β) : (some a).bind f = f a := (Option.bind_some a f).trans (Eq.refl (f a))
theorem qWm {x n : Int} (h : 0 <= x) : Int.tdiv x n = x / n := Int.tdiv_eq_ediv_of_nonneg h
theorem qVo {x n : Int} (h : 0 <= x) : Int.tmod x n = x % n := Int.tmod_eq_emod_of_nonneg h
theorem wu (n : Int) : IntKind.u64.wrap n = n % 18446744073709551616 := IntKind.wrap_u64 n
theorem wu_id {n : Int} (h : 0 <= n) (h' : n < 18446744073709551616) : IntKind.u64.wrap n = n := by rw [wu]; omega
theorem wraps_u64 (n : Int) (h₀ : 0 <= n) (h₁ : n < 2 ^ 64) : IntKind.u64.wrap n = n := wu_id h₀ (by simpa using h₁)
theorem qVq {x : Int} (h : 0 <= x) (h' : x < 18446744073709551616) : Go.bits .and .u64 x 4294967295 = x % 4294967296 :=
 bits_mask .u64 64 (by decide) wraps_u64 32 (by decide) x h (by simpa using h')
theorem and_one {x : Int} (h : 0 <= x) (h' : x < 18446744073709551616) : Go.bits .and .u64 x 1 = x % 2 :=
 bits_mask .u64 64 (by decide) wraps_u64 1 (by decide) x h (by simpa using h')
theorem zXa (a1 a0 b1 b0 : Int) (ha1 : 0 <= a1) (ha1' : a1 < 4294967296) (ha0 : 0 <= a0) (ha0' : a0 < 4294967296) (hb1 : 0 <= b1) (hb1' : b1 < 4294967296) (hb0 : 0 <= b0) (hb0' : b0 < 4294967296) :
  ∃ eN d3 fM eM : Int, eN = a1 * b1 /\ d3 = a1 * b0 /\ fM = a0 * b1 /\ eM = a0 * b0 /\ 0 <= eN /\ eN <= 18446744065119617025 /\ 0 <= d3 /\ d3 <= 18446744065119617025 /\ 0 <= fM /\ fM <= 18446744065119617025 /\ 0 <= eM /\ eM <= 18446744065119617025 /\
   (a1 * 4294967296 + a0) * (b1 * 4294967296 + b0) = eN * 18446744073709551616 + (d3 + fM) * 4294967296 + eM := by
 have bd : ∀ x y : Int, 0 <= x -> x < 4294967296 -> 0 <= y -> y < 4294967296 -> 0 <= x * y /\ x * y <= 18446744065119617025 := fun x y h1 h2 h3 h4 =>
  ⟨Int.mul_nonneg h1 h3, by
   have : x * y <= 4294967295 * 4294967295 := Int.mul_le_mul (by omega) (by omega) h3 (by omega)
   omega⟩
 refine ⟨_, _, _, _, rfl, rfl, rfl, rfl, (bd _ _ ha1 ha1' hb1 hb1').1, (bd _ _ ha1 ha1' hb1 hb1').2, (bd _ _ ha1 ha1' hb0 hb0').1, (bd _ _ ha1 ha1' hb0 hb0').2, (bd _ _ ha0 ha0' hb1 hb1').1, (bd _ _ ha0 ha0' hb1 hb1').2, (bd _ _ ha0 ha0' hb0 hb0').1, (bd _ _ ha0 ha0' hb0 hb0').2, ?_⟩
 rw [Int.add_mul, Int.mul_add, Int.mul_add]
 have e1 : a1 * 4294967296 * (b1 * 4294967296) = a1 * b1 * 18446744073709551616 := by
  rw [Int.mul_assoc, Int.mul_left_comm 4294967296, <- Int.mul_assoc]; rfl
 have e2 : a1 * 4294967296 * b0 = a1 * b0 * 4294967296 := by rw [Int.mul_assoc, Int.mul_comm 4294967296, <- Int.mul_assoc]
 have e3 : a0 * (b1 * 4294967296) = a0 * b1 * 4294967296 := by rw [<- Int.mul_assoc]
 rw [e1, e2, e3]; omega
theorem zWg {u y1 y0 : Int} (h1 : 2147483648 <= y1) (h1' : y1 < 4294967296) (h0 : 0 <= y0) (h0' : y0 < 4294967296) (hu : 0 <= u) (huy : u < y1 * 4294967296 + y0) :
  0 <= u / y1 /\ u / y1 <= 4294967297 /\ 0 <= u - u / y1 * y1 /\ u - u / y1 * y1 < y1 := by
 have e := Int.emod_add_mul_ediv u y1
 have m1 := Int.emod_nonneg u (show y1 ≠ 0 by omega)
 have m2 := Int.emod_lt_of_pos u (show 0 < y1 by omega)
 rw [Int.mul_comm] at e
 refine ⟨Int.ediv_nonneg hu (by omega), ?_, by omega, by omega⟩
 apply Int.le_of_lt_add_one
 apply (Int.ediv_lt_iff_lt_mul (by omega)).2
 show u < (4294967297 + 1) * y1
 omega
theorem zQf {N y q : Int} (hy : 0 < y) : q <= N / y ↔ q * y <= N := Int.le_ediv_iff_mul_le hy
theorem zK4 {N y q : Int} (hy : 0 < y) (h1 : q * y <= N) (h2 : N < (q + 1) * y) : N / y = q := by
 have a := (zQf hy).2 h1
 have b := (Int.ediv_lt_iff_lt_mul hy (a := N) (b := q + 1)).2 h2
 omega
end Go.Proofs.YtlhcohipnieidaaGreat.PlainM
namespace Go.Proofs.YtlhcohipnieidaaGreat.PureL
set_option linter.unusedVariables false
open Go.RowKit Go.Proofs.YtlhcohipnieidaaGreat.P W.PrintWords W.PrintLast W.PrintMore Go.Proofs.YtlhcohipnieidaaGreat.PlainM
theorem qWx (a : Int) : qQ3.f a = some (decide (-10000000000000 <= a /\ a <= 10000000000000)) := by
 unfold qQ3.f
 by_cases h : a ≥ -10000000000000
 ·rw [if_pos h]; simp [h]
 ·rw [if_neg h]; simp; omega
theorem qWf (a : Int) : qQ6.f a = some (decide (-10000000000000 <= a /\ a <= 10000000000000)) := by
 unfold qQ6.f
 by_cases h : a ≥ -10000000000000
 ·rw [if_pos h]; simp [h]
 ·rw [if_neg h]; simp; omega
theorem qWz (a : Int) : isMoney a = decide (-10000000000000 <= a /\ a <= 10000000000000) := rfl
def addS (a b : Int) : Int × Int := if (isMoney a && (isMoney b && isMoney (a + b))) = true then (a + b, 0) else (0, 14)
theorem qW6 {a : Int} (h : isMoney a = true) : -10000000000000 <= a /\ a <= 10000000000000 := by simpa [isMoney] using h
theorem qVm (a b : Int) : qZ9.f a b = some (addS a b) := by
 unfold qZ9.f qZ3.f
 rw [if_pos (by simp)]
 simp only [obind]
 congr 1
 show qZ3.go [a, b] 0 = addS a b
 unfold addS
 simp only [qZ3.go]
 rw [show isMoney 0 = true by decide, Bool.true_and, Int.zero_add]
 cases h1 : isMoney a
 ·simp
 ·cases h2 : isMoney b
  ·simp
  ·simp
theorem qJa (a b : Int) : qZ6.f a b = some (addS a b) := by
 unfold qZ6.f addS
 simp only [qWf, <- qWz, obind]
 cases h1 : isMoney a
 ·simp
 ·cases h2 : isMoney b
  ·simp
  ·have b1 := qW6 h1; have b2 := qW6 h2
   rw [w64 (by omega) (by omega)]
   cases h3 : isMoney (a + b) <;> simp
theorem zQ8 (a : Int) (h : a <= 9223372036854775807) : qYu.f a = some (if a < 0 then 0 else a / 1000000) := by
 unfold qYu.f
 by_cases c : a < 0
 ·rw [if_pos c, if_pos c]
 ·rw [if_neg c, if_neg c, qWm (by omega), w64 (by omega) (by omega)]
end Go.Proofs.YtlhcohipnieidaaGreat.PureL
namespace Go.Proofs.YtlhcohipnieidaaGreat.PureLo
set_option linter.unusedVariables false
set_option linter.unusedSimpArgs false
open Go.RowKit Go.Proofs.YtlhcohipnieidaaGreat.P W.PrintWords W.PrintLast W.PrintMore Go.Proofs.YtlhcohipnieidaaGreat.PlainM Go.Proofs.YtlhcohipnieidaaGreat.PureL
def mon (a : Int) : Prop := 0 <= a /\ a <= 10000000000000
instance (a : Int) : Decidable (mon a) := by unfold mon; infer_instance
def gd (id pr it su fe ppm st cl en le fa ct : Int) : Prop :=
 (1 <= id /\ id <= 1000) /\ (mon pr /\ mon fe /\ mon le /\ mon fa) /\ ((0 <= it /\ it <= 1000000000000000000) /\ 0 <= su /\ su <= 1000000000000000000) /\ ((0 <= ppm /\ ppm <= 1000000) /\ (1 <= st /\ st <= 5) /\ 0 <= cl /\ cl <= 4) /\ (-1 <= en /\ en <= 87658) /\ 0 <= ct /\ (cl = 0 \/ pr = 0 /\ it = 0 /\ fe = 0)
instance (id pr it su fe ppm st cl en le fa ct : Int) : Decidable (gd id pr it su fe ppm st cl en le fa ct) := by unfold gd; infer_instance
theorem qVr (l : List Int) (k j : Nat) (hj : j < 4) (h4 : l.length = 4) :
  qYp.l0 (k + 1) l 4 (j : Int) = if mon (rd l j) then qYp.l0 k l 4 ((j + 1 : Nat) : Int) else some false := by
 simp only [qYp.l0]
 rw [if_pos (by omega), if_pos (by omega), if_pos (by rw [h4]; omega)]
 by_cases c1 : rd l j < 0
 ·rw [if_pos c1, if_neg (by unfold mon; omega)]
 ·rw [if_neg c1, qWx]
  simp only [obind]
  rw [w64 (by omega) (by omega)]
  by_cases c2 : -10000000000000 <= rd l j /\ rd l j <= 10000000000000
  ·rw [decide_eq_true c2, if_pos rfl, if_pos (by unfold mon; omega)]; rfl
  ·rw [decide_eq_false c2, if_neg (by simp), if_neg (by unfold mon; omega)]
theorem zVu (a b c d : Int) (k : Nat) (hk : 10 <= k) : qYp.f k [a, b, c, d] = some (decide (mon a /\ mon b /\ mon c /\ mon d)) := by
 obtain ⟨k, rfl⟩ : ∃ m, k = m + 5 := ⟨k - 5, by omega⟩
 unfold qYp.f
 rw [show (([a, b, c, d] : List Int).length : Int) = 4 from rfl, show (0 : Int) = ((0 : Nat) : Int) from rfl, qVr _ (k + 4) 0 (by omega) rfl, qVr _ (k + 3) 1 (by omega) rfl, qVr _ (k + 2) 2 (by omega) rfl, qVr _ (k + 1) 3 (by omega) rfl]
 have e : qYp.l0 (k + 1) [a, b, c, d] 4 ((3 + 1 : Nat) : Int) = some true := by simp only [qYp.l0]; rw [if_neg (by omega)]
 rw [e, show rd [a, b, c, d] ((0 : Nat) : Int) = a from rfl, show rd [a, b, c, d] ((1 : Nat) : Int) = b from rfl, show rd [a, b, c, d] ((2 : Nat) : Int) = c from rfl, show rd [a, b, c, d] ((3 : Nat) : Int) = d from rfl]
 by_cases h1 : mon a
 ·rw [if_pos h1]
  by_cases h2 : mon b
  ·rw [if_pos h2]
   by_cases h3 : mon c
   ·rw [if_pos h3]
    by_cases h4 : mon d
    ·rw [if_pos h4, decide_eq_true ⟨h1, h2, h3, h4⟩]
    ·rw [if_neg h4, decide_eq_false (fun h => h4 h.2.2.2)]
   ·rw [if_neg h3, decide_eq_false (fun h => h3 h.2.2.1)]
  ·rw [if_neg h2, decide_eq_false (fun h => h2 h.2.1)]
 ·rw [if_neg h1, decide_eq_false (fun h => h1 h.1)]
theorem qKy (id pr it su fe ppm : Int) (sd : Bool) (st cl en le fa ct : Int) (k : Nat) (hk : 10 <= k) :
  qQt.f k id pr it su fe ppm sd st cl en le fa ct = some (decide (gd id pr it su fe ppm st cl en le fa ct)) := by
 obtain ⟨k, rfl⟩ : ∃ m, k = m + 4 := ⟨k - 4, by omega⟩
 have e2 : ∀ k, qQt.j2 (k + 1) true id pr it su fe ppm sd st cl en le fa ct = some false := fun k => by simp only [qQt.j2, if_true]
 have e1 : ∀ k, qQt.j1 (k + 1) true id pr it su fe ppm sd st cl en le fa ct = some false := fun k => by simp only [qQt.j1, if_true]
 have e0 : ∀ k, qQt.j0 (k + 1) true id pr it su fe ppm sd st cl en le fa ct = some false := fun k => by simp only [qQt.j0, if_true]
 have F : ¬ gd id pr it su fe ppm st cl en le fa ct -> some false = some (decide (gd id pr it su fe ppm st cl en le fa ct)) := fun h => by rw [decide_eq_false h]
 unfold qQt.f
 by_cases h1 : id < 1
 ·rw [if_pos h1, e0]; exact F (fun h => by unfold gd at h; omega)
 rw [if_neg h1]
 by_cases h2 : id > 1000
 ·rw [if_pos h2, e0]; exact F (fun h => by unfold gd at h; omega)
 rw [if_neg h2, zVu _ _ _ _ _ (by omega)]
 simp only [obind]
 by_cases h3 : mon pr /\ mon fe /\ mon le /\ mon fa
 case neg => rw [decide_eq_false h3]; simp only [Bool.not_false]; rw [e0]; exact F (fun h => h3 h.2.1)
 rw [decide_eq_true h3]
 simp only [Bool.not_true, qQt.j0]
 rw [if_neg (by simp)]
 by_cases h4 : it < 0
 ·rw [if_pos h4, e1]; exact F (fun h => by unfold gd at h; omega)
 rw [if_neg h4]
 by_cases h5 : it > 1000000000000000000
 ·rw [if_pos h5, e1]; exact F (fun h => by unfold gd at h; omega)
 rw [if_neg h5]
 by_cases h6 : su < 0
 ·rw [if_pos h6, e1]; exact F (fun h => by unfold gd at h; omega)
 rw [if_neg h6]
 by_cases h7 : su > 1000000000000000000
 ·rw [decide_eq_true h7, e1]; exact F (fun h => by unfold gd at h; omega)
 rw [decide_eq_false h7]
 simp only [qQt.j1]
 rw [if_neg (by simp)]
 by_cases h8 : ppm < 0
 ·rw [if_pos h8, e2]; exact F (fun h => by unfold gd at h; omega)
 rw [if_neg h8]
 by_cases h9 : ppm > 1000000
 ·rw [if_pos h9, e2]; exact F (fun h => by unfold gd at h; omega)
 rw [if_neg h9]
 by_cases h10 : st < 1
 ·rw [if_pos h10, e2]; exact F (fun h => by unfold gd at h; omega)
 rw [if_neg h10]
 by_cases h11 : st > 5
 ·rw [if_pos h11, e2]; exact F (fun h => by unfold gd at h; omega)
 rw [if_neg h11]
 by_cases h12 : cl < 0
 ·rw [if_pos h12, e2]; exact F (fun h => by unfold gd at h; omega)
 rw [if_neg h12]
 by_cases h13 : cl > 4
 ·rw [decide_eq_true h13, e2]; exact F (fun h => by unfold gd at h; omega)
 rw [decide_eq_false h13]
 simp only [qQt.j2]
 rw [if_neg (by simp)]
 by_cases h14 : en < -1
 ·rw [if_pos h14]; exact F (fun h => by unfold gd at h; omega)
 rw [if_neg h14]
 by_cases h15 : en > 87658
 ·rw [if_pos h15]; exact F (fun h => by unfold gd at h; omega)
 rw [if_neg h15]
 by_cases h16 : ct < 0
 ·rw [if_pos h16]; exact F (fun h => by unfold gd at h; omega)
 rw [if_neg h16]
 have G : ∀ {b : Bool}, (b = true ↔ (cl = 0 \/ pr = 0 /\ it = 0 /\ fe = 0)) -> some b = some (decide (gd id pr it su fe ppm st cl en le fa ct)) := fun {b} h => by
  have e : (gd id pr it su fe ppm st cl en le fa ct) ↔ (cl = 0 \/ pr = 0 /\ it = 0 /\ fe = 0) :=
   ⟨fun h => h.2.2.2.2.2.2, fun h => ⟨by omega, h3, ⟨by omega, by omega⟩, ⟨by omega, by omega, by omega⟩, by omega, by omega, h⟩⟩
  cases b with
  | true => rw [decide_eq_true (e.mpr (h.mp rfl))]
  | false => rw [decide_eq_false (fun c => by have := h.mpr (e.mp c); cases this)]
 by_cases h17 : cl = 0
 ·rw [if_pos h17]; exact G ⟨fun _ => .inl h17, fun _ => rfl⟩
 rw [if_neg h17]
 by_cases h18 : pr = 0
 case neg => rw [if_neg h18]; exact G ⟨fun h => by simp at h, fun h => by omega⟩
 rw [if_pos h18]
 by_cases h19 : it = 0
 case neg => rw [if_neg h19]; exact G ⟨fun h => by simp at h, fun h => by omega⟩
 rw [if_pos h19]
 exact G ⟨fun h => .inr ⟨h18, h19, by simpa using h⟩, fun h => by simp; omega⟩
theorem qJ7 (a b : Int) (ha : 0 <= a) (ha' : a <= 10000000000000) (hb : 0 <= b) (hb' : b <= 10000000000000) : addS a b = if a + b > 10000000000000 then (0, 14) else (a + b, 0) := by
 unfold addS isMoney
 by_cases c : a + b > 10000000000000
 ·rw [if_pos c, if_neg (by simp; omega)]
 ·rw [if_neg c, if_pos (by simp; omega)]
theorem zWl (a b : Int) (ha : 0 <= a) (ha' : a <= 10000000000000) (hb : 0 <= b) (hb' : b <= 10000000000000) : qZ9.f a b = some (if a + b > 10000000000000 then (0, 14) else (a + b, 0)) := by
 rw [qVm, qJ7 a b ha ha' hb hb']
def owesS (id pr it su fe ppm st cl en le fa ct : Int) : Int × Int :=
 if gd id pr it su fe ppm st cl en le fa ct then (if pr + fe > 10000000000000 then (0, 14) else if pr + fe + it / 1000000 > 10000000000000 then (0, 14) else (pr + fe + it / 1000000, 0)) else (0, 1)
theorem zZy (id pr it su fe ppm : Int) (sd : Bool) (st cl en le fa ct : Int) (k : Nat) (hk : 10 <= k) : qY3.f k id pr it su fe ppm sd st cl en le fa ct = some (owesS id pr it su fe ppm st cl en le fa ct) := by
 unfold qY3.f owesS
 rw [qKy _ _ _ _ _ _ _ _ _ _ _ _ _ k hk]
 simp only [obind, decide_eq_true_eq]
 by_cases g : gd id pr it su fe ppm st cl en le fa ct
 ·rw [if_pos g, if_pos g]
  have g' := g
  unfold gd mon at g'
  rw [if_pos g'.2.2.1.1, zWl pr fe (by omega) (by omega) (by omega) (by omega)]
  simp only [obind]
  by_cases c : pr + fe > 10000000000000
  ·rw [if_pos c, if_pos c, if_neg (by simp)]
  ·rw [if_neg c, if_neg c, if_pos rfl, zWl (pr + fe) (it / 1000000) (by omega) (by omega) (by omega) (by omega)]
   simp only [obind]
   by_cases d : pr + fe + it / 1000000 > 10000000000000
   ·rw [if_pos d, if_neg (by simp)]
   ·rw [if_neg d, if_pos rfl]
 ·rw [if_neg g, if_neg g]
theorem zZd (a : Int) : qQg.f a = some (decide (mon a)) := by
 unfold qQg.f
 by_cases c : a ≥ 0
 ·rw [if_pos c, qWf]; simp only [obind]; congr 1; rw [decide_eq_decide]; unfold mon; omega
 ·rw [if_neg c, decide_eq_false (by unfold mon; omega)]
theorem zZc (a : Int) : qQl.f a = some (decide (0 <= a /\ a <= 1000000000000000000)) := by
 unfold qQl.f
 by_cases c : a ≥ 0
 ·rw [if_pos c]; congr 1; rw [decide_eq_decide]; omega
 ·rw [if_neg c, decide_eq_false (by omega)]
theorem qK9 (id pr it su fe ppm : Int) (sd : Bool) (st cl en le fa ct : Int) :
  qZm.f id pr it su fe ppm sd st cl en le fa ct = some (decide (gd id pr it su fe ppm st cl en le fa ct)) := by
 have F : ¬ gd id pr it su fe ppm st cl en le fa ct -> some false = some (decide (gd id pr it su fe ppm st cl en le fa ct)) := fun h => by rw [decide_eq_false h]
 unfold qZm.f
 by_cases h1 : id < 1
 ·rw [if_pos h1]; exact F (fun h => by unfold gd at h; omega)
 rw [if_neg h1]
 by_cases h2 : id > 1000
 ·rw [if_pos h2]; exact F (fun h => by unfold gd at h; omega)
 rw [if_neg h2]
 simp only [zZd, zZc, obind, decide_eq_true_eq]
 by_cases a1 : mon pr
 case neg => rw [if_neg a1]; exact F (fun h => a1 h.2.1.1)
 rw [if_pos a1]
 by_cases a2 : mon fe
 case neg => rw [if_neg a2]; exact F (fun h => a2 h.2.1.2.1)
 rw [if_pos a2]
 by_cases a3 : 0 <= it /\ it <= 1000000000000000000
 case neg => rw [if_neg a3]; exact F (fun h => a3 h.2.2.1.1)
 rw [if_pos a3]
 by_cases a4 : 0 <= su /\ su <= 1000000000000000000
 case neg => rw [if_neg a4]; exact F (fun h => a4 h.2.2.1.2)
 rw [if_pos a4]
 by_cases h8 : ppm < 0
 ·rw [if_pos h8]; exact F (fun h => by unfold gd at h; omega)
 rw [if_neg h8]
 by_cases h9 : ppm > 1000000
 ·rw [if_pos h9]; exact F (fun h => by unfold gd at h; omega)
 rw [if_neg h9]
 by_cases h10 : st < 1
 ·rw [if_pos h10]; exact F (fun h => by unfold gd at h; omega)
 rw [if_neg h10]
 by_cases h11 : st > 5
 ·rw [if_pos h11]; exact F (fun h => by unfold gd at h; omega)
 rw [if_neg h11]
 by_cases h12 : cl < 0
 ·rw [if_pos h12]; exact F (fun h => by unfold gd at h; omega)
 rw [if_neg h12]
 by_cases h13 : cl > 4
 ·rw [if_pos h13]; exact F (fun h => by unfold gd at h; omega)
 rw [if_neg h13]
 by_cases h14 : en < -1
 ·rw [if_pos h14]; exact F (fun h => by unfold gd at h; omega)
 rw [if_neg h14]
 by_cases h15 : en > 87658
 ·rw [if_pos h15]; exact F (fun h => by unfold gd at h; omega)
 rw [if_neg h15]
 by_cases a5 : mon le
 case neg => rw [if_neg a5]; exact F (fun h => a5 h.2.1.2.2.1)
 rw [if_pos a5]
 by_cases a6 : mon fa
 case neg => rw [if_neg a6]; exact F (fun h => a6 h.2.1.2.2.2)
 rw [if_pos a6]
 by_cases h16 : ct < 0
 ·rw [if_pos h16]; exact F (fun h => by unfold gd at h; omega)
 rw [if_neg h16]
 have G : ∀ {b : Bool}, (b = true ↔ (cl = 0 \/ pr = 0 /\ it = 0 /\ fe = 0)) -> some b = some (decide (gd id pr it su fe ppm st cl en le fa ct)) := fun {b} h => by
  have e : (gd id pr it su fe ppm st cl en le fa ct) ↔ (cl = 0 \/ pr = 0 /\ it = 0 /\ fe = 0) :=
   ⟨fun h => h.2.2.2.2.2.2, fun h => ⟨by omega, ⟨a1, a2, a5, a6⟩, ⟨a3, a4⟩, ⟨by omega, by omega, by omega⟩, by omega, by omega, h⟩⟩
  cases b with
  | true => rw [decide_eq_true (e.mpr (h.mp rfl))]
  | false => rw [decide_eq_false (fun c => by have := h.mpr (e.mp c); cases this)]
 by_cases h17 : cl = 0
 ·rw [if_pos h17]; exact G ⟨fun _ => .inl h17, fun _ => rfl⟩
 rw [if_neg h17]
 by_cases h18 : pr = 0
 case neg => rw [if_neg h18]; exact G ⟨fun h => by simp at h, fun h => by omega⟩
 rw [if_pos h18]
 by_cases h19 : it = 0
 case neg => rw [if_neg h19]; exact G ⟨fun h => by simp at h, fun h => by omega⟩
 rw [if_pos h19]
 exact G ⟨fun h => .inr ⟨h18, h19, by simpa using h⟩, fun h => by simp; omega⟩
theorem qJ2 (a b : Int) (ha : 0 <= a) (ha' : a <= 10000000000000) (hb : 0 <= b) (hb' : b <= 10000000000000) : qZ6.f a b = some (if a + b > 10000000000000 then (0, 14) else (a + b, 0)) := by
 rw [qJa, qJ7 a b ha ha' hb hb']
theorem zQ9 (a : Int) (h : 0 <= a) (h' : a <= 1000000000000000000) : qYu.f a = some (a / 1000000) := by rw [zQ8 a (by omega), if_neg (by omega)]
theorem zYa (id pr it su fe ppm : Int) (sd : Bool) (st cl en le fa ct : Int) : qZx.f id pr it su fe ppm sd st cl en le fa ct = some (owesS id pr it su fe ppm st cl en le fa ct) := by
 unfold qZx.f owesS
 rw [qK9]
 simp only [obind, decide_eq_true_eq]
 by_cases g : gd id pr it su fe ppm st cl en le fa ct
 ·rw [if_pos g, if_pos g]
  have g' := g
  unfold gd mon at g'
  rw [qJ2 pr fe (by omega) (by omega) (by omega) (by omega)]
  simp only [obind]
  by_cases c : pr + fe > 10000000000000
  ·rw [if_pos c, if_pos c, if_neg (by simp)]
  ·rw [if_neg c, if_neg c, if_pos rfl, zQ9 it (by omega) (by omega)]
   simp only [obind]
   rw [qJ2 (pr + fe) (it / 1000000) (by omega) (by omega) (by omega) (by omega)]
   simp only [obind]
 ·rw [if_neg g, if_neg g]
end Go.Proofs.YtlhcohipnieidaaGreat.PureLo
namespace Go.Proofs.YtlhcohipnieidaaGreat.Plain
open Go Go.RowKit
theorem w64 {e : Int} (h : -9223372036854775808 <= e) (h' : e <= 9223372036854775807) : wrap64 e = e := by unfold wrap64; omega
theorem obind {α β : Type} (a : α) (f : α -> Option β) : (some a).bind f = f a := (Option.bind_some a f).trans (Eq.refl (f a))
theorem qWm {x n : Int} (h : 0 <= x) : Int.tdiv x n = x / n := Int.tdiv_eq_ediv_of_nonneg h
theorem qVo {x n : Int} (h : 0 <= x) : Int.tmod x n = x % n := Int.tmod_eq_emod_of_nonneg h
theorem qW7 (x n : Int) : Int.tmod x n = 0 ↔ x % n = 0 := by
 rw [<- Int.dvd_iff_tmod_eq_zero, <- Int.dvd_iff_emod_eq_zero]
def lg (y : Int) : Bool := decide (y % 4 = 0 /\ y % 100 ≠ 0 \/ y % 400 = 0)
def dd (y m : Int) : Int := if m < 1 then 0 else if m > 12 then 0 else if m = 2 then (if lg y = true then 29 else 28) else if m = 4 then 30 else if m = 6 then 30 else if m = 9 then 30 else if m = 11 then 30 else 31
def dm (m : Nat) : Int := dd (1960 + (m : Int) / 12) (1 + (m : Int) % 12)
def st : Nat -> Int
 | 0 => 0
 | m + 1 => st m + dm m
def yr (y : Int) : Int := (y - 1960) * 365 + ((y - 1) / 4 - (y - 1) / 100 + (y - 1) / 400) - 474
theorem dd_le (y m : Int) : dd y m <= 31 := by unfold dd; (repeat' split) <;> omega
theorem dd_nn (y m : Int) : 0 <= dd y m := by unfold dd; (repeat' split) <;> omega
theorem dd_ge (y m : Int) (h : 1 <= m) (h' : m <= 12) : 28 <= dd y m := by unfold dd; (repeat' split) <;> omega
theorem dm_le (m : Nat) : dm m <= 31 := dd_le _ _
theorem dm_ge (m : Nat) : 28 <= dm m := dd_ge _ _ (by omega) (by omega)
theorem zJ4 (y : Int) : yr (y + 1) = yr y + 365 + (if lg y = true then 1 else 0) := by
 unfold yr lg
 by_cases h : y % 4 = 0 /\ y % 100 ≠ 0 \/ y % 400 = 0
 ·rw [if_pos (by simpa using h)]; omega
 ·rw [if_neg (by simpa using h)]; omega
theorem dm_at (n j : Nat) (h : j < 12) : dm (12 * n + j) = dd (1960 + n) (1 + j) := by
 unfold dm
 have h1 : ((12 * n + j : Nat) : Int) / 12 = n := by omega
 have h2 : ((12 * n + j : Nat) : Int) % 12 = j := by omega
 rw [h1, h2]
theorem st_12 : ∀ n : Nat, st (12 * n) = yr (1960 + n)
 | 0 => by decide +kernel
 | n + 1 => by
  have e : 12 * (n + 1) = 12 * n + 1 + 1 + 1 + 1 + 1 + 1 + 1 + 1 + 1 + 1 + 1 + 1 := by omega
  rw [e]
  have f : ((n + 1 : Nat) : Int) = (n : Int) + 1 := by omega
  rw [show (1960 + ((n + 1 : Nat) : Int)) = (1960 + (n : Int)) + 1 by omega, zJ4, <- st_12 n]
  simp only [st]
  have a0 := dm_at n 0 (by omega); have a1 := dm_at n 1 (by omega); have a2 := dm_at n 2 (by omega); have a3 := dm_at n 3 (by omega)
  have a4 := dm_at n 4 (by omega); have a5 := dm_at n 5 (by omega); have a6 := dm_at n 6 (by omega); have a7 := dm_at n 7 (by omega)
  have a8 := dm_at n 8 (by omega); have a9 := dm_at n 9 (by omega); have a10 := dm_at n 10 (by omega); have a11 := dm_at n 11 (by omega)
  simp only [Nat.add_assoc, Nat.reduceAdd, Nat.add_zero] at *
  rw [a0, a1, a2, a3, a4, a5, a6, a7, a8, a9, a10, a11]
  simp only [dd]
  simp
  split <;> omega
theorem st_lt (m : Nat) : st m + 28 <= st (m + 1) := by have := dm_ge m; simp only [st]; omega
theorem st_add (m d : Nat) : st m + 28 * d <= st (m + d) := by
 induction d with
 | zero => simp
 | succ d ih => have := st_lt (m + d); rw [<- Nat.add_assoc]; omega
theorem qVn {a b : Nat} (h : a <= b) : st a <= st b := by
 have := st_add a (b - a); rw [show a + (b - a) = b by omega] at this; omega
theorem st_nn (m : Nat) : 0 <= st m := by have := qVn (Nat.zero_le m); simpa [st] using this
theorem zVe : st 2880 = 87659 := by
 rw [show 2880 = 12 * 240 by rfl, st_12]; decide +kernel
theorem st_up (m : Nat) (h : m <= 2880) : st m <= 87659 := by have := qVn h; rw [zVe] at this; exact this
theorem mo_ex (n : Int) (h0 : 0 <= n) (h1 : n <= 87658) : ∃ m : Nat, m < 2880 /\ st m <= n /\ n < st (m + 1) := by
 have key : ∀ k : Nat, n < st k -> ∃ m : Nat, m < k /\ st m <= n /\ n < st (m + 1) := by
  intro k
  induction k with
  | zero => intro h; simp [st] at h; omega
  | succ k ih =>
   intro h
   by_cases c : n < st k
   ·obtain ⟨m, hm, h'⟩ := ih c; exact ⟨m, by omega, h'⟩
   ·exact ⟨k, by omega, by omega, h⟩
 exact key 2880 (by rw [zVe]; omega)
theorem mod_lt (k n : Int) (hn : 0 < n) : 0 <= k % n /\ k % n < n := ⟨Int.emod_nonneg _ (by omega), Int.emod_lt_of_pos _ hn⟩
end Go.Proofs.YtlhcohipnieidaaGreat.Plain
namespace Go.Proofs.YtlhcohipnieidaaGreat.PureD
open Go.RowKit Go.Proofs.YtlhcohipnieidaaGreat.P W.PrintWords W.PrintLast W.PrintMore Go.Proofs.YtlhcohipnieidaaGreat.Plain
theorem zQr (y : Int) : qWj.f y = some (lg y) := by
 unfold qWj.f lg
 simp only [qW7]
 by_cases h : y % 4 = 0
 ·rw [if_pos h]
  by_cases h1 : y % 100 = 0
  ·rw [if_pos h1]
   by_cases h2 : y % 400 = 0
   ·simp [h, h1, h2, (qW7 y 400).2 h2]
   ·have : ¬ Int.tmod y 400 = 0 := fun e => h2 ((qW7 y 400).1 e)
    simp [h, h1, h2, this]
  ·rw [if_neg h1]; simp [h, h1]
 ·rw [if_neg h]
  have : ¬ y % 400 = 0 := by omega
  simp [h, this]
theorem zZ8 (y : Int) : qYz.f y = some (lg y) := by
 unfold qYz.f lg
 simp only [qW7]
 have gQ : (Int.tmod y 400 == 0) = decide (y % 400 = 0) := by
  by_cases h2 : y % 400 = 0
  ·simp [h2, (qW7 y 400).2 h2]
  ·have : ¬ Int.tmod y 400 = 0 := fun e => h2 ((qW7 y 400).1 e)
   simp [h2, this]
 rw [gQ]
 by_cases h : y % 4 = 0
 ·rw [if_pos h]
  by_cases h1 : y % 100 = 0
  ·rw [if_pos h1]; simp [h, h1]
  ·rw [if_neg h1]; simp [h, h1]
 ·rw [if_neg h]; simp [h]
theorem zWk {m : Int} (h : ¬ m < 1) (h' : ¬ m > 12) : m = 1 \/ m = 2 \/ m = 3 \/ m = 4 \/ m = 5 \/ m = 6 \/ m = 7 \/ m = 8 \/ m = 9 \/ m = 10 \/ m = 11 \/ m = 12 := by omega
theorem qWs (y m : Int) : qY1.f y m = some (dd y m) := by
 unfold qY1.f dd
 rw [zQr]
 simp only [obind]
 by_cases h1 : m < 1
 ·rw [if_pos h1, if_pos h1]
 by_cases h2 : m > 12
 ·rw [if_neg h1, if_neg h1, if_pos h2, if_pos h2]
 rcases zWk h1 h2 with rfl | rfl | rfl | rfl | rfl | rfl | rfl | rfl | rfl | rfl | rfl | rfl <;> cases lg y <;> rfl
theorem qVf (k : Nat) (y m : Int) (hk : 3 <= k) : qQm.f k y m = some (dd y m) := by
 obtain ⟨k, rfl⟩ : ∃ j, k = j + 2 := ⟨k - 2, by omega⟩
 unfold qQm.f
 simp only [qQm.j0, qQm.j1, zZ8, obind]
 unfold dd
 by_cases h1 : m < 1
 ·rw [if_pos h1]
  have e : ∀ j : Int, 1 <= j -> ¬ m = j := fun j hj => by omega
  simp [e]
 by_cases h2 : m > 12
 ·rw [if_neg h1, if_pos h2]
  have e : ∀ j : Int, j <= 12 -> ¬ m = j := fun j hj => by omega
  simp [e]
 rcases zWk h1 h2 with rfl | rfl | rfl | rfl | rfl | rfl | rfl | rfl | rfl | rfl | rfl | rfl <;> cases lg y <;> rfl
theorem qWw (y : Int) (h : 1960 <= y) (h' : y <= 2200) : qYo.f y = some (yr y) := by
 unfold qYo.f qYo.longs yr
 simp (disch := omega) only [w64, qWm]
 rfl
theorem zYt (n : Nat) : yr (1960 + n) = st (12 * n) := (st_12 n).symm
theorem qJ9 (n M : Nat) (d : Int) (hn : n < 240) (hM : M < 12) (h1 : 1 <= d) (h2 : d <= 31) : ∀ (i j k : Nat), j + i = M -> i < k ->
  qXe.l0 k (1960 + n) (1 + M) d (st (12 * n + j)) (1 + j) = some (st (12 * n + M) + d - 1, 0) := by
 intro i
 have hs : ∀ j : Nat, j <= 12 -> 0 <= st (12 * n + j) /\ st (12 * n + j) <= 87659 := fun j hj => ⟨st_nn _, st_up _ (by omega)⟩
 induction i with
 | zero =>
  intro j k hj hk
  obtain ⟨k, rfl⟩ : ∃ m, k = m + 1 := ⟨k - 1, by omega⟩
  obtain rfl : j = M := by omega
  have := hs j (by omega)
  simp only [qXe.l0]
  rw [if_neg (by omega)]
  simp (disch := omega) only [w64]
 | succ i ih =>
  intro j k hj hk
  obtain ⟨k, rfl⟩ : ∃ m, k = m + 1 := ⟨k - 1, by omega⟩
  have a := hs j (by omega); have b := hs (j + 1) (by omega)
  have e : st (12 * n + (j + 1)) = st (12 * n + j) + dd (1960 + n) (1 + j) := by rw [<- dm_at n j (by omega)]; rfl
  simp only [qXe.l0]
  rw [if_pos (by omega), qWs]
  simp only [obind]
  rw [<- e, w64 (by omega) (by omega), w64 (by omega) (by omega)]
  have := ih (j + 1) k (by omega) (by omega)
  rw [show (1 + (j : Int)) + 1 = 1 + ((j + 1 : Nat) : Int) by omega] 
  exact this
theorem zY4 (n M k : Nat) (d : Int) (hn : n < 240) (hM : M < 12) (h1 : 1 <= d) (h2 : d <= dd (1960 + n) (1 + M)) (hk : 20 <= k) :
  qXe.f k (1960 + n) (1 + M) d = some (st (12 * n + M) + d - 1, 0) := by
 have := dd_le (1960 + n) (1 + M)
 obtain ⟨k, rfl⟩ : ∃ m, k = m + 1 := ⟨k - 1, by omega⟩
 unfold qXe.f
 rw [if_neg (by omega), if_neg (by omega), if_neg (by omega), qWs]
 simp only [obind]
 rw [decide_eq_false (by omega)]
 simp only [qXe.j0]
 rw [if_neg (by simp), qWw _ (by omega) (by omega)]
 simp only [obind]
 rw [zYt]
 have := qJ9 n M d hn hM h1 (by omega) M 0 k (by omega) (by omega)
 simpa using this
theorem zQ7 (m : Nat) (hm : m <= 2880) : ∀ (i j k : Nat), j + i = m -> i + 3 < k -> qZg.l0 k m (st j) j = some (st m) := by
 intro i
 induction i with
 | zero =>
  intro j k hj hk
  obtain ⟨k, rfl⟩ : ∃ m, k = m + 1 := ⟨k - 1, by omega⟩
  obtain rfl : j = m := by omega
  simp only [qZg.l0]
  rw [if_neg (by omega)]
 | succ i ih =>
  intro j k hj hk
  obtain ⟨k, rfl⟩ : ∃ m, k = m + 1 := ⟨k - 1, by omega⟩
  simp only [qZg.l0]
  have a := st_nn j; have b := st_up (j + 1) (by omega); have c := st_lt j
  rw [if_pos (by omega), qWm (by omega), qVo (by omega), w64 (e := (j : Int) / 12) (by omega) (by omega), w64 (e := 1960 + _) (by omega) (by omega), w64 (e := 1 + _) (by omega) (by omega), qVf _ _ _ (by omega)]
  simp only [obind]
  have e : st j + dd (1960 + (j : Int) / 12) (1 + (j : Int) % 12) = st (j + 1) := rfl
  rw [e, w64 (by omega) (by omega), w64 (by omega) (by omega)]
  exact ih (j + 1) k (by omega) (by omega)
theorem zQ6 (m k : Nat) (hm : m <= 2880) (hk : 2890 <= k) : qZg.f k m = some (st m) := by
 unfold qZg.f
 exact zQ7 m hm m 0 k (by omega) (by omega)
theorem st_366 (a : Nat) (ha : a <= 240) : st (12 * a) <= 366 * a := by
 rw [st_12]; unfold yr; omega
theorem qXz (n : Int) : qZz.f n = some (decide (0 <= n /\ n <= 87658)) := by
 unfold qZz.f
 by_cases h : n ≥ 0
 ·rw [if_pos h]; simp [h]
 ·rw [if_neg h]; simp; omega
theorem qWd (n : Int) : qZl.f n = some (decide (0 <= n /\ n <= 87658)) := by
 unfold qZl.f
 by_cases h : n ≥ 0
 ·rw [if_pos h]; simp [h]
 ·rw [if_neg h]; simp; omega
def civ (m : Nat) (n : Int) : Int × Int × Int × Int := (1960 + (m : Int) / 12, 1 + (m : Int) % 12, n - st m + 1, 0)
theorem qKn (a M : Nat) (n : Int) (ha : a < 240) (hM : M < 12) (h1 : st (12 * a + M) <= n) (h2 : n < st (12 * a + M + 1)) : ∀ (i j k : Nat), j + i = M -> i < k ->
  qZn.l1 k (n - st (12 * a + j)) (1960 + a) (1 + j) = some (1960 + (a : Int), 1 + (M : Int), n - st (12 * a + M) + 1, 0) := by
 intro i
 have hu : n < 87659 := by have := st_up (12 * a + M + 1) (by omega); omega
 induction i with
 | zero =>
  intro j k hj hk
  obtain ⟨k, rfl⟩ : ∃ m, k = m + 1 := ⟨k - 1, by omega⟩
  obtain rfl : j = M := by omega
  have e : st (12 * a + j + 1) = st (12 * a + j) + dd (1960 + a) (1 + j) := by rw [<- dm_at a j (by omega)]; rfl
  have := st_nn (12 * a + j)
  simp only [qZn.l1, qWs, obind]
  rw [if_neg (by omega)]
  simp (disch := omega) only [w64]
 | succ i ih =>
  intro j k hj hk
  obtain ⟨k, rfl⟩ : ∃ m, k = m + 1 := ⟨k - 1, by omega⟩
  have e : st (12 * a + j + 1) = st (12 * a + j) + dd (1960 + a) (1 + j) := by rw [<- dm_at a j (by omega)]; rfl
  have := st_nn (12 * a + j)
  have := qVn (show 12 * a + j + 1 <= 12 * a + M by omega)
  have := dd_nn (1960 + a) (1 + j)
  simp only [qZn.l1, qWs, obind]
  rw [if_pos (by omega), w64 (by omega) (by omega), w64 (by omega) (by omega)]
  have := ih (j + 1) k (by omega) (by omega)
  rw [show n - st (12 * a + j) - dd (1960 + ↑a) (1 + ↑j) = n - st (12 * a + (j + 1)) by rw [<- Nat.add_assoc]; omega, show (1 + (j : Int)) + 1 = 1 + ((j + 1 : Nat) : Int) by omega] 
  exact this
theorem qKm (m : Nat) (n : Int) (hm : m < 2880) (h1 : st m <= n) (h2 : n < st (m + 1)) : ∀ (i a k : Nat), a + i = m / 12 -> i + 20 < k ->
  qZn.l0 k n (1960 + a) = some (civ m n) := by
 have hu : n < 87659 := by have := st_up (m + 1) (by omega); omega
 have hl : 0 <= n := by have := st_nn m; omega
 intro i
 induction i with
 | zero =>
  intro a k ha hk
  obtain ⟨k, rfl⟩ : ∃ m, k = m + 2 := ⟨k - 2, by omega⟩
  obtain rfl : a = m / 12 := by omega
  have hj : qZn.j1 (k + 1) n (1960 + ((m / 12 : Nat) : Int)) = some (civ m n) := by
   simp only [qZn.j1]
   rw [qWw _ (by omega) (by omega)]
   simp only [obind]
   rw [zYt]
   have a := st_nn (12 * (m / 12)); have b := qVn (show 12 * (m / 12) <= m by omega)
   rw [w64 (by omega) (by omega)]
   have e : 12 * (m / 12) + m % 12 = m := by omega
   have := qKn (m / 12) (m % 12) n (by omega) (by omega) (by rw [e]; exact h1) (by rw [e]; exact h2) (m % 12) 0 k (by omega) (by omega)
   rw [e] at this
   unfold civ
   simpa using this
  simp only [qZn.l0]
  by_cases c : 1960 + ((m / 12 : Nat) : Int) < 2199
  ·rw [if_pos c, w64 (by omega) (by omega), qWw _ (by omega) (by omega)]
   simp only [obind]
   rw [show 1960 + ((m / 12 : Nat) : Int) + 1 = 1960 + ((m / 12 + 1 : Nat) : Int) by omega, zYt]
   have := qVn (show m + 1 <= 12 * (m / 12 + 1) by omega)
   rw [if_neg (by omega)]
   exact hj
  ·rw [if_neg c]; exact hj
 | succ i ih =>
  intro a k ha hk
  obtain ⟨k, rfl⟩ : ∃ m, k = m + 1 := ⟨k - 1, by omega⟩
  simp only [qZn.l0]
  rw [if_pos (by omega), w64 (by omega) (by omega), qWw _ (by omega) (by omega)]
  simp only [obind]
  rw [show 1960 + (a : Int) + 1 = 1960 + ((a + 1 : Nat) : Int) by omega, zYt]
  have := qVn (show 12 * (a + 1) <= m by omega)
  rw [if_pos (by omega)]
  exact ih (a + 1) k (by omega) (by omega)
theorem qVc (m k : Nat) (n : Int) (hm : m < 2880) (h1 : st m <= n) (h2 : n < st (m + 1)) (hk : 300 <= k) : qZn.f k n = some (civ m n) := by
 have hu : n < 87659 := by have := st_up (m + 1) (by omega); omega
 have hl : 0 <= n := by have := st_nn m; omega
 unfold qZn.f
 rw [qXz, decide_eq_true (by omega)]
 simp only [obind, if_true]
 rw [qWm (by omega), w64 (e := n / 366) (by omega) (by omega), w64 (by omega) (by omega)]
 obtain ⟨a, ha⟩ : ∃ a : Nat, n / 366 = a := ⟨(n / 366).toNat, by omega⟩
 rw [ha]
 have h3 := st_366 a (by omega)
 have h4 : a <= m / 12 := by
  apply Nat.le_of_not_lt; intro h
  have := qVn (show m + 1 <= 12 * a by omega)
  omega
 exact qKm m n hm h1 h2 (m / 12 - a) a k (by omega) (by omega)
theorem qJ8 (n : Int) (k : Nat) (h : n < 0 \/ 87658 < n) : qZn.f k n = some (0, 0, 0, 15) := by
 unfold qZn.f
 rw [qXz, decide_eq_false (by omega)]
 rfl
theorem qK8 (m : Nat) (n : Int) (hm : m < 2880) (h1 : st m <= n) (h2 : n < st (m + 1)) : ∀ (i j k : Nat), j + i = m -> i + 5 < k ->
  qQy.l0 k (n - st j) j = some (civ m n) := by
 have hu : n < 87659 := by have := st_up (m + 1) (by omega); omega
 have hl : 0 <= n := by have := st_nn m; omega
 intro i
 induction i with
 | zero =>
  intro j k hj hk
  obtain ⟨k, rfl⟩ : ∃ m, k = m + 1 := ⟨k - 1, by omega⟩
  obtain rfl : j = m := by omega
  have e : st (j + 1) = st j + dd (1960 + (j : Int) / 12) (1 + (j : Int) % 12) := rfl
  have := st_nn j
  simp only [qQy.l0]
  rw [qWm (by omega), qVo (by omega), w64 (e := (j : Int) / 12) (by omega) (by omega), w64 (e := 1960 + _) (by omega) (by omega), w64 (e := 1 + _) (by omega) (by omega), qVf _ _ _ (by omega)]
  simp only [obind]
  rw [if_neg (by omega), w64 (by omega) (by omega)]
  rfl
 | succ i ih =>
  intro j k hj hk
  obtain ⟨k, rfl⟩ : ∃ m, k = m + 1 := ⟨k - 1, by omega⟩
  have e : st (j + 1) = st j + dd (1960 + (j : Int) / 12) (1 + (j : Int) % 12) := rfl
  have := st_nn j
  have := qVn (show j + 1 <= m by omega)
  simp only [qQy.l0]
  rw [qWm (by omega), qVo (by omega), w64 (e := (j : Int) / 12) (by omega) (by omega), w64 (e := 1960 + _) (by omega) (by omega), w64 (e := 1 + _) (by omega) (by omega), qVf _ _ _ (by omega)]
  simp only [obind]
  have hd := dd_nn (1960 + (j : Int) / 12) (1 + (j : Int) % 12)
  rw [if_pos (by omega), w64 (by omega) (by omega), w64 (by omega) (by omega), show n - st j - dd (1960 + (j : Int) / 12) (1 + (j : Int) % 12) = n - st (j + 1) by omega]
  exact ih (j + 1) k (by omega) (by omega)
theorem qW1 (m k : Nat) (n : Int) (hm : m < 2880) (h1 : st m <= n) (h2 : n < st (m + 1)) (hk : 2890 <= k) : qQy.f k n = some (civ m n) := by
 have hu : n < 87659 := by have := st_up (m + 1) (by omega); omega
 have hl : 0 <= n := by have := st_nn m; omega
 unfold qQy.f
 rw [qWd, decide_eq_true (by omega)]
 simp only [obind, if_true]
 have := qK8 m n hm h1 h2 m 0 k (by omega) (by omega)
 simpa [st] using this
theorem zQ4 (n : Int) (k : Nat) (h : n < 0 \/ 87658 < n) : qQy.f k n = some (0, 0, 0, 15) := by
 unfold qQy.f
 rw [qWd, decide_eq_false (by omega)]
 rfl
theorem mo_or (n : Int) : (n < 0 \/ 87658 < n) \/ ∃ m : Nat, m < 2880 /\ st m <= n /\ n < st (m + 1) := by
 by_cases h : n < 0 \/ 87658 < n
 ·exact .inl h
 ·exact .inr (mo_ex n (by omega) (by omega))
theorem mo_bd {m : Nat} {n : Int} (hm : m < 2880) (h1 : st m <= n) (h2 : n < st (m + 1)) : 0 <= n /\ n <= 87658 := by
 have := st_up (m + 1) (by omega); have := st_nn m; omega
theorem qVw (m k : Nat) (n : Int) (hm : m < 2880) (h1 : st m <= n) (h2 : n < st (m + 1)) (hk : 300 <= k) : qXk.f k n = some ((m : Int), 0) := by
 unfold qXk.f
 rw [qVc m k n hm h1 h2 hk]
 simp only [obind, civ, if_true]
 simp (disch := omega) only [w64]
 congr 2; omega
def inMonth (m : Nat) (d : Int) : Int := st m + (if d <= dm m then d else dm m) - 1
theorem mn_is (a b : Int) : mn a b = if a <= b then a else b := by unfold mn; split <;> split <;> omega
theorem qVb (m a k : Nat) (n x : Int) (hm : m < 2880) (h1 : st m <= n) (h2 : n < st (m + 1)) (ha : a < 2880) (hx : (m : Int) + x = a) (hk : 310 <= k) :
  qZ2.f k n x = some (inMonth a (n - st m + 1), 0) := by
 obtain ⟨k, rfl⟩ : ∃ j, k = j + 2 := ⟨k - 2, by omega⟩
 have := mo_bd hm h1 h2
 unfold qZ2.f
 rw [qVc m _ n hm h1 h2 (by omega)]
 simp only [obind, civ, if_true]
 rw [if_neg (by omega), decide_eq_false (by omega)]
 simp only [qZ2.j0]
 rw [if_neg (by simp)]
 simp (disch := omega) only [w64]
 rw [show (1960 + (m : Int) / 12 - 1960) * 12 + (1 + (m : Int) % 12) - 1 + x = a by omega, if_neg (by omega), decide_eq_false (by omega)]
 simp only [qZ2.j1]
 rw [if_neg (by simp), qWm (by omega), qVo (by omega)]
 simp (disch := omega) only [w64, qWs, obind]
 have e : 12 * (a / 12) + a % 12 = a := by omega
 have ed : dd (1960 + (a : Int) / 12) ((a : Int) % 12 + 1) = dm a := by unfold dm; rw [Int.add_comm 1]
 rw [ed, mn_is]
 have g := dm_ge a
 have g2 : 1 <= (if n - st m + 1 <= dm a then n - st m + 1 else dm a) := by split <;> omega
 have g3 : (if n - st m + 1 <= dm a then n - st m + 1 else dm a) <= dm a := by split <;> omega
 have := zY4 (a / 12) (a % 12) k (if n - st m + 1 <= dm a then n - st m + 1 else dm a) (by omega) (by omega) g2 (by
  rw [show (1960 + ((a / 12 : Nat) : Int)) = 1960 + (a : Int) / 12 by omega, show (1 + ((a % 12 : Nat) : Int)) = 1 + (a : Int) % 12 by omega]; exact g3) (by omega)
 rw [e, show (1960 + ((a / 12 : Nat) : Int)) = 1960 + (a : Int) / 12 by omega, show (1 + ((a % 12 : Nat) : Int)) = (a : Int) % 12 + 1 by omega] at this
 rw [this]
 rfl
theorem qKw (m k : Nat) (n x : Int) (hm : m < 2880) (h1 : st m <= n) (h2 : n < st (m + 1)) (hx : (m : Int) + x < 0 \/ 2880 <= (m : Int) + x) (hk : 310 <= k) :
  qZ2.f k n x = some (0, 15) := by
 obtain ⟨k, rfl⟩ : ∃ j, k = j + 2 := ⟨k - 2, by omega⟩
 unfold qZ2.f
 rw [qVc m _ n hm h1 h2 (by omega)]
 simp only [obind, civ, if_true, qZ2.j0]
 by_cases c : x < -2880
 ·rw [if_pos c]
 rw [if_neg c]
 by_cases c' : x > 2880
 ·rw [decide_eq_true c', if_pos rfl]
 rw [decide_eq_false c', if_neg (by simp)]
 simp (disch := omega) only [w64]
 rw [show (1960 + (m : Int) / 12 - 1960) * 12 + (1 + (m : Int) % 12) - 1 + x = m + x by omega]
 by_cases c2 : (m : Int) + x < 0
 ·rw [if_pos c2]; simp only [qZ2.j1, if_true]
 ·rw [if_neg c2, decide_eq_true (by omega)]; simp only [qZ2.j1, if_true]
theorem qKb (n x : Int) (k : Nat) (h : n < 0 \/ 87658 < n) (hk : 310 <= k) : qZ2.f k n x = some (0, 15) := by
 obtain ⟨k, rfl⟩ : ∃ j, k = j + 2 := ⟨k - 2, by omega⟩
 unfold qZ2.f
 rw [qJ8 n _ h]
 rfl
theorem qJz (m a k : Nat) (n x : Int) (hm : m < 2880) (h1 : st m <= n) (h2 : n < st (m + 1)) (ha : a < 2880) (hx : (m : Int) + x = a) (hk : 2900 <= k) :
  qQs.f k n x = some (inMonth a (n - st m + 1), 0) := by
 obtain ⟨k, rfl⟩ : ∃ j, k = j + 2 := ⟨k - 2, by omega⟩
 have := mo_bd hm h1 h2
 unfold qQs.f
 rw [qW1 m _ n hm h1 h2 (by omega)]
 simp only [obind, civ, if_true]
 rw [if_neg (by omega), decide_eq_false (by omega)]
 simp only [qQs.j0]
 rw [if_neg (by simp)]
 simp (disch := omega) only [w64]
 rw [show 12 * (1960 + (m : Int) / 12 - 1960) + (1 + (m : Int) % 12) - 1 + x = a by omega, if_neg (by omega), decide_eq_false (by omega)]
 simp only [qQs.j1]
 rw [if_neg (by simp), zQ6 a k (by omega) (by omega), qWm (by omega), qVo (by omega)]
 simp only [obind]
 rw [w64 (e := (a : Int) / 12) (by omega) (by omega), w64 (e := 1960 + _) (by omega) (by omega), w64 (e := 1 + _) (by omega) (by omega), qVf _ _ _ (by omega)]
 have ed : dd (1960 + (a : Int) / 12) (1 + (a : Int) % 12) = dm a := by unfold dm; rfl
 have g := dm_ge a; have g' := dm_le a; have := st_nn a; have := st_up a (by omega)
 have hz : 1 <= mn (n - st m + 1) (dm a) /\ mn (n - st m + 1) (dm a) <= 31 := by unfold mn; split <;> omega
 have hi : inMonth a (n - st m + 1) = st a + mn (n - st m + 1) (dm a) - 1 := by unfold inMonth; rw [mn_is]
 rw [ed, hi]
 simp only [obind]
 rw [w64 (e := st a + _) (by omega) (by omega), w64 (by omega) (by omega)]
theorem zXi (m k : Nat) (n x : Int) (hm : m < 2880) (h1 : st m <= n) (h2 : n < st (m + 1)) (hx : (m : Int) + x < 0 \/ 2880 <= (m : Int) + x) (hk : 2900 <= k) :
  qQs.f k n x = some (0, 15) := by
 obtain ⟨k, rfl⟩ : ∃ j, k = j + 2 := ⟨k - 2, by omega⟩
 unfold qQs.f
 rw [qW1 m _ n hm h1 h2 (by omega)]
 simp only [obind, civ, if_true, qQs.j0]
 by_cases c : x > 2879
 ·rw [if_pos c]
 rw [if_neg c]
 by_cases c' : x < -2879
 ·rw [decide_eq_true c', if_pos rfl]
 rw [decide_eq_false c', if_neg (by simp)]
 simp (disch := omega) only [w64]
 rw [show 12 * (1960 + (m : Int) / 12 - 1960) + (1 + (m : Int) % 12) - 1 + x = m + x by omega]
 by_cases c2 : (m : Int) + x < 0
 ·rw [if_pos c2]; simp only [qQs.j1, if_true]
 ·rw [if_neg c2, decide_eq_true (by omega)]; simp only [qQs.j1, if_true]
theorem zZ4 (n x : Int) (k : Nat) (h : n < 0 \/ 87658 < n) (hk : 2900 <= k) : qQs.f k n x = some (0, 15) := by
 obtain ⟨k, rfl⟩ : ∃ j, k = j + 2 := ⟨k - 2, by omega⟩
 unfold qQs.f
 rw [zQ4 n _ h]
 rfl
theorem zVq (n x : Int) : ∃ r, ∀ k, 2900 <= k -> qZ2.f k n x = some r /\ qQs.f k n x = some r := by
 rcases mo_or n with h | ⟨m, hm, h1, h2⟩
 ·exact ⟨_, fun k hk => ⟨qKb n x k h (by omega), zZ4 n x k h hk⟩⟩
 ·by_cases c : (m : Int) + x < 0 \/ 2880 <= (m : Int) + x
  ·exact ⟨_, fun k hk => ⟨qKw m k n x hm h1 h2 c (by omega), zXi m k n x hm h1 h2 c hk⟩⟩
  ·obtain ⟨a, ha⟩ : ∃ a : Nat, (m : Int) + x = a := ⟨((m : Int) + x).toNat, by omega⟩
   exact ⟨_, fun k hk => ⟨qVb m a k n x hm h1 h2 (by omega) ha (by omega), qJz m a k n x hm h1 h2 (by omega) ha hk⟩⟩
theorem zQw (l : List Int) (hl : l.length <= 4611686018427387904) : ∀ (d k : Nat) (i : Int), 0 <= i -> i + d = l.length -> d < k -> qZf.l0 k l l i = some true := by
 intro d
 induction d with
 | zero =>
  intro k i h0 h1 hk
  obtain ⟨k, rfl⟩ : ∃ m, k = m + 1 := ⟨k - 1, by omega⟩
  simp only [qZf.l0]; rw [if_neg (by omega)]
 | succ d ih =>
  intro k i h0 h1 hk
  obtain ⟨k, rfl⟩ : ∃ m, k = m + 1 := ⟨k - 1, by omega⟩
  simp only [qZf.l0]
  rw [if_pos (by omega), if_pos h0, if_pos (by omega), if_pos trivial, w64 (by omega) (by omega)]
  exact ih k (i + 1) (by omega) (by omega) (by omega)
theorem qW3 (l : List Int) (k : Nat) (hl : l.length <= 4611686018427387904) (hk : l.length < k) : qZf.f k l l = some true := by
 unfold qZf.f
 rw [if_pos rfl]
 exact zQw l hl l.length k 0 (by omega) (by omega) hk
def run (a n : Nat) : List Int := (List.range n).map fun i => ((a + i : Nat) : Int)
structure After (from_ : Int) (at_ : Nat) : Prop where
 is : ∀ m : Nat, m <= 2880 -> (from_ < st m ↔ at_ <= m)
 le : at_ <= 2880
theorem mx_is (a b : Int) : mx a b = if a <= b then b else a := by unfold mx; split <;> split <;> omega
def wholeS (m n : Nat) (a b : Int) : Int := if inMonth n (a - st m + 1) <= b then (n : Int) - m else (n : Int) - m - 1
theorem qKd (m n k : Nat) (a b : Int) (hm : m < 2880) (h1 : st m <= a) (h2 : a < st (m + 1)) (hn : n < 2880) (g1 : st n <= b) (g2 : b < st (n + 1)) (hab : a <= b) (hk : 400 <= k) :
  qYr.f k a b = some (wholeS m n a b) := by
 obtain ⟨k, rfl⟩ : ∃ j, k = j + 1 := ⟨k - 1, by omega⟩
 have ha := mo_bd hm h1 h2; have hb := mo_bd hn g1 g2
 unfold qYr.f wholeS
 rw [qXz, qXz, decide_eq_true (by omega), decide_eq_true (by omega)]
 simp only [obind, if_true]
 rw [decide_eq_false (by omega)]
 simp only [qYr.j0]
 rw [if_neg (by simp), qVw m k a hm h1 h2 (by omega), qVw n k b hn g1 g2 (by omega)]
 simp only [obind]
 rw [w64 (e := (n : Int) - m) (by omega) (by omega), qVb m n k a _ hm h1 h2 hn (by omega) (by omega)]
 simp only [obind, if_true]
 rw [w64 (by omega) (by omega)]
 split <;> rfl
theorem qKc (a b : Int) (k : Nat) (h : a < 0 \/ 87658 < a \/ b < 0 \/ 87658 < b \/ b < a) (hk : 10 <= k) : qYr.f k a b = some 0 := by
 obtain ⟨k, rfl⟩ : ∃ j, k = j + 1 := ⟨k - 1, by omega⟩
 unfold qYr.f
 simp only [qXz, obind, qYr.j0]
 by_cases c1 : 0 <= a /\ a <= 87658
 ·by_cases c2 : 0 <= b /\ b <= 87658
  ·rw [decide_eq_true c1, decide_eq_true c2, if_pos rfl, if_pos rfl, decide_eq_true (by omega), if_pos rfl]
  ·rw [decide_eq_true c1, decide_eq_false c2, if_pos rfl, if_neg (by simp), if_pos trivial]
 ·rw [decide_eq_false c1, if_neg (by simp), if_pos trivial]
theorem zZb (m n k : Nat) (a b : Int) (hm : m < 2880) (h1 : st m <= a) (h2 : a < st (m + 1)) (hn : n < 2880) (g1 : st n <= b) (g2 : b < st (n + 1)) (hab : a <= b) (hk : 3000 <= k) :
  qZd.f k a b = some (wholeS m n a b) := by
 obtain ⟨k, rfl⟩ : ∃ j, k = j + 1 := ⟨k - 1, by omega⟩
 have ha := mo_bd hm h1 h2; have hb := mo_bd hn g1 g2
 unfold qZd.f wholeS
 rw [qWd, qWd, decide_eq_true (by omega), decide_eq_true (by omega)]
 simp only [obind, if_true]
 rw [decide_eq_false (by omega)]
 simp only [qZd.j0]
 rw [if_neg (by simp), qW1 m k a hm h1 h2 (by omega), qW1 n k b hn g1 g2 (by omega)]
 simp only [obind, civ]
 rw [w64 (e := 1960 + (n : Int) / 12 - (1960 + (m : Int) / 12)) (by omega) (by omega), w64 (e := 12 * _) (by omega) (by omega), w64 (e := 12 * _ + _) (by omega) (by omega), w64 (e := 12 * (1960 + (n : Int) / 12 - (1960 + (m : Int) / 12)) + (1 + (n : Int) % 12) - (1 + (m : Int) % 12)) (by omega) (by omega)]
 have e : 12 * (1960 + (n : Int) / 12 - (1960 + (m : Int) / 12)) + (1 + (n : Int) % 12) - (1 + (m : Int) % 12) = n - m := by omega
 rw [e, qJz m n k a _ hm h1 h2 hn (by omega) (by omega)]
 simp only [obind]
 rw [w64 (by omega) (by omega)]
 by_cases c : inMonth n (a - st m + 1) <= b
 ·rw [if_pos c, if_neg (by omega)]
 ·rw [if_neg c, if_pos (by omega)]
theorem zZa (a b : Int) (k : Nat) (h : a < 0 \/ 87658 < a \/ b < 0 \/ 87658 < b \/ b < a) (hk : 10 <= k) : qZd.f k a b = some 0 := by
 obtain ⟨k, rfl⟩ : ∃ j, k = j + 1 := ⟨k - 1, by omega⟩
 unfold qZd.f
 simp only [qWd, obind, qZd.j0]
 by_cases c1 : 0 <= a /\ a <= 87658
 ·by_cases c2 : 0 <= b /\ b <= 87658
  ·rw [decide_eq_true c1, decide_eq_true c2, if_pos rfl, if_pos rfl, decide_eq_true (by omega), if_pos rfl]
  ·rw [decide_eq_true c1, decide_eq_false c2, if_pos rfl, if_neg (by simp), if_pos trivial]
 ·rw [decide_eq_false c1, if_neg (by simp), if_pos trivial]
theorem zXq (a b : Int) : ∃ r, ∀ k, 3000 <= k -> qYr.f k a b = some r /\ qZd.f k a b = some r := by
 by_cases h : a < 0 \/ 87658 < a \/ b < 0 \/ 87658 < b \/ b < a
 ·exact ⟨0, fun k hk => ⟨qKc a b k h (by omega), zZa a b k h (by omega)⟩⟩
 ·obtain ⟨m, hm, h1, h2⟩ := mo_ex a (by omega) (by omega)
  obtain ⟨n, hn, g1, g2⟩ := mo_ex b (by omega) (by omega)
  exact ⟨_, fun k hk => ⟨qKd m n k a b hm h1 h2 hn g1 g2 (by omega) (by omega), zZb m n k a b hm h1 h2 hn g1 g2 (by omega) hk⟩⟩
end Go.Proofs.YtlhcohipnieidaaGreat.PureD
namespace Go.Proofs.YtlhcohipnieidaaGreat.Pure
set_option linter.unusedVariables false
open Go.RowKit Go.Proofs.YtlhcohipnieidaaGreat.P W.PrintWords W.PrintLast W.PrintMore Go.Proofs.YtlhcohipnieidaaGreat.PlainM
theorem qJq {u d y1 y0 q rh : Int} (h1 : 2147483648 <= y1) (h0 : 0 <= y0) (h0' : y0 < 4294967296) (hd : 0 <= d)
  (hq : (u * 4294967296 + d) / (y1 * 4294967296 + y0) <= q) (hqu : q <= 4294967297) (hr : rh = u - q * y1)
  (hgt : (u * 4294967296 + d) / (y1 * 4294967296 + y0) < q) :
  (u * 4294967296 + d) / (y1 * 4294967296 + y0) <= q - 1 /\ rh + y1 = u - (q - 1) * y1 /\ (4294967296 <= rh + y1 -> (u * 4294967296 + d) / (y1 * 4294967296 + y0) = q - 1) := by
 have e1 : (q - 1) * y1 = q * y1 - y1 := by rw [Int.sub_mul]; omega
 refine ⟨by omega, by omega, fun hb => ?_⟩
 have : q - 1 <= (u * 4294967296 + d) / (y1 * 4294967296 + y0) := by
  apply (zQf (by omega)).2
  have e2 : (q - 1) * (y1 * 4294967296 + y0) = (q - 1) * y1 * 4294967296 + (q - 1) * y0 := by rw [Int.mul_add, Int.mul_assoc]
  have e3 : (q - 1) * y0 <= 4294967296 * y0 := Int.mul_le_mul_of_nonneg_right (by omega) h0
  rw [e2]; omega
 omega
theorem qJr {u d y1 y0 q rh : Int} (h1 : 2147483648 <= y1) (h0 : 0 <= y0) (hr : rh = u - q * y1) :
  (4294967296 * rh + d < q * y0) ↔ (u * 4294967296 + d) / (y1 * 4294967296 + y0) < q := by
 have e2 : q * (y1 * 4294967296 + y0) = q * y1 * 4294967296 + q * y0 := by rw [Int.mul_add, Int.mul_assoc]
 have := zQf (N := u * 4294967296 + d) (y := y1 * 4294967296 + y0) (q := q) (by omega)
 rw [e2] at this
 constructor
 ·intro h; apply Int.lt_of_not_ge; intro c; have := this.1 c; omega
 ·intro h; apply Int.lt_of_not_ge; intro c; have := this.2 (by omega); omega
theorem qV0 {u d y : Int} (hy : 0 < y) (hd : d < 4294967296) (hu : u < y) : (u * 4294967296 + d) / y < 4294967296 := by
 apply (Int.ediv_lt_iff_lt_mul hy).2; omega
theorem zYp {u d y : Int} (hy : 0 < y) (hd : 0 <= d) (hu : 0 <= u) : 0 <= (u * 4294967296 + d) / y := Int.ediv_nonneg (by omega) (by omega)
theorem zVm (y s y1 y0 u d e : Int) (hy : y = y1 * 4294967296 + y0) (h1 : 2147483648 <= y1) (h1' : y1 < 4294967296) (h0 : 0 <= y0) (h0' : y0 < 4294967296) (hu : 0 <= u) (huy : u < y) (hd : 0 <= d) (hd' : d < 4294967296) :
  ∀ (n k : Nat) (q rh : Int), (u * 4294967296 + d) / y <= q -> q <= 4294967297 -> rh = u - q * y1 -> 0 <= rh -> rh < 4294967296 -> 4294967296 <= rh + n * 2147483648 -> 2 * n + 2 < k ->
  ∃ k', k <= k' + 2 * n + 2 /\ qQ2.l0 k y s y1 y0 u d e q rh = qQ2.j2 k' y s y1 y0 u d e ((u * 4294967296 + d) / y) := by
 subst hy
 intro n
 induction n with
 | zero => intro k q rh _ _ _ _ h2 h3; exfalso; simp at h3; omega
 | succ n ih =>
  intro k q rh hq hqu hr hr0 hrb hm hk
  have hqs := qV0 (d := d) (show 0 < y1 * 4294967296 + y0 by omega) hd' huy
  have hqn := zYp (show 0 < y1 * 4294967296 + y0 by omega) hd hu
  obtain ⟨k, rfl⟩ : ∃ m, k = m + 2 := ⟨k - 2, by omega⟩
  have step : ∀ (hgt : (u * 4294967296 + d) / (y1 * 4294967296 + y0) < q), ∃ k', k + 2 <= k' + 2 * (n + 1) + 2 /\ qQ2.j1 (k + 1) (y1 * 4294967296 + y0) s y1 y0 u d e q rh true = qQ2.j2 k' (y1 * 4294967296 + y0) s y1 y0 u d e ((u * 4294967296 + d) / (y1 * 4294967296 + y0)) := by
   intro hgt
   obtain ⟨g1, g2, g3⟩ := qJq h1 h0 h0' hd hq hqu hr hgt
   simp only [qQ2.j1, if_true]
   rw [wu_id (n := rh + y1) (by omega) (by omega), wu_id (n := q - 1) (by omega) (by omega)]
   by_cases c : rh + y1 ≥ 4294967296
   ·rw [if_pos c, <- g3 c]; exact ⟨k, by omega, rfl⟩
   ·rw [if_neg c]
    obtain ⟨k', hk', he⟩ := ih k (q - 1) (rh + y1) g1 (by omega) g2 (by omega) (by omega) (by omega) (by omega)
    exact ⟨k', by omega, he⟩
  simp only [qQ2.l0]
  by_cases c : q ≥ 4294967296
  ·rw [if_pos c]; exact step (by omega)
  ·rw [if_neg c]
   have p1 : 0 <= q * y0 := Int.mul_nonneg (by omega) h0
   have p2 : q * y0 <= 4294967295 * 4294967295 := Int.mul_le_mul (by omega) (by omega) h0 (by omega)
   rw [wu_id (n := q * y0) p1 (by omega), wu_id (n := 4294967296 * rh) (by omega) (by omega), wu_id (n := 4294967296 * rh + d) (by omega) (by omega)]
   have t := qJr (d := d) h1 h0 hr
   by_cases c2 : 4294967296 * rh + d < q * y0
   ·rw [decide_eq_true c2]; exact step (t.1 c2)
   ·rw [decide_eq_false c2]
    have : (u * 4294967296 + d) / (y1 * 4294967296 + y0) = q := by
     have : ¬ (u * 4294967296 + d) / (y1 * 4294967296 + y0) < q := fun h => c2 (t.2 h)
     omega
    simp only [qQ2.j1]
    rw [if_neg (by simp), this]
    exact ⟨k, by omega, rfl⟩
theorem zVn (y s y1 y0 u d q1 : Int) (hs : 0 <= s) (hy : y = y1 * 4294967296 + y0) (h1 : 2147483648 <= y1) (h1' : y1 < 4294967296) (h0 : 0 <= y0) (h0' : y0 < 4294967296) (hu : 0 <= u) (huy : u < y) (hd : 0 <= d) (hd' : d < 4294967296) :
  ∀ (n k : Nat) (q rh : Int), (u * 4294967296 + d) / y <= q -> q <= 4294967297 -> rh = u - q * y1 -> 0 <= rh -> rh < 4294967296 -> 4294967296 <= rh + n * 2147483648 -> 2 * n + 2 < k ->
  qQ2.l1 k y s y1 y0 d q1 rh u q = some (IntKind.u64.wrap (IntKind.u64.wrap (q1 * 4294967296) + (u * 4294967296 + d) / y), shr .u64 (IntKind.u64.wrap (IntKind.u64.wrap (IntKind.u64.wrap (u * 4294967296) + d) - IntKind.u64.wrap ((u * 4294967296 + d) / y * y))) s) := by
 subst hy
 intro n
 induction n with
 | zero => intro k q rh _ _ _ _ h2 h3; exfalso; simp at h3; omega
 | succ n ih =>
  intro k q rh hq hqu hr hr0 hrb hm hk
  have hqs := qV0 (d := d) (show 0 < y1 * 4294967296 + y0 by omega) hd' huy
  have hqn := zYp (show 0 < y1 * 4294967296 + y0 by omega) hd hu
  obtain ⟨k, rfl⟩ : ∃ m, k = m + 2 := ⟨k - 2, by omega⟩
  have step : ∀ (hgt : (u * 4294967296 + d) / (y1 * 4294967296 + y0) < q), qQ2.j4 (k + 1) (y1 * 4294967296 + y0) s y1 y0 d q1 rh u q true = some (IntKind.u64.wrap (IntKind.u64.wrap (q1 * 4294967296) + (u * 4294967296 + d) / (y1 * 4294967296 + y0)), shr .u64 (IntKind.u64.wrap (IntKind.u64.wrap (IntKind.u64.wrap (u * 4294967296) + d) - IntKind.u64.wrap ((u * 4294967296 + d) / (y1 * 4294967296 + y0) * (y1 * 4294967296 + y0)))) s) := by
   intro hgt
   obtain ⟨g1, g2, g3⟩ := qJq h1 h0 h0' hd hq hqu hr hgt
   simp only [qQ2.j4, if_true]
   rw [wu_id (n := rh + y1) (by omega) (by omega), wu_id (n := q - 1) (by omega) (by omega)]
   by_cases c : rh + y1 ≥ 4294967296
   ·rw [if_pos c, <- g3 c, if_pos hs]
   ·rw [if_neg c]
    exact ih k (q - 1) (rh + y1) g1 (by omega) g2 (by omega) (by omega) (by omega) (by omega)
  simp only [qQ2.l1]
  by_cases c : q ≥ 4294967296
  ·rw [if_pos c]; exact step (by omega)
  ·rw [if_neg c]
   have p1 : 0 <= q * y0 := Int.mul_nonneg (by omega) h0
   have p2 : q * y0 <= 4294967295 * 4294967295 := Int.mul_le_mul (by omega) (by omega) h0 (by omega)
   rw [wu_id (n := q * y0) p1 (by omega), wu_id (n := 4294967296 * rh) (by omega) (by omega), wu_id (n := 4294967296 * rh + d) (by omega) (by omega)]
   have t := qJr (d := d) h1 h0 hr
   by_cases c2 : 4294967296 * rh + d < q * y0
   ·rw [decide_eq_true c2]; exact step (t.1 c2)
   ·rw [decide_eq_false c2]
    have : (u * 4294967296 + d) / (y1 * 4294967296 + y0) = q := by
     have : ¬ (u * 4294967296 + d) / (y1 * 4294967296 + y0) < q := fun h => c2 (t.2 h)
     omega
    simp only [qQ2.j4]
    rw [if_neg (by simp), this, if_pos hs]
theorem zQv {u d y : Int} (hy : 0 < y) (hy' : y < 18446744073709551616) :
  IntKind.u64.wrap (IntKind.u64.wrap (IntKind.u64.wrap (u * 4294967296) + d) - IntKind.u64.wrap ((u * 4294967296 + d) / y * y)) = (u * 4294967296 + d) % y := by
 have e := Int.emod_add_mul_ediv (u * 4294967296 + d) y
 have m1 := Int.emod_nonneg (u * 4294967296 + d) (show y ≠ 0 by omega)
 have m2 := Int.emod_lt_of_pos (u * 4294967296 + d) hy
 rw [Int.mul_comm y] at e
 generalize (u * 4294967296 + d) / y * y = p at *
 generalize (u * 4294967296 + d) % y = r at *
 simp only [wu]
 omega
theorem zVl (y s y1 y0 u d e q1 : Int) (k : Nat) (hs : 0 <= s) (hy : y = y1 * 4294967296 + y0) (h1 : 2147483648 <= y1) (h1' : y1 < 4294967296) (h0 : 0 <= y0) (h0' : y0 < 4294967296) (hu : 0 <= u) (huy : u < y) (hd : 0 <= d) (hd' : d < 4294967296) (he : 0 <= e) (he' : e < 4294967296)
  (hq : q1 = (u * 4294967296 + d) / y) (hk : 10 <= k) :
  qQ2.j2 k y s y1 y0 u d e q1 = some (q1 * 4294967296 + ((u * 4294967296 + d) % y * 4294967296 + e) / y, shr .u64 (((u * 4294967296 + d) % y * 4294967296 + e) % y) s) := by
 obtain ⟨k, rfl⟩ : ∃ m, k = m + 1 := ⟨k - 1, by omega⟩
 have fB : 0 < y := by omega
 have hyb : y < 18446744073709551616 := by omega
 have r0 := Int.emod_nonneg (u * 4294967296 + d) (show y ≠ 0 by omega)
 have r1 := Int.emod_lt_of_pos (u * 4294967296 + d) fB
 have q0 := qV0 fB hd' huy
 have q0' := zYp fB hd hu
 simp only [qQ2.j2]
 rw [if_neg (by omega)]
 have hr : IntKind.u64.wrap (IntKind.u64.wrap (IntKind.u64.wrap (u * 4294967296) + d) - IntKind.u64.wrap (q1 * y)) = (u * 4294967296 + d) % y := by rw [hq]; exact zQv fB hyb
 rw [hr]
 generalize (u * 4294967296 + d) % y = v at *
 have b := zWg h1 h1' h0 h0' r0 (by omega)
 rw [qWm r0, wu_id b.1 (by omega)]
 have pv : v / y1 * y1 <= v := by have := b.2.2.1; omega
 have pn : 0 <= v / y1 * y1 := Int.mul_nonneg b.1 (by omega)
 rw [wu_id (n := v / y1 * y1) pn (by omega), wu_id (n := v - v / y1 * y1) b.2.2.1 (by omega)]
 have hge : (v * 4294967296 + e) / y <= v / y1 := by
  have h2 : v * 4294967296 + e < (v / y1 + 1) * y := by
   have h3 : (v / y1 + 1) * y1 ≥ v + 1 := by
    rw [Int.add_mul]
    have := b.2.2.2
    omega
   have h4 : (v / y1 + 1) * y = (v / y1 + 1) * y1 * 4294967296 + (v / y1 + 1) * y0 := by rw [hy, Int.mul_add, Int.mul_assoc]
   have h5 : 0 <= (v / y1 + 1) * y0 := Int.mul_nonneg (by omega) h0
   omega
  have := (Int.ediv_lt_iff_lt_mul fB).2 h2
  omega
 rw [zVn y s y1 y0 v e q1 hs hy h1 h1' h0 h0' r0 (by omega) he he' 2 k (v / y1) (v - v / y1 * y1) hge b.2.1 rfl b.2.2.1 (by omega) (by omega) (by omega)]
 have q2 := qV0 fB he' r1
 have q2' := zYp fB he r0
 rw [zQv fB hyb, wu_id (n := q1 * 4294967296) (by omega) (by omega), wu_id (n := q1 * 4294967296 + _) (by omega) (by omega)]
theorem qV6 (L : Nat) (h : L <= 64) : (2 : Int) ^ (64 - L) * 2 ^ L = 18446744073709551616 := by
 rw [<- Int.pow_add, show 64 - L + L = 64 by omega]; rfl
theorem lead (y : Int) (h : 0 < y) (h' : y < 18446744073709551616) : ∃ L : Nat, 1 <= L /\ L <= 64 /\ Lib.bitLen y.toNat = L /\ y < 2 ^ L /\ 9223372036854775808 <= y * 2 ^ (64 - L) /\ y * 2 ^ (64 - L) < 18446744073709551616 := by
 have hx : y.toNat < 2 ^ 64 := by omega
 obtain ⟨a, b, c⟩ := Lib.bitLenAux_bounds 64 y.toNat hx (by omega)
 have hle : Lib.bitLenAux 64 y.toNat <= 64 := by
  apply Nat.le_of_not_lt; intro hlt
  have := Nat.pow_le_pow_right (n := 2) (by decide) (show 64 <= Lib.bitLenAux 64 y.toNat - 1 by omega)
  omega
 refine ⟨Lib.bitLenAux 64 y.toNat, a, hle, rfl, ?_, ?_, ?_⟩
 ·have : ((y.toNat : Nat) : Int) < ((2 ^ Lib.bitLenAux 64 y.toNat : Nat) : Int) := by exact_mod_cast c
  rw [Int.natCast_pow] at this
  have e : ((y.toNat : Nat) : Int) = y := by omega
  rw [e] at this; exact this
 ·have h1 : ((2 ^ (Lib.bitLenAux 64 y.toNat - 1) : Nat) : Int) <= ((y.toNat : Nat) : Int) := by exact_mod_cast b
  rw [Int.natCast_pow] at h1
  have e : ((y.toNat : Nat) : Int) = y := by omega
  rw [e] at h1
  have h2 : (0 : Int) <= 2 ^ (64 - Lib.bitLenAux 64 y.toNat) := Int.le_of_lt (Int.pow_pos (by decide))
  have h3 := Int.mul_le_mul_of_nonneg_right h1 h2
  rw [show ((2 : Nat) : Int) = 2 from rfl, <- Int.pow_add, show Lib.bitLenAux 64 y.toNat - 1 + (64 - Lib.bitLenAux 64 y.toNat) = 63 by omega] at h3
  exact h3
 ·have h1 : ((y.toNat : Nat) : Int) < ((2 ^ Lib.bitLenAux 64 y.toNat : Nat) : Int) := by exact_mod_cast c
  rw [Int.natCast_pow] at h1
  have e : ((y.toNat : Nat) : Int) = y := by omega
  rw [e] at h1
  have h2 : (0 : Int) < 2 ^ (64 - Lib.bitLenAux 64 y.toNat) := Int.pow_pos (by decide)
  have h3 := Int.mul_lt_mul_of_pos_right h1 h2
  rw [show ((2 : Nat) : Int) = 2 from rfl, Int.mul_comm (2 ^ _), qV6 _ hle] at h3
  exact h3
theorem zY9 (x y : Int) {p : Int} (h : 0 < p) : x * p % (y * p) = x % y * p := by
 rw [Int.mul_comm x, Int.mul_comm y, Int.mul_emod_mul_of_pos _ _ h, Int.mul_comm]
theorem qJ3 {U R Y d f q1 v q0 r : Int} (hR : R = d * 4294967296 + f) (ea : v + Y * q1 = U * 4294967296 + d) (eb : r + Y * q0 = v * 4294967296 + f) :
  U * 18446744073709551616 + R = (q1 * 4294967296 + q0) * Y + r := by
 have h1 : (q1 * 4294967296 + q0) * Y = Y * q1 * 4294967296 + Y * q0 := by
  rw [Int.add_mul, Int.mul_comm q0, Int.mul_right_comm, Int.mul_comm q1]
 rw [h1, hR]
 generalize Y * q1 = A at *
 generalize Y * q0 = B at *
 omega
theorem zJy {U R Y d f q1 v q0 r : Int} (hR : R = d * 4294967296 + f) (ea : v + Y * q1 = U * 4294967296 + d) (eb : r + Y * q0 = v * 4294967296 + f) (h0 : 0 <= r) (h1 : r < Y) :
  (U * 18446744073709551616 + R) / Y = q1 * 4294967296 + q0 := by
 rw [qJ3 hR ea eb]
 apply zK4 (by omega)
 ·omega
 ·rw [Int.add_mul (q1 * 4294967296 + q0) 1]; omega
theorem zKk {U R Y d f q1 v q0 r : Int} (hR : R = d * 4294967296 + f) (ea : v + Y * q1 = U * 4294967296 + d) (eb : r + Y * q0 = v * 4294967296 + f) (h0 : 0 <= r) (h1 : r < Y) :
  r = (U * 18446744073709551616 + R) % Y := by
 rw [qJ3 hR ea eb, Int.add_comm, Int.add_mul_emod_self_right, Int.emod_eq_of_lt h0 h1]
theorem zVk (hi lo y : Int) (k : Nat) (h0 : 0 <= hi) (h1 : hi < y) (hy : y < 18446744073709551616) (hl : 0 <= lo) (hl' : lo < 18446744073709551616) (hk : 30 <= k) :
  qQ2.f k hi lo y = some ((hi * 18446744073709551616 + lo) / y, (hi * 18446744073709551616 + lo) % y) := by
 unfold qQ2.f
 rw [if_neg (by omega), if_neg (by omega)]
 by_cases c : hi = 0
 ·subst c
  rw [if_pos rfl, qWm hl, qVo hl]
  have : 0 <= lo / y := Int.ediv_nonneg hl (by omega)
  have : lo / y <= lo := Int.ediv_le_self _ hl
  rw [wu_id (by omega) (by omega)]
  simp
 ·rw [if_neg c]
  obtain ⟨L, L1, L2, hL, hyL, n1, n2⟩ := lead y (by omega) hy
  unfold bits_LeadingZeros64.f
  rw [if_pos (by omega), hL]
  simp only [obind]
  have hs : IntKind.u64.wrap (64 - (L : Int)) = 64 - L := wu_id (by omega) (by omega)
  rw [hs, show (64 - (64 - (L : Int))) = L by omega, wu_id (n := (L : Int)) (by omega) (by omega), if_pos (by omega), if_pos (by omega)]
  have e1 : ∀ x : Int, shl .u64 x (64 - (L : Int)) = IntKind.u64.wrap (x * 2 ^ (64 - L)) := by
   intro x; unfold shl
   rw [show min (64 - (L : Int)).toNat IntKind.u64.bits = 64 - L by show min _ 64 = _; omega]
  have e2 : shr .u64 lo (L : Int) = lo / 2 ^ L := by
   unfold shr
   rw [show min ((L : Int)).toNat IntKind.u64.bits = L by show min _ 64 = _; omega]
  have e3 : ∀ x : Int, shr .u64 x (64 - (L : Int)) = x / 2 ^ (64 - L) := by
   intro x; unfold shr
   rw [show min (64 - (L : Int)).toNat IntKind.u64.bits = 64 - L by show min _ 64 = _; omega]
  have hsplit := qV6 L L2
  have pP : (0 : Int) < 2 ^ (64 - L) := Int.pow_pos (by decide)
  have pQ : (0 : Int) < 2 ^ L := Int.pow_pos (by decide)
  have hPle : (2 : Int) ^ (64 - L) < 18446744073709551616 := by
   have : (2 : Int) ^ (64 - L) * 2 <= 2 ^ (64 - L) * 2 ^ L := Int.mul_le_mul_of_nonneg_left (by
    have := Nat.pow_le_pow_right (n := 2) (by decide) L1
    have h : ((2 ^ 1 : Nat) : Int) <= ((2 ^ L : Nat) : Int) := by exact_mod_cast this
    rw [Int.natCast_pow] at h
    exact h) (Int.le_of_lt pP)
   omega

  have hiP : 0 <= hi * 2 ^ (64 - L) := Int.mul_nonneg h0 (Int.le_of_lt pP)
  have hiP' : hi * 2 ^ (64 - L) + 2 ^ (64 - L) <= y * 2 ^ (64 - L) := by
   have := Int.mul_le_mul_of_nonneg_right (show hi + 1 <= y by omega) (Int.le_of_lt pP)
   rw [Int.add_mul] at this; omega
  have lq0 : 0 <= lo / 2 ^ L := Int.ediv_nonneg hl (Int.le_of_lt pQ)
  have lq1 : lo / 2 ^ L < 2 ^ (64 - L) := by
   apply (Int.ediv_lt_iff_lt_mul pQ).2; rw [hsplit]; omega
  have lm := Int.emod_add_mul_ediv lo (2 ^ L)
  have lm0 := Int.emod_nonneg lo (show (2 : Int) ^ L ≠ 0 by omega)
  have lm1 := Int.emod_lt_of_pos lo pQ
  have hor : Go.bits .or .u64 (hi * 2 ^ (64 - L)) (lo / 2 ^ L) = hi * 2 ^ (64 - L) + lo / 2 ^ L :=
   bits_join .u64 64 (by decide) wraps_u64 (64 - L) _ _ hiP (Int.mul_emod_left _ _) (by
    have : (2 : Int) ^ 64 = 18446744073709551616 := rfl
    omega) lq0 lq1 (by
    have : (2 : Int) ^ 64 = 18446744073709551616 := rfl
    omega)

  have hlo : lo * 2 ^ (64 - L) = lo % 2 ^ L * 2 ^ (64 - L) + lo / 2 ^ L * 18446744073709551616 := by
   have h3 : (lo % 2 ^ L + 2 ^ L * (lo / 2 ^ L)) * 2 ^ (64 - L) = lo % 2 ^ L * 2 ^ (64 - L) + lo / 2 ^ L * (2 ^ (64 - L) * 2 ^ L) := by
    rw [Int.add_mul]
    congr 1
    rw [Int.mul_comm (2 ^ L), Int.mul_assoc, Int.mul_comm (2 ^ L)]
   rw [lm, hsplit] at h3; exact h3
  have rP0 : 0 <= lo % 2 ^ L * 2 ^ (64 - L) := Int.mul_nonneg lm0 (Int.le_of_lt pP)
  have rP1 : lo % 2 ^ L * 2 ^ (64 - L) < 18446744073709551616 := by
   have := Int.mul_lt_mul_of_pos_right lm1 pP
   rw [Int.mul_comm (2 ^ L), hsplit] at this; exact this
  have el : IntKind.u64.wrap (lo * 2 ^ (64 - L)) = lo % 2 ^ L * 2 ^ (64 - L) := by
   rw [wu, hlo]; omega
  rw [e1 y, e1 hi, e1 lo, e2, wu_id (n := y * 2 ^ (64 - L)) (by omega) n2, wu_id (n := hi * 2 ^ (64 - L)) hiP (by omega), hor, el]

  have total : (hi * 18446744073709551616 + lo) * 2 ^ (64 - L) = (hi * 2 ^ (64 - L) + lo / 2 ^ L) * 18446744073709551616 + lo % 2 ^ L * 2 ^ (64 - L) := by
   rw [Int.add_mul, hlo, Int.add_mul, Int.mul_right_comm]; omega
  have hu : hi * 2 ^ (64 - L) + lo / 2 ^ L < y * 2 ^ (64 - L) := by omega
  have gJ : 0 <= hi * 2 ^ (64 - L) + lo / 2 ^ L := by omega
  have fin : ∀ v q : Int, v = (hi * 18446744073709551616 + lo) * 2 ^ (64 - L) % (y * 2 ^ (64 - L)) -> q = (hi * 18446744073709551616 + lo) * 2 ^ (64 - L) / (y * 2 ^ (64 - L)) ->
    some (q, shr .u64 v (64 - (L : Int))) = some ((hi * 18446744073709551616 + lo) / y, (hi * 18446744073709551616 + lo) % y) := by
   intro v q hv hq
   rw [e3, hv, hq, Int.mul_ediv_mul_of_pos_left _ _ pP, zY9 _ _ pP, Int.mul_ediv_cancel _ (Int.ne_of_gt pP)]
  rw [total] at fin
  generalize hi * 2 ^ (64 - L) + lo / 2 ^ L = U at *
  generalize lo % 2 ^ L * 2 ^ (64 - L) = R at *
  generalize y * 2 ^ (64 - L) = Y at *
  rw [qVq (by omega) n2, qVq rP0 rP1, if_neg (by omega)]
  have hyy : Y = Y / 4294967296 * 4294967296 + Y % 4294967296 := by omega
  have b := zWg (u := U) (y1 := Y / 4294967296) (y0 := Y % 4294967296) (by omega) (by omega) (by omega) (by omega) gJ (by omega)
  have y1a : 2147483648 <= Y / 4294967296 := by omega
  have y1b : Y / 4294967296 < 4294967296 := by omega
  have y0a : 0 <= Y % 4294967296 := by omega
  have y0b : Y % 4294967296 < 4294967296 := by omega
  have d0 : 0 <= R / 4294967296 := by omega
  have d1 : R / 4294967296 < 4294967296 := by omega
  have f0 : 0 <= R % 4294967296 := by omega
  have f1 : R % 4294967296 < 4294967296 := by omega
  have hR : R = R / 4294967296 * 4294967296 + R % 4294967296 := by omega
  generalize Y / 4294967296 = y1 at *
  generalize Y % 4294967296 = y0 at *
  generalize R / 4294967296 = d at *
  generalize R % 4294967296 = f at *
  have Ypos : 0 < Y := by omega
  rw [qWm gJ, wu_id b.1 (by omega)]
  have pv : U / y1 * y1 <= U := by have := b.2.2.1; omega
  have pn : 0 <= U / y1 * y1 := Int.mul_nonneg b.1 (by omega)
  rw [wu_id (n := U / y1 * y1) pn (by omega), wu_id (n := U - U / y1 * y1) b.2.2.1 (by omega)]
  have hge : (U * 4294967296 + d) / Y <= U / y1 := by
   have h2 : U * 4294967296 + d < (U / y1 + 1) * Y := by
    have h3 : (U / y1 + 1) * y1 ≥ U + 1 := by
     rw [Int.add_mul]
     have := b.2.2.2
     omega
    have h4 : (U / y1 + 1) * Y = (U / y1 + 1) * y1 * 4294967296 + (U / y1 + 1) * y0 := by rw [hyy, Int.mul_add, Int.mul_assoc]
    have h5 : 0 <= (U / y1 + 1) * y0 := Int.mul_nonneg (by omega) y0a
    omega
   have := (Int.ediv_lt_iff_lt_mul Ypos).2 h2
   omega
  obtain ⟨k', hk', he⟩ := zVm Y (64 - L) y1 y0 U d f hyy y1a y1b y0a y0b gJ hu d0 d1 2 k (U / y1) (U - U / y1 * y1) hge b.2.1 rfl b.2.2.1 (by omega) (by omega) (by omega)
  rw [he, zVl Y (64 - L) y1 y0 U d f _ k' (by omega) hyy y1a y1b y0a y0b gJ hu d0 d1 f0 f1 rfl (by omega)]
  have r0 := Int.emod_nonneg (U * 4294967296 + d) (show Y ≠ 0 by omega)
  have r1 := Int.emod_lt_of_pos (U * 4294967296 + d) Ypos
  have ea := Int.emod_add_mul_ediv (U * 4294967296 + d) Y
  have s0 := Int.emod_nonneg ((U * 4294967296 + d) % Y * 4294967296 + f) (show Y ≠ 0 by omega)
  have s1 := Int.emod_lt_of_pos ((U * 4294967296 + d) % Y * 4294967296 + f) Ypos
  have eb := Int.emod_add_mul_ediv ((U * 4294967296 + d) % Y * 4294967296 + f) Y
  rw [<- zJy hR ea eb s0 s1]
  exact fin _ _ (zKk hR ea eb s0 s1) rfl
theorem qKf (a b : Int) (h1 : 0 <= a) (h2 : a < 18446744073709551616) (h3 : 0 <= b) (h4 : b < 18446744073709551616) :
  qWk.f a b = some (a * b / 18446744073709551616, a * b % 18446744073709551616) := by
 unfold qWk.f bits_Mul64.f
 rw [if_pos ⟨h1, h2, h3, h4⟩]; rfl
theorem qJ1 (a b : Int) (h1 : 0 <= a) (h2 : a < 18446744073709551616) (h3 : 0 <= b) (h4 : b < 18446744073709551616) :
  qYx.f a b = some (a * b / 18446744073709551616, a * b % 18446744073709551616) := by
 unfold qYx.f
 rw [qVq h1 h2, qVq h3 h4]
 obtain ⟨eN, d3, fM, eM, fY, fX, hU, hT, a11, b11, a10, b10, a01, b01, a00, b00, total⟩ := zXa (a / 4294967296) (a % 4294967296) (b / 4294967296) (b % 4294967296) (by omega) (by omega) (by omega) (by omega) (by omega) (by omega) (by omega) (by omega)
 rw [show a / 4294967296 * 4294967296 + a % 4294967296 = a by omega, show b / 4294967296 * 4294967296 + b % 4294967296 = b by omega] at total
 rw [<- fY, <- fX, <- hU, <- hT, total]
 clear fY fX hU hT total
 rw [wu_id (n := eM) (by omega) (by omega), wu_id (n := fM) (by omega) (by omega), wu_id (n := d3) (by omega) (by omega), wu_id (n := eN) (by omega) (by omega)]
 rw [wu_id (n := d3 + eM / 4294967296) (by omega) (by omega)]
 rw [qVq (x := d3 + eM / 4294967296) (by omega) (by omega), qVq a00 (by omega)]
 rw [wu_id (n := fM + (d3 + eM / 4294967296) % 4294967296) (by omega) (by omega)]
 simp only [wu]
 congr 2 <;> omega
def divS (hi lo c : Int) : Int × Int × Bool := if c = 0 \/ hi ≥ c then (0, 0, false) else ((hi * 18446744073709551616 + lo) / c, (hi * 18446744073709551616 + lo) % c, true)
theorem qKe (hi lo c : Int) (k : Nat) (h0 : 0 <= hi) (hl : 0 <= lo) (hl' : lo < 18446744073709551616) (hc : 0 <= c) (hc' : c < 18446744073709551616) (hk : 30 <= k) :
  qX7.f k hi lo c = some (divS hi lo c) := by
 unfold qX7.f divS
 by_cases c1 : c = 0
 ·rw [if_pos c1, if_pos (.inl c1)]
 rw [if_neg c1]
 by_cases c2 : hi ≥ c
 ·rw [if_pos c2, if_pos (.inr c2)]
 rw [if_neg c2, if_neg (by omega), zVk hi lo c k h0 (by omega) hc' hl hl' hk]
 rfl
theorem zXk (lo c hi : Int) (hc : 0 < c) (hc' : c < 18446744073709551616) (hl : 0 <= lo) (hl' : lo < 18446744073709551616) : ∀ (n k : Nat) (q r : Int), n <= 64 -> 0 <= q -> q < 2 ^ (64 - n) -> 0 <= r -> r < c ->
  q * c + r = hi * 2 ^ (64 - n) + lo / 2 ^ n -> n < k ->
  qQw.l0 k lo c q r ((n : Int) - 1) = some ((hi * 18446744073709551616 + lo) / c, (hi * 18446744073709551616 + lo) % c, true) := by
 intro n
 induction n with
 | zero =>
  intro k q r _ hq hq' hr hr' he hk
  obtain ⟨k, rfl⟩ : ∃ m, k = m + 1 := ⟨k - 1, by omega⟩
  simp only [qQw.l0]
  rw [if_neg (by simp)]
  have e : q * c + r = hi * 18446744073709551616 + lo := by
   have h1 : (2 : Int) ^ (64 - 0) = 18446744073709551616 := rfl
   have h2 : lo / 2 ^ 0 = lo := by simp
   rw [h1, h2] at he; exact he
  rw [<- e]
  have h1 : (q * c + r) / c = q := by
   apply zK4 hc
   ·omega
   ·rw [Int.add_mul]; omega
  have h2 : (q * c + r) % c = r := by rw [Int.add_comm, Int.add_mul_emod_self_right, Int.emod_eq_of_lt hr hr']
  rw [h1, h2]
 | succ n ih =>
  intro k q r hn hq hq' hr hr' he hk
  obtain ⟨k, rfl⟩ : ∃ m, k = m + 1 := ⟨k - 1, by omega⟩
  simp only [qQw.l0]
  rw [show (((n + 1 : Nat) : Int) - 1) = n by omega, if_pos (by omega), wu_id (n := (n : Int)) (by omega) (by omega), if_pos (by omega), w64 (e := (n : Int) - 1) (by omega) (by omega)]
  have hsh : shr .u64 lo (n : Int) = lo / 2 ^ n := by
   unfold shr
   rw [show min ((n : Int)).toNat IntKind.u64.bits = n by show min _ 64 = _; omega]
  have hp : (0 : Int) < 2 ^ n := Int.pow_pos (by decide)
  have t0 : 0 <= lo / 2 ^ n := Int.ediv_nonneg hl (Int.le_of_lt hp)
  have t1 : lo / 2 ^ n < 18446744073709551616 := by
   have := Int.ediv_le_self (2 ^ n) hl
   omega
  have t2 : lo / 2 ^ (n + 1) = lo / 2 ^ n / 2 := by
   rw [Int.ediv_ediv_of_nonneg (Int.le_of_lt hp), Int.pow_succ]
  have t3 : hi * 2 ^ (64 - n) = 2 * (hi * 2 ^ (64 - (n + 1))) := by
   rw [show 64 - n = 64 - (n + 1) + 1 by omega, Int.pow_succ]
   rw [<- Int.mul_assoc]; omega
  have t4 : (2 : Int) ^ (64 - n) = 2 * 2 ^ (64 - (n + 1)) := by
   rw [show 64 - n = 64 - (n + 1) + 1 by omega, Int.pow_succ]; omega
  have t5 : (2 : Int) ^ (64 - (n + 1)) <= 9223372036854775808 := by
   have := Nat.pow_le_pow_right (n := 2) (by decide) (show 64 - (n + 1) <= 63 by omega)
   have h : ((2 ^ (64 - (n + 1)) : Nat) : Int) <= ((2 ^ 63 : Nat) : Int) := by exact_mod_cast this
   rw [Int.natCast_pow] at h; exact h
  rw [hsh, and_one t0 t1]
  rw [t2] at he
  have ihn := fun q r => ih k q r (by omega)
  rw [t3, t4] at ihn
  generalize lo / 2 ^ n = t at *
  generalize hi * 2 ^ (64 - (n + 1)) = Z at *
  generalize (2 : Int) ^ (64 - (n + 1)) = p at *
  have n1 : (2 * q) * c = 2 * (q * c) := Int.mul_assoc _ _ _
  have n2 : (2 * q + 1) * c = 2 * (q * c) + c := by rw [Int.add_mul, n1]; omega
  have w1 : IntKind.u64.wrap (q * 2) = 2 * q := by rw [wu_id (by omega) (by omega)]; omega
  have w2 : IntKind.u64.wrap (2 * q + 1) = 2 * q + 1 := wu_id (by omega) (by omega)
  rw [w1, w2]
  by_cases c1 : r / 9223372036854775808 = 1
  ·rw [if_pos c1]
   have w3 : IntKind.u64.wrap (IntKind.u64.wrap (IntKind.u64.wrap (r * 2) + t % 2) - c) = 2 * r + t % 2 - c := by simp only [wu]; omega
   rw [w3]
   exact ihn _ _ (by omega) (by omega) (by omega) (by omega) (by rw [n2]; omega) (by omega)
  ·rw [if_neg c1]
   have w3 : IntKind.u64.wrap (IntKind.u64.wrap (r * 2) + t % 2) = 2 * r + t % 2 := by simp only [wu]; omega
   rw [w3]
   by_cases c2 : 2 * r + t % 2 ≥ c
   ·rw [if_pos c2, wu_id (by omega) (by omega)]
    exact ihn _ _ (by omega) (by omega) (by omega) (by omega) (by rw [n2]; omega) (by omega)
   ·rw [if_neg c2]
    exact ihn _ _ (by omega) (by omega) (by omega) (by omega) (by rw [n1]; omega) (by omega)
theorem qJ0 (hi lo c : Int) (k : Nat) (h0 : 0 <= hi) (hl : 0 <= lo) (hl' : lo < 18446744073709551616) (hc : 0 <= c) (hc' : c < 18446744073709551616) (hk : 70 <= k) :
  qQw.f k hi lo c = some (divS hi lo c) := by
 obtain ⟨k, rfl⟩ : ∃ m, k = m + 1 := ⟨k - 1, by omega⟩
 unfold qQw.f divS
 simp only [qQw.j0]
 by_cases c1 : c = 0
 ·rw [if_pos c1, if_pos trivial, if_pos (show c = 0 \/ hi ≥ c from .inl c1)]
 rw [if_neg c1]
 by_cases c2 : hi ≥ c
 ·rw [decide_eq_true c2, if_pos rfl, if_pos (.inr c2)]
 rw [decide_eq_false c2, if_neg (by simp), if_neg (by omega)]
 have := zXk lo c hi (by omega) hc' hl hl' 64 k 0 hi (by omega) (by omega) (by decide) h0 (by omega) (by
  have h1 : (2 : Int) ^ (64 - 64) = 1 := rfl
  have h2 : lo / 2 ^ 64 = 0 := Int.ediv_eq_zero_of_lt hl (by
   have : (2 : Int) ^ 64 = 18446744073709551616 := rfl
   omega)
  rw [h1, h2]; omega) (by omega)
 exact this
theorem qWx (a : Int) : qQ3.f a = some (decide (-10000000000000 <= a /\ a <= 10000000000000)) := by
 unfold qQ3.f
 by_cases h : a ≥ -10000000000000
 ·rw [if_pos h]; simp [h]
 ·rw [if_neg h]; simp; omega
theorem qWf (a : Int) : qQ6.f a = some (decide (-10000000000000 <= a /\ a <= 10000000000000)) := by
 unfold qQ6.f
 by_cases h : a ≥ -10000000000000
 ·rw [if_pos h]; simp [h]
 ·rw [if_neg h]; simp; omega
def more (how r c q : Int) : Bool := if how = 1 then decide (r > 0) else if how = 2 then (if r > c - r then true else if r = c - r then decide (q % 2 = 1) else false) else false
def roundS (m : Bool) (q : Int) : Int × Int := if m = true then (if q + 1 > 10000000000000 then (0, 14) else (q + 1, 0)) else (q, 0)
def mdS (a b c how : Int) : Int × Int :=
 if a < 0 \/ b < 0 \/ c <= 0 \/ how < 0 \/ how > 2 then (0, 1) else if a * b / c > 10000000000000 then (0, 14)
 else roundS (more how (a * b % c) c (a * b / c)) (a * b / c)
theorem words (a b c : Int) (ha : 0 <= a) (hb : 0 <= b) (hc : 0 < c) (ha' : a <= 9223372036854775807) (hb' : b <= 9223372036854775807) :
  0 <= a * b / 18446744073709551616 /\ 0 <= a * b % 18446744073709551616 /\ a * b % 18446744073709551616 < 18446744073709551616 /\ a * b / 18446744073709551616 * 18446744073709551616 + a * b % 18446744073709551616 = a * b /\
  (a * b / 18446744073709551616 ≥ c -> a * b / c > 10000000000000) /\ 0 <= a * b / c /\ 0 <= a * b % c /\ a * b % c < c := by
 have h := Int.mul_nonneg ha hb
 refine ⟨by omega, by omega, by omega, by omega, fun hge => ?_, Int.ediv_nonneg h (by omega), Int.emod_nonneg _ (by omega), Int.emod_lt_of_pos _ hc⟩
 have : 10000000000001 <= a * b / c := by
  apply (zQf hc).2
  omega
 omega
theorem qWl (a b c how : Int) (k : Nat) (ha' : a <= 9223372036854775807) (hb' : b <= 9223372036854775807) (hc' : c <= 9223372036854775807) (hk : 40 <= k) :
  qQx.f k a b c how = some (mdS a b c how) := by
 obtain ⟨k, rfl⟩ : ∃ m, k = m + 3 := ⟨k - 3, by omega⟩
 unfold qQx.f mdS
 by_cases c0 : a < 0 \/ b < 0 \/ c <= 0 \/ how < 0 \/ how > 2
 ·rw [if_pos c0]
  have e : qQx.j0 (k + 3) a b c how true = some (0, 1) := by simp only [qQx.j0, if_true]
  by_cases c1 : a < 0
  ·rw [if_pos c1]; exact e
  by_cases c2 : b < 0
  ·rw [if_neg c1, if_pos c2]; exact e
  by_cases c3 : c <= 0
  ·rw [if_neg c1, if_neg c2, if_pos c3]; exact e
  by_cases c4 : how < 0
  ·rw [if_neg c1, if_neg c2, if_neg c3, if_pos c4]; exact e
  rw [if_neg c1, if_neg c2, if_neg c3, if_neg c4, decide_eq_true (by omega)]; exact e
 ·rw [if_neg c0, if_neg (by omega), if_neg (by omega), if_neg (by omega), if_neg (by omega), decide_eq_false (by omega)]
  simp only [qQx.j0]
  rw [if_neg (by simp), wu_id (n := a) (by omega) (by omega), wu_id (n := b) (by omega) (by omega), wu_id (n := c) (by omega) (by omega), qKf a b (by omega) (by omega) (by omega) (by omega)]
  simp only [obind]
  obtain ⟨g0, g1, g2, g3, g4, g5, g6, g7⟩ := words a b c (by omega) (by omega) (by omega) ha' hb'
  rw [qKe _ _ c _ g0 g1 g2 (by omega) (by omega) (by omega)]
  simp only [obind, divS]
  rw [g3]
  generalize a * b / 18446744073709551616 = hi at *
  generalize a * b % 18446744073709551616 = lo at *
  generalize a * b / c = q at *
  generalize a * b % c = r at *
  by_cases c1 : hi ≥ c
  ·rw [if_pos (show c = 0 \/ hi ≥ c from .inr c1), if_neg (by simp), if_pos (g4 c1)]
   simp only [qQx.j1, if_true]
  ·rw [if_neg (show ¬ (c = 0 \/ hi ≥ c) by omega), if_pos rfl]
   by_cases c2 : q > 10000000000000
   ·rw [if_pos c2, decide_eq_true c2]
    simp only [qQx.j1, if_true]
   ·rw [if_neg c2, decide_eq_false c2]
    simp only [qQx.j1]
    rw [if_neg (by simp), wu_id (n := c) (by omega) (by omega), wu_id (n := c - r) (by omega) (by omega)]
    have hj : ∀ m : Bool, qQx.j2 (k + 1) q m = some (roundS m q) := by
     intro m
     simp only [qQx.j2]
     rw [wu_id (n := q + 1) (by omega) (by omega), w64 (e := q + 1) (by omega) (by omega), w64 (e := q) (by omega) (by omega)]
     cases m
     ·rw [if_neg (by simp), if_neg c2]; rfl
     ·rw [if_pos rfl]; unfold roundS; rw [if_pos rfl]; split <;> rfl
    have hb1 : (Go.bits .and .u64 q 1 == 1) = decide (q % 2 = 1) := by
     rw [and_one g5 (by omega)]; by_cases h : q % 2 = 1 <;> simp [h]
    rw [hb1]
    simp only [hj]
    by_cases h1 : how = 1
    ·rw [if_pos h1]; unfold more; rw [if_pos h1]
    ·rw [if_neg h1]
     by_cases h2 : how = 2
     ·rw [if_pos h2]
      by_cases h3 : r > c - r
      ·rw [if_pos h3]; unfold more; rw [if_neg h1, if_pos h2, if_pos h3]
      ·rw [if_neg h3]
       by_cases h4 : r = c - r
       ·rw [if_pos h4]; unfold more; rw [if_neg h1, if_pos h2, if_neg h3, if_pos h4]
       ·rw [if_neg h4]; unfold more; rw [if_neg h1, if_pos h2, if_neg h3, if_neg h4]
     ·rw [if_neg h2]; unfold more; rw [if_neg h1, if_neg h2]
theorem qVg (a b c how : Int) (k : Nat) (ha' : a <= 9223372036854775807) (hb' : b <= 9223372036854775807) (hc' : c <= 9223372036854775807) (hk : 80 <= k) :
  qQh.f k a b c how = some (mdS a b c how) := by
 obtain ⟨k, rfl⟩ : ∃ m, k = m + 4 := ⟨k - 4, by omega⟩
 unfold qQh.f mdS
 by_cases c0 : a < 0 \/ b < 0 \/ c <= 0 \/ how < 0 \/ how > 2
 ·rw [if_pos c0]
  have e : qQh.j0 (k + 4) a b c how true = some (0, 1) := by simp only [qQh.j0, if_true]
  by_cases c1 : a < 0
  ·rw [if_pos c1]; exact e
  by_cases c2 : b < 0
  ·rw [if_neg c1, if_pos c2]; exact e
  by_cases c3 : c <= 0
  ·rw [if_neg c1, if_neg c2, if_pos c3]; exact e
  by_cases c4 : how < 0
  ·rw [if_neg c1, if_neg c2, if_neg c3, if_pos c4]; exact e
  rw [if_neg c1, if_neg c2, if_neg c3, if_neg c4, decide_eq_true (by omega)]; exact e
 ·rw [if_neg c0, if_neg (by omega), if_neg (by omega), if_neg (by omega), if_neg (by omega), decide_eq_false (by omega)]
  simp only [qQh.j0]
  rw [if_neg (by simp), wu_id (n := a) (by omega) (by omega), wu_id (n := b) (by omega) (by omega), wu_id (n := c) (by omega) (by omega), qJ1 a b (by omega) (by omega) (by omega) (by omega)]
  simp only [obind]
  obtain ⟨g0, g1, g2, g3, g4, g5, g6, g7⟩ := words a b c (by omega) (by omega) (by omega) ha' hb'
  rw [qJ0 _ _ c _ g0 g1 g2 (by omega) (by omega) (by omega)]
  simp only [obind, divS]
  rw [g3]
  generalize a * b / 18446744073709551616 = hi at *
  generalize a * b % 18446744073709551616 = lo at *
  generalize a * b / c = q at *
  generalize a * b % c = r at *
  by_cases c1 : hi ≥ c
  ·rw [if_pos (show c = 0 \/ hi ≥ c from .inr c1), if_neg (by simp), if_pos (g4 c1)]
   simp only [qQh.j1, if_true]
  ·rw [if_neg (show ¬ (c = 0 \/ hi ≥ c) by omega), if_pos rfl]
   by_cases c2 : q > 10000000000000
   ·rw [if_pos c2, decide_eq_true c2]
    simp only [qQh.j1, if_true]
   ·rw [if_neg c2, decide_eq_false c2]
    simp only [qQh.j1, qQh.j2]
    rw [if_neg (by simp), w64 (e := q) (by omega) (by omega), w64 (e := q + 1) (by omega) (by omega), wu_id (n := c) (by omega) (by omega), wu_id (n := c - r) (by omega) (by omega)]
    have hj : ∀ m : Bool, qQh.j3 (k + 1) q m = some (roundS m q) := by
     intro m
     simp only [qQh.j3]
     rw [w64 (e := q + 1) (by omega) (by omega)]
     cases m
     ·rw [if_neg (by simp), if_neg c2]; rfl
     ·rw [if_pos rfl]; unfold roundS; rw [if_pos rfl]; split <;> rfl
    have hb1 : (Int.tmod q 2 == 1) = decide (q % 2 = 1) := by
     rw [qVo g5]; by_cases h : q % 2 = 1 <;> simp [h]
    rw [hb1]
    simp only [hj]
    by_cases h1 : how = 1
    ·rw [if_pos h1]
     by_cases h2 : r > 0
     ·rw [decide_eq_true h2, if_pos rfl]; unfold more roundS; rw [if_pos h1, decide_eq_true h2, if_pos rfl]; split <;> rfl
     ·rw [decide_eq_false h2, if_neg (by simp), if_neg (by omega), if_neg c2]; unfold more roundS; rw [if_pos h1, decide_eq_false h2, if_neg (by simp)]
    ·rw [if_neg h1, if_neg (by simp)]
     by_cases h2 : how = 2
     ·rw [if_pos h2]
      by_cases h3 : r > c - r
      ·rw [if_pos h3]; unfold more; rw [if_neg h1, if_pos h2, if_pos h3]
      ·rw [if_neg h3]
       by_cases h4 : r = c - r
       ·rw [if_pos h4]; unfold more; rw [if_neg h1, if_pos h2, if_neg h3, if_pos h4]
       ·rw [if_neg h4]; unfold more; rw [if_neg h1, if_pos h2, if_neg h3, if_neg h4]
     ·rw [if_neg h2, if_neg c2]; unfold more roundS; rw [if_neg h1, if_neg h2, if_neg (by simp)]
theorem mn_is (a b : Int) : mn a b = if a <= b then a else b := by unfold mn; split <;> split <;> omega
theorem mx_is (a b : Int) : mx a b = if a <= b then b else a := by unfold mx; split <;> split <;> omega
def rq (p d how : Int) : Int := if more how (p % d) d (p / d) = true then p / d + 1 else p / d
theorem mdS_rq (a b d how : Int) (ha : 0 <= a) (hb : 0 <= b) (hd : 0 < d) (h0 : 0 <= how) (h2 : how <= 2) (hp : a * b <= 9999999999999) : mdS a b d how = (rq (a * b) d how, 0) := by
 have hn := Int.mul_nonneg ha hb
 have hle := Int.ediv_le_self d hn
 unfold mdS rq roundS
 rw [if_neg (by omega), if_neg (by omega)]
 split
 ·rw [if_neg (by omega)]
 ·rfl
theorem more1 (r d q : Int) : more 1 r d q = decide (r > 0) := by unfold more; rw [if_pos rfl]
theorem rq1 (p d : Int) : rq p d 1 = if p % d > 0 then p / d + 1 else p / d := by
 unfold rq; rw [more1]; by_cases h : p % d > 0
 ·rw [if_pos (decide_eq_true h), if_pos h]
 ·rw [if_neg (by simpa using h), if_neg h]
end Go.Proofs.YtlhcohipnieidaaGreat.Pure
namespace Go.Proofs.YtlhcohipnieidaaGreat.PureSt
set_option linter.unusedVariables false
open Go.RowKit Go.Proofs.YtlhcohipnieidaaGreat.P W.PrintWords W.PrintLast W.PrintMore Go.Proofs.YtlhcohipnieidaaGreat.PlainM Go.Proofs.YtlhcohipnieidaaGreat.Pure
def shareS (k : Int) : Int := if k < 0 then 0 else if k = 0 then 60 else if k = 1 then 80 else if k = 2 then 100 else if k = 3 then 125 else 150
theorem zQh (a : Int) : qWq.f a = some (shareS a) := rfl
theorem zQ5 (a : Int) : qY5.f a = some (shareS a) := by
 unfold qY5.f shareS
 (repeat' split) <;> rfl
theorem zZg (k : Int) : 0 <= shareS k /\ shareS k <= 150 := by unfold shareS; (repeat' split) <;> omega
def stepS (level n : Int) : Int × Int := if level < 0 \/ level > 10000000000000 \/ n < 0 then (0, 1) else mdS level (shareS (n / 24)) 100 1
theorem zXp (x n : Int) (k : Nat) (hn : n <= 9223372036854775807) (hk : 100 <= k) : qX2.f k x n = some (stepS x n) := by
 obtain ⟨k, rfl⟩ : ∃ m, k = m + 1 := ⟨k - 1, by omega⟩
 unfold qX2.f stepS
 have e : qX2.j0 (k + 1) x n true = some (0, 1) := by simp only [qX2.j0, if_true]
 by_cases c1 : x < 0
 ·rw [if_pos c1, if_pos (by omega)]; exact e
 rw [if_neg c1, qWx]
 simp only [obind]
 by_cases c2 : -10000000000000 <= x /\ x <= 10000000000000
 ·rw [if_pos (decide_eq_true c2)]
  by_cases c3 : n < 0
  ·rw [decide_eq_true c3, if_pos (by omega)]; exact e
  ·rw [decide_eq_false c3, if_neg (by omega)]
   simp only [qX2.j0]
   have hs := zZg (n / 24)
   rw [if_neg (by simp), qWm (by omega), w64 (by omega) (by omega), zQh]
   simp only [obind]
   rw [qWl _ _ _ _ k (by omega) (by omega) (by omega) (by omega)]
   rfl
 ·rw [if_neg (by simpa using c2), if_pos (by omega)]; exact e
theorem zZ9 (x n : Int) (k : Nat) (hn : n <= 9223372036854775807) (hk : 100 <= k) : qZs.f k x n = some (stepS x n) := by
 obtain ⟨k, rfl⟩ : ∃ m, k = m + 1 := ⟨k - 1, by omega⟩
 unfold qZs.f stepS
 have e : qZs.j0 (k + 1) x n true = some (0, 1) := by simp only [qZs.j0, if_true]
 by_cases c1 : x < 0
 ·rw [if_pos c1, if_pos (by omega)]; exact e
 rw [if_neg c1, qWf]
 simp only [obind]
 by_cases c2 : -10000000000000 <= x /\ x <= 10000000000000
 ·rw [if_pos (decide_eq_true c2)]
  by_cases c3 : n < 0
  ·rw [decide_eq_true c3, if_pos (by omega)]; exact e
  ·rw [decide_eq_false c3, if_neg (by omega)]
   simp only [qZs.j0]
   have hs := zZg (n / 24)
   rw [if_neg (by simp), qWm (by omega), w64 (by omega) (by omega), zQ5]
   simp only [obind]
   rw [qVg _ _ _ _ k (by omega) (by omega) (by omega) (by omega)]
   rfl
 ·rw [if_neg (by simpa using c2), if_pos (by omega)]; exact e
end Go.Proofs.YtlhcohipnieidaaGreat.PureSt
namespace Go.Proofs.YtlhcohipnieidaaGreat.Pure
set_option linter.unusedVariables false
open Go.RowKit Go.Proofs.YtlhcohipnieidaaGreat.P W.PrintWords W.PrintLast W.PrintMore Go.Proofs.YtlhcohipnieidaaGreat.PlainM
theorem qWz (a : Int) : isMoney a = decide (-10000000000000 <= a /\ a <= 10000000000000) := rfl
def addS (a b : Int) : Int × Int := if (isMoney a && (isMoney b && isMoney (a + b))) = true then (a + b, 0) else (0, 14)
theorem qW6 {a : Int} (h : isMoney a = true) : -10000000000000 <= a /\ a <= 10000000000000 := by simpa [isMoney] using h
theorem qVm (a b : Int) : qZ9.f a b = some (addS a b) := by
 unfold qZ9.f qZ3.f
 rw [if_pos (by simp)]
 simp only [obind]
 congr 1
 show qZ3.go [a, b] 0 = addS a b
 unfold addS
 simp only [qZ3.go]
 rw [show isMoney 0 = true by decide, Bool.true_and, Int.zero_add]
 cases h1 : isMoney a
 ·simp
 ·cases h2 : isMoney b
  ·simp
  ·simp
theorem qJa (a b : Int) : qZ6.f a b = some (addS a b) := by
 unfold qZ6.f addS
 simp only [qWf, <- qWz, obind]
 cases h1 : isMoney a
 ·simp
 ·cases h2 : isMoney b
  ·simp
  ·have b1 := qW6 h1; have b2 := qW6 h2
   rw [w64 (by omega) (by omega)]
   cases h3 : isMoney (a + b) <;> simp
theorem rd_at (l : List Int) (j : Nat) (h : j < l.length) : l.drop j = rd l j :: l.drop (j + 1) := by
 rw [List.drop_eq_getElem_cons h]; congr 1; unfold rd; simp [List.getD_eq_getElem?_getD, h]
end Go.Proofs.YtlhcohipnieidaaGreat.Pure
namespace Go.Proofs.YtlhcohipnieidaaGreat.PlainL
set_option linter.unusedVariables false
def inter (b r : Int) : Int := if b * r % 12000000 > 0 then b * r / 12000000 + 1 else b * r / 12000000
def monthS (b pay r : Int) : Int × Int := if b + inter b r > 10000000000000 then (0, 14) else (if b + inter b r - pay < 0 then 0 else b + inter b r - pay, 0)
def leftS (pay r : Int) : Nat -> Int -> Int × Int
 | 0, b => (b, 0)
 | m + 1, b => if (monthS b pay r).2 = 0 then leftS pay r m (monthS b pay r).1 else (0, (monthS b pay r).2)
def En (b pay r : Int) (n : Nat) : Prop := leftS pay r n b = (0, 0)
theorem zV0 {b r : Int} (hb : 0 <= b) (hr : 0 <= r) : 0 <= inter b r := by
 have : 0 <= b * r / 12000000 := Int.ediv_nonneg (Int.mul_nonneg hb hr) (by omega)
 unfold inter; split <;> omega
theorem zY6 {b b' r r' : Int} (hb : 0 <= b) (h : b <= b') (hr : 0 <= r) (h' : r <= r') : inter b r <= inter b' r' := by
 have hm : b * r <= b' * r' := Int.mul_le_mul h h' hr (by omega)
 unfold inter
 generalize b * r = x at *
 generalize b' * r' = y at *
 split <;> split <;> omega
theorem zVz {b r : Int} (hb : 0 <= b) (hb' : b <= 10000000000000) (hr : 0 <= r) (hr' : r <= 1000000) : inter b r <= 1000000000000 := by
 have hm : b * r <= 10000000000000 * 1000000 := Int.mul_le_mul hb' hr' hr (by omega)
 unfold inter
 generalize b * r = x at *
 split <;> omega
theorem zQx {b pay r : Int} (h : (monthS b pay r).2 = 0) : b + inter b r <= 10000000000000 /\ monthS b pay r = (if b + inter b r - pay < 0 then 0 else b + inter b r - pay, 0) := by
 unfold monthS at h ⊢
 by_cases c : b + inter b r > 10000000000000
 ·rw [if_pos c] at h; simp at h
 ·rw [if_neg c]; exact ⟨by omega, rfl⟩
theorem qK2 {b pay r : Int} (hp : 0 <= pay) (h : (monthS b pay r).2 = 0) : 0 <= (monthS b pay r).1 /\ (monthS b pay r).1 <= 10000000000000 := by
 obtain ⟨h1, h2⟩ := zQx h
 rw [h2]
 simp only
 split <;> omega
theorem zZx {b b' pay pay' r r' : Int} (hb : 0 <= b') (h : b' <= b) (hr : 0 <= r') (h' : r' <= r) (hp : pay <= pay') (hok : (monthS b pay r).2 = 0) :
  (monthS b' pay' r').2 = 0 /\ (monthS b' pay' r').1 <= (monthS b pay r).1 := by
 obtain ⟨h1, h2⟩ := zQx hok
 have hi := zY6 hb h hr h'
 have h3 : monthS b' pay' r' = (if b' + inter b' r' - pay' < 0 then 0 else b' + inter b' r' - pay', 0) := by unfold monthS; rw [if_neg (by omega)]
 rw [h2, h3]
 refine ⟨rfl, ?_⟩
 simp only
 split <;> split <;> omega
theorem zYm {pay r : Int} (hp : 0 <= pay) : ∀ (n : Nat) (b : Int), 0 <= b -> b <= 10000000000000 -> 0 <= (leftS pay r n b).1 /\ (leftS pay r n b).1 <= 10000000000000
 | 0, b, h, h' => ⟨h, h'⟩
 | n + 1, b, h, h' => by
  unfold leftS
  by_cases c : (monthS b pay r).2 = 0
  ·rw [if_pos c]; have := qK2 hp c; exact zYm hp n _ this.1 this.2
  ·rw [if_neg c]; simp
theorem qJs {pay pay' r r' : Int} (hr : 0 <= r') (h' : r' <= r) (hp0 : 0 <= pay) (hp : pay <= pay') : ∀ (n : Nat) (b b' : Int), 0 <= b' -> b' <= b -> (leftS pay r n b).2 = 0 ->
  (leftS pay' r' n b').2 = 0 /\ (leftS pay' r' n b').1 <= (leftS pay r n b).1
 | 0, b, b', h0, h1, _ => ⟨rfl, h1⟩
 | n + 1, b, b', h0, h1, hok => by
  unfold leftS at hok ⊢
  by_cases c : (monthS b pay r).2 = 0
  ·rw [if_pos c] at hok ⊢
   obtain ⟨m1, m2⟩ := zZx h0 h1 hr h' hp c
   rw [if_pos m1]
   exact qJs hr h' hp0 hp n _ _ (qK2 (by omega) m1).1 m2 hok
  ·rw [if_neg c] at hok; exact absurd hok c
theorem zXs {b b' pay pay' r r' : Int} {n : Nat} (h0 : 0 <= b') (h1 : b' <= b) (hb : b <= 10000000000000) (hr : 0 <= r') (h' : r' <= r) (hp0 : 0 <= pay) (hp : pay <= pay') (h : En b pay r n) : En b' pay' r' n := by
 unfold En at *
 have hok : (leftS pay r n b).2 = 0 := by rw [h]
 obtain ⟨a1, a2⟩ := qJs hr h' hp0 hp n b b' h0 h1 hok
 have a3 := (zYm (r := r') (show 0 <= pay' by omega) n b' h0 (by omega)).1
 rw [h] at a2
 exact Prod.ext (show _ = (0 : Int) by have : (leftS pay' r' n b').1 <= 0 := a2; omega) a1
structure Least (b r : Int) (n : Nat) (p : Int) : Prop where
 nn : 0 <= p
 le : p <= 10000000000000
 en : En b p r n
 least : ∀ q, 0 <= q -> q < p -> ¬ En b q r n
theorem Least.one {b r : Int} {n : Nat} {p q : Int} (h : Least b r n p) (h' : Least b r n q) : p = q := by
 rcases Int.lt_trichotomy p q with c | c | c
 ·exact absurd h.en (h'.least p h.nn c)
 ·exact c
 ·exact absurd h'.en (h.least q h'.nn c)
end Go.Proofs.YtlhcohipnieidaaGreat.PlainL
