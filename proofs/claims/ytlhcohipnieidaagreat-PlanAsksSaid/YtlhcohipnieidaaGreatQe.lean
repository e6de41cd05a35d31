/- Several texts as one (written by a program): what the walks and the plain laws come to, one behind the other. -/
import Derived.Test.YtlhcohipnieidaaGreatQa
import Derived.Test.YtlhcohipnieidaaGreatQd
namespace Go.Proofs.YtlhcohipnieidaaGreat.P
open Go.RowKit W.PrintWords W.PrintLast W.PrintMore
attribute [local go_sem] qX8 qWa qWu qWv qXt qXu qX9 qWb
set_option linter.unusedVariables false
set_option linter.unusedSimpArgs false
def qQ9.l0 : Nat -> List (S54) -> List (S54) -> Int -> Option ((List (S54)))
 | 0, _, _, _ => none
 | k + 1, x0, x3, x4 => if x4 < (x0.length : Int) then (if 0 <= x4 then ((some (([] : List Int) : List Int)).bind fun fA => (if fA.length + ((qQu x0 x4).f5).length < 17592186044416 then (if x3.length < 2199023255552 then (qQ9.l0 k x0 (x3 ++ [(⟨(qQu x0 x4).f0, (qQu x0 x4).f1, (qQu x0 x4).f2, (qQu x0 x4).f3, (qQu x0 x4).f4, (fA ++ ((qQu x0 x4).f5))⟩ : S54)]) (wrap64 (x4 + 1))) else (none)) else (none))) else (none)) else (some x3)
def qQ9.f (k : Nat) (l0 : List (S54)) : Option ((List (S54))) := qQ9.l0 k l0 ([] : List (S54)) 0
set_option maxHeartbeats 8000000 in
set_option maxRecDepth 100000 in
theorem qQ9.calls (k : Nat) (A0 : Option Addr) (c0 : Nat) (l0 : List (S54)) (r : List (S54)) (w : World) (hr0 : Kd.C k54 w A0 l0.length l0) (hc0 : l0.length <= c0) (h : qQ9.f k l0 = some r) :
  Calls Tryz.prog 21 #[.slice A0 l0.length c0] w fun e w' => ∃ v0_ : Value, e = .returned (v0_) /\ Kd.S k54 54 w' w.heap.size (fun _ => True) v0_ r /\ Below w.heap.size w w' := by
 have pW := Tryz.underlying54
 have fD := am hr0
 have pU := am hc0
 clear hr0 hc0
 have HB := am (Below.refl w.heap.size w)
 have H := h
 unfold qQ9.f at H
 clear h
 have H' := am H
 clear H
 go_enter Tryz.func21, Tryz.ntmps21
 go_wp2
 go_loopg [3, 4] k (fun kq v3 v4 w' => ∃ (aG : List (S54)) (aA : Int), v4 = .int .i64 aA /\ Aside0 (qQ9.l0 kq l0 aG aA = some r) /\ Aside0 (kq <= k) /\ Aside0 (Kd.S k54 54 w' w.heap.size (fun _ => True) v3 aG) /\ Aside0 (Below w.heap.size w w'))
 case atStart => exact ⟨(([] : List (S54))), (0), fr, H', ⟨Nat.le_refl _⟩, ⟨by first | exact Kd.S_nil _ _ _ _ _ | exact Kd.N_nil _ _ _ _ _ | exact Kd.V_nil _ _ _ _ _ | exact Kd.Q_nil _ _ _ _ _ | exact Kd.R_nil _ _ _ _ _⟩, a0_ HB⟩
 case round =>
  clear H'
  obtain ⟨aG, aA, rfl, HA, g2, cG, HB⟩ := hrel
  rcases gk with _ | k1
  ·exact absurd HA.out (by simp [qQ9.l0])
  have H := HA.out
  clear HA
  simp only [qQ9.l0] at H
  by_cases c2 : aA < (l0.length : Int)
  case neg =>
   rw [if_neg c2] at H
   have bT := decide_eq_false c2
   clear c2
   obtain rfl := Option.some.inj H
   go_wp2
   go_ret
   exact ⟨_, er, by (with_reducible repeat (first | apply Kd.qXw | apply Kd.qXx | apply Kd.qWh)); exact cG.out, by exact h0q HB.out⟩
  rw [if_pos c2] at H
  have bT := decide_eq_true c2
  clear c2
  by_cases c3 : 0 <= aA
  case neg =>
   rw [if_neg c3] at H
   exact absurd H (by simp)
  rw [if_pos c3] at H
  have hI := decide_eq_true c3
  clear c3
  obtain ⟨fA, hT⟩ : ∃ y_ : List Int, y_ = (([] : List Int)) := ⟨_, rfl⟩
  replace H : (if fA.length + ((qQu l0 aA).f5).length < 17592186044416 then (if aG.length < 2199023255552 then (qQ9.l0 k1 l0 (aG ++ [(⟨(qQu l0 aA).f0, (qQu l0 aA).f1, (qQu l0 aA).f2, (qQu l0 aA).f3, (qQu l0 aA).f4, (fA ++ ((qQu l0 aA).f5))⟩ : S54)]) (wrap64 (aA + 1))) else (none)) else (none)) = some r := by exact hyq H hT
  have jR := am hT
  clear hT
  by_cases c4 : fA.length + ((qQu l0 aA).f5).length < 17592186044416
  case neg =>
   rw [if_neg c4] at H
   exact absurd H (by simp)
  rw [if_pos c4] at H
  have n0 := am c4
  clear c4
  obtain ⟨cM, hU⟩ : ∃ y_ : List Int, y_ = (fA ++ ((qQu l0 aA).f5)) := ⟨_, rfl⟩
  replace H : (if aG.length < 2199023255552 then (qQ9.l0 k1 l0 (aG ++ [(⟨(qQu l0 aA).f0, (qQu l0 aA).f1, (qQu l0 aA).f2, (qQu l0 aA).f3, (qQu l0 aA).f4, cM⟩ : S54)]) (wrap64 (aA + 1))) else (none)) = some r := by exact hyq H hU
  have lW := am hU
  clear hU
  by_cases c5 : aG.length < 2199023255552
  case neg =>
   rw [if_neg c5] at H
   exact absurd H (by simp)
  rw [if_pos c5] at H
  have n1 := am c5
  clear c5
  obtain ⟨mV, hV⟩ : ∃ y_ : List (S54), y_ = (aG ++ [(⟨(qQu l0 aA).f0, (qQu l0 aA).f1, (qQu l0 aA).f2, (qQu l0 aA).f3, (qQu l0 aA).f4, cM⟩ : S54)]) := ⟨_, rfl⟩
  replace H : (qQ9.l0 k1 l0 mV (wrap64 (aA + 1))) = some r := by exact hyq H hV
  have lX := am hV
  clear hV
  have H' := am H
  clear H
  have kT : 0 <= (aA : Int) := yd
  have kU : aA < (l0.length : Int) := yd
  obtain ⟨oY, cZ, dD, n2, gT, gU, gV, gW, gX, gY, gS, gR⟩ := zQm fD.out aA kT kU
  cases n2
  replace gT := hxb HB.out gT
  replace gU := hxb HB.out gU
  replace gV := hxb HB.out gV
  replace gW := hxb HB.out gW
  replace gX := hxb HB.out gX
  replace gY := hxb HB.out gY
  have h2 := am gR
  have mX := am gS
  clear gR gS
  replace kT := eq_true kT
  replace kU := eq_true kU
  go_wp2_with (first | ((with_reducible refine gd 5 ?_); refine bE 5 _ 54 ?_; intro aH hg w6 hbox hb; replace cG := am (Kd.qVa (Kd.zVp (by (with_reducible repeat (first | apply Kd.qXw | apply Kd.qXx | apply Kd.qWh)); exact cG.out) aH (Nat.le_of_eq hg.symm)) hb); have aD := am hbox; have oR := e0 HB hg; have cP := e0 HB hg; replace HB := s0 HB hb; clear hb hbox hg; have dE : w6.cell? ⟨aH, 0, none⟩ = some (.int .i64 0) := (qQa aD.out 0).trans rfl; have dF : w6.cell? ⟨aH, 1, none⟩ = some (.int .i64 0) := (qQa aD.out 1).trans rfl; have dG : w6.cell? ⟨aH, 2, none⟩ = some (.int .i64 0) := (qQa aD.out 2).trans rfl; have n6 : w6.cell? ⟨aH, 3, none⟩ = some (.int .i64 0) := (qQa aD.out 3).trans rfl; have n7 : w6.cell? ⟨aH, 4, none⟩ = some (.int .i64 0) := (qQa aD.out 4).trans rfl; have n8 : w6.cell? ⟨aH, 5, none⟩ = some (.slice none 0 0) := (qQa aD.out 5).trans rfl; have dH := qQd aD.out 0; have dI := qQd aD.out 1; have dJ := qQd aD.out 2; have oB := qQd aD.out 3; have oC := qQd aD.out 4; have oD := qQd aD.out 5) | ((with_reducible refine gd 16 ?_); refine Kd.R_lit (Kd.int .i64) _ 3 ?hg (N := 16) ?hd (xs := ([] : List Int)) (inner := []) (ok := fun _ => True) (okp := fun _ => True) ?hr ?hp (fun _ hk => hk) trivial (Below.refl _ _) (Nat.le_refl _) (by simp) ?_; (case hd => rfl); (case hg => rfl); (case hr => first | (go_simp; done) | (go_simp; rfl)); (case hp => exact (Reps.none _ _)); intro oO w8 lR hb hg_ hnew_; clear hg_ hnew_; (first | rw [<- jR.out] at lR | (simp only [Int.reduceToNat] at lR; rw [<- jR.out] at lR)); replace cG := am (Kd.qJ6 (by (with_reducible repeat (first | apply Kd.qXw | apply Kd.qXx | apply Kd.qWh)); exact (Kd.qW5 (Kd.S_far (p := ⟨aH, 5, none⟩) (Kd.S_far (p := ⟨aH, 4, none⟩) (Kd.S_far (p := ⟨aH, 3, none⟩) (Kd.S_far (p := ⟨aH, 2, none⟩) (Kd.S_far (p := ⟨aH, 1, none⟩) (Kd.S_far (p := ⟨aH, 0, none⟩) (Kd.qW5 cG.out (fun k_ hk => (⟨hk, hk.2⟩ : _ /\ k_ ≠ aH))) (fun _ hk => hk.2) (.int .i64 ((qQu l0 aA).f0))) (fun _ hk => hk.2) (.int .i64 ((qQu l0 aA).f1))) (fun _ hk => hk.2) (.int .i64 ((qQu l0 aA).f2))) (fun _ hk => hk.2) (.int .i64 ((qQu l0 aA).f3))) (fun _ hk => hk.2) (.int .i64 ((qQu l0 aA).f4))) (fun _ hk => hk.2) (.slice cZ ((qQu l0 aA).f5).length dD)) (fun _ h_ => h_.1))) (Kd.zYf lR) hb); have hC := am (Kd.qZ1 lR (qQn (by exact h1q HB.out cP.out))); replace aD := am (qQv (g := aH) (o := .cells #[.int .i64 ((qQu l0 aA).f0), .int .i64 ((qQu l0 aA).f1), .int .i64 ((qQu l0 aA).f2), .int .i64 ((qQu l0 aA).f3), .int .i64 ((qQu l0 aA).f4), .slice cZ ((qQu l0 aA).f5).length dD] 54 (0, 0)) (by refine bw ?_; refine qQ0 (cs := #[.int .i64 ((qQu l0 aA).f0), .int .i64 ((qQu l0 aA).f1), .int .i64 ((qQu l0 aA).f2), .int .i64 ((qQu l0 aA).f3), .int .i64 ((qQu l0 aA).f4), .slice none 0 0]) ?_ 5 _ rfl; refine bw ?_; refine qQ0 (cs := #[.int .i64 ((qQu l0 aA).f0), .int .i64 ((qQu l0 aA).f1), .int .i64 ((qQu l0 aA).f2), .int .i64 ((qQu l0 aA).f3), .int .i64 0, .slice none 0 0]) ?_ 4 _ rfl; refine bw ?_; refine qQ0 (cs := #[.int .i64 ((qQu l0 aA).f0), .int .i64 ((qQu l0 aA).f1), .int .i64 ((qQu l0 aA).f2), .int .i64 0, .int .i64 0, .slice none 0 0]) ?_ 3 _ rfl; refine bw ?_; refine qQ0 (cs := #[.int .i64 ((qQu l0 aA).f0), .int .i64 ((qQu l0 aA).f1), .int .i64 0, .int .i64 0, .int .i64 0, .slice none 0 0]) ?_ 2 _ rfl; refine bw ?_; refine qQ0 (cs := #[.int .i64 ((qQu l0 aA).f0), .int .i64 0, .int .i64 0, .int .i64 0, .int .i64 0, .slice none 0 0]) ?_ 1 _ rfl; refine bw ?_; refine qQ0 (cs := #[.int .i64 0, .int .i64 0, .int .i64 0, .int .i64 0, .int .i64 0, .slice none 0 0]) ?_ 0 _ rfl; refine bw ?_; exact aD.out) hb); replace HB := s1 HB cP hb; clear hb lR; have h6 : w8.cell? ⟨aH, 0, none⟩ = some (.int .i64 ((qQu l0 aA).f0)) := (qQa aD.out 0).trans rfl; have h7 : w8.cell? ⟨aH, 1, none⟩ = some (.int .i64 ((qQu l0 aA).f1)) := (qQa aD.out 1).trans rfl; have h8 : w8.cell? ⟨aH, 2, none⟩ = some (.int .i64 ((qQu l0 aA).f2)) := (qQa aD.out 2).trans rfl; have m4 : w8.cell? ⟨aH, 3, none⟩ = some (.int .i64 ((qQu l0 aA).f3)) := (qQa aD.out 3).trans rfl; have m5 : w8.cell? ⟨aH, 4, none⟩ = some (.int .i64 ((qQu l0 aA).f4)) := (qQa aD.out 4).trans rfl; have m6 : w8.cell? ⟨aH, 5, none⟩ = some (.slice cZ ((qQu l0 aA).f5).length dD) := (qQa aD.out 5).trans rfl; have iR := qQd aD.out 0; have iS := qQd aD.out 1; have iT := qQd aD.out 2; have nI := qQd aD.out 3; have nJ := qQd aD.out 4; have nK := qQd aD.out 5) | ((with_reducible refine qY9 (b := .append) (xs := #[.tmp 16, .tmp 18]) rfl ?_); at_builtin; refine Kd.qWg (Kd.int .i64) (w0 := w) w.heap.size rfl (.tmp 16) (.tmp 18) 32 3 (.int .i64 0) 8 rfl Tryz.underlying32 info3 rfl (by decide) (by omega) oO fA ((qQu l0 aA).f5) _ _ _ (fun _ => True) (fun _ => False) rfl rfl ?aO ?aR (fun _ _ h => h) (fun _ h => h.elim) ?aF ?aB ?aS ?aL ?_; (case aR => exact cq ((Kd.qZp h2.out HB.out))); (case aB => exact (by exact h1q HB.out cP.out)); (case aF => exact (fun _ _ => trivial)); (case aO => exact (by exact rq hC.out)); (case aS => exact (qQn (by exact h1q HB.out cP.out))); (case aL => have := n0.out; omega); intro qR lC ho hb hg hat; rw [<- lW.out] at ho; replace cG := am (Kd.zJa (ok := (fun k_ => k_ ≠ aH)) (by (with_reducible repeat (first | apply Kd.qXw | apply Kd.qXx | apply Kd.qWh)); exact Kd.qW5 cG.out (fun _ hk => ⟨hk.1.2, hk.2⟩)) hg hat); replace aD := bG aD hg hC; replace HB := am hb; have dA := am ho; clear hC; clear ho hb hg hat; obtain ⟨dT, dZ, n3⟩ := Kd.qZq dA.out; subst n3; have m7 : lC.cell? ⟨aH, 0, none⟩ = some (.int .i64 ((qQu l0 aA).f0)) := (qQa aD.out 0).trans rfl; have m8 : lC.cell? ⟨aH, 1, none⟩ = some (.int .i64 ((qQu l0 aA).f1)) := (qQa aD.out 1).trans rfl; have m9 : lC.cell? ⟨aH, 2, none⟩ = some (.int .i64 ((qQu l0 aA).f2)) := (qQa aD.out 2).trans rfl; have nA : lC.cell? ⟨aH, 3, none⟩ = some (.int .i64 ((qQu l0 aA).f3)) := (qQa aD.out 3).trans rfl; have nB : lC.cell? ⟨aH, 4, none⟩ = some (.int .i64 ((qQu l0 aA).f4)) := (qQa aD.out 4).trans rfl; have nC : lC.cell? ⟨aH, 5, none⟩ = some (.slice cZ ((qQu l0 aA).f5).length dD) := (qQa aD.out 5).trans rfl; have nM := qQd aD.out 0; have nN := qQd aD.out 1; have nO := qQd aD.out 2; have nP := qQd aD.out 3; have nQ := qQd aD.out 4; have nR := qQd aD.out 5) | ((with_reducible refine qXv (t := 32) (p := 20) rfl ?_); refine qXp (t := 32) (p := 20) (v := ?vo_w14) (w1 := (lC.setCell ⟨aH, 5, none⟩ (.slice dT cM.length dZ))) ?hg ?ho ?hn ?hr ?_; (case ho => rfl); (case hg => rfl); (case hn => rfl); (case hr => first | (go_simp; done) | (go_simp; rfl)); intro g8 hw; have hW : Aside0 (Kd.S k54 54 g8 w.heap.size (fun k_ => some k_ ≠ (.slice dT cM.length dZ : Value).ownBlock /\ k_ ≠ aH) u3 aG) := ⟨(by rw [hw]; exact (by (with_reducible repeat (first | apply Kd.qXw | apply Kd.qXx | apply Kd.qWh)); exact Kd.qW5 (Kd.S_far (p := ⟨aH, 5, none⟩) (Kd.qW5 cG.out (fun k_ hk => (⟨hk, hk.1⟩ : _ /\ k_ ≠ aH))) (fun _ hk => hk.2) (.slice dT cM.length dZ)) (fun _ hk => ⟨hk.1.2, hk.1.1⟩)))⟩; have hX : Aside0 (Kd.R (Kd.int .i64) 3 g8 w.heap.size (fun _ => True) (.slice dT cM.length dZ) cM) := ⟨(by rw [hw]; exact (by refine rw_ ?_; exact Kd.qQ4 (Kd.R_far (p := ⟨aH, 5, none⟩) (Kd.qZy dA.out aD.out (by decide)) (fun _ hk => hk.2) (.slice dT cM.length dZ)) (fun _ hk => trivial)))⟩; have mT : Aside0 (g8.heap[aH]? = some (.cells #[.int .i64 ((qQu l0 aA).f0), .int .i64 ((qQu l0 aA).f1), .int .i64 ((qQu l0 aA).f2), .int .i64 ((qQu l0 aA).f3), .int .i64 ((qQu l0 aA).f4), .slice dT cM.length dZ] 54 (0, 0))) := ⟨(by rw [hw]; exact (by refine bw ?_; refine qQ0 (cs := #[.int .i64 ((qQu l0 aA).f0), .int .i64 ((qQu l0 aA).f1), .int .i64 ((qQu l0 aA).f2), .int .i64 ((qQu l0 aA).f3), .int .i64 ((qQu l0 aA).f4), .slice cZ ((qQu l0 aA).f5).length dD]) ?_ 5 _ rfl; refine bw ?_; exact aD.out))⟩; have pN : Aside0 (Below w.heap.size w g8) := ⟨(by rw [hw]; exact (by exact h1q HB.out cP.out))⟩; clear hw; clear cG; clear dA; clear aD; clear HB; have cG := hW; have dA := hX; have aD := mT; have HB := pN; clear hW hX mT pN; have fV : g8.cell? ⟨aH, 0, none⟩ = some (.int .i64 ((qQu l0 aA).f0)) := (qQa aD.out 0).trans rfl; have fW : g8.cell? ⟨aH, 1, none⟩ = some (.int .i64 ((qQu l0 aA).f1)) := (qQa aD.out 1).trans rfl; have fX : g8.cell? ⟨aH, 2, none⟩ = some (.int .i64 ((qQu l0 aA).f2)) := (qQa aD.out 2).trans rfl; have iC : g8.cell? ⟨aH, 3, none⟩ = some (.int .i64 ((qQu l0 aA).f3)) := (qQa aD.out 3).trans rfl; have iD : g8.cell? ⟨aH, 4, none⟩ = some (.int .i64 ((qQu l0 aA).f4)) := (qQa aD.out 4).trans rfl; have iE : g8.cell? ⟨aH, 5, none⟩ = some (.slice dT cM.length dZ) := (qQa aD.out 5).trans rfl; have gF := qQd aD.out 0; have gG := qQd aD.out 1; have gH := qQd aD.out 2; have iX := qQd aD.out 3; have iY := qQd aD.out 4; have iZ := qQd aD.out 5) | ((with_reducible refine qY9 (b := .append) (xs := #[.tmp 21, .tmp 23]) rfl ?_); at_builtin; refine Kd.zVo k54 (w0 := w) w.heap.size rfl (.tmp 21) (.tmp 23) 24 54 (.agg #[(.int .i64 0), (.int .i64 0), (.int .i64 0), (.int .i64 0), (.int .i64 0), (.slice none 0 0)]) 64 rfl Tryz.underlying24 info54 rfl (by decide) (by omega) u3 aG (⟨(qQu l0 aA).f0, (qQu l0 aA).f1, (qQu l0 aA).f2, (qQu l0 aA).f3, (qQu l0 aA).f4, cM⟩ : S54) [.int .i64 ((qQu l0 aA).f0), .int .i64 ((qQu l0 aA).f1), .int .i64 ((qQu l0 aA).f2), .int .i64 ((qQu l0 aA).f3), .int .i64 ((qQu l0 aA).f4), .slice dT cM.length dZ] (fun k_ => k_ ≠ aH) (fun k_ => some k_ = (.slice dT cM.length dZ : Value).ownBlock) rfl rfl ?aP (fun k_ hk_ => ((Kd.qQ4 (ok' := fun k_ => ((fun k_ => k_ ≠ aH)) k_ /\ some k_ ≠ (u3 : Value).ownBlock) (Kd.qZy (Kd.zYe (dA.out) (Kd.zXy cG.out) (by decide)) aD.out (by decide)) (fun k_ hk => ⟨hk.2, hk.1.2⟩))).1 k_ hk_.symm) ?aF ?aO ?aB ?aS ?aL ?_; (case aP => exact zJn _ _ _ (⟨(qQu l0 aA).f0, (qQu l0 aA).f1, (qQu l0 aA).f2, (qQu l0 aA).f3, (qQu l0 aA).f4, cM⟩ : S54) (Kd.qQ4 (Kd.zK9 rfl (Kd.qQ4 (ok' := fun k_ => ((fun k_ => k_ ≠ aH)) k_ /\ some k_ ≠ (u3 : Value).ownBlock) (Kd.qZy (Kd.zYe (dA.out) (Kd.zXy cG.out) (by decide)) aD.out (by decide)) (fun k_ hk => ⟨hk.2, hk.1.2⟩))) (fun _ h_ => h_))); (case aB => exact (by exact h1q HB.out cP.out)); (case aF => exact (fun k_ hk => Kd.freshB (g := aH) (Up.up aD.out) k_ hk)); (case aO => exact (by (with_reducible repeat (first | apply Kd.qXw | apply Kd.qXx | apply Kd.qWh)); exact Kd.qW5 cG.out (fun k_ hk => ⟨hk.2, fun e_ => hk.1 e_⟩))); (case aS => exact (qQn (by exact h1q HB.out cP.out))); (case aL => have := n1.out; omega); intro qS pS ho hb hg hat; rw [<- lX.out] at ho; have hW := am (qVk (g := aH) (Up.up aD.out) hg (Kd.S_away cG.out (fun _ hk => hk.2))); have hX := am (hb); have mT := am (ho); clear aD; clear HB; clear cG; clear dA; have aD := hW; have HB := hX; have lV := mT; clear hW hX mT; clear ho hb hg hat))
  go_roundg k1
  case measure => have := g2.out; omega
  case rel => exact ⟨(mV), (wrap64 (aA + 1)), fr, H', o1 g2, ⟨by (with_reducible repeat (first | apply Kd.qXw | apply Kd.qXx | apply Kd.qWh)); exact Kd.qW5 lV.out (fun _ hk => trivial)⟩, a1_ HB cP⟩
def qZh.f (k : Nat) (bD : Int) (b7 : List (S48)) (aZ bL bJ bF : Int) (b8 : List (S54)) (a6 aX bH aQ aT aN : Int) : Option (Int × (List (S48)) × Int × Int × Int × Int × (List (S54)) × Int × Int × Int × Int × Int × Int) := (qYl.f b7).bind fun fJ => ((qQ9.f k b8).bind fun fK => (some (bD, fJ, aZ, bL, bJ, bF, fK, a6, aX, bH, aQ, aT, aN)))
def qZh.T1 : Bool × List (List Nat × List Nat) := (true, [([], []), ([0], [0]), ([1], [1]), ([], []), ([3], [3]), ([4, 2], [4]), ([0, 1, 2, 3, 4], []), ([6, 2, 5, 0, 1, 2, 3, 4], [2, 6]), ([0, 1, 2, 3, 4, 5, 6, 7], []), ([8, 5, 7, 0, 1, 2, 3, 4, 5, 6, 7], [5, 8])])
def qZh.B1 : List Nat := [0, 1, 3, 0, 8, 31, 31, 127, 255, 511]
theorem qZh.tab1 : rtab .any (opsOf Tryz.f7 1) = qZh.T1 := by kernel_rfl
theorem qZh.bits1 : waitsOk qZh.T1.2 qZh.B1 = true := by kernel_rfl
set_option maxHeartbeats 8000000 in
set_option maxRecDepth 100000 in
theorem qZh.calls (k : Nat) (bD : Int) (eV : Option Addr) (eZ : Nat) (b7 : List (S48)) (aZ bL bJ bF : Int) (eW : Option Addr) (e2 : Nat) (b8 : List (S54)) (a6 aX bH aQ aT aN r1 : Int) (r2 : List (S48)) (r3 r4 r5 r6 : Int) (r7 : List (S54)) (r8 r9 pO pP pQ pR : Int) (w : World) (e6 : Kd.C k48 w eV b7.length b7) (e4 : b7.length <= eZ) (e7 : Kd.C k54 w eW b8.length b8) (e5 : b8.length <= e2) (h : qZh.f k bD b7 aZ bL bJ bF b8 a6 aX bH aQ aT aN = some (r1, r2, r3, r4, r5, r6, r7, r8, r9, pO, pP, pQ, pR)) :
  Calls Tryz.prog 7 #[.agg #[.int .i64 bD, .slice eV b7.length eZ, .int .i64 aZ, .int .i64 bL, .int .i64 bJ, .int .i64 bF, .slice eW b8.length e2, .int .i64 a6, .int .i64 aX, .int .i64 bH, .int .i64 aQ, .int .i64 aT, .int .i64 aN]] w fun e w' => ∃ v1_ v6_ : Value, e = .returned (.agg #[.int .i64 r1, v1_, .int .i64 r3, .int .i64 r4, .int .i64 r5, .int .i64 r6, v6_, .int .i64 r8, .int .i64 r9, .int .i64 pO, .int .i64 pP, .int .i64 pQ, .int .i64 pR]) /\ Kd.R k48 48 w' w.heap.size (fun _ => True) v1_ r2 /\ Kd.S k54 54 w' w.heap.size (fun _ => True) v6_ r7 /\ Below w.heap.size w w' := by
 have oE := Tryz.underlying28
 have jP := am e6
 have jM := am e4
 clear e6 e4
 have jQ := am e7
 have jN := am e5
 clear e7 e5
 have HB := am (Below.refl w.heap.size w)
 have H := h
 unfold qZh.f at H
 clear h
 obtain ⟨fJ, A2, H⟩ := bd H
 obtain ⟨fK, A3, H⟩ := bd H
 simp only [Option.some.injEq, Prod.mk.injEq] at H
 obtain ⟨rfl, rfl, rfl, rfl, rfl, rfl, rfl, rfl, rfl, rfl, rfl, rfl, rfl⟩ := H
 go_enter Tryz.func7, Tryz.ntmps7
 try go_wp2_with (first | ((with_reducible refine gd 1 ?_); refine bE 1 _ 28 ?_; intro bI hg w4 hbox hb; have a4 := am hbox; have oS := e0 HB hg; have cQ := e0 HB hg; replace HB := s0 HB hb; clear hb hbox hg) | ((with_reducible refine gd 2 ?_); refine bE 2 _ 28 ?_; intro bR hg w5 hbox hb; have b5 := am hbox; have oT := e1 HB cQ hg; have eY := e1 HB cQ hg; replace HB := s1 HB cQ hb; have cN := nL a4 hg; have b9 := nG a4 hg; replace a4 := bB a4 hb; clear hb hbox hg))
 replace a4 := am (qXf a4.out)
 replace b5 := am (qXf b5.out)
 replace HB := am (qZk HB.out)
 refine start_ (n := 10) (S := fun w' => w'.cell? ⟨bI, 0, none⟩ = some (.int .i64 bD) /\ w'.cell? ⟨bI, 1, none⟩ = some (.slice eV b7.length eZ) /\ w'.cell? ⟨bI, 2, none⟩ = some (.int .i64 aZ) /\ w'.cell? ⟨bI, 3, none⟩ = some (.int .i64 bL) /\ w'.cell? ⟨bI, 4, none⟩ = some (.int .i64 bJ) /\ w'.cell? ⟨bI, 5, none⟩ = some (.int .i64 bF) /\ w'.cell? ⟨bI, 6, none⟩ = some (.slice eW b8.length e2) /\ w'.cell? ⟨bI, 7, none⟩ = some (.int .i64 a6) /\ w'.cell? ⟨bI, 8, none⟩ = some (.int .i64 aX) /\ w'.cell? ⟨bI, 9, none⟩ = some (.int .i64 bH) /\ w'.cell? ⟨bI, 10, none⟩ = some (.int .i64 aQ) /\ w'.cell? ⟨bI, 11, none⟩ = some (.int .i64 aT) /\ w'.cell? ⟨bI, 12, none⟩ = some (.int .i64 aN)) (ds := [7, 9]) #[false, false, false, false, false, false, false, false, false, false] (by kernel_rfl) rfl rfl (bcs a4) (fun hHeld => ?_); refine qX5 qZh.tab1 qZh.bits1 (fun HT_ HW_ => ?_)
 generalize w5.drew = w6 at a4 b5 HB hHeld ⊢
 refine pure_ (i := 0) (N := some 3) (v := ?_) (a' := ?_) #[true, false, false, false, false, false, false, false, false, false] rfl rfl (qZ0 HT_.out (by kernel_rfl)) (fun _ _ _ h => h) (Or.inl ⟨by rfl, ?_⟩) ?_ ?_
 rotate_left
 ·intro w'
  go_simp
  with_reducible rfl
 rotate_left
 ·exact pu
 refine pure_ (i := 3) (N := some 6) (v := ?_) (a' := ?_) #[true, false, false, true, false, false, false, false, false, false] rfl rfl (qZ0 HT_.out (by kernel_rfl)) (fun _ _ _ h => h) (Or.inl ⟨by rfl, ?_⟩) ?_ ?_
 rotate_left
 ·intro w'
  go_simp
  with_reducible rfl
 rotate_left
 ·exact pu
 refine take_ (i := 1) (N := some 4) (v := ?_) (a' := ?_) #[true, true, false, true, false, false, false, false, false, false] rfl rfl (qXm HT_.out HW_.out (by kernel_rfl)) (fun _ _ _ h => h) (Or.inl ⟨by rfl, ?_⟩) hHeld ?_ ?_
 rotate_left
 ·rintro w' ⟨s0, s1, s2, s3, s4, s5, s6, s7, s8, s9, s10, s11, s12⟩
  go_simp
  with_reducible rfl
 rotate_left
 ·exact pu
 refine take_ (i := 4) (N := some 7) (v := ?_) (a' := ?_) #[true, true, false, true, true, false, false, false, false, false] rfl rfl (qXm HT_.out HW_.out (by kernel_rfl)) (fun _ _ _ h => h) (Or.inl ⟨by rfl, ?_⟩) hHeld ?_ ?_
 rotate_left
 ·rintro w' ⟨s0, s1, s2, s3, s4, s5, s6, s7, s8, s9, s10, s11, s12⟩
  go_simp
  with_reducible rfl
 rotate_left
 ·exact pu
 refine one_ (i := 2) (N := some 5) #[true, true, true, true, true, false, false, false, false, false] rfl rfl (qXj HT_.out (by kernel_rfl)) (by decide) (fun K hK => ?_)
 refine goes_ Tryz.func20 (by kernel_rfl) rfl #[.slice eV b7.length eZ] (by rfl) rfl rfl ml ?_
 with_reducible refine (qYl.calls _ _ _ fJ _ ?side1 ?side2 A2.out).mono ?_
 (case side1 => exact cq ((Kd.qZp jP.out HB.out)))
 (case side2 => exact jM.out)
 rintro e w7 ⟨qT, rfl, mO, hb⟩
 refine ⟨_, rfl, ?_⟩
 have fN := am (Kd.qZ1 mO (qQn (by exact h2q HB.out cQ.out eY.out)))
 replace a4 := bB a4 hb
 replace b5 := bB b5 hb
 replace HB := s2 HB cQ eY hb
 (try clear hb)
 (try clear hb2)
 (try clear hk)
 (try clear hi)
 (try clear mO)
 refine hK.out _ _ (bcs a4) (fun hHeld => ?_)
 clear hK K
 refine norm_ (a' := ?_) ?_ ?_
 rotate_left
 ·show Act.put _ (some 5) _ = _
  exact pu
 refine pure_ (i := 6) (N := some 9) (v := ?_) (a' := ?_) #[true, true, true, true, true, false, true, false, false, false] rfl rfl (qZ0 HT_.out (by kernel_rfl)) (fun _ _ _ h => h) (Or.inl ⟨by rfl, ?_⟩) ?_ ?_
 rotate_left
 ·intro w'
  go_simp
  with_reducible rfl
 rotate_left
 ·exact pu
 refine one_ (i := 5) (N := some 8) #[true, true, true, true, true, true, true, false, false, false] rfl rfl (qXj HT_.out (by kernel_rfl)) (by decide) (fun K hK => ?_)
 refine goes_ Tryz.func21 (by kernel_rfl) rfl #[.slice eW b8.length e2] (by rfl) rfl rfl ml ?_
 with_reducible refine (qQ9.calls _ _ _ _ fK _ ?side1 ?side2 A3.out).mono ?_
 (case side1 => exact cq ((Kd.qZp jQ.out HB.out)))
 (case side2 => exact jN.out)
 rintro e w8 ⟨qU, rfl, mO, hb⟩
 refine ⟨_, rfl, ?_⟩
 replace fN := Rb fN hb
 have jO := am (Kd.zXw mO (qQn (by exact h2q HB.out cQ.out eY.out)))
 replace a4 := bB a4 hb
 replace b5 := bB b5 hb
 replace HB := s2 HB cQ eY hb
 (try clear hb)
 (try clear hb2)
 (try clear hk)
 (try clear hi)
 (try clear mO)
 obtain ⟨mW, m3, oZ⟩ := Kd.qZq fN.out
 (first | subst oZ | (injection oZ with f1_ f2_ f3_; have f4_ := f1_.symm; have f5_ := f3_.symm; clear f1_ f2_ f3_; subst f4_; subst f5_))
 obtain ⟨h0, h5, mG⟩ := Kd.zXx jO.out
 (first | subst mG | (injection mG with f1_ f2_ f3_; have f4_ := f1_.symm; have f5_ := f3_.symm; clear f1_ f2_ f3_; subst f4_; subst f5_))
 refine hK.out _ _ (bcs a4) (fun hHeld => ?_)
 clear hK K
 refine norm_ (a' := ?_) ?_ ?_
 rotate_left
 ·show Act.put _ (some 8) _ = _
  exact pu
 refine last_ (i := 7) (N := none) #[true, true, true, true, true, true, true, true, false, false] rfl rfl (qXj HT_.out (by kernel_rfl)) (by decide) (fun K hK => ?_)
 have hs10 : w8.cell? ⟨bI, 1, none⟩ = some (.slice eV b7.length eZ) := (qQa a4.out 1).trans rfl
 have hfs10 := qQd a4.out 1
 have hns10_1 := b9.out
 have hms10_1 := cN.out
 refine skip_ (w1 := ?_) (by rfl) rfl ?_ ?_
 rotate_left
 ·go_simp
  rfl
 refine hK.out _ _ ?_
 clear hK K
 refine pure_ (i := 8) (N := some 10) (v := ?_) (a' := ?_) #[true, true, true, true, true, true, true, true, true, false] rfl rfl (qZ0 HT_.out (by kernel_rfl)) (fun _ _ _ h => h) (Or.inl ⟨by rfl, ?_⟩) ?_ ?_
 rotate_left
 ·intro w'
  go_simp
  with_reducible rfl
 rotate_left
 ·exact pu
 refine last_ (i := 9) (N := none) #[true, true, true, true, true, true, true, true, true, true] rfl rfl (qXj HT_.out (by kernel_rfl)) (by decide) (fun K hK => ?_)
 have hs12 : w8.cell? ⟨bI, 6, none⟩ = some (.slice eW b8.length e2) := (qQa a4.out 6).trans rfl
 have hfs12 := qQd a4.out 6
 have hns12_1 := b9.out
 have hms12_1 := cN.out
 refine skip_ (w1 := ?_) (by rfl) rfl ?_ ?_
 rotate_left
 ·go_simp
  rfl
 refine hK.out _ _ ?_
 clear hK K
 refine done_ (qW0 HT_.out (by kernel_rfl)) ?_
 have o3 := cN.out
 have pD := b9.out
 have oH := lc13 a4.out
 obtain ⟨fV, fW, fX, iC, iD, iE, nD, nE, nF, nH, mI, mJ, mK, gF, gG, gH, iX, iY, iZ, nS, nT, nU, nV, mL, mM, mN⟩ := lc13 b5.out
 try go_wp2
 refine bodyPost_ret (results_cell_row rfl _ _ bR 28 #[.int .i64 bD, .slice mW fJ.length m3, .int .i64 aZ, .int .i64 bL, .int .i64 bJ, .int .i64 bF, .slice h0 fK.length h5, .int .i64 a6, .int .i64 aX, .int .i64 bH, .int .i64 aQ, .int .i64 aT, .int .i64 aN] (0, 0) _ rfl (by refine bw ?_; apply qY6; (iterate 2 (refine bw ?_; refine qZ8 ?_ b9.out _)); refine bw ?_; exact b5.out) Tryz.underlying28 rfl (by kernel_rfl)) rfl ?_
 exact ⟨_, _, er, by refine rw_ ?_; exact Kd.qQ4 (qYt (Kd.R_far (p := ⟨bI, 6, none⟩) (Kd.R_far (p := ⟨bI, 1, none⟩) (Kd.qZy (Kd.qZy fN.out a4.out (by decide)) b5.out (by decide)) (fun _ hk => hk.1.2) (.slice mW fJ.length m3)) (fun _ hk => hk.1.2) (.slice h0 fK.length h5)) (fun _ hk => hk.2)) (fun _ hk => trivial), by (with_reducible repeat (first | apply Kd.qXw | apply Kd.qXx | apply Kd.qWh)); exact Kd.qW5 (Kd.S_far (p := ⟨bR, 12, none⟩) (Kd.S_far (p := ⟨bR, 11, none⟩) (Kd.S_far (p := ⟨bR, 10, none⟩) (Kd.S_far (p := ⟨bR, 9, none⟩) (Kd.S_far (p := ⟨bR, 8, none⟩) (Kd.S_far (p := ⟨bR, 7, none⟩) (Kd.S_far (p := ⟨bR, 6, none⟩) (Kd.S_far (p := ⟨bR, 5, none⟩) (Kd.S_far (p := ⟨bR, 4, none⟩) (Kd.S_far (p := ⟨bR, 3, none⟩) (Kd.S_far (p := ⟨bR, 2, none⟩) (Kd.S_far (p := ⟨bR, 1, none⟩) (Kd.S_far (p := ⟨bR, 0, none⟩) (Kd.S_far (p := ⟨bI, 6, none⟩) (Kd.S_far (p := ⟨bI, 1, none⟩) (Kd.qKu (Kd.qKu jO.out a4.out (by decide)) b5.out (by decide)) (fun _ hk => hk.1.2) (.slice mW fJ.length m3)) (fun _ hk => hk.1.2) (.slice h0 fK.length h5)) (fun _ hk => hk.2) (.int .i64 bD)) (fun _ hk => hk.2) (.slice mW fJ.length m3)) (fun _ hk => hk.2) (.int .i64 aZ)) (fun _ hk => hk.2) (.int .i64 bL)) (fun _ hk => hk.2) (.int .i64 bJ)) (fun _ hk => hk.2) (.int .i64 bF)) (fun _ hk => hk.2) (.slice h0 fK.length h5)) (fun _ hk => hk.2) (.int .i64 a6)) (fun _ hk => hk.2) (.int .i64 aX)) (fun _ hk => hk.2) (.int .i64 bH)) (fun _ hk => hk.2) (.int .i64 aQ)) (fun _ hk => hk.2) (.int .i64 aT)) (fun _ hk => hk.2) (.int .i64 aN)) (fun _ hk => trivial), by exact h2q HB.out cQ.out eY.out⟩
def qYg.f (bD cA aZ bL bJ bF : Int) (cV : Bool) (a6 aX bH aQ aT aN : Int) : Option (Bool) := if aX = 0 then (some (a6 == 5)) else (some false)
set_option maxHeartbeats 8000000 in
set_option maxRecDepth 100000 in
theorem qYg.calls (bD cA aZ bL bJ bF : Int) (cV : Bool) (a6 aX bH aQ aT aN : Int) (r : Bool) (w : World) (h : qYg.f bD cA aZ bL bJ bF cV a6 aX bH aQ aT aN = some r) :
  Calls Tryz.prog 13 #[.agg #[.int .i64 bD, .int .i64 cA, .int .i64 aZ, .int .i64 bL, .int .i64 bJ, .int .i64 bF, .bool cV, .int .i64 a6, .int .i64 aX, .int .i64 bH, .int .i64 aQ, .int .i64 aT, .int .i64 aN]] w fun e w' => e = .returned (.bool r) /\ Below w.heap.size w w' := by
 have mR := Tryz.underlying48
 have HB := am (Below.refl w.heap.size w)
 have H := h
 unfold qYg.f at H
 clear h
 by_cases c2 : aX = 0
 case neg =>
  rw [if_neg c2] at H
  have bT := beq_eq_false_iff_ne.mpr c2
  have kK := bne_iff_ne.mpr c2
  obtain rfl := Option.some.inj H
  go_enter Tryz.func13, Tryz.ntmps13
  go_wp2_with (first | ((with_reducible refine gd 1 ?_); refine bE 1 _ 48 ?_; intro mH hg w5 hbox hb; have g9 := am hbox; have lT := e0 HB hg; have hA := e0 HB hg; replace HB := s0 HB hb; clear hb hbox hg; have rB := lc13 g9.out))
  go_ret
  exact ⟨er, by exact h1q HB.out hA.out⟩
 rw [if_pos c2] at H
 have bT := beq_iff_eq.mpr c2
 have kK := bne_eq_false_iff_eq.mpr c2
 clear c2
 obtain rfl := Option.some.inj H
 go_enter Tryz.func13, Tryz.ntmps13
 go_wp2_with (first | ((with_reducible refine gd 1 ?_); refine bE 1 _ 48 ?_; intro mH hg w3 hbox hb; have g9 := am hbox; have lT := e0 HB hg; have hA := e0 HB hg; replace HB := s0 HB hb; clear hb hbox hg; have p8 := lc13 g9.out))
 go_ret
 exact ⟨er, by exact h1q HB.out hA.out⟩
def qZl.f (a0 : Int) : Option (Bool) := if a0 ≥ 0 then (some (decide (a0 <= 87658))) else (some false)
set_option maxHeartbeats 8000000 in
set_option maxRecDepth 100000 in
theorem qZl.calls (a0 : Int) (r : Bool) (w : World) (h : qZl.f a0 = some r) :
  Calls Tryz.prog 32 #[.int .i64 a0] w fun e w' => e = .returned (.bool r) /\ Drawn0 w w' := by
 have H := h
 unfold qZl.f at H
 clear h
 by_cases c2 : a0 ≥ 0
 ·rw [if_pos c2] at H
  have bT : decide (0 <= a0) = true := decide_eq_true c2
  clear c2
  obtain rfl := Option.some.inj H
  go_enter Tryz.func32, Tryz.ntmps32
  go_wp2
  go_ret
  exact ⟨fr, dr⟩
 rw [if_neg c2] at H
 have bT : decide (0 <= a0) = false := decide_eq_false c2
 clear c2
 obtain rfl := Option.some.inj H
 go_enter Tryz.func32, Tryz.ntmps32
 go_wp2
 go_ret
 exact ⟨fr, dr⟩
def qYz.f (a0 : Int) : Option (Bool) := if (Int.tmod a0 4) = 0 then (if (Int.tmod a0 100) = 0 then (some ((Int.tmod a0 400) == 0)) else (some true)) else (some ((Int.tmod a0 400) == 0))
set_option maxHeartbeats 8000000 in
set_option maxRecDepth 100000 in
theorem qYz.calls (a0 : Int) (r : Bool) (w : World) (h : qYz.f a0 = some r) :
  Calls Tryz.prog 90 #[.int .i64 a0] w fun e w' => e = .returned (.bool r) /\ Drawn0 w w' := by
 have H := h
 unfold qYz.f at H
 clear h
 by_cases c2 : (Int.tmod a0 4) = 0
 case neg =>
  rw [if_neg c2] at H
  have bT := beq_eq_false_iff_ne.mpr c2
  have kK := bne_iff_ne.mpr c2
  obtain rfl := Option.some.inj H
  go_enter Tryz.func90, Tryz.ntmps90
  go_wp2
  go_ret
  exact ⟨fr, dr⟩
 rw [if_pos c2] at H
 have bT := beq_iff_eq.mpr c2
 have kK := bne_eq_false_iff_eq.mpr c2
 clear c2
 by_cases c3 : (Int.tmod a0 100) = 0
 case neg =>
  rw [if_neg c3] at H
  have hI := beq_eq_false_iff_ne.mpr c3
  have kM := bne_iff_ne.mpr c3
  obtain rfl := Option.some.inj H
  go_enter Tryz.func90, Tryz.ntmps90
  go_wp2
  go_ret
  exact ⟨fr, dr⟩
 rw [if_pos c3] at H
 have hI := beq_iff_eq.mpr c3
 have kM := bne_eq_false_iff_eq.mpr c3
 clear c3
 obtain rfl := Option.some.inj H
 go_enter Tryz.func90, Tryz.ntmps90
 go_wp2
 go_ret
 exact ⟨fr, dr⟩
mutual
def qQm.j0 : Nat -> Int -> Int -> Bool -> Option (Int)
 | 0, _, _, _ => none
 | k + 1, x0, x5, x6 => if x6 = true then (some 31) else (if x5 = 4 then (qQm.j1 k x0 x5 (x5 == 4)) else (if x5 = 6 then (qQm.j1 k x0 x5 (x5 == 6)) else (if x5 = 9 then (qQm.j1 k x0 x5 (x5 == 9)) else (qQm.j1 k x0 x5 (x5 == 11)))))
def qQm.j1 : Nat -> Int -> Int -> Bool -> Option (Int)
 | 0, _, _, _ => none
 | k + 1, x0, x5, q2 => if q2 = true then (some 30) else (if x5 = 2 then ((qYz.f x0).bind fun kV => (if kV = true then (some 29) else (some 28))) else (some 0))
end
def qQm.f (k : Nat) (a0 a1 : Int) : Option (Int) := if a1 = 1 then (qQm.j0 k a0 a1 (a1 == 1)) else (if a1 = 3 then (qQm.j0 k a0 a1 (a1 == 3)) else (if a1 = 5 then (qQm.j0 k a0 a1 (a1 == 5)) else (if a1 = 7 then (qQm.j0 k a0 a1 (a1 == 7)) else (if a1 = 8 then (qQm.j0 k a0 a1 (a1 == 8)) else (if a1 = 10 then (qQm.j0 k a0 a1 (a1 == 10)) else (qQm.j0 k a0 a1 (a1 == 12)))))))
set_option maxHeartbeats 8000000 in
set_option maxRecDepth 100000 in
theorem qQm.calls (k : Nat) (a0 a1 r : Int) (w : World) (h : qQm.f k a0 a1 = some r) :
  Calls Tryz.prog 62 #[.int .i64 a0, .int .i64 a1] w fun e w' => e = .returned (.int .i64 r) /\ Drawn0 w w' := by
 have H := h
 unfold qQm.f at H
 clear h
 have nX := am H
 clear H
 go_enter Tryz.func62, Tryz.ntmps62
 go_upto_if 6 with (fail)
 go_cut [6] (fun v6 wc => ∃ (kq : Nat) (jJ : Bool), v6 = .bool jJ /\ Aside0 (qQm.j0 kq a0 a1 jJ = some r) /\ Aside0 (kq <= k) /\ Drawn0 w wc)
 case first =>
  have H := nX.out
  clear nX
  by_cases c4 : a1 = 1
  ·rw [if_pos c4] at H
   have dU := beq_iff_eq.mpr c4
   have kN := bne_eq_false_iff_eq.mpr c4
   clear c4
   (first | rw [dU] | (simp only [i64_w, i32_w]; rw [dU]) | skip)
   have H' := am H
   clear H
   go_wp2
   go_meet
   case rel => exact ⟨_, ((a1 == 1)), fr, H', o0, dr⟩
  rw [if_neg c4] at H
  have dU := beq_eq_false_iff_ne.mpr c4
  have kN := bne_iff_ne.mpr c4
  (first | rw [dU] | (simp only [i64_w, i32_w]; rw [dU]) | skip)
  by_cases c5 : a1 = 3
  ·rw [if_pos c5] at H
   have dV := beq_iff_eq.mpr c5
   have hL := bne_eq_false_iff_eq.mpr c5
   clear c5
   have H' := am H
   clear H
   go_wp2
   go_meet
   case rel => exact ⟨_, ((a1 == 3)), fr, H', o0, dr⟩
  rw [if_neg c5] at H
  have dV := beq_eq_false_iff_ne.mpr c5
  have hL := bne_iff_ne.mpr c5
  by_cases c6 : a1 = 5
  ·rw [if_pos c6] at H
   have bK := beq_iff_eq.mpr c6
   have dW := bne_eq_false_iff_eq.mpr c6
   clear c6
   have H' := am H
   clear H
   go_wp2
   go_meet
   case rel => exact ⟨_, ((a1 == 5)), fr, H', o0, dr⟩
  rw [if_neg c6] at H
  have bK := beq_eq_false_iff_ne.mpr c6
  have dW := bne_iff_ne.mpr c6
  by_cases c7 : a1 = 7
  ·rw [if_pos c7] at H
   have dX := beq_iff_eq.mpr c7
   have kP := bne_eq_false_iff_eq.mpr c7
   clear c7
   have H' := am H
   clear H
   go_wp2
   go_meet
   case rel => exact ⟨_, ((a1 == 7)), fr, H', o0, dr⟩
  rw [if_neg c7] at H
  have dX := beq_eq_false_iff_ne.mpr c7
  have kP := bne_iff_ne.mpr c7
  by_cases c8 : a1 = 8
  ·rw [if_pos c8] at H
   have bV := beq_iff_eq.mpr c8
   have dY := bne_eq_false_iff_eq.mpr c8
   clear c8
   have H' := am H
   clear H
   go_wp2
   go_meet
   case rel => exact ⟨_, ((a1 == 8)), fr, H', o0, dr⟩
  rw [if_neg c8] at H
  have bV := beq_eq_false_iff_ne.mpr c8
  have dY := bne_iff_ne.mpr c8
  by_cases c9 : a1 = 10
  case neg =>
   rw [if_neg c9] at H
   have b4 := beq_eq_false_iff_ne.mpr c9
   have kQ := bne_iff_ne.mpr c9
   have H' := am H
   clear H
   go_wp2
   go_meet
   case rel => exact ⟨_, ((a1 == 12)), fr, H', o0, dr⟩
  rw [if_pos c9] at H
  have b4 := beq_iff_eq.mpr c9
  have kQ := bne_eq_false_iff_eq.mpr c9
  clear c9
  have H' := am H
  clear H
  go_wp2
  go_meet
  case rel => exact ⟨_, ((a1 == 10)), fr, H', o0, dr⟩
 case rest =>
  clear nX
  try clear c4
  try clear dU kN
  try clear c5
  try clear dV hL
  try clear c6
  try clear bK dW
  try clear c7
  try clear dX kP
  try clear c8
  try clear bV dY
  try clear c9
  try clear b4 kQ
  obtain ⟨kq, jJ, rfl, HA, mY, ⟨mc2, rfl⟩⟩ := hcut
  rcases kq with _ | qK
  ·exact absurd HA.out (by simp [qQm.j0])
  have H := HA.out
  clear HA
  simp only [qQm.j0] at H
  by_cases cU : jJ = true
  ·subst cU
   rw [if_pos rfl] at H
   obtain rfl := Option.some.inj H
   go_wp2
   go_ret
   exact ⟨fr, dr⟩
  replace cU := Bool.eq_false_iff.mpr cU
  subst cU
  rw [if_neg (show ¬ (false = true) by decide)] at H
  have fC := am H
  clear H
  go_upto_if 14 with (fail)
  go_cut [14] (fun qN wc => ∃ (kq : Nat) (eO : Bool), qN = .bool eO /\ Aside0 (qQm.j1 kq a0 a1 eO = some r) /\ Aside0 (kq <= qK) /\ Drawn0 w wc)
  case first =>
   have H := fC.out
   clear fC
   by_cases jX : a1 = 4
   ·rw [if_pos jX] at H
    have dN := beq_iff_eq.mpr jX
    have jY := bne_eq_false_iff_eq.mpr jX
    clear jX
    (first | rw [dN] | (simp only [i64_w, i32_w]; rw [dN]) | skip)
    have H' := am H
    clear H
    go_wp2
    go_meet
    case rel => exact ⟨_, ((a1 == 4)), fr, H', o1 mY, dr⟩
   rw [if_neg jX] at H
   have dN := beq_eq_false_iff_ne.mpr jX
   have jY := bne_iff_ne.mpr jX
   (first | rw [dN] | (simp only [i64_w, i32_w]; rw [dN]) | skip)
   by_cases cK : a1 = 6
   ·rw [if_pos cK] at H
    have b6 := beq_iff_eq.mpr cK
    have fO := bne_eq_false_iff_eq.mpr cK
    clear cK
    have H' := am H
    clear H
    go_wp2
    go_meet
    case rel => exact ⟨_, ((a1 == 6)), fr, H', o1 mY, dr⟩
   rw [if_neg cK] at H
   have b6 := beq_eq_false_iff_ne.mpr cK
   have fO := bne_iff_ne.mpr cK
   by_cases dO : a1 = 9
   case neg =>
    rw [if_neg dO] at H
    have fP := beq_eq_false_iff_ne.mpr dO
    have jZ := bne_iff_ne.mpr dO
    have H' := am H
    clear H
    go_wp2
    go_meet
    case rel => exact ⟨_, ((a1 == 11)), fr, H', o1 mY, dr⟩
   rw [if_pos dO] at H
   have fP := beq_iff_eq.mpr dO
   have jZ := bne_eq_false_iff_eq.mpr dO
   clear dO
   have H' := am H
   clear H
   go_wp2
   go_meet
   case rel => exact ⟨_, ((a1 == 9)), fr, H', o1 mY, dr⟩
  case rest =>
   clear fC
   try clear c4
   try clear dU kN
   try clear c5
   try clear dV hL
   try clear c6
   try clear bK dW
   try clear c7
   try clear dX kP
   try clear c8
   try clear bV dY
   try clear c9
   try clear b4 kQ
   try clear cU
   try clear jX
   try clear dN jY
   try clear cK
   try clear b6 fO
   try clear dO
   try clear fP jZ
   obtain ⟨kq, eO, rfl, HA, nZ, ⟨mc10, rfl⟩⟩ := hcut
   rcases kq with _ | oJ
   ·exact absurd HA.out (by simp [qQm.j1])
   have H := HA.out
   clear HA
   simp only [qQm.j1] at H
   by_cases h3 : eO = true
   ·subst h3
    rw [if_pos rfl] at H
    obtain rfl := Option.some.inj H
    go_wp2
    go_ret
    exact ⟨fr, dr⟩
   replace h3 := Bool.eq_false_iff.mpr h3
   subst h3
   rw [if_neg (show ¬ (false = true) by decide)] at H
   by_cases fQ : a1 = 2
   case neg =>
    rw [if_neg fQ] at H
    have hG := beq_eq_false_iff_ne.mpr fQ
    have lZ := bne_iff_ne.mpr fQ
    obtain rfl := Option.some.inj H
    go_wp2
    go_ret
    exact ⟨fr, dr⟩
   rw [if_pos fQ] at H
   have hG := beq_iff_eq.mpr fQ
   have lZ := bne_eq_false_iff_eq.mpr fQ
   clear fQ
   obtain ⟨kV, oQ, H⟩ := bd H
   by_cases mZ : kV = true
   ·subst mZ
    rw [if_pos rfl] at H
    obtain rfl := Option.some.inj H
    go_wp2_with (first | ((with_reducible refine gf 90 ?_); refine gC (some 22) Tryz.func90 (qYz.calls _ true _ oQ.out) ?_; rintro e w' ⟨rfl, ⟨nd, rfl⟩⟩; refine ⟨_, rfl, ?_⟩))
    go_ret
    exact ⟨fr, dr⟩
   replace mZ := Bool.eq_false_iff.mpr mZ
   subst mZ
   rw [if_neg (show ¬ (false = true) by decide)] at H
   obtain rfl := Option.some.inj H
   go_wp2_with (first | ((with_reducible refine gf 90 ?_); refine gC (some 22) Tryz.func90 (qYz.calls _ false _ oQ.out) ?_; rintro e w' ⟨rfl, ⟨nd, rfl⟩⟩; refine ⟨_, rfl, ?_⟩))
   go_ret
   exact ⟨fr, dr⟩
def qQy.l0 : Nat -> Int -> Int -> Option (Int × Int × Int × Int)
 | 0, _, _ => none
 | k + 1, x0, x4 => (qQm.f k (wrap64 (1960 + (wrap64 (Int.tdiv x4 12)))) (wrap64 (1 + (Int.tmod x4 12)))).bind fun fL => (if x0 ≥ fL then ((qQm.f k (wrap64 (1960 + (wrap64 (Int.tdiv x4 12)))) (wrap64 (1 + (Int.tmod x4 12)))).bind fun jF => (qQy.l0 k (wrap64 (x0 - jF)) (wrap64 (x4 + 1)))) else (some (wrap64 (1960 + (wrap64 (Int.tdiv x4 12))), wrap64 (1 + (Int.tmod x4 12)), wrap64 (x0 + 1), 0)))
def qQy.f (k : Nat) (a0 : Int) : Option (Int × Int × Int × Int) := (qZl.f a0).bind fun kW => (if kW = true then (qQy.l0 k a0 0) else (some (0, 0, 0, 15)))
set_option maxHeartbeats 8000000 in
set_option maxRecDepth 100000 in
theorem qQy.calls (k : Nat) (a0 r1 r2 r3 r4 : Int) (w : World) (h : qQy.f k a0 = some (r1, r2, r3, r4)) :
  Calls Tryz.prog 60 #[.int .i64 a0] w fun e w' => e = .returned (.tuple #[.agg #[.int .i64 r1, .int .i64 r2, .int .i64 r3], .int .i64 r4]) /\ Below w.heap.size w w' := by
 have oF := Tryz.underlying97
 have HB := am (Below.refl w.heap.size w)
 have H := h
 unfold qQy.f at H
 clear h
 obtain ⟨kW, A2, H⟩ := bd H
 by_cases c3 : kW = true
 case neg =>
  replace c3 := Bool.eq_false_iff.mpr c3
  subst c3
  rw [if_neg (show ¬ (false = true) by decide)] at H
  simp only [Option.some.injEq, Prod.mk.injEq] at H
  obtain ⟨rfl, rfl, rfl, rfl⟩ := H
  go_enter Tryz.func60, Tryz.ntmps60
  go_wp2_with (first | ((with_reducible refine gd 2 ?_); refine bE 2 _ 97 ?_; intro b3 hg w9 hbox hb; have aV := am hbox; have lU := e0 HB hg; have c1 := e0 HB hg; replace HB := s0 HB hb; clear hb hbox hg) | ((with_reducible refine gf 32 ?_); refine gC (some 6) Tryz.func32 (qZl.calls _ false _ A2.out) ?_; rintro e w' ⟨rfl, ⟨nd, rfl⟩⟩; refine ⟨_, rfl, ?_⟩; (try (rw [qWy w9]; generalize hq_ : World.drewN w9 _ = w9; have hW : Aside0 (w9.heap[b3]? = some (.cells #[.int .i64 0, .int .i64 0, .int .i64 0] 97 (0, 0))) := ⟨by rw [<- hq_]; exact (Up.up aV.out)⟩; have hX : Aside0 (Below w.heap.size w w9) := ⟨by rw [<- hq_]; exact (by exact h1q HB.out c1.out)⟩; clear aV HB hq_; have aV := hW; have HB := hX; clear hW hX)); have h6 : w9.cell? ⟨b3, 0, none⟩ = some (.int .i64 0) := (qQa aV.out 0).trans rfl; have h7 : w9.cell? ⟨b3, 1, none⟩ = some (.int .i64 0) := (qQa aV.out 1).trans rfl; have h8 : w9.cell? ⟨b3, 2, none⟩ = some (.int .i64 0) := (qQa aV.out 2).trans rfl; have iR := qQd aV.out 0; have iS := qQd aV.out 1; have iT := qQd aV.out 2))
  refine bodyPost_ret (qY4 rfl _ _ b3 97 #[.int .i64 0, .int .i64 0, .int .i64 0] (0, 0) _ rfl (by refine bw ?_; refine qQ0 (cs := #[.int .i64 0, .int .i64 0, .int .i64 0]) ?_ 2 _ rfl; refine bw ?_; refine qQ0 (cs := #[.int .i64 0, .int .i64 0, .int .i64 0]) ?_ 1 _ rfl; refine bw ?_; refine qQ0 (cs := #[.int .i64 0, .int .i64 0, .int .i64 0]) ?_ 0 _ rfl; refine bw ?_; exact aV.out) Tryz.underlying97 rfl (by kernel_rfl)) rfl ?_
  exact ⟨er, by exact h1q HB.out c1.out⟩
 subst c3
 rw [if_pos rfl] at H
 have H' := am H
 clear H
 go_enter Tryz.func60, Tryz.ntmps60
 go_wp2_with (first | ((with_reducible refine gd 2 ?_); refine bE 2 _ 97 ?_; intro b3 hg w4 hbox hb; have aV := am hbox; have lU := e0 HB hg; have c1 := e0 HB hg; replace HB := s0 HB hb; clear hb hbox hg) | ((with_reducible refine gf 32 ?_); refine gC (some 6) Tryz.func32 (qZl.calls _ true _ A2.out) ?_; rintro e w' ⟨rfl, ⟨nd, rfl⟩⟩; refine ⟨_, rfl, ?_⟩))
 go_loopg [0, 4] k (fun kq v0 v4 w' => ∃ (e9 : Int) (aA : Int), v0 = .int .i64 e9 /\ v4 = .int .i64 aA /\ Aside0 (qQy.l0 kq e9 aA = some (r1, r2, r3, r4)) /\ Aside0 (kq <= k) /\ Aside0 (w'.heap[b3]? = some (.cells #[.int .i64 0, .int .i64 0, .int .i64 0] 97 (0, 0))) /\ Aside0 (Below w.heap.size w w'))
 case atStart => exact ⟨(a0), (0), fr, fr, H', ⟨Nat.le_refl _⟩, bA aV, a1_ HB c1⟩
 case round =>
  clear H'
  try clear c3
  obtain ⟨e9, aA, rfl, rfl, HA, g2, aV, HB⟩ := hrel
  rcases gk with _ | k1
  ·exact absurd HA.out (by simp [qQy.l0])
  have H := HA.out
  clear HA
  simp only [qQy.l0] at H
  obtain ⟨fL, A5, H⟩ := bd H
  by_cases c6 : e9 ≥ fL
  ·rw [if_pos c6] at H
   have bK : decide (fL <= e9) = true := decide_eq_true c6
   clear c6
   obtain ⟨jF, A7, H⟩ := bd H
   have H' := am H
   clear H
   go_wp2_with (first | ((with_reducible refine gf 62 ?_); refine gC (some 16) Tryz.func62 (qQm.calls _ _ _ fL _ A5.out) ?_; rintro e w' ⟨rfl, ⟨nd, rfl⟩⟩; refine ⟨_, rfl, ?_⟩) | ((with_reducible refine gf 62 ?_); refine gC (some 25) Tryz.func62 (qQm.calls _ _ _ jF _ A7.out) ?_; rintro e w' ⟨rfl, ⟨nd, rfl⟩⟩; refine ⟨_, rfl, ?_⟩))
   go_roundg k1
   case measure => have := g2.out; omega
   case rel => exact ⟨(wrap64 (e9 - jF)), (wrap64 (aA + 1)), fr, fr, H', o1 g2, bA aV, a1_ HB c1⟩
  rw [if_neg c6] at H
  have bK : decide (fL <= e9) = false := decide_eq_false c6
  clear c6
  simp only [Option.some.injEq, Prod.mk.injEq] at H
  obtain ⟨rfl, rfl, rfl, rfl⟩ := H
  go_wp2_with (first | ((with_reducible refine gf 62 ?_); refine gC (some 16) Tryz.func62 (qQm.calls _ _ _ fL _ A5.out) ?_; rintro e w' ⟨rfl, ⟨nd, rfl⟩⟩; refine ⟨_, rfl, ?_⟩; (try (rw [qWy wr]; generalize hq_ : World.drewN wr _ = wr; have hW : Aside0 (wr.heap[b3]? = some (.cells #[.int .i64 0, .int .i64 0, .int .i64 0] 97 (0, 0))) := ⟨by rw [<- hq_]; exact (Up.up aV.out)⟩; have hX : Aside0 (Below w.heap.size w wr) := ⟨by rw [<- hq_]; exact (by exact h1q HB.out c1.out)⟩; clear aV HB hq_; have aV := hW; have HB := hX; clear hW hX)); have hN : wr.cell? ⟨b3, 0, none⟩ = some (.int .i64 0) := (qQa aV.out 0).trans rfl; have hO : wr.cell? ⟨b3, 1, none⟩ = some (.int .i64 0) := (qQa aV.out 1).trans rfl; have hP : wr.cell? ⟨b3, 2, none⟩ = some (.int .i64 0) := (qQa aV.out 2).trans rfl; have hQ := qQd aV.out 0; have hR := qQd aV.out 1; have hS := qQd aV.out 2))
  refine bodyPost_ret (qY4 rfl _ _ b3 97 #[.int .i64 (wrap64 (1960 + (wrap64 (Int.tdiv aA 12)))), .int .i64 (wrap64 (1 + (Int.tmod aA 12))), .int .i64 (wrap64 (e9 + 1))] (0, 0) _ rfl (by refine bw ?_; refine qQ0 (cs := #[.int .i64 (wrap64 (1960 + (wrap64 (Int.tdiv aA 12)))), .int .i64 (wrap64 (1 + (Int.tmod aA 12))), .int .i64 0]) ?_ 2 _ rfl; refine bw ?_; refine qQ0 (cs := #[.int .i64 (wrap64 (1960 + (wrap64 (Int.tdiv aA 12)))), .int .i64 0, .int .i64 0]) ?_ 1 _ rfl; refine bw ?_; refine qQ0 (cs := #[.int .i64 0, .int .i64 0, .int .i64 0]) ?_ 0 _ rfl; refine bw ?_; exact aV.out) Tryz.underlying97 rfl (by kernel_rfl)) rfl ?_
  exact ⟨er, by exact h1q HB.out c1.out⟩
def qZg.l0 : Nat -> Int -> Int -> Int -> Option (Int)
 | 0, _, _, _ => none
 | k + 1, x0, x3, x4 => if x4 < x0 then ((qQm.f k (wrap64 (1960 + (wrap64 (Int.tdiv x4 12)))) (wrap64 (1 + (Int.tmod x4 12)))).bind fun jG => (qZg.l0 k x0 (wrap64 (x3 + jG)) (wrap64 (x4 + 1)))) else (some x3)
def qZg.f (k : Nat) (a0 : Int) : Option (Int) := qZg.l0 k a0 0 0
set_option maxHeartbeats 8000000 in
set_option maxRecDepth 100000 in
theorem qZg.calls (k : Nat) (a0 r : Int) (w : World) (h : qZg.f k a0 = some r) :
  Calls Tryz.prog 61 #[.int .i64 a0] w fun e w' => e = .returned (.int .i64 r) /\ Drawn0 w w' := by
 have H := h
 unfold qZg.f at H
 clear h
 have H' := am H
 clear H
 go_enter Tryz.func61, Tryz.ntmps61
 go_wp2
 go_loopg [3, 4] k (fun kq v3 v4 w' => ∃ (aG : Int) (aA : Int), v3 = .int .i64 aG /\ v4 = .int .i64 aA /\ Aside0 (qZg.l0 kq a0 aG aA = some r) /\ Aside0 (kq <= k) /\ Drawn0 w w')
 case atStart => exact ⟨(0), (0), fr, fr, H', ⟨Nat.le_refl _⟩, dr⟩
 case round =>
  clear H'
  obtain ⟨aG, aA, rfl, rfl, HA, g2, ⟨m1, rfl⟩⟩ := hrel
  rcases gk with _ | k1
  ·exact absurd HA.out (by simp [qZg.l0])
  have H := HA.out
  clear HA
  simp only [qZg.l0] at H
  by_cases c2 : aA < a0
  case neg =>
   rw [if_neg c2] at H
   have bT := decide_eq_false c2
   clear c2
   obtain rfl := Option.some.inj H
   go_wp2
   go_ret
   exact ⟨fr, dr⟩
  rw [if_pos c2] at H
  have bT := decide_eq_true c2
  clear c2
  obtain ⟨jG, A3, H⟩ := bd H
  have H' := am H
  clear H
  go_wp2_with (first | ((with_reducible refine gf 62 ?_); refine gC (some 17) Tryz.func62 (qQm.calls _ _ _ jG _ A3.out) ?_; rintro e w' ⟨rfl, ⟨nd, rfl⟩⟩; refine ⟨_, rfl, ?_⟩))
  go_roundg k1
  case measure => have := g2.out; omega
  case rel => exact ⟨(wrap64 (aG + jG)), (wrap64 (aA + 1)), fr, fr, H', o1 g2, dr⟩
mutual
def qQs.j0 : Nat -> Int -> Bool -> Int -> Int -> Int -> Option (Int × Int)
 | 0, _, _, _, _, _ => none
 | k + 1, x1, q4, bZ, b0, cY => if q4 = true then (some (0, 15)) else (if (wrap64 ((wrap64 ((wrap64 ((wrap64 (12 * (wrap64 (bZ - 1960)))) + b0)) - 1)) + x1)) < 0 then (qQs.j1 k (wrap64 ((wrap64 ((wrap64 ((wrap64 (12 * (wrap64 (bZ - 1960)))) + b0)) - 1)) + x1)) true bZ b0 cY) else (qQs.j1 k (wrap64 ((wrap64 ((wrap64 ((wrap64 (12 * (wrap64 (bZ - 1960)))) + b0)) - 1)) + x1)) (decide ((wrap64 ((wrap64 ((wrap64 ((wrap64 (12 * (wrap64 (bZ - 1960)))) + b0)) - 1)) + x1)) > 2879)) bZ b0 cY))
def qQs.j1 : Nat -> Int -> Bool -> Int -> Int -> Int -> Option (Int × Int)
 | 0, _, _, _, _, _ => none
 | k + 1, x8, q6, bZ, b0, cY => if q6 = true then (some (0, 15)) else ((qZg.f k x8).bind fun e8 => ((qQm.f k (wrap64 (1960 + (wrap64 (Int.tdiv x8 12)))) (wrap64 (1 + (Int.tmod x8 12)))).bind fun dM => (some (wrap64 ((wrap64 (e8 + (mn cY dM))) - 1), 0))))
end
def qQs.f (k : Nat) (a0 a1 : Int) : Option (Int × Int) := (qQy.f k a0).bind fun cE => (if cE.2.2.2 = 0 then (if a1 > 2879 then (qQs.j0 k a1 true cE.1 cE.2.1 cE.2.2.1) else (qQs.j0 k a1 (decide (a1 < (-2879))) cE.1 cE.2.1 cE.2.2.1)) else (qQs.j0 k a1 true cE.1 cE.2.1 cE.2.2.1))
set_option maxHeartbeats 8000000 in
set_option maxRecDepth 100000 in
theorem qQs.calls (k : Nat) (a0 a1 r1 r2 : Int) (w : World) (h : qQs.f k a0 a1 = some (r1, r2)) :
  Calls Tryz.prog 41 #[.int .i64 a0, .int .i64 a1] w fun e w' => e = .returned (.tuple #[.int .i64 r1, .int .i64 r2]) /\ Below w.heap.size w w' := by
 have oF := Tryz.underlying97
 have HB := am (Below.refl w.heap.size w)
 have H := h
 unfold qQs.f at H
 clear h
 obtain ⟨⟨bP, bY, cB, g4⟩, A3, H⟩ := bd H
 have kG := am H
 clear H
 go_enter Tryz.func41, Tryz.ntmps41
 go_upto_region 2 with (first | (go_at_call 60; (with_reducible refine (qQy.calls _ _ bP bY cB g4 _ A3.out).mono ?_); rintro e w5 ⟨rfl, hb⟩; replace HB := s0 HB hb; (try clear hb); (try clear hb2); (try clear hk); (try clear hi)) | ((with_reducible refine gd 6 ?_); refine bE 6 _ 97 ?_; intro aU hg w6 hbox hb; have aE := am hbox; have jK := e0 HB hg; have cD := e0 HB hg; replace HB := s0 HB hb; clear hb hbox hg; have dE : w6.cell? ⟨aU, 0, none⟩ = some (.int .i64 0) := (qQa aE.out 0).trans rfl; have dF : w6.cell? ⟨aU, 1, none⟩ = some (.int .i64 0) := (qQa aE.out 1).trans rfl; have dG : w6.cell? ⟨aU, 2, none⟩ = some (.int .i64 0) := (qQa aE.out 2).trans rfl; have dH := qQd aE.out 0; have dI := qQd aE.out 1; have dJ := qQd aE.out 2))
 repeat (go_quiet (first | (go_at_call 60; (first | (with_reducible refine (qQy.calls _ _ bP bY cB g4 _ A3.out).mono ?_) | (simp only [i64_w, i32_w]; with_reducible refine (qQy.calls _ _ bP bY cB g4 _ A3.out).mono ?_)); rintro e w5 ⟨rfl, hb⟩; replace HB := s0 HB hb; (try clear hb); (try clear hb2); (try clear hk); (try clear hi)) | ((with_reducible refine gd 6 ?_); refine bE 6 _ 97 ?_; intro aU hg w6 hbox hb; have aE := am hbox; have jK := e0 HB hg; have cD := e0 HB hg; replace HB := s0 HB hb; clear hb hbox hg; have dE : w6.cell? ⟨aU, 0, none⟩ = some (.int .i64 0) := (qQa aE.out 0).trans rfl; have dF : w6.cell? ⟨aU, 1, none⟩ = some (.int .i64 0) := (qQa aE.out 1).trans rfl; have dG : w6.cell? ⟨aU, 2, none⟩ = some (.int .i64 0) := (qQa aE.out 2).trans rfl; have dH := qQd aE.out 0; have dI := qQd aE.out 1; have dJ := qQd aE.out 2)); go_upto_region 2 with (first | (go_at_call 60; (first | (with_reducible refine (qQy.calls _ _ bP bY cB g4 _ A3.out).mono ?_) | (simp only [i64_w, i32_w]; with_reducible refine (qQy.calls _ _ bP bY cB g4 _ A3.out).mono ?_)); rintro e w5 ⟨rfl, hb⟩; replace HB := s0 HB hb; (try clear hb); (try clear hb2); (try clear hk); (try clear hi)) | ((with_reducible refine gd 6 ?_); refine bE 6 _ 97 ?_; intro aU hg w6 hbox hb; have aE := am hbox; have jK := e0 HB hg; have cD := e0 HB hg; replace HB := s0 HB hb; clear hb hbox hg; have dE : w6.cell? ⟨aU, 0, none⟩ = some (.int .i64 0) := (qQa aE.out 0).trans rfl; have dF : w6.cell? ⟨aU, 1, none⟩ = some (.int .i64 0) := (qQa aE.out 1).trans rfl; have dG : w6.cell? ⟨aU, 2, none⟩ = some (.int .i64 0) := (qQa aE.out 2).trans rfl; have dH := qQd aE.out 0; have dI := qQd aE.out 1; have dJ := qQd aE.out 2)))
 (try simp only [Act.put, List.setIfInBounds_toArray, List.set_cons_zero, List.set_cons_succ])
 go_cut [23] (fun qP wc => ∃ (kq : Nat) (g0 : Bool), qP = .bool g0 /\ Aside0 (qQs.j0 kq a1 g0 bP bY cB = some (r1, r2)) /\ Aside0 (kq <= k) /\ Aside0 (wc.heap[aU]? = some (.cells #[.int .i64 bP, .int .i64 bY, .int .i64 cB] 97 (0, 0))) /\ Aside0 (Below w.heap.size w wc))
 case first =>
  have H := kG.out
  clear kG
  by_cases c8 : g4 = 0
  case neg =>
   rw [if_neg c8] at H
   have bV := beq_eq_false_iff_ne.mpr c8
   have dY := bne_iff_ne.mpr c8
   (first | rw [bV] | (simp only [i64_w, i32_w]; rw [bV]) | skip)
   have H' := am H
   clear H
   go_wp2
   repeat (go_quiet (fail); try go_wp2)
   go_meet
   case rel => exact ⟨_, (true), (by first | rfl | (simp [i64_w, i32_w, qQj, qQk]; done) | (simp; done) | (simp [*]; done)), H', o0, ⟨by refine bw ?_; refine qQ0 (cs := #[.int .i64 bP, .int .i64 bY, .int .i64 0]) ?_ 2 _ rfl; refine bw ?_; refine qQ0 (cs := #[.int .i64 bP, .int .i64 0, .int .i64 0]) ?_ 1 _ rfl; refine bw ?_; refine qQ0 (cs := #[.int .i64 0, .int .i64 0, .int .i64 0]) ?_ 0 _ rfl; refine bw ?_; exact aE.out⟩, a1_ HB cD⟩
  rw [if_pos c8] at H
  have bV := beq_iff_eq.mpr c8
  have dY := bne_eq_false_iff_eq.mpr c8
  clear c8
  (first | rw [bV] | (simp only [i64_w, i32_w]; rw [bV]) | skip)
  by_cases c9 : a1 > 2879
  ·rw [if_pos c9] at H
   have b4 : decide (2879 < a1) = true := decide_eq_true c9
   clear c9
   have H' := am H
   clear H
   go_wp2
   repeat (go_quiet (fail); try go_wp2)
   go_meet
   case rel => exact ⟨_, (true), (by first | rfl | (simp [i64_w, i32_w, qQj, qQk]; done) | (simp; done) | (simp [*]; done)), H', o0, ⟨by refine bw ?_; refine qQ0 (cs := #[.int .i64 bP, .int .i64 bY, .int .i64 0]) ?_ 2 _ rfl; refine bw ?_; refine qQ0 (cs := #[.int .i64 bP, .int .i64 0, .int .i64 0]) ?_ 1 _ rfl; refine bw ?_; refine qQ0 (cs := #[.int .i64 0, .int .i64 0, .int .i64 0]) ?_ 0 _ rfl; refine bw ?_; exact aE.out⟩, a1_ HB cD⟩
  rw [if_neg c9] at H
  have b4 : decide (2879 < a1) = false := decide_eq_false c9
  clear c9
  have H' := am H
  clear H
  go_wp2
  repeat (go_quiet (fail); try go_wp2)
  go_meet
  case rel => exact ⟨_, (decide (a1 < (-2879))), (by first | rfl | (simp [i64_w, i32_w, qQj, qQk]; done) | (simp; done) | (simp [*]; done)), H', o0, ⟨by refine bw ?_; refine qQ0 (cs := #[.int .i64 bP, .int .i64 bY, .int .i64 0]) ?_ 2 _ rfl; refine bw ?_; refine qQ0 (cs := #[.int .i64 bP, .int .i64 0, .int .i64 0]) ?_ 1 _ rfl; refine bw ?_; refine qQ0 (cs := #[.int .i64 0, .int .i64 0, .int .i64 0]) ?_ 0 _ rfl; refine bw ?_; exact aE.out⟩, a1_ HB cD⟩
 case rest =>
  clear kG
  try clear c8
  try clear bV dY
  try clear c9
  try clear b4
  try clear dE
  try clear dF
  try clear dG
  try clear dH
  try clear dI
  try clear dJ
  obtain ⟨kq, g0, rfl, HA, h1, aE, HB⟩ := hcut
  rcases kq with _ | nW
  ·exact absurd HA.out (by simp [qQs.j0])
  have H := HA.out
  clear HA
  simp only [qQs.j0] at H
  by_cases cU : g0 = true
  ·subst cU
   rw [if_pos rfl] at H
   simp only [Option.some.injEq, Prod.mk.injEq] at H
   obtain ⟨rfl, rfl⟩ := H
   go_wp2
   repeat (go_quiet (fail); try go_wp2)
   go_ret2
   exact ⟨by first | rfl | (simp [i64_w, i32_w, qQj, qQk]; done) | (simp [qQj, qQk] <;> rfl) | (simp [*, qQj, qQk] <;> rfl), by exact h1q HB.out cD.out⟩
  replace cU := Bool.eq_false_iff.mpr cU
  subst cU
  rw [if_neg (show ¬ (false = true) by decide)] at H
  have fC := am H
  clear H
  have h9 : wc.cell? ⟨aU, 0, none⟩ = some (.int .i64 bP) := (qQa aE.out 0).trans rfl
  have iA : wc.cell? ⟨aU, 1, none⟩ = some (.int .i64 bY) := (qQa aE.out 1).trans rfl
  have iB : wc.cell? ⟨aU, 2, none⟩ = some (.int .i64 cB) := (qQa aE.out 2).trans rfl
  have iU := qQd aE.out 0
  have iV := qQd aE.out 1
  have iW := qQd aE.out 2
  go_upto_region 5 with (fail)
  repeat (go_quiet (fail); go_upto_region 5 with (fail))
  go_cut [39] (fun qV wc => ∃ (kq : Nat) (eP : Bool), qV = .bool eP /\ Aside0 (qQs.j1 kq (wrap64 ((wrap64 ((wrap64 ((wrap64 (12 * (wrap64 (bP - 1960)))) + bY)) - 1)) + a1)) eP bP bY cB = some (r1, r2)) /\ Aside0 (kq <= nW) /\ Aside0 (wc.heap[aU]? = some (.cells #[.int .i64 bP, .int .i64 bY, .int .i64 cB] 97 (0, 0))) /\ Aside0 (Below w.heap.size w wc))
  case first =>
   have H := fC.out
   clear fC
   by_cases cK : (wrap64 ((wrap64 ((wrap64 ((wrap64 (12 * (wrap64 (bP - 1960)))) + bY)) - 1)) + a1)) < 0
   ·rw [if_pos cK] at H
    have b6 := decide_eq_true cK
    clear cK
    (first | rw [b6] | (simp only [i64_w, i32_w]; rw [b6]) | skip)
    have H' := am H
    clear H
    go_wp2
    repeat (go_quiet (fail); try go_wp2)
    go_meet
    case rel => exact ⟨_, (true), (by first | rfl | (simp [i64_w, i32_w, qQj, qQk]; done) | (simp; done) | (simp [*]; done)), H', o1 h1, bA aE, a1_ HB cD⟩
   rw [if_neg cK] at H
   have b6 := decide_eq_false cK
   clear cK
   (first | rw [b6] | (simp only [i64_w, i32_w]; rw [b6]) | skip)
   have H' := am H
   clear H
   go_wp2
   repeat (go_quiet (fail); try go_wp2)
   go_meet
   case rel => exact ⟨_, (decide ((wrap64 ((wrap64 ((wrap64 ((wrap64 (12 * (wrap64 (bP - 1960)))) + bY)) - 1)) + a1)) > 2879)), (by first | rfl | (simp [i64_w, i32_w, qQj, qQk]; done) | (simp; done) | (simp [*]; done)), H', o1 h1, bA aE, a1_ HB cD⟩
  case rest =>
   clear fC
   try clear c8
   try clear bV dY
   try clear c9
   try clear b4
   try clear cU
   try clear cK
   try clear b6
   try clear h9
   try clear iA
   try clear iB
   try clear dE
   try clear dF
   try clear dG
   try clear iU
   try clear iV
   try clear iW
   try clear dH
   try clear dI
   try clear dJ
   obtain ⟨kq, eP, rfl, HA, nZ, aE, HB⟩ := hcut
   rcases kq with _ | oJ
   ·exact absurd HA.out (by simp [qQs.j1])
   have H := HA.out
   clear HA
   simp only [qQs.j1] at H
   by_cases dO : eP = true
   ·subst dO
    rw [if_pos rfl] at H
    simp only [Option.some.injEq, Prod.mk.injEq] at H
    obtain ⟨rfl, rfl⟩ := H
    go_wp2
    repeat (go_quiet (fail); try go_wp2)
    go_ret2
    exact ⟨by first | rfl | (simp [i64_w, i32_w, qQj, qQk]; done) | (simp [qQj, qQk] <;> rfl) | (simp [*, qQj, qQk] <;> rfl), by exact h1q HB.out cD.out⟩
   replace dO := Bool.eq_false_iff.mpr dO
   subst dO
   rw [if_neg (show ¬ (false = true) by decide)] at H
   obtain ⟨e8, lD, H⟩ := bd H
   obtain ⟨dM, lE, H⟩ := bd H
   obtain ⟨mS, dR⟩ : ∃ j_ : Int, (mn cB dM) = j_ := ⟨_, rfl⟩
   replace H : (some (wrap64 ((wrap64 (e8 + (mS))) - 1), 0)) = some (r1, r2) := by first | (rw [dR] at H; exact H) | (simp only [dR] at H ⊢; exact H)
   (try rw [dR] at lD)
   (try rw [dR] at lE)
   have hji17_ : (if dM < cB then dM else cB) = mS := dR
   simp only [Option.some.injEq, Prod.mk.injEq] at H
   obtain ⟨rfl, rfl⟩ := H
   go_wp2_with (first | (go_at_call 61; (with_reducible refine (qZg.calls _ _ e8 _ lD.out).mono ?_); rintro e w' ⟨rfl, ⟨nd, rfl⟩⟩; (try first | exact ⟨rfl, _, World.drewN_drewN _ _ _⟩ | exact ⟨rfl, _, Eq.trans (World.drewN_drewN _ _ _) (congrArg (World.drewN _) (Nat.add_assoc _ _ _))⟩); have fY : wc.cell? ⟨aU, 0, none⟩ = some (.int .i64 bP) := (qQa aE.out 0).trans rfl; have fZ : wc.cell? ⟨aU, 1, none⟩ = some (.int .i64 bY) := (qQa aE.out 1).trans rfl; have f6 : wc.cell? ⟨aU, 2, none⟩ = some (.int .i64 cB) := (qQa aE.out 2).trans rfl; have gI := qQd aE.out 0; have gJ := qQd aE.out 1; have gK := qQd aE.out 2) | (go_at_call 62; (with_reducible refine (qQm.calls _ _ _ dM _ lE.out).mono ?_); rintro e w' ⟨rfl, ⟨nd, rfl⟩⟩; (try first | exact ⟨rfl, _, World.drewN_drewN _ _ _⟩ | exact ⟨rfl, _, Eq.trans (World.drewN_drewN _ _ _) (congrArg (World.drewN _) (Nat.add_assoc _ _ _))⟩)))
   repeat (go_quiet (first | (go_at_call 61; (first | (with_reducible refine (qZg.calls _ _ e8 _ lD.out).mono ?_) | (simp only [i64_w, i32_w]; with_reducible refine (qZg.calls _ _ e8 _ lD.out).mono ?_)); rintro e w' ⟨rfl, ⟨nd, rfl⟩⟩; (try first | exact ⟨rfl, _, World.drewN_drewN _ _ _⟩ | exact ⟨rfl, _, Eq.trans (World.drewN_drewN _ _ _) (congrArg (World.drewN _) (Nat.add_assoc _ _ _))⟩); have fY : wc.cell? ⟨aU, 0, none⟩ = some (.int .i64 bP) := (qQa aE.out 0).trans rfl; have fZ : wc.cell? ⟨aU, 1, none⟩ = some (.int .i64 bY) := (qQa aE.out 1).trans rfl; have f6 : wc.cell? ⟨aU, 2, none⟩ = some (.int .i64 cB) := (qQa aE.out 2).trans rfl; have gI := qQd aE.out 0; have gJ := qQd aE.out 1; have gK := qQd aE.out 2) | (go_at_call 62; (first | (with_reducible refine (qQm.calls _ _ _ dM _ lE.out).mono ?_) | (simp only [i64_w, i32_w]; with_reducible refine (qQm.calls _ _ _ dM _ lE.out).mono ?_)); rintro e w' ⟨rfl, ⟨nd, rfl⟩⟩; (try first | exact ⟨rfl, _, World.drewN_drewN _ _ _⟩ | exact ⟨rfl, _, Eq.trans (World.drewN_drewN _ _ _) (congrArg (World.drewN _) (Nat.add_assoc _ _ _))⟩))); try go_wp2_with (first | (go_at_call 61; (first | (with_reducible refine (qZg.calls _ _ e8 _ lD.out).mono ?_) | (simp only [i64_w, i32_w]; with_reducible refine (qZg.calls _ _ e8 _ lD.out).mono ?_)); rintro e w' ⟨rfl, ⟨nd, rfl⟩⟩; (try first | exact ⟨rfl, _, World.drewN_drewN _ _ _⟩ | exact ⟨rfl, _, Eq.trans (World.drewN_drewN _ _ _) (congrArg (World.drewN _) (Nat.add_assoc _ _ _))⟩); have fY : wc.cell? ⟨aU, 0, none⟩ = some (.int .i64 bP) := (qQa aE.out 0).trans rfl; have fZ : wc.cell? ⟨aU, 1, none⟩ = some (.int .i64 bY) := (qQa aE.out 1).trans rfl; have f6 : wc.cell? ⟨aU, 2, none⟩ = some (.int .i64 cB) := (qQa aE.out 2).trans rfl; have gI := qQd aE.out 0; have gJ := qQd aE.out 1; have gK := qQd aE.out 2) | (go_at_call 62; (first | (with_reducible refine (qQm.calls _ _ _ dM _ lE.out).mono ?_) | (simp only [i64_w, i32_w]; with_reducible refine (qQm.calls _ _ _ dM _ lE.out).mono ?_)); rintro e w' ⟨rfl, ⟨nd, rfl⟩⟩; (try first | exact ⟨rfl, _, World.drewN_drewN _ _ _⟩ | exact ⟨rfl, _, Eq.trans (World.drewN_drewN _ _ _) (congrArg (World.drewN _) (Nat.add_assoc _ _ _))⟩))))
   go_ret2
   exact ⟨by first | rfl | (simp [i64_w, i32_w, qQj, qQk]; done) | (simp [qQj, qQk] <;> rfl) | (simp only [<- dR]; first | rfl | (simp [qQj, qQk] <;> rfl)) | (simp [*, qQj, qQk] <;> rfl), by exact h1q HB.out cD.out⟩
def qYv.f (k : Nat) (bD : Int) (b7 : List (S48)) (aZ bL bJ bF : Int) (b8 : List (S54)) (a6 aX bH aQ aT aN a1 : Int) : Option (Int) := if aZ = 0 then (some 1) else (if aZ = 4 then ((qQs.f k bL 12).bind fun jS => (if jS.2 = 0 then (if a1 < jS.1 then (some 4) else (some 1)) else (some 1))) else (some aZ))
set_option maxHeartbeats 8000000 in
set_option maxRecDepth 100000 in
theorem qYv.calls (k : Nat) (bD : Int) (eV : Option Addr) (eZ : Nat) (b7 : List (S48)) (aZ bL bJ bF : Int) (eW : Option Addr) (e2 : Nat) (b8 : List (S54)) (a6 aX bH aQ aT aN a1 r : Int) (w : World) (e6 : Kd.C k48 w eV b7.length b7) (e4 : b7.length <= eZ) (e7 : Kd.C k54 w eW b8.length b8) (e5 : b8.length <= e2) (h : qYv.f k bD b7 aZ bL bJ bF b8 a6 aX bH aQ aT aN a1 = some r) :
  Calls Tryz.prog 15 #[.agg #[.int .i64 bD, .slice eV b7.length eZ, .int .i64 aZ, .int .i64 bL, .int .i64 bJ, .int .i64 bF, .slice eW b8.length e2, .int .i64 a6, .int .i64 aX, .int .i64 bH, .int .i64 aQ, .int .i64 aT, .int .i64 aN], .int .i64 a1] w fun e w' => e = .returned (.int .i64 r) /\ Below w.heap.size w w' := by
 have oE := Tryz.underlying28
 have jP := am e6
 have jM := am e4
 clear e6 e4
 have jQ := am e7
 have jN := am e5
 clear e7 e5
 have HB := am (Below.refl w.heap.size w)
 have H := h
 unfold qYv.f at H
 clear h
 by_cases c3 : aZ = 0
 ·rw [if_pos c3] at H
  have hI := beq_iff_eq.mpr c3
  have kM := bne_eq_false_iff_eq.mpr c3
  clear c3
  obtain rfl := Option.some.inj H
  go_enter Tryz.func15, Tryz.ntmps15
  go_wp2_with (first | ((with_reducible refine gd 2 ?_); refine bE 2 _ 28 ?_; intro fU hg w4 hbox hb; have bN := am hbox; have fM := e0 HB hg; have b1 := e0 HB hg; replace HB := s0 HB hb; clear hb hbox hg; have rA := lc13 bN.out))
  go_ret
  exact ⟨er, by exact h1q HB.out b1.out⟩
 rw [if_neg c3] at H
 have hI := beq_eq_false_iff_ne.mpr c3
 have kM := bne_iff_ne.mpr c3
 by_cases c6 : aZ = 4
 case neg =>
  rw [if_neg c6] at H
  have bK := beq_eq_false_iff_ne.mpr c6
  have dW := bne_iff_ne.mpr c6
  obtain rfl := Option.some.inj H
  go_enter Tryz.func15, Tryz.ntmps15
  go_wp2_with (first | ((with_reducible refine gd 2 ?_); refine bE 2 _ 28 ?_; intro fU hg rF hbox hb; have bN := am hbox; have fM := e0 HB hg; have b1 := e0 HB hg; replace HB := s0 HB hb; clear hb hbox hg; have p0 := lc13 bN.out))
  go_ret
  exact ⟨er, by exact h1q HB.out b1.out⟩
 rw [if_pos c6] at H
 have bK := beq_iff_eq.mpr c6
 have dW := bne_eq_false_iff_eq.mpr c6
 clear c6
 obtain ⟨⟨jH, jI⟩, A7, H⟩ := bd H
 by_cases c8 : jI = 0
 case neg =>
  rw [if_neg c8] at H
  have bV := beq_eq_false_iff_ne.mpr c8
  have dY := bne_iff_ne.mpr c8
  obtain rfl := Option.some.inj H
  go_enter Tryz.func15, Tryz.ntmps15
  go_wp2_with (first | ((with_reducible refine gd 2 ?_); refine bE 2 _ 28 ?_; intro fU hg pS hbox hb; have bN := am hbox; have fM := e0 HB hg; have b1 := e0 HB hg; replace HB := s0 HB hb; clear hb hbox hg; have oI := lc13 bN.out) | ((with_reducible refine gf 41 ?_); refine gC (some 16) Tryz.func41 (qQs.calls _ _ _ jH jI _ A7.out) ?_; rintro e hZ ⟨rfl, hb⟩; refine ⟨_, rfl, ?_⟩; replace bN := bB bN hb; replace HB := s1 HB b1 hb; (try clear hb); (try clear hb2); (try clear hk); (try clear hi)))
  go_ret
  exact ⟨er, by exact h1q HB.out b1.out⟩
 rw [if_pos c8] at H
 have bV := beq_iff_eq.mpr c8
 have dY := bne_eq_false_iff_eq.mpr c8
 clear c8
 by_cases c9 : a1 < jH
 ·rw [if_pos c9] at H
  have b4 := decide_eq_true c9
  clear c9
  obtain rfl := Option.some.inj H
  go_enter Tryz.func15, Tryz.ntmps15
  go_wp2_with (first | ((with_reducible refine gd 2 ?_); refine bE 2 _ 28 ?_; intro fU hg qZ hbox hb; have bN := am hbox; have fM := e0 HB hg; have b1 := e0 HB hg; replace HB := s0 HB hb; clear hb hbox hg; have oG := lc13 bN.out) | ((with_reducible refine gf 41 ?_); refine gC (some 16) Tryz.func41 (qQs.calls _ _ _ jH jI _ A7.out) ?_; rintro e q0 ⟨rfl, hb⟩; refine ⟨_, rfl, ?_⟩; replace bN := bB bN hb; replace HB := s1 HB b1 hb; (try clear hb); (try clear hb2); (try clear hk); (try clear hi)))
  go_ret
  exact ⟨er, by exact h1q HB.out b1.out⟩
 rw [if_neg c9] at H
 have b4 := decide_eq_false c9
 clear c9
 obtain rfl := Option.some.inj H
 go_enter Tryz.func15, Tryz.ntmps15
 go_wp2_with (first | ((with_reducible refine gd 2 ?_); refine bE 2 _ 28 ?_; intro fU hg rE hbox hb; have bN := am hbox; have fM := e0 HB hg; have b1 := e0 HB hg; replace HB := s0 HB hb; clear hb hbox hg; have oH := lc13 bN.out) | ((with_reducible refine gf 41 ?_); refine gC (some 16) Tryz.func41 (qQs.calls _ _ _ jH jI _ A7.out) ?_; rintro e oP ⟨rfl, hb⟩; refine ⟨_, rfl, ?_⟩; replace bN := bB bN hb; replace HB := s1 HB b1 hb; (try clear hb); (try clear hb2); (try clear hk); (try clear hi)))
 go_ret
 exact ⟨er, by exact h1q HB.out b1.out⟩
def qZc.l0 : Nat -> List Int -> Int -> Option (Bool)
 | 0, _, _ => none
 | k + 1, x0, x3 => if x3 < (x0.length : Int) then (if 0 <= x3 then (if (rd x0 x3) < 0 then (some false) else (if (rd x0 x3) > 1000000000 then (some false) else (if x3 > 0 then (if 0 <= (wrap64 (x3 - 1)) then (if (wrap64 (x3 - 1)) < (x0.length : Int) then (if (rd x0 x3) < (rd x0 (wrap64 (x3 - 1))) then (some false) else (qZc.l0 k x0 (wrap64 (x3 + 1)))) else (none)) else (none)) else (qZc.l0 k x0 (wrap64 (x3 + 1)))))) else (none)) else (if (x0.length : Int) ≥ 1 then (some (decide ((x0.length : Int) <= 30))) else (some false))
def qZc.f (k : Nat) (l0 : List Int) : Option (Bool) := qZc.l0 k l0 0
set_option maxHeartbeats 8000000 in
set_option maxRecDepth 100000 in
theorem qZc.calls (k : Nat) (A0 : Option Addr) (c0 : Nat) (l0 : List Int) (r : Bool) (w : World) (hr0 : Kd.C (Kd.int .i64) w A0 l0.length l0) (hc0 : l0.length <= c0) (h : qZc.f k l0 = some r) :
  Calls Tryz.prog 31 #[.slice A0 l0.length c0] w fun e w' => e = .returned (.bool r) /\ Drawn0 w w' := by
 have fD := am hr0
 have pU := am hc0
 clear hr0 hc0
 have H := h
 unfold qZc.f at H
 clear h
 have H' := am H
 clear H
 go_enter Tryz.func31, Tryz.ntmps31
 go_wp2
 repeat (go_quiet (fail); try go_wp2)
 go_loopg [3] k (fun kq v3 w' => ∃ (aG : Int), v3 = .int .i64 aG /\ Aside0 (qZc.l0 kq l0 aG = some r) /\ Aside0 (kq <= k) /\ Drawn0 w w')
 case atStart => exact ⟨(0), (by first | rfl | (simp [i64_w, i32_w, qQj, qQk]; done) | (simp; done) | (simp [*]; done)), H', ⟨Nat.le_refl _⟩, dr⟩
 case round =>
  clear H'
  obtain ⟨aG, rfl, HA, g2, ⟨m1, rfl⟩⟩ := hrel
  rcases gk with _ | k1
  ·exact absurd HA.out (by simp [qZc.l0])
  have H := HA.out
  clear HA
  simp only [qZc.l0] at H
  by_cases c2 : aG < (l0.length : Int)
  case neg =>
   rw [if_neg c2] at H
   have bT := decide_eq_false c2
   clear c2
   by_cases e3 : (l0.length : Int) ≥ 1
   ·rw [if_pos e3] at H
    have jV : decide (1 <= (l0.length : Int)) = true := decide_eq_true e3
    have jW : decide (1 <= l0.length) = true := decide_eq_true (by omega)
    clear e3
    obtain rfl := Option.some.inj H
    go_wp2
    repeat (go_quiet (fail); try go_wp2)
    go_ret
    exact ⟨by first | rfl | (simp [i64_w, i32_w, qQj, qQk]; done) | (simp; done) | (simp [*]; done), dr⟩
   rw [if_neg e3] at H
   have jV : decide (1 <= (l0.length : Int)) = false := decide_eq_false e3
   have jW : decide (1 <= l0.length) = false := decide_eq_false (by omega)
   clear e3
   obtain rfl := Option.some.inj H
   go_wp2
   repeat (go_quiet (fail); try go_wp2)
   go_ret
   exact ⟨by first | rfl | (simp [i64_w, i32_w, qQj, qQk]; done) | (simp; done) | (simp [*]; done), dr⟩
  rw [if_pos c2] at H
  have bT := decide_eq_true c2
  clear c2
  by_cases c3 : 0 <= aG
  case neg =>
   rw [if_neg c3] at H
   exact absurd H (by simp)
  rw [if_pos c3] at H
  have hI := decide_eq_true c3
  clear c3
  by_cases c4 : (rd l0 aG) < 0
  ·rw [if_pos c4] at H
   have dU := decide_eq_true c4
   clear c4
   obtain rfl := Option.some.inj H
   have bW : 0 <= (aG : Int) := yd
   have bX : aG < (l0.length : Int) := yd
   obtain ⟨b2, d0, cX⟩ := Kd.qZ7 fD.out aG bW bX
   cases d0
   replace bW := eq_true bW
   replace bX := eq_true bX
   go_wp2
   repeat (go_quiet (fail); try go_wp2)
   go_ret
   exact ⟨by first | rfl | (simp [i64_w, i32_w, qQj, qQk]; done) | (simp; done) | (simp [*]; done), dr⟩
  rw [if_neg c4] at H
  have dU := decide_eq_false c4
  clear c4
  by_cases c5 : (rd l0 aG) > 1000000000
  ·rw [if_pos c5] at H
   have dV : decide (1000000000 < (rd l0 aG)) = true := decide_eq_true c5
   clear c5
   obtain rfl := Option.some.inj H
   have bW : 0 <= (aG : Int) := yd
   have bX : aG < (l0.length : Int) := yd
   obtain ⟨b2, d0, cX⟩ := Kd.qZ7 fD.out aG bW bX
   cases d0
   replace bW := eq_true bW
   replace bX := eq_true bX
   have cH : 0 <= (aG : Int) := yd
   have cI : aG < (l0.length : Int) := yd
   obtain ⟨dB, fE, eN⟩ := Kd.qZ7 fD.out aG cH cI
   obtain rfl : b2 = dB := (by injection fE)
   replace cH := eq_true cH
   replace cI := eq_true cI
   go_wp2
   repeat (go_quiet (fail); try go_wp2)
   go_ret
   exact ⟨by first | rfl | (simp [i64_w, i32_w, qQj, qQk]; done) | (simp; done) | (simp [*]; done), dr⟩
  rw [if_neg c5] at H
  have dV : decide (1000000000 < (rd l0 aG)) = false := decide_eq_false c5
  clear c5
  by_cases c6 : aG > 0
  case neg =>
   rw [if_neg c6] at H
   have bK : decide (0 < aG) = false := decide_eq_false c6
   clear c6
   have H' := am H
   clear H
   have bW : 0 <= (aG : Int) := yd
   have bX : aG < (l0.length : Int) := yd
   obtain ⟨b2, d0, cX⟩ := Kd.qZ7 fD.out aG bW bX
   cases d0
   replace bW := eq_true bW
   replace bX := eq_true bX
   have cH : 0 <= (aG : Int) := yd
   have cI : aG < (l0.length : Int) := yd
   obtain ⟨dB, fE, eN⟩ := Kd.qZ7 fD.out aG cH cI
   obtain rfl : b2 = dB := (by injection fE)
   replace cH := eq_true cH
   replace cI := eq_true cI
   go_wp2
   repeat (go_quiet (fail); try go_wp2)
   go_roundg k1
   case measure => have := g2.out; omega
   case rel => exact ⟨(wrap64 (aG + 1)), (by first | rfl | (simp [i64_w, i32_w, qQj, qQk]; done) | (simp; done) | (simp [*]; done)), H', o1 g2, dr⟩
  rw [if_pos c6] at H
  have bK : decide (0 < aG) = true := decide_eq_true c6
  clear c6
  obtain ⟨g3, jC⟩ : ∃ j_ : Int, (wrap64 (aG - 1)) = j_ := ⟨_, rfl⟩
  replace H : (if 0 <= (g3) then (if (g3) < (l0.length : Int) then (if (rd l0 aG) < (rd l0 (g3)) then (some false) else (qZc.l0 k1 l0 (wrap64 (aG + 1)))) else (none)) else (none)) = some r := by first | (rw [jC] at H; exact H) | (simp only [jC] at H ⊢; exact H)
  have hji7w : (IntKind.i64.wrap (aG - 1)) = g3 := (i64_w _).trans jC
  by_cases c8 : 0 <= (g3)
  case neg =>
   rw [if_neg c8] at H
   exact absurd H (by simp)
  rw [if_pos c8] at H
  have bV := decide_eq_true c8
  clear c8
  by_cases c9 : (g3) < (l0.length : Int)
  case neg =>
   rw [if_neg c9] at H
   exact absurd H (by simp)
  rw [if_pos c9] at H
  have b4 := decide_eq_true c9
  clear c9
  by_cases cU : (rd l0 aG) < (rd l0 (g3))
  ·rw [if_pos cU] at H
   have lY := decide_eq_true cU
   clear cU
   obtain rfl := Option.some.inj H
   have bW : 0 <= (aG : Int) := yd
   have bX : aG < (l0.length : Int) := yd
   obtain ⟨b2, d0, cX⟩ := Kd.qZ7 fD.out aG bW bX
   cases d0
   replace bW := eq_true bW
   replace bX := eq_true bX
   have cH : 0 <= (aG : Int) := yd
   have cI : aG < (l0.length : Int) := yd
   obtain ⟨dB, fE, eN⟩ := Kd.qZ7 fD.out aG cH cI
   obtain rfl : b2 = dB := (by injection fE)
   replace cH := eq_true cH
   replace cI := eq_true cI
   have fF : 0 <= (aG : Int) := yd
   have fH : aG < (l0.length : Int) := yd
   obtain ⟨hD, kR, jD⟩ := Kd.qZ7 fD.out aG fF fH
   obtain rfl : b2 = hD := (by injection kR)
   replace fF := eq_true fF
   replace fH := eq_true fH
   have fG : 0 <= ((g3) : Int) := yd
   have fI : (g3) < (l0.length : Int) := yd
   obtain ⟨hE, kS, jE⟩ := Kd.qZ7 fD.out (g3) fG fI
   obtain rfl : b2 = hE := (by injection kS)
   replace fG := eq_true fG
   replace fI := eq_true fI
   go_wp2
   repeat (go_quiet (fail); try go_wp2)
   go_ret
   exact ⟨by first | rfl | (simp [i64_w, i32_w, qQj, qQk]; done) | (simp; done) | (simp only [<- jC] <;> (first | rfl | simp)) | (simp [*]; done), dr⟩
  rw [if_neg cU] at H
  have lY := decide_eq_false cU
  clear cU
  have H' := am H
  clear H
  have bW : 0 <= (aG : Int) := yd
  have bX : aG < (l0.length : Int) := yd
  obtain ⟨b2, d0, cX⟩ := Kd.qZ7 fD.out aG bW bX
  cases d0
  replace bW := eq_true bW
  replace bX := eq_true bX
  have cH : 0 <= (aG : Int) := yd
  have cI : aG < (l0.length : Int) := yd
  obtain ⟨dB, fE, eN⟩ := Kd.qZ7 fD.out aG cH cI
  obtain rfl : b2 = dB := (by injection fE)
  replace cH := eq_true cH
  replace cI := eq_true cI
  have fF : 0 <= (aG : Int) := yd
  have fH : aG < (l0.length : Int) := yd
  obtain ⟨hD, kR, jD⟩ := Kd.qZ7 fD.out aG fF fH
  obtain rfl : b2 = hD := (by injection kR)
  replace fF := eq_true fF
  replace fH := eq_true fH
  have fG : 0 <= ((g3) : Int) := yd
  have fI : (g3) < (l0.length : Int) := yd
  obtain ⟨hE, kS, jE⟩ := Kd.qZ7 fD.out (g3) fG fI
  obtain rfl : b2 = hE := (by injection kS)
  replace fG := eq_true fG
  replace fI := eq_true fI
  go_wp2
  repeat (go_quiet (fail); try go_wp2)
  go_roundg k1
  case measure => have := g2.out; omega
  case rel => exact ⟨(wrap64 (aG + 1)), (by first | rfl | (simp [i64_w, i32_w, qQj, qQk]; done) | (simp; done) | (simp [*]; done)), H', o1 g2, dr⟩
def qQ6.f (a0 : Int) : Option (Bool) := if a0 ≥ (-10000000000000) then (some (decide (a0 <= 10000000000000))) else (some false)
set_option maxHeartbeats 8000000 in
set_option maxRecDepth 100000 in
theorem qQ6.calls (a0 : Int) (r : Bool) (w : World) (h : qQ6.f a0 = some r) :
  Calls Tryz.prog 59 #[.int .i64 a0] w fun e w' => e = .returned (.bool r) /\ Drawn0 w w' := by
 have H := h
 unfold qQ6.f at H
 clear h
 by_cases c2 : a0 ≥ (-10000000000000)
 ·rw [if_pos c2] at H
  have bT : decide ((-10000000000000) <= a0) = true := decide_eq_true c2
  clear c2
  obtain rfl := Option.some.inj H
  go_enter Tryz.func59, Tryz.ntmps59
  go_wp2
  go_ret
  exact ⟨fr, dr⟩
 rw [if_neg c2] at H
 have bT : decide ((-10000000000000) <= a0) = false := decide_eq_false c2
 clear c2
 obtain rfl := Option.some.inj H
 go_enter Tryz.func59, Tryz.ntmps59
 go_wp2
 go_ret
 exact ⟨fr, dr⟩
def qQg.f (a0 : Int) : Option (Bool) := if a0 ≥ 0 then ((qQ6.f a0).bind fun kX => (some kX)) else (some false)
set_option maxHeartbeats 8000000 in
set_option maxRecDepth 100000 in
theorem qQg.calls (a0 : Int) (r : Bool) (w : World) (h : qQg.f a0 = some r) :
  Calls Tryz.prog 52 #[.int .i64 a0] w fun e w' => e = .returned (.bool r) /\ Drawn0 w w' := by
 have H := h
 unfold qQg.f at H
 clear h
 by_cases c2 : a0 ≥ 0
 case neg =>
  rw [if_neg c2] at H
  have bT : decide (0 <= a0) = false := decide_eq_false c2
  clear c2
  obtain rfl := Option.some.inj H
  go_enter Tryz.func52, Tryz.ntmps52
  go_wp2
  go_ret
  exact ⟨fr, dr⟩
 rw [if_pos c2] at H
 have bT : decide (0 <= a0) = true := decide_eq_true c2
 clear c2
 obtain ⟨kX, A3, H⟩ := bd H
 obtain rfl := Option.some.inj H
 go_enter Tryz.func52, Tryz.ntmps52
 go_wp2_with (first | (go_at_call 59; (with_reducible refine (qQ6.calls _ kX _ A3.out).mono ?_); rintro e w' ⟨rfl, ⟨nd, rfl⟩⟩))
 go_ret
 exact ⟨fr, dr⟩
def qQl.f (a0 : Int) : Option (Bool) := if a0 ≥ 0 then (some (decide (a0 <= 1000000000000000000))) else (some false)
set_option maxHeartbeats 8000000 in
set_option maxRecDepth 100000 in
theorem qQl.calls (a0 : Int) (r : Bool) (w : World) (h : qQl.f a0 = some r) :
  Calls Tryz.prog 53 #[.int .i64 a0] w fun e w' => e = .returned (.bool r) /\ Drawn0 w w' := by
 have H := h
 unfold qQl.f at H
 clear h
 by_cases c2 : a0 ≥ 0
 ·rw [if_pos c2] at H
  have bT : decide (0 <= a0) = true := decide_eq_true c2
  clear c2
  obtain rfl := Option.some.inj H
  go_enter Tryz.func53, Tryz.ntmps53
  go_wp2
  go_ret
  exact ⟨fr, dr⟩
 rw [if_neg c2] at H
 have bT : decide (0 <= a0) = false := decide_eq_false c2
 clear c2
 obtain rfl := Option.some.inj H
 go_enter Tryz.func53, Tryz.ntmps53
 go_wp2
 go_ret
 exact ⟨fr, dr⟩
def qZm.f (bD cA aZ bL bJ bF : Int) (cV : Bool) (a6 aX bH aQ aT aN : Int) : Option (Bool) := if bD < 1 then (some false) else (if bD > 1000 then (some false) else ((qQg.f cA).bind fun kY => (if kY = true then ((qQg.f bJ).bind fun kZ => (if kZ = true then ((qQl.f aZ).bind fun k0 => (if k0 = true then ((qQl.f bL).bind fun k3 => (if k3 = true then (if bF < 0 then (some false) else (if bF > 1000000 then (some false) else (if a6 < 1 then (some false) else (if a6 > 5 then (some false) else (if aX < 0 then (some false) else (if aX > 4 then (some false) else (if bH < (-1) then (some false) else (if bH > 87658 then (some false) else ((qQg.f aQ).bind fun k4 => (if k4 = true then ((qQg.f aT).bind fun k5 => (if k5 = true then (if aN < 0 then (some false) else (if aX = 0 then (some true) else (if cA = 0 then (if aZ = 0 then (some (bJ == 0)) else (some false)) else (some false)))) else (some false))) else (some false))))))))))) else (some false))) else (some false))) else (some false))) else (some false))))
set_option maxHeartbeats 8000000 in
set_option maxRecDepth 100000 in
theorem qZm.calls (bD cA aZ bL bJ bF : Int) (cV : Bool) (a6 aX bH aQ aT aN : Int) (r : Bool) (w : World) (h : qZm.f bD cA aZ bL bJ bF cV a6 aX bH aQ aT aN = some r) :
  Calls Tryz.prog 33 #[.agg #[.int .i64 bD, .int .i64 cA, .int .i64 aZ, .int .i64 bL, .int .i64 bJ, .int .i64 bF, .bool cV, .int .i64 a6, .int .i64 aX, .int .i64 bH, .int .i64 aQ, .int .i64 aT, .int .i64 aN]] w fun e w' => e = .returned (.bool r) /\ Below w.heap.size w w' := by
 have mR := Tryz.underlying48
 have HB := am (Below.refl w.heap.size w)
 have H := h
 unfold qZm.f at H
 clear h
 by_cases c2 : bD < 1
 ·rw [if_pos c2] at H
  have bT := decide_eq_true c2
  clear c2
  obtain rfl := Option.some.inj H
  go_enter Tryz.func33, Tryz.ntmps33
  go_wp2_with (first | ((with_reducible refine gd 1 ?_); refine bE 1 _ 48 ?_; intro bC hg w3 hbox hb; have aI := am hbox; have a9 := e0 HB hg; have aJ := e0 HB hg; replace HB := s0 HB hb; clear hb hbox hg; have p8 := lc13 aI.out))
  go_ret
  exact ⟨er, by exact h1q HB.out aJ.out⟩
 rw [if_neg c2] at H
 have bT := decide_eq_false c2
 clear c2
 by_cases c5 : bD > 1000
 ·rw [if_pos c5] at H
  have dV : decide (1000 < bD) = true := decide_eq_true c5
  clear c5
  obtain rfl := Option.some.inj H
  go_enter Tryz.func33, Tryz.ntmps33
  go_wp2_with (first | ((with_reducible refine gd 1 ?_); refine bE 1 _ 48 ?_; intro bC hg w6 hbox hb; have aI := am hbox; have a9 := e0 HB hg; have aJ := e0 HB hg; replace HB := s0 HB hb; clear hb hbox hg; have rC := lc13 aI.out))
  go_ret
  exact ⟨er, by exact h1q HB.out aJ.out⟩
 rw [if_neg c5] at H
 have dV : decide (1000 < bD) = false := decide_eq_false c5
 clear c5
 obtain ⟨kY, A8, H⟩ := bd H
 by_cases c9 : kY = true
 case neg =>
  replace c9 := Bool.eq_false_iff.mpr c9
  subst c9
  rw [if_neg (show ¬ (false = true) by decide)] at H
  obtain rfl := Option.some.inj H
  go_enter Tryz.func33, Tryz.ntmps33
  go_wp2_with (first | ((with_reducible refine gd 1 ?_); refine bE 1 _ 48 ?_; intro bC hg rW hbox hb; have aI := am hbox; have a9 := e0 HB hg; have aJ := e0 HB hg; replace HB := s0 HB hb; clear hb hbox hg; have qJ := lc13 aI.out) | (go_at_call 52; (with_reducible refine (qQg.calls _ false _ A8.out).mono ?_); rintro e w' ⟨rfl, ⟨nd, rfl⟩⟩))
  go_ret
  exact ⟨er, by exact h1q HB.out aJ.out⟩
 subst c9
 rw [if_pos rfl] at H
 obtain ⟨kZ, eU, H⟩ := bd H
 by_cases e3 : kZ = true
 case neg =>
  replace e3 := Bool.eq_false_iff.mpr e3
  subst e3
  rw [if_neg (show ¬ (false = true) by decide)] at H
  obtain rfl := Option.some.inj H
  go_enter Tryz.func33, Tryz.ntmps33
  go_wp2_with (first | ((with_reducible refine gd 1 ?_); refine bE 1 _ 48 ?_; intro bC hg rV hbox hb; have aI := am hbox; have a9 := e0 HB hg; have aJ := e0 HB hg; replace HB := s0 HB hb; clear hb hbox hg; have qI := lc13 aI.out) | (go_at_call 52; (with_reducible refine (qQg.calls _ true _ A8.out).mono ?_); rintro e w' ⟨rfl, ⟨nd, rfl⟩⟩) | (go_at_call 52; (with_reducible refine (qQg.calls _ false _ eU.out).mono ?_); rintro e w' ⟨rfl, ⟨nd, rfl⟩⟩))
  go_ret
  exact ⟨er, by exact h1q HB.out aJ.out⟩
 subst e3
 rw [if_pos rfl] at H
 obtain ⟨k0, dS, H⟩ := bd H
 by_cases cK : k0 = true
 case neg =>
  replace cK := Bool.eq_false_iff.mpr cK
  subst cK
  rw [if_neg (show ¬ (false = true) by decide)] at H
  obtain rfl := Option.some.inj H
  go_enter Tryz.func33, Tryz.ntmps33
  go_wp2_with (first | ((with_reducible refine gd 1 ?_); refine bE 1 _ 48 ?_; intro bC hg w64 hbox hb; have aI := am hbox; have a9 := e0 HB hg; have aJ := e0 HB hg; replace HB := s0 HB hb; clear hb hbox hg; have qH := lc13 aI.out) | (go_at_call 52; (with_reducible refine (qQg.calls _ true _ A8.out).mono ?_); rintro e w' ⟨rfl, ⟨nd, rfl⟩⟩) | (go_at_call 52; (with_reducible refine (qQg.calls _ true _ eU.out).mono ?_); rintro e w' ⟨rfl, ⟨nd, rfl⟩⟩) | (go_at_call 53; (with_reducible refine (qQl.calls _ false _ dS.out).mono ?_); rintro e w' ⟨rfl, ⟨nd, rfl⟩⟩))
  go_ret
  exact ⟨er, by exact h1q HB.out aJ.out⟩
 subst cK
 rw [if_pos rfl] at H
 obtain ⟨k3, fB, H⟩ := bd H
 by_cases h3 : k3 = true
 case neg =>
  replace h3 := Bool.eq_false_iff.mpr h3
  subst h3
  rw [if_neg (show ¬ (false = true) by decide)] at H
  obtain rfl := Option.some.inj H
  go_enter Tryz.func33, Tryz.ntmps33
  go_wp2_with (first | ((with_reducible refine gd 1 ?_); refine bE 1 _ 48 ?_; intro bC hg rU hbox hb; have aI := am hbox; have a9 := e0 HB hg; have aJ := e0 HB hg; replace HB := s0 HB hb; clear hb hbox hg; have qG := lc13 aI.out) | (go_at_call 52; (with_reducible refine (qQg.calls _ true _ A8.out).mono ?_); rintro e w' ⟨rfl, ⟨nd, rfl⟩⟩) | (go_at_call 52; (with_reducible refine (qQg.calls _ true _ eU.out).mono ?_); rintro e w' ⟨rfl, ⟨nd, rfl⟩⟩) | (go_at_call 53; (with_reducible refine (qQl.calls _ true _ dS.out).mono ?_); rintro e w' ⟨rfl, ⟨nd, rfl⟩⟩) | (go_at_call 53; (with_reducible refine (qQl.calls _ false _ fB.out).mono ?_); rintro e w' ⟨rfl, ⟨nd, rfl⟩⟩))
  go_ret
  exact ⟨er, by exact h1q HB.out aJ.out⟩
 subst h3
 rw [if_pos rfl] at H
 by_cases fQ : bF < 0
 ·rw [if_pos fQ] at H
  have hG := decide_eq_true fQ
  clear fQ
  obtain rfl := Option.some.inj H
  go_enter Tryz.func33, Tryz.ntmps33
  go_wp2_with (first | ((with_reducible refine gd 1 ?_); refine bE 1 _ 48 ?_; intro bC hg q1 hbox hb; have aI := am hbox; have a9 := e0 HB hg; have aJ := e0 HB hg; replace HB := s0 HB hb; clear hb hbox hg; have pZ := lc13 aI.out) | (go_at_call 52; (with_reducible refine (qQg.calls _ true _ A8.out).mono ?_); rintro e w' ⟨rfl, ⟨nd, rfl⟩⟩) | (go_at_call 52; (with_reducible refine (qQg.calls _ true _ eU.out).mono ?_); rintro e w' ⟨rfl, ⟨nd, rfl⟩⟩) | (go_at_call 53; (with_reducible refine (qQl.calls _ true _ dS.out).mono ?_); rintro e w' ⟨rfl, ⟨nd, rfl⟩⟩) | (go_at_call 53; (with_reducible refine (qQl.calls _ true _ fB.out).mono ?_); rintro e w' ⟨rfl, ⟨nd, rfl⟩⟩))
  go_ret
  exact ⟨er, by exact h1q HB.out aJ.out⟩
 rw [if_neg fQ] at H
 have hG := decide_eq_false fQ
 clear fQ
 by_cases lH : bF > 1000000
 ·rw [if_pos lH] at H
  have l1 : decide (1000000 < bF) = true := decide_eq_true lH
  clear lH
  obtain rfl := Option.some.inj H
  go_enter Tryz.func33, Tryz.ntmps33
  go_wp2_with (first | ((with_reducible refine gd 1 ?_); refine bE 1 _ 48 ?_; intro bC hg rG hbox hb; have aI := am hbox; have a9 := e0 HB hg; have aJ := e0 HB hg; replace HB := s0 HB hb; clear hb hbox hg; have p1 := lc13 aI.out) | (go_at_call 52; (with_reducible refine (qQg.calls _ true _ A8.out).mono ?_); rintro e w' ⟨rfl, ⟨nd, rfl⟩⟩) | (go_at_call 52; (with_reducible refine (qQg.calls _ true _ eU.out).mono ?_); rintro e w' ⟨rfl, ⟨nd, rfl⟩⟩) | (go_at_call 53; (with_reducible refine (qQl.calls _ true _ dS.out).mono ?_); rintro e w' ⟨rfl, ⟨nd, rfl⟩⟩) | (go_at_call 53; (with_reducible refine (qQl.calls _ true _ fB.out).mono ?_); rintro e w' ⟨rfl, ⟨nd, rfl⟩⟩))
  go_ret
  exact ⟨er, by exact h1q HB.out aJ.out⟩
 rw [if_neg lH] at H
 have l1 : decide (1000000 < bF) = false := decide_eq_false lH
 clear lH
 by_cases lI : a6 < 1
 ·rw [if_pos lI] at H
  have l2 := decide_eq_true lI
  clear lI
  obtain rfl := Option.some.inj H
  go_enter Tryz.func33, Tryz.ntmps33
  go_wp2_with (first | ((with_reducible refine gd 1 ?_); refine bE 1 _ 48 ?_; intro bC hg rH hbox hb; have aI := am hbox; have a9 := e0 HB hg; have aJ := e0 HB hg; replace HB := s0 HB hb; clear hb hbox hg; have p2 := lc13 aI.out) | (go_at_call 52; (with_reducible refine (qQg.calls _ true _ A8.out).mono ?_); rintro e w' ⟨rfl, ⟨nd, rfl⟩⟩) | (go_at_call 52; (with_reducible refine (qQg.calls _ true _ eU.out).mono ?_); rintro e w' ⟨rfl, ⟨nd, rfl⟩⟩) | (go_at_call 53; (with_reducible refine (qQl.calls _ true _ dS.out).mono ?_); rintro e w' ⟨rfl, ⟨nd, rfl⟩⟩) | (go_at_call 53; (with_reducible refine (qQl.calls _ true _ fB.out).mono ?_); rintro e w' ⟨rfl, ⟨nd, rfl⟩⟩))
  go_ret
  exact ⟨er, by exact h1q HB.out aJ.out⟩
 rw [if_neg lI] at H
 have l2 := decide_eq_false lI
 clear lI
 by_cases lJ : a6 > 5
 ·rw [if_pos lJ] at H
  have l3 : decide (5 < a6) = true := decide_eq_true lJ
  clear lJ
  obtain rfl := Option.some.inj H
  go_enter Tryz.func33, Tryz.ntmps33
  go_wp2_with (first | ((with_reducible refine gd 1 ?_); refine bE 1 _ 48 ?_; intro bC hg rI hbox hb; have aI := am hbox; have a9 := e0 HB hg; have aJ := e0 HB hg; replace HB := s0 HB hb; clear hb hbox hg; have p3 := lc13 aI.out) | (go_at_call 52; (with_reducible refine (qQg.calls _ true _ A8.out).mono ?_); rintro e w' ⟨rfl, ⟨nd, rfl⟩⟩) | (go_at_call 52; (with_reducible refine (qQg.calls _ true _ eU.out).mono ?_); rintro e w' ⟨rfl, ⟨nd, rfl⟩⟩) | (go_at_call 53; (with_reducible refine (qQl.calls _ true _ dS.out).mono ?_); rintro e w' ⟨rfl, ⟨nd, rfl⟩⟩) | (go_at_call 53; (with_reducible refine (qQl.calls _ true _ fB.out).mono ?_); rintro e w' ⟨rfl, ⟨nd, rfl⟩⟩))
  go_ret
  exact ⟨er, by exact h1q HB.out aJ.out⟩
 rw [if_neg lJ] at H
 have l3 : decide (5 < a6) = false := decide_eq_false lJ
 clear lJ
 by_cases lL : aX < 0
 ·rw [if_pos lL] at H
  have l4 := decide_eq_true lL
  clear lL
  obtain rfl := Option.some.inj H
  go_enter Tryz.func33, Tryz.ntmps33
  go_wp2_with (first | ((with_reducible refine gd 1 ?_); refine bE 1 _ 48 ?_; intro bC hg rJ hbox hb; have aI := am hbox; have a9 := e0 HB hg; have aJ := e0 HB hg; replace HB := s0 HB hb; clear hb hbox hg; have p4 := lc13 aI.out) | (go_at_call 52; (with_reducible refine (qQg.calls _ true _ A8.out).mono ?_); rintro e w' ⟨rfl, ⟨nd, rfl⟩⟩) | (go_at_call 52; (with_reducible refine (qQg.calls _ true _ eU.out).mono ?_); rintro e w' ⟨rfl, ⟨nd, rfl⟩⟩) | (go_at_call 53; (with_reducible refine (qQl.calls _ true _ dS.out).mono ?_); rintro e w' ⟨rfl, ⟨nd, rfl⟩⟩) | (go_at_call 53; (with_reducible refine (qQl.calls _ true _ fB.out).mono ?_); rintro e w' ⟨rfl, ⟨nd, rfl⟩⟩))
  go_ret
  exact ⟨er, by exact h1q HB.out aJ.out⟩
 rw [if_neg lL] at H
 have l4 := decide_eq_false lL
 clear lL
 by_cases lM : aX > 4
 ·rw [if_pos lM] at H
  have l5 : decide (4 < aX) = true := decide_eq_true lM
  clear lM
  obtain rfl := Option.some.inj H
  go_enter Tryz.func33, Tryz.ntmps33
  go_wp2_with (first | ((with_reducible refine gd 1 ?_); refine bE 1 _ 48 ?_; intro bC hg rK hbox hb; have aI := am hbox; have a9 := e0 HB hg; have aJ := e0 HB hg; replace HB := s0 HB hb; clear hb hbox hg; have p5 := lc13 aI.out) | (go_at_call 52; (with_reducible refine (qQg.calls _ true _ A8.out).mono ?_); rintro e w' ⟨rfl, ⟨nd, rfl⟩⟩) | (go_at_call 52; (with_reducible refine (qQg.calls _ true _ eU.out).mono ?_); rintro e w' ⟨rfl, ⟨nd, rfl⟩⟩) | (go_at_call 53; (with_reducible refine (qQl.calls _ true _ dS.out).mono ?_); rintro e w' ⟨rfl, ⟨nd, rfl⟩⟩) | (go_at_call 53; (with_reducible refine (qQl.calls _ true _ fB.out).mono ?_); rintro e w' ⟨rfl, ⟨nd, rfl⟩⟩))
  go_ret
  exact ⟨er, by exact h1q HB.out aJ.out⟩
 rw [if_neg lM] at H
 have l5 : decide (4 < aX) = false := decide_eq_false lM
 clear lM
 by_cases fR : bH < (-1)
 ·rw [if_pos fR] at H
  have fS := decide_eq_true fR
  clear fR
  obtain rfl := Option.some.inj H
  go_enter Tryz.func33, Tryz.ntmps33
  go_wp2_with (first | ((with_reducible refine gd 1 ?_); refine bE 1 _ 48 ?_; intro bC hg rL hbox hb; have aI := am hbox; have a9 := e0 HB hg; have aJ := e0 HB hg; replace HB := s0 HB hb; clear hb hbox hg; have p6 := lc13 aI.out) | (go_at_call 52; (with_reducible refine (qQg.calls _ true _ A8.out).mono ?_); rintro e w' ⟨rfl, ⟨nd, rfl⟩⟩) | (go_at_call 52; (with_reducible refine (qQg.calls _ true _ eU.out).mono ?_); rintro e w' ⟨rfl, ⟨nd, rfl⟩⟩) | (go_at_call 53; (with_reducible refine (qQl.calls _ true _ dS.out).mono ?_); rintro e w' ⟨rfl, ⟨nd, rfl⟩⟩) | (go_at_call 53; (with_reducible refine (qQl.calls _ true _ fB.out).mono ?_); rintro e w' ⟨rfl, ⟨nd, rfl⟩⟩))
  go_ret
  exact ⟨er, by exact h1q HB.out aJ.out⟩
 rw [if_neg fR] at H
 have fS := decide_eq_false fR
 clear fR
 by_cases lN : bH > 87658
 ·rw [if_pos lN] at H
  have l7 : decide (87658 < bH) = true := decide_eq_true lN
  clear lN
  obtain rfl := Option.some.inj H
  go_enter Tryz.func33, Tryz.ntmps33
  go_wp2_with (first | ((with_reducible refine gd 1 ?_); refine bE 1 _ 48 ?_; intro bC hg rM hbox hb; have aI := am hbox; have a9 := e0 HB hg; have aJ := e0 HB hg; replace HB := s0 HB hb; clear hb hbox hg; have p7 := lc13 aI.out) | (go_at_call 52; (with_reducible refine (qQg.calls _ true _ A8.out).mono ?_); rintro e w' ⟨rfl, ⟨nd, rfl⟩⟩) | (go_at_call 52; (with_reducible refine (qQg.calls _ true _ eU.out).mono ?_); rintro e w' ⟨rfl, ⟨nd, rfl⟩⟩) | (go_at_call 53; (with_reducible refine (qQl.calls _ true _ dS.out).mono ?_); rintro e w' ⟨rfl, ⟨nd, rfl⟩⟩) | (go_at_call 53; (with_reducible refine (qQl.calls _ true _ fB.out).mono ?_); rintro e w' ⟨rfl, ⟨nd, rfl⟩⟩))
  go_ret
  exact ⟨er, by exact h1q HB.out aJ.out⟩
 rw [if_neg lN] at H
 have l7 : decide (87658 < bH) = false := decide_eq_false lN
 clear lN
 obtain ⟨k4, kC, H⟩ := bd H
 by_cases m0 : k4 = true
 case neg =>
  replace m0 := Bool.eq_false_iff.mpr m0
  subst m0
  rw [if_neg (show ¬ (false = true) by decide)] at H
  obtain rfl := Option.some.inj H
  go_enter Tryz.func33, Tryz.ntmps33
  go_wp2_with (first | ((with_reducible refine gd 1 ?_); refine bE 1 _ 48 ?_; intro bC hg rT hbox hb; have aI := am hbox; have a9 := e0 HB hg; have aJ := e0 HB hg; replace HB := s0 HB hb; clear hb hbox hg; have qF := lc13 aI.out) | (go_at_call 52; (with_reducible refine (qQg.calls _ true _ A8.out).mono ?_); rintro e w' ⟨rfl, ⟨nd, rfl⟩⟩) | (go_at_call 52; (with_reducible refine (qQg.calls _ true _ eU.out).mono ?_); rintro e w' ⟨rfl, ⟨nd, rfl⟩⟩) | (go_at_call 53; (with_reducible refine (qQl.calls _ true _ dS.out).mono ?_); rintro e w' ⟨rfl, ⟨nd, rfl⟩⟩) | (go_at_call 53; (with_reducible refine (qQl.calls _ true _ fB.out).mono ?_); rintro e w' ⟨rfl, ⟨nd, rfl⟩⟩) | (go_at_call 52; (with_reducible refine (qQg.calls _ false _ kC.out).mono ?_); rintro e w' ⟨rfl, ⟨nd, rfl⟩⟩))
  go_ret
  exact ⟨er, by exact h1q HB.out aJ.out⟩
 subst m0
 rw [if_pos rfl] at H
 obtain ⟨k5, lF, H⟩ := bd H
 by_cases m2 : k5 = true
 case neg =>
  replace m2 := Bool.eq_false_iff.mpr m2
  subst m2
  rw [if_neg (show ¬ (false = true) by decide)] at H
  obtain rfl := Option.some.inj H
  go_enter Tryz.func33, Tryz.ntmps33
  go_wp2_with (first | ((with_reducible refine gd 1 ?_); refine bE 1 _ 48 ?_; intro bC hg rS hbox hb; have aI := am hbox; have a9 := e0 HB hg; have aJ := e0 HB hg; replace HB := s0 HB hb; clear hb hbox hg; have qE := lc13 aI.out) | (go_at_call 52; (with_reducible refine (qQg.calls _ true _ A8.out).mono ?_); rintro e w' ⟨rfl, ⟨nd, rfl⟩⟩) | (go_at_call 52; (with_reducible refine (qQg.calls _ true _ eU.out).mono ?_); rintro e w' ⟨rfl, ⟨nd, rfl⟩⟩) | (go_at_call 53; (with_reducible refine (qQl.calls _ true _ dS.out).mono ?_); rintro e w' ⟨rfl, ⟨nd, rfl⟩⟩) | (go_at_call 53; (with_reducible refine (qQl.calls _ true _ fB.out).mono ?_); rintro e w' ⟨rfl, ⟨nd, rfl⟩⟩) | (go_at_call 52; (with_reducible refine (qQg.calls _ true _ kC.out).mono ?_); rintro e w' ⟨rfl, ⟨nd, rfl⟩⟩) | (go_at_call 52; (with_reducible refine (qQg.calls _ false _ lF.out).mono ?_); rintro e w' ⟨rfl, ⟨nd, rfl⟩⟩))
  go_ret
  exact ⟨er, by exact h1q HB.out aJ.out⟩
 subst m2
 rw [if_pos rfl] at H
 by_cases lO : aN < 0
 ·rw [if_pos lO] at H
  have l8 := decide_eq_true lO
  clear lO
  obtain rfl := Option.some.inj H
  go_enter Tryz.func33, Tryz.ntmps33
  go_wp2_with (first | ((with_reducible refine gd 1 ?_); refine bE 1 _ 48 ?_; intro bC hg rN hbox hb; have aI := am hbox; have a9 := e0 HB hg; have aJ := e0 HB hg; replace HB := s0 HB hb; clear hb hbox hg; have p9 := lc13 aI.out) | (go_at_call 52; (with_reducible refine (qQg.calls _ true _ A8.out).mono ?_); rintro e w' ⟨rfl, ⟨nd, rfl⟩⟩) | (go_at_call 52; (with_reducible refine (qQg.calls _ true _ eU.out).mono ?_); rintro e w' ⟨rfl, ⟨nd, rfl⟩⟩) | (go_at_call 53; (with_reducible refine (qQl.calls _ true _ dS.out).mono ?_); rintro e w' ⟨rfl, ⟨nd, rfl⟩⟩) | (go_at_call 53; (with_reducible refine (qQl.calls _ true _ fB.out).mono ?_); rintro e w' ⟨rfl, ⟨nd, rfl⟩⟩) | (go_at_call 52; (with_reducible refine (qQg.calls _ true _ kC.out).mono ?_); rintro e w' ⟨rfl, ⟨nd, rfl⟩⟩) | (go_at_call 52; (with_reducible refine (qQg.calls _ true _ lF.out).mono ?_); rintro e w' ⟨rfl, ⟨nd, rfl⟩⟩))
  go_ret
  exact ⟨er, by exact h1q HB.out aJ.out⟩
 rw [if_neg lO] at H
 have l8 := decide_eq_false lO
 clear lO
 by_cases g7 : aX = 0
 ·rw [if_pos g7] at H
  have l9 := beq_iff_eq.mpr g7
  have mA := bne_eq_false_iff_eq.mpr g7
  clear g7
  obtain rfl := Option.some.inj H
  go_enter Tryz.func33, Tryz.ntmps33
  go_wp2_with (first | ((with_reducible refine gd 1 ?_); refine bE 1 _ 48 ?_; intro bC hg rO hbox hb; have aI := am hbox; have a9 := e0 HB hg; have aJ := e0 HB hg; replace HB := s0 HB hb; clear hb hbox hg; have qA := lc13 aI.out) | (go_at_call 52; (with_reducible refine (qQg.calls _ true _ A8.out).mono ?_); rintro e w' ⟨rfl, ⟨nd, rfl⟩⟩) | (go_at_call 52; (with_reducible refine (qQg.calls _ true _ eU.out).mono ?_); rintro e w' ⟨rfl, ⟨nd, rfl⟩⟩) | (go_at_call 53; (with_reducible refine (qQl.calls _ true _ dS.out).mono ?_); rintro e w' ⟨rfl, ⟨nd, rfl⟩⟩) | (go_at_call 53; (with_reducible refine (qQl.calls _ true _ fB.out).mono ?_); rintro e w' ⟨rfl, ⟨nd, rfl⟩⟩) | (go_at_call 52; (with_reducible refine (qQg.calls _ true _ kC.out).mono ?_); rintro e w' ⟨rfl, ⟨nd, rfl⟩⟩) | (go_at_call 52; (with_reducible refine (qQg.calls _ true _ lF.out).mono ?_); rintro e w' ⟨rfl, ⟨nd, rfl⟩⟩))
  go_ret
  exact ⟨er, by exact h1q HB.out aJ.out⟩
 rw [if_neg g7] at H
 have l9 := beq_eq_false_iff_ne.mpr g7
 have mA := bne_iff_ne.mpr g7
 by_cases fT : cA = 0
 case neg =>
  rw [if_neg fT] at H
  have hJ := beq_eq_false_iff_ne.mpr fT
  have mD := bne_iff_ne.mpr fT
  obtain rfl := Option.some.inj H
  go_enter Tryz.func33, Tryz.ntmps33
  go_wp2_with (first | ((with_reducible refine gd 1 ?_); refine bE 1 _ 48 ?_; intro bC hg rR hbox hb; have aI := am hbox; have a9 := e0 HB hg; have aJ := e0 HB hg; replace HB := s0 HB hb; clear hb hbox hg; have qD := lc13 aI.out) | (go_at_call 52; (with_reducible refine (qQg.calls _ true _ A8.out).mono ?_); rintro e w' ⟨rfl, ⟨nd, rfl⟩⟩) | (go_at_call 52; (with_reducible refine (qQg.calls _ true _ eU.out).mono ?_); rintro e w' ⟨rfl, ⟨nd, rfl⟩⟩) | (go_at_call 53; (with_reducible refine (qQl.calls _ true _ dS.out).mono ?_); rintro e w' ⟨rfl, ⟨nd, rfl⟩⟩) | (go_at_call 53; (with_reducible refine (qQl.calls _ true _ fB.out).mono ?_); rintro e w' ⟨rfl, ⟨nd, rfl⟩⟩) | (go_at_call 52; (with_reducible refine (qQg.calls _ true _ kC.out).mono ?_); rintro e w' ⟨rfl, ⟨nd, rfl⟩⟩) | (go_at_call 52; (with_reducible refine (qQg.calls _ true _ lF.out).mono ?_); rintro e w' ⟨rfl, ⟨nd, rfl⟩⟩))
  go_ret
  exact ⟨er, by exact h1q HB.out aJ.out⟩
 rw [if_pos fT] at H
 have hJ := beq_iff_eq.mpr fT
 have mD := bne_eq_false_iff_eq.mpr fT
 clear fT
 by_cases kO : aZ = 0
 case neg =>
  rw [if_neg kO] at H
  have mE := beq_eq_false_iff_ne.mpr kO
  have mF := bne_iff_ne.mpr kO
  obtain rfl := Option.some.inj H
  go_enter Tryz.func33, Tryz.ntmps33
  go_wp2_with (first | ((with_reducible refine gd 1 ?_); refine bE 1 _ 48 ?_; intro bC hg rQ hbox hb; have aI := am hbox; have a9 := e0 HB hg; have aJ := e0 HB hg; replace HB := s0 HB hb; clear hb hbox hg; have qC := lc13 aI.out) | (go_at_call 52; (with_reducible refine (qQg.calls _ true _ A8.out).mono ?_); rintro e w' ⟨rfl, ⟨nd, rfl⟩⟩) | (go_at_call 52; (with_reducible refine (qQg.calls _ true _ eU.out).mono ?_); rintro e w' ⟨rfl, ⟨nd, rfl⟩⟩) | (go_at_call 53; (with_reducible refine (qQl.calls _ true _ dS.out).mono ?_); rintro e w' ⟨rfl, ⟨nd, rfl⟩⟩) | (go_at_call 53; (with_reducible refine (qQl.calls _ true _ fB.out).mono ?_); rintro e w' ⟨rfl, ⟨nd, rfl⟩⟩) | (go_at_call 52; (with_reducible refine (qQg.calls _ true _ kC.out).mono ?_); rintro e w' ⟨rfl, ⟨nd, rfl⟩⟩) | (go_at_call 52; (with_reducible refine (qQg.calls _ true _ lF.out).mono ?_); rintro e w' ⟨rfl, ⟨nd, rfl⟩⟩))
  go_ret
  exact ⟨er, by exact h1q HB.out aJ.out⟩
 rw [if_pos kO] at H
 have mE := beq_iff_eq.mpr kO
 have mF := bne_eq_false_iff_eq.mpr kO
 clear kO
 obtain rfl := Option.some.inj H
 go_enter Tryz.func33, Tryz.ntmps33
 go_wp2_with (first | ((with_reducible refine gd 1 ?_); refine bE 1 _ 48 ?_; intro bC hg rP hbox hb; have aI := am hbox; have a9 := e0 HB hg; have aJ := e0 HB hg; replace HB := s0 HB hb; clear hb hbox hg; have qB := lc13 aI.out) | (go_at_call 52; (with_reducible refine (qQg.calls _ true _ A8.out).mono ?_); rintro e w' ⟨rfl, ⟨nd, rfl⟩⟩) | (go_at_call 52; (with_reducible refine (qQg.calls _ true _ eU.out).mono ?_); rintro e w' ⟨rfl, ⟨nd, rfl⟩⟩) | (go_at_call 53; (with_reducible refine (qQl.calls _ true _ dS.out).mono ?_); rintro e w' ⟨rfl, ⟨nd, rfl⟩⟩) | (go_at_call 53; (with_reducible refine (qQl.calls _ true _ fB.out).mono ?_); rintro e w' ⟨rfl, ⟨nd, rfl⟩⟩) | (go_at_call 52; (with_reducible refine (qQg.calls _ true _ kC.out).mono ?_); rintro e w' ⟨rfl, ⟨nd, rfl⟩⟩) | (go_at_call 52; (with_reducible refine (qQg.calls _ true _ lF.out).mono ?_); rintro e w' ⟨rfl, ⟨nd, rfl⟩⟩))
 go_ret
 exact ⟨er, by exact h1q HB.out aJ.out⟩
def qZ6.f (a0 a1 : Int) : Option (Int × Int) := (qQ6.f a0).bind fun k6 => (if k6 = true then ((qQ6.f a1).bind fun k7 => (if k7 = true then ((qQ6.f (wrap64 (a0 + a1))).bind fun k8 => (if k8 = true then (some (wrap64 (a0 + a1), 0)) else (some (0, 14)))) else (some (0, 14)))) else (some (0, 14)))
set_option maxHeartbeats 8000000 in
set_option maxRecDepth 100000 in
theorem qZ6.calls (a0 a1 r1 r2 : Int) (w : World) (h : qZ6.f a0 a1 = some (r1, r2)) :
  Calls Tryz.prog 39 #[.int .i64 a0, .int .i64 a1] w fun e w' => e = .returned (.tuple #[.int .i64 r1, .int .i64 r2]) /\ Drawn0 w w' := by
 have H := h
 unfold qZ6.f at H
 clear h
 obtain ⟨k6, A3, H⟩ := bd H
 by_cases c4 : k6 = true
 case neg =>
  replace c4 := Bool.eq_false_iff.mpr c4
  subst c4
  rw [if_neg (show ¬ (false = true) by decide)] at H
  simp only [Option.some.injEq, Prod.mk.injEq] at H
  obtain ⟨rfl, rfl⟩ := H
  go_enter Tryz.func39, Tryz.ntmps39
  go_wp2_with (first | ((with_reducible refine gf 59 ?_); refine gC (some 7) Tryz.func59 (qQ6.calls _ false _ A3.out) ?_; rintro e w' ⟨rfl, ⟨nd, rfl⟩⟩; refine ⟨_, rfl, ?_⟩))
  go_ret2
  exact ⟨fr, dr⟩
 subst c4
 rw [if_pos rfl] at H
 obtain ⟨k7, A5, H⟩ := bd H
 by_cases c6 : k7 = true
 case neg =>
  replace c6 := Bool.eq_false_iff.mpr c6
  subst c6
  rw [if_neg (show ¬ (false = true) by decide)] at H
  simp only [Option.some.injEq, Prod.mk.injEq] at H
  obtain ⟨rfl, rfl⟩ := H
  go_enter Tryz.func39, Tryz.ntmps39
  go_wp2_with (first | ((with_reducible refine gf 59 ?_); refine gC (some 7) Tryz.func59 (qQ6.calls _ true _ A3.out) ?_; rintro e w' ⟨rfl, ⟨nd, rfl⟩⟩; refine ⟨_, rfl, ?_⟩) | (go_at_call 59; (with_reducible refine (qQ6.calls _ false _ A5.out).mono ?_); rintro e w' ⟨rfl, ⟨nd, rfl⟩⟩))
  go_ret2
  exact ⟨fr, dr⟩
 subst c6
 rw [if_pos rfl] at H
 obtain ⟨k8, A7, H⟩ := bd H
 by_cases c8 : k8 = true
 ·subst c8
  rw [if_pos rfl] at H
  simp only [Option.some.injEq, Prod.mk.injEq] at H
  obtain ⟨rfl, rfl⟩ := H
  go_enter Tryz.func39, Tryz.ntmps39
  go_wp2_with (first | ((with_reducible refine gf 59 ?_); refine gC (some 7) Tryz.func59 (qQ6.calls _ true _ A3.out) ?_; rintro e w' ⟨rfl, ⟨nd, rfl⟩⟩; refine ⟨_, rfl, ?_⟩) | (go_at_call 59; (with_reducible refine (qQ6.calls _ true _ A5.out).mono ?_); rintro e w' ⟨rfl, ⟨nd, rfl⟩⟩) | (go_at_call 59; (with_reducible refine (qQ6.calls _ true _ A7.out).mono ?_); rintro e w' ⟨rfl, ⟨nd, rfl⟩⟩))
  go_ret2
  exact ⟨fr, dr⟩
 replace c8 := Bool.eq_false_iff.mpr c8
 subst c8
 rw [if_neg (show ¬ (false = true) by decide)] at H
 simp only [Option.some.injEq, Prod.mk.injEq] at H
 obtain ⟨rfl, rfl⟩ := H
 go_enter Tryz.func39, Tryz.ntmps39
 go_wp2_with (first | ((with_reducible refine gf 59 ?_); refine gC (some 7) Tryz.func59 (qQ6.calls _ true _ A3.out) ?_; rintro e w' ⟨rfl, ⟨nd, rfl⟩⟩; refine ⟨_, rfl, ?_⟩) | (go_at_call 59; (with_reducible refine (qQ6.calls _ true _ A5.out).mono ?_); rintro e w' ⟨rfl, ⟨nd, rfl⟩⟩) | (go_at_call 59; (with_reducible refine (qQ6.calls _ false _ A7.out).mono ?_); rintro e w' ⟨rfl, ⟨nd, rfl⟩⟩))
 go_ret2
 exact ⟨fr, dr⟩
def qYu.f (a0 : Int) : Option (Int) := if a0 < 0 then (some 0) else (some (wrap64 (Int.tdiv a0 1000000)))
set_option maxHeartbeats 8000000 in
set_option maxRecDepth 100000 in
theorem qYu.calls (a0 r : Int) (w : World) (h : qYu.f a0 = some r) :
  Calls Tryz.prog 40 #[.int .i64 a0] w fun e w' => e = .returned (.int .i64 r) /\ Drawn0 w w' := by
 have H := h
 unfold qYu.f at H
 clear h
 by_cases c2 : a0 < 0
 ·rw [if_pos c2] at H
  have bT := decide_eq_true c2
  clear c2
  obtain rfl := Option.some.inj H
  go_enter Tryz.func40, Tryz.ntmps40
  go_wp2
  go_ret
  exact ⟨fr, dr⟩
 rw [if_neg c2] at H
 have bT := decide_eq_false c2
 clear c2
 obtain rfl := Option.some.inj H
 go_enter Tryz.func40, Tryz.ntmps40
 go_wp2
 go_ret
 exact ⟨fr, dr⟩
def qZx.f (bD cA aZ bL bJ bF : Int) (cV : Bool) (a6 aX bH aQ aT aN : Int) : Option (Int × Int) := (qZm.f bD cA aZ bL bJ bF cV a6 aX bH aQ aT aN).bind fun k9 => (if k9 = true then ((qZ6.f cA bJ).bind fun hF => (if hF.2 = 0 then ((qYu.f aZ).bind fun lB => ((qZ6.f hF.1 lB).bind fun jT => (some (jT.1, jT.2)))) else (some (0, hF.2)))) else (some (0, 1)))
set_option maxHeartbeats 8000000 in
set_option maxRecDepth 100000 in
theorem qZx.calls (bD cA aZ bL bJ bF : Int) (cV : Bool) (a6 aX bH aQ aT aN r1 r2 : Int) (w : World) (h : qZx.f bD cA aZ bL bJ bF cV a6 aX bH aQ aT aN = some (r1, r2)) :
  Calls Tryz.prog 14 #[.agg #[.int .i64 bD, .int .i64 cA, .int .i64 aZ, .int .i64 bL, .int .i64 bJ, .int .i64 bF, .bool cV, .int .i64 a6, .int .i64 aX, .int .i64 bH, .int .i64 aQ, .int .i64 aT, .int .i64 aN]] w fun e w' => e = .returned (.tuple #[.int .i64 r1, .int .i64 r2]) /\ Below w.heap.size w w' := by
 have mR := Tryz.underlying48
 have HB := am (Below.refl w.heap.size w)
 have H := h
 unfold qZx.f at H
 clear h
 obtain ⟨k9, A2, H⟩ := bd H
 by_cases c3 : k9 = true
 case neg =>
  replace c3 := Bool.eq_false_iff.mpr c3
  subst c3
  rw [if_neg (show ¬ (false = true) by decide)] at H
  simp only [Option.some.injEq, Prod.mk.injEq] at H
  obtain ⟨rfl, rfl⟩ := H
  go_enter Tryz.func14, Tryz.ntmps14
  go_wp2_with (first | ((with_reducible refine gd 1 ?_); refine bE 1 _ 48 ?_; intro kA hg pS hbox hb; have bU := am hbox; have jL := e0 HB hg; have cR := e0 HB hg; replace HB := s0 HB hb; clear hb hbox hg; have oI := lc13 bU.out) | ((with_reducible refine gf 33 ?_); refine gC (some 7) Tryz.func33 (qZm.calls _ _ _ _ _ _ _ _ _ _ _ _ _ false _ A2.out) ?_; rintro e hZ ⟨rfl, hb⟩; refine ⟨_, rfl, ?_⟩; replace bU := bB bU hb; replace HB := s1 HB cR hb; (try clear hb); (try clear hb2); (try clear hk); (try clear hi)))
  go_ret2
  exact ⟨er, by exact h1q HB.out cR.out⟩
 subst c3
 rw [if_pos rfl] at H
 obtain ⟨⟨mU, lA⟩, A4, H⟩ := bd H
 by_cases c5 : lA = 0
 case neg =>
  rw [if_neg c5] at H
  have dV := beq_eq_false_iff_ne.mpr c5
  have hL := bne_iff_ne.mpr c5
  simp only [Option.some.injEq, Prod.mk.injEq] at H
  obtain ⟨rfl, rfl⟩ := H
  go_enter Tryz.func14, Tryz.ntmps14
  go_wp2_with (first | ((with_reducible refine gd 1 ?_); refine bE 1 _ 48 ?_; intro kA hg q0 hbox hb; have bU := am hbox; have jL := e0 HB hg; have cR := e0 HB hg; replace HB := s0 HB hb; clear hb hbox hg; have pX := lc13 bU.out) | ((with_reducible refine gf 33 ?_); refine gC (some 7) Tryz.func33 (qZm.calls _ _ _ _ _ _ _ _ _ _ _ _ _ true _ A2.out) ?_; rintro e g8 ⟨rfl, hb⟩; refine ⟨_, rfl, ?_⟩; replace bU := bB bU hb; replace HB := s1 HB cR hb; (try clear hb); (try clear hb2); (try clear hk); (try clear hi); have pY := lc13 bU.out) | ((with_reducible refine gf 39 ?_); refine gC (some 14) Tryz.func39 (qZ6.calls _ _ mU lA _ A4.out) ?_; rintro e w' ⟨rfl, ⟨nd, rfl⟩⟩; refine ⟨_, rfl, ?_⟩))
  go_ret2
  exact ⟨er, by exact h1q HB.out cR.out⟩
 rw [if_pos c5] at H
 have dV := beq_iff_eq.mpr c5
 have hL := bne_eq_false_iff_eq.mpr c5
 clear c5
 obtain ⟨lB, A6, H⟩ := bd H
 obtain ⟨⟨oM, oN⟩, A7, H⟩ := bd H
 simp only [Option.some.injEq, Prod.mk.injEq] at H
 obtain ⟨rfl, rfl⟩ := H
 go_enter Tryz.func14, Tryz.ntmps14
 go_wp2_with (first | ((with_reducible refine gd 1 ?_); refine bE 1 _ 48 ?_; intro kA hg w8 hbox hb; have bU := am hbox; have jL := e0 HB hg; have cR := e0 HB hg; replace HB := s0 HB hb; clear hb hbox hg; have rD := lc13 bU.out) | ((with_reducible refine gf 33 ?_); refine gC (some 7) Tryz.func33 (qZm.calls _ _ _ _ _ _ _ _ _ _ _ _ _ true _ A2.out) ?_; rintro e qZ ⟨rfl, hb⟩; refine ⟨_, rfl, ?_⟩; replace bU := bB bU hb; replace HB := s1 HB cR hb; (try clear hb); (try clear hb2); (try clear hk); (try clear hi); have oG := lc13 bU.out) | ((with_reducible refine gf 39 ?_); refine gC (some 14) Tryz.func39 (qZ6.calls _ _ mU lA _ A4.out) ?_; rintro e w' ⟨rfl, ⟨nd, rfl⟩⟩; refine ⟨_, rfl, ?_⟩) | ((with_reducible refine gf 40 ?_); refine gC (some 23) Tryz.func40 (qYu.calls _ lB _ A6.out) ?_; rintro e w' ⟨rfl, ⟨nd, rfl⟩⟩; refine ⟨_, rfl, ?_⟩) | ((with_reducible refine gf 39 ?_); refine gC (some 24) Tryz.func39 (qZ6.calls _ _ oM oN _ A7.out) ?_; rintro e w' ⟨rfl, ⟨nd, rfl⟩⟩; refine ⟨_, rfl, ?_⟩))
 go_ret2
 exact ⟨er, by exact h1q HB.out cR.out⟩
def qYx.f (a0 a1 : Int) : Option (Int × Int) := some (IntKind.u64.wrap ((IntKind.u64.wrap ((IntKind.u64.wrap ((a0 / 4294967296) * (a1 / 4294967296))) + ((IntKind.u64.wrap ((IntKind.u64.wrap ((a0 / 4294967296) * (Go.bits .and .u64 a1 4294967295))) + ((IntKind.u64.wrap ((Go.bits .and .u64 a0 4294967295) * (Go.bits .and .u64 a1 4294967295))) / 4294967296))) / 4294967296))) + ((IntKind.u64.wrap ((IntKind.u64.wrap ((Go.bits .and .u64 a0 4294967295) * (a1 / 4294967296))) + (Go.bits .and .u64 (IntKind.u64.wrap ((IntKind.u64.wrap ((a0 / 4294967296) * (Go.bits .and .u64 a1 4294967295))) + ((IntKind.u64.wrap ((Go.bits .and .u64 a0 4294967295) * (Go.bits .and .u64 a1 4294967295))) / 4294967296))) 4294967295))) / 4294967296)), IntKind.u64.wrap ((IntKind.u64.wrap ((IntKind.u64.wrap ((IntKind.u64.wrap ((Go.bits .and .u64 a0 4294967295) * (a1 / 4294967296))) + (Go.bits .and .u64 (IntKind.u64.wrap ((IntKind.u64.wrap ((a0 / 4294967296) * (Go.bits .and .u64 a1 4294967295))) + ((IntKind.u64.wrap ((Go.bits .and .u64 a0 4294967295) * (Go.bits .and .u64 a1 4294967295))) / 4294967296))) 4294967295))) * 4294967296)) + (Go.bits .and .u64 (IntKind.u64.wrap ((Go.bits .and .u64 a0 4294967295) * (Go.bits .and .u64 a1 4294967295))) 4294967295)))
set_option maxHeartbeats 8000000 in
set_option maxRecDepth 100000 in
theorem qYx.calls (a0 a1 r1 r2 : Int) (w : World) (h : qYx.f a0 a1 = some (r1, r2)) :
  Calls Tryz.prog 64 #[.int .u64 a0, .int .u64 a1] w fun e w' => e = .returned (.agg #[.int .u64 r1, .int .u64 r2]) /\ Below w.heap.size w w' := by
 have mP := Tryz.underlying104
 have HB := am (Below.refl w.heap.size w)
 have H := h
 unfold qYx.f at H
 clear h
 simp only [Option.some.injEq, Prod.mk.injEq] at H
 obtain ⟨rfl, rfl⟩ := H
 go_enter Tryz.func64, Tryz.ntmps64
 go_wp2_with (first | ((with_reducible refine gd 4 ?_); refine bE 4 _ 104 ?_; intro hM hg w3 hbox hb; have eX := am hbox; have oU := e0 HB hg; have lS := e0 HB hg; replace HB := s0 HB hb; clear hb hbox hg; have n4 : w3.cell? ⟨hM, 0, none⟩ = some (.int .u64 0) := (qQa eX.out 0).trans rfl; have n5 : w3.cell? ⟨hM, 1, none⟩ = some (.int .u64 0) := (qQa eX.out 1).trans rfl; have n9 := qQd eX.out 0; have oA := qQd eX.out 1))
 refine bodyPost_ret (results_cell_row rfl _ _ hM 104 #[.int .u64 (IntKind.u64.wrap ((IntKind.u64.wrap ((IntKind.u64.wrap ((a0 / 4294967296) * (a1 / 4294967296))) + ((IntKind.u64.wrap ((IntKind.u64.wrap ((a0 / 4294967296) * (Go.bits .and .u64 a1 4294967295))) + ((IntKind.u64.wrap ((Go.bits .and .u64 a0 4294967295) * (Go.bits .and .u64 a1 4294967295))) / 4294967296))) / 4294967296))) + ((IntKind.u64.wrap ((IntKind.u64.wrap ((Go.bits .and .u64 a0 4294967295) * (a1 / 4294967296))) + (Go.bits .and .u64 (IntKind.u64.wrap ((IntKind.u64.wrap ((a0 / 4294967296) * (Go.bits .and .u64 a1 4294967295))) + ((IntKind.u64.wrap ((Go.bits .and .u64 a0 4294967295) * (Go.bits .and .u64 a1 4294967295))) / 4294967296))) 4294967295))) / 4294967296))), .int .u64 (IntKind.u64.wrap ((IntKind.u64.wrap ((IntKind.u64.wrap ((IntKind.u64.wrap ((Go.bits .and .u64 a0 4294967295) * (a1 / 4294967296))) + (Go.bits .and .u64 (IntKind.u64.wrap ((IntKind.u64.wrap ((a0 / 4294967296) * (Go.bits .and .u64 a1 4294967295))) + ((IntKind.u64.wrap ((Go.bits .and .u64 a0 4294967295) * (Go.bits .and .u64 a1 4294967295))) / 4294967296))) 4294967295))) * 4294967296)) + (Go.bits .and .u64 (IntKind.u64.wrap ((Go.bits .and .u64 a0 4294967295) * (Go.bits .and .u64 a1 4294967295))) 4294967295)))] (0, 0) _ rfl (by refine bw ?_; refine qQ0 (cs := #[.int .u64 (IntKind.u64.wrap ((IntKind.u64.wrap ((IntKind.u64.wrap ((a0 / 4294967296) * (a1 / 4294967296))) + ((IntKind.u64.wrap ((IntKind.u64.wrap ((a0 / 4294967296) * (Go.bits .and .u64 a1 4294967295))) + ((IntKind.u64.wrap ((Go.bits .and .u64 a0 4294967295) * (Go.bits .and .u64 a1 4294967295))) / 4294967296))) / 4294967296))) + ((IntKind.u64.wrap ((IntKind.u64.wrap ((Go.bits .and .u64 a0 4294967295) * (a1 / 4294967296))) + (Go.bits .and .u64 (IntKind.u64.wrap ((IntKind.u64.wrap ((a0 / 4294967296) * (Go.bits .and .u64 a1 4294967295))) + ((IntKind.u64.wrap ((Go.bits .and .u64 a0 4294967295) * (Go.bits .and .u64 a1 4294967295))) / 4294967296))) 4294967295))) / 4294967296))), .int .u64 0]) ?_ 1 _ rfl; refine bw ?_; refine qQ0 (cs := #[.int .u64 0, .int .u64 0]) ?_ 0 _ rfl; refine bw ?_; exact eX.out) Tryz.underlying104 rfl (by kernel_rfl)) rfl ?_
 exact ⟨er, by exact h1q HB.out lS.out⟩
mutual
def qQw.j0 : Nat -> Int -> Int -> Int -> Bool -> Option (Int × Int × Bool)
 | 0, _, _, _, _ => none
 | k + 1, x0, x1, x2, q3 => if q3 = true then (some (0, 0, false)) else (qQw.l0 k x1 x2 0 x0 63)
def qQw.l0 : Nat -> Int -> Int -> Int -> Int -> Int -> Option (Int × Int × Bool)
 | 0, _, _, _, _, _ => none
 | k + 1, x1, x2, x7, x8, x9 => if x9 ≥ 0 then (if 0 <= (IntKind.u64.wrap (x9)) then (if (x8 / 9223372036854775808) = 1 then (qQw.l0 k x1 x2 (IntKind.u64.wrap ((IntKind.u64.wrap (x7 * 2)) + 1)) (IntKind.u64.wrap ((IntKind.u64.wrap ((IntKind.u64.wrap (x8 * 2)) + (Go.bits .and .u64 (shr .u64 x1 (IntKind.u64.wrap (x9))) 1))) - x2)) (wrap64 (x9 - 1))) else (if (IntKind.u64.wrap ((IntKind.u64.wrap (x8 * 2)) + (Go.bits .and .u64 (shr .u64 x1 (IntKind.u64.wrap (x9))) 1))) ≥ x2 then (qQw.l0 k x1 x2 (IntKind.u64.wrap ((IntKind.u64.wrap (x7 * 2)) + 1)) (IntKind.u64.wrap ((IntKind.u64.wrap ((IntKind.u64.wrap (x8 * 2)) + (Go.bits .and .u64 (shr .u64 x1 (IntKind.u64.wrap (x9))) 1))) - x2)) (wrap64 (x9 - 1))) else (qQw.l0 k x1 x2 (IntKind.u64.wrap (x7 * 2)) (IntKind.u64.wrap ((IntKind.u64.wrap (x8 * 2)) + (Go.bits .and .u64 (shr .u64 x1 (IntKind.u64.wrap (x9))) 1))) (wrap64 (x9 - 1))))) else (none)) else (some (x7, x8, true))
end
def qQw.f (k : Nat) (a0 a1 a2 : Int) : Option (Int × Int × Bool) := if a2 = 0 then (qQw.j0 k a0 a1 a2 true) else (qQw.j0 k a0 a1 a2 (decide (a0 ≥ a2)))
set_option maxHeartbeats 8000000 in
set_option maxRecDepth 100000 in
theorem qQw.calls (k : Nat) (a0 a1 a2 r1 r2 : Int) (r3 : Bool) (w : World) (h : qQw.f k a0 a1 a2 = some (r1, r2, r3)) :
  Calls Tryz.prog 65 #[.int .u64 a0, .int .u64 a1, .int .u64 a2] w fun e w' => e = .returned (.agg #[.int .u64 r1, .int .u64 r2, .bool r3]) /\ Below w.heap.size w w' := by
 have mQ := Tryz.underlying107
 have HB := am (Below.refl w.heap.size w)
 have H := h
 unfold qQw.f at H
 clear h
 have kG := am H
 clear H
 go_enter Tryz.func65, Tryz.ntmps65
 go_upto_region 1 with (first | ((with_reducible refine gd 6 ?_); refine bE 6 _ 107 ?_; intro cF hg w5 hbox hb; have aY := am hbox; have oV := e0 HB hg; have cS := e0 HB hg; replace HB := s0 HB hb; clear hb hbox hg))
 (try simp only [Act.put, List.setIfInBounds_toArray, List.set_cons_zero, List.set_cons_succ])
 go_cut [17] (fun qO wc => ∃ (kq : Nat) (gZ : Bool), qO = .bool gZ /\ Aside0 (qQw.j0 kq a0 a1 a2 gZ = some (r1, r2, r3)) /\ Aside0 (kq <= k) /\ Aside0 (wc.heap[cF]? = some (.cells #[.int .u64 0, .int .u64 0, .bool false] 107 (0, 0))) /\ Aside0 (Below w.heap.size w wc))
 case first =>
  have H := kG.out
  clear kG
  by_cases c6 : a2 = 0
  ·rw [if_pos c6] at H
   have bK := beq_iff_eq.mpr c6
   have dW := bne_eq_false_iff_eq.mpr c6
   clear c6
   (first | rw [bK] | (simp only [i64_w, i32_w]; rw [bK]) | skip)
   have H' := am H
   clear H
   go_wp2
   go_meet
   case rel => exact ⟨_, (true), fr, H', o0, bA aY, a1_ HB cS⟩
  rw [if_neg c6] at H
  have bK := beq_eq_false_iff_ne.mpr c6
  have dW := bne_iff_ne.mpr c6
  (first | rw [bK] | (simp only [i64_w, i32_w]; rw [bK]) | skip)
  have H' := am H
  clear H
  go_wp2
  go_meet
  case rel => exact ⟨_, (decide (a0 ≥ a2)), fr, H', o0, bA aY, a1_ HB cS⟩
 case rest =>
  clear kG
  try clear c6
  try clear bK dW
  obtain ⟨kq, gZ, rfl, HA, h1, aY, HB⟩ := hcut
  rcases kq with _ | nW
  ·exact absurd HA.out (by simp [qQw.j0])
  have H := HA.out
  clear HA
  simp only [qQw.j0] at H
  by_cases c7 : gZ = true
  ·subst c7
   rw [if_pos rfl] at H
   simp only [Option.some.injEq, Prod.mk.injEq] at H
   obtain ⟨rfl, rfl, rfl⟩ := H
   have hN : wc.cell? ⟨cF, 0, none⟩ = some (.int .u64 0) := (qQa aY.out 0).trans rfl
   have hO : wc.cell? ⟨cF, 1, none⟩ = some (.int .u64 0) := (qQa aY.out 1).trans rfl
   have hP : wc.cell? ⟨cF, 2, none⟩ = some (.bool false) := (qQa aY.out 2).trans rfl
   have hQ := qQd aY.out 0
   have hR := qQd aY.out 1
   have hS := qQd aY.out 2
   go_wp2
   refine bodyPost_ret (results_cell_row rfl _ _ cF 107 #[.int .u64 0, .int .u64 0, .bool false] (0, 0) _ rfl (by refine bw ?_; refine qQ0 (cs := #[.int .u64 0, .int .u64 0, .bool false]) ?_ 2 _ rfl; refine bw ?_; refine qQ0 (cs := #[.int .u64 0, .int .u64 0, .bool false]) ?_ 1 _ rfl; refine bw ?_; refine qQ0 (cs := #[.int .u64 0, .int .u64 0, .bool false]) ?_ 0 _ rfl; refine bw ?_; exact aY.out) Tryz.underlying107 rfl (by kernel_rfl)) rfl ?_
   exact ⟨er, by exact h1q HB.out cS.out⟩
  replace c7 := Bool.eq_false_iff.mpr c7
  subst c7
  rw [if_neg (show ¬ (false = true) by decide)] at H
  have H' := am H
  clear H
  go_wp2
  go_loopg [7, 8, 9] nW (fun kq v7 v8 v9 w' => ∃ (cJ : Int) (bQ : Int) (cC : Int), v7 = .int .u64 cJ /\ v8 = .int .u64 bQ /\ v9 = .int .i64 cC /\ Aside0 (qQw.l0 kq a1 a2 cJ bQ cC = some (r1, r2, r3)) /\ Aside0 (kq <= nW) /\ Aside0 (w'.heap[cF]? = some (.cells #[.int .u64 0, .int .u64 0, .bool false] 107 (0, 0))) /\ Aside0 (Below w.heap.size w w'))
  case atStart => exact ⟨(0), (a0), (63), fr, fr, fr, H', ⟨Nat.le_refl _⟩, bA aY, a1_ HB cS⟩
  case round =>
   clear H'
   try clear c6
   try clear bK dW
   try clear c7
   try clear hN
   try clear hO
   try clear hP
   try clear hQ
   try clear hR
   try clear hS
   obtain ⟨cJ, bQ, cC, rfl, rfl, rfl, HA, lG, aY, HB⟩ := hrel
   rcases gk with _ | k2
   ·exact absurd HA.out (by simp [qQw.l0])
   have H := HA.out
   clear HA
   simp only [qQw.l0] at H
   by_cases c9 : cC ≥ 0
   case neg =>
    rw [if_neg c9] at H
    have b4 : decide (0 <= cC) = false := decide_eq_false c9
    clear c9
    simp only [Option.some.injEq, Prod.mk.injEq] at H
    obtain ⟨rfl, rfl, rfl⟩ := H
    have fV : wr.cell? ⟨cF, 0, none⟩ = some (.int .u64 0) := (qQa aY.out 0).trans rfl
    have fW : wr.cell? ⟨cF, 1, none⟩ = some (.int .u64 0) := (qQa aY.out 1).trans rfl
    have fX : wr.cell? ⟨cF, 2, none⟩ = some (.bool false) := (qQa aY.out 2).trans rfl
    have gF := qQd aY.out 0
    have gG := qQd aY.out 1
    have gH := qQd aY.out 2
    go_wp2
    refine bodyPost_ret (results_cell_row rfl _ _ cF 107 #[.int .u64 cJ, .int .u64 bQ, .bool true] (0, 0) _ rfl (by refine bw ?_; refine qQ0 (cs := #[.int .u64 cJ, .int .u64 bQ, .bool false]) ?_ 2 _ rfl; refine bw ?_; refine qQ0 (cs := #[.int .u64 cJ, .int .u64 0, .bool false]) ?_ 1 _ rfl; refine bw ?_; refine qQ0 (cs := #[.int .u64 0, .int .u64 0, .bool false]) ?_ 0 _ rfl; refine bw ?_; exact aY.out) Tryz.underlying107 rfl (by kernel_rfl)) rfl ?_
    exact ⟨er, by exact h1q HB.out cS.out⟩
   rw [if_pos c9] at H
   have b4 : decide (0 <= cC) = true := decide_eq_true c9
   clear c9
   obtain ⟨dL, kB⟩ : ∃ j_ : Int, (IntKind.u64.wrap (cC)) = j_ := ⟨_, rfl⟩
   replace H : (if 0 <= (dL) then (if (bQ / 9223372036854775808) = 1 then (qQw.l0 k2 a1 a2 (IntKind.u64.wrap ((IntKind.u64.wrap (cJ * 2)) + 1)) (IntKind.u64.wrap ((IntKind.u64.wrap ((IntKind.u64.wrap (bQ * 2)) + (Go.bits .and .u64 (shr .u64 a1 (dL)) 1))) - a2)) (wrap64 (cC - 1))) else (if (IntKind.u64.wrap ((IntKind.u64.wrap (bQ * 2)) + (Go.bits .and .u64 (shr .u64 a1 (dL)) 1))) ≥ a2 then (qQw.l0 k2 a1 a2 (IntKind.u64.wrap ((IntKind.u64.wrap (cJ * 2)) + 1)) (IntKind.u64.wrap ((IntKind.u64.wrap ((IntKind.u64.wrap (bQ * 2)) + (Go.bits .and .u64 (shr .u64 a1 (dL)) 1))) - a2)) (wrap64 (cC - 1))) else (qQw.l0 k2 a1 a2 (IntKind.u64.wrap (cJ * 2)) (IntKind.u64.wrap ((IntKind.u64.wrap (bQ * 2)) + (Go.bits .and .u64 (shr .u64 a1 (dL)) 1))) (wrap64 (cC - 1))))) else (none)) = some (r1, r2, r3) := by first | (rw [kB] at H; exact H) | (simp only [kB] at H ⊢; exact H)
   by_cases e3 : 0 <= (dL)
   case neg =>
    rw [if_neg e3] at H
    exact absurd H (by simp)
   rw [if_pos e3] at H
   have jV := eq_true e3
   have jW := decide_eq_true e3
   clear e3
   obtain ⟨cW, dK⟩ : ∃ j_ : Int, (shr .u64 a1 (dL)) = j_ := ⟨_, rfl⟩
   replace H : (if (bQ / 9223372036854775808) = 1 then (qQw.l0 k2 a1 a2 (IntKind.u64.wrap ((IntKind.u64.wrap (cJ * 2)) + 1)) (IntKind.u64.wrap ((IntKind.u64.wrap ((IntKind.u64.wrap (bQ * 2)) + (Go.bits .and .u64 (cW) 1))) - a2)) (wrap64 (cC - 1))) else (if (IntKind.u64.wrap ((IntKind.u64.wrap (bQ * 2)) + (Go.bits .and .u64 (cW) 1))) ≥ a2 then (qQw.l0 k2 a1 a2 (IntKind.u64.wrap ((IntKind.u64.wrap (cJ * 2)) + 1)) (IntKind.u64.wrap ((IntKind.u64.wrap ((IntKind.u64.wrap (bQ * 2)) + (Go.bits .and .u64 (cW) 1))) - a2)) (wrap64 (cC - 1))) else (qQw.l0 k2 a1 a2 (IntKind.u64.wrap (cJ * 2)) (IntKind.u64.wrap ((IntKind.u64.wrap (bQ * 2)) + (Go.bits .and .u64 (cW) 1))) (wrap64 (cC - 1))))) = some (r1, r2, r3) := by first | (rw [dK] at H; exact H) | (simp only [dK] at H ⊢; exact H)
   have hji12_ : (a1 / 2 ^ min (dL).toNat 64) = cW := dK
   have hji12z : (dL) <= 64 -> (a1 / 2 ^ (dL).toNat) = cW := qV5 dK
   by_cases cK : (bQ / 9223372036854775808) = 1
   ·rw [if_pos cK] at H
    have b6 := beq_iff_eq.mpr cK
    have fO := bne_eq_false_iff_eq.mpr cK
    clear cK
    have H' := am H
    clear H
    go_wp2
    go_roundg k2
    case measure => have := h1.out; have := lG.out; omega
    case rel => exact ⟨(IntKind.u64.wrap ((IntKind.u64.wrap (cJ * 2)) + 1)), (IntKind.u64.wrap ((IntKind.u64.wrap ((IntKind.u64.wrap (bQ * 2)) + (Go.bits .and .u64 (cW) 1))) - a2)), (wrap64 (cC - 1)), fr, (by first | rfl | (simp; done) | (simp only [<- dK] <;> (first | rfl | simp)) | (simp [*]; done)), fr, H', o2 h1 lG, bA aY, a1_ HB cS⟩
   rw [if_neg cK] at H
   have b6 := beq_eq_false_iff_ne.mpr cK
   have fO := bne_iff_ne.mpr cK
   by_cases dO : (IntKind.u64.wrap ((IntKind.u64.wrap (bQ * 2)) + (Go.bits .and .u64 (cW) 1))) ≥ a2
   case neg =>
    rw [if_neg dO] at H
    have fP : decide (a2 <= (IntKind.u64.wrap ((IntKind.u64.wrap (bQ * 2)) + (Go.bits .and .u64 (cW) 1)))) = false := decide_eq_false dO
    clear dO
    have H' := am H
    clear H
    go_wp2
    go_roundg k2
    case measure => have := h1.out; have := lG.out; omega
    case rel => exact ⟨(IntKind.u64.wrap (cJ * 2)), (IntKind.u64.wrap ((IntKind.u64.wrap (bQ * 2)) + (Go.bits .and .u64 (cW) 1))), (wrap64 (cC - 1)), fr, (by first | rfl | (simp; done) | (simp only [<- dK] <;> (first | rfl | simp)) | (simp [*]; done)), fr, H', o2 h1 lG, bA aY, a1_ HB cS⟩
   rw [if_pos dO] at H
   have fP : decide (a2 <= (IntKind.u64.wrap ((IntKind.u64.wrap (bQ * 2)) + (Go.bits .and .u64 (cW) 1)))) = true := decide_eq_true dO
   clear dO
   have H' := am H
   clear H
   go_wp2
   go_roundg k2
   case measure => have := h1.out; have := lG.out; omega
   case rel => exact ⟨(IntKind.u64.wrap ((IntKind.u64.wrap (cJ * 2)) + 1)), (IntKind.u64.wrap ((IntKind.u64.wrap ((IntKind.u64.wrap (bQ * 2)) + (Go.bits .and .u64 (cW) 1))) - a2)), (wrap64 (cC - 1)), fr, (by first | rfl | (simp; done) | (simp only [<- dK] <;> (first | rfl | simp)) | (simp [*]; done)), fr, H', o2 h1 lG, bA aY, a1_ HB cS⟩
mutual
def qQh.j0 : Nat -> Int -> Int -> Int -> Int -> Bool -> Option (Int × Int)
 | 0, _, _, _, _, _ => none
 | k + 1, x0, x1, x2, x3, q5 => if q5 = true then (some (0, 1)) else ((qYx.f (IntKind.u64.wrap (x0)) (IntKind.u64.wrap (x1))).bind fun jU => ((qQw.f k jU.1 jU.2 (IntKind.u64.wrap (x2))).bind fun cT => (if cT.2.2 = true then (qQh.j1 k x2 x3 (decide (cT.1 > 10000000000000)) cT.1 cT.2.1 cT.2.2) else (qQh.j1 k x2 x3 true cT.1 cT.2.1 cT.2.2))))
def qQh.j1 : Nat -> Int -> Int -> Bool -> Int -> Int -> Bool -> Option (Int × Int)
 | 0, _, _, _, _, _, _ => none
 | k + 1, x2, x3, q7, cL, bS, eQ => if q7 = true then (some (0, 14)) else (if x3 = 1 then (qQh.j2 k x2 x3 (wrap64 (cL)) (decide (bS > 0)) cL bS eQ) else (qQh.j2 k x2 x3 (wrap64 (cL)) false cL bS eQ))
def qQh.j2 : Nat -> Int -> Int -> Int -> Bool -> Int -> Int -> Bool -> Option (Int × Int)
 | 0, _, _, _, _, _, _, _ => none
 | k + 1, x2, x3, g6, q8, cL, bS, eQ => if q8 = true then (if (wrap64 (g6 + 1)) > 10000000000000 then (some (0, 14)) else (some (wrap64 (g6 + 1), 0))) else (if x3 = 2 then (if bS > (IntKind.u64.wrap ((IntKind.u64.wrap (x2)) - bS)) then (qQh.j3 k g6 true) else (if bS = (IntKind.u64.wrap ((IntKind.u64.wrap (x2)) - bS)) then (qQh.j3 k g6 ((Int.tmod g6 2) == 1)) else (qQh.j3 k g6 false))) else (if g6 > 10000000000000 then (some (0, 14)) else (some (g6, 0))))
def qQh.j3 : Nat -> Int -> Bool -> Option (Int × Int)
 | 0, _, _ => none
 | k + 1, g6, q9 => if q9 = true then (if (wrap64 (g6 + 1)) > 10000000000000 then (some (0, 14)) else (some (wrap64 (g6 + 1), 0))) else (if g6 > 10000000000000 then (some (0, 14)) else (some (g6, 0)))
end
def qQh.f (k : Nat) (a0 a1 a2 a3 : Int) : Option (Int × Int) := if a0 < 0 then (qQh.j0 k a0 a1 a2 a3 true) else (if a1 < 0 then (qQh.j0 k a0 a1 a2 a3 true) else (if a2 <= 0 then (qQh.j0 k a0 a1 a2 a3 true) else (if a3 < 0 then (qQh.j0 k a0 a1 a2 a3 true) else (qQh.j0 k a0 a1 a2 a3 (decide (a3 > 2))))))
set_option maxHeartbeats 8000000 in
set_option maxRecDepth 100000 in
theorem qQh.calls (k : Nat) (a0 a1 a2 a3 r1 r2 : Int) (w : World) (h : qQh.f k a0 a1 a2 a3 = some (r1, r2)) :
  Calls Tryz.prog 43 #[.int .i64 a0, .int .i64 a1, .int .i64 a2, .int .i64 a3] w fun e w' => e = .returned (.tuple #[.int .i64 r1, .int .i64 r2]) /\ Below w.heap.size w w' := by
 have mP := Tryz.underlying104
 have mQ := Tryz.underlying107
 have HB := am (Below.refl w.heap.size w)
 have H := h
 unfold qQh.f at H
 clear h
 have nY := am H
 clear H
 go_enter Tryz.func43, Tryz.ntmps43
 go_upto_region 1 with (fail)
 go_cut [31] (fun qQ wc => ∃ (kq : Nat) (g1 : Bool), qQ = .bool g1 /\ Aside0 (qQh.j0 kq a0 a1 a2 a3 g1 = some (r1, r2)) /\ Aside0 (kq <= k) /\ Aside0 (Below w.heap.size w wc))
 case first =>
  have H := nY.out
  clear nY
  by_cases c6 : a0 < 0
  ·rw [if_pos c6] at H
   have bK := decide_eq_true c6
   clear c6
   (first | rw [bK] | (simp only [i64_w, i32_w]; rw [bK]) | skip)
   have H' := am H
   clear H
   go_wp2
   go_meet
   case rel => exact ⟨_, (true), fr, H', o0, a0_ HB⟩
  rw [if_neg c6] at H
  have bK := decide_eq_false c6
  clear c6
  (first | rw [bK] | (simp only [i64_w, i32_w]; rw [bK]) | skip)
  by_cases c7 : a1 < 0
  ·rw [if_pos c7] at H
   have dX := decide_eq_true c7
   clear c7
   have H' := am H
   clear H
   go_wp2
   go_meet
   case rel => exact ⟨_, (true), fr, H', o0, a0_ HB⟩
  rw [if_neg c7] at H
  have dX := decide_eq_false c7
  clear c7
  by_cases c8 : a2 <= 0
  ·rw [if_pos c8] at H
   have bV := decide_eq_true c8
   clear c8
   have H' := am H
   clear H
   go_wp2
   go_meet
   case rel => exact ⟨_, (true), fr, H', o0, a0_ HB⟩
  rw [if_neg c8] at H
  have bV := decide_eq_false c8
  clear c8
  by_cases c9 : a3 < 0
  ·rw [if_pos c9] at H
   have b4 := decide_eq_true c9
   clear c9
   have H' := am H
   clear H
   go_wp2
   go_meet
   case rel => exact ⟨_, (true), fr, H', o0, a0_ HB⟩
  rw [if_neg c9] at H
  have b4 := decide_eq_false c9
  clear c9
  have H' := am H
  clear H
  go_wp2
  go_meet
  case rel => exact ⟨_, (decide (a3 > 2)), fr, H', o0, a0_ HB⟩
 case rest =>
  clear nY
  try clear c6
  try clear bK
  try clear c7
  try clear dX
  try clear c8
  try clear bV
  try clear c9
  try clear b4
  obtain ⟨kq, g1, rfl, HA, kI, HB⟩ := hcut
  rcases kq with _ | qM
  ·exact absurd HA.out (by simp [qQh.j0])
  have H := HA.out
  clear HA
  simp only [qQh.j0] at H
  by_cases cU : g1 = true
  ·subst cU
   rw [if_pos rfl] at H
   simp only [Option.some.injEq, Prod.mk.injEq] at H
   obtain ⟨rfl, rfl⟩ := H
   go_wp2
   go_ret2
   exact ⟨er, by exact h0q HB.out⟩
  replace cU := Bool.eq_false_iff.mpr cU
  subst cU
  rw [if_neg (show ¬ (false = true) by decide)] at H
  obtain ⟨⟨g5, hY⟩, pT, H⟩ := bd H
  obtain ⟨⟨a5, bO, cO⟩, dS, H⟩ := bd H
  have kD := am H
  clear H
  go_upto_region 5 with (first | ((with_reducible refine gf 64 ?_); refine gC (some 36) Tryz.func64 (qYx.calls _ _ g5 hY _ pT.out) ?_; rintro e g8 ⟨rfl, hb⟩; refine ⟨_, rfl, ?_⟩; replace HB := s0 HB hb; (try clear hb); (try clear hb2); (try clear hk); (try clear hi)) | ((with_reducible refine gd 10 ?_); refine bE 10 _ 104 ?_; intro dQ hg oP hbox hb; have a7 := am hbox; have oW := e0 HB hg; have a8 := e0 HB hg; replace HB := s0 HB hb; clear hb hbox hg; have d1 : oP.cell? ⟨dQ, 0, none⟩ = some (.int .u64 0) := (qQa a7.out 0).trans rfl; have d2 : oP.cell? ⟨dQ, 1, none⟩ = some (.int .u64 0) := (qQa a7.out 1).trans rfl; have eC := qQd a7.out 0; have eD := qQd a7.out 1) | ((with_reducible refine gf 65 ?_); refine gC (some 43) Tryz.func65 (qQw.calls _ _ _ _ a5 bO cO _ dS.out) ?_; rintro e q1 ⟨rfl, hb⟩; refine ⟨_, rfl, ?_⟩; replace a7 := am (qQv (g := dQ) (o := .cells #[.int .u64 g5, .int .u64 hY] 104 (0, 0)) (by refine bw ?_; refine qQ0 (cs := #[.int .u64 g5, .int .u64 0]) ?_ 1 _ rfl; refine bw ?_; refine qQ0 (cs := #[.int .u64 0, .int .u64 0]) ?_ 0 _ rfl; refine bw ?_; exact a7.out) hb); replace HB := s1 HB a8 hb; (try clear hb); (try clear hb2); (try clear hk); (try clear hi)) | ((with_reducible refine gd 11 ?_); refine bE 11 _ 107 ?_; intro aK hg hZ hbox hb; have aC := am hbox; have oX := e1 HB a8 hg; have bM := e1 HB a8 hg; replace HB := s1 HB a8 hb; have aM := nL a7 hg; have aW := nG a7 hg; replace a7 := bB a7 hb; clear hb hbox hg; have o4 := aW.out; have pE := aM.out; have d3 : hZ.cell? ⟨aK, 0, none⟩ = some (.int .u64 0) := (qQa aC.out 0).trans rfl; have d4 : hZ.cell? ⟨aK, 1, none⟩ = some (.int .u64 0) := (qQa aC.out 1).trans rfl; have d5 : hZ.cell? ⟨aK, 2, none⟩ = some (.bool false) := (qQa aC.out 2).trans rfl; have eE := qQd aC.out 0; have eF := qQd aC.out 1; have eG := qQd aC.out 2))
  (try simp only [Act.put, List.setIfInBounds_toArray, List.set_cons_zero, List.set_cons_succ])
  go_cut [51] (fun qW wc => ∃ (kq : Nat) (eR : Bool), qW = .bool eR /\ Aside0 (qQh.j1 kq a2 a3 eR a5 bO cO = some (r1, r2)) /\ Aside0 (kq <= qM) /\ Aside0 (wc.heap[dQ]? = some (.cells #[.int .u64 g5, .int .u64 hY] 104 (0, 0))) /\ Aside0 (wc.heap[aK]? = some (.cells #[.int .u64 a5, .int .u64 bO, .bool cO] 107 (0, 0))) /\ Aside0 (Below w.heap.size w wc))
  case first =>
   have H := kD.out
   clear kD
   by_cases kJ : cO = true
   ·subst kJ
    rw [if_pos rfl] at H
    have H' := am H
    clear H
    have o5 := aW.out
    have pF := aM.out
    have d6 : hZ.cell? ⟨aK, 0, none⟩ = some (.int .u64 0) := (qQa aC.out 0).trans rfl
    have d7 : hZ.cell? ⟨aK, 1, none⟩ = some (.int .u64 0) := (qQa aC.out 1).trans rfl
    have d8 : hZ.cell? ⟨aK, 2, none⟩ = some (.bool false) := (qQa aC.out 2).trans rfl
    have eH := qQd aC.out 0
    have eI := qQd aC.out 1
    have eJ := qQd aC.out 2
    go_wp2
    go_meet
    case rel => exact ⟨_, (decide (a5 > 10000000000000)), fr, H', o1 kI, ⟨by (iterate 3 (refine bw ?_; refine qZ8 ?_ aM.out _)); refine bw ?_; exact a7.out⟩, ⟨by refine bw ?_; refine qQ0 (cs := #[.int .u64 a5, .int .u64 bO, .bool false]) ?_ 2 _ rfl; refine bw ?_; refine qQ0 (cs := #[.int .u64 a5, .int .u64 0, .bool false]) ?_ 1 _ rfl; refine bw ?_; refine qQ0 (cs := #[.int .u64 0, .int .u64 0, .bool false]) ?_ 0 _ rfl; refine bw ?_; exact aC.out⟩, a2_ HB a8 bM⟩
   replace kJ := Bool.eq_false_iff.mpr kJ
   subst kJ
   rw [if_neg (show ¬ (false = true) by decide)] at H
   have H' := am H
   clear H
   have o6 := aW.out
   have pG := aM.out
   have d9 : hZ.cell? ⟨aK, 0, none⟩ = some (.int .u64 0) := (qQa aC.out 0).trans rfl
   have eA : hZ.cell? ⟨aK, 1, none⟩ = some (.int .u64 0) := (qQa aC.out 1).trans rfl
   have eB : hZ.cell? ⟨aK, 2, none⟩ = some (.bool false) := (qQa aC.out 2).trans rfl
   have eK := qQd aC.out 0
   have eL := qQd aC.out 1
   have eM := qQd aC.out 2
   go_wp2
   go_meet
   case rel => exact ⟨_, (true), fr, H', o1 kI, ⟨by (iterate 3 (refine bw ?_; refine qZ8 ?_ aM.out _)); refine bw ?_; exact a7.out⟩, ⟨by refine bw ?_; refine qQ0 (cs := #[.int .u64 a5, .int .u64 bO, .bool false]) ?_ 2 _ rfl; refine bw ?_; refine qQ0 (cs := #[.int .u64 a5, .int .u64 0, .bool false]) ?_ 1 _ rfl; refine bw ?_; refine qQ0 (cs := #[.int .u64 0, .int .u64 0, .bool false]) ?_ 0 _ rfl; refine bw ?_; exact aC.out⟩, a2_ HB a8 bM⟩
  case rest =>
   clear kD
   try clear c6
   try clear bK
   try clear c7
   try clear dX
   try clear c8
   try clear bV
   try clear c9
   try clear b4
   try clear cU
   try clear kJ
   try clear d1
   try clear d2
   try clear d3
   try clear d4
   try clear d5
   try clear d6
   try clear d7
   try clear d8
   try clear d9
   try clear eA
   try clear eB
   try clear eC
   try clear eD
   try clear eE
   try clear eF
   try clear eG
   try clear eH
   try clear eI
   try clear eJ
   try clear eK
   try clear eL
   try clear eM
   obtain ⟨kq, eR, rfl, HA, hB, a7, aC, HB⟩ := hcut
   rcases kq with _ | oK
   ·exact absurd HA.out (by simp [qQh.j1])
   have H := HA.out
   clear HA
   simp only [qQh.j1] at H
   by_cases lK : eR = true
   ·subst lK
    rw [if_pos rfl] at H
    simp only [Option.some.injEq, Prod.mk.injEq] at H
    obtain ⟨rfl, rfl⟩ := H
    go_wp2
    go_ret2
    exact ⟨er, by exact h2q HB.out a8.out bM.out⟩
   replace lK := Bool.eq_false_iff.mpr lK
   subst lK
   rw [if_neg (show ¬ (false = true) by decide)] at H
   have kE := am H
   clear H
   have o7 := aW.out
   have pH := aM.out
   have f8 : wc.cell? ⟨aK, 0, none⟩ = some (.int .u64 a5) := (qQa aC.out 0).trans rfl
   have f9 : wc.cell? ⟨aK, 1, none⟩ = some (.int .u64 bO) := (qQa aC.out 1).trans rfl
   have gA : wc.cell? ⟨aK, 2, none⟩ = some (.bool cO) := (qQa aC.out 2).trans rfl
   have gL := qQd aC.out 0
   have gM := qQd aC.out 1
   have gN := qQd aC.out 2
   go_upto_region 8 with (fail)
   go_cut [55] (fun qX wc => ∃ (kq : Nat) (eS : Bool), qX = .bool eS /\ Aside0 (qQh.j2 kq a2 a3 (wrap64 (a5)) eS a5 bO cO = some (r1, r2)) /\ Aside0 (kq <= oK) /\ Aside0 (wc.heap[dQ]? = some (.cells #[.int .u64 g5, .int .u64 hY] 104 (0, 0))) /\ Aside0 (wc.heap[aK]? = some (.cells #[.int .u64 a5, .int .u64 bO, .bool cO] 107 (0, 0))) /\ Aside0 (Below w.heap.size w wc))
   case first =>
    have H := kE.out
    clear kE
    by_cases h4 : a3 = 1
    case neg =>
     rw [if_neg h4] at H
     have dC := beq_eq_false_iff_ne.mpr h4
     have hH := bne_iff_ne.mpr h4
     (first | rw [dC] | (simp only [i64_w, i32_w]; rw [dC]) | skip)
     have H' := am H
     clear H
     go_wp2
     go_meet
     case rel => exact ⟨_, (false), fr, H', o2 kI hB, bA a7, bA aC, a2_ HB a8 bM⟩
    rw [if_pos h4] at H
    have dC := beq_iff_eq.mpr h4
    have hH := bne_eq_false_iff_eq.mpr h4
    clear h4
    (first | rw [dC] | (simp only [i64_w, i32_w]; rw [dC]) | skip)
    have H' := am H
    clear H
    have o8 := aW.out
    have pI := aM.out
    have gB : wc.cell? ⟨aK, 0, none⟩ = some (.int .u64 a5) := (qQa aC.out 0).trans rfl
    have gD : wc.cell? ⟨aK, 1, none⟩ = some (.int .u64 bO) := (qQa aC.out 1).trans rfl
    have gE : wc.cell? ⟨aK, 2, none⟩ = some (.bool cO) := (qQa aC.out 2).trans rfl
    have gO := qQd aC.out 0
    have gP := qQd aC.out 1
    have gQ := qQd aC.out 2
    go_wp2
    go_meet
    case rel => exact ⟨_, (decide (bO > 0)), fr, H', o2 kI hB, bA a7, bA aC, a2_ HB a8 bM⟩
   case rest =>
    clear kE
    try clear c6
    try clear bK
    try clear c7
    try clear dX
    try clear c8
    try clear bV
    try clear c9
    try clear b4
    try clear cU
    try clear kJ
    try clear lK
    try clear h4
    try clear dC hH
    try clear d1
    try clear d2
    try clear d3
    try clear d4
    try clear d5
    try clear d6
    try clear d7
    try clear d8
    try clear d9
    try clear eA
    try clear eB
    try clear f8
    try clear f9
    try clear gA
    try clear gB
    try clear gD
    try clear gE
    try clear eC
    try clear eD
    try clear eE
    try clear eF
    try clear eG
    try clear eH
    try clear eI
    try clear eJ
    try clear eK
    try clear eL
    try clear eM
    try clear gL
    try clear gM
    try clear gN
    try clear gO
    try clear gP
    try clear gQ
    obtain ⟨kq, eS, rfl, HA, kH, a7, aC, HB⟩ := hcut
    rcases kq with _ | oL
    ·exact absurd HA.out (by simp [qQh.j2])
    have H := HA.out
    clear HA
    simp only [qQh.j2] at H
    by_cases l6 : eS = true
    ·subst l6
     rw [if_pos rfl] at H
     by_cases fR : (wrap64 ((wrap64 (a5)) + 1)) > 10000000000000
     ·rw [if_pos fR] at H
      have fS : decide (10000000000000 < (wrap64 ((wrap64 (a5)) + 1))) = true := decide_eq_true fR
      clear fR
      simp only [Option.some.injEq, Prod.mk.injEq] at H
      obtain ⟨rfl, rfl⟩ := H
      go_wp2
      go_ret2
      exact ⟨er, by exact h2q HB.out a8.out bM.out⟩
     rw [if_neg fR] at H
     have fS : decide (10000000000000 < (wrap64 ((wrap64 (a5)) + 1))) = false := decide_eq_false fR
     clear fR
     simp only [Option.some.injEq, Prod.mk.injEq] at H
     obtain ⟨rfl, rfl⟩ := H
     go_wp2
     go_ret2
     exact ⟨er, by exact h2q HB.out a8.out bM.out⟩
    replace l6 := Bool.eq_false_iff.mpr l6
    subst l6
    rw [if_neg (show ¬ (false = true) by decide)] at H
    by_cases j4 : a3 = 2
    case neg =>
     rw [if_neg j4] at H
     have j5 := beq_eq_false_iff_ne.mpr j4
     have j6 := bne_iff_ne.mpr j4
     by_cases fT : (wrap64 (a5)) > 10000000000000
     ·rw [if_pos fT] at H
      have hJ : decide (10000000000000 < (wrap64 (a5))) = true := decide_eq_true fT
      clear fT
      simp only [Option.some.injEq, Prod.mk.injEq] at H
      obtain ⟨rfl, rfl⟩ := H
      go_wp2
      go_ret2
      exact ⟨er, by exact h2q HB.out a8.out bM.out⟩
     rw [if_neg fT] at H
     have hJ : decide (10000000000000 < (wrap64 (a5))) = false := decide_eq_false fT
     clear fT
     simp only [Option.some.injEq, Prod.mk.injEq] at H
     obtain ⟨rfl, rfl⟩ := H
     go_wp2
     go_ret2
     exact ⟨er, by exact h2q HB.out a8.out bM.out⟩
    rw [if_pos j4] at H
    have j5 := beq_iff_eq.mpr j4
    have j6 := bne_eq_false_iff_eq.mpr j4
    clear j4
    have kF := am H
    clear H
    have o9 := aW.out
    have pJ := aM.out
    have iF : wc.cell? ⟨aK, 0, none⟩ = some (.int .u64 a5) := (qQa aC.out 0).trans rfl
    have iG : wc.cell? ⟨aK, 1, none⟩ = some (.int .u64 bO) := (qQa aC.out 1).trans rfl
    have iH : wc.cell? ⟨aK, 2, none⟩ = some (.bool cO) := (qQa aC.out 2).trans rfl
    have i0 := qQd aC.out 0
    have i1 := qQd aC.out 1
    have i2 := qQd aC.out 2
    go_upto_region 12 with (fail)
    go_cut [87] (fun qY wc => ∃ (kq : Nat) (eT : Bool), qY = .bool eT /\ Aside0 (qQh.j3 kq (wrap64 (a5)) eT = some (r1, r2)) /\ Aside0 (kq <= oL) /\ Aside0 (wc.heap[dQ]? = some (.cells #[.int .u64 g5, .int .u64 hY] 104 (0, 0))) /\ Aside0 (wc.heap[aK]? = some (.cells #[.int .u64 a5, .int .u64 bO, .bool cO] 107 (0, 0))) /\ Aside0 (Below w.heap.size w wc))
    case first =>
     have H := kF.out
     clear kF
     by_cases kL : bO > (IntKind.u64.wrap ((IntKind.u64.wrap (a2)) - bO))
     ·rw [if_pos kL] at H
      have dP : decide ((IntKind.u64.wrap ((IntKind.u64.wrap (a2)) - bO)) < bO) = true := decide_eq_true kL
      clear kL
      (first | rw [dP] | (simp only [i64_w, i32_w]; rw [dP]) | skip)
      have H' := am H
      clear H
      have pA := aW.out
      have pK := aM.out
      have iI : wc.cell? ⟨aK, 0, none⟩ = some (.int .u64 a5) := (qQa aC.out 0).trans rfl
      have iJ : wc.cell? ⟨aK, 1, none⟩ = some (.int .u64 bO) := (qQa aC.out 1).trans rfl
      have iK : wc.cell? ⟨aK, 2, none⟩ = some (.bool cO) := (qQa aC.out 2).trans rfl
      have i3 := qQd aC.out 0
      have i4 := qQd aC.out 1
      have i5 := qQd aC.out 2
      go_wp2
      go_meet
      case rel => exact ⟨_, (true), fr, H', ⟨by have := kI.out; have := hB.out; have := kH.out; first | omega | exact Nat.le_refl _⟩, bA a7, bA aC, a2_ HB a8 bM⟩
     rw [if_neg kL] at H
     have dP : decide ((IntKind.u64.wrap ((IntKind.u64.wrap (a2)) - bO)) < bO) = false := decide_eq_false kL
     clear kL
     (first | rw [dP] | (simp only [i64_w, i32_w]; rw [dP]) | skip)
     by_cases j7 : bO = (IntKind.u64.wrap ((IntKind.u64.wrap (a2)) - bO))
     case neg =>
      rw [if_neg j7] at H
      have j8 := beq_eq_false_iff_ne.mpr j7
      have j9 := bne_iff_ne.mpr j7
      have H' := am H
      clear H
      have pC := aW.out
      have pM := aM.out
      have iO : wc.cell? ⟨aK, 0, none⟩ = some (.int .u64 a5) := (qQa aC.out 0).trans rfl
      have iP : wc.cell? ⟨aK, 1, none⟩ = some (.int .u64 bO) := (qQa aC.out 1).trans rfl
      have iQ : wc.cell? ⟨aK, 2, none⟩ = some (.bool cO) := (qQa aC.out 2).trans rfl
      have i9 := qQd aC.out 0
      have jA := qQd aC.out 1
      have jB := qQd aC.out 2
      go_wp2
      go_meet
      case rel => exact ⟨_, (false), fr, H', ⟨by have := kI.out; have := hB.out; have := kH.out; first | omega | exact Nat.le_refl _⟩, bA a7, bA aC, a2_ HB a8 bM⟩
     rw [if_pos j7] at H
     have j8 := beq_iff_eq.mpr j7
     have j9 := bne_eq_false_iff_eq.mpr j7
     clear j7
     have H' := am H
     clear H
     have pB := aW.out
     have pL := aM.out
     have iL : wc.cell? ⟨aK, 0, none⟩ = some (.int .u64 a5) := (qQa aC.out 0).trans rfl
     have iM : wc.cell? ⟨aK, 1, none⟩ = some (.int .u64 bO) := (qQa aC.out 1).trans rfl
     have iN : wc.cell? ⟨aK, 2, none⟩ = some (.bool cO) := (qQa aC.out 2).trans rfl
     have i6 := qQd aC.out 0
     have i7 := qQd aC.out 1
     have i8 := qQd aC.out 2
     go_wp2
     go_meet
     case rel => exact ⟨_, (((Int.tmod (wrap64 (a5)) 2) == 1)), fr, H', ⟨by have := kI.out; have := hB.out; have := kH.out; first | omega | exact Nat.le_refl _⟩, bA a7, bA aC, a2_ HB a8 bM⟩
    case rest =>
     clear kF
     try clear c6
     try clear bK
     try clear c7
     try clear dX
     try clear c8
     try clear bV
     try clear c9
     try clear b4
     try clear cU
     try clear kJ
     try clear lK
     try clear h4
     try clear dC hH
     try clear l6
     try clear fR
     try clear fS
     try clear j4
     try clear j5 j6
     try clear kL
     try clear dP
     try clear j7
     try clear j8 j9
     try clear d1
     try clear d2
     try clear d3
     try clear d4
     try clear d5
     try clear d6
     try clear d7
     try clear d8
     try clear d9
     try clear eA
     try clear eB
     try clear f8
     try clear f9
     try clear gA
     try clear gB
     try clear gD
     try clear gE
     try clear iF
     try clear iG
     try clear iH
     try clear iI
     try clear iJ
     try clear iK
     try clear iL
     try clear iM
     try clear iN
     try clear iO
     try clear iP
     try clear iQ
     try clear eC
     try clear eD
     try clear eE
     try clear eF
     try clear eG
     try clear eH
     try clear eI
     try clear eJ
     try clear eK
     try clear eL
     try clear eM
     try clear gL
     try clear gM
     try clear gN
     try clear gO
     try clear gP
     try clear gQ
     try clear i0
     try clear i1
     try clear i2
     try clear i3
     try clear i4
     try clear i5
     try clear i6
     try clear i7
     try clear i8
     try clear i9
     try clear jA
     try clear jB
     obtain ⟨kq, eT, rfl, HA, pV, a7, aC, HB⟩ := hcut
     rcases kq with _ | qL
     ·exact absurd HA.out (by simp [qQh.j3])
     have H := HA.out
     clear HA
     simp only [qQh.j3] at H
     by_cases g7 : eT = true
     ·subst g7
      rw [if_pos rfl] at H
      by_cases lP : (wrap64 ((wrap64 (a5)) + 1)) > 10000000000000
      ·rw [if_pos lP] at H
       have mB : decide (10000000000000 < (wrap64 ((wrap64 (a5)) + 1))) = true := decide_eq_true lP
       clear lP
       simp only [Option.some.injEq, Prod.mk.injEq] at H
       obtain ⟨rfl, rfl⟩ := H
       go_wp2
       go_ret2
       exact ⟨er, by exact h2q HB.out a8.out bM.out⟩
      rw [if_neg lP] at H
      have mB : decide (10000000000000 < (wrap64 ((wrap64 (a5)) + 1))) = false := decide_eq_false lP
      clear lP
      simp only [Option.some.injEq, Prod.mk.injEq] at H
      obtain ⟨rfl, rfl⟩ := H
      go_wp2
      go_ret2
      exact ⟨er, by exact h2q HB.out a8.out bM.out⟩
     replace g7 := Bool.eq_false_iff.mpr g7
     subst g7
     rw [if_neg (show ¬ (false = true) by decide)] at H
     by_cases lQ : (wrap64 (a5)) > 10000000000000
     ·rw [if_pos lQ] at H
      have mC : decide (10000000000000 < (wrap64 (a5))) = true := decide_eq_true lQ
      clear lQ
      simp only [Option.some.injEq, Prod.mk.injEq] at H
      obtain ⟨rfl, rfl⟩ := H
      go_wp2
      go_ret2
      exact ⟨er, by exact h2q HB.out a8.out bM.out⟩
     rw [if_neg lQ] at H
     have mC : decide (10000000000000 < (wrap64 (a5))) = false := decide_eq_false lQ
     clear lQ
     simp only [Option.some.injEq, Prod.mk.injEq] at H
     obtain ⟨rfl, rfl⟩ := H
     go_wp2
     go_ret2
     exact ⟨er, by exact h2q HB.out a8.out bM.out⟩
end Go.Proofs.YtlhcohipnieidaaGreat.P
