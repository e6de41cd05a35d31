/- Several texts as one (written by a program): what the walks and the plain laws come to, one behind the other. -/
import Derived.Test.YtlhcohipnieidaaGreatQa
import Derived.Test.YtlhcohipnieidaaGreatQb
import Derived.Sort.LotA
import Derived.Shelf.SlSortCmp.Kit1
import Derived.Sort.WalkB2
import Derived.Sort.WalkB12
import Derived.Deep.LoopGhost
import Derived.LoopN
import Derived.BigQuiet
namespace Go.Proofs.YtlhcohipnieidaaGreat.P
open Go.RowKit W.PrintWords W.PrintLast W.PrintMore
attribute [local go_sem] qX8 qWa qWu qWv qXt qXu qX9 qWb
set_option linter.unusedVariables false
set_option linter.unusedSimpArgs false
def qX0.f (k : Nat) (l0 : List Int) (a1 a2 : Int) : Option (Int × Int) := (qYi.f k l0 a1).bind fun e4 => (if e4.2 = 0 then (if a2 < 0 then (some (0, 1)) else (if a2 > 1000000000 then (some (0, 1)) else (some (mx (wrap64 (a2 - e4.1)) 0, 0)))) else (some (0, 1)))
set_option maxHeartbeats 8000000 in
set_option maxRecDepth 100000 in
theorem qX0.calls (k : Nat) (A0 : Option Addr) (c0 : Nat) (l0 : List Int) (a1 a2 r1 r2 : Int) (w : World) (hr0 : Kd.C (Kd.int .i64) w A0 l0.length l0) (hc0 : l0.length <= c0) (h : qX0.f k l0 a1 a2 = some (r1, r2)) :
  Calls Tryz.prog 78 #[.slice A0 l0.length c0, .int .i64 a1, .int .i64 a2] w fun e w' => e = .returned (.tuple #[.int .i64 r1, .int .i64 r2]) /\ Below w.heap.size w w' := by
 have eZ := am hr0
 have iE := am hc0
 clear hr0 hc0
 have HB := am (Below.refl w.heap.size w)
 have H := h
 unfold qX0.f at H
 clear h
 obtain ⟨⟨eN, eS⟩, A4, H⟩ := bd H
 by_cases c5 : eS = 0
 case neg =>
  rw [if_neg c5] at H
  have iF := beq_eq_false_iff_ne.mpr c5
  have iG := bne_iff_ne.mpr c5
  simp only [Option.some.injEq, Prod.mk.injEq] at H
  obtain ⟨rfl, rfl⟩ := H
  go_enter Tryz.func78, Tryz.ntmps78
  go_wp2_with (first | ((with_reducible refine gf 96 ?_); refine gC (some 13) Tryz.func96 (qYi.calls _ _ _ _ _ eN eS _ ?side1 ?side2 A4.out) ?_; (case side1 => exact cq (eZ.out)); (case side2 => exact iE.out); rintro e i2 ⟨rfl, hb⟩; refine ⟨_, rfl, ?_⟩; replace HB := s0 HB hb; (try clear hb); (try clear hb2); (try clear hk); (try clear hi)))
  go_ret2
  exact ⟨er, by exact h0q HB.out⟩
 rw [if_pos c5] at H
 have iF := beq_iff_eq.mpr c5
 have iG := bne_eq_false_iff_eq.mpr c5
 clear c5
 by_cases c6 : a2 < 0
 ·rw [if_pos c6] at H
  have iT := decide_eq_true c6
  clear c6
  simp only [Option.some.injEq, Prod.mk.injEq] at H
  obtain ⟨rfl, rfl⟩ := H
  go_enter Tryz.func78, Tryz.ntmps78
  go_wp2_with (first | ((with_reducible refine gf 96 ?_); refine gC (some 13) Tryz.func96 (qYi.calls _ _ _ _ _ eN eS _ ?side1 ?side2 A4.out) ?_; (case side1 => exact cq (eZ.out)); (case side2 => exact iE.out); rintro e w7 ⟨rfl, hb⟩; refine ⟨_, rfl, ?_⟩; replace HB := s0 HB hb; (try clear hb); (try clear hb2); (try clear hk); (try clear hi)))
  go_ret2
  exact ⟨er, by exact h0q HB.out⟩
 rw [if_neg c6] at H
 have iT := decide_eq_false c6
 clear c6
 by_cases c8 : a2 > 1000000000
 ·rw [if_pos c8] at H
  have iH : decide (1000000000 < a2) = true := decide_eq_true c8
  clear c8
  simp only [Option.some.injEq, Prod.mk.injEq] at H
  obtain ⟨rfl, rfl⟩ := H
  go_enter Tryz.func78, Tryz.ntmps78
  go_wp2_with (first | ((with_reducible refine gf 96 ?_); refine gC (some 13) Tryz.func96 (qYi.calls _ _ _ _ _ eN eS _ ?side1 ?side2 A4.out) ?_; (case side1 => exact cq (eZ.out)); (case side2 => exact iE.out); rintro e w9 ⟨rfl, hb⟩; refine ⟨_, rfl, ?_⟩; replace HB := s0 HB hb; (try clear hb); (try clear hb2); (try clear hk); (try clear hi)))
  go_ret2
  exact ⟨er, by exact h0q HB.out⟩
 rw [if_neg c8] at H
 have iH : decide (1000000000 < a2) = false := decide_eq_false c8
 clear c8
 obtain ⟨e0, aA⟩ : ∃ j_ : Int, (mx (wrap64 (a2 - eN)) 0) = j_ := ⟨_, rfl⟩
 replace H : (some (e0, 0)) = some (r1, r2) := by first | (rw [aA] at H; exact H) | (simp only [aA] at H ⊢; exact H)
 (try rw [aA] at A4)
 (try (have hji10l : 0 <= e0 := by (rw [<- aA]; unfold mx; (repeat' split) <;> omega)))
 (try (have hji10m : 0 <= e0 := by omega))
 have hji10_ : (if (wrap64 (a2 - eN)) < 0 then 0 else (wrap64 (a2 - eN))) = e0 := aA
 simp only [Option.some.injEq, Prod.mk.injEq] at H
 obtain ⟨rfl, rfl⟩ := H
 go_enter Tryz.func78, Tryz.ntmps78
 go_wp2_with (first | ((with_reducible refine gf 96 ?_); refine gC (some 13) Tryz.func96 (qYi.calls _ _ _ _ _ eN eS _ ?side1 ?side2 A4.out) ?_; (case side1 => exact cq (eZ.out)); (case side2 => exact iE.out); rintro e i1 ⟨rfl, hb⟩; refine ⟨_, rfl, ?_⟩; replace HB := s0 HB hb; (try clear hb); (try clear hb2); (try clear hk); (try clear hi)))
 go_ret2
 exact ⟨by first | rfl | (simp [qQj, qQk] <;> rfl) | (simp only [<- aA]; first | rfl | (simp [qQj, qQk] <;> rfl)) | (simp [*, qQj, qQk] <;> rfl), by exact h0q HB.out⟩
def qWe.f (k : Nat) (l0 : List Int) (a1 a2 : Int) : Option (Int × Int) := (qX0.f k l0 a1 a2).bind fun eQ => (if eQ.2 = 0 then ((qQx.f k eQ.1 1 120 2).bind fun e5 => (some (e5.1, e5.2))) else (some (0, eQ.2)))
set_option maxHeartbeats 8000000 in
set_option maxRecDepth 100000 in
theorem qWe.calls (k : Nat) (A0 : Option Addr) (c0 : Nat) (l0 : List Int) (a1 a2 r1 r2 : Int) (w : World) (hr0 : Kd.C (Kd.int .i64) w A0 l0.length l0) (hc0 : l0.length <= c0) (h : qWe.f k l0 a1 a2 = some (r1, r2)) :
  Calls Tryz.prog 49 #[.slice A0 l0.length c0, .int .i64 a1, .int .i64 a2] w fun e w' => e = .returned (.tuple #[.int .i64 r1, .int .i64 r2]) /\ Below w.heap.size w w' := by
 have eZ := am hr0
 have iE := am hc0
 clear hr0 hc0
 have HB := am (Below.refl w.heap.size w)
 have H := h
 unfold qWe.f at H
 clear h
 obtain ⟨⟨iQ, iK⟩, A4, H⟩ := bd H
 by_cases c5 : iK = 0
 case neg =>
  rw [if_neg c5] at H
  have iF := beq_eq_false_iff_ne.mpr c5
  have iG := bne_iff_ne.mpr c5
  simp only [Option.some.injEq, Prod.mk.injEq] at H
  obtain ⟨rfl, rfl⟩ := H
  go_enter Tryz.func49, Tryz.ntmps49
  go_wp2_with (first | ((with_reducible refine gf 78 ?_); refine gC (some 14) Tryz.func78 (qX0.calls _ _ _ _ _ _ iQ iK _ ?side1 ?side2 A4.out) ?_; (case side1 => exact cq (eZ.out)); (case side2 => exact iE.out); rintro e w8 ⟨rfl, hb⟩; refine ⟨_, rfl, ?_⟩; replace HB := s0 HB hb; (try clear hb); (try clear hb2); (try clear hk); (try clear hi)))
  go_ret2
  exact ⟨er, by exact h0q HB.out⟩
 rw [if_pos c5] at H
 have iF := beq_iff_eq.mpr c5
 have iG := bne_eq_false_iff_eq.mpr c5
 clear c5
 obtain ⟨⟨iV, iW⟩, A6, H⟩ := bd H
 simp only [Option.some.injEq, Prod.mk.injEq] at H
 obtain ⟨rfl, rfl⟩ := H
 go_enter Tryz.func49, Tryz.ntmps49
 go_wp2_with (first | ((with_reducible refine gf 78 ?_); refine gC (some 14) Tryz.func78 (qX0.calls _ _ _ _ _ _ iQ iK _ ?side1 ?side2 A4.out) ?_; (case side1 => exact cq (eZ.out)); (case side2 => exact iE.out); rintro e w7 ⟨rfl, hb⟩; refine ⟨_, rfl, ?_⟩; replace HB := s0 HB hb; (try clear hb); (try clear hb2); (try clear hk); (try clear hi)) | ((with_reducible refine gf 79 ?_); refine gC (some 21) Tryz.func79 (qQx.calls _ _ _ _ _ iV iW _ A6.out) ?_; rintro e w' ⟨rfl, ⟨nd, rfl⟩⟩; refine ⟨_, rfl, ?_⟩))
 go_ret2
 exact ⟨er, by exact h0q HB.out⟩
-- NOT PRINTED: function 113 (slices_IndexFunc_int64_int64)
-- NOT PRINTED: function 99 (slices_ContainsFunc_int64_int64)
-- NOT PRINTED: function 81 (qZj)
-- NOT PRINTED: function 118 (slices_insertionSortCmpFunc_int)
-- NOT PRINTED: function 121 (slices_swapRangeCmpFunc_int)
-- NOT PRINTED: function 120 (slices_rotateCmpFunc_int)
-- NOT PRINTED: function 119 (slices_symMergeCmpFunc_int)
-- NOT PRINTED: function 115 (slices_stableCmpFunc_int)
-- NOT PRINTED: function 103 (slices_SortStableFunc_int_int)
def qZr.f (a0 : Int) : Option (Bool) := some (a0 != a0)
set_option maxHeartbeats 8000000 in
set_option maxRecDepth 100000 in
theorem qZr.calls (a0 : Int) (r : Bool) (w : World) (h : qZr.f a0 = some r) :
  Calls Tryz.prog 116 #[.int .u64 a0] w fun e w' => e = .returned (.bool r) /\ Drawn0 w w' := by
 have H := h
 unfold qZr.f at H
 clear h
 obtain rfl := Option.some.inj H
 go_enter Tryz.func116, Tryz.ntmps116
 go_wp2
 go_ret
 exact ⟨fr, dr⟩
def qXg.f (a0 a1 : Int) : Option (Int) := (qZr.f a0).bind fun iL => ((qZr.f a1).bind fun eT => (if iL = true then (if eT = true then (some 0) else (some (-1))) else (if eT = true then (some 1) else (if a0 < a1 then (some (-1)) else (if a0 > a1 then (some 1) else (some 0))))))
set_option maxHeartbeats 8000000 in
set_option maxRecDepth 100000 in
theorem qXg.calls (a0 a1 r : Int) (w : World) (h : qXg.f a0 a1 = some r) :
  Calls Tryz.prog 105 #[.int .u64 a0, .int .u64 a1] w fun e w' => e = .returned (.int .i64 r) /\ Drawn0 w w' := by
 have H := h
 unfold qXg.f at H
 clear h
 obtain ⟨iL, A3, H⟩ := bd H
 obtain ⟨eT, A4, H⟩ := bd H
 by_cases c5 : iL = true
 ·subst c5
  rw [if_pos rfl] at H
  by_cases c6 : eT = true
  ·subst c6
   rw [if_pos rfl] at H
   obtain rfl := Option.some.inj H
   go_enter Tryz.func105, Tryz.ntmps105
   go_wp2_with (first | ((with_reducible refine gf 116 ?_); refine gC (some 8) Tryz.func116 (qZr.calls _ true _ A3.out) ?_; rintro e w' ⟨rfl, ⟨nd, rfl⟩⟩; refine ⟨_, rfl, ?_⟩) | ((with_reducible refine gf 116 ?_); refine gC (some 10) Tryz.func116 (qZr.calls _ true _ A4.out) ?_; rintro e w' ⟨rfl, ⟨nd, rfl⟩⟩; refine ⟨_, rfl, ?_⟩))
   go_ret
   exact ⟨fr, dr⟩
  replace c6 := Bool.eq_false_iff.mpr c6
  subst c6
  rw [if_neg (show ¬ (false = true) by decide)] at H
  obtain rfl := Option.some.inj H
  go_enter Tryz.func105, Tryz.ntmps105
  go_wp2_with (first | ((with_reducible refine gf 116 ?_); refine gC (some 8) Tryz.func116 (qZr.calls _ true _ A3.out) ?_; rintro e w' ⟨rfl, ⟨nd, rfl⟩⟩; refine ⟨_, rfl, ?_⟩) | ((with_reducible refine gf 116 ?_); refine gC (some 10) Tryz.func116 (qZr.calls _ false _ A4.out) ?_; rintro e w' ⟨rfl, ⟨nd, rfl⟩⟩; refine ⟨_, rfl, ?_⟩))
  go_ret
  exact ⟨fr, dr⟩
 replace c5 := Bool.eq_false_iff.mpr c5
 subst c5
 rw [if_neg (show ¬ (false = true) by decide)] at H
 by_cases c7 : eT = true
 ·subst c7
  rw [if_pos rfl] at H
  obtain rfl := Option.some.inj H
  go_enter Tryz.func105, Tryz.ntmps105
  go_wp2_with (first | ((with_reducible refine gf 116 ?_); refine gC (some 8) Tryz.func116 (qZr.calls _ false _ A3.out) ?_; rintro e w' ⟨rfl, ⟨nd, rfl⟩⟩; refine ⟨_, rfl, ?_⟩) | ((with_reducible refine gf 116 ?_); refine gC (some 10) Tryz.func116 (qZr.calls _ true _ A4.out) ?_; rintro e w' ⟨rfl, ⟨nd, rfl⟩⟩; refine ⟨_, rfl, ?_⟩))
  go_ret
  exact ⟨fr, dr⟩
 replace c7 := Bool.eq_false_iff.mpr c7
 subst c7
 rw [if_neg (show ¬ (false = true) by decide)] at H
 by_cases c8 : a0 < a1
 ·rw [if_pos c8] at H
  have iH := decide_eq_true c8
  clear c8
  obtain rfl := Option.some.inj H
  go_enter Tryz.func105, Tryz.ntmps105
  go_wp2_with (first | ((with_reducible refine gf 116 ?_); refine gC (some 8) Tryz.func116 (qZr.calls _ false _ A3.out) ?_; rintro e w' ⟨rfl, ⟨nd, rfl⟩⟩; refine ⟨_, rfl, ?_⟩) | ((with_reducible refine gf 116 ?_); refine gC (some 10) Tryz.func116 (qZr.calls _ false _ A4.out) ?_; rintro e w' ⟨rfl, ⟨nd, rfl⟩⟩; refine ⟨_, rfl, ?_⟩))
  go_ret
  exact ⟨fr, dr⟩
 rw [if_neg c8] at H
 have iH := decide_eq_false c8
 clear c8
 by_cases c9 : a0 > a1
 ·rw [if_pos c9] at H
  have iU : decide (a1 < a0) = true := decide_eq_true c9
  clear c9
  obtain rfl := Option.some.inj H
  go_enter Tryz.func105, Tryz.ntmps105
  go_wp2_with (first | ((with_reducible refine gf 116 ?_); refine gC (some 8) Tryz.func116 (qZr.calls _ false _ A3.out) ?_; rintro e w' ⟨rfl, ⟨nd, rfl⟩⟩; refine ⟨_, rfl, ?_⟩) | ((with_reducible refine gf 116 ?_); refine gC (some 10) Tryz.func116 (qZr.calls _ false _ A4.out) ?_; rintro e w' ⟨rfl, ⟨nd, rfl⟩⟩; refine ⟨_, rfl, ?_⟩))
  go_ret
  exact ⟨fr, dr⟩
 rw [if_neg c9] at H
 have iU : decide (a1 < a0) = false := decide_eq_false c9
 clear c9
 obtain rfl := Option.some.inj H
 go_enter Tryz.func105, Tryz.ntmps105
 go_wp2_with (first | ((with_reducible refine gf 116 ?_); refine gC (some 8) Tryz.func116 (qZr.calls _ false _ A3.out) ?_; rintro e w' ⟨rfl, ⟨nd, rfl⟩⟩; refine ⟨_, rfl, ?_⟩) | ((with_reducible refine gf 116 ?_); refine gC (some 10) Tryz.func116 (qZr.calls _ false _ A4.out) ?_; rintro e w' ⟨rfl, ⟨nd, rfl⟩⟩; refine ⟨_, rfl, ?_⟩))
 go_ret
 exact ⟨fr, dr⟩
-- NOT PRINTED: function 104 (share_places_uint64_1)
-- NOT PRINTED: function 84 (qYe)
-- BEGIN
def qZj.bad (a : Int) : Bool := decide (a < 0 \/ isMoney a = false)
set_option maxHeartbeats 8000000 in
set_option maxRecDepth 100000 in
theorem qZj.in_ (a : Int) (w : World) :
  Calls Tryz.prog 100 #[.int .i64 a] w fun e w' => e = .returned (.bool (qZj.bad a)) /\ Drawn0 w w' := by
 by_cases c : a < 0
 ·have d : decide (a < 0) = true := decide_eq_true c
  rw [show qZj.bad a = true from decide_eq_true (.inl c)]
  clear c
  go_enter Tryz.func100, Tryz.ntmps100
  go_wp2
  go_ret
  exact ⟨by first | rfl | (simp; done), dr⟩
 ·have d : decide (a < 0) = false := decide_eq_false c
  cases h : isMoney a with
  | true =>
   rw [show qZj.bad a = false from decide_eq_false (by rw [h]; simp; omega)]
   have g1 := am ((qQ3.some_ a).trans (by rw [h]))
   clear c h
   go_enter Tryz.func100, Tryz.ntmps100
   go_wp2_with (go_at_call 74; (with_reducible refine (qQ3.calls a true _ g1.out).mono ?_); rintro e w' ⟨rfl, ⟨nd, rfl⟩⟩)
   go_ret
   exact ⟨by first | rfl | (simp; done), dr⟩
  | false =>
   rw [show qZj.bad a = true from decide_eq_true (.inr h)]
   have g1 := am ((qQ3.some_ a).trans (by rw [h]))
   clear c h
   go_enter Tryz.func100, Tryz.ntmps100
   go_wp2_with (go_at_call 74; (with_reducible refine (qQ3.calls a false _ g1.out).mono ?_); rintro e w' ⟨rfl, ⟨nd, rfl⟩⟩)
   go_ret
   exact ⟨by first | rfl | (simp; done), dr⟩
def qZj.idx : List Int -> Nat -> Int
 | [], _ => -1
 | a :: l, j => if qZj.bad a = true then (j : Int) else qZj.idx l (j + 1)
set_option maxHeartbeats 8000000 in
set_option maxRecDepth 100000 in
theorem qZj.index (A0 : Option Addr) (c0 : Nat) (l0 : List Int) (w : World) (hr0 : Kd.C (Kd.int .i64) w A0 l0.length l0) (hc0 : l0.length <= c0) (hlen : l0.length <= 140737488351232) :
  Calls Tryz.prog 113 #[.slice A0 l0.length c0, .func (.func 100) #[] #[]] w fun e w' => e = .returned (.int .i64 (qZj.idx l0 0)) /\ Drawn0 w w' := by
 have eZ := am hr0
 clear hr0
 obtain ⟨r, hr⟩ : ∃ r, r = qZj.idx l0 0 := ⟨_, rfl⟩
 rw [<- hr]
 have HR := am hr
 clear hr
 go_enter Tryz.func113, Tryz.ntmps113
 go_wp2
 go_loopw [5, 8] (fun v5 v8 wr => ∃ (j : Nat), j <= l0.length /\ v8 = .int .i64 j /\ Aside0 (qZj.idx (l0.drop j) j = r) /\ Aside0 (Drawn0 w wr)) (fun _ v8 _ => l0.length - (intOf v8).toNat)
 case atStart => exact ⟨0, Nat.zero_le _, rfl, ⟨by rw [List.drop_zero]; exact HR.out.symm⟩, ⟨Drawn0.refl _⟩⟩
 case round =>
  obtain ⟨j, hj, rfl, HS, HB⟩ := hrel
  by_cases hlt : j < l0.length
  ·have hd : l0.drop j = rd l0 j :: l0.drop (j + 1) := by
    rw [List.drop_eq_getElem_cons hlt]; congr 1; unfold rd; simp [List.getD_eq_getElem?_getD, hlt]
   have h0 := HS.out
   rw [hd, qZj.idx] at h0
   obtain ⟨ad, ea, hx⟩ := Kd.qZ7 (Kd.qZp eZ.out HB.out.below) j (by omega) (by omega)
   cases ea
   simp only [Int.toNat_natCast] at hx
   have hltz : (j : Int) < (l0.length : Int) := by omega
   obtain ⟨x, hxx⟩ : ∃ x, x = rd l0 j := ⟨_, rfl⟩
   rw [<- hxx] at h0 hx
   have HX := am hxx
   clear hxx hd HS
   have hcall := qZj.in_ x
   cases hb : qZj.bad x with
   | true =>
    rw [hb, if_pos rfl] at h0
    rw [hb] at hcall
    subst h0
    clear hb
    go_wp2_with (go_at_call 100; refine (hcall _).mono ?_; rintro e w' ⟨rfl, ⟨nd, rfl⟩⟩)
    go_ret
    exact ⟨by first | rfl | (simp; done), HB.out.step _⟩
   | false =>
    rw [hb, if_neg (by simp)] at h0
    rw [hb] at hcall
    have HN := am h0
    clear hb h0
    go_wp2_with (go_at_call 100; refine (hcall _).mono ?_; rintro e w' ⟨rfl, ⟨nd, rfl⟩⟩)
    go_roundw
    case measure => simp [intOf]; omega
    case rel => exact ⟨j + 1, by omega, by go_num, HN, ⟨HB.out.step _⟩⟩
  ·have h0 := HS.out
   rw [List.drop_of_length_le (by omega), qZj.idx] at h0
   subst h0
   have hltz : ¬ (j : Int) < (l0.length : Int) := by omega
   go_wp2
   go_ret
   exact ⟨by first | rfl | (simp; done), HB.out⟩
set_option maxHeartbeats 8000000 in
set_option maxRecDepth 100000 in
theorem qZj.contains (A0 : Option Addr) (c0 : Nat) (l0 : List Int) (w : World) (hr0 : Kd.C (Kd.int .i64) w A0 l0.length l0) (hc0 : l0.length <= c0) (hlen : l0.length <= 140737488351232) :
  Calls Tryz.prog 99 #[.slice A0 l0.length c0, .func (.func 100) #[] #[]] w fun e w' => e = .returned (.bool (decide (0 <= qZj.idx l0 0))) /\ Drawn0 w w' := by
 have HI := am (qZj.index A0 c0 l0 w hr0 hc0 hlen)
 clear hr0 hc0 hlen
 generalize qZj.idx l0 0 = r at *
 go_enter Tryz.func99, Tryz.ntmps99
 go_wp2_with (go_at_call 113; refine HI.out.mono ?_; rintro e w' ⟨rfl, ⟨nd, rfl⟩⟩)
 go_ret
 exact ⟨by first | rfl | (simp; done), dr⟩
def qZj.f (k : Nat) (a0 : Int) (l1 : List Int) : Option (Bool) := if l1.length <= 140737488351232 then some (decide (0 <= a0 /\ isMoney a0 = true /\ l1.length <= 1000 /\ qZj.idx l1 0 < 0)) else none
set_option maxHeartbeats 8000000 in
set_option maxRecDepth 100000 in
theorem qZj.calls (k : Nat) (a0 : Int) (A1 : Option Addr) (c1 : Nat) (l1 : List Int) (r : Bool) (w : World) (hr1 : Kd.C (Kd.int .i64) w A1 l1.length l1) (hc1 : l1.length <= c1) (h : qZj.f k a0 l1 = some r) :
  Calls Tryz.prog 81 #[.int .i64 a0, .slice A1 l1.length c1] w fun e w' => e = .returned (.bool r) /\ Below w.heap.size w w' := by
 have hlen : l1.length <= 140737488351232 := by
  by_cases c : l1.length <= 140737488351232
  ·exact c
  ·rw [qZj.f, if_neg c] at h; cases h
 rw [qZj.f, if_pos hlen] at h
 have hr := Option.some.inj h
 clear h
 have HC : Aside0 (∀ n, Calls Tryz.prog 99 #[.slice A1 l1.length c1, .func (.func 100) #[] #[]] (w.drewN n) fun e w' => e = .returned (.bool (decide (0 <= qZj.idx l1 0))) /\ Drawn0 (w.drewN n) w') := ⟨fun n => qZj.contains A1 c1 l1 _ (Kd.zZl hr1 n) hc1 hlen⟩
 have hmf : ∀ (fn : Fn) (first cap : Array Value) (w : World), (Instr.makeFunc fn first cap).run Tryz.prog w = .ok (.func fn first cap) w := fun _ _ _ _ => rfl
 clear hr1 hc1
 obtain ⟨ix, hix⟩ : ∃ ix, ix = qZj.idx l1 0 := ⟨_, rfl⟩
 rw [<- hix] at HC hr
 clear hix
 obtain ⟨n1, iP⟩ : ∃ n : Nat, n = l1.length := ⟨_, rfl⟩
 rw [<- iP] at HC hr ⊢
 clear iP
 by_cases ca : 0 <= a0
 case neg =>
  have d0 : decide (a0 ≥ 0) = false := decide_eq_false (by omega)
  have d0' : decide (0 <= a0) = false := decide_eq_false (by omega)
  rw [decide_eq_false (fun h => ca h.1)] at hr
  subst hr
  clear ca hlen HC
  go_enter Tryz.func81, Tryz.ntmps81
  go_wp2
  go_ret
  exact ⟨by first | rfl | (simp; done), (by repeat (first | exact Drawn0.refl _ | apply Drawn0.step) : Drawn0 w _).below⟩
 have d0 : decide (a0 ≥ 0) = true := decide_eq_true ca
 have d0' : decide (0 <= a0) = true := decide_eq_true ca
 cases hm : isMoney a0 with
 | false =>
  rw [decide_eq_false (fun h => by rw [hm] at h; exact absurd h.2.1 (by simp))] at hr
  subst hr
  have g1 := am ((qQ3.some_ a0).trans (by rw [hm]))
  clear ca hlen HC hm
  go_enter Tryz.func81, Tryz.ntmps81
  go_wp2_with (go_at_call 74; (with_reducible refine (qQ3.calls a0 false _ g1.out).mono ?_); rintro e w' ⟨rfl, ⟨nd, rfl⟩⟩)
  go_ret
  exact ⟨by first | rfl | (simp; done), (by repeat (first | exact Drawn0.refl _ | apply Drawn0.step) : Drawn0 w _).below⟩
 | true =>
  have g1 := am ((qQ3.some_ a0).trans (by rw [hm]))
  by_cases cl : n1 <= 1000
  case neg =>
   rw [decide_eq_false (fun h => cl h.2.2.1)] at hr
   subst hr
   have d1 : decide ((n1 : Int) <= 1000) = false := decide_eq_false (by omega)
   clear ca hlen HC hm
   go_enter Tryz.func81, Tryz.ntmps81
   go_wp2_with (go_at_call 74; (with_reducible refine (qQ3.calls a0 true _ g1.out).mono ?_); rintro e w' ⟨rfl, ⟨nd, rfl⟩⟩)
   go_ret
   exact ⟨by first | rfl | (simp; done), (by repeat (first | exact Drawn0.refl _ | apply Drawn0.step) : Drawn0 w _).below⟩
  have d1 : decide ((n1 : Int) <= 1000) = true := decide_eq_true (by omega)
  by_cases ci : ix < 0
  ·rw [decide_eq_true ⟨ca, hm, cl, ci⟩] at hr
   subst hr
   rw [decide_eq_false (show ¬ 0 <= ix by omega)] at HC
   clear ca hlen hm cl ci
   go_enter Tryz.func81, Tryz.ntmps81
   go_wp2_with (first | (go_at_call 74; (with_reducible refine (qQ3.calls a0 true _ g1.out).mono ?_); rintro e w' ⟨rfl, ⟨nd, rfl⟩⟩) | (go_at_call 99; refine (HC.out _).mono ?_; rintro e w' ⟨rfl, ⟨nd2, rfl⟩⟩))
   go_ret
   exact ⟨by first | rfl | (simp; done), (by repeat (first | exact Drawn0.refl _ | apply Drawn0.step) : Drawn0 w _).below⟩
  ·rw [decide_eq_false (fun h => ci h.2.2.2)] at hr
   subst hr
   rw [decide_eq_true (show 0 <= ix by omega)] at HC
   clear ca hlen hm cl ci
   go_enter Tryz.func81, Tryz.ntmps81
   go_wp2_with (first | (go_at_call 74; (with_reducible refine (qQ3.calls a0 true _ g1.out).mono ?_); rintro e w' ⟨rfl, ⟨nd, rfl⟩⟩) | (go_at_call 99; refine (HC.out _).mono ?_; rintro e w' ⟨rfl, ⟨nd2, rfl⟩⟩))
   go_ret
   exact ⟨by first | rfl | (simp; done), (by repeat (first | exact Drawn0.refl _ | apply Drawn0.step) : Drawn0 w _).below⟩
end Go.Proofs.YtlhcohipnieidaaGreat.P
namespace Go.Proofs.YtlhcohipnieidaaGreat.St
set_option linter.unusedVariables false
open Go.Sort
variable {α : Type} [Inhabited α] {lt : α -> α -> Bool} {R : α -> α -> Prop}
def Srt (R : α -> α -> Prop) (a b : Nat) (d : Array α) : Prop := ∀ i j, a <= i -> i < j -> j < b -> R d[i]! d[j]!
def Crs (lt : α -> α -> Bool) (R : α -> α -> Prop) (x y : α) : Prop := (lt y x = true -> R y x) /\ (lt y x = false -> R x y)
def CrsIn (lt : α -> α -> Bool) (R : α -> α -> Prop) (a m b : Nat) (d : Array α) : Prop := ∀ i j, a <= i -> i < m -> m <= j -> j < b -> Crs lt R d[i]! d[j]!
def CrsAll (lt : α -> α -> Bool) (R : α -> α -> Prop) (a b : Nat) (d : Array α) : Prop := ∀ i j, a <= i -> i < j -> j < b -> Crs lt R d[i]! d[j]!
def MG (R : α -> α -> Prop) (a b : Nat) (d d' : Array α) : Prop := PermIn a b d d' /\ Srt R a b d'
theorem Srt.one (a b : Nat) (d : Array α) (h : b <= a + 1) : Srt R a b d := fun i j _ _ _ => by omega
theorem psz {a b : Nat} {d d' : Array α} (h : PermIn a b d d') : d'.size = d.size := h.1
theorem pout {a b : Nat} {d d' : Array α} (h : PermIn a b d d') {i : Nat} (hi : i < a \/ b <= i) : d'[i]! = d[i]! := h.2.1 i hi
structure SR (d : Array α) (a b i : Nat) (lo hi : Nat) (dk : Array α) : Prop where
 pm : PermIn lo hi d dk
 at_ : ∀ k, dk[k]! = if a <= k /\ k < a + i then d[k - a + b]! else if b <= k /\ k < b + i then d[k - b + a]! else d[k]!
theorem SR.start (d : Array α) (a b lo hi : Nat) : SR d a b 0 lo hi d :=
 ⟨permIn_refl d _ _, fun k => by rw [if_neg (by omega), if_neg (by omega)]⟩
theorem SR.step {d dk : Array α} {a b i lo hi n : Nat} (h : SR d a b i lo hi dk) (hin : i < n) (hab : a + n <= b) (hlo : lo <= a) (hb : b + n <= hi) (hhi : hi <= d.size) : SR d a b (i + 1) lo hi (swp dk (a + i) (b + i)) := by
 have hs := psz h.pm
 refine ⟨permIn_trans _ _ _ _ _ h.pm (swp_permIn _ _ _ _ _ (by omega) (by omega) (by omega) (by omega) (by omega)), fun k => ?_⟩
 rw [swp_get dk (by omega) (by omega) k]
 by_cases c1 : k = b + i
 ·rw [if_pos c1, h.at_ (a + i), if_neg (by omega), if_neg (by omega), if_neg (by omega), if_pos (by omega)]
  congr 1; omega
 rw [if_neg c1]
 by_cases c2 : k = a + i
 ·rw [if_pos c2, h.at_ (b + i), if_neg (by omega), if_neg (by omega), if_pos (by omega)]
  congr 1; omega
 rw [if_neg c2, h.at_ k]
 by_cases c3 : a <= k /\ k < a + i
 ·rw [if_pos c3, if_pos (by omega)]
 rw [if_neg c3, if_neg (by omega : ¬ (a <= k /\ k < a + (i + 1)))]
 by_cases c4 : b <= k /\ k < b + i
 ·rw [if_pos c4, if_pos (by omega)]
 rw [if_neg c4, if_neg (by omega)]
def T (d : Array α) (a m b k : Nat) : α := if a <= k /\ k < a + (b - m) then d[k + (m - a)]! else if a + (b - m) <= k /\ k < b then d[k - (b - m)]! else d[k]!
structure Rot (d : Array α) (a m b : Nat) (dk : Array α) : Prop where
 pm : PermIn a b d dk
 at_ : ∀ k, dk[k]! = T d a m b k
structure RotI (d : Array α) (a m b i j : Nat) (dk : Array α) : Prop where
 pm : PermIn a b d dk
 hi : 0 < i /\ i <= m - a
 hj : 0 < j /\ j <= b - m
 far : ∀ k, k < m - i \/ m + j <= k -> dk[k]! = T d a m b k
 lo : ∀ k, m - i <= k -> k < m - i + j -> T d a m b k = dk[k + i]!
 up : ∀ k, m - i + j <= k -> k < m + j -> T d a m b k = dk[k - j]!
theorem RotI.start (d : Array α) (a m b : Nat) (h1 : a < m) (h2 : m < b) (hb : b <= d.size) : RotI d a m b (m - a) (b - m) d where
 pm := permIn_refl d _ _
 hi := by omega
 hj := by omega
 far := fun k hk => by unfold T; rw [if_neg (by omega), if_neg (by omega)]
 lo := fun k h3 h4 => by unfold T; rw [if_pos (by omega)]
 up := fun k h3 h4 => by unfold T; rw [if_neg (by omega), if_pos (by omega)]
theorem RotI.gt {d dk dj : Array α} {a m b i j : Nat} (h : RotI d a m b i j dk) (ham : a < m) (hmb : m < b) (hb : b <= d.size) (hij : j < i) (hs : SR dk (m - i) m j a b dj) : RotI d a m b (i - j) j dj where
 pm := permIn_trans _ _ _ _ _ h.pm hs.pm
 hi := by have := h.hi; omega
 hj := h.hj
 far := fun k hk => by
  have h1 := h.hi; have h2 := h.hj
  rw [hs.at_ k]
  by_cases c : m - i <= k /\ k < m - i + j
  ·rw [if_pos c, h.lo k c.1 c.2]; congr 1; omega
  ·rw [if_neg c, if_neg (by omega), h.far k (by omega)]
 lo := fun k h3 h4 => by
  have h1 := h.hi; have h2 := h.hj
  rw [hs.at_ (k + (i - j))]
  by_cases c : m <= k + (i - j) /\ k + (i - j) < m + j
  ·rw [if_neg (by omega), if_pos c, h.up k (by omega) (by omega)]; congr 1; omega
  ·omega
 up := fun k h3 h4 => by
  have h1 := h.hi; have h2 := h.hj
  rw [hs.at_ (k - j), if_neg (by omega), if_neg (by omega), h.up k (by omega) (by omega)]
theorem RotI.less {d dk dj : Array α} {a m b i j : Nat} (h : RotI d a m b i j dk) (ham : a < m) (hmb : m < b) (hb : b <= d.size) (hij : i < j) (hs : SR dk (m - i) (m + j - i) i a b dj) : RotI d a m b i (j - i) dj where
 pm := permIn_trans _ _ _ _ _ h.pm hs.pm
 hi := h.hi
 hj := by have := h.hj; omega
 far := fun k hk => by
  have h1 := h.hi; have h2 := h.hj
  rw [hs.at_ k, if_neg (by omega)]
  by_cases c : m + j - i <= k /\ k < m + j - i + i
  ·rw [if_pos c, h.up k (by omega) (by omega)]; congr 1; omega
  ·rw [if_neg c, h.far k (by omega)]
 lo := fun k h3 h4 => by
  have h1 := h.hi; have h2 := h.hj
  rw [hs.at_ (k + i), if_neg (by omega), if_neg (by omega), h.lo k (by omega) (by omega)]
 up := fun k h3 h4 => by
  have h1 := h.hi; have h2 := h.hj
  by_cases c : k < m - i + j
  ·rw [hs.at_ (k - (j - i)), if_pos (by omega), h.lo k (by omega) c]; congr 1; omega
  ·omega
theorem RotI.eq {d dk dj : Array α} {a m b i : Nat} (h : RotI d a m b i i dk) (ham : a < m) (hmb : m < b) (hb : b <= d.size) (hs : SR dk (m - i) m i a b dj) : Rot d a m b dj where
 pm := permIn_trans _ _ _ _ _ h.pm hs.pm
 at_ := fun k => by
  have h1 := h.hi; have h2 := h.hj
  rw [hs.at_ k]
  by_cases c1 : m - i <= k /\ k < m - i + i
  ·rw [if_pos c1, h.lo k (by omega) (by omega)]; congr 1; omega
  rw [if_neg c1]
  by_cases c2 : m <= k /\ k < m + i
  ·rw [if_pos c2, h.up k (by omega) (by omega)]; congr 1; omega
  rw [if_neg c2, h.far k (by omega)]
theorem Rot.noLeft (d : Array α) (m b : Nat) (h : m <= b) : Rot d m m b d :=
 ⟨permIn_refl d _ _, fun k => by
  unfold T; by_cases c : m <= k /\ k < m + (b - m)
  ·rw [if_pos c]; congr 1; omega
  ·rw [if_neg c, if_neg (by omega)]⟩
theorem Rot.noRight (d : Array α) (a m : Nat) (h : a <= m) : Rot d a m m d :=
 ⟨permIn_refl d _ _, fun k => by
  unfold T; rw [if_neg (by omega)]; by_cases c : a + (m - m) <= k /\ k < m
  ·rw [if_pos c]; congr 1; omega
  ·rw [if_neg c]⟩
structure BU (d : Array α) (a k lo hi : Nat) (dk : Array α) : Prop where
 pm : PermIn lo hi d dk
 at_ : ∀ t, dk[t]! = if a <= t /\ t < k then d[t + 1]! else if t = k then d[a]! else d[t]!
structure BD (d : Array α) (m k lo hi : Nat) (dk : Array α) : Prop where
 pm : PermIn lo hi d dk
 at_ : ∀ t, dk[t]! = if k < t /\ t <= m then d[t - 1]! else if t = k then d[m]! else d[t]!
theorem BU.start (d : Array α) (a lo hi : Nat) : BU d a a lo hi d :=
 ⟨permIn_refl d _ _, fun t => by
  rw [if_neg (by omega)]; split
  ·rename_i e; rw [e]
  ·rfl⟩
theorem BU.step {d dk : Array α} {a k lo hi : Nat} (h : BU d a k lo hi dk) (hak : a <= k) (hlo : lo <= a) (hk : k + 1 < hi) (hhi : hi <= d.size) : BU d a (k + 1) lo hi (swp dk k (k + 1)) := by
 have hs := psz h.pm
 refine ⟨permIn_trans _ _ _ _ _ h.pm (swp_permIn _ _ _ _ _ (by omega) (by omega) (by omega) (by omega) (by omega)), fun t => ?_⟩
 rw [swp_get dk (by omega) (by omega) t]
 by_cases c1 : t = k + 1
 ·rw [if_pos c1, h.at_ k, if_neg (by omega), if_pos rfl, if_neg (by omega), if_pos c1]
 rw [if_neg c1]
 by_cases c2 : t = k
 ·rw [if_pos c2, h.at_ (k + 1), if_neg (by omega), if_neg (by omega), if_pos (by omega), c2]
 rw [if_neg c2, h.at_ t]
 by_cases c3 : a <= t /\ t < k
 ·rw [if_pos c3, if_pos (by omega)]
 ·rw [if_neg c3, if_neg c2, if_neg (by omega), if_neg c1]
theorem BD.start (d : Array α) (m lo hi : Nat) : BD d m m lo hi d :=
 ⟨permIn_refl d _ _, fun t => by
  rw [if_neg (by omega)]; split
  ·rename_i e; rw [e]
  ·rfl⟩
theorem BD.step {d dk : Array α} {m k lo hi : Nat} (h : BD d m k lo hi dk) (hkm : k <= m) (hk : lo < k) (hm : m < hi) (hhi : hi <= d.size) : BD d m (k - 1) lo hi (swp dk k (k - 1)) := by
 have hs := psz h.pm
 refine ⟨permIn_trans _ _ _ _ _ h.pm (swp_permIn _ _ _ _ _ (by omega) (by omega) (by omega) (by omega) (by omega)), fun t => ?_⟩
 rw [swp_get dk (by omega) (by omega) t]
 by_cases c1 : t = k - 1
 ·rw [if_pos c1, h.at_ k, if_neg (by omega), if_pos rfl, if_neg (by omega), if_pos c1]
 rw [if_neg c1]
 by_cases c2 : t = k
 ·rw [if_pos c2, h.at_ (k - 1), if_neg (by omega), if_neg (by omega), if_pos (by omega), c2]
 rw [if_neg c2, h.at_ t]
 by_cases c3 : k < t /\ t <= m
 ·rw [if_pos c3, if_pos (by omega)]
 ·rw [if_neg c3, if_neg c2, if_neg (by omega), if_neg c1]
theorem zJ2 (hT : ∀ x y z, R x y -> R y z -> R x z) {d dk : Array α} {a b i : Nat} (hb : b <= d.size) (hS : Srt R (a + 1) b d) (hC : CrsIn lt R a (a + 1) b d) (h1 : a + 1 <= i) (h2 : i <= b)
  (hl : i = a + 1 \/ lt d[i - 1]! d[a]! = true) (hr : i = b \/ lt d[i]! d[a]! = false) (h : BU d a (i - 1) a b dk) : MG R a b d dk := by
 refine ⟨h.pm, fun x y hx hxy hy => ?_⟩
 rw [h.at_ x, h.at_ y]
 have L : ∀ t, a + 1 <= t -> t <= i - 1 -> R d[t]! d[a]! := fun t h3 h4 => by
  have e : R d[i - 1]! d[a]! := (hC a (i - 1) (by omega) (by omega) (by omega) (by omega)).1 (by rcases hl with e | e; omega; exact e)
  by_cases c : t = i - 1
  ·rw [c]; exact e
  ·exact hT _ _ _ (hS t (i - 1) h3 (by omega) (by omega)) e
 have U : ∀ t, i <= t -> t < b -> R d[a]! d[t]! := fun t h3 h4 => by
  have e : R d[a]! d[i]! := (hC a i (by omega) (by omega) (by omega) (by omega)).2 (by rcases hr with e | e; omega; exact e)
  by_cases c : t = i
  ·rw [c]; exact e
  ·exact hT _ _ _ e (hS i t (by omega) (by omega) h4)
 by_cases c1 : a <= x /\ x < i - 1
 ·rw [if_pos c1]
  by_cases c2 : a <= y /\ y < i - 1
  ·rw [if_pos c2]; exact hS _ _ (by omega) (by omega) (by omega)
  rw [if_neg c2]
  by_cases c3 : y = i - 1
  ·rw [if_pos c3]; exact L _ (by omega) (by omega)
  ·rw [if_neg c3]; exact hS _ _ (by omega) (by omega) (by omega)
 rw [if_neg c1, if_neg (by omega : ¬ (a <= y /\ y < i - 1)), if_neg (by omega : ¬ y = i - 1)]
 by_cases c4 : x = i - 1
 ·rw [if_pos c4]; exact U _ (by omega) hy
 ·rw [if_neg c4]; exact hS _ _ (by omega) hxy hy
theorem zQs (hT : ∀ x y z, R x y -> R y z -> R x z) {d dk : Array α} {a m i : Nat} (hb : m < d.size) (hS : Srt R a m d) (hC : CrsIn lt R a m (m + 1) d) (h1 : a <= i) (h2 : i <= m)
  (hl : i = a \/ lt d[m]! d[i - 1]! = false) (hr : i = m \/ lt d[m]! d[i]! = true) (h : BD d m i a (m + 1) dk) : MG R a (m + 1) d dk := by
 refine ⟨h.pm, fun x y hx hxy hy => ?_⟩
 rw [h.at_ x, h.at_ y]
 have L : ∀ t, a <= t -> t < i -> R d[t]! d[m]! := fun t h3 h4 => by
  have e : R d[i - 1]! d[m]! := (hC (i - 1) m (by omega) (by omega) (by omega) (by omega)).2 (by rcases hl with e | e; omega; exact e)
  by_cases c : t = i - 1
  ·rw [c]; exact e
  ·exact hT _ _ _ (hS t (i - 1) h3 (by omega) (by omega)) e
 have U : ∀ t, i <= t -> t < m -> R d[m]! d[t]! := fun t h3 h4 => by
  have e : R d[m]! d[i]! := (hC i m (by omega) (by omega) (by omega) (by omega)).1 (by rcases hr with e | e; omega; exact e)
  by_cases c : t = i
  ·rw [c]; exact e
  ·exact hT _ _ _ e (hS i t (by omega) (by omega) h4)
 by_cases c1 : i < y /\ y <= m
 ·rw [if_pos c1]
  by_cases c2 : i < x /\ x <= m
  ·rw [if_pos c2]; exact hS _ _ (by omega) (by omega) (by omega)
  rw [if_neg c2]
  by_cases c3 : x = i
  ·rw [if_pos c3]; exact U _ (by omega) (by omega)
  ·rw [if_neg c3]; exact hS _ _ (by omega) (by omega) (by omega)
 rw [if_neg c1, if_neg (by omega : ¬ (i < x /\ x <= m)), if_neg (by omega : ¬ x = i)]
 by_cases c4 : y = i
 ·rw [if_pos c4]; exact L _ hx (by omega)
 ·rw [if_neg c4]; exact hS _ _ hx hxy (by omega)
def s0 (a m b : Nat) : Nat := if m > (a + b) / 2 then (a + b) / 2 + m - b else a
def r0 (a m b : Nat) : Nat := if m > (a + b) / 2 then (a + b) / 2 else m
structure Cut (lt : α -> α -> Bool) (a m b s r : Nat) (d : Array α) : Prop where
 h1 : s0 a m b <= s
 h2 : s <= r
 h3 : r <= r0 a m b
 hl : s = s0 a m b \/ lt d[(a + b) / 2 + m - 1 - (s - 1)]! d[s - 1]! = false
 hr : r = r0 a m b \/ lt d[(a + b) / 2 + m - 1 - r]! d[r]! = true
theorem s0_r0 {a m b : Nat} (ham : a < m) (hmb : m < b) : a <= s0 a m b /\ s0 a m b <= r0 a m b /\ r0 a m b <= m /\ r0 a m b <= (a + b) / 2 /\ (a + b) / 2 + m <= b + s0 a m b := by
 unfold s0 r0; split <;> omega
theorem Cut.start {a m b : Nat} {d : Array α} (ham : a < m) (hmb : m < b) : Cut lt a m b (s0 a m b) (r0 a m b) d :=
 ⟨Nat.le_refl _, (s0_r0 ham hmb).2.1, Nat.le_refl _, .inl rfl, .inl rfl⟩
theorem Cut.up {a m b s r c : Nat} {d : Array α} (h : Cut lt a m b s r d) (h1 : s <= c) (h2 : c < r) (e : lt d[(a + b) / 2 + m - 1 - c]! d[c]! = false) : Cut lt a m b (c + 1) r d :=
 ⟨by have := h.h1; omega, h2, h.h3, .inr (by simpa using e), h.hr⟩
theorem Cut.dn {a m b s r c : Nat} {d : Array α} (h : Cut lt a m b s r d) (h1 : s <= c) (h2 : c < r) (e : lt d[(a + b) / 2 + m - 1 - c]! d[c]! = true) : Cut lt a m b s c d :=
 ⟨h.h1, h1, by have := h.h3; omega, h.hl, .inr e⟩
structure Halves (lt : α -> α -> Bool) (R : α -> α -> Prop) (a s mid e b : Nat) (d : Array α) : Prop where
 l1 : Srt R a s d
 l2 : Srt R s mid d
 l3 : CrsIn lt R a s mid d
 r1 : Srt R mid e d
 r2 : Srt R e b d
 r3 : CrsIn lt R mid e b d
 lr : ∀ i j, a <= i -> i < mid -> mid <= j -> j < b -> R d[i]! d[j]!
theorem halves (hT : ∀ x y z, R x y -> R y z -> R x z) {d dk : Array α} {a m b s : Nat} (ham : a < m) (hmb : m < b) (hb : b <= d.size) (eO : Srt R a m d) (eP : Srt R m b d) (hC : CrsIn lt R a m b d)
  (hc : Cut lt a m b s s d) (hr : Rot d s m ((a + b) / 2 + m - s) dk) : Halves lt R a s ((a + b) / 2) ((a + b) / 2 + m - s) b dk := by
 obtain ⟨q1, q2, q3, q4, q5⟩ := s0_r0 ham hmb
 have c1 := hc.h1; have c2 := hc.h3
 obtain ⟨mid, hmid⟩ : ∃ mid, mid = (a + b) / 2 := ⟨_, rfl⟩
 rw [<- hmid] at hr q4 q5 ⊢
 have cl := hc.hl; have cr := hc.hr
 rw [<- hmid] at cl cr
 obtain ⟨e, he⟩ : ∃ e, e = mid + m - s := ⟨_, rfl⟩
 rw [<- he] at hr ⊢
 have BB : (m > mid /\ s0 a m b = mid + m - b /\ r0 a m b = mid) \/ (m <= mid /\ s0 a m b = a /\ r0 a m b = m) := by
  unfold s0 r0; rw [<- hmid]; by_cases c : m > mid
  ·left; rw [if_pos c, if_pos c]; exact ⟨c, rfl, rfl⟩
  ·right; rw [if_neg c, if_neg c]; exact ⟨by omega, rfl, rfl⟩
 have hr0 : s = s0 a m b -> (s = a \/ e = b) := fun h => by omega
 have hr1 : s = r0 a m b -> (s = m \/ e = m) := fun h => by omega
 have A1 : ∀ k, k < s \/ e <= k -> dk[k]! = d[k]! := fun k hk => by rw [hr.at_ k]; unfold T; rw [if_neg (by omega), if_neg (by omega)]
 have A2 : ∀ k, s <= k -> k < mid -> dk[k]! = d[k + (m - s)]! := fun k h3 h4 => by rw [hr.at_ k]; unfold T; rw [if_pos (by omega)]
 have A3 : ∀ k, mid <= k -> k < e -> dk[k]! = d[k - (e - m)]! := fun k h3 h4 => by rw [hr.at_ k]; unfold T; rw [if_neg (by omega), if_pos (by omega)]

 have K1 : s ≠ s0 a m b -> R d[s - 1]! d[e]! := fun h => by
  have := cl.resolve_left h
  rw [show mid + m - 1 - (s - 1) = e by omega] at this
  exact (hC (s - 1) e (by omega) (by omega) (by omega) (by omega)).2 this
 have K2 : s ≠ r0 a m b -> R d[e - 1]! d[s]! := fun h => by
  have := cr.resolve_left h
  rw [show mid + m - 1 - s = e - 1 by omega] at this
  exact (hC s (e - 1) (by omega) (by omega) (by omega) (by omega)).1 this
 have M1 : ∀ i j, a <= i -> i < s -> e <= j -> j < b -> R d[i]! d[j]! := fun i j h3 h4 h5 h6 => by
  by_cases c : s = s0 a m b
  ·have := hr0 c; omega
  have k := K1 c
  have k1 : R d[i]! d[e]! := by
   by_cases c3 : i = s - 1
   ·rw [c3]; exact k
   ·exact hT _ _ _ (eO i (s - 1) h3 (by omega) (by omega)) k
  by_cases c3 : j = e
  ·rw [c3]; exact k1
  ·exact hT _ _ _ k1 (eP e j (by omega) (by omega) h6)
 have M2 : ∀ i j, m <= i -> i < e -> s <= j -> j < m -> R d[i]! d[j]! := fun i j h3 h4 h5 h6 => by
  by_cases c : s = r0 a m b
  ·have := hr1 c; omega
  have k := K2 c
  have k1 : R d[i]! d[s]! := by
   by_cases c3 : i = e - 1
   ·rw [c3]; exact k
   ·exact hT _ _ _ (eP i (e - 1) h3 (by omega) (by omega)) k
  by_cases c3 : j = s
  ·rw [c3]; exact k1
  ·exact hT _ _ _ k1 (eO s j (by omega) (by omega) h6)
 refine ⟨fun i j h3 h4 h5 => ?_, fun i j h3 h4 h5 => ?_, fun i j h3 h4 h5 h6 => ?_, fun i j h3 h4 h5 => ?_, fun i j h3 h4 h5 => ?_, fun i j h3 h4 h5 h6 => ?_, fun i j h3 h4 h5 h6 => ?_⟩
 ·rw [A1 i (by omega), A1 j (by omega)]; exact eO i j h3 h4 (by omega)
 ·rw [A2 i h3 (by omega), A2 j (by omega) h5]; exact eP _ _ (by omega) (by omega) (by omega)
 ·rw [A1 i (by omega), A2 j (by omega) h6]; exact hC _ _ h3 (by omega) (by omega) (by omega)
 ·rw [A3 i h3 (by omega), A3 j (by omega) h5]; exact eO _ _ (by omega) (by omega) (by omega)
 ·rw [A1 i (by omega), A1 j (by omega)]; exact eP i j (by omega) h4 h5
 ·rw [A3 i h3 h4, A1 j (by omega)]; exact hC _ _ (by omega) (by omega) (by omega) h6
 ·by_cases c3 : i < s
  ·rw [A1 i (by omega)]
   by_cases c4 : j < e
   ·rw [A3 j h5 c4]; exact eO _ _ h3 (by omega) (by omega)
   ·rw [A1 j (by omega)]; exact M1 i j h3 c3 (by omega) h6
  ·rw [A2 i (by omega) h4]
   by_cases c4 : j < e
   ·rw [A3 j h5 c4]; exact M2 _ _ (by omega) (by omega) (by omega) (by omega)
   ·rw [A1 j (by omega)]; exact eP _ _ (by omega) (by omega) h6
theorem Srt.congr {a b : Nat} {d d' : Array α} (h : Srt R a b d) (e : ∀ i, a <= i -> i < b -> d'[i]! = d[i]!) : Srt R a b d' := fun i j h1 h2 h3 => by
 rw [e i h1 (by omega), e j (by omega) h3]; exact h i j h1 h2 h3
theorem CrsIn.congr {a m b : Nat} {d d' : Array α} (h : CrsIn lt R a m b d) (e : ∀ i, a <= i -> i < b -> d'[i]! = d[i]!) : CrsIn lt R a m b d' := fun i j h1 h2 h3 h4 => by
 rw [e i h1 (by omega), e j (by omega) h4]; exact h i j h1 h2 h3 h4
theorem Halves.noLeft {a s mid e b : Nat} {d : Array α} (h : Halves lt R a s mid e b d) (hs : a <= s) (c : ¬ (a < s /\ s < mid)) : MG R a mid d d := by
 refine ⟨permIn_refl d _ _, ?_⟩
 by_cases c1 : a < s
 ·exact fun i j h1 h2 h3 => h.l1 i j h1 h2 (by omega)
 ·exact fun i j h1 h2 h3 => h.l2 i j (by omega) h2 h3
theorem Halves.noRight {a s mid e b : Nat} {d d' : Array α} (h : Halves lt R a s mid e b d) (hm : a <= mid) (he : mid <= e) (hl : MG R a mid d d') (c : ¬ (mid < e /\ e < b)) : MG R mid b d' d' := by
 refine ⟨permIn_refl d' _ _, ?_⟩
 have E : ∀ i, mid <= i -> d'[i]! = d[i]! := fun i hi => pout hl.1 (.inr hi)
 by_cases c1 : mid < e
 ·exact fun i j h1 h2 h3 => by rw [E i h1, E j (by omega)]; exact h.r1 i j h1 h2 (by omega)
 ·exact fun i j h1 h2 h3 => by rw [E i h1, E j (by omega)]; exact h.r2 i j (by omega) h2 h3
theorem Halves.right {a s mid e b : Nat} {d d' : Array α} (h : Halves lt R a s mid e b d) (hl : MG R a mid d d') (he : mid <= e) : Srt R mid e d' /\ Srt R e b d' /\ CrsIn lt R mid e b d' := by
 have E : ∀ i, mid <= i -> d'[i]! = d[i]! := fun i hi => pout hl.1 (.inr hi)
 exact ⟨h.r1.congr fun i h1 _ => E i h1, h.r2.congr fun i h1 _ => E i (by omega), h.r3.congr fun i h1 _ => E i h1⟩
theorem Halves.done {a s mid e b : Nat} {d0 d d' d'' : Array α} (h : Halves lt R a s mid e b d) (hm : a <= mid) (hmb : mid <= b) (hb : b <= d.size) (h0 : PermIn a b d0 d) (hl : MG R a mid d d') (hr : MG R mid b d' d'') : MG R a b d0 d'' := by
 have z0 := psz h0; have z1 := psz hl.1
 have P1 : PermIn a b d d' := permIn_mono d d' a mid a b (Nat.le_refl _) hmb hb hl.1
 have P2 : PermIn a b d' d'' := permIn_mono d' d'' mid b a b hm (Nat.le_refl _) (by omega) hr.1
 refine ⟨permIn_trans _ _ _ _ _ (permIn_trans _ _ _ _ _ h0 P1) P2, fun i j h1 h2 h3 => ?_⟩
 by_cases c1 : j < mid
 ·rw [pout hr.1 (.inl (by omega)), pout hr.1 (.inl c1)]; exact hl.2 i j h1 h2 c1
 by_cases c2 : mid <= i
 ·exact hr.2 i j c2 h2 h3
 rw [pout hr.1 (.inl (by omega : i < mid))]

 have a1 : ∀ t, mid <= t -> t < b -> R d'[i]! d'[t]! := fun t h5 h6 => by
  rw [pout hl.1 (.inr h5)]
  exact permIn_all d d' a mid (fun x => R x d[t]!) (by omega) hl.1 (fun x hx eI => h.lr x t hx eI h5 h6) i h1 (by omega)
 exact permIn_all d' d'' mid b (fun y => R d'[i]! y) (by omega) hr.1 a1 j (by omega) h3
theorem zVy (hT : ∀ x y z, R x y -> R y z -> R x z) {d0 d dk : Array α} {a b i j : Nat} (hib : i < b) (hb : b <= d0.size) (hai : a <= i) (h0 : MG R a i d0 d) (hC : CrsAll lt R a b d0) (h1 : a <= j) (h2 : j <= i)
  (hl : j = a \/ lt d[i]! d[j - 1]! = false) (hr : j = i \/ lt d[i]! d[j]! = true) (h : BD d i j a (i + 1) dk) : MG R a (i + 1) d0 dk := by
 have z0 := psz h0.1
 have C : CrsIn lt R a i (i + 1) d := fun x y h3 h4 h5 h6 => by
  rw [show y = i by omega, pout h0.1 (.inr (Nat.le_refl _) : i < a \/ i <= i)]
  exact permIn_all d0 d a i (fun x => Crs lt R x d0[i]!) (by omega) h0.1 (fun x hx eI => hC x i hx eI hib) x h3 h4
 have M := zQs hT (by omega) h0.2 C h1 h2 hl hr h
 exact ⟨permIn_trans _ _ _ _ _ (permIn_mono d0 d a i a (i + 1) (Nat.le_refl _) (by omega) (by omega) h0.1) M.1, M.2⟩
theorem qVv {a b B n : Nat} {d d' : Array α} (hn : n <= d.size) (hab : a <= b) (hb : b <= n) (hB : B <= a \/ b <= B) (hP : PermIn a b d d') (h : ∀ i j, i < B -> B <= j -> j < n -> Crs lt R d[i]! d[j]!) :
  ∀ i j, i < B -> B <= j -> j < n -> Crs lt R d'[i]! d'[j]! := by
 intro i j hi hj hjn
 rcases hB with c | c
 ·rw [pout hP (.inl (by omega) : i < a \/ b <= i)]
  have P : PermIn B n d d' := permIn_mono d d' a b B n c hb hn hP
  exact permIn_all d d' B n (fun y => Crs lt R d[i]! y) hn P (fun t h1 h2 => h i t hi h1 h2) j hj hjn
 ·rw [pout hP (.inr (by omega) : j < a \/ b <= j)]
  by_cases cb : B <= n
  ·have P : PermIn 0 B d d' := permIn_mono d d' a b 0 B (Nat.zero_le _) c (by omega) hP
   exact permIn_all d d' 0 B (fun x => Crs lt R x d[j]!) (by omega) P (fun t h1 h2 => h t j h2 hj hjn) i (Nat.zero_le _) hi
  ·omega
structure Blk1 (lt : α -> α -> Bool) (R : α -> α -> Prop) (w n k : Nat) (d0 d : Array α) : Prop where
 pm : PermIn 0 n d0 d
 srt : ∀ q i j, q < k -> q * w <= i -> i < j -> j < (q + 1) * w -> R d[i]! d[j]!
 bnd : ∀ q i j, i < q * w -> q * w <= j -> j < n -> Crs lt R d[i]! d[j]!
 rest : CrsAll lt R (k * w) n d
structure Blk (lt : α -> α -> Bool) (R : α -> α -> Prop) (w n : Nat) (d0 d : Array α) : Prop where
 pm : PermIn 0 n d0 d
 srt : ∀ q i j, q * w <= i -> i < j -> j < (q + 1) * w -> j < n -> R d[i]! d[j]!
 bnd : ∀ q i j, i < q * w -> q * w <= j -> j < n -> Crs lt R d[i]! d[j]!
theorem Blk1.start {n w : Nat} {d : Array α} (h : CrsAll lt R 0 n d) : Blk1 lt R w n 0 d d :=
 ⟨permIn_refl d _ _, fun q i j h1 => by omega, fun q i j h1 h2 h3 => h i j (Nat.zero_le _) (by omega) h3, fun i j h1 h2 h3 => h i j (Nat.zero_le _) h2 h3⟩
theorem Blk1.step {w n k : Nat} {d0 d d' : Array α} (h : Blk1 lt R w n k d0 d) (hn : n <= d0.size) (hk : (k + 1) * w <= n) (hM : MG R (k * w) ((k + 1) * w) d d') : Blk1 lt R w n (k + 1) d0 d' := by
 have z := psz h.pm
 have hw : k * w <= (k + 1) * w := Nat.mul_le_mul_right _ (by omega)
 refine ⟨permIn_trans _ _ _ _ _ h.pm (permIn_mono d d' _ _ 0 n (Nat.zero_le _) hk (by omega) hM.1), fun q i j h1 h2 h3 h4 => ?_, fun q => ?_, fun i j h1 h2 h3 => ?_⟩
 ·by_cases c : q = k
  ·subst c; exact hM.2 i j h2 h3 h4
  ·have : (q + 1) * w <= k * w := Nat.mul_le_mul_right _ (by omega)
   rw [pout hM.1 (.inl (by omega)), pout hM.1 (.inl (by omega))]; exact h.srt q i j (by omega) h2 h3 h4
 ·have hB : q * w <= k * w \/ (k + 1) * w <= q * w := by
   rcases Nat.lt_or_ge k q with c | c
   ·exact .inr (Nat.mul_le_mul_right _ c)
   ·exact .inl (Nat.mul_le_mul_right _ c)
  exact qVv (by omega) hw hk hB hM.1 (h.bnd q)
 ·rw [pout hM.1 (.inr h1), pout hM.1 (.inr (by omega))]; exact h.rest i j (by omega) h2 h3
theorem Blk1.done {w n k : Nat} {d0 d d' : Array α} (h : Blk1 lt R w n k d0 d) (hn : n <= d0.size) (hk0 : k * w <= n) (hk : n < (k + 1) * w) (hM : MG R (k * w) n d d') : Blk lt R w n d0 d' := by
 have z := psz h.pm
 refine ⟨permIn_trans _ _ _ _ _ h.pm (permIn_mono d d' _ _ 0 n (Nat.zero_le _) (Nat.le_refl _) (by omega) hM.1), fun q i j h2 h3 h4 h5 => ?_, fun q => ?_⟩
 ·rcases Nat.lt_trichotomy q k with c | c | c
  ·have : (q + 1) * w <= k * w := Nat.mul_le_mul_right _ c
   rw [pout hM.1 (.inl (by omega)), pout hM.1 (.inl (by omega))]; exact h.srt q i j c h2 h3 h4
  ·subst c; exact hM.2 i j h2 h3 h5
  ·have : (k + 1) * w <= q * w := Nat.mul_le_mul_right _ c
   omega
 ·have hB : q * w <= k * w \/ n <= q * w := by
   rcases Nat.lt_or_ge k q with c | c
   ·have : (k + 1) * w <= q * w := Nat.mul_le_mul_right _ c
    exact .inr (by omega)
   ·exact .inl (Nat.mul_le_mul_right _ c)
  exact qVv (by omega) hk0 (Nat.le_refl _) hB hM.1 (h.bnd q)
structure Mrg (lt : α -> α -> Bool) (R : α -> α -> Prop) (w n k : Nat) (d0 d : Array α) : Prop where
 pm : PermIn 0 n d0 d
 srt : ∀ q i j, q < k -> q * (2 * w) <= i -> i < j -> j < (q + 1) * (2 * w) -> R d[i]! d[j]!
 bnd : ∀ q i j, i < q * (2 * w) -> q * (2 * w) <= j -> j < n -> Crs lt R d[i]! d[j]!
 srt1 : ∀ q i j, 2 * k <= q -> q * w <= i -> i < j -> j < (q + 1) * w -> j < n -> R d[i]! d[j]!
 bnd1 : ∀ q i j, 2 * k <= q -> i < q * w -> q * w <= j -> j < n -> Crs lt R d[i]! d[j]!
theorem qX4 (q w : Nat) : (2 * q) * w = q * (2 * w) := by rw [Nat.mul_comm 2 q, Nat.mul_assoc]
theorem Mrg.start {w n : Nat} {d0 d : Array α} (h : Blk lt R w n d0 d) : Mrg lt R w n 0 d0 d :=
 ⟨h.pm, fun q i j h1 => by omega, fun q i j h1 h2 h3 => h.bnd (2 * q) i j (by rw [qX4]; exact h1) (by rw [qX4]; exact h2) h3, fun q i j _ => h.srt q i j, fun q i j _ => h.bnd q i j⟩
theorem Mrg.left {w n k : Nat} {d0 d : Array α} (h : Mrg lt R w n k d0 d) (hk : k * (2 * w) + w <= n) : Srt R (k * (2 * w)) (k * (2 * w) + w) d := fun i j h1 h2 h3 =>
 h.srt1 (2 * k) i j (Nat.le_refl _) (by rw [qX4]; exact h1) h2 (by rw [Nat.add_mul, qX4]; omega) (by omega)
theorem Mrg.rightS {w n k b : Nat} {d0 d : Array α} (h : Mrg lt R w n k d0 d) (hb : b <= n) (hb2 : b <= k * (2 * w) + 2 * w) : Srt R (k * (2 * w) + w) b d := fun i j h1 h2 h3 =>
 h.srt1 (2 * k + 1) i j (by omega) (by rw [Nat.add_mul, qX4]; omega) h2 (by rw [Nat.add_mul, Nat.add_mul, qX4]; omega) (by omega)
theorem Mrg.crs {w n k b : Nat} {d0 d : Array α} (h : Mrg lt R w n k d0 d) (hb : b <= n) : CrsIn lt R (k * (2 * w)) (k * (2 * w) + w) b d := fun i j h1 h2 h3 h4 =>
 h.bnd1 (2 * k + 1) i j (by omega) (by rw [Nat.add_mul, qX4]; omega) (by rw [Nat.add_mul, qX4]; omega) (by omega)
theorem Mrg.step {w n k : Nat} {d0 d d' : Array α} (h : Mrg lt R w n k d0 d) (hn : n <= d0.size) (hk : (k + 1) * (2 * w) <= n) (hM : MG R (k * (2 * w)) ((k + 1) * (2 * w)) d d') : Mrg lt R w n (k + 1) d0 d' := by
 have z := psz h.pm
 have hw : k * (2 * w) <= (k + 1) * (2 * w) := Nat.mul_le_mul_right _ (by omega)
 have far : ∀ q, 2 * (k + 1) <= q -> (k + 1) * (2 * w) <= q * w := fun q hq => by rw [<- qX4]; exact Nat.mul_le_mul_right _ hq
 refine ⟨permIn_trans _ _ _ _ _ h.pm (permIn_mono d d' _ _ 0 n (Nat.zero_le _) hk (by omega) hM.1), fun q i j h1 h2 h3 h4 => ?_, fun q => ?_, fun q i j h0 h1 h2 h3 h4 => ?_, fun q i j h0 => ?_⟩
 ·by_cases c : q = k
  ·subst c; exact hM.2 i j h2 h3 h4
  ·have : (q + 1) * (2 * w) <= k * (2 * w) := Nat.mul_le_mul_right _ (by omega)
   rw [pout hM.1 (.inl (by omega)), pout hM.1 (.inl (by omega))]; exact h.srt q i j (by omega) h2 h3 h4
 ·have hB : q * (2 * w) <= k * (2 * w) \/ (k + 1) * (2 * w) <= q * (2 * w) := by
   rcases Nat.lt_or_ge k q with c | c
   ·exact .inr (Nat.mul_le_mul_right _ c)
   ·exact .inl (Nat.mul_le_mul_right _ c)
  exact qVv (by omega) hw hk hB hM.1 (h.bnd q)
 ·have := far q h0
  rw [pout hM.1 (.inr (by omega)), pout hM.1 (.inr (by omega))]; exact h.srt1 q i j (by omega) h1 h2 h3 h4
 ·exact qVv (by omega) hw hk (.inr (far q h0)) hM.1 (h.bnd1 q · · (by omega)) i j
theorem Mrg.done {w n k : Nat} {d0 d d' : Array α} (h : Mrg lt R w n k d0 d) (hn : n <= d0.size) (hk0 : k * (2 * w) <= n) (hk : n < (k + 1) * (2 * w)) (hM : MG R (k * (2 * w)) n d d') : Blk lt R (2 * w) n d0 d' := by
 have z := psz h.pm
 refine ⟨permIn_trans _ _ _ _ _ h.pm (permIn_mono d d' _ _ 0 n (Nat.zero_le _) (Nat.le_refl _) (by omega) hM.1), fun q i j h2 h3 h4 h5 => ?_, fun q => ?_⟩
 ·rcases Nat.lt_trichotomy q k with c | c | c
  ·have : (q + 1) * (2 * w) <= k * (2 * w) := Nat.mul_le_mul_right _ c
   rw [pout hM.1 (.inl (by omega)), pout hM.1 (.inl (by omega))]; exact h.srt q i j c h2 h3 h4
  ·subst c; exact hM.2 i j h2 h3 h5
  ·have : (k + 1) * (2 * w) <= q * (2 * w) := Nat.mul_le_mul_right _ c
   omega
 ·have hB : q * (2 * w) <= k * (2 * w) \/ n <= q * (2 * w) := by
   rcases Nat.lt_or_ge k q with c | c
   ·have : (k + 1) * (2 * w) <= q * (2 * w) := Nat.mul_le_mul_right _ c
    exact .inr (by omega)
   ·exact .inl (Nat.mul_le_mul_right _ c)
  exact qVv (by omega) hk0 (Nat.le_refl _) hB hM.1 (h.bnd q)
theorem Mrg.last {w n k : Nat} {d0 d : Array α} (h : Mrg lt R w n k d0 d) (hk : n <= k * (2 * w) + w) : MG R (k * (2 * w)) n d d :=
 ⟨permIn_refl d _ _, fun i j h1 h2 h3 => h.srt1 (2 * k) i j (Nat.le_refl _) (by rw [qX4]; exact h1) h2 (by rw [Nat.add_mul, qX4]; omega) h3⟩
theorem Blk.all {w n : Nat} {d0 d : Array α} (h : Blk lt R w n d0 d) (hw : n <= w) : MG R 0 n d0 d :=
 ⟨h.pm, fun i j h1 h2 h3 => h.srt 0 i j (by omega) h2 (by omega) h3⟩
end Go.Proofs.YtlhcohipnieidaaGreat.St
namespace Go.Proofs.YtlhcohipnieidaaGreat.St
open Go.Shelf Go.RowKit Go.Lib Go.Sort
set_option linter.unusedVariables false
set_option linter.unusedSimpArgs false
variable {α : Type} [Inhabited α]
theorem mixed : Tryz.prog.follows .mixedOrders = true := by kernel_rfl
set_option maxHeartbeats 4000000 in
set_option maxRecDepth 1000000 in
theorem swapRange (v : α -> Int) (g : Nat) (cb : Array Value) (blk off len cap a b n lo hi : Nat) (d0 d : Array α) (w0 w : World)
    (R : Row1 (fun x => Value.int .i64 (v x)) w0 blk off d0) (hs : d0.size = len) (hl : d.size = len) (S : SW (fun x => Value.int .i64 (v x)) w0 blk off d w) (hlo : lo <= a) (hab : a + n <= b) (hb : b + n <= hi) (hhi : hi <= len) (hsz : len < 4611686018427387904) :
    Calls Tryz.prog 121 #[.slice (some ⟨blk, off, none⟩) len cap, .int .i64 a, .int .i64 b, .int .i64 n, .func (.func g) #[] cb] w fun e w' => e = .returned (.tuple #[]) /\ ∃ d', SW (fun x => Value.int .i64 (v x)) w0 blk off d' w' /\ SR d a b n lo hi d' := by
  have mx := mixed
  have S0 : Aside (SW (fun x => Value.int .i64 (v x)) w0 blk off d w) := S
  clear S
  go_enter Tryz.func121, Tryz.ntmps121
  go_wp2
  go_loopg [10] n (fun kx s8 wr => ∃ (i : Nat) (dk : Array α), s8 = .int .i64 i /\ i <= n /\ n - i <= kx /\ Aside (SW (fun x => Value.int .i64 (v x)) w0 blk off dk wr) /\ Aside (SR d a b i lo hi dk))
  case atStart => exact ⟨0, d, rfl, by omega, by omega, S0, SR.start d a b lo hi⟩
  case round =>
    clear S0
    obtain ⟨i, dk, rfl, hin, hkx, S1, HR⟩ := hrel
    have hds : dk.size = d.size := psz HR.out.pm
    by_cases hlt : (i : Int) < (n : Int)
    · go_wp2_with fail
      obtain ⟨iN1, hiN1⟩ : ∃ q, q = a + i := ⟨_, rfl⟩
      obtain ⟨jN1, hjN1⟩ : ∃ q, q = b + i := ⟨_, rfl⟩
      have ea1 : ((a : Int) + (i : Int)).toNat = iN1 := by omega
      have pa1 : (0 : Int) <= (a : Int) + (i : Int) := by omega
      have ba1 : (a : Int) + (i : Int) < (len : Int) := by omega
      have ra1 : IntKind.i64.wrap ((a : Int) + (i : Int)) = (a : Int) + (i : Int) := by rw [IntKind.wrap_i64]; omega
      have ec1 : ((b : Int) + (i : Int)).toNat = jN1 := by omega
      have pc1 : (0 : Int) <= (b : Int) + (i : Int) := by omega
      have bc1 : (b : Int) + (i : Int) < (len : Int) := by omega
      have rc1 : IntKind.i64.wrap ((b : Int) + (i : Int)) = (b : Int) + (i : Int) := by rw [IntKind.wrap_i64]; omega
      obtain ⟨x1, eE⟩ : ∃ x, x = dk[a + i]! := ⟨_, rfl⟩
      obtain ⟨y1, eJ⟩ : ∃ x, x = dk[b + i]! := ⟨_, rfl⟩
      have S2 : Aside (SW (fun x => Value.int .i64 (v x)) w0 blk off (swp dk (a + i) (b + i)) (((wr.setCell ⟨blk, off + iN1, none⟩ (Value.int .i64 (v y1))).setCell ⟨blk, off + jN1, none⟩ (Value.int .i64 (v x1))).drew)) := by rw [hiN1, hjN1, eE, eJ]; exact S1.out.swapped R (a + i) (b + i) (by omega) (by omega)
      have c1a := S1.out.c1 R (by omega) (a + i) (by omega)
      have f1a := S1.out.f1 R (by omega) (a + i) (by omega)
      have c1b := S1.out.c1 R (by omega) (b + i) (by omega)
      have f1b := S1.out.f1 R (by omega) (b + i) (by omega)
      obtain ⟨u1, c1c⟩ := S1.out.c2 R (by omega) (a + i) (b + i) (by omega) (by omega) (Value.int .i64 (v y1))
      rw [<- hjN1, <- hiN1] at c1c
      rw [<- eE, <- hiN1] at c1a
      rw [<- eJ, <- hjN1] at c1b
      rw [<- hiN1] at f1a
      rw [<- hjN1] at f1b
      clear S1 eE eJ hiN1 hjN1
      go_wp2_with fail
      go_big_region_o
      clear c1a c1b c1c f1a f1b
      generalize ((wr.setCell ⟨blk, off + iN1, none⟩ (Value.int .i64 (v y1))).setCell ⟨blk, off + jN1, none⟩ (Value.int .i64 (v x1))).drew = w2 at S2 ⊢
      clear ea1 ec1
      go_wp2
      go_roundg (n - (i + 1))
      case measure => omega
      case rel => exact ⟨i + 1, swp dk (a + i) (b + i), by first | rfl | go_num, by omega, Nat.le_refl _, S2, HR.out.step (n := n) (by omega) hab hlo hb (by omega)⟩
    · go_wp2
      go_end0
      exact ⟨rfl, dk, S1.out, by have : i = n := by omega
                                 rw [<- this]; exact HR.out⟩
set_option maxHeartbeats 4000000 in
set_option maxRecDepth 1000000 in
theorem rotate (v : α -> Int) (g : Nat) (cb : Array Value) (blk off len cap a m b : Nat) (d0 d : Array α) (w0 w : World)
    (R : Row1 (fun x => Value.int .i64 (v x)) w0 blk off d0) (hs : d0.size = len) (hl : d.size = len) (S : SW (fun x => Value.int .i64 (v x)) w0 blk off d w) (ham : a < m) (hmb : m < b) (hb : b <= len) (hsz : len < 4611686018427387904) :
    Calls Tryz.prog 120 #[.slice (some ⟨blk, off, none⟩) len cap, .int .i64 a, .int .i64 m, .int .i64 b, .func (.func g) #[] cb] w fun e w' => e = .returned (.tuple #[]) /\ ∃ d', SW (fun x => Value.int .i64 (v x)) w0 blk off d' w' /\ Rot d a m b d' := by
  have S0 : Aside (SW (fun x => Value.int .i64 (v x)) w0 blk off d w) := S
  clear S
  go_enter Tryz.func120, Tryz.ntmps120
  have z1 : IntKind.i64.wrap ((m : Int) - (a : Int)) = (m : Int) - (a : Int) := by rw [IntKind.wrap_i64]; omega
  have z2 : IntKind.i64.wrap ((b : Int) - (m : Int)) = (b : Int) - (m : Int) := by rw [IntKind.wrap_i64]; omega
  go_wp2
  go_loopg [10, 11] (b - a) (fun kx s1 s2 wr => ∃ (i j : Nat) (dk : Array α), s1 = .int .i64 i /\ s2 = .int .i64 j /\ i + j <= kx /\ Aside (SW (fun x => Value.int .i64 (v x)) w0 blk off dk wr) /\ Aside (RotI d a m b i j dk))
  case atStart => exact ⟨m - a, b - m, d, by first | rfl | (congr 1; omega), by first | rfl | (congr 1; omega), by omega, S0, RotI.start d a m b ham hmb (by omega)⟩
  case round =>
    clear S0 z1 z2
    obtain ⟨i, j, dk, rfl, rfl, hkx, S1, HR⟩ := hrel
    have hds : dk.size = len := (psz HR.out.pm).trans hl
    have hi := HR.out.hi
    have hj := HR.out.hj
    by_cases hij : (i : Int) = (j : Int)
    · obtain rfl : i = j := by omega
      have hc := swapRange v g cb blk off len cap (m - i) m i a b d0 dk w0 wr R hs hds S1.out (by omega) (by omega) (by omega) hb hsz
      rw [show ((m - i : Nat) : Int) = (m : Int) - (i : Int) by omega] at hc
      have z1 : IntKind.i64.wrap ((m : Int) - (i : Int)) = (m : Int) - (i : Int) := by rw [IntKind.wrap_i64]; omega
      clear S1
      go_wp2_with (go_at_call 121; refine hc.mono ?_; rintro e w2 ⟨rfl, dj, S2, HS⟩)
      go_end0
      exact ⟨rfl, dj, S2, HR.out.eq ham hmb (by omega) HS⟩
    · by_cases hgt : (j : Int) < (i : Int)
      · have hc := swapRange v g cb blk off len cap (m - i) m j a b d0 dk w0 wr R hs hds S1.out (by omega) (by omega) (by omega) hb hsz
        rw [show ((m - i : Nat) : Int) = (m : Int) - (i : Int) by omega] at hc
        have z1 : IntKind.i64.wrap ((m : Int) - (i : Int)) = (m : Int) - (i : Int) := by rw [IntKind.wrap_i64]; omega
        have z2 : IntKind.i64.wrap ((i : Int) - (j : Int)) = (i : Int) - (j : Int) := by rw [IntKind.wrap_i64]; omega
        clear S1
        go_wp2_with (go_at_call 121; refine hc.mono ?_; rintro e w2 ⟨rfl, dj, S2, HS⟩)
        go_roundg (i - j + j)
        case measure => omega
        case rel => exact ⟨i - j, j, dj, by first | rfl | (congr 1; omega), rfl, Nat.le_refl _, S2, HR.out.gt ham hmb (by omega) (by omega) HS⟩
      · have hc := swapRange v g cb blk off len cap (m - i) (m + j - i) i a b d0 dk w0 wr R hs hds S1.out (by omega) (by omega) (by omega) hb hsz
        rw [show ((m - i : Nat) : Int) = (m : Int) - (i : Int) by omega, show ((m + j - i : Nat) : Int) = (m : Int) + (j : Int) - (i : Int) by omega] at hc
        have z1 : IntKind.i64.wrap ((m : Int) - (i : Int)) = (m : Int) - (i : Int) := by rw [IntKind.wrap_i64]; omega
        have z2 : IntKind.i64.wrap ((j : Int) - (i : Int)) = (j : Int) - (i : Int) := by rw [IntKind.wrap_i64]; omega
        have z3 : IntKind.i64.wrap ((m : Int) + (j : Int)) = (m : Int) + (j : Int) := by rw [IntKind.wrap_i64]; omega
        have z4 : IntKind.i64.wrap ((m : Int) + (j : Int) - (i : Int)) = (m : Int) + (j : Int) - (i : Int) := by rw [IntKind.wrap_i64]; omega
        clear S1
        go_wp2_with (go_at_call 121; refine hc.mono ?_; rintro e w2 ⟨rfl, dj, S2, HS⟩)
        go_roundg (i + (j - i))
        case measure => omega
        case rel => exact ⟨i, j - i, dj, rfl, by first | rfl | (congr 1; omega), Nat.le_refl _, S2, HR.out.less ham hmb (by omega) (by omega) HS⟩
variable {α : Type} [Inhabited α]
set_option maxHeartbeats 16000000 in
set_option maxRecDepth 1000000 in
theorem insertion (v : α -> Int) (cf : α -> α -> Int) (Rl : α -> α -> Prop) (hT : ∀ x y z, Rl x y -> Rl y z -> Rl x z) (g : Nat) (cb : Array Value) (blk off len cap a b : Nat) (d0 d : Array α) (w0 w : World)
  (eg : ∀ args w, (callFunc g args).run Tryz.prog w = .ok (.enter g args) w) (hcmp : CmpLays1 Tryz.prog g cb (fun x => Value.int .i64 (v x)) cf blk off len w0)
  (R : Row1 (fun x => Value.int .i64 (v x)) w0 blk off d0) (hs : d0.size = len) (hl : d.size = len) (S : SW (fun x => Value.int .i64 (v x)) w0 blk off d w) (hab : a <= b) (hb : b <= len) (hsz : len < 4611686018427387904)
  (hC : CrsAll (ltOf cf) Rl a b d) :
  Calls Tryz.prog 118 #[.slice (some ⟨blk, off, none⟩) len cap, .int .i64 a, .int .i64 b, .func (.func g) #[] cb] w fun e w' => e = .returned (.tuple #[]) /\ ∃ d', SW (fun x => Value.int .i64 (v x)) w0 blk off d' w' /\ MG Rl a b d d' := by
 have mx := mixed
 have HC : Aside _ := hcmp
 have HCr : Aside _ := hC
 have HT : Aside _ := hT
 have S0 : Aside (SW (fun x => Value.int .i64 (v x)) w0 blk off d w) := S
 clear S hcmp hC hT
 go_enter Tryz.func118, Tryz.ntmps118
 go_wp2
 go_loopg [8] (b - a) (fun g1 vi wr => ∃ (i : Nat) (dk : Array α), vi = .int .i64 i /\ a < i /\ i <= b + 1 /\ b + 1 - i <= g1 + 1 /\ Aside (SW (fun x => Value.int .i64 (v x)) w0 blk off dk wr) /\ Aside (MG Rl a (min i b) d dk))
 case atStart => exact ⟨a + 1, d, by go_num, by omega, by omega, by omega, S0, ⟨permIn_refl d _ _, Srt.one a _ d (by omega)⟩⟩
 case round =>
  clear S0
  obtain ⟨i, dk, rfl, hai, hib, hg1, S1, HO⟩ := hrel
  have hsk : dk.size = len := (psz HO.out.1).trans hl
  by_cases hlt : i < b
  ·have hltz : (i : Int) < (b : Int) := by omega
   have iZ : Aside (MG Rl a i d dk) := by
    have := HO.out
    rw [show min i b = i by omega] at this
    exact this
   clear HO
   go_wp2
   go_loopg [9] i (fun g2 vj wr2 => ∃ (j : Nat) (dj : Array α), vj = .int .i64 j /\ a <= j /\ j <= i /\ j <= g2 /\ Aside (SW (fun x => Value.int .i64 (v x)) w0 blk off dj wr2) /\ Aside (BD dk i j a (i + 1) dj) /\ Aside (j = i \/ ltOf cf dk[i]! dk[j]! = true))
   case atStart => exact ⟨i, dk, rfl, by omega, Nat.le_refl _, Nat.le_refl _, S1, BD.start dk i a (i + 1), .inl rfl⟩
   case round =>
    clear S1
    obtain ⟨j, dj, rfl, haj, hji, hg2, SJ, HB, HU⟩ := hrel
    have hsj : dj.size = len := (psz HB.out.pm).trans hsk
    have out : (j = a \/ ltOf cf dk[i]! dk[j - 1]! = false) -> MG Rl a (min (i + 1) b) d dj := fun hst => by
     rw [show min (i + 1) b = i + 1 by omega]
     exact zVy HT.out hlt (by omega) (by omega) iZ.out HCr.out haj hji hst HU.out HB.out
    have OUT : Aside _ := out
    clear out
    by_cases hja : a < j
    ·have hjaz : (a : Int) < (j : Int) := by omega
     obtain ⟨jp, hjp⟩ : ∃ q, q + 1 = j := ⟨j - 1, by omega⟩
     have zjp : (j : Int) = (jp : Int) + 1 := by omega
     have hjad : decide ((jp : Int) + 1 > (a : Int)) = true := decide_eq_true (by omega)
     have hjaz' : (a : Int) < (jp : Int) + 1 := by omega
     have q1 : dj[j]! = dk[i]! := by rw [HB.out.at_ j, if_neg (by omega), if_pos rfl]
     have q2 : dj[j - 1]! = dk[j - 1]! := by rw [HB.out.at_ (j - 1), if_neg (by omega), if_neg (by omega)]
     have Q1 : Aside _ := q1
     have Q2 : Aside _ := q2
     clear q1 q2
     cases hlv : (ltOf cf) dj[j]! dj[j - 1]! with
     | true =>
      obtain ⟨iN1193, hiN1193⟩ : ∃ q, q = j := ⟨_, rfl⟩
      obtain ⟨jN1193, hjN1193⟩ : ∃ q, q = j - 1 := ⟨_, rfl⟩
      have ea1193 : ((jp : Int) + 1).toNat = iN1193 := by omega
      have pa1193 : (0 : Int) <= (jp : Int) + 1 := by omega
      have ba1193 : (jp : Int) + 1 < (len : Int) := by omega
      have ra1193 : IntKind.i64.wrap ((jp : Int) + 1) = (jp : Int) + 1 := by rw [IntKind.wrap_i64]; omega
      have ec1193 : ((jp : Int)).toNat = jN1193 := by omega
      have pc1193 : (0 : Int) <= (jp : Int) := by omega
      have bc1193 : (jp : Int) < (len : Int) := by omega
      have rc1193 : IntKind.i64.wrap ((jp : Int)) = (jp : Int) := by rw [IntKind.wrap_i64]; omega
      obtain ⟨eU, eF⟩ : ∃ x, x = dj[j]! := ⟨_, rfl⟩
      obtain ⟨eW, eK⟩ : ∃ x, x = dj[j - 1]! := ⟨_, rfl⟩
      have l1193a := SJ.out.cl R (by omega) (j) (by omega)
      rw [<- eF, <- hiN1193] at l1193a
      have l1193b := SJ.out.cl R (by omega) (j - 1) (by omega)
      rw [<- eK, <- hjN1193] at l1193b
      have hc1193 := SJ.out.cmp HC.out (by omega) eU eW
      have hv1193 : cf eU eW < 0 := by rw [eF, eK]; exact of_decide_eq_true hlv
      have hd1193 : decide (cf eU eW < 0) = true := decide_eq_true hv1193
      clear eF eK hiN1193 hjN1193
      go_wp2_with fail
      go_quiet_grown (first | (go_at_fn g; refine Calls.grown_of (hc1193 _ _)))
      have S2 : Aside (SW (fun x => Value.int .i64 (v x)) w0 blk off dj (grow (wr.drewN nq) osq)) := SJ.out.grown nq osq
      clear l1193a l1193b hc1193 SJ
      generalize grow (wr.drewN nq) osq = w2 at S2 ⊢
      clear nq osq
      clear ea1193 ec1193
      go_wp2_with fail
      obtain ⟨iN1194, hiN1194⟩ : ∃ q, q = j := ⟨_, rfl⟩
      obtain ⟨jN1194, hjN1194⟩ : ∃ q, q = j - 1 := ⟨_, rfl⟩
      have ea1194 : ((jp : Int) + 1).toNat = iN1194 := by omega
      have pa1194 : (0 : Int) <= (jp : Int) + 1 := by omega
      have ba1194 : (jp : Int) + 1 < (len : Int) := by omega
      have ra1194 : IntKind.i64.wrap ((jp : Int) + 1) = (jp : Int) + 1 := by rw [IntKind.wrap_i64]; omega
      have ec1194 : ((jp : Int)).toNat = jN1194 := by omega
      have pc1194 : (0 : Int) <= (jp : Int) := by omega
      have bc1194 : (jp : Int) < (len : Int) := by omega
      have rc1194 : IntKind.i64.wrap ((jp : Int)) = (jp : Int) := by rw [IntKind.wrap_i64]; omega
      obtain ⟨e8, eG⟩ : ∃ x, x = dj[j]! := ⟨_, rfl⟩
      obtain ⟨eX, eL⟩ : ∃ x, x = dj[j - 1]! := ⟨_, rfl⟩
      have S3 : Aside (SW (fun x => Value.int .i64 (v x)) w0 blk off (swp dj (j) (j - 1)) (((w2.setCell ⟨blk, off + iN1194, none⟩ (Value.int .i64 (v eX))).setCell ⟨blk, off + jN1194, none⟩ (Value.int .i64 (v e8))).drew)) := by rw [hiN1194, hjN1194, eG, eL]; exact S2.out.swapped R (j) (j - 1) (by omega) (by omega)
      have c1194a := S2.out.c1 R (by omega) (j) (by omega)
      have f1194a := S2.out.f1 R (by omega) (j) (by omega)
      have c1194b := S2.out.c1 R (by omega) (j - 1) (by omega)
      have f1194b := S2.out.f1 R (by omega) (j - 1) (by omega)
      obtain ⟨u1194, c1194c⟩ := S2.out.c2 R (by omega) (j) (j - 1) (by omega) (by omega) (Value.int .i64 (v eX))
      rw [<- hjN1194, <- hiN1194] at c1194c
      rw [<- eG, <- hiN1194] at c1194a
      rw [<- eL, <- hjN1194] at c1194b
      rw [<- hiN1194] at f1194a
      rw [<- hjN1194] at f1194b
      clear S2 eG eL hiN1194 hjN1194
      go_wp2_with fail
      go_big_region_o
      clear c1194a c1194b c1194c f1194a f1194b
      generalize ((w2.setCell ⟨blk, off + iN1194, none⟩ (Value.int .i64 (v eX))).setCell ⟨blk, off + jN1194, none⟩ (Value.int .i64 (v e8))).drew = w3 at S3 ⊢
      clear ea1194 ec1194
      go_wp2
      go_roundg (j - 1)
      case measure => omega
      case rel => exact ⟨j - 1, swp dj j (j - 1), by first | rfl | go_num | (congr 1; omega), by omega, by omega, Nat.le_refl _, S3, HB.out.step hji (by omega) (by omega) (by omega), (show Aside _ from .inr (by rw [<- Q1.out, <- Q2.out]; exact hlv))⟩
     | false =>
      obtain ⟨iN1195, hiN1195⟩ : ∃ q, q = j := ⟨_, rfl⟩
      obtain ⟨jN1195, hjN1195⟩ : ∃ q, q = j - 1 := ⟨_, rfl⟩
      have ea1195 : ((jp : Int) + 1).toNat = iN1195 := by omega
      have pa1195 : (0 : Int) <= (jp : Int) + 1 := by omega
      have ba1195 : (jp : Int) + 1 < (len : Int) := by omega
      have ra1195 : IntKind.i64.wrap ((jp : Int) + 1) = (jp : Int) + 1 := by rw [IntKind.wrap_i64]; omega
      have ec1195 : ((jp : Int)).toNat = jN1195 := by omega
      have pc1195 : (0 : Int) <= (jp : Int) := by omega
      have bc1195 : (jp : Int) < (len : Int) := by omega
      have rc1195 : IntKind.i64.wrap ((jp : Int)) = (jp : Int) := by rw [IntKind.wrap_i64]; omega
      obtain ⟨eV, eH⟩ : ∃ x, x = dj[j]! := ⟨_, rfl⟩
      obtain ⟨eY, eM⟩ : ∃ x, x = dj[j - 1]! := ⟨_, rfl⟩
      have l1195a := SJ.out.cl R (by omega) (j) (by omega)
      rw [<- eH, <- hiN1195] at l1195a
      have l1195b := SJ.out.cl R (by omega) (j - 1) (by omega)
      rw [<- eM, <- hjN1195] at l1195b
      have hc1195 := SJ.out.cmp HC.out (by omega) eV eY
      have hv1195 : ¬ cf eV eY < 0 := by rw [eH, eM]; exact of_decide_eq_false hlv
      have hd1195 : decide (cf eV eY < 0) = false := decide_eq_false hv1195
      clear eH eM hiN1195 hjN1195
      go_wp2_with fail
      go_quiet_grown (first | (go_at_fn g; refine Calls.grown_of (hc1195 _ _)))
      have S2 : Aside (SW (fun x => Value.int .i64 (v x)) w0 blk off dj (grow (wr.drewN nq) osq)) := SJ.out.grown nq osq
      clear l1195a l1195b hc1195 SJ
      generalize grow (wr.drewN nq) osq = w2 at S2 ⊢
      clear nq osq
      clear ea1195 ec1195
      go_wp2
      go_roundg (b - (i + 1))
      case measure => omega
      case rel => exact ⟨i + 1, dj, by go_num, by omega, by omega, by omega, S2, OUT.out (Or.inr (by rw [<- Q1.out, <- Q2.out]; exact hlv))⟩
    ·have hjaz : decide ((j : Int) > (a : Int)) = false := decide_eq_false (by omega)
     have hjaz' : ¬ (a : Int) < (j : Int) := by omega
     go_wp2_with fail
     go_big_region_o
     have S2 : Aside (SW (fun x => Value.int .i64 (v x)) w0 blk off dj wr.drew) := SJ.out.drew
     clear SJ
     generalize wr.drew = w2 at S2 ⊢
     go_wp2
     go_roundg (b - (i + 1))
     case measure => omega
     case rel => exact ⟨i + 1, dj, by go_num, by omega, by omega, by omega, S2, OUT.out (Or.inl (by omega))⟩
  ·have hltz : ¬ (i : Int) < (b : Int) := by omega
   go_wp2
   go_end0
   exact ⟨rfl, dk, S1.out, by have := HO.out; rw [show min i b = b by omega] at this; exact this⟩
variable {α : Type} [Inhabited α]
set_option maxHeartbeats 16000000 in
set_option maxRecDepth 1000000 in
theorem symOne (v : α -> Int) (cf : α -> α -> Int) (Rl : α -> α -> Prop) (hT : ∀ x y z, Rl x y -> Rl y z -> Rl x z) (g : Nat) (cb : Array Value) (blk off len cap a m b : Nat) (d0 d : Array α) (w0 w : World)
  (eg : ∀ args w, (callFunc g args).run Tryz.prog w = .ok (.enter g args) w) (hcmp : CmpLays1 Tryz.prog g cb (fun x => Value.int .i64 (v x)) cf blk off len w0)
  (R : Row1 (fun x => Value.int .i64 (v x)) w0 blk off d0) (hs : d0.size = len) (hl : d.size = len) (S : SW (fun x => Value.int .i64 (v x)) w0 blk off d w) (ham : a < m) (hmb : m < b) (hb : b <= len) (hsz : len < 1152921504606846976)
  (eO : Srt Rl a m d) (eP : Srt Rl m b d) (hC : CrsIn (ltOf cf) Rl a m b d) (h1 : m = a + 1) :
  Calls Tryz.prog 119 #[.slice (some ⟨blk, off, none⟩) len cap, .int .i64 a, .int .i64 m, .int .i64 b, .func (.func g) #[] cb] w fun e w' => e = .returned (.tuple #[]) /\ ∃ d', SW (fun x => Value.int .i64 (v x)) w0 blk off d' w' /\ MG Rl a b d d' := by
 have mx := mixed
 have HC : Aside _ := hcmp
 have HCr : Aside _ := hC
 have HT : Aside _ := hT
 have iN : Aside _ := eO
 have iO : Aside _ := eP
 have S0 : Aside (SW (fun x => Value.int .i64 (v x)) w0 blk off d w) := S
 clear S hcmp hC hT eO eP
 have z1 : IntKind.i64.wrap ((m : Int) - (a : Int)) = (m : Int) - (a : Int) := by rw [IntKind.wrap_i64]; omega
 have z2 : (m : Int) - (a : Int) = 1 := by omega
 go_enter Tryz.func119, Tryz.ntmps119
 go_wp2
 go_loopg [10, 11] (b - m) (fun kx s1 s2 wr => ∃ (i j : Nat), s1 = .int .i64 i /\ s2 = .int .i64 j /\ m <= i /\ i <= j /\ j <= b /\ j - i <= kx /\ Aside (SW (fun x => Value.int .i64 (v x)) w0 blk off d wr) /\ Aside ((i = m \/ ltOf cf d[i - 1]! d[a]! = true) /\ (j = b \/ ltOf cf d[j]! d[a]! = false)))
 case atStart => exact ⟨m, b, by first | rfl | (congr 1; omega), rfl, Nat.le_refl _, by omega, Nat.le_refl _, Nat.le_refl _, S0, ⟨.inl rfl, .inl rfl⟩⟩
 case round =>
  clear S0
  obtain ⟨i, j, rfl, rfl, hmi, hij, hjb, hkx, S1, HF⟩ := hrel
  by_cases hlt : i < j
  ·have hltz : (i : Int) < (j : Int) := by omega
   obtain ⟨h, hh⟩ : ∃ h, h = (i + j) / 2 := ⟨_, rfl⟩
   have zz : IntKind.i64.wrap ((i : Int) + (j : Int)) = (i : Int) + (j : Int) := by rw [IntKind.wrap_i64]; omega
   cases hlv : (ltOf cf) d[h]! d[a]! with
   | true =>
    go_wp2_with fail
    obtain ⟨iN1, hiN1⟩ : ∃ q, q = h := ⟨_, rfl⟩
    obtain ⟨jN1, hjN1⟩ : ∃ q, q = a := ⟨_, rfl⟩
    have ea1 : (((i : Int) + (j : Int)) / 2).toNat = iN1 := by omega
    have pa1 : (0 : Int) <= ((i : Int) + (j : Int)) / 2 := by omega
    have ba1 : ((i : Int) + (j : Int)) / 2 < (len : Int) := by omega
    have ra1 : IntKind.i64.wrap (((i : Int) + (j : Int)) / 2) = ((i : Int) + (j : Int)) / 2 := by rw [IntKind.wrap_i64]; omega
    have ec1 : ((a : Int)).toNat = jN1 := by omega
    have pc1 : (0 : Int) <= (a : Int) := by omega
    have bc1 : (a : Int) < (len : Int) := by omega
    have rc1 : IntKind.i64.wrap ((a : Int)) = (a : Int) := by rw [IntKind.wrap_i64]; omega
    obtain ⟨x1, eE⟩ : ∃ x, x = d[h]! := ⟨_, rfl⟩
    obtain ⟨y1, eJ⟩ : ∃ x, x = d[a]! := ⟨_, rfl⟩
    have l1a := S1.out.cl R (by omega) (h) (by omega)
    rw [<- eE, <- hiN1] at l1a
    have l1b := S1.out.cl R (by omega) (a) (by omega)
    rw [<- eJ, <- hjN1] at l1b
    have hc1 := S1.out.cmp HC.out (by omega) x1 y1
    have hv1 : cf x1 y1 < 0 := by rw [eE, eJ]; exact of_decide_eq_true hlv
    have hd1 : decide (cf x1 y1 < 0) = true := decide_eq_true hv1
    clear eE eJ hiN1 hjN1
    go_wp2_with fail
    go_quiet_grown (first | (go_at_fn g; refine Calls.grown_of (hc1 _ _)))
    have S2 : Aside (SW (fun x => Value.int .i64 (v x)) w0 blk off d (grow (wr.drewN nq) osq)) := S1.out.grown nq osq
    clear l1a l1b hc1 S1
    generalize grow (wr.drewN nq) osq = w2 at S2 ⊢
    clear nq osq
    clear ea1 ec1
    go_wp2
    go_roundg (j - (h + 1))
    case measure => omega
    case rel => exact ⟨h + 1, j, by first | rfl | (congr 1; omega), rfl, by omega, by omega, hjb, Nat.le_refl _, S2, (show Aside _ from ⟨.inr hlv, HF.out.2⟩)⟩
   | false =>
    go_wp2_with fail
    obtain ⟨iN2, hiN2⟩ : ∃ q, q = h := ⟨_, rfl⟩
    obtain ⟨jN2, hjN2⟩ : ∃ q, q = a := ⟨_, rfl⟩
    have ea2 : (((i : Int) + (j : Int)) / 2).toNat = iN2 := by omega
    have pa2 : (0 : Int) <= ((i : Int) + (j : Int)) / 2 := by omega
    have ba2 : ((i : Int) + (j : Int)) / 2 < (len : Int) := by omega
    have ra2 : IntKind.i64.wrap (((i : Int) + (j : Int)) / 2) = ((i : Int) + (j : Int)) / 2 := by rw [IntKind.wrap_i64]; omega
    have ec2 : ((a : Int)).toNat = jN2 := by omega
    have pc2 : (0 : Int) <= (a : Int) := by omega
    have bc2 : (a : Int) < (len : Int) := by omega
    have rc2 : IntKind.i64.wrap ((a : Int)) = (a : Int) := by rw [IntKind.wrap_i64]; omega
    obtain ⟨x2, eI⟩ : ∃ x, x = d[h]! := ⟨_, rfl⟩
    obtain ⟨y2, eR⟩ : ∃ x, x = d[a]! := ⟨_, rfl⟩
    have l2a := S1.out.cl R (by omega) (h) (by omega)
    rw [<- eI, <- hiN2] at l2a
    have l2b := S1.out.cl R (by omega) (a) (by omega)
    rw [<- eR, <- hjN2] at l2b
    have hc2 := S1.out.cmp HC.out (by omega) x2 y2
    have hv2 : ¬ cf x2 y2 < 0 := by rw [eI, eR]; exact of_decide_eq_false hlv
    have hd2 : decide (cf x2 y2 < 0) = false := decide_eq_false hv2
    clear eI eR hiN2 hjN2
    go_wp2_with fail
    go_quiet_grown (first | (go_at_fn g; refine Calls.grown_of (hc2 _ _)))
    have S2 : Aside (SW (fun x => Value.int .i64 (v x)) w0 blk off d (grow (wr.drewN nq) osq)) := S1.out.grown nq osq
    clear l2a l2b hc2 S1
    generalize grow (wr.drewN nq) osq = w2 at S2 ⊢
    clear nq osq
    clear ea2 ec2
    go_wp2
    go_roundg (h - i)
    case measure => omega
    case rel => exact ⟨i, h, rfl, by first | rfl | (congr 1; omega), hmi, by omega, by omega, Nat.le_refl _, S2, (show Aside _ from ⟨HF.out.1, .inr hlv⟩)⟩
  ·have hltz : ¬ (i : Int) < (j : Int) := by omega
   obtain rfl : i = j := by omega
   clear hij hkx
   go_wp2
   go_loopg [13] (b - a) (fun kx s1 wr => ∃ (k : Nat) (dk : Array α), s1 = .int .i64 k /\ a <= k /\ k <= i - 1 /\ i - 1 - k <= kx /\ Aside (SW (fun x => Value.int .i64 (v x)) w0 blk off dk wr) /\ Aside (BU d a k a b dk))
   case atStart => exact ⟨a, d, rfl, Nat.le_refl _, by omega, by omega, S1, BU.start d a a b⟩
   case round =>
    clear S1
    obtain ⟨k, dk, rfl, hak, hki, hkx, S1, HB⟩ := hrel
    have hds : dk.size = len := (psz HB.out.pm).trans hl
    have zi : IntKind.i64.wrap ((i : Int) - 1) = (i : Int) - 1 := by rw [IntKind.wrap_i64]; omega
    by_cases hlk : k < i - 1
    ·have hlz : (k : Int) < (i : Int) - 1 := by omega
     go_wp2_with fail
     obtain ⟨iN3, hiN3⟩ : ∃ q, q = k := ⟨_, rfl⟩
     obtain ⟨jN3, hjN3⟩ : ∃ q, q = k + 1 := ⟨_, rfl⟩
     have ea3 : ((k : Int)).toNat = iN3 := by omega
     have pa3 : (0 : Int) <= (k : Int) := by omega
     have ba3 : (k : Int) < (len : Int) := by omega
     have ra3 : IntKind.i64.wrap ((k : Int)) = (k : Int) := by rw [IntKind.wrap_i64]; omega
     have ec3 : ((k : Int) + 1).toNat = jN3 := by omega
     have pc3 : (0 : Int) <= (k : Int) + 1 := by omega
     have bc3 : (k : Int) + 1 < (len : Int) := by omega
     have rc3 : IntKind.i64.wrap ((k : Int) + 1) = (k : Int) + 1 := by rw [IntKind.wrap_i64]; omega
     obtain ⟨x3, iI⟩ : ∃ x, x = dk[k]! := ⟨_, rfl⟩
     obtain ⟨y3, iJ⟩ : ∃ x, x = dk[k + 1]! := ⟨_, rfl⟩
     have S2 : Aside (SW (fun x => Value.int .i64 (v x)) w0 blk off (swp dk (k) (k + 1)) (((wr.setCell ⟨blk, off + iN3, none⟩ (Value.int .i64 (v y3))).setCell ⟨blk, off + jN3, none⟩ (Value.int .i64 (v x3))).drew)) := by rw [hiN3, hjN3, iI, iJ]; exact S1.out.swapped R (k) (k + 1) (by omega) (by omega)
     have c3a := S1.out.c1 R (by omega) (k) (by omega)
     have f3a := S1.out.f1 R (by omega) (k) (by omega)
     have c3b := S1.out.c1 R (by omega) (k + 1) (by omega)
     have f3b := S1.out.f1 R (by omega) (k + 1) (by omega)
     obtain ⟨u3, c3c⟩ := S1.out.c2 R (by omega) (k) (k + 1) (by omega) (by omega) (Value.int .i64 (v y3))
     rw [<- hjN3, <- hiN3] at c3c
     rw [<- iI, <- hiN3] at c3a
     rw [<- iJ, <- hjN3] at c3b
     rw [<- hiN3] at f3a
     rw [<- hjN3] at f3b
     clear S1 iI iJ hiN3 hjN3
     go_wp2_with fail
     go_big_region_o
     clear c3a c3b c3c f3a f3b
     generalize ((wr.setCell ⟨blk, off + iN3, none⟩ (Value.int .i64 (v y3))).setCell ⟨blk, off + jN3, none⟩ (Value.int .i64 (v x3))).drew = w2 at S2 ⊢
     clear ea3 ec3
     go_wp2
     go_roundg (i - 1 - (k + 1))
     case measure => omega
     case rel => exact ⟨k + 1, swp dk k (k + 1), by first | rfl | go_num | (congr 1; omega), by omega, by omega, Nat.le_refl _, S2, HB.out.step hak (Nat.le_refl _) (by omega) (by omega)⟩
    ·have hlz : ¬ (k : Int) < (i : Int) - 1 := by omega
     obtain rfl : k = i - 1 := by omega
     go_wp2
     ((try simp only [Exit.inBlock, Exit.then]); refine bodyPost_ret (results_none rfl _ _ _) rfl ?_)
     refine ⟨rfl, dk, S1.out, ?_⟩
     subst h1
     exact zJ2 HT.out (by omega) iO.out HCr.out hmi hjb HF.out.1 HF.out.2 HB.out
set_option maxHeartbeats 16000000 in
set_option maxRecDepth 1000000 in
theorem symLast (v : α -> Int) (cf : α -> α -> Int) (Rl : α -> α -> Prop) (hT : ∀ x y z, Rl x y -> Rl y z -> Rl x z) (g : Nat) (cb : Array Value) (blk off len cap a m b : Nat) (d0 d : Array α) (w0 w : World)
  (eg : ∀ args w, (callFunc g args).run Tryz.prog w = .ok (.enter g args) w) (hcmp : CmpLays1 Tryz.prog g cb (fun x => Value.int .i64 (v x)) cf blk off len w0)
  (R : Row1 (fun x => Value.int .i64 (v x)) w0 blk off d0) (hs : d0.size = len) (hl : d.size = len) (S : SW (fun x => Value.int .i64 (v x)) w0 blk off d w) (ham : a < m) (hmb : m < b) (hb : b <= len) (hsz : len < 1152921504606846976)
  (eO : Srt Rl a m d) (eP : Srt Rl m b d) (hC : CrsIn (ltOf cf) Rl a m b d) (h1 : m ≠ a + 1) (h2 : b = m + 1) :
  Calls Tryz.prog 119 #[.slice (some ⟨blk, off, none⟩) len cap, .int .i64 a, .int .i64 m, .int .i64 b, .func (.func g) #[] cb] w fun e w' => e = .returned (.tuple #[]) /\ ∃ d', SW (fun x => Value.int .i64 (v x)) w0 blk off d' w' /\ MG Rl a b d d' := by
 have mx := mixed
 have HC : Aside _ := hcmp
 have HCr : Aside _ := hC
 have HT : Aside _ := hT
 have iN : Aside _ := eO
 have iO : Aside _ := eP
 have S0 : Aside (SW (fun x => Value.int .i64 (v x)) w0 blk off d w) := S
 clear S hcmp hC hT eO eP
 have z1 : IntKind.i64.wrap ((m : Int) - (a : Int)) = (m : Int) - (a : Int) := by rw [IntKind.wrap_i64]; omega
 have z2 : ¬ (m : Int) - (a : Int) = 1 := by omega
 have z3 : IntKind.i64.wrap ((b : Int) - (m : Int)) = (b : Int) - (m : Int) := by rw [IntKind.wrap_i64]; omega
 have z4 : (b : Int) - (m : Int) = 1 := by omega
 go_enter Tryz.func119, Tryz.ntmps119
 go_wp2
 go_loopg [14, 15] (m - a) (fun kx s1 s2 wr => ∃ (i j : Nat), s1 = .int .i64 i /\ s2 = .int .i64 j /\ a <= i /\ i <= j /\ j <= m /\ j - i <= kx /\ Aside (SW (fun x => Value.int .i64 (v x)) w0 blk off d wr) /\ Aside ((i = a \/ ltOf cf d[m]! d[i - 1]! = false) /\ (j = m \/ ltOf cf d[m]! d[j]! = true)))
 case atStart => exact ⟨a, m, rfl, by first | rfl | (congr 1; omega), Nat.le_refl _, by omega, Nat.le_refl _, Nat.le_refl _, S0, ⟨.inl rfl, .inl rfl⟩⟩
 case round =>
  clear S0
  obtain ⟨i, j, rfl, rfl, hmi, hij, hjb, hkx, S1, HF⟩ := hrel
  by_cases hlt : i < j
  ·have hltz : (i : Int) < (j : Int) := by omega
   obtain ⟨h, hh⟩ : ∃ h, h = (i + j) / 2 := ⟨_, rfl⟩
   have zz : IntKind.i64.wrap ((i : Int) + (j : Int)) = (i : Int) + (j : Int) := by rw [IntKind.wrap_i64]; omega
   cases hlv : (ltOf cf) d[m]! d[h]! with
   | false =>
    go_wp2_with fail
    obtain ⟨iN1, hiN1⟩ : ∃ q, q = m := ⟨_, rfl⟩
    obtain ⟨jN1, hjN1⟩ : ∃ q, q = h := ⟨_, rfl⟩
    have ea1 : ((m : Int)).toNat = iN1 := by omega
    have pa1 : (0 : Int) <= (m : Int) := by omega
    have ba1 : (m : Int) < (len : Int) := by omega
    have ra1 : IntKind.i64.wrap ((m : Int)) = (m : Int) := by rw [IntKind.wrap_i64]; omega
    have ec1 : (((i : Int) + (j : Int)) / 2).toNat = jN1 := by omega
    have pc1 : (0 : Int) <= ((i : Int) + (j : Int)) / 2 := by omega
    have bc1 : ((i : Int) + (j : Int)) / 2 < (len : Int) := by omega
    have rc1 : IntKind.i64.wrap (((i : Int) + (j : Int)) / 2) = ((i : Int) + (j : Int)) / 2 := by rw [IntKind.wrap_i64]; omega
    obtain ⟨x1, eE⟩ : ∃ x, x = d[m]! := ⟨_, rfl⟩
    obtain ⟨y1, eJ⟩ : ∃ x, x = d[h]! := ⟨_, rfl⟩
    have l1a := S1.out.cl R (by omega) (m) (by omega)
    rw [<- eE, <- hiN1] at l1a
    have l1b := S1.out.cl R (by omega) (h) (by omega)
    rw [<- eJ, <- hjN1] at l1b
    have hc1 := S1.out.cmp HC.out (by omega) x1 y1
    have hv1 : ¬ cf x1 y1 < 0 := by rw [eE, eJ]; exact of_decide_eq_false hlv
    have hd1 : decide (cf x1 y1 < 0) = false := decide_eq_false hv1
    clear eE eJ hiN1 hjN1
    go_wp2_with fail
    go_quiet_grown (first | (go_at_fn g; refine Calls.grown_of (hc1 _ _)))
    have S2 : Aside (SW (fun x => Value.int .i64 (v x)) w0 blk off d (grow (wr.drewN nq) osq)) := S1.out.grown nq osq
    clear l1a l1b hc1 S1
    generalize grow (wr.drewN nq) osq = w2 at S2 ⊢
    clear nq osq
    clear ea1 ec1
    go_wp2
    go_roundg (j - (h + 1))
    case measure => omega
    case rel => exact ⟨h + 1, j, by first | rfl | (congr 1; omega), rfl, by omega, by omega, hjb, Nat.le_refl _, S2, (show Aside _ from ⟨.inr hlv, HF.out.2⟩)⟩
   | true =>
    go_wp2_with fail
    obtain ⟨iN2, hiN2⟩ : ∃ q, q = m := ⟨_, rfl⟩
    obtain ⟨jN2, hjN2⟩ : ∃ q, q = h := ⟨_, rfl⟩
    have ea2 : ((m : Int)).toNat = iN2 := by omega
    have pa2 : (0 : Int) <= (m : Int) := by omega
    have ba2 : (m : Int) < (len : Int) := by omega
    have ra2 : IntKind.i64.wrap ((m : Int)) = (m : Int) := by rw [IntKind.wrap_i64]; omega
    have ec2 : (((i : Int) + (j : Int)) / 2).toNat = jN2 := by omega
    have pc2 : (0 : Int) <= ((i : Int) + (j : Int)) / 2 := by omega
    have bc2 : ((i : Int) + (j : Int)) / 2 < (len : Int) := by omega
    have rc2 : IntKind.i64.wrap (((i : Int) + (j : Int)) / 2) = ((i : Int) + (j : Int)) / 2 := by rw [IntKind.wrap_i64]; omega
    obtain ⟨x2, eI⟩ : ∃ x, x = d[m]! := ⟨_, rfl⟩
    obtain ⟨y2, eR⟩ : ∃ x, x = d[h]! := ⟨_, rfl⟩
    have l2a := S1.out.cl R (by omega) (m) (by omega)
    rw [<- eI, <- hiN2] at l2a
    have l2b := S1.out.cl R (by omega) (h) (by omega)
    rw [<- eR, <- hjN2] at l2b
    have hc2 := S1.out.cmp HC.out (by omega) x2 y2
    have hv2 : cf x2 y2 < 0 := by rw [eI, eR]; exact of_decide_eq_true hlv
    have hd2 : decide (cf x2 y2 < 0) = true := decide_eq_true hv2
    clear eI eR hiN2 hjN2
    go_wp2_with fail
    go_quiet_grown (first | (go_at_fn g; refine Calls.grown_of (hc2 _ _)))
    have S2 : Aside (SW (fun x => Value.int .i64 (v x)) w0 blk off d (grow (wr.drewN nq) osq)) := S1.out.grown nq osq
    clear l2a l2b hc2 S1
    generalize grow (wr.drewN nq) osq = w2 at S2 ⊢
    clear nq osq
    clear ea2 ec2
    go_wp2
    go_roundg (h - i)
    case measure => omega
    case rel => exact ⟨i, h, rfl, by first | rfl | (congr 1; omega), hmi, by omega, by omega, Nat.le_refl _, S2, (show Aside _ from ⟨HF.out.1, .inr hlv⟩)⟩
  ·have hltz : ¬ (i : Int) < (j : Int) := by omega
   obtain rfl : i = j := by omega
   clear hij hkx
   go_wp2
   go_loopg [17] (b - a) (fun kx s1 wr => ∃ (k : Nat) (dk : Array α), s1 = .int .i64 k /\ i <= k /\ k <= m /\ k - i <= kx /\ Aside (SW (fun x => Value.int .i64 (v x)) w0 blk off dk wr) /\ Aside (BD d m k a b dk))
   case atStart => exact ⟨m, d, by first | rfl | (congr 1; omega), by omega, Nat.le_refl _, by omega, S1, BD.start d m a b⟩
   case round =>
    clear S1
    obtain ⟨k, dk, rfl, hak, hki, hkx, S1, HB⟩ := hrel
    have hds : dk.size = len := (psz HB.out.pm).trans hl
    by_cases hlk : i < k
    ·have hlz : (k : Int) > (i : Int) := by omega
     go_wp2_with fail
     obtain ⟨iN3, hiN3⟩ : ∃ q, q = k := ⟨_, rfl⟩
     obtain ⟨jN3, hjN3⟩ : ∃ q, q = k - 1 := ⟨_, rfl⟩
     have ea3 : ((k : Int)).toNat = iN3 := by omega
     have pa3 : (0 : Int) <= (k : Int) := by omega
     have ba3 : (k : Int) < (len : Int) := by omega
     have ra3 : IntKind.i64.wrap ((k : Int)) = (k : Int) := by rw [IntKind.wrap_i64]; omega
     have ec3 : ((k : Int) - 1).toNat = jN3 := by omega
     have pc3 : (0 : Int) <= (k : Int) - 1 := by omega
     have bc3 : (k : Int) - 1 < (len : Int) := by omega
     have rc3 : IntKind.i64.wrap ((k : Int) - 1) = (k : Int) - 1 := by rw [IntKind.wrap_i64]; omega
     obtain ⟨x3, iI⟩ : ∃ x, x = dk[k]! := ⟨_, rfl⟩
     obtain ⟨y3, iJ⟩ : ∃ x, x = dk[k - 1]! := ⟨_, rfl⟩
     have S2 : Aside (SW (fun x => Value.int .i64 (v x)) w0 blk off (swp dk (k) (k - 1)) (((wr.setCell ⟨blk, off + iN3, none⟩ (Value.int .i64 (v y3))).setCell ⟨blk, off + jN3, none⟩ (Value.int .i64 (v x3))).drew)) := by rw [hiN3, hjN3, iI, iJ]; exact S1.out.swapped R (k) (k - 1) (by omega) (by omega)
     have c3a := S1.out.c1 R (by omega) (k) (by omega)
     have f3a := S1.out.f1 R (by omega) (k) (by omega)
     have c3b := S1.out.c1 R (by omega) (k - 1) (by omega)
     have f3b := S1.out.f1 R (by omega) (k - 1) (by omega)
     obtain ⟨u3, c3c⟩ := S1.out.c2 R (by omega) (k) (k - 1) (by omega) (by omega) (Value.int .i64 (v y3))
     rw [<- hjN3, <- hiN3] at c3c
     rw [<- iI, <- hiN3] at c3a
     rw [<- iJ, <- hjN3] at c3b
     rw [<- hiN3] at f3a
     rw [<- hjN3] at f3b
     clear S1 iI iJ hiN3 hjN3
     go_wp2_with fail
     go_big_region_o
     clear c3a c3b c3c f3a f3b
     generalize ((wr.setCell ⟨blk, off + iN3, none⟩ (Value.int .i64 (v y3))).setCell ⟨blk, off + jN3, none⟩ (Value.int .i64 (v x3))).drew = w2 at S2 ⊢
     clear ea3 ec3
     go_wp2
     go_roundg (k - 1 - i)
     case measure => omega
     case rel => exact ⟨k - 1, swp dk k (k - 1), by first | rfl | go_num | (congr 1; omega), by omega, by omega, Nat.le_refl _, S2, HB.out.step hki (by omega) (by omega) (by omega)⟩
    ·have hlz : ¬ (k : Int) > (i : Int) := by omega
     obtain rfl : k = i := by omega
     go_wp2
     ((try simp only [Exit.inBlock, Exit.then]); refine bodyPost_ret (results_none rfl _ _ _) rfl ?_)
     refine ⟨rfl, dk, S1.out, ?_⟩
     have hb2 := HB.out
     subst h2
     exact zQs HT.out (by omega) iN.out HCr.out hmi hjb HF.out.1 HF.out.2 hb2
variable {α : Type} [Inhabited α]
set_option maxHeartbeats 16000000 in
set_option maxRecDepth 1000000 in
theorem symStep (v : α -> Int) (cf : α -> α -> Int) (Rl : α -> α -> Prop) (hT : ∀ x y z, Rl x y -> Rl y z -> Rl x z) (g : Nat) (cb : Array Value) (blk off len cap a m b : Nat) (d0 d : Array α) (w0 w : World)
  (eg : ∀ args w, (callFunc g args).run Tryz.prog w = .ok (.enter g args) w) (hcmp : CmpLays1 Tryz.prog g cb (fun x => Value.int .i64 (v x)) cf blk off len w0)
  (R : Row1 (fun x => Value.int .i64 (v x)) w0 blk off d0) (hs : d0.size = len) (hl : d.size = len) (S : SW (fun x => Value.int .i64 (v x)) w0 blk off d w) (ham : a < m) (hmb : m < b) (hb : b <= len) (hsz : len < 1152921504606846976)
  (eO : Srt Rl a m d) (eP : Srt Rl m b d) (hC : CrsIn (ltOf cf) Rl a m b d) (h1 : m ≠ a + 1) (h2 : b ≠ m + 1)
  (hIH : (∀ (a' m' b' : Nat) (d1 : Array α) (w1 : World), b' - a' < b - a -> d1.size = len -> SW (fun x => Value.int .i64 (v x)) w0 blk off d1 w1 -> a' < m' -> m' < b' -> b' <= len -> Srt Rl a' m' d1 -> Srt Rl m' b' d1 -> CrsIn (ltOf cf) Rl a' m' b' d1 ->
   Calls Tryz.prog 119 #[.slice (some ⟨blk, off, none⟩) len cap, .int .i64 a', .int .i64 m', .int .i64 b', .func (.func g) #[] cb] w1 fun e w' => e = .returned (.tuple #[]) /\ ∃ d', SW (fun x => Value.int .i64 (v x)) w0 blk off d' w' /\ MG Rl a' b' d1 d')) :
  Calls Tryz.prog 119 #[.slice (some ⟨blk, off, none⟩) len cap, .int .i64 a, .int .i64 m, .int .i64 b, .func (.func g) #[] cb] w fun e w' => e = .returned (.tuple #[]) /\ ∃ d', SW (fun x => Value.int .i64 (v x)) w0 blk off d' w' /\ MG Rl a b d d' := by
 have mx := mixed
 have HC : Aside _ := hcmp
 have HCr : Aside _ := hC
 have HT : Aside _ := hT
 have iN : Aside _ := eO
 have iO : Aside _ := eP
 have S0 : Aside (SW (fun x => Value.int .i64 (v x)) w0 blk off d w) := S
 clear S hcmp hC hT eO eP
 have HIH : Aside _ := hIH
 clear hIH
 obtain ⟨mid, hmid⟩ : ∃ mid, mid = (a + b) / 2 := ⟨_, rfl⟩
 obtain ⟨q1, q2, q3, q4, q5⟩ := s0_r0 ham hmb
 rw [<- hmid] at q4 q5
 have BB : (m > mid /\ s0 a m b = mid + m - b /\ r0 a m b = mid) \/ (m <= mid /\ s0 a m b = a /\ r0 a m b = m) := by
  unfold s0 r0; rw [<- hmid]; by_cases c : m > mid
  ·left; rw [if_pos c, if_pos c]; exact ⟨c, rfl, rfl⟩
  ·right; rw [if_neg c, if_neg c]; exact ⟨by omega, rfl, rfl⟩
 have z1 : IntKind.i64.wrap ((m : Int) - (a : Int)) = (m : Int) - (a : Int) := by rw [IntKind.wrap_i64]; omega
 have z2 : ¬ (m : Int) - (a : Int) = 1 := by omega
 have z3 : IntKind.i64.wrap ((b : Int) - (m : Int)) = (b : Int) - (m : Int) := by rw [IntKind.wrap_i64]; omega
 have z4 : ¬ (b : Int) - (m : Int) = 1 := by omega
 have z5 : IntKind.i64.wrap ((a : Int) + (b : Int)) = (a : Int) + (b : Int) := by rw [IntKind.wrap_i64]; omega
 obtain ⟨N, hN⟩ : ∃ N, N = mid + m := ⟨_, rfl⟩
 obtain ⟨p, hp⟩ : ∃ p, p = N - 1 := ⟨_, rfl⟩
 have z6 : ((a : Int) + (b : Int)) / 2 + (m : Int) = (N : Int) := by omega
 have z7 : IntKind.i64.wrap (N : Int) = (N : Int) := by rw [IntKind.wrap_i64]; omega
 have z8 : IntKind.i64.wrap ((N : Int) - (b : Int)) = (N : Int) - (b : Int) := by rw [IntKind.wrap_i64]; omega
 have z9 : (N : Int) - 1 = (p : Int) := by omega
 have z10 : IntKind.i64.wrap (p : Int) = (p : Int) := by rw [IntKind.wrap_i64]; omega
 have HN : Aside _ := hN
 have HP : Aside _ := hp
 have HM : Aside _ := hmid
 have HBB : Aside _ := BB
 clear hN hp BB hmid
 go_enter Tryz.func119, Tryz.ntmps119
 go_upto_region 27 with (fail)
 rename_i K1 a1 K0 a0
 have hA : ∀ (x5 x6 x7 x8 x9 e6 e7 e9 fA fB fC fD fE fF fG iY fH fI fJ fK fL fM fN fO fP fQ fR fS fT fU fV fW fX fY fZ f0 f2 f3 f4 f5 f6 f7 f8 f9 gA gB gD gE gF gG gH gI gJ gK gL gM gN gO gP gQ gR gS gT gU gV gW gX gY gZ g0 g4 g5 g6 g7 g8 g9 hE hF hI hJ hK hQ hU hV hX hY hZ iA iB iC iD aD aE aG aI aK aM aN aQ aT aU aV aW aX aY aZ a3 a4 a5 a6 a7 a8 a9 bA bB bC bD bE bF bG bH bI bJ bK bL bM bN bO bP bQ bR bS bT bU bV bW bX bY bZ b0 b1 b2 b3 b4 b5 b6 b7 b8 b9 cA cB cC cD cE cF cG cH cI cJ cK cL cM cN cO cP cQ cR cS cT cU cV cW cX cY cZ dA dB dC dD dE dF dG dH dI dJ dK dL dM dN dO dP dQ dR dS dT dU dV dW dX dY dZ d4 d5 d6 d7 d8 d9 eA eB eC eD vs vr : Value), vs = .int .i64 ((s0 a m b : Nat) : Int) -> vr = .int .i64 ((r0 a m b : Nat) : Int) -> K1 { tmps := #[Value.slice (some ⟨blk, off, none⟩) len cap, Value.int .i64 (a : Int), Value.int .i64 (m : Int), Value.int .i64 (b : Int), Value.func (Fn.func g) #[] cb, x5, x6, x7, x8, x9, e6, e7, e9, fA, fB, fC, fD, fE, Value.int .i64 (((a : Int) + (b : Int)) / 2), Value.int .i64 (N : Int), vs, vr, fF, fG, iY, fH, fI, fJ, fK, fL, fM, fN, fO, fP, fQ, fR, fS, fT, fU, fV, fW, fX, fY, fZ, f0, f2, f3, f4, f5, f6, f7, f8, f9, gA, gB, gD, gE, gF, gG, gH, gI, gJ, gK, gL, gM, gN, gO, gP, gQ, gR, gS, gT, gU, gV, gW, gX, gY, gZ, g0, g4, g5, g6, g7, g8, g9, hE, hF, hI, hJ, hK, hQ, hU, hV, hX, hY, hZ, iA, iB, iC, iD, aD, aE, aG, aI, aK, aM, aN, aQ, aT, aU, aV, aW, aX, aY, aZ, a3, a4, a5, a6, a7, a8, a9, bA, bB, bC, bD, bE, bF, bG, bH, bI, bJ, bK, bL, bM, bN, bO, bP, bQ, bR, bS, bT, bU, bV, bW, bX, bY, bZ, b0, b1, b2, b3, b4, b5, b6, b7, b8, b9, cA, cB, cC, cD, cE, cF, cG, cH, cI, cJ, cK, cL, cM, cN, cO, cP, cQ, cR, cS, cT, cU, cV, cW, cX, cY, cZ, dA, dB, dC, dD, dE, dF, dG, dH, dI, dJ, dK, dL, dM, dN, dO, dP, dQ, dR, dS, dT, dU, dV, dW, dX, dY, dZ, d4, d5, d6, d7, d8, d9, eA, eB, eC, eD], defers := [] } w := by
  intro x5 x6 x7 x8 x9 e6 e7 e9 fA fB fC fD fE fF fG iY fH fI fJ fK fL fM fN fO fP fQ fR fS fT fU fV fW fX fY fZ f0 f2 f3 f4 f5 f6 f7 f8 f9 gA gB gD gE gF gG gH gI gJ gK gL gM gN gO gP gQ gR gS gT gU gV gW gX gY gZ g0 g4 g5 g6 g7 g8 g9 hE hF hI hJ hK hQ hU hV hX hY hZ iA iB iC iD aD aE aG aI aK aM aN aQ aT aU aV aW aX aY aZ a3 a4 a5 a6 a7 a8 a9 bA bB bC bD bE bF bG bH bI bJ bK bL bM bN bO bP bQ bR bS bT bU bV bW bX bY bZ b0 b1 b2 b3 b4 b5 b6 b7 b8 b9 cA cB cC cD cE cF cG cH cI cJ cK cL cM cN cO cP cQ cR cS cT cU cV cW cX cY cZ dA dB dC dD dE dF dG dH dI dJ dK dL dM dN dO dP dQ dR dS dT dU dV dW dX dY dZ d4 d5 d6 d7 d8 d9 eA eB eC eD vs vr e1 e2
  refine a1 _ _ ?_
  subst e1 e2
  clear a1 a0
  go_wp2
  go_loopg [20, 21] (b - a) (fun kx s1 s2 wr => ∃ (i j : Nat), s1 = .int .i64 i /\ s2 = .int .i64 j /\ j - i <= kx /\ i <= j /\ j <= mid /\ Aside (SW (fun x => Value.int .i64 (v x)) w0 blk off d wr) /\ Aside (Cut (ltOf cf) a m b i j d))
  case atStart =>
   have hN := HN.out
   have BB := HBB.out
   have hmid := HM.out
   exact ⟨s0 a m b, r0 a m b, rfl, rfl, by omega, by omega, by omega, S0, Cut.start ham hmb⟩
  case round =>
   clear S0
   obtain ⟨i, j, rfl, rfl, hkx, hij, hjm, S1, HF⟩ := hrel
   by_cases hlt : i < j
   ·have hltz : (i : Int) < (j : Int) := by omega
    obtain ⟨h, hh⟩ : ∃ h, h = (i + j) / 2 := ⟨_, rfl⟩
    have g1 := HF.out.h1
    have zz : IntKind.i64.wrap ((i : Int) + (j : Int)) = (i : Int) + (j : Int) := by rw [IntKind.wrap_i64]; omega
    obtain ⟨pq, hq⟩ : ∃ pq, pq = p - h := ⟨_, rfl⟩
    have hN := HN.out
    have hp := HP.out
    have hmid := HM.out
    have ey : (a + b) / 2 + m - 1 - h = pq := by omega
    have zq : (p : Int) - ((i : Int) + (j : Int)) / 2 = (pq : Int) := by omega
    have hqi : pq < len := by omega
    have EY : Aside _ := ey
    clear ey hq hN hp hmid
    cases hlv : (ltOf cf) d[pq]! d[h]! with
    | false =>
     go_wp2_with fail
     obtain ⟨iN1, hiN1⟩ : ∃ q, q = pq := ⟨_, rfl⟩
     obtain ⟨jN1, hjN1⟩ : ∃ q, q = h := ⟨_, rfl⟩
     have ea1 : ((pq : Int)).toNat = iN1 := by omega
     have pa1 : (0 : Int) <= (pq : Int) := by omega
     have ba1 : (pq : Int) < (len : Int) := by omega
     have ra1 : IntKind.i64.wrap ((pq : Int)) = (pq : Int) := by rw [IntKind.wrap_i64]; omega
     have ec1 : (((i : Int) + (j : Int)) / 2).toNat = jN1 := by omega
     have pc1 : (0 : Int) <= ((i : Int) + (j : Int)) / 2 := by omega
     have bc1 : ((i : Int) + (j : Int)) / 2 < (len : Int) := by omega
     have rc1 : IntKind.i64.wrap (((i : Int) + (j : Int)) / 2) = ((i : Int) + (j : Int)) / 2 := by rw [IntKind.wrap_i64]; omega
     obtain ⟨x1, eE⟩ : ∃ x, x = d[pq]! := ⟨_, rfl⟩
     obtain ⟨y1, eJ⟩ : ∃ x, x = d[h]! := ⟨_, rfl⟩
     have l1a := S1.out.cl R (by omega) (pq) (by omega)
     rw [<- eE, <- hiN1] at l1a
     have l1b := S1.out.cl R (by omega) (h) (by omega)
     rw [<- eJ, <- hjN1] at l1b
     have hc1 := S1.out.cmp HC.out (by omega) x1 y1
     have hv1 : ¬ cf x1 y1 < 0 := by rw [eE, eJ]; exact of_decide_eq_false hlv
     have hd1 : decide (cf x1 y1 < 0) = false := decide_eq_false hv1
     clear eE eJ hiN1 hjN1
     go_wp2_with fail
     go_quiet_grown (first | (go_at_fn g; refine Calls.grown_of (hc1 _ _)))
     have S2 : Aside (SW (fun x => Value.int .i64 (v x)) w0 blk off d (grow (wr.drewN nq) osq)) := S1.out.grown nq osq
     clear l1a l1b hc1 S1
     generalize grow (wr.drewN nq) osq = w2 at S2 ⊢
     clear nq osq
     clear ea1 ec1
     go_wp2
     go_roundg (j - (h + 1))
     case measure => omega
     case rel => exact ⟨h + 1, j, by first | rfl | (congr 1; omega), rfl, Nat.le_refl _, by omega, hjm, S2, HF.out.up (c := h) (by omega) (by omega) (by rw [EY.out]; exact hlv)⟩
    | true =>
     go_wp2_with fail
     obtain ⟨iN2, hiN2⟩ : ∃ q, q = pq := ⟨_, rfl⟩
     obtain ⟨jN2, hjN2⟩ : ∃ q, q = h := ⟨_, rfl⟩
     have ea2 : ((pq : Int)).toNat = iN2 := by omega
     have pa2 : (0 : Int) <= (pq : Int) := by omega
     have ba2 : (pq : Int) < (len : Int) := by omega
     have ra2 : IntKind.i64.wrap ((pq : Int)) = (pq : Int) := by rw [IntKind.wrap_i64]; omega
     have ec2 : (((i : Int) + (j : Int)) / 2).toNat = jN2 := by omega
     have pc2 : (0 : Int) <= ((i : Int) + (j : Int)) / 2 := by omega
     have bc2 : ((i : Int) + (j : Int)) / 2 < (len : Int) := by omega
     have rc2 : IntKind.i64.wrap (((i : Int) + (j : Int)) / 2) = ((i : Int) + (j : Int)) / 2 := by rw [IntKind.wrap_i64]; omega
     obtain ⟨x2, eI⟩ : ∃ x, x = d[pq]! := ⟨_, rfl⟩
     obtain ⟨y2, eR⟩ : ∃ x, x = d[h]! := ⟨_, rfl⟩
     have l2a := S1.out.cl R (by omega) (pq) (by omega)
     rw [<- eI, <- hiN2] at l2a
     have l2b := S1.out.cl R (by omega) (h) (by omega)
     rw [<- eR, <- hjN2] at l2b
     have hc2 := S1.out.cmp HC.out (by omega) x2 y2
     have hv2 : cf x2 y2 < 0 := by rw [eI, eR]; exact of_decide_eq_true hlv
     have hd2 : decide (cf x2 y2 < 0) = true := decide_eq_true hv2
     clear eI eR hiN2 hjN2
     go_wp2_with fail
     go_quiet_grown (first | (go_at_fn g; refine Calls.grown_of (hc2 _ _)))
     have S2 : Aside (SW (fun x => Value.int .i64 (v x)) w0 blk off d (grow (wr.drewN nq) osq)) := S1.out.grown nq osq
     clear l2a l2b hc2 S1
     generalize grow (wr.drewN nq) osq = w2 at S2 ⊢
     clear nq osq
     clear ea2 ec2
     go_wp2
     go_roundg (h - i)
     case measure => omega
     case rel => exact ⟨i, h, rfl, by first | rfl | (congr 1; omega), Nat.le_refl _, by omega, by omega, S2, HF.out.dn (c := h) (by omega) (by omega) (by rw [EY.out]; exact hlv)⟩
   ·have hltz : ¬ (i : Int) < (j : Int) := by omega
    obtain rfl : i = j := by omega
    clear hij hkx
    have g1 := HF.out.h1
    have g3 := HF.out.h3
    obtain ⟨e, he⟩ : ∃ e, e = mid + m - i := ⟨_, rfl⟩
    have hN := HN.out
    have hmid := HM.out
    have ze : (N : Int) - (i : Int) = (e : Int) := by omega
    have zf : IntKind.i64.wrap (e : Int) = (e : Int) := by rw [IntKind.wrap_i64]; omega
    have hcut : Cut (ltOf cf) a m b i i d := HF.out
    have hH : ∀ d1, Rot d i m e d1 -> Halves (ltOf cf) Rl a i mid e b d1 := fun d1 h => by
     have := halves HT.out ham hmb (by omega) iN.out iO.out HCr.out hcut (dk := d1) (by rw [<- hmid, <- he]; exact h)
     rw [<- hmid, <- he] at this
     exact this
    have hRot : (i : Int) < (m : Int) -> (m : Int) < (e : Int) -> Calls Tryz.prog 120 #[.slice (some ⟨blk, off, none⟩) len cap, .int .i64 i, .int .i64 m, .int .i64 e, .func (.func g) #[] cb] wr fun e' w' => e' = .returned (.tuple #[]) /\ ∃ d', SW (fun x => Value.int .i64 (v x)) w0 blk off d' w' /\ Rot d i m e d' := fun h3 h4 => by
     have := rotate v g cb blk off len cap i m e d0 d w0 wr R hs hl S1.out (by omega) (by omega) (by omega) (by omega)
     exact this
    have hNRot : ¬ ((i : Int) < (m : Int) /\ (m : Int) < (e : Int)) -> Rot d i m e d := fun h3 => by
     by_cases c : i < m
     ·rw [show e = m by omega]; exact Rot.noRight d i m (by omega)
     ·obtain rfl : i = m := by omega
      exact Rot.noLeft d i e (by omega)
    have hsz1 : ∀ d1, Rot d i m e d1 -> d1.size = len := fun d1 h => (psz h.pm).trans hl
    have hL : (a : Int) < (i : Int) -> (i : Int) < ((a : Int) + (b : Int)) / 2 -> ∀ d1 w1, SW (fun x => Value.int .i64 (v x)) w0 blk off d1 w1 -> Rot d i m e d1 -> Calls Tryz.prog 119 #[.slice (some ⟨blk, off, none⟩) len cap, .int .i64 a, .int .i64 i, .int .i64 (((a : Int) + (b : Int)) / 2), .func (.func g) #[] cb] w1 fun e' w' => e' = .returned (.tuple #[]) /\ ∃ d', SW (fun x => Value.int .i64 (v x)) w0 blk off d' w' /\ MG Rl a mid d1 d' := fun h3 h4 d1 w1 hS h => by
     have hh := hH d1 h
     have := HIH.out a i mid d1 w1 (by omega) (hsz1 d1 h) hS (by omega) (by omega) (by omega) hh.l1 hh.l2 hh.l3
     rw [show ((mid : Nat) : Int) = ((a : Int) + (b : Int)) / 2 by omega] at this
     exact this
    have hRi : ((a : Int) + (b : Int)) / 2 < (e : Int) -> (e : Int) < (b : Int) -> ∀ d1 d2 w1, SW (fun x => Value.int .i64 (v x)) w0 blk off d2 w1 -> Rot d i m e d1 -> MG Rl a mid d1 d2 -> Calls Tryz.prog 119 #[.slice (some ⟨blk, off, none⟩) len cap, .int .i64 (((a : Int) + (b : Int)) / 2), .int .i64 e, .int .i64 b, .func (.func g) #[] cb] w1 fun e' w' => e' = .returned (.tuple #[]) /\ ∃ d', SW (fun x => Value.int .i64 (v x)) w0 blk off d' w' /\ MG Rl mid b d2 d' := fun h3 h4 d1 d2 w1 hS h hM => by
     obtain ⟨x1, x2, x3⟩ := (hH d1 h).right hM (by omega)
     have := HIH.out mid e b d2 w1 (by omega) ((psz hM.1).trans (hsz1 d1 h)) hS (by omega) (by omega) (by omega) x1 x2 x3
     rw [show ((mid : Nat) : Int) = ((a : Int) + (b : Int)) / 2 by omega] at this
     exact this
    have hNL : ¬ ((a : Int) < (i : Int) /\ (i : Int) < ((a : Int) + (b : Int)) / 2) -> ∀ d1, Rot d i m e d1 -> MG Rl a mid d1 d1 := fun h3 d1 h => (hH d1 h).noLeft (by omega) (by omega)
    have hNR : ¬ (((a : Int) + (b : Int)) / 2 < (e : Int) /\ (e : Int) < (b : Int)) -> ∀ d1 d2, Rot d i m e d1 -> MG Rl a mid d1 d2 -> MG Rl mid b d2 d2 := fun h3 d1 d2 h hM => (hH d1 h).noRight (by omega) (by omega) hM (by omega)
    have hEnd : ∀ d1 d2 d3 w1, SW (fun x => Value.int .i64 (v x)) w0 blk off d3 w1 -> Rot d i m e d1 -> MG Rl a mid d1 d2 -> MG Rl mid b d2 d3 -> ∃ d', SW (fun x => Value.int .i64 (v x)) w0 blk off d' w1 /\ MG Rl a b d d' := fun d1 d2 d3 w1 hS h hM hM2 =>
     ⟨d3, hS, (hH d1 h).done (by omega) (by omega) (by have := hsz1 d1 h; omega) (permIn_mono d d1 i e a b (by omega) (by omega) (by omega) h.pm) hM hM2⟩
    have AH : Aside _ := hRot
    have AL : Aside _ := hL
    have AR : Aside _ := hRi
    have ANL : Aside _ := hNL
    have ANR : Aside _ := hNR
    have AE : Aside _ := hEnd
    have ANo : Aside _ := hNRot
    have HE : Aside _ := he
    clear he hN hmid
    clear hH hRot hL hRi hNL hNR hEnd hNRot hsz1 hcut
    clear z1 z2 z3 z4 z5 z6 z7 z8 z9 z10 q1 q2 q3 q4 q5 g1 g3 hjm HF HCr iN iO HT HC HIH hs hl hsz R eg h1 h2 ham hmb hb
    have way : ∀ p q : Prop, (p /\ q) \/ (p /\ ¬ q) \/ ¬ p := fun p q => by
     by_cases c : p
     ·by_cases c2 : q
      ·exact .inl ⟨c, c2⟩
      ·exact .inr (.inl ⟨c, c2⟩)
     ·exact .inr (.inr c)
    go_upto_region 39 with (fail)
    rename_i aJ aH K2 aL KB aB K0 a0
    clear aJ aH aL
    have hB : ∀ (x5 x6 x7 x8 x9 e6 e7 e9 fA fB fC fD fE iR iS fF fG fH fI fJ fK fL fM fN fO fP fQ fR fS fT fU fV fW fX fY fZ f0 f2 f3 f4 f5 f6 f7 f8 f9 gA gB gD gE gF gG gH gI gJ gK gL gM gN gO gP gQ gR gS gT gU gV gW gX gY gZ g0 g4 g5 g6 g7 g8 g9 hE hF hI hJ hK hQ hU hV hX hY hZ iA iB iC iD aD aE aG aI aK aM aN aQ aT aU aV aW aX aY aZ a3 a4 a5 a6 a7 a8 a9 bA bB bC bD bE bF bG bH bI bJ bK bL bM bN bO bP bQ bR bS bT bU bV bW bX bY bZ b0 b1 b2 b3 b4 b5 b6 b7 b8 b9 cA cB cC cD cE cF cG cH cI cJ cK cL cM cN cO cP cQ cR cS cT cU cV cW cX cY cZ dA dB dC dD dE dF dG dH dI dJ dK dL dM dN dO dP dQ dR dS dT dU dV dW dX dY dZ d4 d5 d6 d7 d8 d9 eA eB eC eD : Value) (w1 : World) (d1 : Array α), Aside (SW (fun x => Value.int .i64 (v x)) w0 blk off d1 w1) -> Aside (Rot d i m e d1) -> KB { tmps := #[Value.slice (some ⟨blk, off, none⟩) len cap, Value.int .i64 (a : Int), Value.int .i64 (m : Int), Value.int .i64 (b : Int), Value.func (Fn.func g) #[] cb, x5, x6, x7, x8, x9, e6, e7, e9, fA, fB, fC, fD, fE, Value.int .i64 (((a : Int) + (b : Int)) / 2), iR, Value.int .i64 (i : Int), iS, fF, fG, Value.int .i64 (e : Int), fH, fI, fJ, fK, fL, fM, fN, fO, fP, fQ, fR, fS, fT, fU, fV, fW, fX, fY, fZ, f0, f2, f3, f4, f5, f6, f7, f8, f9, gA, gB, gD, gE, gF, gG, gH, gI, gJ, gK, gL, gM, gN, gO, gP, gQ, gR, gS, gT, gU, gV, gW, gX, gY, gZ, g0, g4, g5, g6, g7, g8, g9, hE, hF, hI, hJ, hK, hQ, hU, hV, hX, hY, hZ, iA, iB, iC, iD, aD, aE, aG, aI, aK, aM, aN, aQ, aT, aU, aV, aW, aX, aY, aZ, a3, a4, a5, a6, a7, a8, a9, bA, bB, bC, bD, bE, bF, bG, bH, bI, bJ, bK, bL, bM, bN, bO, bP, bQ, bR, bS, bT, bU, bV, bW, bX, bY, bZ, b0, b1, b2, b3, b4, b5, b6, b7, b8, b9, cA, cB, cC, cD, cE, cF, cG, cH, cI, cJ, cK, cL, cM, cN, cO, cP, cQ, cR, cS, cT, cU, cV, cW, cX, cY, cZ, dA, dB, dC, dD, dE, dF, dG, dH, dI, dJ, dK, dL, dM, dN, dO, dP, dQ, dR, dS, dT, dU, dV, dW, dX, dY, dZ, d4, d5, d6, d7, d8, d9, eA, eB, eC, eD], defers := [] } w1 := by
     intro x5 x6 x7 x8 x9 e6 e7 e9 fA fB fC fD fE iR iS fF fG fH fI fJ fK fL fM fN fO fP fQ fR fS fT fU fV fW fX fY fZ f0 f2 f3 f4 f5 f6 f7 f8 f9 gA gB gD gE gF gG gH gI gJ gK gL gM gN gO gP gQ gR gS gT gU gV gW gX gY gZ g0 g4 g5 g6 g7 g8 g9 hE hF hI hJ hK hQ hU hV hX hY hZ iA iB iC iD aD aE aG aI aK aM aN aQ aT aU aV aW aX aY aZ a3 a4 a5 a6 a7 a8 a9 bA bB bC bD bE bF bG bH bI bJ bK bL bM bN bO bP bQ bR bS bT bU bV bW bX bY bZ b0 b1 b2 b3 b4 b5 b6 b7 b8 b9 cA cB cC cD cE cF cG cH cI cJ cK cL cM cN cO cP cQ cR cS cT cU cV cW cX cY cZ dA dB dC dD dE dF dG dH dI dJ dK dL dM dN dO dP dQ dR dS dT dU dV dW dX dY dZ d4 d5 d6 d7 d8 d9 eA eB eC eD w1 d1 S2 HR
     refine aB _ _ ?_
     clear aB a0 S1
     go_upto_region 41 with (fail)
     rename_i KC aC K0 a0
     have hC : ∀ (x5 x6 x7 x8 x9 e6 e7 e9 fA fB fC fD fE iR iS fF fG fH fI fJ fK fL fM fN fO fP fQ fR fS fT fU fV fW fX fY fZ f0 f2 f3 f4 f5 f6 f7 f8 f9 gA gB gD gE gF gG gH gI gJ gK gL gM gN gO gP gQ gR gS gT gU gV gW gX gY gZ g0 g4 g5 g6 g7 g8 g9 hE hF hI hJ hK hQ hU hV hX hY hZ iA iB iC iD aD aE aG aI aK aM aN aQ aT aU aV aW aX aY aZ a3 a4 a5 a6 a7 a8 a9 bA bB bC bD bE bF bG bH bI bJ bK bL bM bN bO bP bQ bR bS bT bU bV bW bX bY bZ b0 b1 b2 b3 b4 b5 b6 b7 b8 b9 cA cB cC cD cE cF cG cH cI cJ cK cL cM cN cO cP cQ cR cS cT cU cV cW cX cY cZ dA dB dC dD dE dF dG dH dI dJ dK dL dM dN dO dP dQ dR dS dT dU dV dW dX dY dZ d4 d5 d6 d7 d8 d9 eA eB eC eD : Value) (w1 : World) (d2 : Array α), Aside (SW (fun x => Value.int .i64 (v x)) w0 blk off d2 w1) -> Aside (MG Rl a mid d1 d2) -> KC { tmps := #[Value.slice (some ⟨blk, off, none⟩) len cap, Value.int .i64 (a : Int), Value.int .i64 (m : Int), Value.int .i64 (b : Int), Value.func (Fn.func g) #[] cb, x5, x6, x7, x8, x9, e6, e7, e9, fA, fB, fC, fD, fE, Value.int .i64 (((a : Int) + (b : Int)) / 2), iR, Value.int .i64 (i : Int), iS, fF, fG, Value.int .i64 (e : Int), fH, fI, fJ, fK, fL, fM, fN, fO, fP, fQ, fR, fS, fT, fU, fV, fW, fX, fY, fZ, f0, f2, f3, f4, f5, f6, f7, f8, f9, gA, gB, gD, gE, gF, gG, gH, gI, gJ, gK, gL, gM, gN, gO, gP, gQ, gR, gS, gT, gU, gV, gW, gX, gY, gZ, g0, g4, g5, g6, g7, g8, g9, hE, hF, hI, hJ, hK, hQ, hU, hV, hX, hY, hZ, iA, iB, iC, iD, aD, aE, aG, aI, aK, aM, aN, aQ, aT, aU, aV, aW, aX, aY, aZ, a3, a4, a5, a6, a7, a8, a9, bA, bB, bC, bD, bE, bF, bG, bH, bI, bJ, bK, bL, bM, bN, bO, bP, bQ, bR, bS, bT, bU, bV, bW, bX, bY, bZ, b0, b1, b2, b3, b4, b5, b6, b7, b8, b9, cA, cB, cC, cD, cE, cF, cG, cH, cI, cJ, cK, cL, cM, cN, cO, cP, cQ, cR, cS, cT, cU, cV, cW, cX, cY, cZ, dA, dB, dC, dD, dE, dF, dG, dH, dI, dJ, dK, dL, dM, dN, dO, dP, dQ, dR, dS, dT, dU, dV, dW, dX, dY, dZ, d4, d5, d6, d7, d8, d9, eA, eB, eC, eD], defers := [] } w1 := by
      intro x5 x6 x7 x8 x9 e6 e7 e9 fA fB fC fD fE iR iS fF fG fH fI fJ fK fL fM fN fO fP fQ fR fS fT fU fV fW fX fY fZ f0 f2 f3 f4 f5 f6 f7 f8 f9 gA gB gD gE gF gG gH gI gJ gK gL gM gN gO gP gQ gR gS gT gU gV gW gX gY gZ g0 g4 g5 g6 g7 g8 g9 hE hF hI hJ hK hQ hU hV hX hY hZ iA iB iC iD aD aE aG aI aK aM aN aQ aT aU aV aW aX aY aZ a3 a4 a5 a6 a7 a8 a9 bA bB bC bD bE bF bG bH bI bJ bK bL bM bN bO bP bQ bR bS bT bU bV bW bX bY bZ b0 b1 b2 b3 b4 b5 b6 b7 b8 b9 cA cB cC cD cE cF cG cH cI cJ cK cL cM cN cO cP cQ cR cS cT cU cV cW cX cY cZ dA dB dC dD dE dF dG dH dI dJ dK dL dM dN dO dP dQ dR dS dT dU dV dW dX dY dZ d4 d5 d6 d7 d8 d9 eA eB eC eD w1 d2 S3 HL
      refine aC _ _ ?_
      clear aC a0 S2
      rcases way (((a : Int) + (b : Int)) / 2 < (e : Int)) ((e : Int) < (b : Int)) with ⟨c3, k3⟩ | ⟨c3, k3⟩ | c3
      ·go_wp2_with (go_at_call 119; refine (AR.out c3 k3 d1 d2 _ S3 HR HL).mono ?_; rintro _ w4 ⟨rfl, d3, S4, HQ⟩)
       go_end0
       exact ⟨rfl, AE.out d1 d2 d3 _ S4 HR HL HQ⟩
      ·have HQ := ANR.out (fun h => k3 h.2) d1 d2 HR HL
       go_wp2
       go_end0
       exact ⟨rfl, AE.out d1 d2 d2 _ S3 HR HL HQ⟩
      ·have HQ := ANR.out (fun h => c3 h.1) d1 d2 HR HL
       go_wp2
       go_end0
       exact ⟨rfl, AE.out d1 d2 d2 _ S3 HR HL HQ⟩
     clear aC
     rcases way ((a : Int) < (i : Int)) ((i : Int) < ((a : Int) + (b : Int)) / 2) with ⟨c2, k2⟩ | ⟨c2, k2⟩ | c2
     ·go_wp2_with (go_at_call 119; refine (AL.out c2 k2 d1 _ S2 HR).mono ?_; rintro _ w3 ⟨rfl, d2, S3, HL⟩)
      apply hC
      ·exact S3
      ·exact HL
     ·have HL := ANL.out (fun h => k2 h.2) d1 HR
      go_wp2
      apply hC
      ·exact S2
      ·exact HL
     ·have HL := ANL.out (fun h => c2 h.1) d1 HR
      go_wp2
      apply hC
      ·exact S2
      ·exact HL
    clear aB
    rcases way ((i : Int) < (m : Int)) ((m : Int) < (e : Int)) with ⟨c1, k1⟩ | ⟨c1, k1⟩ | c1
    ·go_wp2_with (go_at_call 120; refine (AH.out c1 k1).mono ?_; rintro _ w2 ⟨rfl, d1, S2, HR⟩)
     apply hB
     ·exact S2
     ·exact HR
    ·have HR := ANo.out (fun h => k1 h.2)
     go_wp2
     apply hB
     ·exact S1
     ·exact HR
    ·have HR := ANo.out (fun h => c1 h.1)
     go_wp2
     apply hB
     ·exact S1
     ·exact HR
 clear a1
 rcases Nat.lt_or_ge mid m with hm | hm
 ·have hmz : ((a : Int) + (b : Int)) / 2 < (m : Int) := by have := HM.out; omega
  go_wp2
  have hN := HN.out
  have BB := HBB.out
  apply hA
  ·congr 1; omega
  ·have hmid := HM.out
   congr 1; omega
 ·have hmz : ¬ ((a : Int) + (b : Int)) / 2 < (m : Int) := by have := HM.out; omega
  go_wp2
  have hN := HN.out
  have BB := HBB.out
  apply hA
  ·congr 1; omega
  ·congr 1; omega
variable {α : Type} [Inhabited α]
theorem symMerge (v : α -> Int) (cf : α -> α -> Int) (Rl : α -> α -> Prop) (hT : ∀ x y z, Rl x y -> Rl y z -> Rl x z) (g : Nat) (cb : Array Value) (blk off len cap : Nat) (d0 : Array α) (w0 : World)
  (eg : ∀ args w, (callFunc g args).run Tryz.prog w = .ok (.enter g args) w) (hcmp : CmpLays1 Tryz.prog g cb (fun x => Value.int .i64 (v x)) cf blk off len w0)
  (R : Row1 (fun x => Value.int .i64 (v x)) w0 blk off d0) (hs : d0.size = len) (hsz : len < 1152921504606846976) : ∀ (N a m b : Nat) (d : Array α) (w : World), b - a <= N -> d.size = len -> SW (fun x => Value.int .i64 (v x)) w0 blk off d w -> a < m -> m < b -> b <= len -> Srt Rl a m d -> Srt Rl m b d -> CrsIn (ltOf cf) Rl a m b d ->
   Calls Tryz.prog 119 #[.slice (some ⟨blk, off, none⟩) len cap, .int .i64 a, .int .i64 m, .int .i64 b, .func (.func g) #[] cb] w fun e w' => e = .returned (.tuple #[]) /\ ∃ d', SW (fun x => Value.int .i64 (v x)) w0 blk off d' w' /\ MG Rl a b d d' := by
 intro N
 induction N with
 | zero => intro a m b d w h1 h2 h3 h4 h5; omega
 | succ N ih =>
  intro a m b d w h1 h2 h3 h4 h5 h6 h7 h8 h9
  by_cases c1 : m = a + 1
  ·exact symOne v cf Rl hT g cb blk off len cap a m b d0 d w0 w eg hcmp R hs h2 h3 h4 h5 h6 hsz h7 h8 h9 c1
  by_cases c2 : b = m + 1
  ·exact symLast v cf Rl hT g cb blk off len cap a m b d0 d w0 w eg hcmp R hs h2 h3 h4 h5 h6 hsz h7 h8 h9 c1 c2
  exact symStep v cf Rl hT g cb blk off len cap a m b d0 d w0 w eg hcmp R hs h2 h3 h4 h5 h6 hsz h7 h8 h9 c1 c2 (fun a' m' b' d1 w1 k1 k2 k3 k4 k5 k6 k7 k8 k9 => ih a' m' b' d1 w1 (by omega) k2 k3 k4 k5 k6 k7 k8 k9)
set_option maxHeartbeats 16000000 in
set_option maxRecDepth 1000000 in
theorem stable (v : α -> Int) (cf : α -> α -> Int) (Rl : α -> α -> Prop) (hT : ∀ x y z, Rl x y -> Rl y z -> Rl x z) (g : Nat) (cb : Array Value) (blk off len cap : Nat) (d0 : Array α) (w0 : World)
  (eg : ∀ args w, (callFunc g args).run Tryz.prog w = .ok (.enter g args) w) (hcmp : CmpLays1 Tryz.prog g cb (fun x => Value.int .i64 (v x)) cf blk off len w0)
  (R : Row1 (fun x => Value.int .i64 (v x)) w0 blk off d0) (hs : d0.size = len) (hsz : len < 1152921504606846976) (d : Array α) (w : World) (hl : d.size = len) (S : SW (fun x => Value.int .i64 (v x)) w0 blk off d w) (hC : CrsAll (ltOf cf) Rl 0 len d) :
  Calls Tryz.prog 115 #[.slice (some ⟨blk, off, none⟩) len cap, .int .i64 len, .func (.func g) #[] cb] w fun e w' => e = .returned (.tuple #[]) /\ ∃ d', SW (fun x => Value.int .i64 (v x)) w0 blk off d' w' /\ MG Rl 0 len d d' := by
 have hIns : ∀ (a b : Nat) (d1 : Array α) (w1 : World), d1.size = len -> SW (fun x => Value.int .i64 (v x)) w0 blk off d1 w1 -> a <= b -> b <= len -> CrsAll (ltOf cf) Rl a b d1 ->
   Calls Tryz.prog 118 #[.slice (some ⟨blk, off, none⟩) len cap, .int .i64 a, .int .i64 b, .func (.func g) #[] cb] w1 fun e w' => e = .returned (.tuple #[]) /\ ∃ d', SW (fun x => Value.int .i64 (v x)) w0 blk off d' w' /\ MG Rl a b d1 d' := fun a b d1 w1 k1 k2 k3 k4 k5 =>
  insertion v cf Rl hT g cb blk off len cap a b d0 d1 w0 w1 eg hcmp R hs k1 k2 k3 k4 (by omega) k5
 have hMer : ∀ (a m b : Nat) (d1 : Array α) (w1 : World), d1.size = len -> SW (fun x => Value.int .i64 (v x)) w0 blk off d1 w1 -> a < m -> m < b -> b <= len -> Srt Rl a m d1 -> Srt Rl m b d1 -> CrsIn (ltOf cf) Rl a m b d1 ->
   Calls Tryz.prog 119 #[.slice (some ⟨blk, off, none⟩) len cap, .int .i64 a, .int .i64 m, .int .i64 b, .func (.func g) #[] cb] w1 fun e w' => e = .returned (.tuple #[]) /\ ∃ d', SW (fun x => Value.int .i64 (v x)) w0 blk off d' w' /\ MG Rl a b d1 d' := fun a m b d1 w1 =>
  symMerge v cf Rl hT g cb blk off len cap d0 w0 eg hcmp R hs hsz (b - a) a m b d1 w1 (Nat.le_refl _)
 have AI : Aside _ := hIns
 have AM : Aside _ := hMer
 have S0 : Aside (SW (fun x => Value.int .i64 (v x)) w0 blk off d w) := S
 have HC : Aside _ := hC
 clear hIns hMer S hC hcmp hT
 go_enter Tryz.func115, Tryz.ntmps115
 go_wp2
 go_loopg [7, 8] len (fun kx s1 s2 wr => ∃ (k a : Nat) (dk : Array α), s1 = .int .i64 a /\ s2 = .int .i64 (a + 20 : Nat) /\ Aside (a = k * 20) /\ a <= len /\ len - a <= kx /\ Aside (SW (fun x => Value.int .i64 (v x)) w0 blk off dk wr) /\ Aside (Blk1 (ltOf cf) Rl 20 len k d dk))
 case atStart => exact ⟨0, 0, d, rfl, rfl, (show Aside _ from rfl), by omega, by omega, S0, Blk1.start HC.out⟩
 case round =>
  clear S0
  obtain ⟨k, a, dk, rfl, rfl, hak, hal, hkx, S1, HB⟩ := hrel
  have hsk : dk.size = len := (psz HB.out.pm).trans hl
  have hr : CrsAll (ltOf cf) Rl a len dk := by rw [hak.out]; exact HB.out.rest
  by_cases hlt : a + 20 <= len
  ·have hltz : (a : Int) + 20 <= (len : Int) := by omega
   have hc := AI.out a (a + 20) dk wr hsk S1.out (by omega) hlt (fun i j h1 h2 h3 => hr i j h1 h2 (by omega))
   rw [show ((a + 20 : Nat) : Int) = (a : Int) + 20 by omega] at hc
   have z1 : IntKind.i64.wrap ((a : Int) + 20 + 20) = (a : Int) + 20 + 20 := by rw [IntKind.wrap_i64]; omega
   clear S1 hr
   go_wp2_with (go_at_call 118; refine hc.mono ?_; rintro e w2 ⟨rfl, d2, S2, HM⟩)
   go_roundg (len - (a + 20))
   case measure => omega
   case rel => exact ⟨k + 1, a + 20, d2, by first | rfl | (congr 1; omega), by first | rfl | (congr 1; omega), (show Aside _ from by show a + 20 = (k + 1) * 20; have := hak.out; omega), by omega, Nat.le_refl _, S2, HB.out.step (by omega) (by have := hak.out; omega) (by have := hak.out; rw [show k * 20 = a by omega, show (k + 1) * 20 = a + 20 by omega]; exact HM)⟩
  ·have hltz : ¬ (a : Int) + 20 <= (len : Int) := by omega
   have hc := AI.out a len dk wr hsk S1.out (by omega) (Nat.le_refl _) hr
   clear S1 hr
   go_wp2_with (go_at_call 118; refine hc.mono ?_; rintro e w2 ⟨rfl, d2, S2, HM⟩)
   have HB2 : Blk (ltOf cf) Rl 20 len d d2 := HB.out.done (by omega) (by have := hak.out; omega) (by have := hak.out; omega) (by have := hak.out; rw [show k * 20 = a by omega]; exact HM)
   have B2 : Aside _ := HB2
   have S3 : Aside _ := S2
   clear HB HB2 HM S2 hak hal hkx hltz hlt hc hsk
   go_loopg [6] len (fun kx s1 wr => ∃ (b : Nat) (dk : Array α), s1 = .int .i64 b /\ 20 <= b /\ (b < 2 * len \/ b = 20) /\ len - b <= kx /\ Aside (SW (fun x => Value.int .i64 (v x)) w0 blk off dk wr) /\ Aside (Blk (ltOf cf) Rl b len d dk))
   case atStart => exact ⟨20, d2, rfl, Nat.le_refl _, .inr rfl, by omega, S3, B2⟩
   case round =>
    clear S3 B2
    obtain ⟨b, dk, rfl, hb20, hb2, hkx, S1, HB⟩ := hrel
    by_cases hlt : b < len
    ·have hltz : (b : Int) < (len : Int) := by omega
     have z1 : IntKind.i64.wrap (2 * (b : Int)) = 2 * (b : Int) := by rw [IntKind.wrap_i64]; omega
     have z2 : IntKind.i64.wrap ((b : Int) * 2) = (b : Int) * 2 := by rw [IntKind.wrap_i64]; omega
     go_wp2
     go_loopg [7, 8] len (fun kx s1 s2 wr => ∃ (k a : Nat) (dj : Array α), s1 = .int .i64 a /\ s2 = .int .i64 (a + 2 * b : Nat) /\ Aside (a = k * (2 * b)) /\ a <= len /\ len - a <= kx /\ Aside (SW (fun x => Value.int .i64 (v x)) w0 blk off dj wr) /\ Aside (Mrg (ltOf cf) Rl b len k d dj))
     case atStart => exact ⟨0, 0, dk, rfl, by first | rfl | (congr 1; omega), (show Aside _ from by show 0 = 0 * (2 * b); omega), by omega, by omega, S1, Mrg.start HB.out⟩
     case round =>
      clear S1
      obtain ⟨k, a, dj, rfl, rfl, hak, hal, hkx2, S1, HM⟩ := hrel
      have hsj : dj.size = len := (psz HM.out.pm).trans hl
      have z3 : IntKind.i64.wrap ((a : Int) + (b : Int)) = (a : Int) + (b : Int) := by rw [IntKind.wrap_i64]; omega
      by_cases hlk : a + 2 * b <= len
      ·have hlz : (a : Int) + 2 * (b : Int) <= (len : Int) := by omega
       have z4 : IntKind.i64.wrap ((a : Int) + 2 * (b : Int) + 2 * (b : Int)) = (a : Int) + 2 * (b : Int) + 2 * (b : Int) := by rw [IntKind.wrap_i64]; omega
       have e1 : Srt Rl a (a + b) dj := by have := HM.out.left (by rw [<- hak.out]; omega); rw [<- hak.out] at this; exact this
       have e2 : Srt Rl (a + b) (a + 2 * b) dj := by have := HM.out.rightS (b := a + 2 * b) (by omega) (by rw [<- hak.out]; omega); rw [<- hak.out] at this; exact this
       have e3 : CrsIn (ltOf cf) Rl a (a + b) (a + 2 * b) dj := by have := HM.out.crs (b := a + 2 * b) (by omega); rw [<- hak.out] at this; exact this
       have hc := AM.out a (a + b) (a + 2 * b) dj wr hsj S1.out (by omega) (by omega) hlk e1 e2 e3
       rw [show ((a + b : Nat) : Int) = (a : Int) + (b : Int) by omega, show ((a + 2 * b : Nat) : Int) = (a : Int) + 2 * (b : Int) by omega] at hc
       clear S1 e1 e2 e3
       have hk1 : (k + 1) * (2 * b) = a + 2 * b := by rw [Nat.add_mul, <- hak.out]; omega
       have iM : Aside _ := hk1
       clear hk1
       go_wp2_with (go_at_call 119; refine hc.mono ?_; rintro e w2 ⟨rfl, d2, S2, HG⟩)
       go_roundg (len - (a + 2 * b))
       case measure => omega
       case rel => exact ⟨k + 1, a + 2 * b, d2, by first | rfl | (congr 1; omega), by first | rfl | (congr 1; omega), (show Aside _ from iM.out.symm), by omega, Nat.le_refl _, S2, HM.out.step (by omega) (by rw [iM.out]; exact hlk) (by rw [iM.out, <- hak.out]; exact HG)⟩
      ·have hlz : ¬ (a : Int) + 2 * (b : Int) <= (len : Int) := by omega
       have hk1 : (k + 1) * (2 * b) = a + 2 * b := by rw [Nat.add_mul, <- hak.out]; omega
       have iM : Aside _ := hk1
       clear hk1
       by_cases hm : a + b < len
       ·have hmz : (a : Int) + (b : Int) < (len : Int) := by omega
        have e1 : Srt Rl a (a + b) dj := by have := HM.out.left (by rw [<- hak.out]; omega); rw [<- hak.out] at this; exact this
        have e2 : Srt Rl (a + b) len dj := by have := HM.out.rightS (b := len) (by omega) (by rw [<- hak.out]; omega); rw [<- hak.out] at this; exact this
        have e3 : CrsIn (ltOf cf) Rl a (a + b) len dj := by have := HM.out.crs (b := len) (by omega); rw [<- hak.out] at this; exact this
        have hc := AM.out a (a + b) len dj wr hsj S1.out (by omega) (by omega) (Nat.le_refl _) e1 e2 e3
        rw [show ((a + b : Nat) : Int) = (a : Int) + (b : Int) by omega] at hc
        clear S1 e1 e2 e3
        go_wp2_with (go_at_call 119; refine hc.mono ?_; rintro e w2 ⟨rfl, d2, S2, HG⟩)
        go_roundg (len - 2 * b)
        case measure => omega
        case rel => exact ⟨2 * b, d2, by first | rfl | (congr 1; omega), by omega, by omega, by omega, S2, HM.out.done (by omega) (by rw [<- hak.out]; exact hal) (by rw [iM.out]; omega) (by rw [<- hak.out]; exact HG)⟩
       ·have hmz : ¬ (a : Int) + (b : Int) < (len : Int) := by omega
        go_wp2
        go_roundg (len - 2 * b)
        case measure => omega
        case rel => exact ⟨2 * b, dj, by first | rfl | (congr 1; omega), by omega, by omega, by omega, S1, HM.out.done (by omega) (by rw [<- hak.out]; exact hal) (by rw [iM.out]; omega) (HM.out.last (by rw [<- hak.out]; omega))⟩
    ·have hltz : ¬ (b : Int) < (len : Int) := by omega
     go_wp2
     go_end0
     exact ⟨rfl, dk, S1.out, HB.out.all (by omega)⟩
set_option maxHeartbeats 16000000 in
set_option maxRecDepth 1000000 in
theorem sortStable (v : α -> Int) (cf : α -> α -> Int) (Rl : α -> α -> Prop) (hT : ∀ x y z, Rl x y -> Rl y z -> Rl x z) (g : Nat) (cb : Array Value) (blk off len cap : Nat) (d0 : Array α) (w0 : World)
  (eg : ∀ args w, (callFunc g args).run Tryz.prog w = .ok (.enter g args) w) (hcmp : CmpLays1 Tryz.prog g cb (fun x => Value.int .i64 (v x)) cf blk off len w0)
  (R : Row1 (fun x => Value.int .i64 (v x)) w0 blk off d0) (hs : d0.size = len) (hsz : len < 1152921504606846976) (d : Array α) (w : World) (hl : d.size = len) (S : SW (fun x => Value.int .i64 (v x)) w0 blk off d w) (hC : CrsAll (ltOf cf) Rl 0 len d) :
  Calls Tryz.prog 103 #[.slice (some ⟨blk, off, none⟩) len cap, .func (.func g) #[] cb] w fun e w' => e = .returned (.tuple #[]) /\ ∃ d', SW (fun x => Value.int .i64 (v x)) w0 blk off d' w' /\ MG Rl 0 len d d' := by
 have HI := stable v cf Rl hT g cb blk off len cap d0 w0 eg hcmp R hs hsz d w hl S hC
 clear hT hcmp S hC
 go_enter Tryz.func103, Tryz.ntmps103
 go_wp2_with (go_at_call 115; refine HI.mono ?_; rintro e w2 ⟨rfl, d2, S2, HM⟩)
 go_end0
 exact ⟨rfl, d2, S2, HM⟩
end Go.Proofs.YtlhcohipnieidaaGreat.St
namespace Go.Proofs.YtlhcohipnieidaaGreat.P
open Go.RowKit W.PrintWords W.PrintLast W.PrintMore
attribute [local go_sem] qX8 qWa qWu qWv qXt qXu qX9 qWb
set_option linter.unusedVariables false
set_option linter.unusedSimpArgs false
def plR (l : List Int) (x y : Nat) : Prop := rd l y < rd l x \/ (rd l x = rd l y /\ x < y)
instance (l : List Int) (x y : Nat) : Decidable (plR l x y) := by unfold plR; infer_instance
def plIns (l : List Int) (x : Nat) : List Nat -> List Nat
 | [] => [x]
 | y :: r => if plR l x y then x :: y :: r else y :: plIns l x r
def plc (l : List Int) : List Nat := (List.range l.length).foldr (plIns l) []
theorem qK5 {l : List Int} {x y z : Nat} (h1 : plR l x y) (h2 : plR l y z) : plR l x z := by unfold plR at *; omega
theorem qJw {l : List Int} {x y : Nat} (h1 : plR l x y) (h2 : plR l y x) : False := by unfold plR at *; omega
theorem zWw {l : List Int} {x y : Nat} (h : x ≠ y) (h1 : ¬ plR l x y) : plR l y x := by unfold plR at *; omega
theorem qJv (l : List Int) (x : Nat) : ∀ L : List Nat, (plIns l x L).Perm (x :: L) := by
 intro L
 induction L with
 | nil => exact List.Perm.refl _
 | cons y r ih =>
  unfold plIns
  by_cases c : plR l x y
  ·rw [if_pos c]
  ·rw [if_neg c]; exact (List.Perm.cons y ih).trans (List.Perm.swap x y r)
theorem zQ0 (l : List Int) : ∀ L : List Nat, (L.foldr (plIns l) []).Perm L := by
 intro L
 induction L with
 | nil => exact List.Perm.refl _
 | cons x L ih => exact (qJv l x _).trans (List.Perm.cons x ih)
theorem qWr (l : List Int) : (plc l).Perm (List.range l.length) := zQ0 l _
theorem zKd (l : List Int) (x : Nat) : ∀ L : List Nat, x ∉ L -> L.Pairwise (plR l) -> (plIns l x L).Pairwise (plR l) := by
 intro L
 induction L with
 | nil => intro _ _; exact List.pairwise_singleton _ _
 | cons y r ih =>
  intro hx hp
  have hp2 := List.pairwise_cons.1 hp
  unfold plIns
  by_cases c : plR l x y
  ·rw [if_pos c]
   refine List.pairwise_cons.2 ⟨fun z hz => ?_, hp⟩
   rcases List.mem_cons.1 hz with e | e
   ·rw [e]; exact c
   ·exact qK5 c (hp2.1 z e)
  ·rw [if_neg c]
   refine List.pairwise_cons.2 ⟨fun z hz => ?_, ih (fun h => hx (List.mem_cons_of_mem _ h)) hp2.2⟩
   rcases List.mem_cons.1 ((qJv l x r).mem_iff.1 hz) with e | e
   ·rw [e]; exact zWw (fun e2 => hx (by rw [e2]; exact List.mem_cons_self ..)) c
   ·exact hp2.1 z e
theorem zJt (l : List Int) : ∀ L : List Nat, L.Nodup -> (L.foldr (plIns l) []).Pairwise (plR l) := by
 intro L
 induction L with
 | nil => intro _; exact List.Pairwise.nil
 | cons x L ih =>
  intro h
  have h2 := List.nodup_cons.1 h
  exact zKd l x _ (fun hx => h2.1 ((zQ0 l L).mem_iff.1 hx)) (ih h2.2)
theorem zK3 (l : List Int) : (plc l).Pairwise (plR l) := zJt l _ List.nodup_range
theorem zXd {l : List Int} {L : List Nat} (h1 : L.Perm (List.range l.length)) (h2 : L.Pairwise (plR l)) : L = plc l :=
 List.Perm.eq_of_pairwise (le := plR l) (fun a b _ _ h3 h4 => (qJw h3 h4).elim) h2 (zK3 l) (h1.trans (qWr l).symm)
section
open Go.Shelf Go.Sort
variable {α : Type} [Inhabited α]
theorem zQi {v : α -> Int} {g : Nat} {d : Array α} {W w' : World} (hS : SW (fun x => Value.int .i64 (v x)) W g 0 d w') {base : Nat} (hb : base <= g) (hg : g < W.heap.size) : RowKit.Below base W w' := by
 obtain ⟨m, os, rfl⟩ := hS
 unfold sortWorld putRow mapBlock grow Sort.ahead
 refine ⟨rfl, rfl, rfl, by simp, fun k hk => ?_⟩
 show ((W.heap.modify g _) ++ os)[k]? = _
 rw [Array.getElem?_append_left (by rw [Array.size_modify]; omega), Array.getElem?_modify, if_neg (by omega)]
theorem sw_own {v : α -> Int} {g : Nat} {d : Array α} {W w' : World} (hS : SW (fun x => Value.int .i64 (v x)) W g 0 d w') {base : Nat} (hb : base <= g) {cs : Array Value} (hG : W.heap[g]? = some (.cells cs 3 (0, 0))) (hn : cs.size = d.size) (hm : d.size <= maxLen) :
  w'.ownsRow base 3 1 (.slice (some ⟨g, 0, none⟩) d.size d.size) d.size (nums .i64 (d.toList.map v)) := by
 obtain ⟨m, os, rfl⟩ := hS
 have hg : g < W.heap.size := (Array.getElem?_eq_some_iff.1 hG).1
 refine ⟨by simp [nums], .inr ⟨g, d.size, putCells (fun x => Value.int .i64 (v x)) 0 d cs, rfl, hb, ?_, Nat.le_refl _, hm, by simp [putCells, hn], ?_⟩⟩
 ·unfold sortWorld putRow mapBlock grow Sort.ahead
  show ((W.heap.modify g _) ++ os)[g]? = _
  rw [Array.getElem?_append_left (by simpa using hg), Array.getElem?_modify, if_pos rfl, hG]
  rfl
 ·rw [List.take_of_length_le (by simp [putCells, hn])]
  apply List.ext_getElem
  ·simp [putCells, nums, hn]
  ·intro k h1 h2
   have hk : k < d.size := by simpa [putCells, hn] using h1
   simp only [putCells, Array.getElem_toList, Array.getElem_mapIdx, nums, List.getElem_map]
   rw [if_pos (by omega), Nat.sub_zero, getElem!_pos d k hk]
end
def plCmp (l : List Int) (x y : Nat) : Int := if rd l y < rd l x then -1 else if rd l y > rd l x then 1 else 0
theorem zYo {l : List Int} {x y : Nat} : plCmp l x y < 0 ↔ rd l y < rd l x := by
 unfold plCmp
 by_cases c : rd l y < rd l x
 ·rw [if_pos c]; exact ⟨fun _ => c, fun _ => by omega⟩
 ·rw [if_neg c]
  by_cases c2 : rd l y > rd l x
  ·rw [if_pos c2]; exact ⟨fun h => by omega, fun h => absurd h c⟩
  ·rw [if_neg c2]; exact ⟨fun h => by omega, fun h => absurd h c⟩
theorem zJs (l : List Int) (x y : Nat) : qXg.f (rd l y) (rd l x) = some (plCmp l x y) := by
 unfold qXg.f qZr.f plCmp
 rw [bne_self_eq_false, bne_self_eq_false]
 simp only [Option.bind_some, Bool.false_eq_true, if_false]
 split
 ·rfl
 ·split <;> rfl
set_option maxHeartbeats 8000000 in
set_option maxRecDepth 100000 in
theorem qWt.cmp (B : Nat) (A0 : Option Addr) (c0 : Nat) (l0 : List Int) (x y : Nat) (hx : x < l0.length) (hy : y < l0.length) (w : World) (hB : w.heap[B]? = some (.cells #[.slice A0 l0.length c0] 118 (0, 0))) (hC : Kd.C (Kd.int .u64) w A0 l0.length l0) :
  Calls Tryz.prog 104 #[.int .i64 x, .int .i64 y, .pointer (some ⟨B, 0, none⟩)] w fun e w' => e = .returned (.int .i64 (plCmp l0 x y)) /\ Drawn0 w w' := by
 obtain ⟨ad, ea, h1⟩ := Kd.qZ7 hC (x : Int) (by omega) (by omega)
 cases ea
 obtain ⟨i0, ea2, h2⟩ := Kd.qZ7 hC (y : Int) (by omega) (by omega)
 cases ea2
 have hq := zJs l0 x y
 simp only [Int.toNat_natCast] at h1 h2
 have b : w.cell? ⟨B, 0, none⟩ = some (.slice (some ad) l0.length c0) := (qQa hB 0).trans rfl
 have p1 : (0 : Int) <= x := by omega
 have p2 : (x : Int) < (l0.length : Int) := by omega
 have q1 : (0 : Int) <= y := by omega
 have q2 : (y : Int) < (l0.length : Int) := by omega
 obtain ⟨vx, hvx⟩ : ∃ v, rd l0 (x : Int) = v := ⟨_, rfl⟩
 obtain ⟨vy, hvy⟩ : ∃ v, rd l0 (y : Int) = v := ⟨_, rfl⟩
 obtain ⟨n, hn⟩ : ∃ n, l0.length = n := ⟨_, rfl⟩
 obtain ⟨r, hr⟩ : ∃ r, plCmp l0 x y = r := ⟨_, rfl⟩
 rw [hvx] at h1 hq
 rw [hvy] at h2 hq
 rw [hr] at hq ⊢
 rw [hn] at b p2 q2
 have HQ : Aside _ := hq
 clear hC hB hx hy hvx hvy hq hr hn
 go_enter Tryz.func104, Tryz.ntmps104
 go_wp2
 go_quiet (first | (go_at_call 105; refine Calls.quiet_of ((qXg.calls vy vx r _ HQ.out).mono (fun e w' ⟨h1, h2⟩ => ⟨h1, h2.out⟩))))
 go_wp2
 go_ret
 exact ⟨by first | rfl | (simp; done), dr⟩
open Go.Shelf Go.Sort in
theorem qWt.lays (B g : Nat) (A0 : Option Addr) (c0 : Nat) (l0 : List Int) (m : Nat) (hm : l0.length = m + 1) (w W0 : World) (hB : W0.heap[B]? = some (.cells #[.slice A0 l0.length c0] 118 (0, 0))) (hBg : B < g)
  (hC : Kd.C (Kd.int .u64) w A0 l0.length l0) (hL : RowKit.Below w.heap.size w W0) (hwg : w.heap.size <= g) (hg : g < W0.heap.size) :
  CmpLays1 Tryz.prog 104 #[.pointer (some ⟨B, 0, none⟩)] (fun x : Fin (m + 1) => Value.int .i64 ((x.val : Nat) : Int)) (fun x y => plCmp l0 x.val y.val) g 0 (m + 1) W0 := by
 intro q os dk hs x y
 have hS : SW (fun x : Fin (m + 1) => Value.int .i64 ((x.val : Nat) : Int)) W0 g 0 dk (sortWorld (fun x : Fin (m + 1) => Value.int .i64 ((x.val : Nat) : Int)) W0 g 0 q dk os) := ⟨q, os, rfl⟩
 have hb := zQi (base := g) hS (Nat.le_refl _) hg
 have hb2 := zQi (base := w.heap.size) hS hwg hg
 refine (qWt.cmp B A0 c0 l0 x.val y.val (by omega) (by omega) _ ((hb.block B hBg).trans hB) (Kd.qZp hC (hL.trans hb2))).mono ?_
 rintro e w' ⟨rfl, hD⟩
 obtain ⟨n, rfl⟩ := hD.out
 exact ⟨rfl, n, #[], by rw [grow_empty]⟩
def seqF (i n : Nat) : List Int := (List.range i).map (fun (j : Nat) => (j : Int)) ++ List.replicate (n - i) 0
theorem zKl {i n : Nat} (h : i < n) : (seqF i n).set i (i : Int) = seqF (i + 1) n := by
 unfold seqF
 rw [show n - i = (n - (i + 1)) + 1 by omega, List.replicate_succ, List.set_append_right _ _ (by simp), List.range_succ, List.map_append, List.append_assoc]
 simp
theorem zJ0 {j n : Nat} (h : j < n) : rd (seqF n n) (j : Int) = (j : Int) := by
 unfold seqF rd
 rw [Nat.sub_self, List.replicate_zero, List.append_nil, Int.toNat_natCast, List.getD_eq_getElem?_getD]
 simp [h]
theorem zW9 (n : Nat) : seqF 0 n = List.replicate n 0 := by simp [seqF]
theorem zZp (m j : Nat) (h : j < m + 1) : (Array.ofFn (fun i : Fin (m + 1) => i))[j]! = ⟨j, h⟩ := by
 rw [getElem!_pos _ j (by simpa using h)]; simp
theorem zWe {β : Type} {n : Nat} (x : Array β) (h : x.size = n) : x.extract 0 n = x := by subst h; exact Array.extract_size
open Go.Shelf Go.Sort in
theorem zZ0 {l0 : List Int} {m : Nat} (hm : l0.length = m + 1) {d : Array (Fin (m + 1))} (h : St.MG (fun x y : Fin (m + 1) => plR l0 x.val y.val) 0 (m + 1) (Array.ofFn (fun i : Fin (m + 1) => i)) d) : d.toList.map (fun x : Fin (m + 1) => ((x.val : Nat) : Int)) = (plc l0).map (fun (k : Nat) => (k : Int)) := by
 have hs : d.size = m + 1 := by have := h.1.1; simpa using this
 have hp : d.toList.Perm (Array.ofFn (fun i : Fin (m + 1) => i)).toList := by
  have := h.1.2.2
  rw [zWe d hs, zWe (Array.ofFn (fun i : Fin (m + 1) => i)) (by simp)] at this
  exact this
 have hL : d.toList.map (fun x : Fin (m + 1) => x.val) = plc l0 := by
  apply zXd
  ·refine (hp.map _).trans ?_
   rw [hm, Array.toList_ofFn]
   refine List.Perm.of_eq ?_
   apply List.ext_getElem
   ·simp
   ·intro k h1 h2; simp only [List.getElem_map, List.getElem_ofFn, List.getElem_range]
  ·rw [List.pairwise_map, List.pairwise_iff_getElem]
   intro i j hi hj hij
   have hi' : i < d.size := by simpa using hi
   have hj' : j < d.size := by simpa using hj
   have := h.2 i j (Nat.zero_le _) hij (by omega)
   rw [getElem!_pos d j hj', getElem!_pos d i hi'] at this
   simpa using this
 rw [<- hL, List.map_map]
 rfl
def qYe.f (k : Nat) (l0 : List Int) : Option (List Int) := if 1 <= l0.length /\ l0.length <= 1000000 then some ((plc l0).map (fun (k : Nat) => (k : Int))) else none
open Go.Shelf Go.Sort in
set_option maxRecDepth 100000 in
theorem qWt.sort (B g : Nat) (A0 : Option Addr) (c0 : Nat) (l0 : List Int) (n : Nat) (iP : 1 <= n) (iX : n <= 1000000) (hn : l0.length = n) (w W0 : World) (hB : W0.heap[B]? = some (.cells #[.slice A0 n c0] 118 (0, 0))) (hBg : B < g)
  (hC : Kd.C (Kd.int .u64) w A0 n l0) (hL : RowKit.Below w.heap.size w W0) (hwg : w.heap.size <= g)
  (hO : W0.ownsRow w.heap.size 3 1 (.slice (some ⟨g, 0, none⟩) n n) n (nums .i64 (seqF n n))) :
  Calls Tryz.prog 103 #[.slice (some ⟨g, 0, none⟩) n n, .func (.func 104) #[] #[.pointer (some ⟨B, 0, none⟩)]] W0 fun e w' => e = .returned (.tuple #[]) /\
   w'.ownsRow w.heap.size 3 1 (.slice (some ⟨g, 0, none⟩) n n) n (nums .i64 ((plc l0).map (fun (k : Nat) => (k : Int)))) /\ RowKit.Below w.heap.size w w' := by
 obtain ⟨m, rfl⟩ : ∃ m, n = m + 1 := ⟨n - 1, by omega⟩
 have hG : ∃ cs, W0.heap[g]? = some (.cells cs 3 (0, 0)) /\ cs.size = m + 1 := by
  rcases hO.2 with ⟨h, _⟩ | ⟨g', cap, cur, he, _, hh, _, _, hsz, _⟩
  ·cases h
  ·injection he with he h2 h3
   injection he with he
   injection he with he
   subst he
   exact ⟨cur, hh, by omega⟩
 obtain ⟨cs, hG, hcs⟩ := hG
 have hg : g < W0.heap.size := (Array.getElem?_eq_some_iff.1 hG).1
 have hds : (Array.ofFn (fun i : Fin (m + 1) => i)).size = m + 1 := by simp
 have hH : Holds (fun x : Fin (m + 1) => Value.int .i64 ((x.val : Nat) : Int)) W0 g 0 (Array.ofFn (fun i : Fin (m + 1) => i)) := by
  intro j hj
  have hj' : j < m + 1 := by omega
  have := zK1 hO (j : Int) (by omega) (by omega)
  rw [Int.toNat_natCast, zJ0 hj'] at this
  rw [zZp m j hj', Nat.zero_add]
  exact this
 have hR : Row1 (fun x : Fin (m + 1) => Value.int .i64 ((x.val : Nat) : Int)) W0 g 0 (Array.ofFn (fun i : Fin (m + 1) => i)) := ⟨fun x => rfl, hH, hg⟩
 refine (St.sortStable (fun x : Fin (m + 1) => ((x.val : Nat) : Int)) (fun x y => plCmp l0 x.val y.val) (fun x y => plR l0 x.val y.val) (fun x y z h1 h2 => qK5 h1 h2) _ _ g 0 (m + 1) (m + 1) (Array.ofFn (fun i : Fin (m + 1) => i)) W0 ?_
  (qWt.lays B g A0 c0 l0 m hn w W0 (by rw [hn]; exact hB) hBg (by rw [hn]; exact hC) hL hwg hg) hR hds (by omega) (Array.ofFn (fun i : Fin (m + 1) => i)) W0 hds (SW.start hH) ?_).mono ?_
 ·intro args w; rfl
 ·intro i j _ hij hj
  rw [zZp m i (by omega), zZp m j hj]
  unfold St.Crs ltOf
  constructor
  ·intro h
   have := zYo.1 (of_decide_eq_true h)
   unfold plR; left; exact this
  ·intro h
   have := fun h2 => (of_decide_eq_false h) (zYo.2 h2)
   unfold plR
   show rd l0 (j : Int) < rd l0 (i : Int) \/ (rd l0 (i : Int) = rd l0 (j : Int) /\ i < j)
   have h3 : ¬ rd l0 (i : Int) < rd l0 (j : Int) := this
   omega
 ·rintro e w' ⟨rfl, d, hS, hM⟩
  have hsd : d.size = m + 1 := by have := hM.1.1; rw [hds] at this; exact this
  have := sw_own hS hwg hG (by omega) (by simp only [maxLen]; omega)
  rw [zZ0 hn hM, hsd] at this
  exact ⟨rfl, this, hL.trans (zQi hS hwg hg)⟩
set_option maxHeartbeats 8000000 in
set_option maxRecDepth 100000 in
theorem qYe.calls (k : Nat) (A0 : Option Addr) (c0 : Nat) (l0 r1 : List Int) (w : World) (hr0 : Kd.C (Kd.int .u64) w A0 l0.length l0) (hc0 : l0.length <= c0) (h : qYe.f k l0 = some r1) :
  Calls Tryz.prog 84 #[.slice A0 l0.length c0] w fun e w' => ∃ v0_ : Value, e = .returned v0_ /\ Kd.R (Kd.int .i64) 3 w' w.heap.size (fun _ => True) v0_ r1 /\ Below w.heap.size w w' := by
 by_cases c : 1 <= l0.length /\ l0.length <= 1000000
 case neg => rw [qYe.f, if_neg c] at h; cases h
 rw [qYe.f, if_pos c] at h
 obtain rfl := (Option.some.inj h).symm
 clear h
 have HC := am hr0
 clear hr0
 obtain ⟨n, hn⟩ : ∃ n, l0.length = n := ⟨_, rfl⟩
 rw [hn] at HC c hc0 ⊢
 have iP := c.1
 have iX := c.2
 have HN := am hn
 clear c hn
 have hmf : ∀ (fn : Fn) (first cap : Array Value) (w : World), (Instr.makeFunc fn first cap).run Tryz.prog w = .ok (.func fn first cap) w := fun _ _ _ _ => rfl
 have hmk := zXe (P := Tryz.prog) 32 3 .i64 8 Tryz.underlying32 (by kernel_rfl) (by omega) n (by omega)
 go_enter Tryz.func84, Tryz.ntmps84
 go_upto_region 2 with (fail)
 obtain ⟨W, hW⟩ : ∃ W, W = (w.alloc (Obj.cells #[.slice A0 n c0] 118)).alloc (Obj.cells (madeCells #[.int .i64 0] n) 3) := ⟨_, rfl⟩
 have hB : W.heap[w.heap.size]? = some (.cells #[.slice A0 n c0] 118 (0, 0)) := by rw [hW]; exact qYq (qXs w _) _
 have hO : W.ownsRow w.heap.size 3 1 (.slice (some ⟨w.heap.size + 1, 0, none⟩) n n) n (nums .i64 (List.replicate n 0)) := by
  have := zKa (w.alloc (Obj.cells #[.slice A0 n c0] 118)) w.heap.size 3 .i64 n (by simp) (by omega)
  rw [hW]; simpa using this
 have hL : Below w.heap.size w W := by rw [hW]; exact ((Below.refl _ _).alloc (Nat.le_refl _) _).alloc (by simp) _
 try simp only [World.heap_size_alloc, World.size_alloc]
 rw [<- hW]
 clear hW
 have OO := am hO
 have BB := am hB
 have LL := am hL
 clear hO hB hL
 go_wp2
 go_loopg [10] n (fun kx s1 wr => ∃ (i : Nat), s1 = .int .i64 i /\ i <= n /\ n - i <= kx /\ Aside0 (wr.ownsRow w.heap.size 3 1 (.slice (some ⟨w.heap.size + 1, 0, none⟩) n n) n (nums .i64 (seqF i n))) /\
  Aside0 (wr.heap[w.heap.size]? = some (.cells #[.slice A0 n c0] 118 (0, 0))) /\ Aside0 (Below w.heap.size w wr))
 case atStart => exact ⟨0, rfl, by omega, by omega, by rw [zW9]; exact OO, BB, LL⟩
 case round =>
  clear OO BB LL
  obtain ⟨i, rfl, hin, hkx, OO, BB, LL⟩ := hrel
  by_cases hlt : i < n
  ·have hltz : (i : Int) < (n : Int) := by omega
   obtain ⟨hc, hf⟩ := zK1 OO.out (i : Int) (by omega) hltz
   obtain ⟨ho, hg⟩ := zWv OO.out (i : Int) (i : Int)
   rw [Int.toNat_natCast, zKl hlt] at ho
   rw [Int.toNat_natCast] at hg hc hf
   have O2 := am ho
   have B2 := am (qZ8 (p := ⟨w.heap.size + 1, i, none⟩) BB.out (by simp) (.int .i64 i))
   have L2 := am (LL.out.setCell (p := ⟨w.heap.size + 1, i, none⟩) (by simp) (.int .i64 i))
   have p1 : (0 : Int) <= (i : Int) := by omega
   clear ho hg
   go_wp2
   go_roundg (n - (i + 1))
   case measure => omega
   case rel => exact ⟨i + 1, by first | rfl | go_num, by omega, Nat.le_refl _, O2, B2, L2⟩
  ·have hltz : ¬ (i : Int) < (n : Int) := by omega
   obtain rfl : i = n := by omega
   have HS := qWt.sort w.heap.size (w.heap.size + 1) A0 c0 l0 i iP iX HN.out w wr BB.out (by omega) HC.out LL.out (by omega) OO.out
   clear OO BB LL
   go_wp2_with (go_at_call 103; refine HS.mono ?_; rintro e w1 ⟨rfl, hO, hL⟩)
   go_ret
   have hlen : ((plc l0).map (fun (k : Nat) => (k : Int))).length = i := by rw [List.length_map, (qWr l0).length_eq, List.length_range, HN.out]
   exact ⟨_, rfl, Kd.qJ5 (by rw [hlen]; exact hO) (fun _ _ => trivial), hL⟩
end Go.Proofs.YtlhcohipnieidaaGreat.P
