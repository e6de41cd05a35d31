/- Several texts as one (written by a program): what the walks and the plain laws come to, one behind the other. -/
import Derived.Test.YtlhcohipnieidaaGreatQa
import Derived.Test.YtlhcohipnieidaaGreatQe
namespace Go.Proofs.YtlhcohipnieidaaGreat.P
open Go.RowKit W.PrintWords W.PrintLast W.PrintMore
attribute [local go_sem] qX8 qWa qWu qWv qXt qXu qX9 qWb
set_option linter.unusedVariables false
set_option linter.unusedSimpArgs false
def qYf.f (k : Nat) (l0 : List Int) (a1 : Int) : Option (Int × Int) := (qZc.f k l0).bind fun lK => (if lK = true then (if a1 < 1 then (some (0, 1)) else (if a1 > 30 then (some (0, 1)) else (if 0 <= (wrap64 ((mn a1 (l0.length : Int)) - 1)) then (if (wrap64 ((mn a1 (l0.length : Int)) - 1)) < (l0.length : Int) then ((qQh.f k (rd l0 (wrap64 ((mn a1 (l0.length : Int)) - 1))) 3 2 1).bind fun dE => (some (dE.1, dE.2))) else (none)) else (none)))) else (some (0, 1)))
set_option maxHeartbeats 8000000 in
set_option maxRecDepth 100000 in
theorem qYf.calls (k : Nat) (A0 : Option Addr) (c0 : Nat) (l0 : List Int) (a1 r1 r2 : Int) (w : World) (hr0 : Kd.C (Kd.int .i64) w A0 l0.length l0) (hc0 : l0.length <= c0) (h : qYf.f k l0 a1 = some (r1, r2)) :
  Calls Tryz.prog 63 #[.slice A0 l0.length c0, .int .i64 a1] w fun e w' => e = .returned (.tuple #[.int .i64 r1, .int .i64 r2]) /\ Below w.heap.size w w' := by
 have g6 := am hr0
 have hR := am hc0
 clear hr0 hc0
 have HB := am (Below.refl w.heap.size w)
 have H := h
 unfold qYf.f at H
 clear h
 obtain ⟨lK, A3, H⟩ := bd H
 by_cases c4 : lK = true
 case neg =>
  replace c4 := Bool.eq_false_iff.mpr c4
  subst c4
  rw [if_neg (show ¬ (false = true) by decide)] at H
  simp only [Option.some.injEq, Prod.mk.injEq] at H
  obtain ⟨rfl, rfl⟩ := H
  go_enter Tryz.func63, Tryz.ntmps63
  go_wp2_with (first | ((with_reducible refine gf 31 ?_); refine gC (some 7) Tryz.func31 (qZc.calls _ _ _ _ false _ ?side1 ?side2 A3.out) ?_; (case side1 => exact cq (g6.out)); (case side2 => exact hR.out); rintro e w' ⟨rfl, ⟨nd, rfl⟩⟩; refine ⟨_, rfl, ?_⟩))
  go_ret2
  exact ⟨er, by exact h0q HB.out⟩
 subst c4
 rw [if_pos rfl] at H
 by_cases c5 : a1 < 1
 ·rw [if_pos c5] at H
  have dH := decide_eq_true c5
  clear c5
  simp only [Option.some.injEq, Prod.mk.injEq] at H
  obtain ⟨rfl, rfl⟩ := H
  go_enter Tryz.func63, Tryz.ntmps63
  go_wp2_with (first | ((with_reducible refine gf 31 ?_); refine gC (some 7) Tryz.func31 (qZc.calls _ _ _ _ true _ ?side1 ?side2 A3.out) ?_; (case side1 => exact cq (g6.out)); (case side2 => exact hR.out); rintro e w' ⟨rfl, ⟨nd, rfl⟩⟩; refine ⟨_, rfl, ?_⟩))
  go_ret2
  exact ⟨er, by exact h0q HB.out⟩
 rw [if_neg c5] at H
 have dH := decide_eq_false c5
 clear c5
 by_cases c6 : a1 > 30
 ·rw [if_pos c6] at H
  have cE : decide (30 < a1) = true := decide_eq_true c6
  clear c6
  simp only [Option.some.injEq, Prod.mk.injEq] at H
  obtain ⟨rfl, rfl⟩ := H
  go_enter Tryz.func63, Tryz.ntmps63
  go_wp2_with (first | ((with_reducible refine gf 31 ?_); refine gC (some 7) Tryz.func31 (qZc.calls _ _ _ _ true _ ?side1 ?side2 A3.out) ?_; (case side1 => exact cq (g6.out)); (case side2 => exact hR.out); rintro e w' ⟨rfl, ⟨nd, rfl⟩⟩; refine ⟨_, rfl, ?_⟩))
  go_ret2
  exact ⟨er, by exact h0q HB.out⟩
 rw [if_neg c6] at H
 have cE : decide (30 < a1) = false := decide_eq_false c6
 clear c6
 obtain ⟨l9, iO⟩ : ∃ j_ : Int, (mn a1 (l0.length : Int)) = j_ := ⟨_, rfl⟩
 replace H : (if 0 <= (wrap64 ((l9) - 1)) then (if (wrap64 ((l9) - 1)) < (l0.length : Int) then ((qQh.f k (rd l0 (wrap64 ((l9) - 1))) 3 2 1).bind fun dE => (some (dE.1, dE.2))) else (none)) else (none)) = some (r1, r2) := by first | (rw [iO] at H; exact H) | (simp only [iO] at H ⊢; exact H)
 (try rw [iO] at A3)
 have hji7_ : (if (l0.length : Int) < a1 then (l0.length : Int) else a1) = l9 := iO
 obtain ⟨jB, hD⟩ : ∃ j_ : Int, (wrap64 ((l9) - 1)) = j_ := ⟨_, rfl⟩
 replace H : (if 0 <= (jB) then (if (jB) < (l0.length : Int) then ((qQh.f k (rd l0 (jB)) 3 2 1).bind fun dE => (some (dE.1, dE.2))) else (none)) else (none)) = some (r1, r2) := by first | (rw [hD] at H; exact H) | (simp only [hD] at H ⊢; exact H)
 (try rw [hD] at A3)
 have hji8w : (IntKind.i64.wrap ((l9) - 1)) = jB := (i64_w _).trans hD
 by_cases c9 : 0 <= (jB)
 case neg =>
  rw [if_neg c9] at H
  exact absurd H (by simp)
 rw [if_pos c9] at H
 have jH := decide_eq_true c9
 clear c9
 by_cases nR : (jB) < (l0.length : Int)
 case neg =>
  rw [if_neg nR] at H
  exact absurd H (by simp)
 rw [if_pos nR] at H
 have rL := decide_eq_true nR
 clear nR
 obtain ⟨⟨qR, qS⟩, nQ, H⟩ := bd H
 simp only [Option.some.injEq, Prod.mk.injEq] at H
 obtain ⟨rfl, rfl⟩ := H
 go_enter Tryz.func63, Tryz.ntmps63
 go_wp2_with (first | ((with_reducible refine gf 31 ?_); refine gC (some 7) Tryz.func31 (qZc.calls _ _ _ _ true _ ?side1 ?side2 A3.out) ?_; (case side1 => exact cq (g6.out)); (case side2 => exact hR.out); rintro e w' ⟨rfl, ⟨nd, rfl⟩⟩; refine ⟨_, rfl, ?_⟩; have lC : 0 <= ((jB) : Int) := yd; have lF : (jB) < (l0.length : Int) := yd; obtain ⟨rK, pZ, pH⟩ := Kd.qZ7 g6.out (jB) lC lF; cases pZ; replace lC := eq_true lC; replace lF := eq_true lF) | ((with_reducible refine gf 43 ?_); refine goesL_ (some 25) rfl rfl Tryz.func43 (by kernel_rfl) rfl #[.int .i64 (rd l0 (jB)), .int .i64 3, .int .i64 2, .int .i64 1] rfl (by (try simp only [List.map_toArray, List.map_cons, List.map_nil]); first | done | (simp only [hD]; rfl) | rfl | (simp only [List.length_drop, List.length_take]; rfl)) ?_; (with_reducible refine (qQh.calls _ _ _ _ _ qR qS _ nQ.out).mono ?_); rintro e uP ⟨rfl, hb⟩; refine ⟨_, rfl, ?_⟩; replace HB := s0 HB hb; (try clear hb); (try clear hb2); (try clear hk); (try clear hi)))
 go_ret2
 exact ⟨by first | rfl | (simp [qQj, qQk] <;> rfl) | (simp only [<- iO, <- hD]; first | rfl | (simp [qQj, qQk] <;> rfl)) | (simp [*, qQj, qQk] <;> rfl), by exact h0q HB.out⟩
def qY0.f (k : Nat) (l0 : List Int) (a1 a2 : Int) : Option (Int × Int) := (qYf.f k l0 a1).bind fun j5 => (if j5.2 = 0 then (if a2 < 0 then (some (0, 1)) else (if a2 > 1000000000 then (some (0, 1)) else (some (mx 0 (wrap64 (a2 - j5.1)), 0)))) else (some (0, 1)))
set_option maxHeartbeats 8000000 in
set_option maxRecDepth 100000 in
theorem qY0.calls (k : Nat) (A0 : Option Addr) (c0 : Nat) (l0 : List Int) (a1 a2 r1 r2 : Int) (w : World) (hr0 : Kd.C (Kd.int .i64) w A0 l0.length l0) (hc0 : l0.length <= c0) (h : qY0.f k l0 a1 a2 = some (r1, r2)) :
  Calls Tryz.prog 42 #[.slice A0 l0.length c0, .int .i64 a1, .int .i64 a2] w fun e w' => e = .returned (.tuple #[.int .i64 r1, .int .i64 r2]) /\ Below w.heap.size w w' := by
 have g6 := am hr0
 have hR := am hc0
 clear hr0 hc0
 have HB := am (Below.refl w.heap.size w)
 have H := h
 unfold qY0.f at H
 clear h
 obtain ⟨⟨fX, i6⟩, A4, H⟩ := bd H
 by_cases c5 : i6 = 0
 case neg =>
  rw [if_neg c5] at H
  have dH := beq_eq_false_iff_ne.mpr c5
  have dX := bne_iff_ne.mpr c5
  simp only [Option.some.injEq, Prod.mk.injEq] at H
  obtain ⟨rfl, rfl⟩ := H
  go_enter Tryz.func42, Tryz.ntmps42
  go_wp2_with (first | ((with_reducible refine gf 63 ?_); refine gC (some 13) Tryz.func63 (qYf.calls _ _ _ _ _ fX i6 _ ?side1 ?side2 A4.out) ?_; (case side1 => exact cq (g6.out)); (case side2 => exact hR.out); rintro e uP ⟨rfl, hb⟩; refine ⟨_, rfl, ?_⟩; replace HB := s0 HB hb; (try clear hb); (try clear hb2); (try clear hk); (try clear hi)))
  go_ret2
  exact ⟨er, by exact h0q HB.out⟩
 rw [if_pos c5] at H
 have dH := beq_iff_eq.mpr c5
 have dX := bne_eq_false_iff_eq.mpr c5
 clear c5
 by_cases c6 : a2 < 0
 ·rw [if_pos c6] at H
  have cE := decide_eq_true c6
  clear c6
  simp only [Option.some.injEq, Prod.mk.injEq] at H
  obtain ⟨rfl, rfl⟩ := H
  go_enter Tryz.func42, Tryz.ntmps42
  go_wp2_with (first | ((with_reducible refine gf 63 ?_); refine gC (some 13) Tryz.func63 (qYf.calls _ _ _ _ _ fX i6 _ ?side1 ?side2 A4.out) ?_; (case side1 => exact cq (g6.out)); (case side2 => exact hR.out); rintro e w7 ⟨rfl, hb⟩; refine ⟨_, rfl, ?_⟩; replace HB := s0 HB hb; (try clear hb); (try clear hb2); (try clear hk); (try clear hi)))
  go_ret2
  exact ⟨er, by exact h0q HB.out⟩
 rw [if_neg c6] at H
 have cE := decide_eq_false c6
 clear c6
 by_cases c8 : a2 > 1000000000
 ·rw [if_pos c8] at H
  have hA : decide (1000000000 < a2) = true := decide_eq_true c8
  clear c8
  simp only [Option.some.injEq, Prod.mk.injEq] at H
  obtain ⟨rfl, rfl⟩ := H
  go_enter Tryz.func42, Tryz.ntmps42
  go_wp2_with (first | ((with_reducible refine gf 63 ?_); refine gC (some 13) Tryz.func63 (qYf.calls _ _ _ _ _ fX i6 _ ?side1 ?side2 A4.out) ?_; (case side1 => exact cq (g6.out)); (case side2 => exact hR.out); rintro e w9 ⟨rfl, hb⟩; refine ⟨_, rfl, ?_⟩; replace HB := s0 HB hb; (try clear hb); (try clear hb2); (try clear hk); (try clear hi)))
  go_ret2
  exact ⟨er, by exact h0q HB.out⟩
 rw [if_neg c8] at H
 have hA : decide (1000000000 < a2) = false := decide_eq_false c8
 clear c8
 obtain ⟨jO, d8⟩ : ∃ j_ : Int, (mx 0 (wrap64 (a2 - fX))) = j_ := ⟨_, rfl⟩
 replace H : (some (jO, 0)) = some (r1, r2) := by first | (rw [d8] at H; exact H) | (simp only [d8] at H ⊢; exact H)
 (try rw [d8] at A4)
 (try (have hji10l : 0 <= jO := by (rw [<- d8]; unfold mx; (repeat' split) <;> omega)))
 (try (have hji10m : 0 <= jO := by omega))
 have hji10_ : (if 0 < (wrap64 (a2 - fX)) then (wrap64 (a2 - fX)) else 0) = jO := d8
 simp only [Option.some.injEq, Prod.mk.injEq] at H
 obtain ⟨rfl, rfl⟩ := H
 go_enter Tryz.func42, Tryz.ntmps42
 go_wp2_with (first | ((with_reducible refine gf 63 ?_); refine gC (some 13) Tryz.func63 (qYf.calls _ _ _ _ _ fX i6 _ ?side1 ?side2 A4.out) ?_; (case side1 => exact cq (g6.out)); (case side2 => exact hR.out); rintro e uX ⟨rfl, hb⟩; refine ⟨_, rfl, ?_⟩; replace HB := s0 HB hb; (try clear hb); (try clear hb2); (try clear hk); (try clear hi)))
 go_ret2
 exact ⟨by first | rfl | (simp [qQj, qQk] <;> rfl) | (simp only [<- d8]; first | rfl | (simp [qQj, qQk] <;> rfl)) | (simp [*, qQj, qQk] <;> rfl), by exact h0q HB.out⟩
def qY8.f (k : Nat) (l0 : List Int) (a1 a2 : Int) : Option (Int × Int) := (qY0.f k l0 a1 a2).bind fun h8 => (if h8.2 = 0 then ((qQh.f k h8.1 1 120 2).bind fun j6 => (some (j6.1, j6.2))) else (some (0, h8.2)))
set_option maxHeartbeats 8000000 in
set_option maxRecDepth 100000 in
theorem qY8.calls (k : Nat) (A0 : Option Addr) (c0 : Nat) (l0 : List Int) (a1 a2 r1 r2 : Int) (w : World) (hr0 : Kd.C (Kd.int .i64) w A0 l0.length l0) (hc0 : l0.length <= c0) (h : qY8.f k l0 a1 a2 = some (r1, r2)) :
  Calls Tryz.prog 16 #[.slice A0 l0.length c0, .int .i64 a1, .int .i64 a2] w fun e w' => e = .returned (.tuple #[.int .i64 r1, .int .i64 r2]) /\ Below w.heap.size w w' := by
 have g6 := am hr0
 have hR := am hc0
 clear hr0 hc0
 have HB := am (Below.refl w.heap.size w)
 have H := h
 unfold qY8.f at H
 clear h
 obtain ⟨⟨nD, lL⟩, A4, H⟩ := bd H
 by_cases c5 : lL = 0
 case neg =>
  rw [if_neg c5] at H
  have dH := beq_eq_false_iff_ne.mpr c5
  have dX := bne_iff_ne.mpr c5
  simp only [Option.some.injEq, Prod.mk.injEq] at H
  obtain ⟨rfl, rfl⟩ := H
  go_enter Tryz.func16, Tryz.ntmps16
  go_wp2_with (first | ((with_reducible refine gf 42 ?_); refine gC (some 14) Tryz.func42 (qY0.calls _ _ _ _ _ _ nD lL _ ?side1 ?side2 A4.out) ?_; (case side1 => exact cq (g6.out)); (case side2 => exact hR.out); rintro e w9 ⟨rfl, hb⟩; refine ⟨_, rfl, ?_⟩; replace HB := s0 HB hb; (try clear hb); (try clear hb2); (try clear hk); (try clear hi)))
  go_ret2
  exact ⟨er, by exact h0q HB.out⟩
 rw [if_pos c5] at H
 have dH := beq_iff_eq.mpr c5
 have dX := bne_eq_false_iff_eq.mpr c5
 clear c5
 obtain ⟨⟨qT, qU⟩, A6, H⟩ := bd H
 simp only [Option.some.injEq, Prod.mk.injEq] at H
 obtain ⟨rfl, rfl⟩ := H
 go_enter Tryz.func16, Tryz.ntmps16
 go_wp2_with (first | ((with_reducible refine gf 42 ?_); refine gC (some 14) Tryz.func42 (qY0.calls _ _ _ _ _ _ nD lL _ ?side1 ?side2 A4.out) ?_; (case side1 => exact cq (g6.out)); (case side2 => exact hR.out); rintro e w7 ⟨rfl, hb⟩; refine ⟨_, rfl, ?_⟩; replace HB := s0 HB hb; (try clear hb); (try clear hb2); (try clear hk); (try clear hi)) | ((with_reducible refine gf 43 ?_); refine gC (some 21) Tryz.func43 (qQh.calls _ _ _ _ _ qT qU _ A6.out) ?_; rintro e w8 ⟨rfl, hb⟩; refine ⟨_, rfl, ?_⟩; replace HB := s0 HB hb; (try clear hb); (try clear hb2); (try clear hk); (try clear hi)))
 go_ret2
 exact ⟨er, by exact h0q HB.out⟩
def qZv.f (a0 : Int) : Option (Bool) := if a0 ≥ 0 then ((qQ6.f a0).bind fun lM => (some lM)) else (some false)
set_option maxHeartbeats 8000000 in
set_option maxRecDepth 100000 in
theorem qZv.calls (a0 : Int) (r : Bool) (w : World) (h : qZv.f a0 = some r) :
  Calls Tryz.prog 88 #[.int .i64 a0] w fun e w' => e = .returned (.bool r) /\ Drawn0 w w' := by
 have H := h
 unfold qZv.f at H
 clear h
 by_cases c2 : a0 ≥ 0
 case neg =>
  rw [if_neg c2] at H
  have kU : decide (0 <= a0) = false := decide_eq_false c2
  clear c2
  obtain rfl := Option.some.inj H
  go_enter Tryz.func88, Tryz.ntmps88
  go_wp2
  go_ret
  exact ⟨fr, dr⟩
 rw [if_pos c2] at H
 have kU : decide (0 <= a0) = true := decide_eq_true c2
 clear c2
 obtain ⟨lM, A3, H⟩ := bd H
 obtain rfl := Option.some.inj H
 go_enter Tryz.func88, Tryz.ntmps88
 go_wp2_with (first | (go_at_call 59; (with_reducible refine (qQ6.calls _ lM _ A3.out).mono ?_); rintro e w' ⟨rfl, ⟨nd, rfl⟩⟩))
 go_ret
 exact ⟨fr, dr⟩
-- NOT PRINTED: function 54 (qQf)
mutual
def qQf.j0 : Nat -> Int -> List Int -> Bool -> Option (List Int × Int)
 | 0, _, _, _ => none
 | k + 1, x0, x1, uT => if uT = true then (some (([] : List Int), 1)) else (qQf.l0 k x0 x1 0 0)
def qQf.l0 : Nat -> Int -> List Int -> Int -> Int -> Option (List Int × Int)
 | 0, _, _, _, _ => none
 | k + 1, x0, x1, x6, x7 => if x7 < (x1.length : Int) then (if 0 <= x7 then ((qZv.f (rd x1 x7)).bind fun lI => (if lI = true then ((qZv.f (wrap64 (x6 + (rd x1 x7)))).bind fun lJ => (if lJ = true then (qQf.l0 k x0 x1 (wrap64 (x6 + (rd x1 x7))) (wrap64 (x7 + 1))) else (some (([] : List Int), 1)))) else (some (([] : List Int), 1)))) else (none)) else (if x6 = 0 then (some (([] : List Int), 1)) else (qQf.l1 k x0 x1 x6 ([] : List Int) ([] : List Int) x0 0))
def qQf.l1 : Nat -> Int -> List Int -> Int -> List Int -> List Int -> Int -> Int -> Option (List Int × Int)
 | 0, _, _, _, _, _, _, _ => none
 | k + 1, x0, x1, x6, x8, x9, fZ, jR => if jR < (x1.length : Int) then (if 0 <= jR then ((qYx.f (IntKind.u64.wrap (x0)) (IntKind.u64.wrap (rd x1 jR))).bind fun j4 => ((qQw.f k j4.1 j4.2 (IntKind.u64.wrap (x6))).bind fun h7 => (if x8.length < 17592186044416 then (if x9.length < 17592186044416 then (qQf.l1 k x0 x1 x6 (x8 ++ [wrap64 (h7.1)]) (x9 ++ [h7.2.1]) (wrap64 (fZ - (wrap64 (h7.1)))) (wrap64 (jR + 1))) else (none)) else (none)))) else (none)) else (if 1000 <= 281474976710656 then (qQf.l2 k x8 x9 fZ (List.replicate 1000 false)) else (none))
def qQf.l2 : Nat -> List Int -> List Int -> Int -> List Bool -> Option (List Int × Int)
 | 0, _, _, _, _ => none
 | k + 1, x8, x9, fZ, jC => if fZ > 0 then (qQf.l3 k x8 x9 fZ jC (-1) 0) else (some (x8, 0))
def qQf.l3 : Nat -> List Int -> List Int -> Int -> List Bool -> Int -> Int -> Option (List Int × Int)
 | 0, _, _, _, _, _, _ => none
 | k + 1, x8, x9, fZ, jC, hM, hO => if hO < (x9.length : Int) then (if 0 <= hO then (if hO < (jC.length : Int) then (if rdOf false jC hO = true then (qQf.l3 k x8 x9 fZ jC hM (wrap64 (hO + 1))) else (if hM < 0 then (qQf.l3 k x8 x9 fZ jC hO (wrap64 (hO + 1))) else (if 0 <= hM then (if hM < (x9.length : Int) then (if (rd x9 hO) > (rd x9 hM) then (qQf.l3 k x8 x9 fZ jC hO (wrap64 (hO + 1))) else (qQf.l3 k x8 x9 fZ jC hM (wrap64 (hO + 1)))) else (none)) else (none)))) else (none)) else (none)) else (if hM < 0 then (some (x8, 0)) else (if 0 <= hM then (if hM < (jC.length : Int) then (if hM < (x8.length : Int) then (qQf.l2 k (x8.set (hM : Int).toNat (wrap64 ((rd x8 hM) + 1))) x9 (wrap64 (fZ - 1)) (jC.set (hM : Int).toNat true)) else (none)) else (none)) else (none)))
end
def qQf.f (k : Nat) (a0 : Int) (l1 : List Int) : Option (List Int × Int) := (qZv.f a0).bind fun lH => (if lH = true then (if (l1.length : Int) < 1 then (qQf.j0 k a0 l1 true) else (qQf.j0 k a0 l1 (decide ((l1.length : Int) > 1000)))) else (qQf.j0 k a0 l1 true))
theorem qQf.own_ {w : World} {g base m : Nat} {e : TypeId} (hb : base <= g) (h : w.heap[g]? = some (.cells (madeCells #[.bool false] m) e (0, 0))) (hm : m <= maxLen := by decide) :
  w.ownsRow base e 1 (.slice (some ⟨g, 0, none⟩) m m) m (encs Value.bool (List.replicate m false)) := by
 refine ⟨by simp [encs], .inr ⟨g, m, _, rfl, hb, h, Nat.le_refl _, hm, by simp [size_madeCells], ?_⟩⟩
 rw [List.take_of_length_le (by simp [size_madeCells])]
 apply List.ext_getElem
 ·simp [encs, madeCells]
 ·intro i h1 h2
  simp [encs, madeCells, Nat.mod_one]
theorem qQf.zi : Tryz.t128.zero.map (fun z => z.cells.toList) = some (List.replicate 1000 (.bool false)) := by kernel_rfl
theorem qQf.zm (m : Nat) : (madeCells #[Value.bool false] m).toList = List.replicate m (.bool false) := by
 apply List.ext_getElem
 ·simp [madeCells]
 ·intro i h1 h2; simp [madeCells, Nat.mod_one]
theorem qQf.zero_ (W : World) : Sem.run Tryz.prog (Instr.alloc 128 true (Value.tuple #[])) W = .ok (.pointer (some ⟨W.heap.size, 0, none⟩)) (W.alloc (.cells (madeCells #[.bool false] 1000) 128 (0, 0))) := by
 obtain ⟨z, hz, h⟩ := Option.map_eq_some_iff.1 qQf.zi
 have hc : z.cells = madeCells #[Value.bool false] 1000 := Array.toList_inj.1 (h.trans (qQf.zm 1000).symm)
 simp [Instr.alloc, zeroValue, newVar, newRow, hz, hc]
theorem qQf.alloc_ (W : World) {ev : Operand -> Value} {o : Oper} (ho : o.op = .alloc 128 := by rfl) : (execOp ev o).run Tryz.prog W = .ok (.value (.pointer (some ⟨W.heap.size, 0, none⟩))) (W.alloc (.cells (madeCells #[.bool false] 1000) 128 (0, 0))) := by
 simp [execOp, ho, qQf.zero_]
theorem qQf.R_ {w : World} {g base m : Nat} {e : TypeId} (hb : base <= g) (h : w.heap[g]? = some (.cells (madeCells #[.bool false] m) e (0, 0))) (hm : m <= maxLen := by decide) :
  Kd.R Kd.bool e w base (fun _ => True) (.slice (some ⟨g, 0, none⟩) m m) (List.replicate m false) :=
 Kd.qJ5 (by rw [List.length_replicate]; exact qQf.own_ hb h hm) (fun _ _ => trivial)
set_option maxHeartbeats 8000000 in
set_option maxRecDepth 100000 in
theorem qQf.calls (k : Nat) (a0 : Int) (A1 : Option Addr) (c1 : Nat) (l1 r1 : List Int) (r2 : Int) (w : World) (hr1 : Kd.C (Kd.int .i64) w A1 l1.length l1) (hc1 : l1.length <= c1) (h : qQf.f k a0 l1 = some (r1, r2)) :
  Calls Tryz.prog 54 #[.int .i64 a0, .slice A1 l1.length c1] w fun e w' => ∃ v0_ : Value, e = .returned (.tuple #[v0_, .int .i64 r2]) /\ Kd.R (Kd.int .i64) 2 w' w.heap.size (fun _ => True) v0_ r1 /\ Below w.heap.size w w' := by
 have sW := Tryz.underlying104
 have sY := Tryz.underlying128
 have sX := Tryz.underlying107
 have kP := am hr1
 have uU := am hc1
 clear hr1 hc1
 have HB := am (Below.refl w.heap.size w)
 have H := h
 unfold qQf.f at H
 clear h
 have hX := am H
 clear H
 go_enter Tryz.func54, Tryz.ntmps54
 go_upto_region 1 with (fail)
 go_cut [29] (fun uM wc => ∃ (kq : Nat) (g5 : Bool), uM = .bool g5 /\ Aside0 (qQf.j0 kq a0 l1 g5 = some (r1, r2)) /\ Aside0 (kq <= k) /\ Aside0 (Below w.heap.size w wc))
 case first =>
  have H := hX.out
  clear hX
  obtain ⟨lH, A4, H⟩ := bd H
  by_cases c5 : lH = true
  ·subst c5
   rw [if_pos rfl] at H
   by_cases c6 : (l1.length : Int) < 1
   ·rw [if_pos c6] at H
    have cE := decide_eq_true c6
    have e9 : decide (l1.length < 1) = true := decide_eq_true (by omega)
    clear c6
    (first | rw [cE] | (simp only [i64_w, i32_w]; rw [cE]) | skip)
    have H' := am H
    clear H
    go_wp2_with (first | (go_at_call 88; (with_reducible refine (qZv.calls _ true _ A4.out).mono ?_); rintro e w' ⟨rfl, ⟨nd, rfl⟩⟩; (try first | exact ⟨rfl, _, World.drewN_drewN _ _ _⟩ | exact ⟨rfl, _, Eq.trans (World.drewN_drewN _ _ _) (congrArg (World.drewN _) (Nat.add_assoc _ _ _))⟩)))
    go_meet
    case rel => exact ⟨_, (true), (by first | rfl | (simp [i64_w, i32_w, qQj, qQk]; done) | (simp; done) | (simp [*]; done)), H', o0, a0_ HB⟩
   ·rw [if_neg c6] at H
    have cE := decide_eq_false c6
    have e9 : decide (l1.length < 1) = false := decide_eq_false (by omega)
    clear c6
    (first | rw [cE] | (simp only [i64_w, i32_w]; rw [cE]) | skip)
    have H' := am H
    clear H
    go_wp2_with (first | (go_at_call 88; (with_reducible refine (qZv.calls _ true _ A4.out).mono ?_); rintro e w' ⟨rfl, ⟨nd, rfl⟩⟩; (try first | exact ⟨rfl, _, World.drewN_drewN _ _ _⟩ | exact ⟨rfl, _, Eq.trans (World.drewN_drewN _ _ _) (congrArg (World.drewN _) (Nat.add_assoc _ _ _))⟩)))
    go_meet
    case rel => exact ⟨_, (decide ((l1.length : Int) > 1000)), (by first | rfl | (simp [i64_w, i32_w, qQj, qQk]; done) | (simp; done) | (simp [*]; done)), H', o0, a0_ HB⟩
  ·replace c5 := Bool.eq_false_iff.mpr c5
   subst c5
   rw [if_neg (show ¬ (false = true) by decide)] at H
   have H' := am H
   clear H
   go_wp2_with (first | (go_at_call 88; (with_reducible refine (qZv.calls _ false _ A4.out).mono ?_); rintro e w' ⟨rfl, ⟨nd, rfl⟩⟩; (try first | exact ⟨rfl, _, World.drewN_drewN _ _ _⟩ | exact ⟨rfl, _, Eq.trans (World.drewN_drewN _ _ _) (congrArg (World.drewN _) (Nat.add_assoc _ _ _))⟩)))
   go_meet
   case rel => exact ⟨_, (true), (by first | rfl | (simp [i64_w, i32_w, qQj, qQk]; done) | (simp; done) | (simp [*]; done)), H', o0, a0_ HB⟩
 case rest =>
  clear hX
  try clear c1
  try clear p2
  try clear c5
  try clear c6
  try clear cE
  try clear e9
  obtain ⟨kq, g5, rfl, HA, fI, HB⟩ := hcut
  cases kq with
  | zero => exact absurd HA.out (by simp [qQf.j0])
  | succ pI =>
   have H := HA.out
   clear HA
   simp only [qQf.j0] at H
   by_cases c7 : g5 = true
   ·subst c7
    rw [if_pos rfl] at H
    simp only [Option.some.injEq, Prod.mk.injEq] at H
    obtain ⟨rfl, rfl⟩ := H
    go_wp2
    go_ret2
    exact ⟨_, by first | rfl | (simp [i64_w, i32_w, qQj, qQk]; done) | (simp [qQj, qQk] <;> rfl) | (simp [*, qQj, qQk] <;> rfl), by first | exact Kd.R_nil _ _ _ _ _ | exact Kd.N_nil _ _ _ _ _ | exact Kd.V_nil _ _ _ _ _ | exact Kd.Q_nil _ _ _ _ _ | exact Kd.S_nil _ _ _ _ _, by exact h0q HB.out⟩
   ·replace c7 := Bool.eq_false_iff.mpr c7
    subst c7
    rw [if_neg (show ¬ (false = true) by decide)] at H
    have H' := am H
    clear H
    go_wp2
    go_loopg [6, 7] pI (fun kq v6 v7 w' => ∃ (fG : Int) (bQ : Int), v6 = .int .i64 fG /\ v7 = .int .i64 bQ /\ Aside0 (qQf.l0 kq a0 l1 fG bQ = some (r1, r2)) /\ Aside0 (kq <= pI) /\ Aside0 (Below w.heap.size w w'))
    case atStart => exact ⟨(0), (0), (by first | rfl | (simp [i64_w, i32_w, qQj, qQk]; done) | (simp; done) | (simp [*]; done)), (by first | rfl | (simp [i64_w, i32_w, qQj, qQk]; done) | (simp; done) | (simp [*]; done)), H', ⟨Nat.le_refl _⟩, a0_ HB⟩
    case round =>
     clear H'
     try clear c1
     try clear p2
     try clear c5
     try clear c6
     try clear cE
     try clear e9
     try clear c7
     try clear p2
     obtain ⟨fG, bQ, rfl, rfl, HA, gA, HB⟩ := hrel
     cases gk with
     | zero => exact absurd HA.out (by simp [qQf.l0])
     | succ k2 =>
      have H := HA.out
      clear HA
      simp only [qQf.l0] at H
      by_cases c8 : bQ < (l1.length : Int)
      ·rw [if_pos c8] at H
       have hA := decide_eq_true c8
       clear c8
       by_cases c9 : 0 <= bQ
       ·rw [if_pos c9] at H
        have jH := decide_eq_true c9
        clear c9
        obtain ⟨lI, lX, H⟩ := bd H
        by_cases kQ : lI = true
        ·subst kQ
         rw [if_pos rfl] at H
         obtain ⟨lJ, q8, H⟩ := bd H
         by_cases kR : lJ = true
         ·subst kR
          rw [if_pos rfl] at H
          have H' := am H
          clear H
          have cU : 0 <= (bQ : Int) := yd
          have cV : bQ < (l1.length : Int) := yd
          obtain ⟨e5, iI, bI⟩ := Kd.qZ7 kP.out bQ cU cV
          cases iI
          replace bI := hxb HB.out bI
          replace cU := eq_true cU
          replace cV := eq_true cV
          go_wp2_with (first | (go_at_call 88; (with_reducible refine (qZv.calls _ true _ lX.out).mono ?_); rintro e w' ⟨rfl, ⟨nd, rfl⟩⟩; (try first | exact ⟨rfl, _, World.drewN_drewN _ _ _⟩ | exact ⟨rfl, _, Eq.trans (World.drewN_drewN _ _ _) (congrArg (World.drewN _) (Nat.add_assoc _ _ _))⟩); have dZ : 0 <= (bQ : Int) := yd; have d0 : bQ < (l1.length : Int) := yd; obtain ⟨h4, kZ, bY⟩ := Kd.qZ7 kP.out bQ dZ d0; obtain rfl : e5 = h4 := (by injection kZ); replace bY := hxb HB.out bY; replace dZ := eq_true dZ; replace d0 := eq_true d0) | (go_at_call 88; (with_reducible refine (qZv.calls _ true _ q8.out).mono ?_); rintro e w' ⟨rfl, ⟨nd, rfl⟩⟩; (try first | exact ⟨rfl, _, World.drewN_drewN _ _ _⟩ | exact ⟨rfl, _, Eq.trans (World.drewN_drewN _ _ _) (congrArg (World.drewN _) (Nat.add_assoc _ _ _))⟩); have hH : 0 <= (bQ : Int) := yd; have hI : bQ < (l1.length : Int) := yd; obtain ⟨mW, pW, cS⟩ := Kd.qZ7 kP.out bQ hH hI; obtain rfl : e5 = mW := (by injection pW); replace cS := hxb HB.out cS; replace hH := eq_true hH; replace hI := eq_true hI))
          go_roundg k2
          case measure => have := fI.out; have := gA.out; omega
          case rel => exact ⟨(wrap64 (fG + (rd l1 bQ))), (wrap64 (bQ + 1)), (by first | rfl | (simp [i64_w, i32_w, qQj, qQk]; done) | (simp; done) | (simp [*]; done)), (by first | rfl | (simp [i64_w, i32_w, qQj, qQk]; done) | (simp; done) | (simp [*]; done)), H', o2 fI gA, a0_ HB⟩
         ·replace kR := Bool.eq_false_iff.mpr kR
          subst kR
          rw [if_neg (show ¬ (false = true) by decide)] at H
          simp only [Option.some.injEq, Prod.mk.injEq] at H
          obtain ⟨rfl, rfl⟩ := H
          have cU : 0 <= (bQ : Int) := yd
          have cV : bQ < (l1.length : Int) := yd
          obtain ⟨e5, iI, bI⟩ := Kd.qZ7 kP.out bQ cU cV
          cases iI
          replace bI := hxb HB.out bI
          replace cU := eq_true cU
          replace cV := eq_true cV
          go_wp2_with (first | (go_at_call 88; (with_reducible refine (qZv.calls _ true _ lX.out).mono ?_); rintro e w' ⟨rfl, ⟨nd, rfl⟩⟩; (try first | exact ⟨rfl, _, World.drewN_drewN _ _ _⟩ | exact ⟨rfl, _, Eq.trans (World.drewN_drewN _ _ _) (congrArg (World.drewN _) (Nat.add_assoc _ _ _))⟩); have dZ : 0 <= (bQ : Int) := yd; have d0 : bQ < (l1.length : Int) := yd; obtain ⟨h4, kZ, bY⟩ := Kd.qZ7 kP.out bQ dZ d0; obtain rfl : e5 = h4 := (by injection kZ); replace bY := hxb HB.out bY; replace dZ := eq_true dZ; replace d0 := eq_true d0) | (go_at_call 88; (with_reducible refine (qZv.calls _ false _ q8.out).mono ?_); rintro e w' ⟨rfl, ⟨nd, rfl⟩⟩; (try first | exact ⟨rfl, _, World.drewN_drewN _ _ _⟩ | exact ⟨rfl, _, Eq.trans (World.drewN_drewN _ _ _) (congrArg (World.drewN _) (Nat.add_assoc _ _ _))⟩)))
          go_ret2
          exact ⟨_, by first | rfl | (simp [i64_w, i32_w, qQj, qQk]; done) | (simp [qQj, qQk] <;> rfl) | (simp [*, qQj, qQk] <;> rfl), by first | exact Kd.R_nil _ _ _ _ _ | exact Kd.N_nil _ _ _ _ _ | exact Kd.V_nil _ _ _ _ _ | exact Kd.Q_nil _ _ _ _ _ | exact Kd.S_nil _ _ _ _ _, by exact h0q HB.out⟩
        ·replace kQ := Bool.eq_false_iff.mpr kQ
         subst kQ
         rw [if_neg (show ¬ (false = true) by decide)] at H
         simp only [Option.some.injEq, Prod.mk.injEq] at H
         obtain ⟨rfl, rfl⟩ := H
         have cU : 0 <= (bQ : Int) := yd
         have cV : bQ < (l1.length : Int) := yd
         obtain ⟨e5, iI, bI⟩ := Kd.qZ7 kP.out bQ cU cV
         cases iI
         replace bI := hxb HB.out bI
         replace cU := eq_true cU
         replace cV := eq_true cV
         go_wp2_with (first | (go_at_call 88; (with_reducible refine (qZv.calls _ false _ lX.out).mono ?_); rintro e w' ⟨rfl, ⟨nd, rfl⟩⟩; (try first | exact ⟨rfl, _, World.drewN_drewN _ _ _⟩ | exact ⟨rfl, _, Eq.trans (World.drewN_drewN _ _ _) (congrArg (World.drewN _) (Nat.add_assoc _ _ _))⟩)))
         go_ret2
         exact ⟨_, by first | rfl | (simp [i64_w, i32_w, qQj, qQk]; done) | (simp [qQj, qQk] <;> rfl) | (simp [*, qQj, qQk] <;> rfl), by first | exact Kd.R_nil _ _ _ _ _ | exact Kd.N_nil _ _ _ _ _ | exact Kd.V_nil _ _ _ _ _ | exact Kd.Q_nil _ _ _ _ _ | exact Kd.S_nil _ _ _ _ _, by exact h0q HB.out⟩
       ·rw [if_neg c9] at H
        exact absurd H (by simp)
      ·rw [if_neg c8] at H
       have hA := decide_eq_false c8
       clear c8
       by_cases jA : fG = 0
       ·rw [if_pos jA] at H
        have gE := beq_iff_eq.mpr jA
        have gF := bne_eq_false_iff_eq.mpr jA
        clear jA
        simp only [Option.some.injEq, Prod.mk.injEq] at H
        obtain ⟨rfl, rfl⟩ := H
        go_wp2
        go_ret2
        exact ⟨_, by first | rfl | (simp [i64_w, i32_w, qQj, qQk]; done) | (simp [qQj, qQk] <;> rfl) | (simp [*, qQj, qQk] <;> rfl), by first | exact Kd.R_nil _ _ _ _ _ | exact Kd.N_nil _ _ _ _ _ | exact Kd.V_nil _ _ _ _ _ | exact Kd.Q_nil _ _ _ _ _ | exact Kd.S_nil _ _ _ _ _, by exact h0q HB.out⟩
       ·rw [if_neg jA] at H
        have gE := beq_eq_false_iff_ne.mpr jA
        have gF := bne_iff_ne.mpr jA
        have H' := am H
        clear H
        go_wp2
        go_loopg [8, 9, 10, 11] k2 (fun kq v8 v9 nI qX w' => ∃ (fH : List Int) (bC : List Int) (dG : Int) (cA : Int), nI = .int .i64 dG /\ qX = .int .i64 cA /\ Aside0 (qQf.l1 kq a0 l1 fG fH bC dG cA = some (r1, r2)) /\ Aside0 (kq <= k2) /\ Aside0 (Kd.R (Kd.int .i64) 2 w' w.heap.size (fun _ => True) v8 fH) /\ Aside0 (Kd.R (Kd.int .u64) 102 w' w.heap.size (fun _ => True) v9 bC) /\ Aside0 (Below w.heap.size w w'))
        case atStart => exact ⟨(([] : List Int)), (([] : List Int)), (a0), (0), (by first | rfl | (simp [i64_w, i32_w, qQj, qQk]; done) | (simp; done) | (simp [*]; done)), (by first | rfl | (simp [i64_w, i32_w, qQj, qQk]; done) | (simp; done) | (simp [*]; done)), H', ⟨Nat.le_refl _⟩, ⟨by first | exact Kd.R_nil _ _ _ _ _ | exact Kd.N_nil _ _ _ _ _ | exact Kd.V_nil _ _ _ _ _ | exact Kd.Q_nil _ _ _ _ _ | exact Kd.S_nil _ _ _ _ _⟩, ⟨by first | exact Kd.R_nil _ _ _ _ _ | exact Kd.N_nil _ _ _ _ _ | exact Kd.V_nil _ _ _ _ _ | exact Kd.Q_nil _ _ _ _ _ | exact Kd.S_nil _ _ _ _ _⟩, a0_ HB⟩
        case round =>
         clear H'
         try clear c1
         try clear p1
         try clear q1
         try clear sZ
         try clear p2
         try clear c5
         try clear c6
         try clear cE
         try clear e9
         try clear p6
         try clear c7
         try clear c8
         try clear hA
         try clear c9
         try clear jH
         try clear kQ
         try clear kR
         try clear jA
         try clear gE
         try clear gF
         try clear bI
         try clear bY
         try clear cS
         try clear cU
         try clear dZ
         try clear hH
         try clear p2
         try clear cV
         try clear d0
         try clear hI
         obtain ⟨fH, bC, dG, cA, rfl, rfl, HA, fM, a6, a5, HB⟩ := hrel
         cases gk with
         | zero => exact absurd HA.out (by simp [qQf.l1])
         | succ k3 =>
          have H := HA.out
          clear HA
          simp only [qQf.l1] at H
          by_cases e6 : cA < (l1.length : Int)
          ·rw [if_pos e6] at H
           have dO := decide_eq_true e6
           clear e6
           by_cases g8 : 0 <= cA
           ·rw [if_pos g8] at H
            have e7 := decide_eq_true g8
            clear g8
            obtain ⟨⟨hJ, i5⟩, tM, H⟩ := bd H
            obtain ⟨⟨cN, dI, fW⟩, tN, H⟩ := bd H
            by_cases l5 : fH.length < 17592186044416
            ·rw [if_pos l5] at H
             have mN := am l5
             clear l5
             obtain ⟨lV, iP⟩ : ∃ y_ : List Int, y_ = (fH ++ [wrap64 (cN)]) := ⟨_, rfl⟩
             replace H : (if bC.length < 17592186044416 then (qQf.l1 k3 a0 l1 fG lV (bC ++ [dI]) (wrap64 (dG - (wrap64 (cN)))) (wrap64 (cA + 1))) else (none)) = some (r1, r2) := by exact hyq H iP
             have mQ := am iP
             clear iP
             by_cases l6 : bC.length < 17592186044416
             ·rw [if_pos l6] at H
              have mO := am l6
              clear l6
              obtain ⟨nN, iQ⟩ : ∃ y_ : List Int, y_ = (bC ++ [dI]) := ⟨_, rfl⟩
              replace H : (qQf.l1 k3 a0 l1 fG lV nN (wrap64 (dG - (wrap64 (cN)))) (wrap64 (cA + 1))) = some (r1, r2) := by exact hyq H iQ
              have mR := am iQ
              clear iQ
              have H' := am H
              clear H
              have i1 : 0 <= (cA : Int) := yd
              have i3 : cA < (l1.length : Int) := yd
              obtain ⟨rI, pX, dL⟩ := Kd.qZ7 kP.out cA i1 i3
              cases pX
              replace dL := hxb HB.out dL
              replace i1 := eq_true i1
              replace i3 := eq_true i3
              go_wp2_with (first | (go_at_call 64; (with_reducible refine (qYx.calls _ _ hJ i5 _ tM.out).mono ?_); rintro e tH ⟨rfl, hb⟩; replace a6 := Rb a6 hb; replace a5 := Rb a5 hb; replace HB := s0 HB hb; (try clear hb); (try clear hb2); (try clear hk); (try clear hi)) | ((with_reducible refine gd 12 ?_); (try (refine qYw (by rfl) ?_; dsimp only)); refine bE 12 _ 104 ?_; intro dF hg q3 hbox hb; replace a6 := Rb a6 hb; replace a5 := Rb a5 hb; have bL := am hbox; have rB := e0 HB hg; have cO := e0 HB hg; replace HB := s0 HB hb; clear hb hbox hg; have gG : q3.cell? ⟨dF, 0, none⟩ = some (.int .u64 0) := (qQa bL.out 0).trans rfl; have gH : q3.cell? ⟨dF, 1, none⟩ = some (.int .u64 0) := (qQa bL.out 1).trans rfl; have gQ := qQd bL.out 0; have gR := qQd bL.out 1) | (go_at_call 65; (with_reducible refine (qQw.calls _ _ _ _ cN dI fW _ tN.out).mono ?_); rintro e u1 ⟨rfl, hb⟩; replace a6 := am (Kd.qYa (by refine rw_ ?_; exact (Kd.qQ4 (Kd.R_far (p := ⟨dF, 1, none⟩) (Kd.R_far (p := ⟨dF, 0, none⟩) (Kd.qZy a6.out bL.out (by decide)) (fun _ hk => hk.2) (.int .u64 hJ)) (fun _ hk => hk.2) (.int .u64 i5)) (fun _ h_ => h_.1))) hb); replace a5 := am (Kd.qYa (by refine rw_ ?_; exact (Kd.qQ4 (Kd.R_far (p := ⟨dF, 1, none⟩) (Kd.R_far (p := ⟨dF, 0, none⟩) (Kd.qZy a5.out bL.out (by decide)) (fun _ hk => hk.2) (.int .u64 hJ)) (fun _ hk => hk.2) (.int .u64 i5)) (fun _ h_ => h_.1))) hb); replace bL := am (qQv (g := dF) (o := .cells #[.int .u64 hJ, .int .u64 i5] 104 (0, 0)) (by refine bw ?_; refine qQ0 (cs := #[.int .u64 hJ, .int .u64 0]) ?_ 1 _ rfl; refine bw ?_; refine qQ0 (cs := #[.int .u64 0, .int .u64 0]) ?_ 0 _ rfl; refine bw ?_; exact bL.out) hb); replace HB := s1 HB cO hb; (try clear hb); (try clear hb2); (try clear hk); (try clear hi)) | ((with_reducible refine gd 13 ?_); (try (refine qYw (by rfl) ?_; dsimp only)); refine bE 13 _ 107 ?_; intro bH hg nJ hbox hb; replace a6 := Rb a6 hb; replace a5 := Rb a5 hb; have a8 := am hbox; have rC := e1 HB cO hg; have eT := e1 HB cO hg; replace HB := s1 HB cO hb; have d3 := nL bL hg; have g7 := nG bL hg; replace bL := bB bL hb; clear hb hbox hg; have rW := g7.out; have sH := d3.out; have gI : nJ.cell? ⟨bH, 0, none⟩ = some (.int .u64 0) := (qQa a8.out 0).trans rfl; have gJ : nJ.cell? ⟨bH, 1, none⟩ = some (.int .u64 0) := (qQa a8.out 1).trans rfl; have gK : nJ.cell? ⟨bH, 2, none⟩ = some (.bool false) := (qQa a8.out 2).trans rfl; have gS := qQd a8.out 0; have gT := qQd a8.out 1; have gU := qQd a8.out 2) | ((with_reducible refine qY9 (b := .append) (xs := #[.tmp 82, .tmp 86]) rfl ?_); (try (refine qYw (by rfl) ?_; dsimp only)); at_builtin; refine Kd.qW8 (Kd.int .i64) (w0 := w) w.heap.size rfl (.tmp 82) (.tmp 86) 22 2 (.int .i64 0) 8 rfl Tryz.underlying22 info2 rfl (by decide) (by omega) u8 fH (wrap64 (cN)) [.int .i64 (wrap64 (cN))] (fun _ => True) (fun _ => False) rfl (by first | (go_simp; done) | (go_simp; rfl)) ?aP (fun _ hk => hk.elim) ?aF ?aO ?aB ?aS ?aL ?_; (case aP => exact rfl); (case aB => exact (by exact h2q HB.out cO.out eT.out)); (case aF => exact (fun _ _ => trivial)); (case aO => exact (by refine rw_ ?_; exact Kd.qQ4 (Kd.R_far (p := ⟨bH, 2, none⟩) (Kd.R_far (p := ⟨bH, 1, none⟩) (Kd.R_far (p := ⟨bH, 0, none⟩) (Kd.qZy a6.out a8.out (by decide)) (fun _ hk => hk.2) (.int .u64 cN)) (fun _ hk => hk.2) (.int .u64 dI)) (fun _ hk => hk.2) (.bool fW)) (fun _ hk => trivial))); (case aS => exact (qQn (by exact h2q HB.out cO.out eT.out))); (case aL => have := mN.out; omega); intro uJ q4 ho hb hg hat; rw [<- mQ.out] at ho; replace a5 := am (Kd.qYc (by refine rw_ ?_; exact (Kd.qQ4 (Kd.R_far (p := ⟨bH, 2, none⟩) (Kd.R_far (p := ⟨bH, 1, none⟩) (Kd.R_far (p := ⟨bH, 0, none⟩) (Kd.qZy a5.out a8.out (by decide)) (fun _ hk => hk.2) (.int .u64 cN)) (fun _ hk => hk.2) (.int .u64 dI)) (fun _ hk => hk.2) (.bool fW)) (fun _ h_ => h_.1))) (Kd.qYb (by refine rw_ ?_; exact (Kd.qQ4 (Kd.R_far (p := ⟨bH, 2, none⟩) (Kd.R_far (p := ⟨bH, 1, none⟩) (Kd.R_far (p := ⟨bH, 0, none⟩) (Kd.qZy a6.out a8.out (by decide)) (fun _ hk => hk.2) (.int .u64 cN)) (fun _ hk => hk.2) (.int .u64 dI)) (fun _ hk => hk.2) (.bool fW)) (fun _ h_ => h_.1)))) (by decide) hg); replace bL := am (qVk (g := dF) (o := .cells #[.int .u64 hJ, .int .u64 i5] 104 (0, 0)) (by (iterate 3 (refine bw ?_; refine qZ8 ?_ d3.out _)); refine bw ?_; exact bL.out) hg (Kd.R_ne a6.out bL.out (by decide))); replace a8 := am (qVk (g := bH) (o := .cells #[.int .u64 cN, .int .u64 dI, .bool fW] 107 (0, 0)) (by refine bw ?_; refine qQ0 (cs := #[.int .u64 cN, .int .u64 dI, .bool false]) ?_ 2 _ rfl; refine bw ?_; refine qQ0 (cs := #[.int .u64 cN, .int .u64 0, .bool false]) ?_ 1 _ rfl; refine bw ?_; refine qQ0 (cs := #[.int .u64 0, .int .u64 0, .bool false]) ?_ 0 _ rfl; refine bw ?_; exact a8.out) hg (Kd.R_ne a6.out a8.out (by decide))); replace HB := am hb; have hY := am ho; clear a6; clear ho hb hg hat; have eF : q4.cell? ⟨bH, 0, none⟩ = some (.int .u64 cN) := (qQa a8.out 0).trans rfl; have eG : q4.cell? ⟨bH, 1, none⟩ = some (.int .u64 dI) := (qQa a8.out 1).trans rfl; have eH : q4.cell? ⟨bH, 2, none⟩ = some (.bool fW) := (qQa a8.out 2).trans rfl; have eK := qQd a8.out 0; have eL := qQd a8.out 1; have eM := qQd a8.out 2) | ((with_reducible refine qY9 (b := .append) (xs := #[.tmp 88, .tmp 91]) rfl ?_); (try (refine qYw (by rfl) ?_; dsimp only)); at_builtin; refine Kd.qW8 (Kd.int .u64) (w0 := w) w.heap.size rfl (.tmp 88) (.tmp 91) 118 102 (.int .u64 0) 8 rfl Tryz.underlying118 info102 rfl (by decide) (by omega) u9 bC dI [.int .u64 dI] (fun _ => True) (fun _ => False) rfl rfl ?aP (fun _ hk => hk.elim) ?aF ?aO ?aB ?aS ?aL ?_; (case aP => exact rfl); (case aB => exact (by exact h2q HB.out cO.out eT.out)); (case aF => exact (fun _ _ => trivial)); (case aO => exact (by exact rq a5.out)); (case aS => exact (qQn (by exact h2q HB.out cO.out eT.out))); (case aL => have := mO.out; omega); intro uK nK ho hb hg hat; rw [<- mR.out] at ho; replace bL := bG bL hg a5; replace a8 := bG a8 hg a5; replace hY := am (Kd.qYc (by exact rq hY.out) (Kd.qYb (by exact rq a5.out)) (by decide) hg); replace HB := am hb; have mL := am ho; clear a5; clear ho hb hg hat; have gL : nK.cell? ⟨bH, 0, none⟩ = some (.int .u64 cN) := (qQa a8.out 0).trans rfl; have gM : nK.cell? ⟨bH, 1, none⟩ = some (.int .u64 dI) := (qQa a8.out 1).trans rfl; have gN : nK.cell? ⟨bH, 2, none⟩ = some (.bool fW) := (qQa a8.out 2).trans rfl; have gV := qQd a8.out 0; have gW := qQd a8.out 1; have gX := qQd a8.out 2))
              go_roundg k3
              case measure => have := fI.out; have := gA.out; have := fM.out; omega
              case rel => exact ⟨(lV), (nN), (wrap64 (dG - (wrap64 (cN)))), (wrap64 (cA + 1)), (by first | rfl | (simp [i64_w, i32_w, qQj, qQk]; done) | (simp; done) | (simp [*]; done)), (by first | rfl | (simp [i64_w, i32_w, qQj, qQk]; done) | (simp; done) | (simp [*]; done)), H', ⟨by have := fI.out; have := gA.out; have := fM.out; omega⟩, rA hY, rA mL, a2_ HB cO eT⟩
             ·rw [if_neg l6] at H
              exact absurd H (by simp)
            ·rw [if_neg l5] at H
             exact absurd H (by simp)
           ·rw [if_neg g8] at H
            exact absurd H (by simp)
          ·rw [if_neg e6] at H
           have dO := decide_eq_false e6
           clear e6
           by_cases fJ : 1000 <= 281474976710656
           ·rw [if_pos fJ] at H
            have cF := eq_true fJ
            have kD := decide_eq_true fJ
            clear fJ
            obtain ⟨nO, iR⟩ : ∃ y_ : List Bool, y_ = (List.replicate 1000 false) := ⟨_, rfl⟩
            replace H : (qQf.l2 k3 fH bC dG nO) = some (r1, r2) := by exact hyq H iR
            have mS := am iR
            clear iR
            have H' := am H
            clear H
            go_wp2_with (first | ((with_reducible refine gd 14 ?_); (try (refine qYw (by rfl) ?_; dsimp only)); refine zQn ?hg (N := 14) ?hd (cs := madeCells #[.bool false] 1000) (t := 128) ?hr ?_; (case hd => rfl); (case hg => rfl); (case hr => exact qQf.alloc_ _); intro iL hgq u2 hbox hb; have k9 := qQf.R_ (Nat.le_of_eq hgq.symm) hbox; rw [<- mS.out] at k9; clear hbox hgq; replace a6 := Rb a6 hb; replace a5 := Rb a5 hb; have mM := am (Kd.qZ1 k9 (qQn (by exact h0q HB.out))); replace HB := s0 HB hb; clear hb k9))
            go_loopg [10] k3 (fun kq nI w' => ∃ (bX : List Int) (bZ : Int) (bJ : List Bool), nI = .int .i64 bZ /\ Aside0 (qQf.l2 kq bX bC bZ bJ = some (r1, r2)) /\ Aside0 (kq <= k3) /\ Aside0 (Kd.R (Kd.int .i64) 2 w' w.heap.size (fun _ => True) u8 bX) /\ Aside0 (Kd.R (Kd.int .u64) 102 w' w.heap.size (fun _ => True) u9 bC) /\ Aside0 (Kd.R Kd.bool 128 w' w.heap.size (fun _ => True) (.slice (some ⟨iL, 0, none⟩) 1000 1000) bJ) /\ Aside0 (Below w.heap.size w w'))
            case atStart => exact ⟨(fH), (dG), (nO), (by first | rfl | (simp [i64_w, i32_w, qQj, qQk]; done) | (simp; done) | (simp [*]; done)), H', ⟨Nat.le_refl _⟩, rA a6, rA a5, rA mM, a0_ HB⟩
            case round =>
             clear H'
             try clear c1
             try clear p1
             try clear q1
             try clear sZ
             try clear c2
             try clear p2
             try clear c3
             try clear c5
             try clear c6
             try clear cE
             try clear e9
             try clear p6
             try clear c7
             try clear c8
             try clear hA
             try clear c9
             try clear jH
             try clear kQ
             try clear kR
             try clear jA
             try clear gE
             try clear gF
             try clear e6
             try clear dO
             try clear g8
             try clear e7
             try clear tF
             try clear tG
             try clear qL
             try clear l5
             try clear l6
             try clear tY
             try clear fJ
             try clear cF
             try clear kD
             try clear gG
             try clear gH
             try clear gI
             try clear gJ
             try clear gK
             try clear eF
             try clear eG
             try clear eH
             try clear gL
             try clear gM
             try clear gN
             try clear gQ
             try clear gR
             try clear gS
             try clear gT
             try clear gU
             try clear eK
             try clear eL
             try clear eM
             try clear gV
             try clear gW
             try clear gX
             try clear bI
             try clear bY
             try clear cS
             try clear dL
             try clear p1
             try clear cU
             try clear dZ
             try clear hH
             try clear i1
             try clear p2
             try clear p6
             try clear q1
             try clear cV
             try clear d0
             try clear hI
             try clear i3
             obtain ⟨bX, bZ, bJ, rfl, HA, i8, a6, a5, a4, HB⟩ := hrel
             cases gk with
             | zero => exact absurd HA.out (by simp [qQf.l2])
             | succ k4 =>
              have H := HA.out
              clear HA
              simp only [qQf.l2] at H
              by_cases kV : bZ > 0
              ·rw [if_pos kV] at H
               have kE : decide (0 < bZ) = true := decide_eq_true kV
               clear kV
               have H' := am H
               clear H
               go_wp2
               go_loopg [15, 16] k4 (fun kq uH qY w' => ∃ (aT : Int) (aV : Int), uH = .int .i64 aT /\ qY = .int .i64 aV /\ Aside0 (qQf.l3 kq bX bC bZ bJ aT aV = some (r1, r2)) /\ Aside0 (kq <= k4) /\ Aside0 (Kd.R (Kd.int .i64) 2 w' w.heap.size (fun _ => True) u8 bX) /\ Aside0 (Kd.R (Kd.int .u64) 102 w' w.heap.size (fun _ => True) u9 bC) /\ Aside0 (Kd.R Kd.bool 128 w' w.heap.size (fun _ => True) (.slice (some ⟨iL, 0, none⟩) 1000 1000) bJ) /\ Aside0 (Below w.heap.size w w'))
               case atStart => exact ⟨((-1)), (0), (by first | rfl | (simp [i64_w, i32_w, qQj, qQk]; done) | (simp; done) | (simp [*]; done)), (by first | rfl | (simp [i64_w, i32_w, qQj, qQk]; done) | (simp; done) | (simp [*]; done)), H', ⟨Nat.le_refl _⟩, rA a6, rA a5, rA a4, a0_ HB⟩
               case round =>
                clear H'
                try clear c1
                try clear p1
                try clear q1
                try clear sZ
                try clear c2
                try clear p2
                try clear c3
                try clear c5
                try clear c6
                try clear cE
                try clear e9
                try clear p6
                try clear c7
                try clear c8
                try clear hA
                try clear c9
                try clear jH
                try clear kQ
                try clear kR
                try clear jA
                try clear gE
                try clear gF
                try clear e6
                try clear dO
                try clear g8
                try clear e7
                try clear tF
                try clear tG
                try clear qL
                try clear l5
                try clear l6
                try clear tY
                try clear fJ
                try clear cF
                try clear kD
                try clear kV
                try clear kE
                try clear gG
                try clear gH
                try clear gI
                try clear gJ
                try clear gK
                try clear eF
                try clear eG
                try clear eH
                try clear gL
                try clear gM
                try clear gN
                try clear gQ
                try clear gR
                try clear gS
                try clear gT
                try clear gU
                try clear eK
                try clear eL
                try clear eM
                try clear gV
                try clear gW
                try clear gX
                try clear bI
                try clear bY
                try clear cS
                try clear dL
                try clear p1
                try clear tF
                try clear cU
                try clear dZ
                try clear hH
                try clear i1
                try clear p2
                try clear p6
                try clear q1
                try clear tG
                try clear cV
                try clear d0
                try clear hI
                try clear i3
                obtain ⟨aT, aV, rfl, rfl, HA, i9, a6, a5, a4, HB⟩ := hrel
                cases gk with
                | zero => exact absurd HA.out (by simp [qQf.l3])
                | succ k5 =>
                 have H := HA.out
                 clear HA
                 simp only [qQf.l3] at H
                 by_cases l7 : aV < (bC.length : Int)
                 ·rw [if_pos l7] at H
                  have m1 := decide_eq_true l7
                  clear l7
                  by_cases nS : 0 <= aV
                  ·rw [if_pos nS] at H
                   have rM := decide_eq_true nS
                   clear nS
                   by_cases nT : aV < (bJ.length : Int)
                   ·rw [if_pos nT] at H
                    have rN := decide_eq_true nT
                    clear nT
                    obtain ⟨bq39, iN⟩ : ∃ b_ : Bool, b_ = (rdOf false bJ aV) := ⟨_, rfl⟩
                    replace H : (if bq39 = true then (qQf.l3 k5 bX bC bZ bJ aT (wrap64 (aV + 1))) else (if aT < 0 then (qQf.l3 k5 bX bC bZ bJ aV (wrap64 (aV + 1))) else (if 0 <= aT then (if aT < (bC.length : Int) then (if (rd bC aV) > (rd bC aT) then (qQf.l3 k5 bX bC bZ bJ aV (wrap64 (aV + 1))) else (qQf.l3 k5 bX bC bZ bJ aT (wrap64 (aV + 1)))) else (none)) else (none)))) = some (r1, r2) := by rw [<- iN] at H; exact H
                    have Nbq39 := am iN
                    clear iN
                    by_cases nU : bq39 = true
                    ·subst nU
                     rw [if_pos rfl] at H
                     have H' := am H
                     clear H
                     obtain ⟨tQ, t1, qA⟩ := Kd.qZq a5.out
                     subst qA
                     have cM : 0 <= (aV : Int) := yd
                     have b5 : aV < ((1000 : Nat) : Int) := (by have := (Kd.qQq a4.out).1; have h_ : aV < (bJ.length : Int) := yd; omega)
                     obtain ⟨b4, hf195_0⟩ := Kd.qXy false a4.out (aV : Int) cM b5
                     (try rw [<- Nbq39.out] at b4)
                     have q195b : aV < (1000 : Int) := b5
                     replace q195b := eq_true q195b
                     clear hf195_0
                     replace cM := eq_true cM
                     replace b5 := eq_true b5
                     go_wp2
                     repeat (go_quiet (fail); try go_wp2)
                     go_roundg k5
                     case measure => have := fI.out; have := gA.out; have := fM.out; have := i8.out; have := i9.out; omega
                     case rel => exact ⟨(aT), (wrap64 (aV + 1)), (by first | rfl | (simp [i64_w, i32_w, qQj, qQk]; done) | (simp; done) | (simp [*]; done)), (by first | rfl | (simp [i64_w, i32_w, qQj, qQk]; done) | (simp; done) | (simp [*]; done)), H', ⟨by have := fI.out; have := gA.out; have := fM.out; have := i8.out; have := i9.out; omega⟩, rA a6, rA a5, rA a4, a0_ HB⟩
                    ·replace nU := Bool.eq_false_iff.mpr nU
                     subst nU
                     rw [if_neg (show ¬ (false = true) by decide)] at H
                     by_cases g9 : aT < 0
                     ·rw [if_pos g9] at H
                      have iE := decide_eq_true g9
                      clear g9
                      have H' := am H
                      clear H
                      obtain ⟨tR, t2, qB⟩ := Kd.qZq a5.out
                      subst qB
                      have cM : 0 <= (aV : Int) := yd
                      have b5 : aV < ((1000 : Nat) : Int) := (by have := (Kd.qQq a4.out).1; have h_ : aV < (bJ.length : Int) := yd; omega)
                      obtain ⟨b4, hf195_0⟩ := Kd.qXy false a4.out (aV : Int) cM b5
                      (try rw [<- Nbq39.out] at b4)
                      have q195b : aV < (1000 : Int) := b5
                      replace q195b := eq_true q195b
                      clear hf195_0
                      replace cM := eq_true cM
                      replace b5 := eq_true b5
                      go_wp2
                      repeat (go_quiet (fail); try go_wp2)
                      go_roundg k5
                      case measure => have := fI.out; have := gA.out; have := fM.out; have := i8.out; have := i9.out; omega
                      case rel => exact ⟨(aV), (wrap64 (aV + 1)), (by first | rfl | (simp [i64_w, i32_w, qQj, qQk]; done) | (simp; done) | (simp [*]; done)), (by first | rfl | (simp [i64_w, i32_w, qQj, qQk]; done) | (simp; done) | (simp [*]; done)), H', ⟨by have := fI.out; have := gA.out; have := fM.out; have := i8.out; have := i9.out; omega⟩, rA a6, rA a5, rA a4, a0_ HB⟩
                     ·rw [if_neg g9] at H
                      have iE := decide_eq_false g9
                      clear g9
                      by_cases hU : 0 <= aT
                      ·rw [if_pos hU] at H
                       have kF := decide_eq_true hU
                       clear hU
                       by_cases jG : aT < (bC.length : Int)
                       ·rw [if_pos jG] at H
                        have rP := decide_eq_true jG
                        clear jG
                        by_cases iF : (rd bC aV) > (rd bC aT)
                        ·rw [if_pos iF] at H
                         have kG : decide ((rd bC aT) < (rd bC aV)) = true := decide_eq_true iF
                         clear iF
                         have H' := am H
                         clear H
                         obtain ⟨tS, t3, qC⟩ := Kd.qZq a5.out
                         subst qC
                         have cM : 0 <= (aV : Int) := yd
                         have b5 : aV < ((1000 : Nat) : Int) := (by have := (Kd.qQq a4.out).1; have h_ : aV < (bJ.length : Int) := yd; omega)
                         obtain ⟨b4, hf195_0⟩ := Kd.qXy false a4.out (aV : Int) cM b5
                         (try rw [<- Nbq39.out] at b4)
                         have q195b : aV < (1000 : Int) := b5
                         replace q195b := eq_true q195b
                         clear hf195_0
                         replace cM := eq_true cM
                         replace b5 := eq_true b5
                         have fQ : 0 <= (aV : Int) := yd
                         have fT : aV < (bC.length : Int) := yd
                         obtain ⟨h5, k0, jL⟩ := Kd.qZ7 (Kd.qQq a5.out).2.2 aV fQ fT
                         cases k0
                         replace fQ := eq_true fQ
                         replace fT := eq_true fT
                         have fR : 0 <= (aT : Int) := yd
                         have fU : aT < (bC.length : Int) := yd
                         obtain ⟨h6, k6, jM⟩ := Kd.qZ7 (Kd.qQq a5.out).2.2 aT fR fU
                         obtain rfl : h5 = h6 := (by injection k6)
                         replace fR := eq_true fR
                         replace fU := eq_true fU
                         go_wp2
                         repeat (go_quiet (fail); try go_wp2)
                         go_roundg k5
                         case measure => have := fI.out; have := gA.out; have := fM.out; have := i8.out; have := i9.out; omega
                         case rel => exact ⟨(aV), (wrap64 (aV + 1)), (by first | rfl | (simp [i64_w, i32_w, qQj, qQk]; done) | (simp; done) | (simp [*]; done)), (by first | rfl | (simp [i64_w, i32_w, qQj, qQk]; done) | (simp; done) | (simp [*]; done)), H', ⟨by have := fI.out; have := gA.out; have := fM.out; have := i8.out; have := i9.out; omega⟩, rA a6, rA a5, rA a4, a0_ HB⟩
                        ·rw [if_neg iF] at H
                         have kG : decide ((rd bC aT) < (rd bC aV)) = false := decide_eq_false iF
                         clear iF
                         have H' := am H
                         clear H
                         obtain ⟨tT, t4, qD⟩ := Kd.qZq a5.out
                         subst qD
                         have cM : 0 <= (aV : Int) := yd
                         have b5 : aV < ((1000 : Nat) : Int) := (by have := (Kd.qQq a4.out).1; have h_ : aV < (bJ.length : Int) := yd; omega)
                         obtain ⟨b4, hf195_0⟩ := Kd.qXy false a4.out (aV : Int) cM b5
                         (try rw [<- Nbq39.out] at b4)
                         have q195b : aV < (1000 : Int) := b5
                         replace q195b := eq_true q195b
                         clear hf195_0
                         replace cM := eq_true cM
                         replace b5 := eq_true b5
                         have fQ : 0 <= (aV : Int) := yd
                         have fT : aV < (bC.length : Int) := yd
                         obtain ⟨h5, k0, jL⟩ := Kd.qZ7 (Kd.qQq a5.out).2.2 aV fQ fT
                         cases k0
                         replace fQ := eq_true fQ
                         replace fT := eq_true fT
                         have fR : 0 <= (aT : Int) := yd
                         have fU : aT < (bC.length : Int) := yd
                         obtain ⟨h6, k6, jM⟩ := Kd.qZ7 (Kd.qQq a5.out).2.2 aT fR fU
                         obtain rfl : h5 = h6 := (by injection k6)
                         replace fR := eq_true fR
                         replace fU := eq_true fU
                         go_wp2
                         repeat (go_quiet (fail); try go_wp2)
                         go_roundg k5
                         case measure => have := fI.out; have := gA.out; have := fM.out; have := i8.out; have := i9.out; omega
                         case rel => exact ⟨(aT), (wrap64 (aV + 1)), (by first | rfl | (simp [i64_w, i32_w, qQj, qQk]; done) | (simp; done) | (simp [*]; done)), (by first | rfl | (simp [i64_w, i32_w, qQj, qQk]; done) | (simp; done) | (simp [*]; done)), H', ⟨by have := fI.out; have := gA.out; have := fM.out; have := i8.out; have := i9.out; omega⟩, rA a6, rA a5, rA a4, a0_ HB⟩
                       ·rw [if_neg jG] at H
                        exact absurd H (by simp)
                      ·rw [if_neg hU] at H
                       exact absurd H (by simp)
                   ·rw [if_neg nT] at H
                    exact absurd H (by simp)
                  ·rw [if_neg nS] at H
                   exact absurd H (by simp)
                 ·rw [if_neg l7] at H
                  have m1 := decide_eq_false l7
                  clear l7
                  by_cases l8 : aT < 0
                  ·rw [if_pos l8] at H
                   have m3 := decide_eq_true l8
                   clear l8
                   simp only [Option.some.injEq, Prod.mk.injEq] at H
                   obtain ⟨rfl, rfl⟩ := H
                   obtain ⟨tU, t5, qG⟩ := Kd.qZq a5.out
                   subst qG
                   go_wp2
                   go_ret2
                   exact ⟨_, by first | rfl | (simp [i64_w, i32_w, qQj, qQk]; done) | (simp [qQj, qQk] <;> rfl) | (simp [*, qQj, qQk] <;> rfl), by refine rw_ ?_; exact a6.out, by exact h0q HB.out⟩
                  ·rw [if_neg l8] at H
                   have m3 := decide_eq_false l8
                   clear l8
                   by_cases nX : 0 <= aT
                   ·rw [if_pos nX] at H
                    have rQ := decide_eq_true nX
                    clear nX
                    by_cases nY : aT < (bJ.length : Int)
                    ·rw [if_pos nY] at H
                     have rR := decide_eq_true nY
                     clear nY
                     obtain ⟨jS, iS⟩ : ∃ y_ : List Bool, y_ = (bJ.set (aT : Int).toNat true) := ⟨_, rfl⟩
                     replace H : (if aT < (bX.length : Int) then (qQf.l2 k5 (bX.set (aT : Int).toNat (wrap64 ((rd bX aT) + 1))) bC (wrap64 (bZ - 1)) jS) else (none)) = some (r1, r2) := by exact hyq H iS
                     have mT := am iS
                     clear iS
                     by_cases nZ : aT < (bX.length : Int)
                     ·rw [if_pos nZ] at H
                      have rS := decide_eq_true nZ
                      clear nZ
                      obtain ⟨lW, iT⟩ : ∃ y_ : List Int, y_ = (bX.set (aT : Int).toNat (wrap64 ((rd bX aT) + 1))) := ⟨_, rfl⟩
                      replace H : (qQf.l2 k5 lW bC (wrap64 (bZ - 1)) jS) = some (r1, r2) := by exact hyq H iT
                      have mU := am iT
                      clear iT
                      have H' := am H
                      clear H
                      obtain ⟨tW, t6, qH⟩ := Kd.qZq a5.out
                      subst qH
                      have qO : 0 <= (aT : Int) := yd
                      have pJ : (aT : Int) < ((1000 : Nat) : Int) := (by have := (Kd.qQq a4.out).1; have h_ : aT < (bJ.length : Int) := yd; omega)
                      have q57b : aT < (1000 : Int) := pJ
                      obtain ⟨hC, pV, m6, nA, gl57, cl57, HG57⟩ := Kd.qKs a4.out (by have := (Kd.qQq a4.out).1; omega)
                      obtain ⟨rfl, rfl⟩ : hC = iL /\ pV = 1000 := (by injection m6 with ea_ en_ ec_; injection ea_ with ea_; injection ea_ with ea_; exact ⟨ea_.symm, ec_.symm⟩)
                      clear m6
                      replace q57b := eq_true q57b
                      have GB57 := am nA
                      have GG57 := am HG57
                      clear nA gl57 HG57
                      obtain ⟨qM, hf57_0⟩ := Kd.qXy false a4.out (aT : Int) qO pJ
                      replace qO := eq_true qO
                      replace pJ := eq_true pJ
                      have HP61 := Kd.qVu a4.out (aT : Int) true
                      go_wp2_with (first | ((with_reducible refine qXv (t := 4) (p := 131) rfl ?_); (try (rw [qWy wr]; generalize hq_ : World.drewN wr _ = wr; replace a6 := am (Kd.R_at hq_ a6.out); replace a5 := am (Kd.R_at hq_ a5.out); replace a4 := am (Kd.R_at hq_ a4.out); replace HB := am (zYi hq_ HB.out); clear hq_; (try (have HP61 := Kd.qVu a4.out (aT : Int) true)))); refine qXp (t := 4) (p := 131) (v := ?vo_w62) (w1 := (wr.setCell ⟨hC, (aT : Int).toNat, none⟩ (.bool true))) ?hg ?ho ?hn ?hr ?_; (case ho => rfl); (case hg => rfl); (case hn => rfl); (case hr => first | (go_simp; done) | (go_simp; rfl)); intro b9 hw; have hg : wr.grownBy b9 (some hC) := (by rw [hw]; exact HP61.2); have hp_ : Kd.R Kd.bool 128 b9 w.heap.size (fun _ => True) (.slice (some ⟨hC, 0, none⟩) 1000 1000) jS := (by rw [hw, mT.out]; exact HP61.1); clear HP61; replace a6 := am (Kd.qYc (v := (.slice (some ⟨hC, 0, none⟩) 1000 1000)) (by exact rq a6.out) (Kd.qYb a4.out) (by decide) hg); replace a5 := am (Kd.qYc (v := (.slice (some ⟨hC, 0, none⟩) 1000 1000)) (by exact rq a5.out) (Kd.qYb a4.out) (by decide) hg); replace a4 := am hp_; replace HB := am ((by rw [hw]; exact qQ1 (HB.out) GB57.out : Below w.heap.size w b9)); clear hg hw hp_; obtain ⟨tX, kX, qI⟩ := Kd.qZq a6.out; subst qI; have lB : 0 <= (aT : Int) := yd; have lE : aT < (bX.length : Int) := yd; obtain ⟨rJ, pY, jN⟩ := Kd.qZ7 (Kd.qQq a6.out).2.2 aT lB lE; cases pY; replace lB := eq_true lB; replace lE := eq_true lE; have qP : 0 <= (aT : Int) := yd; have qQ : (aT : Int) < ((bX.length : Int) : Int) := yd; obtain ⟨iM, kW, iJ, nB, gl59, cl59, HG59⟩ := Kd.qKs a6.out (by omega); (first | cases iJ | (injection iJ with ea_ en_ ec_; (first | subst ea_ | (injection ea_ with ea_; subst ea_)); subst ec_; clear en_)); have GB59 := am nB; have GG59 := am HG59; clear nB gl59 HG59; (first | simp only [add_plain] at jN | skip); obtain ⟨qN, hf59_0⟩ := Kd.qXy 0 a6.out (aT : Int) qP qQ; replace qP := eq_true qP; replace qQ := eq_true qQ; obtain ⟨hy64_, hz64_⟩ := Kd.qXy 0 a6.out (aT : Int) (yd) (yd); have HP64 := Kd.qVu a6.out (aT : Int) (wrap64 ((rd bX aT) + 1))) | ((with_reducible refine qXv (t := 2) (p := 137) rfl ?_); (try (rw [qWy b9]; generalize hq_ : World.drewN b9 _ = b9; replace a6 := am (Kd.R_at hq_ a6.out); replace a5 := am (Kd.R_at hq_ a5.out); replace a4 := am (Kd.R_at hq_ a4.out); replace HB := am (zYi hq_ HB.out); clear hq_; (try (obtain ⟨hy64_, hz64_⟩ := Kd.qXy 0 a6.out (aT : Int) (yd) (yd))); (try (have HP64 := Kd.qVu a6.out (aT : Int) (wrap64 ((rd bX aT) + 1)))))); refine qXp (t := 2) (p := 137) (v := ?vo_w65) (w1 := (b9.setCell ⟨iM, (aT : Int).toNat, none⟩ (.int .i64 (wrap64 ((rd bX aT) + 1))))) ?hg ?ho ?hn ?hr ?_; (case ho => rfl); (case hg => rfl); (case hn => rfl); (case hr => first | (go_simp; done) | (go_simp; rfl)); intro q7 hw; have hg : b9.grownBy q7 (some iM) := (by rw [hw]; exact HP64.2); have hp_ : Kd.R (Kd.int .i64) 2 q7 w.heap.size (fun _ => True) (.slice (some ⟨iM, 0, none⟩) bX.length kX) lW := (by rw [hw, mU.out]; exact HP64.1); clear HP64; replace a5 := am (Kd.qYc (v := (.slice (some ⟨iM, 0, none⟩) bX.length kX)) (by exact rq a5.out) (Kd.qYb a6.out) (by decide) hg); replace a4 := am (Kd.qYc (v := (.slice (some ⟨iM, 0, none⟩) bX.length kX)) (by exact rq a4.out) (Kd.qYb a6.out) (by decide) hg); replace a6 := am hp_; replace HB := am ((by rw [hw]; exact qQ1 (HB.out) GB59.out : Below w.heap.size w q7)); clear hg hw hp_))
                      go_roundg k5
                      case measure => have := fI.out; have := gA.out; have := fM.out; have := i8.out; have := i9.out; omega
                      case rel => exact ⟨(lW), (wrap64 (bZ - 1)), (jS), (by first | rfl | (simp [i64_w, i32_w, qQj, qQk]; done) | (simp; done) | (simp [*]; done)), H', ⟨by have := fI.out; have := gA.out; have := fM.out; have := i8.out; have := i9.out; omega⟩, rA a6, rA a5, rA a4, a0_ HB⟩
                     ·rw [if_neg nZ] at H
                      exact absurd H (by simp)
                    ·rw [if_neg nY] at H
                     exact absurd H (by simp)
                   ·rw [if_neg nX] at H
                    exact absurd H (by simp)
              ·rw [if_neg kV] at H
               have kE : decide (0 < bZ) = false := decide_eq_false kV
               clear kV
               simp only [Option.some.injEq, Prod.mk.injEq] at H
               obtain ⟨rfl, rfl⟩ := H
               go_wp2
               go_ret2
               exact ⟨_, by first | rfl | (simp [i64_w, i32_w, qQj, qQk]; done) | (simp [qQj, qQk] <;> rfl) | (simp [*, qQj, qQk] <;> rfl), by refine rw_ ?_; exact a6.out, by exact h0q HB.out⟩
           ·rw [if_neg fJ] at H
            exact absurd H (by simp)
mutual
def qQc.l0 : Nat -> List (S48) -> Int -> List Int -> Int -> Int -> Option (List Int × List Int × Int)
 | 0, _, _, _, _, _ => none
 | k + 1, x2, x8, fZ, jR, mC => if mC < (x2.length : Int) then (if 0 <= mC then ((some (([(qQb x2 mC).f1] : List Int) : List Int)).bind fun dU => (if fZ.length + dU.length < 17592186044416 then ((some (fZ ++ dU : List Int)).bind fun d2 => (if jR < 1000000000000000 then (qQc.l0 k x2 x8 d2 (wrap64 (jR + ((qQb x2 mC).f1))) (wrap64 (mC + 1))) else (qQc.l0 k x2 x8 d2 jR (wrap64 (mC + 1))))) else (none))) else (none)) else (if 0 <= (x2.length : Int) then (if ((x2.length : Int) : Int).toNat <= 35184372088832 then (if jR > 0 then ((qQf.f k x8 fZ).bind fun dN => (if dN.2 = 0 then (qQc.j1 k x2 dN.1) else (some (([] : List Int), ([] : List Int), dN.2)))) else (qQc.j1 k x2 (List.replicate ((x2.length : Int) : Int).toNat 0))) else (none)) else (none))
def qQc.j1 : Nat -> List (S48) -> List Int -> Option (List Int × List Int × Int)
 | 0, _, _ => none
 | k + 1, x2, nM => qQc.l1 k x2 nM 0 ([] : List Int) ([] : List Int)
def qQc.l1 : Nat -> List (S48) -> List Int -> Int -> List Int -> List Int -> Option (List Int × List Int × Int)
 | 0, _, _, _, _, _ => none
 | k + 1, x2, nM, eQ, eR, eS => if eQ < (x2.length : Int) then (if 0 <= eQ then ((qZx.f ((qQb x2 eQ).f0) ((qQb x2 eQ).f1) ((qQb x2 eQ).f2) ((qQb x2 eQ).f3) ((qQb x2 eQ).f4) ((qQb x2 eQ).f5) ((qQb x2 eQ).f6) ((qQb x2 eQ).f7) ((qQb x2 eQ).f8) ((qQb x2 eQ).f9) ((qQb x2 eQ).f10) ((qQb x2 eQ).f11) ((qQb x2 eQ).f12)).bind fun iA => (if iA.2 = 0 then ((some (([(qQb x2 eQ).f0] : List Int) : List Int)).bind fun b7 => (if eR.length + b7.length < 17592186044416 then (if eQ < (nM.length : Int) then ((some (([mn (rd nM eQ) iA.1] : List Int) : List Int)).bind fun b0 => (if eS.length + b0.length < 17592186044416 then (qQc.l1 k x2 nM (wrap64 (eQ + 1)) (eR ++ b7) (eS ++ b0)) else (none))) else (none)) else (none))) else (some (([] : List Int), ([] : List Int), iA.2)))) else (none)) else (some (eR, eS, 0))
end
def qQc.f (k : Nat) (dW : Int) (cT : List Int) (eV : Int) (dQ : List (S48)) (eW eX eA eB : Int) (dR : List (S54)) (eY eZ e4 dB dC dD : Int) (l2 : List (S48)) : Option (List Int × List Int × Int) := (qY8.f k cT eB eA).bind fun h9 => (if h9.2 = 0 then (qQc.l0 k l2 h9.1 ([] : List Int) 0 0) else (some (([] : List Int), ([] : List Int), h9.2)))
def qQc.T25 : Bool × List (List Nat × List Nat) := (true, [([], []), ([0], [0]), ([], []), ([], []), ([2, 3], [2, 3]), ([4], [4]), ([5], [5]), ([6], [6]), ([1, 7], [1, 7]), ([], []), ([9], [9]), ([], []), ([], []), ([11, 12], [11, 12]), ([13], [13]), ([], []), ([14, 15], [14, 15]), ([16], [16]), ([10, 17, 8], [10, 17]), ([0, 1, 2, 3, 4, 5, 6, 7, 8, 9, 10], []), ([19, 8, 18, 0, 1, 2, 3, 4, 5, 6, 7, 8, 9, 10], [8, 19]), ([0, 1, 2, 3, 4, 5, 6, 7, 8, 9, 10, 11, 12, 13, 14, 15, 16, 17, 18, 19, 20], []), ([21, 18, 20, 0, 1, 2, 3, 4, 5, 6, 7, 8, 9, 10, 11, 12, 13, 14, 15, 16, 17, 18, 19, 20], [18, 21])])
def qQc.B25 : List Nat := [0, 1, 0, 0, 12, 28, 60, 124, 255, 0, 512, 0, 0, 6144, 14336, 0, 63488, 129024, 262143, 2047, 1048575, 2097151, 4194303]
theorem qQc.tab25 : rtab .any (opsOf Tryz.f34 25) = qQc.T25 := by kernel_rfl
theorem qQc.bits25 : waitsOk qQc.T25.2 qQc.B25 = true := by kernel_rfl
section
variable {P : Program} {ops : Array Oper} {Q : Exit -> Act -> World -> Prop} {S : World -> Prop} {ds : List Nat} {fuel : Nat} {a a' : Act} {w : World} {oi : Oper} {v : Value} {T : Bool × List (List Nat × List Nat)} {B : List Nat}
def qQc.fl (n m : Nat) : Array Bool := ((List.range n).map fun j => m.testBit j).toArray
theorem qQc.y (i N n m : Nat) {l : Array Bool} (hT : rtab .any ops = T) (h : wpAnyLast P .any ops Q S ds fuel (qQc.fl n m) a' w)
  (hi : ops[i]? = some oi := by rfl) (hN : oi.dst = some N := by rfl) (hc : anyT T l.toList (qQc.fl n m).toList i = true := by kernel_rfl)
  (hQ : ∀ c a w, Q (.panic c) (a.put oi.dst v) w -> Q (.panic c) a w := by exact fun _ _ _ h => h) (hw : Region.wanted oi (yielded ops a.tmps) = true := by rfl)
  (hy : ∀ w, (execOp a.eval oi).run P w = .ok (.value v) w := by (intro w'; go_simp; with_reducible rfl)) (ha : a.put (some N) v = a' := by (simp only [Act.put, List.setIfInBounds_toArray, List.set_cons_zero, List.set_cons_succ, i64_w, i32_w]; rfl)) :
  wpAnyLast P .any ops Q S ds (fuel + 1) l a w := pure_ (N := some N) (qQc.fl n m) hi hN (qZ0 hT hc) hQ (Or.inl ⟨hw, hy⟩) ha h
theorem qQc.t (i N n m : Nat) {l : Array Bool} (hT : rtab .any ops = T) (hB : waitsOk T.2 B = true) (hS : S w) (h : wpAnyLast P .any ops Q S ds fuel (qQc.fl n m) a' w)
  (hi : ops[i]? = some oi := by rfl) (hN : oi.dst = some N := by rfl) (hc : takeW T B ds l.toList (qQc.fl n m).toList i = true := by kernel_rfl)
  (hQ : ∀ c a w, Q (.panic c) (a.put oi.dst v) w -> Q (.panic c) a w := by exact fun _ _ _ h => h) (hw : Region.wanted oi (yielded ops a.tmps) = true := by rfl)
  (hy : ∀ w, S w -> (execOp a.eval oi).run P w = .ok (.value v) w := by (intro w' hs_; (try dsimp only at hs_); go_simp; with_reducible rfl)) (ha : a.put (some N) v = a' := by (simp only [Act.put, List.setIfInBounds_toArray, List.set_cons_zero, List.set_cons_succ, i64_w, i32_w]; rfl)) :
  wpAnyLast P .any ops Q S ds (fuel + 1) l a w := take_ (N := some N) (qQc.fl n m) hi hN (qXm hT hB hc) hQ (Or.inl ⟨hw, hy⟩) hS ha h
end
set_option maxHeartbeats 8000000 in
set_option maxRecDepth 100000 in
theorem qQc.calls (k : Nat) (dW : Int) (d9 : Option Addr) (eC : Nat) (cT : List Int) (eV : Int) (fK : Option Addr) (fN : Nat) (dQ : List (S48)) (eW eX eA eB : Int) (fL : Option Addr) (fO : Nat) (dR : List (S54)) (eY eZ e4 dB dC dD : Int) (A2 : Option Addr) (c2 : Nat) (l2 : List (S48)) (r1 r2 : List Int) (r3 : Int) (w : World) (kK : Kd.C (Kd.int .i64) w d9 cT.length cT) (kH : cT.length <= eC) (kL : Kd.C k48 w fK dQ.length dQ) (kI : dQ.length <= fN) (kM : Kd.C k54 w fL dR.length dR) (kJ : dR.length <= fO) (hr2 : Kd.C k48 w A2 l2.length l2) (hc2 : l2.length <= c2) (h : qQc.f k dW cT eV dQ eW eX eA eB dR eY eZ e4 dB dC dD l2 = some (r1, r2, r3)) :
  Calls Tryz.prog 34 #[.agg #[.int .i64 dW, .slice d9 cT.length eC], .agg #[.int .i64 eV, .slice fK dQ.length fN, .int .i64 eW, .int .i64 eX, .int .i64 eA, .int .i64 eB, .slice fL dR.length fO, .int .i64 eY, .int .i64 eZ, .int .i64 e4, .int .i64 dB, .int .i64 dC, .int .i64 dD], .slice A2 l2.length c2] w fun e w' => ∃ v0_ v1_ : Value, e = .returned (.tuple #[.agg #[v0_, v1_], .int .i64 r3]) /\ Kd.R (Kd.int .i64) 3 w' w.heap.size (fun _ => True) v0_ r1 /\ Kd.R (Kd.int .i64) 2 w' w.heap.size (fun _ => True) v1_ r2 /\ Below w.heap.size w w' := by
 have uA := Tryz.underlying37
 have t9 := Tryz.underlying28
 have uB := Tryz.underlying39
 have uC := Tryz.underlying48
 have jX := am kK
 have jT := am kH
 clear kK kH
 have rG := am kL
 have rE := am kI
 clear kL kI
 have rH := am kM
 have rF := am kJ
 clear kM kJ
 have lY := am hr2
 have uV := am hc2
 clear hr2 hc2
 have HB := am (Below.refl w.heap.size w)
 have H := h
 unfold qQc.f at H
 clear h
 obtain ⟨⟨fC, lN⟩, A4, H⟩ := bd H
 by_cases c5 : lN = 0
 case neg =>
  rw [if_neg c5] at H
  have dH := beq_eq_false_iff_ne.mpr c5
  have dX := bne_iff_ne.mpr c5
  simp only [Option.some.injEq, Prod.mk.injEq] at H
  obtain ⟨rfl, rfl, rfl⟩ := H
  go_enter Tryz.func34, Tryz.ntmps34
  go_wp2_with (first | ((with_reducible refine gd 3 ?_); refine bE 3 _ 37 ?_; intro cG hg u6 hbox hb; have aE := am hbox; have mF := e0 HB hg; have aK := e0 HB hg; replace HB := s0 HB hb; clear hb hbox hg) | ((with_reducible refine gd 4 ?_); refine bE 4 _ 28 ?_; intro d7 hg u7 hbox hb; have aJ := am hbox; have mG := e1 HB aK hg; have aN := e1 HB aK hg; replace HB := s1 HB aK hb; have cW := nL aE hg; have cX := nG aE hg; replace aE := bB aE hb; clear hb hbox hg) | ((with_reducible refine gd 6 ?_); refine bE 6 _ 39 ?_; intro bD hg tK hbox hb; have aG := am hbox; have mH := e2 HB aK aN hg; have aU := e2 HB aK aN hg; replace HB := s2 HB aK aN hb; have bS := nL aE hg; have bU := nG aE hg; replace aE := bB aE hb; have bT := nL aJ hg; have bV := nG aJ hg; replace aJ := bB aJ hb; clear hb hbox hg; have sB := cW.out; have sT := cX.out; have sC := bS.out; have sU := bU.out; have oL : tK.cell? ⟨cG, 0, none⟩ = some (.int .i64 dW) := (qQa aE.out 0).trans rfl; have oM : tK.cell? ⟨cG, 1, none⟩ = some (.slice d9 cT.length eC) := (qQa aE.out 1).trans rfl; have pD := qQd aE.out 0; have pE := qQd aE.out 1; have sD := bT.out; have sV := bV.out; have uE := lc13 aJ.out) | ((with_reducible refine gf 16 ?_); refine gC (some 27) Tryz.func16 (qY8.calls _ _ _ _ _ _ fC lN _ ?side1 ?side2 A4.out) ?_; (case side1 => exact cq ((Kd.qZp jX.out HB.out))); (case side2 => exact jT.out); rintro e tL ⟨rfl, hb⟩; refine ⟨_, rfl, ?_⟩; replace aE := bB aE hb; replace aJ := bB aJ hb; replace aG := bB aG hb; replace HB := s3 HB aK aN aU hb; (try clear hb); (try clear hb2); (try clear hk); (try clear hi); have oN : tL.cell? ⟨bD, 0, none⟩ = some (.slice none 0 0) := (qQa aG.out 0).trans rfl; have oO : tL.cell? ⟨bD, 1, none⟩ = some (.slice none 0 0) := (qQa aG.out 1).trans rfl; have pF := qQd aG.out 0; have pG := qQd aG.out 1))
  refine bodyPost_ret (qY4 rfl _ _ bD 39 #[.slice none 0 0, .slice none 0 0] (0, 0) _ rfl (by refine bw ?_; refine qQ0 (cs := #[.slice none 0 0, .slice none 0 0]) ?_ 1 _ rfl; refine bw ?_; refine qQ0 (cs := #[.slice none 0 0, .slice none 0 0]) ?_ 0 _ rfl; refine bw ?_; exact aG.out) Tryz.underlying39 rfl (by kernel_rfl)) rfl ?_
  exact ⟨_, _, er, by first | exact Kd.R_nil _ _ _ _ _ | exact Kd.N_nil _ _ _ _ _ | exact Kd.V_nil _ _ _ _ _ | exact Kd.Q_nil _ _ _ _ _ | exact Kd.S_nil _ _ _ _ _, by first | exact Kd.R_nil _ _ _ _ _ | exact Kd.N_nil _ _ _ _ _ | exact Kd.V_nil _ _ _ _ _ | exact Kd.Q_nil _ _ _ _ _ | exact Kd.S_nil _ _ _ _ _, by exact h3q HB.out aK.out aN.out aU.out⟩
 rw [if_pos c5] at H
 have dH := beq_iff_eq.mpr c5
 have dX := bne_eq_false_iff_eq.mpr c5
 clear c5
 have H' := am H
 clear H
 go_enter Tryz.func34, Tryz.ntmps34
 go_wp2_with (first | ((with_reducible refine gd 3 ?_); refine bE 3 _ 37 ?_; intro cG hg w6 hbox hb; have aE := am hbox; have mF := e0 HB hg; have aK := e0 HB hg; replace HB := s0 HB hb; clear hb hbox hg) | ((with_reducible refine gd 4 ?_); refine bE 4 _ 28 ?_; intro d7 hg w7 hbox hb; have aJ := am hbox; have mG := e1 HB aK hg; have aN := e1 HB aK hg; replace HB := s1 HB aK hb; have cW := nL aE hg; have cX := nG aE hg; replace aE := bB aE hb; clear hb hbox hg) | ((with_reducible refine gd 6 ?_); refine bE 6 _ 39 ?_; intro bD hg w8 hbox hb; have aG := am hbox; have mH := e2 HB aK aN hg; have aU := e2 HB aK aN hg; replace HB := s2 HB aK aN hb; have bS := nL aE hg; have bU := nG aE hg; replace aE := bB aE hb; have bT := nL aJ hg; have bV := nG aJ hg; replace aJ := bB aJ hb; clear hb hbox hg; have t7 := cW.out; have t8 := cX.out; have rT := bS.out; have sE := bU.out; have eD : w8.cell? ⟨cG, 0, none⟩ = some (.int .i64 dW) := (qQa aE.out 0).trans rfl; have eE : w8.cell? ⟨cG, 1, none⟩ = some (.slice d9 cT.length eC) := (qQa aE.out 1).trans rfl; have eI := qQd aE.out 0; have eJ := qQd aE.out 1; have rU := bT.out; have sF := bV.out; have lA := lc13 aJ.out) | ((with_reducible refine gf 16 ?_); refine gC (some 27) Tryz.func16 (qY8.calls _ _ _ _ _ _ fC lN _ ?side1 ?side2 A4.out) ?_; (case side1 => exact cq ((Kd.qZp jX.out HB.out))); (case side2 => exact jT.out); rintro e pK ⟨rfl, hb⟩; refine ⟨_, rfl, ?_⟩; replace aE := bB aE hb; replace aJ := bB aJ hb; replace aG := bB aG hb; replace HB := s3 HB aK aN aU hb; (try clear hb); (try clear hb2); (try clear hk); (try clear hi)))
 go_loopg [10, 11, 12] k (fun kq nI qX uF w' => ∃ (cI : List Int) (bR : Int) (aZ : Int), qX = .int .i64 bR /\ uF = .int .i64 aZ /\ Aside0 (qQc.l0 kq l2 fC cI bR aZ = some (r1, r2, r3)) /\ Aside0 (kq <= k) /\ Aside0 (Kd.R (Kd.int .i64) 2 w' w.heap.size (fun _ => True) nI cI) /\ Aside0 (w'.heap[cG]? = some (.cells #[.int .i64 dW, (.slice d9 cT.length eC)] 37 (0, 0))) /\ Aside0 (w'.heap[d7]? = some (.cells #[.int .i64 eV, (.slice fK dQ.length fN), .int .i64 eW, .int .i64 eX, .int .i64 eA, .int .i64 eB, (.slice fL dR.length fO), .int .i64 eY, .int .i64 eZ, .int .i64 e4, .int .i64 dB, .int .i64 dC, .int .i64 dD] 28 (0, 0))) /\ Aside0 (w'.heap[bD]? = some (.cells #[(.slice none 0 0), (.slice none 0 0)] 39 (0, 0))) /\ Aside0 (Below w.heap.size w w'))
 case atStart => exact ⟨(([] : List Int)), (0), (0), fr, fr, H', ⟨Nat.le_refl _⟩, ⟨by first | exact Kd.R_nil _ _ _ _ _ | exact Kd.N_nil _ _ _ _ _ | exact Kd.V_nil _ _ _ _ _ | exact Kd.Q_nil _ _ _ _ _ | exact Kd.S_nil _ _ _ _ _⟩, bA aE, bA aJ, bA aG, a3_ HB aK aN aU⟩
 case round =>
  clear H'
  try clear c2
  try clear c5
  try clear dH dX
  try clear eD
  try clear eE
  try clear lA
  try clear eI
  try clear eJ
  obtain ⟨cI, bR, aZ, rfl, rfl, HA, jU, a3, aE, aJ, aG, HB⟩ := hrel
  rcases gk with _ | k1
  ·exact absurd HA.out (by simp [qQc.l0])
  have H := HA.out
  clear HA
  simp only [qQc.l0] at H
  by_cases e6 : aZ < (l2.length : Int)
  ·rw [if_pos e6] at H
   have dO := decide_eq_true e6
   clear e6
   by_cases g8 : 0 <= aZ
   case neg =>
    rw [if_neg g8] at H
    exact absurd H (by simp)
   rw [if_pos g8] at H
   have e7 := decide_eq_true g8
   clear g8
   obtain ⟨dU, iU⟩ : ∃ y_ : List Int, y_ = (([(qQb l2 aZ).f1] : List Int)) := ⟨_, rfl⟩
   replace H : (if cI.length + dU.length < 17592186044416 then ((some (cI ++ dU : List Int)).bind fun d2 => (if bR < 1000000000000000 then (qQc.l0 k1 l2 fC d2 (wrap64 (bR + ((qQb l2 aZ).f1))) (wrap64 (aZ + 1))) else (qQc.l0 k1 l2 fC d2 bR (wrap64 (aZ + 1))))) else (none)) = some (r1, r2, r3) := by exact hyq H iU
   have gB := am iU
   clear iU
   by_cases l4 : cI.length + dU.length < 17592186044416
   case neg =>
    rw [if_neg l4] at H
    exact absurd H (by simp)
   rw [if_pos l4] at H
   have jY := am l4
   clear l4
   obtain ⟨d2, iV⟩ : ∃ y_ : List Int, y_ = (cI ++ dU) := ⟨_, rfl⟩
   replace H : (if bR < 1000000000000000 then (qQc.l0 k1 l2 fC d2 (wrap64 (bR + ((qQb l2 aZ).f1))) (wrap64 (aZ + 1))) else (qQc.l0 k1 l2 fC d2 bR (wrap64 (aZ + 1)))) = some (r1, r2, r3) := by exact hyq H iV
   have jZ := am iV
   clear iV
   by_cases j8 : bR < 1000000000000000
   case neg =>
    rw [if_neg j8] at H
    have iB := decide_eq_false j8
    clear j8
    have H' := am H
    clear H
    have eN : 0 <= (aZ : Int) := yd
    have eO : aZ < (l2.length : Int) := yd
    obtain ⟨j3, k7, dP⟩ := qXr lY.out aZ eN eO
    cases k7
    replace dP := h13 HB dP
    replace eN := eq_true eN
    replace eO := eq_true eO
    go_wp2_with (first | ((with_reducible refine gd 46 ?_); refine Kd.R_lit (Kd.int .i64) _ 2 ?hg (N := 46) ?hd (xs := ([(qQb l2 aZ).f1] : List Int)) (inner := [.int .i64 ((qQb l2 aZ).f1)]) (ok := fun _ => True) (okp := fun _ => True) ?hr ?hp (fun _ hk => hk) trivial (Below.refl _ _) (Nat.le_refl _) (by simp) ?_; (case hd => rfl); (case hg => rfl); (case hr => first | (go_simp; done) | (go_simp; rfl)); (case hp => exact (Reps.one (show Kd.M (Kd.int .i64) _ _ _ ((qQb l2 aZ).f1) [.int .i64 ((qQb l2 aZ).f1)] from rfl) (Reps.none _ _))); intro qZ pL hF hb hg_ hnew_; clear hg_ hnew_; (first | rw [<- gB.out] at hF | (simp only [Int.reduceToNat] at hF; rw [<- gB.out] at hF)); have b8 := am (Kd.qZ1 (Kd.qXc hF (Kd.R_lt (by exact rq a3.out))) (qQn (by exact h3q HB.out aK.out aN.out aU.out))); replace a3 := Re a3 hF hb; replace aE := bB aE hb; replace aJ := bB aJ hb; replace aG := bB aG hb; replace HB := s3 HB aK aN aU hb; clear hb hF; obtain ⟨pP, pU, p7⟩ := Kd.qZq b8.out; subst p7) | ((with_reducible refine qY9 (b := .append) (xs := #[.tmp 40, .tmp 46]) rfl ?_); at_builtin; refine Kd.qWg (Kd.int .i64) (w0 := w) w.heap.size rfl (.tmp 40) (.tmp 46) 22 2 (.int .i64 0) 8 rfl Tryz.underlying22 info2 rfl (by decide) (by omega) u10 cI dU _ _ _ (fun k_ => some k_ ≠ (.slice pP dU.length pU : Value).ownBlock) (fun _ => False) rfl rfl ?aO ?aR (fun _ _ h => h) (fun _ h => h.elim) ?aF ?aB ?aS ?aL ?_; (case aR => exact cq ((Kd.qQq b8.out).2.2)); (case aB => exact (by exact h3q HB.out aK.out aN.out aU.out)); (case aF => exact (fun k_ hk => Kd.fresh' (Kd.R_lt (by exact rq b8.out)) k_ hk)); (case aO => exact (by refine rw_ ?_; exact Kd.qQ4 a3.out (fun _ hk => hk.2))); (case aS => exact (qQn (by exact h3q HB.out aK.out aN.out aU.out))); (case aL => have := jY.out; omega); intro q0 nJ ho hb hg hat; rw [<- jZ.out] at ho; replace aE := bG aE hg a3; replace aJ := bG aJ hg a3; replace aG := bG aG hg a3; replace b8 := am (Kd.qWc (ok := (fun _ => True)) (by exact rq b8.out) hg hat); replace HB := am hb; have hZ := am ho; clear a3; clear ho hb hg hat))
    go_roundg k1
    case measure => have := jU.out; omega
    case rel => exact ⟨(d2), (bR), (wrap64 (aZ + 1)), fr, fr, H', o1 jU, ⟨by refine rw_ ?_; exact Kd.qQ4 hZ.out (fun _ hk => trivial)⟩, bA aE, bA aJ, bA aG, a3_ HB aK aN aU⟩
   rw [if_pos j8] at H
   have iB := decide_eq_true j8
   clear j8
   have H' := am H
   clear H
   have eN : 0 <= (aZ : Int) := yd
   have eO : aZ < (l2.length : Int) := yd
   obtain ⟨j3, k7, dP⟩ := qXr lY.out aZ eN eO
   cases k7
   replace dP := h13 HB dP
   replace eN := eq_true eN
   replace eO := eq_true eO
   go_wp2_with (first | ((with_reducible refine gd 46 ?_); refine Kd.R_lit (Kd.int .i64) _ 2 ?hg (N := 46) ?hd (xs := ([(qQb l2 aZ).f1] : List Int)) (inner := [.int .i64 ((qQb l2 aZ).f1)]) (ok := fun _ => True) (okp := fun _ => True) ?hr ?hp (fun _ hk => hk) trivial (Below.refl _ _) (Nat.le_refl _) (by simp) ?_; (case hd => rfl); (case hg => rfl); (case hr => first | (go_simp; done) | (go_simp; rfl)); (case hp => exact (Reps.one (show Kd.M (Kd.int .i64) _ _ _ ((qQb l2 aZ).f1) [.int .i64 ((qQb l2 aZ).f1)] from rfl) (Reps.none _ _))); intro qZ u0 hE hb hg_ hnew_; clear hg_ hnew_; (first | rw [<- gB.out] at hE | (simp only [Int.reduceToNat] at hE; rw [<- gB.out] at hE)); have b8 := am (Kd.qZ1 (Kd.qXc hE (Kd.R_lt (by exact rq a3.out))) (qQn (by exact h3q HB.out aK.out aN.out aU.out))); replace a3 := Re a3 hE hb; replace aE := bB aE hb; replace aJ := bB aJ hb; replace aG := bB aG hb; replace HB := s3 HB aK aN aU hb; clear hb hE; obtain ⟨pO, pT, p5⟩ := Kd.qZq b8.out; subst p5) | ((with_reducible refine qY9 (b := .append) (xs := #[.tmp 40, .tmp 46]) rfl ?_); at_builtin; refine Kd.qWg (Kd.int .i64) (w0 := w) w.heap.size rfl (.tmp 40) (.tmp 46) 22 2 (.int .i64 0) 8 rfl Tryz.underlying22 info2 rfl (by decide) (by omega) u10 cI dU _ _ _ (fun k_ => some k_ ≠ (.slice pO dU.length pT : Value).ownBlock) (fun _ => False) rfl rfl ?aO ?aR (fun _ _ h => h) (fun _ h => h.elim) ?aF ?aB ?aS ?aL ?_; (case aR => exact cq ((Kd.qQq b8.out).2.2)); (case aB => exact (by exact h3q HB.out aK.out aN.out aU.out)); (case aF => exact (fun k_ hk => Kd.fresh' (Kd.R_lt (by exact rq b8.out)) k_ hk)); (case aO => exact (by refine rw_ ?_; exact Kd.qQ4 a3.out (fun _ hk => hk.2))); (case aS => exact (qQn (by exact h3q HB.out aK.out aN.out aU.out))); (case aL => have := jY.out; omega); intro q0 tH ho hb hg hat; rw [<- jZ.out] at ho; replace aE := bG aE hg a3; replace aJ := bG aJ hg a3; replace aG := bG aG hg a3; replace b8 := am (Kd.qWc (ok := (fun _ => True)) (by exact rq b8.out) hg hat); replace HB := am hb; have hZ := am ho; clear a3; clear ho hb hg hat; have i2 : 0 <= (aZ : Int) := yd; have i4 : aZ < (l2.length : Int) := yd; obtain ⟨mX, p0, g1⟩ := qXr lY.out aZ i2 i4; obtain rfl : j3 = mX := (by injection p0); replace g1 := h13 HB g1; replace i2 := eq_true i2; replace i4 := eq_true i4))
   go_roundg k1
   case measure => have := jU.out; omega
   case rel => exact ⟨(d2), (wrap64 (bR + ((qQb l2 aZ).f1))), (wrap64 (aZ + 1)), fr, fr, H', o1 jU, ⟨by refine rw_ ?_; exact Kd.qQ4 hZ.out (fun _ hk => trivial)⟩, bA aE, bA aJ, bA aG, a3_ HB aK aN aU⟩
  rw [if_neg e6] at H
  have dO := decide_eq_false e6
  clear e6
  by_cases kS : 0 <= (l2.length : Int)
  case neg =>
   rw [if_neg kS] at H
   exact absurd H (by simp)
  rw [if_pos kS] at H
  have j9 := eq_true kS
  have kA := decide_eq_true kS
  clear kS
  by_cases kT : ((l2.length : Int) : Int).toNat <= 35184372088832
  case neg =>
   rw [if_neg kT] at H
   exact absurd H (by simp)
  rw [if_pos kT] at H
  have kB := eq_true kT
  have kC := decide_eq_true kT
  clear kT
  obtain ⟨nP, iW⟩ : ∃ y_ : List Int, y_ = (List.replicate ((l2.length : Int) : Int).toNat 0) := ⟨_, rfl⟩
  replace H : (if bR > 0 then ((qQf.f k1 fC cI).bind fun dN => (if dN.2 = 0 then (qQc.j1 k1 l2 dN.1) else (some (([] : List Int), ([] : List Int), dN.2)))) else (qQc.j1 k1 l2 nP)) = some (r1, r2, r3) := by exact hyq H iW
  have j2 := am iW
  clear iW
  have kO := am H
  clear H
  go_upto_if 61 with (first | ((with_reducible refine gd 59 ?_); refine Kd.zXu (Kd.int .i64) _ 2 rfl (N := 59) rfl 22 _ _ rfl (l2.length : Int) rfl rfl Tryz.underlying22 (.int .i64 0) 8 info2 rfl (by decide) (by omega) 0 (ok := fun _ => True) (okp := fun _ => True) rfl (fun _ hk => hk) trivial (yd) (Nat.le_trans (Nat.mul_le_mul_right _ (yd : (l2.length : Int).toNat <= 35184372088832)) (by omega)) (Below.refl _ _) (Nat.le_refl _) ?_; intro uN nK hG hb hg_ hnew_; clear hg_ hnew_; (first | rw [<- j2.out] at hG | (simp only [Int.reduceToNat] at hG; rw [<- j2.out] at hG)); have dM := am (Kd.qZ1 (Kd.qXc hG (Kd.R_lt (by exact rq a3.out))) (qQn (by exact h3q HB.out aK.out aN.out aU.out))); replace a3 := Re a3 hG hb; replace aE := bB aE hb; replace aJ := bB aJ hb; replace aG := bB aG hb; replace HB := s3 HB aK aN aU hb; clear hb hG))
  (try simp only [Act.put, List.setIfInBounds_toArray, List.set_cons_zero, List.set_cons_succ])
  go_cut [13] (fun uG wc => ∃ (kq : Nat) (aW : List Int), Aside0 (qQc.j1 kq l2 aW = some (r1, r2, r3)) /\ Aside0 (kq <= k1) /\ Aside0 (Kd.R (Kd.int .i64) 2 wc w.heap.size (fun _ => True) uG aW) /\ Aside0 (wc.heap[cG]? = some (.cells #[.int .i64 dW, (.slice d9 cT.length eC)] 37 (0, 0))) /\ Aside0 (wc.heap[d7]? = some (.cells #[.int .i64 eV, (.slice fK dQ.length fN), .int .i64 eW, .int .i64 eX, .int .i64 eA, .int .i64 eB, (.slice fL dR.length fO), .int .i64 eY, .int .i64 eZ, .int .i64 e4, .int .i64 dB, .int .i64 dC, .int .i64 dD] 28 (0, 0))) /\ Aside0 (wc.heap[bD]? = some (.cells #[(.slice none 0 0), (.slice none 0 0)] 39 (0, 0))) /\ Aside0 (Below w.heap.size w wc))
  case first =>
   have H := kO.out
   clear kO
   by_cases fJ : bR > 0
   case neg =>
    rw [if_neg fJ] at H
    have cF : decide (0 < bR) = false := decide_eq_false fJ
    clear fJ
    (first | rw [cF] | (simp only [i64_w, i32_w]; rw [cF]) | skip)
    have H' := am H
    clear H
    go_wp2
    go_meet
    case rel => exact ⟨_, (nP), H', o1 jU, ⟨by refine rw_ ?_; exact Kd.qQ4 dM.out (fun _ hk => trivial)⟩, bA aE, bA aJ, bA aG, a3_ HB aK aN aU⟩
   rw [if_pos fJ] at H
   have cF : decide (0 < bR) = true := decide_eq_true fJ
   clear fJ
   (first | rw [cF] | (simp only [i64_w, i32_w]; rw [cF]) | skip)
   obtain ⟨⟨lO, lP⟩, q9, H⟩ := bd H
   by_cases jF : lP = 0
   ·rw [if_pos jF] at H
    have iC := beq_iff_eq.mpr jF
    have iD := bne_eq_false_iff_eq.mpr jF
    clear jF
    have H' := am H
    clear H
    obtain ⟨tO, tZ, p8⟩ := Kd.qZq a3.out
    subst p8
    go_wp2_with (first | ((with_reducible refine gf 54 ?_); refine gC (some 65) Tryz.func54 (qQf.calls _ _ _ _ _ lO lP _ ?side1 ?side2 q9.out) ?_; (case side1 => exact cq ((Kd.qQq a3.out).2.2)); (case side2 => exact (Kd.qQq a3.out).2.1); rintro e u3 ⟨q2, rfl, jK, hb⟩; refine ⟨_, rfl, ?_⟩; have jV := am (Kd.qZ1 (Kd.qXc (Kd.qXc jK (Kd.R_lt (by exact rq a3.out))) (Kd.R_lt (by exact rq dM.out))) (qQn (by exact h3q HB.out aK.out aN.out aU.out))); replace a3 := Re a3 jK hb; replace dM := Re dM jK hb; replace aE := bB aE hb; replace aJ := bB aJ hb; replace aG := bB aG hb; replace HB := s3 HB aK aN aU hb; (try clear hb); (try clear hb2); (try clear hk); (try clear hi); (try clear jK)))
    go_meet
    case rel => exact ⟨_, (lO), H', o1 jU, ⟨by refine rw_ ?_; exact Kd.qQ4 jV.out (fun _ hk => trivial)⟩, bA aE, bA aJ, bA aG, a3_ HB aK aN aU⟩
   rw [if_neg jF] at H
   have iC := beq_eq_false_iff_ne.mpr jF
   have iD := bne_iff_ne.mpr jF
   simp only [Option.some.injEq, Prod.mk.injEq] at H
   obtain ⟨rfl, rfl, rfl⟩ := H
   obtain ⟨tP, t0, p9⟩ := Kd.qZq a3.out
   subst p9
   go_wp2_with (first | ((with_reducible refine gf 54 ?_); refine gC (some 65) Tryz.func54 (qQf.calls _ _ _ _ _ lO lP _ ?side1 ?side2 q9.out) ?_; (case side1 => exact cq ((Kd.qQq a3.out).2.2)); (case side2 => exact (Kd.qQq a3.out).2.1); rintro e tI ⟨q2, rfl, jK, hb⟩; refine ⟨_, rfl, ?_⟩; have jV := am (Kd.qZ1 (Kd.qXc (Kd.qXc jK (Kd.R_lt (by exact rq a3.out))) (Kd.R_lt (by exact rq dM.out))) (qQn (by exact h3q HB.out aK.out aN.out aU.out))); replace a3 := Re a3 jK hb; replace dM := Re dM jK hb; replace aE := bB aE hb; replace aJ := bB aJ hb; replace aG := bB aG hb; replace HB := s3 HB aK aN aU hb; (try clear hb); (try clear hb2); (try clear hk); (try clear hi); (try clear jK); have rY := bU.out; have sJ := bS.out; have rZ := bV.out; have sK := bT.out; have gO : tI.cell? ⟨bD, 0, none⟩ = some (.slice none 0 0) := (qQa aG.out 0).trans rfl; have gP : tI.cell? ⟨bD, 1, none⟩ = some (.slice none 0 0) := (qQa aG.out 1).trans rfl; have gY := qQd aG.out 0; have gZ := qQd aG.out 1))
   refine bodyPost_ret (qY4 rfl _ _ bD 39 #[.slice none 0 0, .slice none 0 0] (0, 0) _ rfl (by refine bw ?_; refine qQ0 (cs := #[.slice none 0 0, .slice none 0 0]) ?_ 1 _ rfl; refine bw ?_; refine qQ0 (cs := #[.slice none 0 0, .slice none 0 0]) ?_ 0 _ rfl; refine bw ?_; exact aG.out) Tryz.underlying39 rfl (by kernel_rfl)) rfl ?_
   exact ⟨_, _, er, by first | exact Kd.R_nil _ _ _ _ _ | exact Kd.N_nil _ _ _ _ _ | exact Kd.V_nil _ _ _ _ _ | exact Kd.Q_nil _ _ _ _ _ | exact Kd.S_nil _ _ _ _ _, by first | exact Kd.R_nil _ _ _ _ _ | exact Kd.N_nil _ _ _ _ _ | exact Kd.V_nil _ _ _ _ _ | exact Kd.Q_nil _ _ _ _ _ | exact Kd.S_nil _ _ _ _ _, by exact h3q HB.out aK.out aN.out aU.out⟩
  case rest =>
   clear kO
   try clear c2
   try clear c5
   try clear dH dX
   try clear e6
   try clear dO
   try clear g8
   try clear e7
   try clear l4
   try clear j8
   try clear iB
   try clear kS
   try clear j9 kA
   try clear kT
   try clear kB kC
   try clear fJ
   try clear cF
   try clear jF
   try clear iC iD
   try clear eD
   try clear eE
   try clear lA
   try clear gO
   try clear gP
   try clear eI
   try clear eJ
   try clear gY
   try clear gZ
   try clear dP
   try clear g1
   try clear eN
   try clear i2
   try clear eO
   try clear i4
   obtain ⟨kq, aW, HA, mK, aX, aE, aJ, aG, HB⟩ := hcut
   rcases kq with _ | nC
   ·exact absurd HA.out (by simp [qQc.j1])
   have H := HA.out
   clear HA
   simp only [qQc.j1] at H
   have H' := am H
   clear H
   go_wp2_with (first | ((with_reducible refine gd 16 ?_); refine bE 16 _ 39 ?_; intro bF hg u4 hbox hb; replace aX := Rb aX hb; have aM := am hbox; have rD := e3 HB aK aN aU hg; have a7 := e3 HB aK aN aU hg; replace HB := s3 HB aK aN aU hb; have cB := nL aE hg; have cY := nG aE hg; replace aE := bB aE hb; have cC := nL aJ hg; have cZ := nG aJ hg; replace aJ := bB aJ hb; have b2 := nL aG hg; have cD := nG aG hg; replace aG := bB aG hb; clear hb hbox hg))
   go_loopg [17] nC (fun kq uI w' => ∃ (aA : Int) (aQ : List Int) (aH : List Int) (u436000 : Value) (u436001 : Value), uI = .int .i64 aA /\ Aside0 (qQc.l1 kq l2 aW aA aQ aH = some (r1, r2, r3)) /\ Aside0 (kq <= nC) /\ Aside0 (Kd.R (Kd.int .i64) 2 w' w.heap.size (fun k_ => some k_ ≠ (u436001 : Value).ownBlock) u13 aW) /\ Aside0 (Kd.R (Kd.int .i64) 3 w' w.heap.size (fun _ => True) u436000 aQ) /\ Aside0 (Kd.R (Kd.int .i64) 2 w' w.heap.size (fun k_ => some k_ ≠ (u13 : Value).ownBlock) u436001 aH) /\ Aside0 (w'.heap[cG]? = some (.cells #[.int .i64 dW, (.slice d9 cT.length eC)] 37 (0, 0))) /\ Aside0 (w'.heap[d7]? = some (.cells #[.int .i64 eV, (.slice fK dQ.length fN), .int .i64 eW, .int .i64 eX, .int .i64 eA, .int .i64 eB, (.slice fL dR.length fO), .int .i64 eY, .int .i64 eZ, .int .i64 e4, .int .i64 dB, .int .i64 dC, .int .i64 dD] 28 (0, 0))) /\ Aside0 (w'.heap[bD]? = some (.cells #[(.slice none 0 0), (.slice none 0 0)] 39 (0, 0))) /\ Aside0 (w'.heap[bF]? = some (.cells #[u436000, u436001] 39 (0, 0))) /\ Aside0 (Below w.heap.size w w'))
   case atStart => exact ⟨(0), (([] : List Int)), (([] : List Int)), (.slice none 0 0), (.slice none 0 0), fr, H', ⟨Nat.le_refl _⟩, ⟨by refine rw_ ?_; exact Kd.qQ4 aX.out (fun _ hk => (by simp [Value.ownBlock]))⟩, ⟨by first | exact Kd.R_nil _ _ _ _ _ | exact Kd.N_nil _ _ _ _ _ | exact Kd.V_nil _ _ _ _ _ | exact Kd.Q_nil _ _ _ _ _ | exact Kd.S_nil _ _ _ _ _⟩, ⟨by first | exact Kd.R_nil _ _ _ _ _ | exact Kd.N_nil _ _ _ _ _ | exact Kd.V_nil _ _ _ _ _ | exact Kd.Q_nil _ _ _ _ _ | exact Kd.S_nil _ _ _ _ _⟩, bA aE, bA aJ, bA aG, bA aM, a4_ HB aK aN aU a7⟩
   case round =>
    clear H'
    try clear c2
    try clear c5
    try clear dH dX
    try clear e6
    try clear dO
    try clear g8
    try clear e7
    try clear l4
    try clear j8
    try clear iB
    try clear kS
    try clear j9 kA
    try clear kT
    try clear kB kC
    try clear fJ
    try clear cF
    try clear jF
    try clear iC iD
    try clear eD
    try clear eE
    try clear lA
    try clear gO
    try clear gP
    try clear eI
    try clear eJ
    try clear gY
    try clear gZ
    try clear dP
    try clear g1
    try clear eN
    try clear i2
    try clear eO
    try clear i4
    obtain ⟨aA, aQ, aH, u436000, u436001, rfl, HA, fM, aX, aC, aD, aE, aJ, aG, aM, HB⟩ := hrel
    rcases gk with _ | k3
    ·exact absurd HA.out (by simp [qQc.l1])
    have H := HA.out
    clear HA
    simp only [qQc.l1] at H
    by_cases g9 : aA < (l2.length : Int)
    case neg =>
     rw [if_neg g9] at H
     have iE := decide_eq_false g9
     clear g9
     simp only [Option.some.injEq, Prod.mk.injEq] at H
     obtain ⟨rfl, rfl, rfl⟩ := H
     have r6 := cY.out
     have sO := cB.out
     have r7 := cZ.out
     have sP := cC.out
     have r8 := cD.out
     have sQ := b2.out
     have oH : wr.cell? ⟨bF, 0, none⟩ = some (u436000) := (qQa aM.out 0).trans rfl
     have oI : wr.cell? ⟨bF, 1, none⟩ = some (u436001) := (qQa aM.out 1).trans rfl
     have o9 := qQd aM.out 0
     have pA := qQd aM.out 1
     obtain ⟨jE, jJ, qJ⟩ := Kd.qZq aC.out
     subst qJ
     have r9 := bU.out
     have sR := bS.out
     have sA := bV.out
     have sS := bT.out
     have oJ : wr.cell? ⟨bD, 0, none⟩ = some (.slice none 0 0) := (qQa aG.out 0).trans rfl
     have oK : wr.cell? ⟨bD, 1, none⟩ = some (.slice none 0 0) := (qQa aG.out 1).trans rfl
     have pB := qQd aG.out 0
     have pC := qQd aG.out 1
     obtain ⟨kN, kY, qK⟩ := Kd.qZq aD.out
     subst qK
     go_wp2
     refine bodyPost_ret (qY4 rfl _ _ bD 39 #[.slice jE aQ.length jJ, .slice kN aH.length kY] (0, 0) _ rfl (by refine bw ?_; refine qQ0 (cs := #[.slice jE aQ.length jJ, .slice none 0 0]) ?_ 1 _ rfl; refine bw ?_; refine qQ0 (cs := #[.slice none 0 0, .slice none 0 0]) ?_ 0 _ rfl; refine bw ?_; exact aG.out) Tryz.underlying39 rfl (by kernel_rfl)) rfl ?_
     exact ⟨_, _, er, by refine rw_ ?_; exact Kd.qQ4 (Kd.R_far (p := ⟨bD, 1, none⟩) (Kd.R_far (p := ⟨bD, 0, none⟩) (Kd.qZy aC.out aG.out (by decide)) (fun _ hk => hk.2) (.slice jE aQ.length jJ)) (fun _ hk => hk.2) (.slice kN aH.length kY)) (fun _ hk => trivial), by refine rw_ ?_; exact Kd.qQ4 (Kd.R_far (p := ⟨bD, 1, none⟩) (Kd.R_far (p := ⟨bD, 0, none⟩) (Kd.qZy aD.out aG.out (by decide)) (fun _ hk => hk.2) (.slice jE aQ.length jJ)) (fun _ hk => hk.2) (.slice kN aH.length kY)) (fun _ hk => trivial), by exact h4q HB.out aK.out aN.out aU.out a7.out⟩
    rw [if_pos g9] at H
    have iE := decide_eq_true g9
    clear g9
    by_cases nV : 0 <= aA
    case neg =>
     rw [if_neg nV] at H
     exact absurd H (by simp)
    rw [if_pos nV] at H
    have rO := decide_eq_true nV
    clear nV
    obtain ⟨⟨fY, lQ⟩, pN, H⟩ := bd H
    by_cases hU : lQ = 0
    case neg =>
     rw [if_neg hU] at H
     have kF := beq_eq_false_iff_ne.mpr hU
     have m2 := bne_iff_ne.mpr hU
     simp only [Option.some.injEq, Prod.mk.injEq] at H
     obtain ⟨rfl, rfl, rfl⟩ := H
     have fS : 0 <= (aA : Int) := yd
     have fV : aA < (l2.length : Int) := yd
     obtain ⟨aI, k8, fB⟩ := qXr lY.out aA fS fV
     cases k8
     replace fB := h13 HB fB
     replace fS := eq_true fS
     replace fV := eq_true fV
     go_wp2_with (first | ((with_reducible refine gf 14 ?_); refine gC (some 84) Tryz.func14 (qZx.calls _ _ _ _ _ _ _ _ _ _ _ _ _ fY lQ _ pN.out) ?_; rintro e tJ ⟨rfl, hb⟩; refine ⟨_, rfl, ?_⟩; replace aX := Rb aX hb; replace aC := Rb aC hb; replace aD := Rb aD hb; replace aE := bB aE hb; replace aJ := bB aJ hb; replace aG := bB aG hb; replace aM := bB aM hb; replace HB := s4 HB aK aN aU a7 hb; (try clear hb); (try clear hb2); (try clear hk); (try clear hi); have r0 := bU.out; have sL := bS.out; have r4 := bV.out; have sM := bT.out; have r5 := b2.out; have sN := cD.out; have oF : tJ.cell? ⟨bD, 0, none⟩ = some (.slice none 0 0) := (qQa aG.out 0).trans rfl; have oG : tJ.cell? ⟨bD, 1, none⟩ = some (.slice none 0 0) := (qQa aG.out 1).trans rfl; have o7 := qQd aG.out 0; have o8 := qQd aG.out 1))
     refine bodyPost_ret (qY4 rfl _ _ bD 39 #[.slice none 0 0, .slice none 0 0] (0, 0) _ rfl (by refine bw ?_; refine qQ0 (cs := #[.slice none 0 0, .slice none 0 0]) ?_ 1 _ rfl; refine bw ?_; refine qQ0 (cs := #[.slice none 0 0, .slice none 0 0]) ?_ 0 _ rfl; refine bw ?_; exact aG.out) Tryz.underlying39 rfl (by kernel_rfl)) rfl ?_
     exact ⟨_, _, er, by first | exact Kd.R_nil _ _ _ _ _ | exact Kd.N_nil _ _ _ _ _ | exact Kd.V_nil _ _ _ _ _ | exact Kd.Q_nil _ _ _ _ _ | exact Kd.S_nil _ _ _ _ _, by first | exact Kd.R_nil _ _ _ _ _ | exact Kd.N_nil _ _ _ _ _ | exact Kd.V_nil _ _ _ _ _ | exact Kd.Q_nil _ _ _ _ _ | exact Kd.S_nil _ _ _ _ _, by exact h4q HB.out aK.out aN.out aU.out a7.out⟩
    rw [if_pos hU] at H
    have kF := beq_iff_eq.mpr hU
    have m2 := bne_eq_false_iff_eq.mpr hU
    clear hU
    obtain ⟨b7, iX⟩ : ∃ y_ : List Int, y_ = (([(qQb l2 aA).f0] : List Int)) := ⟨_, rfl⟩
    replace H : (if aQ.length + b7.length < 17592186044416 then (if aA < (aW.length : Int) then ((some (([mn (rd aW aA) fY] : List Int) : List Int)).bind fun b0 => (if aH.length + b0.length < 17592186044416 then (qQc.l1 k3 l2 aW (wrap64 (aA + 1)) (aQ ++ b7) (aH ++ b0)) else (none))) else (none)) else (none)) = some (r1, r2, r3) := by exact hyq H iX
    have gD := am iX
    clear iX
    by_cases jG : aQ.length + b7.length < 17592186044416
    case neg =>
     rw [if_neg jG] at H
     exact absurd H (by simp)
    rw [if_pos jG] at H
    have h0 := am jG
    clear jG
    obtain ⟨dK, iY⟩ : ∃ y_ : List Int, y_ = (aQ ++ b7) := ⟨_, rfl⟩
    replace H : (if aA < (aW.length : Int) then ((some (([mn (rd aW aA) fY] : List Int) : List Int)).bind fun b0 => (if aH.length + b0.length < 17592186044416 then (qQc.l1 k3 l2 aW (wrap64 (aA + 1)) dK (aH ++ b0)) else (none))) else (none)) = some (r1, r2, r3) := by exact hyq H iY
    have h3 := am iY
    clear iY
    by_cases iF : aA < (aW.length : Int)
    case neg =>
     rw [if_neg iF] at H
     exact absurd H (by simp)
    rw [if_pos iF] at H
    have kG := decide_eq_true iF
    clear iF
    obtain ⟨cL, g0⟩ : ∃ j_ : Int, (mn (rd aW aA) fY) = j_ := ⟨_, rfl⟩
    replace H : ((some (([cL] : List Int) : List Int)).bind fun b0 => (if aH.length + b0.length < 17592186044416 then (qQc.l1 k3 l2 aW (wrap64 (aA + 1)) dK (aH ++ b0)) else (none))) = some (r1, r2, r3) := by first | (rw [g0] at H; exact H) | (simp only [g0] at H ⊢; exact H)
    (try rw [g0] at pN)
    have hji49_ : (if fY < (rd aW aA) then fY else (rd aW aA)) = cL := g0
    obtain ⟨b0, iZ⟩ : ∃ y_ : List Int, y_ = (([cL] : List Int)) := ⟨_, rfl⟩
    replace H : (if aH.length + b0.length < 17592186044416 then (qQc.l1 k3 l2 aW (wrap64 (aA + 1)) dK (aH ++ b0)) else (none)) = some (r1, r2, r3) := by exact hyq H iZ
    have d4 := am iZ
    clear iZ
    by_cases nW : aH.length + b0.length < 17592186044416
    case neg =>
     rw [if_neg nW] at H
     exact absurd H (by simp)
    rw [if_pos nW] at H
    have mP := am nW
    clear nW
    obtain ⟨hP, i0⟩ : ∃ y_ : List Int, y_ = (aH ++ b0) := ⟨_, rfl⟩
    replace H : (qQc.l1 k3 l2 aW (wrap64 (aA + 1)) dK hP) = some (r1, r2, r3) := by exact hyq H i0
    have mV := am i0
    clear i0
    have H' := am H
    clear H
    have fS : 0 <= (aA : Int) := yd
    have fV : aA < (l2.length : Int) := yd
    obtain ⟨aI, k8, fB⟩ := qXr lY.out aA fS fV
    cases k8
    replace fB := h13 HB fB
    replace fS := eq_true fS
    replace fV := eq_true fV
    try go_wp2_with (first | ((with_reducible refine gf 14 ?_); refine gC (some 84) Tryz.func14 (qZx.calls _ _ _ _ _ _ _ _ _ _ _ _ _ fY lQ _ pN.out) ?_; rintro e uQ ⟨rfl, hb⟩; refine ⟨_, rfl, ?_⟩; replace aX := Rb aX hb; replace aC := Rb aC hb; replace aD := Rb aD hb; replace aE := bB aE hb; replace aJ := bB aJ hb; replace aG := bB aG hb; replace aM := bB aM hb; replace HB := s4 HB aK aN aU a7 hb; (try clear hb); (try clear hb2); (try clear hk); (try clear hi); obtain ⟨dV, dY, qE⟩ := Kd.qZq aC.out; subst qE; obtain ⟨cJ, cK, qF⟩ := Kd.qZq aD.out; subst qF))
    replace aX := am (Kd.qVj aX.out)
    replace aC := am (Kd.qVj aC.out)
    replace aD := am (Kd.qVj aD.out)
    replace aE := am (qXf aE.out)
    replace aJ := am (qXf aJ.out)
    replace aG := am (qXf aG.out)
    replace aM := am (qXf aM.out)
    replace HB := am (qZk HB.out)
    have lD : 0 <= (aA : Int) := yd
    have lG : aA < (l2.length : Int) := yd
    obtain ⟨mY, p3, g2⟩ := qXr lY.out aA lD lG
    have cH := g2
    obtain rfl : aI = mY := (by injection p3)
    replace g2 := h13 HB g2
    replace lD := eq_true lD
    replace lG := eq_true lG
    obtain ⟨tV, fA, m5⟩ := Kd.qZq aX.out
    (first | subst m5 | (injection m5 with f1_ f2_ f3_; have f4_ := f1_.symm; have f5_ := f3_.symm; clear f1_ f2_ f3_; subst f4_; subst f5_))
    have dS : 0 <= (aA : Int) := yd
    have dT : aA < (aW.length : Int) := yd
    obtain ⟨bW, p4, bK⟩ := Kd.qZ7 (Kd.qQq aX.out).2.2 aA dS dT
    cases p4
    replace dS := eq_true dS
    replace dT := eq_true dT
    refine start_ (n := 23) (S := fun w' => w'.cell? ⟨bF, 0, none⟩ = some (.slice dV aQ.length dY) /\ w'.cell? ⟨bF, 1, none⟩ = some (.slice cJ aH.length cK) /\ w'.cell? (aI.add ((aA).toNat * 13)) = some (.int .i64 ((qQb l2 aA).f0)) /\ w'.cell? ⟨(aI.add ((aA).toNat * 13)).block, (aI.add ((aA).toNat * 13)).off + 1, none⟩ = some (.int .i64 ((qQb l2 aA).f1)) /\ w'.cell? ⟨(aI.add ((aA).toNat * 13)).block, (aI.add ((aA).toNat * 13)).off + 2, none⟩ = some (.int .i64 ((qQb l2 aA).f2)) /\ w'.cell? ⟨(aI.add ((aA).toNat * 13)).block, (aI.add ((aA).toNat * 13)).off + 3, none⟩ = some (.int .i64 ((qQb l2 aA).f3)) /\ w'.cell? ⟨(aI.add ((aA).toNat * 13)).block, (aI.add ((aA).toNat * 13)).off + 4, none⟩ = some (.int .i64 ((qQb l2 aA).f4)) /\ w'.cell? ⟨(aI.add ((aA).toNat * 13)).block, (aI.add ((aA).toNat * 13)).off + 5, none⟩ = some (.int .i64 ((qQb l2 aA).f5)) /\ w'.cell? ⟨(aI.add ((aA).toNat * 13)).block, (aI.add ((aA).toNat * 13)).off + 6, none⟩ = some (.bool ((qQb l2 aA).f6)) /\ w'.cell? ⟨(aI.add ((aA).toNat * 13)).block, (aI.add ((aA).toNat * 13)).off + 7, none⟩ = some (.int .i64 ((qQb l2 aA).f7)) /\ w'.cell? ⟨(aI.add ((aA).toNat * 13)).block, (aI.add ((aA).toNat * 13)).off + 8, none⟩ = some (.int .i64 ((qQb l2 aA).f8)) /\ w'.cell? ⟨(aI.add ((aA).toNat * 13)).block, (aI.add ((aA).toNat * 13)).off + 9, none⟩ = some (.int .i64 ((qQb l2 aA).f9)) /\ w'.cell? ⟨(aI.add ((aA).toNat * 13)).block, (aI.add ((aA).toNat * 13)).off + 10, none⟩ = some (.int .i64 ((qQb l2 aA).f10)) /\ w'.cell? ⟨(aI.add ((aA).toNat * 13)).block, (aI.add ((aA).toNat * 13)).off + 11, none⟩ = some (.int .i64 ((qQb l2 aA).f11)) /\ w'.cell? ⟨(aI.add ((aA).toNat * 13)).block, (aI.add ((aA).toNat * 13)).off + 12, none⟩ = some (.int .i64 ((qQb l2 aA).f12)) /\ w'.cell? (bW.add (aA).toNat) = some (.int .i64 (rd aW aA))) (ds := [20, 22]) (qQc.fl 23 0) (by kernel_rfl) rfl rfl ⟨(qQa aM.out 0).trans rfl, (qQa aM.out 1).trans rfl, ap13 (h13 HB cH) bK⟩ (fun hHeld => ?_); refine qX5 qQc.tab25 qQc.bits25 (fun HT_ HW_ => ?_)
    generalize uQ.drew = u5 at aX aC aD aE aJ aG aM HB g2 bK hHeld ⊢
    refine qQc.y 0 91 23 1 HT_.out ?_
    refine qQc.y 2 93 23 5 HT_.out ?_
    refine qQc.y 3 94 23 13 HT_.out ?_
    refine qQc.y 4 95 23 29 HT_.out ?_
    refine qQc.y 5 96 23 61 HT_.out ?_
    refine qQc.y 9 100 23 573 HT_.out ?_
    refine qQc.y 11 102 23 2621 HT_.out ?_
    refine qQc.y 12 103 23 6717 HT_.out ?_
    refine qQc.y 13 104 23 14909 HT_.out ?_
    refine qQc.y 15 106 23 47677 HT_.out ?_
    refine qQc.t 1 92 23 47679 HT_.out HW_.out hHeld ?_
    refine qQc.t 6 97 23 47743 HT_.out HW_.out hHeld ?_
    refine qQc.t 10 101 23 48767 HT_.out HW_.out hHeld ?_
    refine qQc.t 14 105 23 65151 HT_.out HW_.out hHeld ?_
    refine qQc.y 16 107 23 130687 HT_.out ?_
    refine join_ (σ := Value × Value × Value) 4 (qQc.fl 23 786431) (fun s_ => [(98, s_.1), (99, s_.2.1), (108, s_.2.2), (110, .pointer (some ⟨bF, 0, none⟩))]) (fun s_ w' => (w'.cell? ⟨bF, 0, none⟩ = some (.slice dV aQ.length dY) /\ w'.cell? ⟨bF, 1, none⟩ = some (.slice cJ aH.length cK) /\ w'.cell? (aI.add ((aA).toNat * 13)) = some (.int .i64 ((qQb l2 aA).f0)) /\ w'.cell? ⟨(aI.add ((aA).toNat * 13)).block, (aI.add ((aA).toNat * 13)).off + 1, none⟩ = some (.int .i64 ((qQb l2 aA).f1)) /\ w'.cell? ⟨(aI.add ((aA).toNat * 13)).block, (aI.add ((aA).toNat * 13)).off + 2, none⟩ = some (.int .i64 ((qQb l2 aA).f2)) /\ w'.cell? ⟨(aI.add ((aA).toNat * 13)).block, (aI.add ((aA).toNat * 13)).off + 3, none⟩ = some (.int .i64 ((qQb l2 aA).f3)) /\ w'.cell? ⟨(aI.add ((aA).toNat * 13)).block, (aI.add ((aA).toNat * 13)).off + 4, none⟩ = some (.int .i64 ((qQb l2 aA).f4)) /\ w'.cell? ⟨(aI.add ((aA).toNat * 13)).block, (aI.add ((aA).toNat * 13)).off + 5, none⟩ = some (.int .i64 ((qQb l2 aA).f5)) /\ w'.cell? ⟨(aI.add ((aA).toNat * 13)).block, (aI.add ((aA).toNat * 13)).off + 6, none⟩ = some (.bool ((qQb l2 aA).f6)) /\ w'.cell? ⟨(aI.add ((aA).toNat * 13)).block, (aI.add ((aA).toNat * 13)).off + 7, none⟩ = some (.int .i64 ((qQb l2 aA).f7)) /\ w'.cell? ⟨(aI.add ((aA).toNat * 13)).block, (aI.add ((aA).toNat * 13)).off + 8, none⟩ = some (.int .i64 ((qQb l2 aA).f8)) /\ w'.cell? ⟨(aI.add ((aA).toNat * 13)).block, (aI.add ((aA).toNat * 13)).off + 9, none⟩ = some (.int .i64 ((qQb l2 aA).f9)) /\ w'.cell? ⟨(aI.add ((aA).toNat * 13)).block, (aI.add ((aA).toNat * 13)).off + 10, none⟩ = some (.int .i64 ((qQb l2 aA).f10)) /\ w'.cell? ⟨(aI.add ((aA).toNat * 13)).block, (aI.add ((aA).toNat * 13)).off + 11, none⟩ = some (.int .i64 ((qQb l2 aA).f11)) /\ w'.cell? ⟨(aI.add ((aA).toNat * 13)).block, (aI.add ((aA).toNat * 13)).off + 12, none⟩ = some (.int .i64 ((qQb l2 aA).f12)) /\ w'.cell? (bW.add (aA).toNat) = some (.int .i64 (rd aW aA))) /\ (Kd.R (Kd.int .i64) 3 w' w.heap.size (fun k_ => some k_ ≠ (s_.2.1 : Value).ownBlock) s_.1 b7) /\ (Kd.R (Kd.int .i64) 3 w' w.heap.size (fun k_ => some k_ ≠ (s_.1 : Value).ownBlock) s_.2.1 dK) /\ (Kd.R (Kd.int .i64) 2 w' w.heap.size (fun k_ => some k_ ≠ (.slice (some bW) aW.length fA : Value).ownBlock /\ some k_ ≠ (.slice cJ aH.length cK : Value).ownBlock) s_.2.2 b0) /\ (Kd.R (Kd.int .i64) 2 w' w.heap.size (fun k_ => some k_ ≠ (s_.2.2 : Value).ownBlock /\ some k_ ≠ (.slice cJ aH.length cK : Value).ownBlock) (.slice (some bW) aW.length fA) aW) /\ (Kd.R (Kd.int .i64) 2 w' w.heap.size (fun k_ => some k_ ≠ (s_.2.2 : Value).ownBlock /\ some k_ ≠ (.slice (some bW) aW.length fA : Value).ownBlock) (.slice cJ aH.length cK) aH) /\ (w'.heap[cG]? = some (.cells #[.int .i64 dW, .slice d9 cT.length eC] 37 (0, 0))) /\ (w'.heap[d7]? = some (.cells #[.int .i64 eV, .slice fK dQ.length fN, .int .i64 eW, .int .i64 eX, .int .i64 eA, .int .i64 eB, .slice fL dR.length fO, .int .i64 eY, .int .i64 eZ, .int .i64 e4, .int .i64 dB, .int .i64 dC, .int .i64 dD] 28 (0, 0))) /\ (w'.heap[bD]? = some (.cells #[.slice none 0 0, .slice none 0 0] 39 (0, 0))) /\ (w'.heap[bF]? = some (.cells #[.slice dV aQ.length dY, .slice cJ aH.length cK] 39 (0, 0))) /\ (Below w.heap.size w w')) ?_ ?_
    rotate_left
    ·intro hCont
     refine two_ (i := 7) (j := 17) (Ni := some 98) (Nj := some 108) (qQc.fl 23 130815) (qQc.fl 23 261759) rfl rfl rfl rfl (zZi HT_.out (by kernel_rfl)) (by decide) (by decide) (fun K hK => ?_) (fun K hK => ?_)
     ·skip
      refine Kd.qXl (Kd.int .i64) _ 3 ?hg (N := 98) ?hd (xs := ([(qQb l2 aA).f0] : List Int)) (inner := [.int .i64 ((qQb l2 aA).f0)]) (ok := fun _ => True) (okp := fun _ => True) ?hr ?hp (fun _ hk => hk) trivial (Below.refl _ _) (Nat.le_refl _) (by simp) ?_; (case hd => rfl); (case hg => rfl); (case hr => first | (go_simp; done) | (go_simp; rfl)); (case hp => exact (Reps.one (show Kd.M (Kd.int .i64) _ _ _ ((qQb l2 aA).f0) [.int .i64 ((qQb l2 aA).f0)] from rfl) (Reps.none _ _)))
      intro jQ uR cQ hb hg_ hnew_
      have bO := hxb hb (hHeld.2.2.2.2.2.2.2.2.2.2.2.2.2.2.2)
      clear hg_ hnew_
      (first | rw [<- gD.out] at cQ | (simp only [Int.reduceToNat] at cQ; rw [<- gD.out] at cQ))
      replace aX := Rb aX hb
      replace aD := Rb aD hb
      have a9 := am (Kd.qZ1 (Kd.qXc cQ (Kd.R_lt (by exact rq aC.out))) (qQn (by exact h4q HB.out aK.out aN.out aU.out a7.out)))
      replace aC := Re aC cQ hb
      replace aE := bB aE hb
      replace aJ := bB aJ hb
      replace aG := bB aG hb
      replace aM := bB aM hb
      replace HB := s4 HB aK aN aU a7 hb
      clear hb cQ
      obtain ⟨mD, kW, iJ⟩ := Kd.qZq a9.out
      (first | subst iJ | (injection iJ with f1_ f2_ f3_; have f4_ := f1_.symm; have f5_ := f3_.symm; clear f1_ f2_ f3_; subst f4_; subst f5_))
      refine hK.out _ _ ⟨(qQa aM.out 0).trans rfl, (qQa aM.out 1).trans rfl, ap13 (h13 HB cH) bO⟩ (fun hHeld => ?_)
      clear hK K
      refine norm_ (a' := ?_) ?_ ?_
      rotate_left
      ·show Act.put _ (some 98) _ = _
       exact pu
      refine two_ (i := 8) (j := 17) (Ni := some 99) (Nj := some 108) (qQc.fl 23 131071) (qQc.fl 23 261887) rfl rfl rfl rfl (zZi HT_.out (by kernel_rfl)) (by decide) (by decide) (fun K hK => ?_) (fun K hK => ?_)
      ·skip
       refine Kd.qYj (Kd.int .i64) (w0 := w) w.heap.size (by rfl) (.tmp 92) (.tmp 98) 32 3 (.int .i64 0) 8 rfl Tryz.underlying32 info3 rfl (by decide) (by omega) (.slice dV aQ.length dY) aQ b7 _ _ _ (fun k_ => some k_ ≠ (.slice mD b7.length kW : Value).ownBlock) (fun _ => False) rfl rfl ?aO ?aR (fun _ _ h => h) (fun _ h => h.elim) ?aF ?aB ?aS ?aL ?_
       (case aR => exact cq ((Kd.qQq a9.out).2.2))
       (case aB => exact (by exact h4q HB.out aK.out aN.out aU.out a7.out))
       (case aF => exact (fun k_ hk => Kd.fresh' (Kd.R_lt (by exact rq a9.out)) k_ hk))
       (case aO => exact (by refine rw_ ?_; exact Kd.qQ4 aC.out (fun _ hk => hk.2)))
       (case aS => exact (qQn (by exact h4q HB.out aK.out aN.out aU.out a7.out)))
       (case aL => have := h0.out; omega)
       intro fF q5 ho hb hg hat
       rw [<- h3.out] at ho
       replace aX := am (Kd.qYc (by exact rq aX.out) (Kd.qYb (by exact rq aC.out)) (by decide) hg)
       replace aD := am (Kd.qYc (by exact rq aD.out) (Kd.qYb (by exact rq aC.out)) (by decide) hg)
       replace aE := bG aE hg aC
       replace aJ := bG aJ hg aC
       replace aG := bG aG hg aC
       replace aM := bG aM hg aC
       replace a9 := am (Kd.qWc (ok := (fun _ => True)) (by exact rq a9.out) hg hat)
       replace HB := am hb
       have b6 := am ho
       clear aC ho hb hg hat
       have bO : q5.cell? (bW.add (aA).toNat) = some (.int .i64 (rd aW aA)) := (by obtain ⟨ad_h, e_h, bK⟩ := Kd.qZ7 (Kd.qQq aX.out).2.2 aA (by first | exact dS | exact of_eq_true dS) (by first | exact dT | exact of_eq_true dT); cases e_h; exact bK)
       refine hK.out _ _ ⟨(qQa aM.out 0).trans rfl, (qQa aM.out 1).trans rfl, ap13 (h13 HB cH) bO⟩ (fun hHeld => ?_)
       clear hK K
       refine norm_ (a' := ?_) ?_ ?_
       rotate_left
       ·show Act.put _ (some 99) _ = _
        exact pu
       refine qQc.y 19 110 23 655359 HT_.out ?_
       refine one_ (i := 17) (N := some 108) (qQc.fl 23 786431) rfl rfl (qXj HT_.out (by kernel_rfl)) (by decide) (fun K hK => ?_)
       refine Kd.qXl (Kd.int .i64) _ 2 ?hg (N := 108) ?hd (xs := ([cL] : List Int)) (inner := [.int .i64 cL]) (ok := fun _ => True) (okp := fun _ => True) ?hr ?hp (fun _ hk => hk) trivial (Below.refl _ _) (Nat.le_refl _) (by simp) ?_; (case hd => rfl); (case hg => rfl); (case hr => first | (go_simp; done) | (go_simp; rfl)); (case hp => exact (Reps.one (show Kd.M (Kd.int .i64) _ _ _ cL [.int .i64 cL] from rfl) (Reps.none _ _)))
       intro eP pM fP hb hg_ hnew_
       have bO := hxb hb (hHeld.2.2.2.2.2.2.2.2.2.2.2.2.2.2.2)
       clear hg_ hnew_
       (first | rw [<- d4.out] at fP | (simp only [Int.reduceToNat] at fP; rw [<- d4.out] at fP))
       replace a9 := Rb a9 hb
       replace b6 := Rb b6 hb
       have bN := am (Kd.qZ1 (Kd.qXc (Kd.qXc fP (Kd.R_lt (by exact rq aX.out))) (Kd.R_lt (by exact rq aD.out))) (qQn (by exact h4q HB.out aK.out aN.out aU.out a7.out)))
       replace aX := Re aX fP hb
       replace aD := Re aD fP hb
       replace aE := bB aE hb
       replace aJ := bB aJ hb
       replace aG := bB aG hb
       replace aM := bB aM hb
       replace HB := s4 HB aK aN aU a7 hb
       clear hb fP
       refine hK.out _ _ ⟨(qQa aM.out 0).trans rfl, (qQa aM.out 1).trans rfl, ap13 (h13 HB cH) bO⟩ (fun hHeld => ?_)
       clear hK K
       refine norm_ (a' := ?_) ?_ ?_
       rotate_left
       ·show Act.put _ (some 108) _ = _
        exact pu
       exact norm_ (by simp only [putAll, Act.put, List.setIfInBounds_toArray, List.set_cons_zero, List.set_cons_succ]) (hCont (.slice mD b7.length kW, fF, eP) _ ⟨hHeld, (by refine rw_ ?_; exact Kd.qQ4 a9.out (fun _ hk => hk.2)), (by exact rq b6.out), (by refine rw_ ?_; exact Kd.qQ4 bN.out (fun _ hk => ⟨hk.1.2, hk.2⟩)), (by refine rw_ ?_; exact Kd.qQ4 aX.out (fun _ hk => ⟨hk.2, hk.1⟩)), (by refine rw_ ?_; exact Kd.qQ4 aD.out (fun _ hk => ⟨hk.2, hk.1⟩)), (Up.up aE.out), (Up.up aJ.out), (Up.up aG.out), (Up.up aM.out), (by exact h4q HB.out aK.out aN.out aU.out a7.out)⟩)
      ·skip
       refine Kd.qXl (Kd.int .i64) _ 2 ?hg (N := 108) ?hd (xs := ([cL] : List Int)) (inner := [.int .i64 cL]) (ok := fun _ => True) (okp := fun _ => True) ?hr ?hp (fun _ hk => hk) trivial (Below.refl _ _) (Nat.le_refl _) (by simp) ?_; (case hd => rfl); (case hg => rfl); (case hr => first | (go_simp; done) | (go_simp; rfl)); (case hp => exact (Reps.one (show Kd.M (Kd.int .i64) _ _ _ cL [.int .i64 cL] from rfl) (Reps.none _ _)))
       intro eP q5 cR hb hg_ hnew_
       have bO := hxb hb (hHeld.2.2.2.2.2.2.2.2.2.2.2.2.2.2.2)
       clear hg_ hnew_
       (first | rw [<- d4.out] at cR | (simp only [Int.reduceToNat] at cR; rw [<- d4.out] at cR))
       replace aC := Rb aC hb
       replace a9 := Rb a9 hb
       have bN := am (Kd.qZ1 (Kd.qXc (Kd.qXc cR (Kd.R_lt (by exact rq aX.out))) (Kd.R_lt (by exact rq aD.out))) (qQn (by exact h4q HB.out aK.out aN.out aU.out a7.out)))
       replace aX := Re aX cR hb
       replace aD := Re aD cR hb
       replace aE := bB aE hb
       replace aJ := bB aJ hb
       replace aG := bB aG hb
       replace aM := bB aM hb
       replace HB := s4 HB aK aN aU a7 hb
       clear hb cR
       obtain ⟨hV, iG, iK⟩ := Kd.qZq a9.out
       (first | subst iK | (injection iK with f1_ f2_ f3_; have f4_ := f1_.symm; have f5_ := f3_.symm; clear f1_ f2_ f3_; subst f4_; subst f5_))
       refine hK.out _ _ ⟨(qQa aM.out 0).trans rfl, (qQa aM.out 1).trans rfl, ap13 (h13 HB cH) bO⟩ (fun hHeld => ?_)
       clear hK K
       refine norm_ (a' := ?_) ?_ ?_
       rotate_left
       ·show Act.put _ (some 108) _ = _
        exact pu
       refine one_ (i := 8) (N := some 99) (qQc.fl 23 262143) rfl rfl (qXj HT_.out (by kernel_rfl)) (by decide) (fun K hK => ?_)
       refine Kd.qYj (Kd.int .i64) (w0 := w) w.heap.size (by rfl) (.tmp 92) (.tmp 98) 32 3 (.int .i64 0) 8 rfl Tryz.underlying32 info3 rfl (by decide) (by omega) (.slice dV aQ.length dY) aQ b7 _ _ _ (fun k_ => some k_ ≠ (.slice hV b7.length iG : Value).ownBlock) (fun _ => False) rfl rfl ?aO ?aR (fun _ _ h => h) (fun _ h => h.elim) ?aF ?aB ?aS ?aL ?_
       (case aR => exact cq ((Kd.qQq a9.out).2.2))
       (case aB => exact (by exact h4q HB.out aK.out aN.out aU.out a7.out))
       (case aF => exact (fun k_ hk => Kd.fresh' (Kd.R_lt (by exact rq a9.out)) k_ hk))
       (case aO => exact (by refine rw_ ?_; exact Kd.qQ4 aC.out (fun _ hk => hk.2)))
       (case aS => exact (qQn (by exact h4q HB.out aK.out aN.out aU.out a7.out)))
       (case aL => have := h0.out; omega)
       intro fF pM ho hb hg hat
       rw [<- h3.out] at ho
       replace aX := am (Kd.qYc (by exact rq aX.out) (Kd.qYb (by exact rq aC.out)) (by decide) hg)
       replace aD := am (Kd.qYc (by exact rq aD.out) (Kd.qYb (by exact rq aC.out)) (by decide) hg)
       replace aE := bG aE hg aC
       replace aJ := bG aJ hg aC
       replace aG := bG aG hg aC
       replace aM := bG aM hg aC
       replace a9 := am (Kd.qWc (ok := (fun _ => True)) (by exact rq a9.out) hg hat)
       replace bN := am (Kd.qYc (by exact rq bN.out) (Kd.qYb (by exact rq aC.out)) (by decide) hg)
       replace HB := am hb
       have b6 := am ho
       clear aC ho hb hg hat
       have bO : pM.cell? (bW.add (aA).toNat) = some (.int .i64 (rd aW aA)) := (by obtain ⟨ad_h, e_h, bK⟩ := Kd.qZ7 (Kd.qQq aX.out).2.2 aA (by first | exact dS | exact of_eq_true dS) (by first | exact dT | exact of_eq_true dT); cases e_h; exact bK)
       refine hK.out _ _ ⟨(qQa aM.out 0).trans rfl, (qQa aM.out 1).trans rfl, ap13 (h13 HB cH) bO⟩ (fun hHeld => ?_)
       clear hK K
       refine norm_ (a' := ?_) ?_ ?_
       rotate_left
       ·show Act.put _ (some 99) _ = _
        exact pu
       refine qQc.y 19 110 23 786431 HT_.out ?_
       exact norm_ (by simp only [putAll, Act.put, List.setIfInBounds_toArray, List.set_cons_zero, List.set_cons_succ]) (hCont (.slice hV b7.length iG, fF, eP) _ ⟨hHeld, (by refine rw_ ?_; exact Kd.qQ4 a9.out (fun _ hk => hk.2)), (by exact rq b6.out), (by refine rw_ ?_; exact Kd.qQ4 bN.out (fun _ hk => ⟨hk.1.2, hk.2⟩)), (by refine rw_ ?_; exact Kd.qQ4 aX.out (fun _ hk => ⟨hk.2, hk.1⟩)), (by refine rw_ ?_; exact Kd.qQ4 aD.out (fun _ hk => ⟨hk.2, hk.1⟩)), (Up.up aE.out), (Up.up aJ.out), (Up.up aG.out), (Up.up aM.out), (by exact h4q HB.out aK.out aN.out aU.out a7.out)⟩)
     ·skip
      refine Kd.qXl (Kd.int .i64) _ 2 ?hg (N := 108) ?hd (xs := ([cL] : List Int)) (inner := [.int .i64 cL]) (ok := fun _ => True) (okp := fun _ => True) ?hr ?hp (fun _ hk => hk) trivial (Below.refl _ _) (Nat.le_refl _) (by simp) ?_; (case hd => rfl); (case hg => rfl); (case hr => first | (go_simp; done) | (go_simp; rfl)); (case hp => exact (Reps.one (show Kd.M (Kd.int .i64) _ _ _ cL [.int .i64 cL] from rfl) (Reps.none _ _)))
      intro eP uR cQ hb hg_ hnew_
      have bO := hxb hb (hHeld.2.2.2.2.2.2.2.2.2.2.2.2.2.2.2)
      clear hg_ hnew_
      (first | rw [<- d4.out] at cQ | (simp only [Int.reduceToNat] at cQ; rw [<- d4.out] at cQ))
      replace aC := Rb aC hb
      have bN := am (Kd.qZ1 (Kd.qXc (Kd.qXc cQ (Kd.R_lt (by exact rq aX.out))) (Kd.R_lt (by exact rq aD.out))) (qQn (by exact h4q HB.out aK.out aN.out aU.out a7.out)))
      replace aX := Re aX cQ hb
      replace aD := Re aD cQ hb
      replace aE := bB aE hb
      replace aJ := bB aJ hb
      replace aG := bB aG hb
      replace aM := bB aM hb
      replace HB := s4 HB aK aN aU a7 hb
      clear hb cQ
      refine hK.out _ _ ⟨(qQa aM.out 0).trans rfl, (qQa aM.out 1).trans rfl, ap13 (h13 HB cH) bO⟩ (fun hHeld => ?_)
      clear hK K
      refine norm_ (a' := ?_) ?_ ?_
      rotate_left
      ·show Act.put _ (some 108) _ = _
       exact pu
      refine one_ (i := 7) (N := some 98) (qQc.fl 23 261887) rfl rfl (qXj HT_.out (by kernel_rfl)) (by decide) (fun K hK => ?_)
      refine Kd.qXl (Kd.int .i64) _ 3 ?hg (N := 98) ?hd (xs := ([(qQb l2 aA).f0] : List Int)) (inner := [.int .i64 ((qQb l2 aA).f0)]) (ok := fun _ => True) (okp := fun _ => True) ?hr ?hp (fun _ hk => hk) trivial (Below.refl _ _) (Nat.le_refl _) (by simp) ?_; (case hd => rfl); (case hg => rfl); (case hr => first | (go_simp; done) | (go_simp; rfl)); (case hp => exact (Reps.one (show Kd.M (Kd.int .i64) _ _ _ ((qQb l2 aA).f0) [.int .i64 ((qQb l2 aA).f0)] from rfl) (Reps.none _ _)))
      intro jQ q5 cR hb hg_ hnew_
      have bO := hxb hb (hHeld.2.2.2.2.2.2.2.2.2.2.2.2.2.2.2)
      clear hg_ hnew_
      (first | rw [<- gD.out] at cR | (simp only [Int.reduceToNat] at cR; rw [<- gD.out] at cR))
      replace aX := Rb aX hb
      replace aD := Rb aD hb
      replace bN := Rb bN hb
      have a9 := am (Kd.qZ1 (Kd.qXc cR (Kd.R_lt (by exact rq aC.out))) (qQn (by exact h4q HB.out aK.out aN.out aU.out a7.out)))
      replace aC := Re aC cR hb
      replace aE := bB aE hb
      replace aJ := bB aJ hb
      replace aG := bB aG hb
      replace aM := bB aM hb
      replace HB := s4 HB aK aN aU a7 hb
      clear hb cR
      obtain ⟨hV, iG, iK⟩ := Kd.qZq a9.out
      (first | subst iK | (injection iK with f1_ f2_ f3_; have f4_ := f1_.symm; have f5_ := f3_.symm; clear f1_ f2_ f3_; subst f4_; subst f5_))
      refine hK.out _ _ ⟨(qQa aM.out 0).trans rfl, (qQa aM.out 1).trans rfl, ap13 (h13 HB cH) bO⟩ (fun hHeld => ?_)
      clear hK K
      refine norm_ (a' := ?_) ?_ ?_
      rotate_left
      ·show Act.put _ (some 98) _ = _
       exact pu
      refine one_ (i := 8) (N := some 99) (qQc.fl 23 262143) rfl rfl (qXj HT_.out (by kernel_rfl)) (by decide) (fun K hK => ?_)
      refine Kd.qYj (Kd.int .i64) (w0 := w) w.heap.size (by rfl) (.tmp 92) (.tmp 98) 32 3 (.int .i64 0) 8 rfl Tryz.underlying32 info3 rfl (by decide) (by omega) (.slice dV aQ.length dY) aQ b7 _ _ _ (fun k_ => some k_ ≠ (.slice hV b7.length iG : Value).ownBlock) (fun _ => False) rfl rfl ?aO ?aR (fun _ _ h => h) (fun _ h => h.elim) ?aF ?aB ?aS ?aL ?_
      (case aR => exact cq ((Kd.qQq a9.out).2.2))
      (case aB => exact (by exact h4q HB.out aK.out aN.out aU.out a7.out))
      (case aF => exact (fun k_ hk => Kd.fresh' (Kd.R_lt (by exact rq a9.out)) k_ hk))
      (case aO => exact (by refine rw_ ?_; exact Kd.qQ4 aC.out (fun _ hk => hk.2)))
      (case aS => exact (qQn (by exact h4q HB.out aK.out aN.out aU.out a7.out)))
      (case aL => have := h0.out; omega)
      intro fF pM ho hb hg hat
      rw [<- h3.out] at ho
      replace aX := am (Kd.qYc (by exact rq aX.out) (Kd.qYb (by exact rq aC.out)) (by decide) hg)
      replace aD := am (Kd.qYc (by exact rq aD.out) (Kd.qYb (by exact rq aC.out)) (by decide) hg)
      replace aE := bG aE hg aC
      replace aJ := bG aJ hg aC
      replace aG := bG aG hg aC
      replace aM := bG aM hg aC
      replace bN := am (Kd.qYc (by exact rq bN.out) (Kd.qYb (by exact rq aC.out)) (by decide) hg)
      replace a9 := am (Kd.qWc (ok := (fun _ => True)) (by exact rq a9.out) hg hat)
      replace HB := am hb
      have b6 := am ho
      clear aC ho hb hg hat
      have bO : pM.cell? (bW.add (aA).toNat) = some (.int .i64 (rd aW aA)) := (by obtain ⟨ad_h, e_h, bK⟩ := Kd.qZ7 (Kd.qQq aX.out).2.2 aA (by first | exact dS | exact of_eq_true dS) (by first | exact dT | exact of_eq_true dT); cases e_h; exact bK)
      refine hK.out _ _ ⟨(qQa aM.out 0).trans rfl, (qQa aM.out 1).trans rfl, ap13 (h13 HB cH) bO⟩ (fun hHeld => ?_)
      clear hK K
      refine norm_ (a' := ?_) ?_ ?_
      rotate_left
      ·show Act.put _ (some 99) _ = _
       exact pu
      refine qQc.y 19 110 23 786431 HT_.out ?_
      exact norm_ (by simp only [putAll, Act.put, List.setIfInBounds_toArray, List.set_cons_zero, List.set_cons_succ]) (hCont (.slice hV b7.length iG, fF, eP) _ ⟨hHeld, (by refine rw_ ?_; exact Kd.qQ4 a9.out (fun _ hk => hk.2)), (by exact rq b6.out), (by refine rw_ ?_; exact Kd.qQ4 bN.out (fun _ hk => ⟨hk.1.2, hk.2⟩)), (by refine rw_ ?_; exact Kd.qQ4 aX.out (fun _ hk => ⟨hk.2, hk.1⟩)), (by refine rw_ ?_; exact Kd.qQ4 aD.out (fun _ hk => ⟨hk.2, hk.1⟩)), (Up.up aE.out), (Up.up aJ.out), (Up.up aG.out), (Up.up aM.out), (by exact h4q HB.out aK.out aN.out aU.out a7.out)⟩)
    rintro ⟨jQ, fF, eP⟩ b9 ⟨hS_, h0_, h1_, h2_, h3_, h4_, h5_, h6_, h7_, h8_, h9_⟩
    have s5 : Aside0 (Kd.R (Kd.int .i64) 3 b9 w.heap.size (fun k_ => some k_ ≠ (fF : Value).ownBlock) jQ b7) := ⟨h0_⟩
    have s6 : Aside0 (Kd.R (Kd.int .i64) 3 b9 w.heap.size (fun k_ => some k_ ≠ (jQ : Value).ownBlock) fF dK) := ⟨h1_⟩
    have s7 : Aside0 (Kd.R (Kd.int .i64) 2 b9 w.heap.size (fun k_ => some k_ ≠ (.slice (some bW) aW.length fA : Value).ownBlock /\ some k_ ≠ (.slice cJ aH.length cK : Value).ownBlock) eP b0) := ⟨h2_⟩
    have s8 : Aside0 (Kd.R (Kd.int .i64) 2 b9 w.heap.size (fun k_ => some k_ ≠ (eP : Value).ownBlock /\ some k_ ≠ (.slice cJ aH.length cK : Value).ownBlock) (.slice (some bW) aW.length fA) aW) := ⟨h3_⟩
    have s9 : Aside0 (Kd.R (Kd.int .i64) 2 b9 w.heap.size (fun k_ => some k_ ≠ (eP : Value).ownBlock /\ some k_ ≠ (.slice (some bW) aW.length fA : Value).ownBlock) (.slice cJ aH.length cK) aH) := ⟨h4_⟩
    have tA : Aside0 (b9.heap[cG]? = some (.cells #[.int .i64 dW, .slice d9 cT.length eC] 37 (0, 0))) := ⟨h5_⟩
    have tB : Aside0 (b9.heap[d7]? = some (.cells #[.int .i64 eV, .slice fK dQ.length fN, .int .i64 eW, .int .i64 eX, .int .i64 eA, .int .i64 eB, .slice fL dR.length fO, .int .i64 eY, .int .i64 eZ, .int .i64 e4, .int .i64 dB, .int .i64 dC, .int .i64 dD] 28 (0, 0))) := ⟨h6_⟩
    have tC : Aside0 (b9.heap[bD]? = some (.cells #[.slice none 0 0, .slice none 0 0] 39 (0, 0))) := ⟨h7_⟩
    have tD : Aside0 (b9.heap[bF]? = some (.cells #[.slice dV aQ.length dY, .slice cJ aH.length cK] 39 (0, 0))) := ⟨h8_⟩
    have tE : Aside0 (Below w.heap.size w b9) := ⟨h9_⟩
    clear aX aC aD aE aJ aG aM HB h0_ h1_ h2_ h3_ h4_ h5_ h6_ h7_ h8_ h9_
    have a9 := s5
    have b6 := s6
    have bN := s7
    have aX := s8
    have aD := s9
    have aE := tA
    have aJ := tB
    have aG := tC
    have aM := tD
    have HB := tE
    clear s5 s6 s7 s8 s9 tA tB tC tD tE
    have hHeld : b9.cell? ⟨bF, 0, none⟩ = some (.slice dV aQ.length dY) /\ b9.cell? ⟨bF, 1, none⟩ = some (.slice cJ aH.length cK) /\ b9.cell? (aI.add ((aA).toNat * 13)) = some (.int .i64 ((qQb l2 aA).f0)) /\ b9.cell? ⟨(aI.add ((aA).toNat * 13)).block, (aI.add ((aA).toNat * 13)).off + 1, none⟩ = some (.int .i64 ((qQb l2 aA).f1)) /\ b9.cell? ⟨(aI.add ((aA).toNat * 13)).block, (aI.add ((aA).toNat * 13)).off + 2, none⟩ = some (.int .i64 ((qQb l2 aA).f2)) /\ b9.cell? ⟨(aI.add ((aA).toNat * 13)).block, (aI.add ((aA).toNat * 13)).off + 3, none⟩ = some (.int .i64 ((qQb l2 aA).f3)) /\ b9.cell? ⟨(aI.add ((aA).toNat * 13)).block, (aI.add ((aA).toNat * 13)).off + 4, none⟩ = some (.int .i64 ((qQb l2 aA).f4)) /\ b9.cell? ⟨(aI.add ((aA).toNat * 13)).block, (aI.add ((aA).toNat * 13)).off + 5, none⟩ = some (.int .i64 ((qQb l2 aA).f5)) /\ b9.cell? ⟨(aI.add ((aA).toNat * 13)).block, (aI.add ((aA).toNat * 13)).off + 6, none⟩ = some (.bool ((qQb l2 aA).f6)) /\ b9.cell? ⟨(aI.add ((aA).toNat * 13)).block, (aI.add ((aA).toNat * 13)).off + 7, none⟩ = some (.int .i64 ((qQb l2 aA).f7)) /\ b9.cell? ⟨(aI.add ((aA).toNat * 13)).block, (aI.add ((aA).toNat * 13)).off + 8, none⟩ = some (.int .i64 ((qQb l2 aA).f8)) /\ b9.cell? ⟨(aI.add ((aA).toNat * 13)).block, (aI.add ((aA).toNat * 13)).off + 9, none⟩ = some (.int .i64 ((qQb l2 aA).f9)) /\ b9.cell? ⟨(aI.add ((aA).toNat * 13)).block, (aI.add ((aA).toNat * 13)).off + 10, none⟩ = some (.int .i64 ((qQb l2 aA).f10)) /\ b9.cell? ⟨(aI.add ((aA).toNat * 13)).block, (aI.add ((aA).toNat * 13)).off + 11, none⟩ = some (.int .i64 ((qQb l2 aA).f11)) /\ b9.cell? ⟨(aI.add ((aA).toNat * 13)).block, (aI.add ((aA).toNat * 13)).off + 12, none⟩ = some (.int .i64 ((qQb l2 aA).f12)) /\ b9.cell? (bW.add (aA).toNat) = some (.int .i64 (rd aW aA)) := hS_
    obtain ⟨mE, m4, m7⟩ := Kd.qZq bN.out
    (first | subst m7 | (injection m7 with f1_ f2_ f3_; have f4_ := f1_.symm; have f5_ := f3_.symm; clear f1_ f2_ f3_; subst f4_; subst f5_))
    refine norm_ (a' := ?_) ?_ ?_
    rotate_left
    ·simp only [putAll, Act.put, List.setIfInBounds_toArray, List.set_cons_zero, List.set_cons_succ]
     rfl
    refine one_ (i := 18) (N := some 109) (qQc.fl 23 1048575) rfl rfl (qXj HT_.out (by kernel_rfl)) (by decide) (fun K hK => ?_)
    refine Kd.qYj (Kd.int .i64) (w0 := w) w.heap.size (by rfl) (.tmp 101) (.tmp 108) 22 2 (.int .i64 0) 8 rfl Tryz.underlying22 info2 rfl (by decide) (by omega) (.slice cJ aH.length cK) aH b0 _ _ _ (fun k_ => some k_ ≠ (.slice (some bW) aW.length fA : Value).ownBlock /\ some k_ ≠ (.slice mE b0.length m4 : Value).ownBlock) (fun _ => False) rfl rfl ?aO ?aR (fun _ _ h => h) (fun _ h => h.elim) ?aF ?aB ?aS ?aL ?_
    (case aR => exact cq ((Kd.qQq bN.out).2.2))
    (case aB => exact (by exact h4q HB.out aK.out aN.out aU.out a7.out))
    (case aF => exact (fun k_ hk => ⟨Kd.fresh' (Kd.R_lt (by exact rq aX.out)) k_ hk, Kd.fresh' (Kd.R_lt (by exact rq bN.out)) k_ hk⟩))
    (case aO => exact (by refine rw_ ?_; exact Kd.qQ4 aD.out (fun _ hk => ⟨hk.2, hk.1⟩)))
    (case aS => exact (qQn (by exact h4q HB.out aK.out aN.out aU.out a7.out)))
    (case aL => have := mP.out; omega)
    intro uO q6 ho hb hg hat
    rw [<- mV.out] at ho
    replace aX := am (Kd.qWc (ok := (fun k_ => some k_ ≠ (.slice mE b0.length m4 : Value).ownBlock)) (by exact rq aX.out) hg hat)
    replace aE := bG aE hg aD
    replace aJ := bG aJ hg aD
    replace aG := bG aG hg aD
    replace aM := bG aM hg aD
    replace a9 := am (Kd.qYc (by exact rq a9.out) (Kd.qYb (by exact rq aD.out)) (by decide) hg)
    replace b6 := am (Kd.qYc (by exact rq b6.out) (Kd.qYb (by exact rq aD.out)) (by decide) hg)
    replace bN := am (Kd.qWc (ok := (fun k_ => some k_ ≠ (.slice (some bW) aW.length fA : Value).ownBlock)) (by exact rq bN.out) hg hat)
    replace HB := am hb
    have jW := am ho
    clear aD ho hb hg hat
    obtain ⟨hW, iH, m8⟩ := Kd.qZq b6.out
    (first | subst m8 | (injection m8 with f1_ f2_ f3_; have f4_ := f1_.symm; have f5_ := f3_.symm; clear f1_ f2_ f3_; subst f4_; subst f5_))
    obtain ⟨jD, jI, m9⟩ := Kd.qZq jW.out
    (first | subst m9 | (injection m9 with f1_ f2_ f3_; have f4_ := f1_.symm; have f5_ := f3_.symm; clear f1_ f2_ f3_; subst f4_; subst f5_))
    have bO : q6.cell? (bW.add (aA).toNat) = some (.int .i64 (rd aW aA)) := (by obtain ⟨ad_h, e_h, bK⟩ := Kd.qZ7 (Kd.qQq aX.out).2.2 aA (by first | exact dS | exact of_eq_true dS) (by first | exact dT | exact of_eq_true dT); cases e_h; exact bK)
    refine hK.out _ _ ⟨(qQa aM.out 0).trans rfl, (qQa aM.out 1).trans rfl, ap13 (h13 HB cH) bO⟩ (fun hHeld => ?_)
    clear hK K
    refine norm_ (a' := ?_) ?_ ?_
    rotate_left
    ·show Act.put _ (some 109) _ = _
     exact pu
    refine last_ (i := 20) (N := none) (qQc.fl 23 2097151) rfl rfl (qXj HT_.out (by kernel_rfl)) (by decide) (fun K hK => ?_)
    have hs66 : q6.cell? ⟨bF, 0, none⟩ = some (.slice dV aQ.length dY) := (qQa aM.out 0).trans rfl
    have hfs66 := qQd aM.out 0
    have hns66_0 := cB.out
    have hns66_1 := cC.out
    have hns66_2 := b2.out
    have hms66_0 := cY.out
    have hms66_1 := cZ.out
    have hms66_2 := cD.out
    refine skip_ (w1 := ?_) (by rfl) rfl ?_ ?_
    rotate_left
    ·go_simp
     rfl
    refine hK.out _ _ ?_
    clear hK K
    refine qQc.y 21 111 23 4194303 HT_.out ?_
    refine last_ (i := 22) (N := none) (qQc.fl 23 8388607) rfl rfl (qXj HT_.out (by kernel_rfl)) (by decide) (fun K hK => ?_)
    have hs68 : q6.cell? ⟨bF, 1, none⟩ = some (.slice cJ aH.length cK) := (qQa aM.out 1).trans rfl
    have hfs68 := qQd aM.out 1
    have hns68_0 := cB.out
    have hns68_1 := cC.out
    have hns68_2 := b2.out
    have hms68_0 := cY.out
    have hms68_1 := cZ.out
    have hms68_2 := cD.out
    refine skip_ (w1 := ?_) (by rfl) rfl ?_ ?_
    rotate_left
    ·go_simp
     rfl
    refine hK.out _ _ ?_
    clear hK K
    refine done_ (qW0 HT_.out (by kernel_rfl)) ?_
    try go_wp2
    go_roundg k3
    case measure => have := jU.out; have := mK.out; have := fM.out; omega
    case rel => exact ⟨(wrap64 (aA + 1)), (dK), (hP), (.slice hW dK.length iH), (.slice jD hP.length jI), fr, H', ⟨by have := jU.out; have := mK.out; have := fM.out; omega⟩, ⟨by refine rw_ ?_; exact Kd.qQ4 (Kd.R_far (p := ⟨bF, 1, none⟩) (Kd.R_far (p := ⟨bF, 0, none⟩) (Kd.qZy aX.out aM.out (by decide)) (fun _ hk => hk.2) (.slice hW dK.length iH)) (fun _ hk => hk.2) (.slice jD hP.length jI)) (fun _ hk => hk.1.2)⟩, ⟨by refine rw_ ?_; exact Kd.qQ4 (Kd.R_far (p := ⟨bF, 1, none⟩) (Kd.R_far (p := ⟨bF, 0, none⟩) (Kd.qZy b6.out aM.out (by decide)) (fun _ hk => hk.2) (.slice hW dK.length iH)) (fun _ hk => hk.2) (.slice jD hP.length jI)) (fun _ hk => trivial)⟩, ⟨by refine rw_ ?_; exact Kd.qQ4 (Kd.R_far (p := ⟨bF, 1, none⟩) (Kd.R_far (p := ⟨bF, 0, none⟩) (Kd.qZy jW.out aM.out (by decide)) (fun _ hk => hk.2) (.slice hW dK.length iH)) (fun _ hk => hk.2) (.slice jD hP.length jI)) (fun _ hk => hk.1.1)⟩, ⟨by (iterate 2 (refine bw ?_; refine qZ8 ?_ cB.out _)); refine bw ?_; exact aE.out⟩, ⟨by (iterate 2 (refine bw ?_; refine qZ8 ?_ cC.out _)); refine bw ?_; exact aJ.out⟩, ⟨by (iterate 2 (refine bw ?_; refine qZ8 ?_ b2.out _)); refine bw ?_; exact aG.out⟩, ⟨by refine bw ?_; refine qQ0 (cs := #[.slice hW dK.length iH, .slice cJ aH.length cK]) ?_ 1 _ rfl; refine bw ?_; refine qQ0 (cs := #[.slice dV aQ.length dY, .slice cJ aH.length cK]) ?_ 0 _ rfl; refine bw ?_; exact aM.out⟩, a4_ HB aK aN aU a7⟩
def qY5.f (a0 : Int) : Option (Int) := if a0 < 0 then (some 0) else (if a0 = 0 then (some 60) else (if a0 = 1 then (some 80) else (if a0 = 2 then (some 100) else (if a0 = 3 then (some 125) else (some 150)))))
set_option maxHeartbeats 8000000 in
set_option maxRecDepth 100000 in
theorem qY5.calls (a0 r : Int) (w : World) (h : qY5.f a0 = some r) :
  Calls Tryz.prog 89 #[.int .i64 a0] w fun e w' => e = .returned (.int .i64 r) /\ Drawn0 w w' := by
 have H := h
 unfold qY5.f at H
 clear h
 by_cases c2 : a0 < 0
 ·rw [if_pos c2] at H
  have kU := decide_eq_true c2
  clear c2
  obtain rfl := Option.some.inj H
  go_enter Tryz.func89, Tryz.ntmps89
  go_wp2
  go_ret
  exact ⟨fr, dr⟩
 rw [if_neg c2] at H
 have kU := decide_eq_false c2
 clear c2
 by_cases c3 : a0 = 0
 ·rw [if_pos c3] at H
  have pQ := beq_iff_eq.mpr c3
  have pR := bne_eq_false_iff_eq.mpr c3
  clear c3
  obtain rfl := Option.some.inj H
  go_enter Tryz.func89, Tryz.ntmps89
  go_wp2
  go_ret
  exact ⟨fr, dr⟩
 rw [if_neg c3] at H
 have pQ := beq_eq_false_iff_ne.mpr c3
 have pR := bne_iff_ne.mpr c3
 by_cases c4 : a0 = 1
 ·rw [if_pos c4] at H
  have e8 := beq_iff_eq.mpr c4
  have pS := bne_eq_false_iff_eq.mpr c4
  clear c4
  obtain rfl := Option.some.inj H
  go_enter Tryz.func89, Tryz.ntmps89
  go_wp2
  go_ret
  exact ⟨fr, dr⟩
 rw [if_neg c4] at H
 have e8 := beq_eq_false_iff_ne.mpr c4
 have pS := bne_iff_ne.mpr c4
 by_cases c5 : a0 = 2
 ·rw [if_pos c5] at H
  have dH := beq_iff_eq.mpr c5
  have dX := bne_eq_false_iff_eq.mpr c5
  clear c5
  obtain rfl := Option.some.inj H
  go_enter Tryz.func89, Tryz.ntmps89
  go_wp2
  go_ret
  exact ⟨fr, dr⟩
 rw [if_neg c5] at H
 have dH := beq_eq_false_iff_ne.mpr c5
 have dX := bne_iff_ne.mpr c5
 by_cases c6 : a0 = 3
 case neg =>
  rw [if_neg c6] at H
  have cE := beq_eq_false_iff_ne.mpr c6
  have e9 := bne_iff_ne.mpr c6
  obtain rfl := Option.some.inj H
  go_enter Tryz.func89, Tryz.ntmps89
  go_wp2
  go_ret
  exact ⟨fr, dr⟩
 rw [if_pos c6] at H
 have cE := beq_iff_eq.mpr c6
 have e9 := bne_eq_false_iff_eq.mpr c6
 clear c6
 obtain rfl := Option.some.inj H
 go_enter Tryz.func89, Tryz.ntmps89
 go_wp2
 go_ret
 exact ⟨fr, dr⟩
def qZs.j0 : Nat -> Int -> Int -> Bool -> Option (Int × Int)
 | 0, _, _, _ => none
 | k + 1, x0, x1, hO => if hO = true then (some (0, 1)) else ((qY5.f (wrap64 (Int.tdiv x1 24))).bind fun lS => ((qQh.f k x0 lS 100 1).bind fun j7 => (some (j7.1, j7.2))))
def qZs.f (k : Nat) (a0 a1 : Int) : Option (Int × Int) := if a0 < 0 then (qZs.j0 k a0 a1 true) else ((qQ6.f a0).bind fun lR => (if lR = true then (qZs.j0 k a0 a1 (decide (a1 < 0))) else (qZs.j0 k a0 a1 true)))
set_option maxHeartbeats 8000000 in
set_option maxRecDepth 100000 in
theorem qZs.calls (k : Nat) (a0 a1 r1 r2 : Int) (w : World) (h : qZs.f k a0 a1 = some (r1, r2)) :
  Calls Tryz.prog 55 #[.int .i64 a0, .int .i64 a1] w fun e w' => e = .returned (.tuple #[.int .i64 r1, .int .i64 r2]) /\ Below w.heap.size w w' := by
 have HB := am (Below.refl w.heap.size w)
 have H := h
 unfold qZs.f at H
 clear h
 have hX := am H
 clear H
 go_enter Tryz.func55, Tryz.ntmps55
 go_upto_region 1 with (fail)
 go_cut [16] (fun qY wc => ∃ (kq : Nat) (g3 : Bool), qY = .bool g3 /\ Aside0 (qZs.j0 kq a0 a1 g3 = some (r1, r2)) /\ Aside0 (kq <= k) /\ Aside0 (Below w.heap.size w wc))
 case first =>
  have H := hX.out
  clear hX
  by_cases c4 : a0 < 0
  ·rw [if_pos c4] at H
   have e8 := decide_eq_true c4
   clear c4
   (first | rw [e8] | (simp only [i64_w, i32_w]; rw [e8]) | skip)
   have H' := am H
   clear H
   go_wp2
   go_meet
   case rel => exact ⟨_, (true), fr, H', o0, a0_ HB⟩
  rw [if_neg c4] at H
  have e8 := decide_eq_false c4
  clear c4
  (first | rw [e8] | (simp only [i64_w, i32_w]; rw [e8]) | skip)
  obtain ⟨lR, A5, H⟩ := bd H
  by_cases c6 : lR = true
  ·subst c6
   rw [if_pos rfl] at H
   have H' := am H
   clear H
   go_wp2_with (first | (go_at_call 59; (with_reducible refine (qQ6.calls _ true _ A5.out).mono ?_); rintro e w' ⟨rfl, ⟨nd, rfl⟩⟩))
   go_meet
   case rel => exact ⟨_, (decide (a1 < 0)), fr, H', o0, a0_ HB⟩
  replace c6 := Bool.eq_false_iff.mpr c6
  subst c6
  rw [if_neg (show ¬ (false = true) by decide)] at H
  have H' := am H
  clear H
  go_wp2_with (first | (go_at_call 59; (with_reducible refine (qQ6.calls _ false _ A5.out).mono ?_); rintro e w' ⟨rfl, ⟨nd, rfl⟩⟩))
  go_meet
  case rel => exact ⟨_, (true), fr, H', o0, a0_ HB⟩
 case rest =>
  clear hX
  try clear c4
  try clear e8
  try clear c5
  try clear c6
  obtain ⟨kq, g3, rfl, HA, fI, HB⟩ := hcut
  rcases kq with _ | pI
  ·exact absurd HA.out (by simp [qZs.j0])
  have H := HA.out
  clear HA
  simp only [qZs.j0] at H
  by_cases c7 : g3 = true
  ·subst c7
   rw [if_pos rfl] at H
   simp only [Option.some.injEq, Prod.mk.injEq] at H
   obtain ⟨rfl, rfl⟩ := H
   go_wp2
   go_ret2
   exact ⟨er, by exact h0q HB.out⟩
  replace c7 := Bool.eq_false_iff.mpr c7
  subst c7
  rw [if_neg (show ¬ (false = true) by decide)] at H
  obtain ⟨lS, A8, H⟩ := bd H
  obtain ⟨⟨qV, qW⟩, A9, H⟩ := bd H
  simp only [Option.some.injEq, Prod.mk.injEq] at H
  obtain ⟨rfl, rfl⟩ := H
  go_wp2_with (first | ((with_reducible refine gf 89 ?_); refine gC (some 20) Tryz.func89 (qY5.calls _ lS _ A8.out) ?_; rintro e w' ⟨rfl, ⟨nd, rfl⟩⟩; refine ⟨_, rfl, ?_⟩) | ((with_reducible refine gf 43 ?_); refine gC (some 21) Tryz.func43 (qQh.calls _ _ _ _ _ qV qW _ A9.out) ?_; rintro e uW ⟨rfl, hb⟩; refine ⟨_, rfl, ?_⟩; replace HB := s0 HB hb; (try clear hb); (try clear hb2); (try clear hk); (try clear hi)))
  go_ret2
  exact ⟨er, by exact h0q HB.out⟩
def qZd.j0 : Nat -> Int -> Int -> Bool -> Option (Int)
 | 0, _, _, _ => none
 | k + 1, x0, x1, uS => if uS = true then (some 0) else ((qQy.f k x0).bind fun d5 => ((qQy.f k x1).bind fun d6 => ((qQs.f k x0 (wrap64 ((wrap64 ((wrap64 (12 * (wrap64 (d6.1 - d5.1)))) + d6.2.1)) - d5.2.1))).bind fun mZ => (if mZ.1 > x1 then (some (wrap64 ((wrap64 ((wrap64 ((wrap64 (12 * (wrap64 (d6.1 - d5.1)))) + d6.2.1)) - d5.2.1)) - 1))) else (some (wrap64 ((wrap64 ((wrap64 (12 * (wrap64 (d6.1 - d5.1)))) + d6.2.1)) - d5.2.1)))))))
def qZd.f (k : Nat) (a0 a1 : Int) : Option (Int) := (qZl.f a0).bind fun lT => (if lT = true then ((qZl.f a1).bind fun lU => (if lU = true then (qZd.j0 k a0 a1 (decide (a0 > a1))) else (qZd.j0 k a0 a1 true))) else (qZd.j0 k a0 a1 true))
set_option maxHeartbeats 8000000 in
set_option maxRecDepth 100000 in
theorem qZd.calls (k : Nat) (a0 a1 r : Int) (w : World) (h : qZd.f k a0 a1 = some r) :
  Calls Tryz.prog 56 #[.int .i64 a0, .int .i64 a1] w fun e w' => e = .returned (.int .i64 r) /\ Below w.heap.size w w' := by
 have uD := Tryz.underlying97
 have HB := am (Below.refl w.heap.size w)
 have H := h
 unfold qZd.f at H
 clear h
 have hX := am H
 clear H
 go_enter Tryz.func56, Tryz.ntmps56
 go_upto_region 1 with (fail)
 go_cut [24] (fun uL wc => ∃ (kq : Nat) (g4 : Bool), uL = .bool g4 /\ Aside0 (qZd.j0 kq a0 a1 g4 = some r) /\ Aside0 (kq <= k) /\ Aside0 (Below w.heap.size w wc))
 case first =>
  have H := hX.out
  clear hX
  obtain ⟨lT, A4, H⟩ := bd H
  by_cases c5 : lT = true
  case neg =>
   replace c5 := Bool.eq_false_iff.mpr c5
   subst c5
   rw [if_neg (show ¬ (false = true) by decide)] at H
   have H' := am H
   clear H
   go_wp2_with (first | ((with_reducible refine gf 32 ?_); refine gC (some 13) Tryz.func32 (qZl.calls _ false _ A4.out) ?_; rintro e w' ⟨rfl, ⟨nd, rfl⟩⟩; refine ⟨_, rfl, ?_⟩))
   go_meet
   case rel => exact ⟨_, (true), fr, H', o0, a0_ HB⟩
  subst c5
  rw [if_pos rfl] at H
  obtain ⟨lU, A6, H⟩ := bd H
  by_cases c7 : lU = true
  ·subst c7
   rw [if_pos rfl] at H
   have H' := am H
   clear H
   go_wp2_with (first | ((with_reducible refine gf 32 ?_); refine gC (some 13) Tryz.func32 (qZl.calls _ true _ A4.out) ?_; rintro e w' ⟨rfl, ⟨nd, rfl⟩⟩; refine ⟨_, rfl, ?_⟩) | (go_at_call 32; (with_reducible refine (qZl.calls _ true _ A6.out).mono ?_); rintro e w' ⟨rfl, ⟨nd, rfl⟩⟩))
   go_meet
   case rel => exact ⟨_, (decide (a0 > a1)), fr, H', o0, a0_ HB⟩
  replace c7 := Bool.eq_false_iff.mpr c7
  subst c7
  rw [if_neg (show ¬ (false = true) by decide)] at H
  have H' := am H
  clear H
  go_wp2_with (first | ((with_reducible refine gf 32 ?_); refine gC (some 13) Tryz.func32 (qZl.calls _ true _ A4.out) ?_; rintro e w' ⟨rfl, ⟨nd, rfl⟩⟩; refine ⟨_, rfl, ?_⟩) | (go_at_call 32; (with_reducible refine (qZl.calls _ false _ A6.out).mono ?_); rintro e w' ⟨rfl, ⟨nd, rfl⟩⟩))
  go_meet
  case rel => exact ⟨_, (true), fr, H', o0, a0_ HB⟩
 case rest =>
  clear hX
  try clear c5
  try clear c7
  obtain ⟨kq, g4, rfl, HA, fI, HB⟩ := hcut
  rcases kq with _ | pI
  ·exact absurd HA.out (by simp [qZd.j0])
  have H := HA.out
  clear HA
  simp only [qZd.j0] at H
  by_cases c8 : g4 = true
  ·subst c8
   rw [if_pos rfl] at H
   obtain rfl := Option.some.inj H
   go_wp2
   go_ret
   exact ⟨er, by exact h0q HB.out⟩
  replace c8 := Bool.eq_false_iff.mpr c8
  subst c8
  rw [if_neg (show ¬ (false = true) by decide)] at H
  obtain ⟨⟨dJ, d1, fD, nE⟩, A9, H⟩ := bd H
  obtain ⟨⟨fE, hL, jP, nF⟩, lX, H⟩ := bd H
  obtain ⟨⟨i7, nH⟩, nQ, H⟩ := bd H
  by_cases lZ : i7 > a1
  ·rw [if_pos lZ] at H
   have m0 : decide (a1 < i7) = true := decide_eq_true lZ
   clear lZ
   obtain rfl := Option.some.inj H
   go_wp2_with (first | ((with_reducible refine gf 60 ?_); refine gC (some 27) Tryz.func60 (qQy.calls _ _ dJ d1 fD nE _ A9.out) ?_; rintro e uY ⟨rfl, hb⟩; refine ⟨_, rfl, ?_⟩; replace HB := s0 HB hb; (try clear hb); (try clear hb2); (try clear hk); (try clear hi)) | ((with_reducible refine gd 5 ?_); refine bE 5 _ 97 ?_; intro bP hg pK hbox hb; have aY := am hbox; have mI := e0 HB hg; have b1 := e0 HB hg; replace HB := s0 HB hb; clear hb hbox hg; have n0 : pK.cell? ⟨bP, 0, none⟩ = some (.int .i64 0) := (qQa aY.out 0).trans rfl; have n1 : pK.cell? ⟨bP, 1, none⟩ = some (.int .i64 0) := (qQa aY.out 1).trans rfl; have n2 : pK.cell? ⟨bP, 2, none⟩ = some (.int .i64 0) := (qQa aY.out 2).trans rfl; have oP := qQd aY.out 0; have oQ := qQd aY.out 1; have oR := qQd aY.out 2) | ((with_reducible refine gf 60 ?_); refine gC (some 32) Tryz.func60 (qQy.calls _ _ fE hL jP nF _ lX.out) ?_; rintro e uZ ⟨rfl, hb⟩; refine ⟨_, rfl, ?_⟩; replace aY := am (qQv (g := bP) (o := .cells #[.int .i64 dJ, .int .i64 d1, .int .i64 fD] 97 (0, 0)) (by refine bw ?_; refine qQ0 (cs := #[.int .i64 dJ, .int .i64 d1, .int .i64 0]) ?_ 2 _ rfl; refine bw ?_; refine qQ0 (cs := #[.int .i64 dJ, .int .i64 0, .int .i64 0]) ?_ 1 _ rfl; refine bw ?_; refine qQ0 (cs := #[.int .i64 0, .int .i64 0, .int .i64 0]) ?_ 0 _ rfl; refine bw ?_; exact aY.out) hb); replace HB := s1 HB b1 hb; (try clear hb); (try clear hb2); (try clear hk); (try clear hi)) | ((with_reducible refine gd 7 ?_); refine bE 7 _ 97 ?_; intro cP hg mA hbox hb; have bM := am hbox; have mJ := e1 HB b1 hg; have eU := e1 HB b1 hg; replace HB := s1 HB b1 hb; have b3 := nL aY hg; have dA := nG aY hg; replace aY := bB aY hb; clear hb hbox hg; have rV := dA.out; have sG := b3.out; have n3 : mA.cell? ⟨cP, 0, none⟩ = some (.int .i64 0) := (qQa bM.out 0).trans rfl; have n4 : mA.cell? ⟨cP, 1, none⟩ = some (.int .i64 0) := (qQa bM.out 1).trans rfl; have n5 : mA.cell? ⟨cP, 2, none⟩ = some (.int .i64 0) := (qQa bM.out 2).trans rfl; have oS := qQd bM.out 0; have oT := qQd bM.out 1; have oU := qQd bM.out 2; have n6 : mA.cell? ⟨bP, 0, none⟩ = some (.int .i64 dJ) := (qQa aY.out 0).trans rfl; have n7 : mA.cell? ⟨bP, 1, none⟩ = some (.int .i64 d1) := (qQa aY.out 1).trans rfl; have n8 : mA.cell? ⟨bP, 2, none⟩ = some (.int .i64 fD) := (qQa aY.out 2).trans rfl; have oV := qQd aY.out 0; have oW := qQd aY.out 1; have oX := qQd aY.out 2) | ((with_reducible refine gf 41 ?_); refine gC (some 50) Tryz.func41 (qQs.calls _ _ _ i7 nH _ nQ.out) ?_; rintro e tH ⟨rfl, hb⟩; refine ⟨_, rfl, ?_⟩; replace aY := am (qQv (g := bP) (o := .cells #[.int .i64 dJ, .int .i64 d1, .int .i64 fD] 97 (0, 0)) (by (iterate 3 (refine bw ?_; refine qZ8 ?_ b3.out _)); refine bw ?_; exact aY.out) hb); replace bM := am (qQv (g := cP) (o := .cells #[.int .i64 fE, .int .i64 hL, .int .i64 jP] 97 (0, 0)) (by refine bw ?_; refine qQ0 (cs := #[.int .i64 fE, .int .i64 hL, .int .i64 0]) ?_ 2 _ rfl; refine bw ?_; refine qQ0 (cs := #[.int .i64 fE, .int .i64 0, .int .i64 0]) ?_ 1 _ rfl; refine bw ?_; refine qQ0 (cs := #[.int .i64 0, .int .i64 0, .int .i64 0]) ?_ 0 _ rfl; refine bw ?_; exact bM.out) hb); replace HB := s2 HB b1 eU hb; (try clear hb); (try clear hb2); (try clear hk); (try clear hi)))
   go_ret
   exact ⟨er, by exact h2q HB.out b1.out eU.out⟩
  rw [if_neg lZ] at H
  have m0 : decide (a1 < i7) = false := decide_eq_false lZ
  clear lZ
  obtain rfl := Option.some.inj H
  go_wp2_with (first | ((with_reducible refine gf 60 ?_); refine gC (some 27) Tryz.func60 (qQy.calls _ _ dJ d1 fD nE _ A9.out) ?_; rintro e q3 ⟨rfl, hb⟩; refine ⟨_, rfl, ?_⟩; replace HB := s0 HB hb; (try clear hb); (try clear hb2); (try clear hk); (try clear hi)) | ((with_reducible refine gd 5 ?_); refine bE 5 _ 97 ?_; intro bP hg pL hbox hb; have aY := am hbox; have mI := e0 HB hg; have b1 := e0 HB hg; replace HB := s0 HB hb; clear hb hbox hg; have n9 : pL.cell? ⟨bP, 0, none⟩ = some (.int .i64 0) := (qQa aY.out 0).trans rfl; have oA : pL.cell? ⟨bP, 1, none⟩ = some (.int .i64 0) := (qQa aY.out 1).trans rfl; have oB : pL.cell? ⟨bP, 2, none⟩ = some (.int .i64 0) := (qQa aY.out 2).trans rfl; have oY := qQd aY.out 0; have oZ := qQd aY.out 1; have o3 := qQd aY.out 2) | ((with_reducible refine gf 60 ?_); refine gC (some 32) Tryz.func60 (qQy.calls _ _ fE hL jP nF _ lX.out) ?_; rintro e nJ ⟨rfl, hb⟩; refine ⟨_, rfl, ?_⟩; replace aY := am (qQv (g := bP) (o := .cells #[.int .i64 dJ, .int .i64 d1, .int .i64 fD] 97 (0, 0)) (by refine bw ?_; refine qQ0 (cs := #[.int .i64 dJ, .int .i64 d1, .int .i64 0]) ?_ 2 _ rfl; refine bw ?_; refine qQ0 (cs := #[.int .i64 dJ, .int .i64 0, .int .i64 0]) ?_ 1 _ rfl; refine bw ?_; refine qQ0 (cs := #[.int .i64 0, .int .i64 0, .int .i64 0]) ?_ 0 _ rfl; refine bw ?_; exact aY.out) hb); replace HB := s1 HB b1 hb; (try clear hb); (try clear hb2); (try clear hk); (try clear hi)) | ((with_reducible refine gd 7 ?_); refine bE 7 _ 97 ?_; intro cP hg mB hbox hb; have bM := am hbox; have mJ := e1 HB b1 hg; have eU := e1 HB b1 hg; replace HB := s1 HB b1 hb; have b3 := nL aY hg; have dA := nG aY hg; replace aY := bB aY hb; clear hb hbox hg; have rX := dA.out; have sI := b3.out; have oC : mB.cell? ⟨cP, 0, none⟩ = some (.int .i64 0) := (qQa bM.out 0).trans rfl; have oD : mB.cell? ⟨cP, 1, none⟩ = some (.int .i64 0) := (qQa bM.out 1).trans rfl; have oE : mB.cell? ⟨cP, 2, none⟩ = some (.int .i64 0) := (qQa bM.out 2).trans rfl; have o4 := qQd bM.out 0; have o5 := qQd bM.out 1; have o6 := qQd bM.out 2; have eF : mB.cell? ⟨bP, 0, none⟩ = some (.int .i64 dJ) := (qQa aY.out 0).trans rfl; have eG : mB.cell? ⟨bP, 1, none⟩ = some (.int .i64 d1) := (qQa aY.out 1).trans rfl; have eH : mB.cell? ⟨bP, 2, none⟩ = some (.int .i64 fD) := (qQa aY.out 2).trans rfl; have eK := qQd aY.out 0; have eL := qQd aY.out 1; have eM := qQd aY.out 2) | ((with_reducible refine gf 41 ?_); refine gC (some 50) Tryz.func41 (qQs.calls _ _ _ i7 nH _ nQ.out) ?_; rintro e nK ⟨rfl, hb⟩; refine ⟨_, rfl, ?_⟩; replace aY := am (qQv (g := bP) (o := .cells #[.int .i64 dJ, .int .i64 d1, .int .i64 fD] 97 (0, 0)) (by (iterate 3 (refine bw ?_; refine qZ8 ?_ b3.out _)); refine bw ?_; exact aY.out) hb); replace bM := am (qQv (g := cP) (o := .cells #[.int .i64 fE, .int .i64 hL, .int .i64 jP] 97 (0, 0)) (by refine bw ?_; refine qQ0 (cs := #[.int .i64 fE, .int .i64 hL, .int .i64 0]) ?_ 2 _ rfl; refine bw ?_; refine qQ0 (cs := #[.int .i64 fE, .int .i64 0, .int .i64 0]) ?_ 1 _ rfl; refine bw ?_; refine qQ0 (cs := #[.int .i64 0, .int .i64 0, .int .i64 0]) ?_ 0 _ rfl; refine bw ?_; exact bM.out) hb); replace HB := s2 HB b1 eU hb; (try clear hb); (try clear hb2); (try clear hk); (try clear hi)))
  go_ret
  exact ⟨er, by exact h2q HB.out b1.out eU.out⟩
end Go.Proofs.YtlhcohipnieidaaGreat.P
