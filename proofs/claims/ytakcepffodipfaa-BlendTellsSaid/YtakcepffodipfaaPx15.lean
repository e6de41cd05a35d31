/- Functions of the program as plain Lean functions, and proofs that its calls come to just their answers, where they tell one (written by a program of this session). -/
import Derived.Test.YtakcepffodipfaaZaa
import Derived.Test.YtakcepffodipfaaPx0
import Derived.Test.YtakcepffodipfaaPx13
import Derived.Test.YtakcepffodipfaaPx14
namespace Go.Proofs.Ytakcepffodipfaa.P
open Go.RowKit Go.Proofs.YtakcepffodipfaaW.PrintWords Go.Proofs.YtakcepffodipfaaW.PrintLast Go.Proofs.YtakcepffodipfaaW.PrintMore
attribute [local go_sem] max2_int min2_int max_two min_two max_three min_three max_four min_four   -- for this text's walks alone
set_option linter.unusedVariables false
set_option linter.unusedSimpArgs false

/-! ### annuityref21_weights: function 20 -/
mutual
def annuityref21_weights.l0 : Nat → List (S31) → Int → Option (List Int × Int × Int)
 | 0, _, _ => none
 | k + 1, x0, x5 => if x5 < (x0.length : Int) then (if 0 ≤ x5 then ((annuityref14_Good.f ((rd_T31 x0 x5).f0) ((rd_T31 x0 x5).f1) ((rd_T31 x0 x5).f2) ((rd_T31 x0 x5).f3) ((rd_T31 x0 x5).f4) ((rd_T31 x0 x5).f5) ((rd_T31 x0 x5).f6) ((rd_T31 x0 x5).f7) ((rd_T31 x0 x5).f8) ((rd_T31 x0 x5).f9) ((rd_T31 x0 x5).f10) ((rd_T31 x0 x5).f11) ((rd_T31 x0 x5).f12)).bind fun t247 => (if t247 = true then (if ((rd_T31 x0 x5).f8) = 0 then (if ((rd_T31 x0 x5).f12) > 1000000 then (some (([] : List Int), 0, 1)) else (annuityref21_weights.l0 k x0 (wrap64 (x5 + 1)))) else (some (([] : List Int), 0, 1))) else (some (([] : List Int), 0, 1)))) else (none)) else (if (x0.length : Int) < 2 then (some (([] : List Int), 0, 64)) else (annuityref21_weights.l1 k x0 ([] : List Int) 0))
def annuityref21_weights.l1 : Nat → List (S31) → List Int → Int → Option (List Int × Int × Int)
 | 0, _, _, _ => none
 | k + 1, x0, x6, x7 => if x7 < (x0.length : Int) then (if 0 ≤ x7 then ((annuityref14_Owes.f ((rd_T31 x0 x7).f0) ((rd_T31 x0 x7).f1) ((rd_T31 x0 x7).f2) ((rd_T31 x0 x7).f3) ((rd_T31 x0 x7).f4) ((rd_T31 x0 x7).f5) ((rd_T31 x0 x7).f6) ((rd_T31 x0 x7).f7) ((rd_T31 x0 x7).f8) ((rd_T31 x0 x7).f9) ((rd_T31 x0 x7).f10) ((rd_T31 x0 x7).f11) ((rd_T31 x0 x7).f12)).bind fun bt251 => (if bt251.2 = 0 then (if x6.length < 17592186044416 then (annuityref21_weights.l1 k x0 (x6 ++ [bt251.1]) (wrap64 (x7 + 1))) else (none)) else (some (([] : List Int), 0, bt251.2)))) else (none)) else ((annuityref01_Sum.f k x6).bind fun bt256 => (if bt256.2 = 0 then (if bt256.1 = 0 then (some (([] : List Int), 0, 64)) else (some (x6, bt256.1, 0))) else (some (([] : List Int), 0, bt256.2))))
end
def annuityref21_weights.f (k : Nat) (l0 : List (S31)) : Option (List Int × Int × Int) := if (l0.length : Int) > 16 then (some (([] : List Int), 0, 1)) else (annuityref21_weights.l0 k l0 0)
set_option maxHeartbeats 8000000 in
set_option maxRecDepth 100000 in
theorem annuityref21_weights.calls (k : Nat) (A0 : Option Addr) (c0 : Nat) (l0 : List (S31)) (r1 : List Int) (r2 : Int) (r3 : Int) (w : World) (hr0 : Kd.C k31 w A0 l0.length l0) (hc0 : l0.length ≤ c0) (h : annuityref21_weights.f k l0 = some (r1, r2, r3)) :
  Calls Try.prog 20 #[.slice A0 l0.length c0] w fun e w' => ∃ v0_ : Value, e = .returned (.tuple #[v0_, .int .i64 r2, .int .i64 r3]) ∧ Kd.R (Kd.int .i64) 2 w' w.heap.size (fun _ => True) v0_ r1 ∧ Below w.heap.size w w' := by
 have hu31 := Try.underlying31
 have HR0 := Aside0.mk hr0
 have HC0 := Aside0.mk hc0
 clear hr0 hc0
 have HB := Aside0.mk (Below.refl w.heap.size w)
 have H : (if (l0.length : Int) > 16 then (some (([] : List Int), 0, 1)) else (annuityref21_weights.l0 k l0 0)) = some (r1, r2, r3) := h
 clear h
 by_cases c2 : (l0.length : Int) > 16
 ·rw [if_pos c2] at H
  have c2b0 : decide (16 < (l0.length : Int)) = true := decide_eq_true c2
  have c2b1 : decide (16 < l0.length) = true := decide_eq_true (by omega)
  clear c2
  simp only [Option.some.injEq, Prod.mk.injEq] at H
  obtain ⟨rfl, rfl, rfl⟩ := H
  go_enter Try.func20, Try.ntmps20
  go_wp2
  go_ret3
  exact ⟨_, by first | rfl | (simp [errW_none, errW_some] <;> rfl) | (simp [*, errW_none, errW_some] <;> rfl), by first | exact Kd.R_nil _ _ _ _ _ | exact Kd.N_nil _ _ _ _ _ | exact Kd.V_nil _ _ _ _ _ | exact Kd.Q_nil _ _ _ _ _ | exact Kd.S_nil _ _ _ _ _, by exact h0q HB.out⟩
 ·rw [if_neg c2] at H
  have c2b0 : decide (16 < (l0.length : Int)) = false := decide_eq_false c2
  have c2b1 : decide (16 < l0.length) = false := decide_eq_false (by omega)
  clear c2
  have H' := Aside0.mk H
  clear H
  go_enter Try.func20, Try.ntmps20
  go_wp2
  go_loopg [5] k (fun kq v5 w' => ∃ (x5_1 : Int), v5 = .int .i64 x5_1 ∧ Aside0 (annuityref21_weights.l0 kq l0 x5_1 = some (r1, r2, r3)) ∧ Aside0 (kq ≤ k) ∧ Aside0 (Below w.heap.size w w'))
  case atStart => exact ⟨(0), (by first | rfl | (simp; done) | (simp [*]; done)), H', ⟨Nat.le_refl _⟩, ⟨by exact h0q HB.out⟩⟩
  case round =>
   clear H'
   try clear c2
   try clear c2b0 c2b1
   obtain ⟨x5_1, rfl, HA, HK1, HB⟩ := hrel
   rcases gk with _ | k1
   ·exact absurd HA.out (by simp [annuityref21_weights.l0])
   have H := HA.out
   clear HA
   simp only [annuityref21_weights.l0] at H
   by_cases c3 : x5_1 < (l0.length : Int)
   ·rw [if_pos c3] at H
    have c3b0 : decide (x5_1 < (l0.length : Int)) = true := decide_eq_true c3
    clear c3
    by_cases c4 : 0 ≤ x5_1
    ·rw [if_pos c4] at H
     have c4b0 : decide (0 ≤ x5_1) = true := decide_eq_true c4
     clear c4
     replace H := Option.bind_eq_some_iff.mp H
     obtain ⟨t247, A50, H⟩ := H
     replace H : (if t247 = true then (if ((rd_T31 l0 x5_1).f8) = 0 then (if ((rd_T31 l0 x5_1).f12) > 1000000 then (some (([] : List Int), 0, 1)) else (annuityref21_weights.l0 k1 l0 (wrap64 (x5_1 + 1)))) else (some (([] : List Int), 0, 1))) else (some (([] : List Int), 0, 1))) = some (r1, r2, r3) := H
     have A5 := Aside0.mk A50
     clear A50
     by_cases c6 : t247 = true
     ·subst c6
      have H1 : (if ((rd_T31 l0 x5_1).f8) = 0 then (if ((rd_T31 l0 x5_1).f12) > 1000000 then (some (([] : List Int), 0, 1)) else (annuityref21_weights.l0 k1 l0 (wrap64 (x5_1 + 1)))) else (some (([] : List Int), 0, 1))) = some (r1, r2, r3) := by rw [if_pos rfl] at H; exact H
      clear H
      have H := H1
      clear H1
      by_cases c7 : ((rd_T31 l0 x5_1).f8) = 0
      ·rw [if_pos c7] at H
       have c7b0 : (((rd_T31 l0 x5_1).f8) == 0) = true := beq_iff_eq.mpr c7
       have c7b1 : (((rd_T31 l0 x5_1).f8) != 0) = false := bne_eq_false_iff_eq.mpr c7
       clear c7
       by_cases c8 : ((rd_T31 l0 x5_1).f12) > 1000000
       ·rw [if_pos c8] at H
        have c8b0 : decide (1000000 < ((rd_T31 l0 x5_1).f12)) = true := decide_eq_true c8
        clear c8
        simp only [Option.some.injEq, Prod.mk.injEq] at H
        obtain ⟨rfl, rfl, rfl⟩ := H
        have p246 : 0 ≤ (x5_1 : Int) := yd
        have q246 : x5_1 < (l0.length : Int) := yd
        obtain ⟨ad246, e246, hx246_0, hx246_1, hx246_2, hx246_3, hx246_4, hx246_5, hx246_6, hx246_7, hx246_8, hx246_9, hx246_10, hx246_11, hx246_12⟩ := at_T31 HR0.out x5_1 p246 q246
        cases e246
        replace hx246_0 := hxb HB.out hx246_0
        replace hx246_1 := hxb HB.out hx246_1
        replace hx246_2 := hxb HB.out hx246_2
        replace hx246_3 := hxb HB.out hx246_3
        replace hx246_4 := hxb HB.out hx246_4
        replace hx246_5 := hxb HB.out hx246_5
        replace hx246_6 := hxb HB.out hx246_6
        replace hx246_7 := hxb HB.out hx246_7
        replace hx246_8 := hxb HB.out hx246_8
        replace hx246_9 := hxb HB.out hx246_9
        replace hx246_10 := hxb HB.out hx246_10
        replace hx246_11 := hxb HB.out hx246_11
        replace hx246_12 := hxb HB.out hx246_12
        replace p246 := eq_true p246
        replace q246 := eq_true q246
        go_wp2_with (first | ((with_reducible refine gate_callee (f := 28) rfl ?_); refine goesL_ (some 25) rfl rfl Try.func28 (by kernel_rfl) rfl #[.agg #[.int .i64 ((rd_T31 l0 x5_1).f0), .int .i64 ((rd_T31 l0 x5_1).f1), .int .i64 ((rd_T31 l0 x5_1).f2), .int .i64 ((rd_T31 l0 x5_1).f3), .int .i64 ((rd_T31 l0 x5_1).f4), .int .i64 ((rd_T31 l0 x5_1).f5), .bool ((rd_T31 l0 x5_1).f6), .int .i64 ((rd_T31 l0 x5_1).f7), .int .i64 ((rd_T31 l0 x5_1).f8), .int .i64 ((rd_T31 l0 x5_1).f9), .int .i64 ((rd_T31 l0 x5_1).f10), .int .i64 ((rd_T31 l0 x5_1).f11), .int .i64 ((rd_T31 l0 x5_1).f12)]] rfl (by (try simp only [List.map_toArray, List.map_cons, List.map_nil]); first | done | rfl | (simp only [List.length_drop, List.length_take]; rfl)) ?_; (with_reducible refine (annuityref14_Good.calls ((rd_T31 l0 x5_1).f0) ((rd_T31 l0 x5_1).f1) ((rd_T31 l0 x5_1).f2) ((rd_T31 l0 x5_1).f3) ((rd_T31 l0 x5_1).f4) ((rd_T31 l0 x5_1).f5) ((rd_T31 l0 x5_1).f6) ((rd_T31 l0 x5_1).f7) ((rd_T31 l0 x5_1).f8) ((rd_T31 l0 x5_1).f9) ((rd_T31 l0 x5_1).f10) ((rd_T31 l0 x5_1).f11) ((rd_T31 l0 x5_1).f12) true _ A5.out).mono ?_); rintro e w9 ⟨rfl, hb⟩; refine ⟨_, rfl, ?_⟩; have n0_ := Aside0.mk (below_step (by exact h0q HB.out) hb); clear HB; have HB := n0_; clear n0_; (try clear hb); (try clear hb2); (try clear hk); (try clear hi); have p248 : 0 ≤ (x5_1 : Int) := yd; have q248 : x5_1 < (l0.length : Int) := yd; obtain ⟨ad248, e248, hx248_0, hx248_1, hx248_2, hx248_3, hx248_4, hx248_5, hx248_6, hx248_7, hx248_8, hx248_9, hx248_10, hx248_11, hx248_12⟩ := at_T31 HR0.out x5_1 p248 q248; obtain rfl : ad246 = ad248 := (by injection e248); replace hx248_0 := hxb HB.out hx248_0; replace hx248_1 := hxb HB.out hx248_1; replace hx248_2 := hxb HB.out hx248_2; replace hx248_3 := hxb HB.out hx248_3; replace hx248_4 := hxb HB.out hx248_4; replace hx248_5 := hxb HB.out hx248_5; replace hx248_6 := hxb HB.out hx248_6; replace hx248_7 := hxb HB.out hx248_7; replace hx248_8 := hxb HB.out hx248_8; replace hx248_9 := hxb HB.out hx248_9; replace hx248_10 := hxb HB.out hx248_10; replace hx248_11 := hxb HB.out hx248_11; replace hx248_12 := hxb HB.out hx248_12; replace p248 := eq_true p248; replace q248 := eq_true q248; have p249 : 0 ≤ (x5_1 : Int) := yd; have q249 : x5_1 < (l0.length : Int) := yd; obtain ⟨ad249, e249, hx249_0, hx249_1, hx249_2, hx249_3, hx249_4, hx249_5, hx249_6, hx249_7, hx249_8, hx249_9, hx249_10, hx249_11, hx249_12⟩ := at_T31 HR0.out x5_1 p249 q249; obtain rfl : ad246 = ad249 := (by injection e249); replace hx249_0 := hxb HB.out hx249_0; replace hx249_1 := hxb HB.out hx249_1; replace hx249_2 := hxb HB.out hx249_2; replace hx249_3 := hxb HB.out hx249_3; replace hx249_4 := hxb HB.out hx249_4; replace hx249_5 := hxb HB.out hx249_5; replace hx249_6 := hxb HB.out hx249_6; replace hx249_7 := hxb HB.out hx249_7; replace hx249_8 := hxb HB.out hx249_8; replace hx249_9 := hxb HB.out hx249_9; replace hx249_10 := hxb HB.out hx249_10; replace hx249_11 := hxb HB.out hx249_11; replace hx249_12 := hxb HB.out hx249_12; replace p249 := eq_true p249; replace q249 := eq_true q249))
        go_ret3
        exact ⟨_, by first | rfl | (simp [errW_none, errW_some] <;> rfl) | (simp [*, errW_none, errW_some] <;> rfl), by first | exact Kd.R_nil _ _ _ _ _ | exact Kd.N_nil _ _ _ _ _ | exact Kd.V_nil _ _ _ _ _ | exact Kd.Q_nil _ _ _ _ _ | exact Kd.S_nil _ _ _ _ _, by exact h0q HB.out⟩
       ·rw [if_neg c8] at H
        have c8b0 : decide (1000000 < ((rd_T31 l0 x5_1).f12)) = false := decide_eq_false c8
        clear c8
        have H' := Aside0.mk H
        clear H
        have p246 : 0 ≤ (x5_1 : Int) := yd
        have q246 : x5_1 < (l0.length : Int) := yd
        obtain ⟨ad246, e246, hx246_0, hx246_1, hx246_2, hx246_3, hx246_4, hx246_5, hx246_6, hx246_7, hx246_8, hx246_9, hx246_10, hx246_11, hx246_12⟩ := at_T31 HR0.out x5_1 p246 q246
        cases e246
        replace hx246_0 := hxb HB.out hx246_0
        replace hx246_1 := hxb HB.out hx246_1
        replace hx246_2 := hxb HB.out hx246_2
        replace hx246_3 := hxb HB.out hx246_3
        replace hx246_4 := hxb HB.out hx246_4
        replace hx246_5 := hxb HB.out hx246_5
        replace hx246_6 := hxb HB.out hx246_6
        replace hx246_7 := hxb HB.out hx246_7
        replace hx246_8 := hxb HB.out hx246_8
        replace hx246_9 := hxb HB.out hx246_9
        replace hx246_10 := hxb HB.out hx246_10
        replace hx246_11 := hxb HB.out hx246_11
        replace hx246_12 := hxb HB.out hx246_12
        replace p246 := eq_true p246
        replace q246 := eq_true q246
        go_wp2_with (first | ((with_reducible refine gate_callee (f := 28) rfl ?_); refine goesL_ (some 25) rfl rfl Try.func28 (by kernel_rfl) rfl #[.agg #[.int .i64 ((rd_T31 l0 x5_1).f0), .int .i64 ((rd_T31 l0 x5_1).f1), .int .i64 ((rd_T31 l0 x5_1).f2), .int .i64 ((rd_T31 l0 x5_1).f3), .int .i64 ((rd_T31 l0 x5_1).f4), .int .i64 ((rd_T31 l0 x5_1).f5), .bool ((rd_T31 l0 x5_1).f6), .int .i64 ((rd_T31 l0 x5_1).f7), .int .i64 ((rd_T31 l0 x5_1).f8), .int .i64 ((rd_T31 l0 x5_1).f9), .int .i64 ((rd_T31 l0 x5_1).f10), .int .i64 ((rd_T31 l0 x5_1).f11), .int .i64 ((rd_T31 l0 x5_1).f12)]] rfl (by (try simp only [List.map_toArray, List.map_cons, List.map_nil]); first | done | rfl | (simp only [List.length_drop, List.length_take]; rfl)) ?_; (with_reducible refine (annuityref14_Good.calls ((rd_T31 l0 x5_1).f0) ((rd_T31 l0 x5_1).f1) ((rd_T31 l0 x5_1).f2) ((rd_T31 l0 x5_1).f3) ((rd_T31 l0 x5_1).f4) ((rd_T31 l0 x5_1).f5) ((rd_T31 l0 x5_1).f6) ((rd_T31 l0 x5_1).f7) ((rd_T31 l0 x5_1).f8) ((rd_T31 l0 x5_1).f9) ((rd_T31 l0 x5_1).f10) ((rd_T31 l0 x5_1).f11) ((rd_T31 l0 x5_1).f12) true _ A5.out).mono ?_); rintro e w10 ⟨rfl, hb⟩; refine ⟨_, rfl, ?_⟩; have n0_ := Aside0.mk (below_step (by exact h0q HB.out) hb); clear HB; have HB := n0_; clear n0_; (try clear hb); (try clear hb2); (try clear hk); (try clear hi); have p248 : 0 ≤ (x5_1 : Int) := yd; have q248 : x5_1 < (l0.length : Int) := yd; obtain ⟨ad248, e248, hx248_0, hx248_1, hx248_2, hx248_3, hx248_4, hx248_5, hx248_6, hx248_7, hx248_8, hx248_9, hx248_10, hx248_11, hx248_12⟩ := at_T31 HR0.out x5_1 p248 q248; obtain rfl : ad246 = ad248 := (by injection e248); replace hx248_0 := hxb HB.out hx248_0; replace hx248_1 := hxb HB.out hx248_1; replace hx248_2 := hxb HB.out hx248_2; replace hx248_3 := hxb HB.out hx248_3; replace hx248_4 := hxb HB.out hx248_4; replace hx248_5 := hxb HB.out hx248_5; replace hx248_6 := hxb HB.out hx248_6; replace hx248_7 := hxb HB.out hx248_7; replace hx248_8 := hxb HB.out hx248_8; replace hx248_9 := hxb HB.out hx248_9; replace hx248_10 := hxb HB.out hx248_10; replace hx248_11 := hxb HB.out hx248_11; replace hx248_12 := hxb HB.out hx248_12; replace p248 := eq_true p248; replace q248 := eq_true q248; have p249 : 0 ≤ (x5_1 : Int) := yd; have q249 : x5_1 < (l0.length : Int) := yd; obtain ⟨ad249, e249, hx249_0, hx249_1, hx249_2, hx249_3, hx249_4, hx249_5, hx249_6, hx249_7, hx249_8, hx249_9, hx249_10, hx249_11, hx249_12⟩ := at_T31 HR0.out x5_1 p249 q249; obtain rfl : ad246 = ad249 := (by injection e249); replace hx249_0 := hxb HB.out hx249_0; replace hx249_1 := hxb HB.out hx249_1; replace hx249_2 := hxb HB.out hx249_2; replace hx249_3 := hxb HB.out hx249_3; replace hx249_4 := hxb HB.out hx249_4; replace hx249_5 := hxb HB.out hx249_5; replace hx249_6 := hxb HB.out hx249_6; replace hx249_7 := hxb HB.out hx249_7; replace hx249_8 := hxb HB.out hx249_8; replace hx249_9 := hxb HB.out hx249_9; replace hx249_10 := hxb HB.out hx249_10; replace hx249_11 := hxb HB.out hx249_11; replace hx249_12 := hxb HB.out hx249_12; replace p249 := eq_true p249; replace q249 := eq_true q249))
        go_roundg k1
        case measure => have := HK1.out; omega
        case rel => exact ⟨(wrap64 (x5_1 + 1)), (by first | rfl | (simp; done) | (simp [*]; done)), H', ⟨by have := HK1.out; omega⟩, ⟨by exact h0q HB.out⟩⟩
      ·rw [if_neg c7] at H
       have c7b0 : (((rd_T31 l0 x5_1).f8) == 0) = false := beq_eq_false_iff_ne.mpr c7
       have c7b1 : (((rd_T31 l0 x5_1).f8) != 0) = true := bne_iff_ne.mpr c7
       simp only [Option.some.injEq, Prod.mk.injEq] at H
       obtain ⟨rfl, rfl, rfl⟩ := H
       have p246 : 0 ≤ (x5_1 : Int) := yd
       have q246 : x5_1 < (l0.length : Int) := yd
       obtain ⟨ad246, e246, hx246_0, hx246_1, hx246_2, hx246_3, hx246_4, hx246_5, hx246_6, hx246_7, hx246_8, hx246_9, hx246_10, hx246_11, hx246_12⟩ := at_T31 HR0.out x5_1 p246 q246
       cases e246
       replace hx246_0 := hxb HB.out hx246_0
       replace hx246_1 := hxb HB.out hx246_1
       replace hx246_2 := hxb HB.out hx246_2
       replace hx246_3 := hxb HB.out hx246_3
       replace hx246_4 := hxb HB.out hx246_4
       replace hx246_5 := hxb HB.out hx246_5
       replace hx246_6 := hxb HB.out hx246_6
       replace hx246_7 := hxb HB.out hx246_7
       replace hx246_8 := hxb HB.out hx246_8
       replace hx246_9 := hxb HB.out hx246_9
       replace hx246_10 := hxb HB.out hx246_10
       replace hx246_11 := hxb HB.out hx246_11
       replace hx246_12 := hxb HB.out hx246_12
       replace p246 := eq_true p246
       replace q246 := eq_true q246
       go_wp2_with (first | ((with_reducible refine gate_callee (f := 28) rfl ?_); refine goesL_ (some 25) rfl rfl Try.func28 (by kernel_rfl) rfl #[.agg #[.int .i64 ((rd_T31 l0 x5_1).f0), .int .i64 ((rd_T31 l0 x5_1).f1), .int .i64 ((rd_T31 l0 x5_1).f2), .int .i64 ((rd_T31 l0 x5_1).f3), .int .i64 ((rd_T31 l0 x5_1).f4), .int .i64 ((rd_T31 l0 x5_1).f5), .bool ((rd_T31 l0 x5_1).f6), .int .i64 ((rd_T31 l0 x5_1).f7), .int .i64 ((rd_T31 l0 x5_1).f8), .int .i64 ((rd_T31 l0 x5_1).f9), .int .i64 ((rd_T31 l0 x5_1).f10), .int .i64 ((rd_T31 l0 x5_1).f11), .int .i64 ((rd_T31 l0 x5_1).f12)]] rfl (by (try simp only [List.map_toArray, List.map_cons, List.map_nil]); first | done | rfl | (simp only [List.length_drop, List.length_take]; rfl)) ?_; (with_reducible refine (annuityref14_Good.calls ((rd_T31 l0 x5_1).f0) ((rd_T31 l0 x5_1).f1) ((rd_T31 l0 x5_1).f2) ((rd_T31 l0 x5_1).f3) ((rd_T31 l0 x5_1).f4) ((rd_T31 l0 x5_1).f5) ((rd_T31 l0 x5_1).f6) ((rd_T31 l0 x5_1).f7) ((rd_T31 l0 x5_1).f8) ((rd_T31 l0 x5_1).f9) ((rd_T31 l0 x5_1).f10) ((rd_T31 l0 x5_1).f11) ((rd_T31 l0 x5_1).f12) true _ A5.out).mono ?_); rintro e w11 ⟨rfl, hb⟩; refine ⟨_, rfl, ?_⟩; have n0_ := Aside0.mk (below_step (by exact h0q HB.out) hb); clear HB; have HB := n0_; clear n0_; (try clear hb); (try clear hb2); (try clear hk); (try clear hi); have p248 : 0 ≤ (x5_1 : Int) := yd; have q248 : x5_1 < (l0.length : Int) := yd; obtain ⟨ad248, e248, hx248_0, hx248_1, hx248_2, hx248_3, hx248_4, hx248_5, hx248_6, hx248_7, hx248_8, hx248_9, hx248_10, hx248_11, hx248_12⟩ := at_T31 HR0.out x5_1 p248 q248; obtain rfl : ad246 = ad248 := (by injection e248); replace hx248_0 := hxb HB.out hx248_0; replace hx248_1 := hxb HB.out hx248_1; replace hx248_2 := hxb HB.out hx248_2; replace hx248_3 := hxb HB.out hx248_3; replace hx248_4 := hxb HB.out hx248_4; replace hx248_5 := hxb HB.out hx248_5; replace hx248_6 := hxb HB.out hx248_6; replace hx248_7 := hxb HB.out hx248_7; replace hx248_8 := hxb HB.out hx248_8; replace hx248_9 := hxb HB.out hx248_9; replace hx248_10 := hxb HB.out hx248_10; replace hx248_11 := hxb HB.out hx248_11; replace hx248_12 := hxb HB.out hx248_12; replace p248 := eq_true p248; replace q248 := eq_true q248))
       go_ret3
       exact ⟨_, by first | rfl | (simp [errW_none, errW_some] <;> rfl) | (simp [*, errW_none, errW_some] <;> rfl), by first | exact Kd.R_nil _ _ _ _ _ | exact Kd.N_nil _ _ _ _ _ | exact Kd.V_nil _ _ _ _ _ | exact Kd.Q_nil _ _ _ _ _ | exact Kd.S_nil _ _ _ _ _, by exact h0q HB.out⟩
     ·replace c6 := Bool.eq_false_iff.mpr c6
      subst c6
      have H1 : (some (([] : List Int), 0, 1)) = some (r1, r2, r3) := by rw [if_neg (show ¬ (false = true) by decide)] at H; exact H
      clear H
      have H := H1
      clear H1
      simp only [Option.some.injEq, Prod.mk.injEq] at H
      obtain ⟨rfl, rfl, rfl⟩ := H
      have p246 : 0 ≤ (x5_1 : Int) := yd
      have q246 : x5_1 < (l0.length : Int) := yd
      obtain ⟨ad246, e246, hx246_0, hx246_1, hx246_2, hx246_3, hx246_4, hx246_5, hx246_6, hx246_7, hx246_8, hx246_9, hx246_10, hx246_11, hx246_12⟩ := at_T31 HR0.out x5_1 p246 q246
      cases e246
      replace hx246_0 := hxb HB.out hx246_0
      replace hx246_1 := hxb HB.out hx246_1
      replace hx246_2 := hxb HB.out hx246_2
      replace hx246_3 := hxb HB.out hx246_3
      replace hx246_4 := hxb HB.out hx246_4
      replace hx246_5 := hxb HB.out hx246_5
      replace hx246_6 := hxb HB.out hx246_6
      replace hx246_7 := hxb HB.out hx246_7
      replace hx246_8 := hxb HB.out hx246_8
      replace hx246_9 := hxb HB.out hx246_9
      replace hx246_10 := hxb HB.out hx246_10
      replace hx246_11 := hxb HB.out hx246_11
      replace hx246_12 := hxb HB.out hx246_12
      replace p246 := eq_true p246
      replace q246 := eq_true q246
      go_wp2_with (first | ((with_reducible refine gate_callee (f := 28) rfl ?_); refine goesL_ (some 25) rfl rfl Try.func28 (by kernel_rfl) rfl #[.agg #[.int .i64 ((rd_T31 l0 x5_1).f0), .int .i64 ((rd_T31 l0 x5_1).f1), .int .i64 ((rd_T31 l0 x5_1).f2), .int .i64 ((rd_T31 l0 x5_1).f3), .int .i64 ((rd_T31 l0 x5_1).f4), .int .i64 ((rd_T31 l0 x5_1).f5), .bool ((rd_T31 l0 x5_1).f6), .int .i64 ((rd_T31 l0 x5_1).f7), .int .i64 ((rd_T31 l0 x5_1).f8), .int .i64 ((rd_T31 l0 x5_1).f9), .int .i64 ((rd_T31 l0 x5_1).f10), .int .i64 ((rd_T31 l0 x5_1).f11), .int .i64 ((rd_T31 l0 x5_1).f12)]] rfl (by (try simp only [List.map_toArray, List.map_cons, List.map_nil]); first | done | rfl | (simp only [List.length_drop, List.length_take]; rfl)) ?_; (with_reducible refine (annuityref14_Good.calls ((rd_T31 l0 x5_1).f0) ((rd_T31 l0 x5_1).f1) ((rd_T31 l0 x5_1).f2) ((rd_T31 l0 x5_1).f3) ((rd_T31 l0 x5_1).f4) ((rd_T31 l0 x5_1).f5) ((rd_T31 l0 x5_1).f6) ((rd_T31 l0 x5_1).f7) ((rd_T31 l0 x5_1).f8) ((rd_T31 l0 x5_1).f9) ((rd_T31 l0 x5_1).f10) ((rd_T31 l0 x5_1).f11) ((rd_T31 l0 x5_1).f12) false _ A5.out).mono ?_); rintro e w12 ⟨rfl, hb⟩; refine ⟨_, rfl, ?_⟩; have n0_ := Aside0.mk (below_step (by exact h0q HB.out) hb); clear HB; have HB := n0_; clear n0_; (try clear hb); (try clear hb2); (try clear hk); (try clear hi)))
      go_ret3
      exact ⟨_, by first | rfl | (simp [errW_none, errW_some] <;> rfl) | (simp [*, errW_none, errW_some] <;> rfl), by first | exact Kd.R_nil _ _ _ _ _ | exact Kd.N_nil _ _ _ _ _ | exact Kd.V_nil _ _ _ _ _ | exact Kd.Q_nil _ _ _ _ _ | exact Kd.S_nil _ _ _ _ _, by exact h0q HB.out⟩
    ·rw [if_neg c4] at H
     exact absurd H (by simp)
   ·rw [if_neg c3] at H
    have c3b0 : decide (x5_1 < (l0.length : Int)) = false := decide_eq_false c3
    clear c3
    by_cases c13 : (l0.length : Int) < 2
    ·rw [if_pos c13] at H
     have c13b0 : decide ((l0.length : Int) < 2) = true := decide_eq_true c13
     have c13b1 : decide (l0.length < 2) = true := decide_eq_true (by omega)
     clear c13
     simp only [Option.some.injEq, Prod.mk.injEq] at H
     obtain ⟨rfl, rfl, rfl⟩ := H
     go_wp2
     go_ret3
     exact ⟨_, by first | rfl | (simp [errW_none, errW_some] <;> rfl) | (simp [*, errW_none, errW_some] <;> rfl), by first | exact Kd.R_nil _ _ _ _ _ | exact Kd.N_nil _ _ _ _ _ | exact Kd.V_nil _ _ _ _ _ | exact Kd.Q_nil _ _ _ _ _ | exact Kd.S_nil _ _ _ _ _, by exact h0q HB.out⟩
    ·rw [if_neg c13] at H
     have c13b0 : decide ((l0.length : Int) < 2) = false := decide_eq_false c13
     have c13b1 : decide (l0.length < 2) = false := decide_eq_false (by omega)
     clear c13
     have H' := Aside0.mk H
     clear H
     go_wp2
     go_loopg [6, 7] k1 (fun kq v6 v7 w' => ∃ (x6_2 : List Int) (x7_2 : Int), v7 = .int .i64 x7_2 ∧ Aside0 (annuityref21_weights.l1 kq l0 x6_2 x7_2 = some (r1, r2, r3)) ∧ Aside0 (kq ≤ k1) ∧ Aside0 (Kd.R (Kd.int .i64) 2 w' w.heap.size (fun _ => True) v6 x6_2) ∧ Aside0 (Below w.heap.size w w'))
     case atStart => exact ⟨(([] : List Int)), (0), (by first | rfl | (simp; done) | (simp [*]; done)), H', ⟨Nat.le_refl _⟩, ⟨by first | exact Kd.R_nil _ _ _ _ _ | exact Kd.N_nil _ _ _ _ _ | exact Kd.V_nil _ _ _ _ _ | exact Kd.Q_nil _ _ _ _ _ | exact Kd.S_nil _ _ _ _ _⟩, ⟨by exact h0q HB.out⟩⟩
     case round =>
      clear H'
      try clear c2
      try clear c2b0 c2b1
      try clear c3
      try clear c3b0
      try clear c4
      try clear c4b0
      try clear c6
      try clear c7
      try clear c7b0 c7b1
      try clear c8
      try clear c8b0
      try clear c13
      try clear c13b0 c13b1
      try clear hx246_0 hx246_1 hx246_10 hx246_11 hx246_12 hx246_2 hx246_3 hx246_4 hx246_5 hx246_6 hx246_7 hx246_8 hx246_9
      try clear hx248_0 hx248_1 hx248_10 hx248_11 hx248_12 hx248_2 hx248_3 hx248_4 hx248_5 hx248_6 hx248_7 hx248_8 hx248_9
      try clear hx249_0 hx249_1 hx249_10 hx249_11 hx249_12 hx249_2 hx249_3 hx249_4 hx249_5 hx249_6 hx249_7 hx249_8 hx249_9
      try clear p246
      try clear p248
      try clear p249
      try clear q246
      try clear q248
      try clear q249
      obtain ⟨x6_2, x7_2, rfl, HA, HK2, HO_6, HB⟩ := hrel
      rcases gk with _ | k2
      ·exact absurd HA.out (by simp [annuityref21_weights.l1])
      have H := HA.out
      clear HA
      simp only [annuityref21_weights.l1] at H
      by_cases c14 : x7_2 < (l0.length : Int)
      ·rw [if_pos c14] at H
       have c14b0 : decide (x7_2 < (l0.length : Int)) = true := decide_eq_true c14
       clear c14
       by_cases c15 : 0 ≤ x7_2
       ·rw [if_pos c15] at H
        have c15b0 : decide (0 ≤ x7_2) = true := decide_eq_true c15
        clear c15
        replace H := Option.bind_eq_some_iff.mp H
        obtain ⟨⟨t251, t252⟩, A160, H⟩ := H
        replace H : (if t252 = 0 then (if x6_2.length < 17592186044416 then (annuityref21_weights.l1 k2 l0 (x6_2 ++ [t251]) (wrap64 (x7_2 + 1))) else (none)) else (some (([] : List Int), 0, t252))) = some (r1, r2, r3) := H
        have A16 := Aside0.mk A160
        clear A160
        by_cases c17 : t252 = 0
        ·rw [if_pos c17] at H
         have c17b0 : (t252 == 0) = true := beq_iff_eq.mpr c17
         have c17b1 : (t252 != 0) = false := bne_eq_false_iff_eq.mpr c17
         clear c17
         by_cases c18 : x6_2.length < 17592186044416
         ·rw [if_pos c18] at H
          have LMc18 := Aside0.mk c18
          clear c18
          obtain ⟨y253, hy253⟩ : ∃ y_ : List Int, y_ = (x6_2 ++ [t251]) := ⟨_, rfl⟩
          replace H : (annuityref21_weights.l1 k2 l0 y253 (wrap64 (x7_2 + 1))) = some (r1, r2, r3) := by first | (rw [hy253]; with_reducible exact H) | (have H2_ := (Option.bind_some _ _).symm.trans H; rw [hy253]; with_reducible exact H2_) | (have H2_ := (Option.bind_some _ _).symm.trans H; with_reducible exact H2_) | with_reducible exact H | (rw [hy253]; exact H) | exact H
          have Ny253 := Aside0.mk hy253
          clear hy253
          have H' := Aside0.mk H
          clear H
          have p250 : 0 ≤ (x7_2 : Int) := yd
          have q250 : x7_2 < (l0.length : Int) := yd
          obtain ⟨ad250, e250, hx250_0, hx250_1, hx250_2, hx250_3, hx250_4, hx250_5, hx250_6, hx250_7, hx250_8, hx250_9, hx250_10, hx250_11, hx250_12⟩ := at_T31 HR0.out x7_2 p250 q250
          cases e250
          replace hx250_0 := hxb HB.out hx250_0
          replace hx250_1 := hxb HB.out hx250_1
          replace hx250_2 := hxb HB.out hx250_2
          replace hx250_3 := hxb HB.out hx250_3
          replace hx250_4 := hxb HB.out hx250_4
          replace hx250_5 := hxb HB.out hx250_5
          replace hx250_6 := hxb HB.out hx250_6
          replace hx250_7 := hxb HB.out hx250_7
          replace hx250_8 := hxb HB.out hx250_8
          replace hx250_9 := hxb HB.out hx250_9
          replace hx250_10 := hxb HB.out hx250_10
          replace hx250_11 := hxb HB.out hx250_11
          replace hx250_12 := hxb HB.out hx250_12
          replace p250 := eq_true p250
          replace q250 := eq_true q250
          go_wp2_with (first | ((with_reducible refine gate_callee (f := 16) rfl ?_); refine goesL_ (some 57) rfl rfl Try.func16 (by kernel_rfl) rfl #[.agg #[.int .i64 ((rd_T31 l0 x7_2).f0), .int .i64 ((rd_T31 l0 x7_2).f1), .int .i64 ((rd_T31 l0 x7_2).f2), .int .i64 ((rd_T31 l0 x7_2).f3), .int .i64 ((rd_T31 l0 x7_2).f4), .int .i64 ((rd_T31 l0 x7_2).f5), .bool ((rd_T31 l0 x7_2).f6), .int .i64 ((rd_T31 l0 x7_2).f7), .int .i64 ((rd_T31 l0 x7_2).f8), .int .i64 ((rd_T31 l0 x7_2).f9), .int .i64 ((rd_T31 l0 x7_2).f10), .int .i64 ((rd_T31 l0 x7_2).f11), .int .i64 ((rd_T31 l0 x7_2).f12)]] rfl (by (try simp only [List.map_toArray, List.map_cons, List.map_nil]); first | done | rfl | (simp only [List.length_drop, List.length_take]; rfl)) ?_; (with_reducible refine (annuityref14_Owes.calls ((rd_T31 l0 x7_2).f0) ((rd_T31 l0 x7_2).f1) ((rd_T31 l0 x7_2).f2) ((rd_T31 l0 x7_2).f3) ((rd_T31 l0 x7_2).f4) ((rd_T31 l0 x7_2).f5) ((rd_T31 l0 x7_2).f6) ((rd_T31 l0 x7_2).f7) ((rd_T31 l0 x7_2).f8) ((rd_T31 l0 x7_2).f9) ((rd_T31 l0 x7_2).f10) ((rd_T31 l0 x7_2).f11) ((rd_T31 l0 x7_2).f12) t251 t252 _ A16.out).mono ?_); rintro e w19 ⟨rfl, hb⟩; refine ⟨_, rfl, ?_⟩; have n0_ := Aside0.mk (Kd.R_below (by exact rq HO_6.out) hb); have n1_ := Aside0.mk (below_step (by exact h0q HB.out) hb); clear HO_6; clear HB; have HO_6 := n0_; have HB := n1_; clear n0_ n1_; (try clear hb); (try clear hb2); (try clear hk); (try clear hi)) | ((with_reducible refine gate_builtin (b := .append) (xs := #[.tmp 63, .tmp 65]) rfl ?_); at_builtin; refine Kd.R_append (Kd.int .i64) (w0 := w) w.heap.size rfl (.tmp 63) (.tmp 65) 45 2 (.int .i64 0) 8 rfl Try.underlying45 info2 rfl (by decide) (by omega) u6 x6_2 t251 [.int .i64 t251] (fun _ => True) (fun _ => False) rfl rfl ?aP (fun _ hk => hk.elim) ?aF ?aO ?aB ?aS ?aL ?_; (case aP => exact rfl); (case aB => exact (by exact h0q HB.out)); (case aF => exact (fun _ _ => trivial)); (case aO => exact (by exact rq HO_6.out)); (case aS => exact (below_size (by exact h0q HB.out))); (case aL => have := LMc18.out; omega); intro v254 w20 ho hb hg hat; rw [← Ny253.out] at ho; have n0_ := Aside0.mk (hb); have n1_ := Aside0.mk (ho); clear HB; clear HO_6; have HB := n0_; have HO255 := n1_; clear n0_ n1_; clear ho hb hg hat))
          go_roundg k2
          case measure => have := HK1.out; have := HK2.out; omega
          case rel => exact ⟨(y253), (wrap64 (x7_2 + 1)), (by first | rfl | (simp; done) | (simp [*]; done)), H', ⟨by have := HK1.out; have := HK2.out; omega⟩, ⟨by exact rq HO255.out⟩, ⟨by exact h0q HB.out⟩⟩
         ·rw [if_neg c18] at H
          exact absurd H (by simp)
        ·rw [if_neg c17] at H
         have c17b0 : (t252 == 0) = false := beq_eq_false_iff_ne.mpr c17
         have c17b1 : (t252 != 0) = true := bne_iff_ne.mpr c17
         simp only [Option.some.injEq, Prod.mk.injEq] at H
         obtain ⟨rfl, rfl, rfl⟩ := H
         have p250 : 0 ≤ (x7_2 : Int) := yd
         have q250 : x7_2 < (l0.length : Int) := yd
         obtain ⟨ad250, e250, hx250_0, hx250_1, hx250_2, hx250_3, hx250_4, hx250_5, hx250_6, hx250_7, hx250_8, hx250_9, hx250_10, hx250_11, hx250_12⟩ := at_T31 HR0.out x7_2 p250 q250
         cases e250
         replace hx250_0 := hxb HB.out hx250_0
         replace hx250_1 := hxb HB.out hx250_1
         replace hx250_2 := hxb HB.out hx250_2
         replace hx250_3 := hxb HB.out hx250_3
         replace hx250_4 := hxb HB.out hx250_4
         replace hx250_5 := hxb HB.out hx250_5
         replace hx250_6 := hxb HB.out hx250_6
         replace hx250_7 := hxb HB.out hx250_7
         replace hx250_8 := hxb HB.out hx250_8
         replace hx250_9 := hxb HB.out hx250_9
         replace hx250_10 := hxb HB.out hx250_10
         replace hx250_11 := hxb HB.out hx250_11
         replace hx250_12 := hxb HB.out hx250_12
         replace p250 := eq_true p250
         replace q250 := eq_true q250
         go_wp2_with (first | ((with_reducible refine gate_callee (f := 16) rfl ?_); refine goesL_ (some 57) rfl rfl Try.func16 (by kernel_rfl) rfl #[.agg #[.int .i64 ((rd_T31 l0 x7_2).f0), .int .i64 ((rd_T31 l0 x7_2).f1), .int .i64 ((rd_T31 l0 x7_2).f2), .int .i64 ((rd_T31 l0 x7_2).f3), .int .i64 ((rd_T31 l0 x7_2).f4), .int .i64 ((rd_T31 l0 x7_2).f5), .bool ((rd_T31 l0 x7_2).f6), .int .i64 ((rd_T31 l0 x7_2).f7), .int .i64 ((rd_T31 l0 x7_2).f8), .int .i64 ((rd_T31 l0 x7_2).f9), .int .i64 ((rd_T31 l0 x7_2).f10), .int .i64 ((rd_T31 l0 x7_2).f11), .int .i64 ((rd_T31 l0 x7_2).f12)]] rfl (by (try simp only [List.map_toArray, List.map_cons, List.map_nil]); first | done | rfl | (simp only [List.length_drop, List.length_take]; rfl)) ?_; (with_reducible refine (annuityref14_Owes.calls ((rd_T31 l0 x7_2).f0) ((rd_T31 l0 x7_2).f1) ((rd_T31 l0 x7_2).f2) ((rd_T31 l0 x7_2).f3) ((rd_T31 l0 x7_2).f4) ((rd_T31 l0 x7_2).f5) ((rd_T31 l0 x7_2).f6) ((rd_T31 l0 x7_2).f7) ((rd_T31 l0 x7_2).f8) ((rd_T31 l0 x7_2).f9) ((rd_T31 l0 x7_2).f10) ((rd_T31 l0 x7_2).f11) ((rd_T31 l0 x7_2).f12) t251 t252 _ A16.out).mono ?_); rintro e w21 ⟨rfl, hb⟩; refine ⟨_, rfl, ?_⟩; have n0_ := Aside0.mk (Kd.R_below (by exact rq HO_6.out) hb); have n1_ := Aside0.mk (below_step (by exact h0q HB.out) hb); clear HO_6; clear HB; have HO_6 := n0_; have HB := n1_; clear n0_ n1_; (try clear hb); (try clear hb2); (try clear hk); (try clear hi)))
         go_ret3
         exact ⟨_, by first | rfl | (simp [errW_none, errW_some] <;> rfl) | (simp [*, errW_none, errW_some] <;> rfl), by first | exact Kd.R_nil _ _ _ _ _ | exact Kd.N_nil _ _ _ _ _ | exact Kd.V_nil _ _ _ _ _ | exact Kd.Q_nil _ _ _ _ _ | exact Kd.S_nil _ _ _ _ _, by exact h0q HB.out⟩
       ·rw [if_neg c15] at H
        exact absurd H (by simp)
      ·rw [if_neg c14] at H
       have c14b0 : decide (x7_2 < (l0.length : Int)) = false := decide_eq_false c14
       clear c14
       replace H := Option.bind_eq_some_iff.mp H
       obtain ⟨⟨t256, t257⟩, A220, H⟩ := H
       replace H : (if t257 = 0 then (if t256 = 0 then (some (([] : List Int), 0, 64)) else (some (x6_2, t256, 0))) else (some (([] : List Int), 0, t257))) = some (r1, r2, r3) := H
       have A22 := Aside0.mk A220
       clear A220
       by_cases c23 : t257 = 0
       ·rw [if_pos c23] at H
        have c23b0 : (t257 == 0) = true := beq_iff_eq.mpr c23
        have c23b1 : (t257 != 0) = false := bne_eq_false_iff_eq.mpr c23
        clear c23
        by_cases c24 : t256 = 0
        ·rw [if_pos c24] at H
         have c24b0 : (t256 == 0) = true := beq_iff_eq.mpr c24
         have c24b1 : (t256 != 0) = false := bne_eq_false_iff_eq.mpr c24
         clear c24
         simp only [Option.some.injEq, Prod.mk.injEq] at H
         obtain ⟨rfl, rfl, rfl⟩ := H
         obtain ⟨Ao25, co25, eo25⟩ := Kd.R_slice HO_6.out
         subst eo25
         go_wp2_with (first | ((with_reducible refine gate_callee (f := 34) rfl ?_); refine goesL_ (some 69) rfl rfl Try.func34 (by kernel_rfl) rfl #[.slice Ao25 x6_2.length co25] rfl (by (try simp only [List.map_toArray, List.map_cons, List.map_nil]); first | done | rfl | (simp only [List.length_drop, List.length_take]; rfl)) ?_; (with_reducible refine (annuityref01_Sum.calls k2 _ _ x6_2 t256 t257 _ ?side1 ?side2 A22.out).mono ?_); (case side1 => repeat (first | exact (Kd.R_reads' HO_6.out).2.2 | (with_reducible refine Kd.C_alloc ?_ _) | (with_reducible refine Kd.C_drewN ?_ _) | (with_reducible refine Kd.C_drew ?_))); (case side2 => exact (Kd.R_reads' HO_6.out).2.1); rintro e w' ⟨rfl, ⟨nd, rfl⟩⟩; refine ⟨_, rfl, ?_⟩))
         go_ret3
         exact ⟨_, by first | rfl | (simp [errW_none, errW_some] <;> rfl) | (simp [*, errW_none, errW_some] <;> rfl), by first | exact Kd.R_nil _ _ _ _ _ | exact Kd.N_nil _ _ _ _ _ | exact Kd.V_nil _ _ _ _ _ | exact Kd.Q_nil _ _ _ _ _ | exact Kd.S_nil _ _ _ _ _, by exact h0q HB.out⟩
        ·rw [if_neg c24] at H
         have c24b0 : (t256 == 0) = false := beq_eq_false_iff_ne.mpr c24
         have c24b1 : (t256 != 0) = true := bne_iff_ne.mpr c24
         simp only [Option.some.injEq, Prod.mk.injEq] at H
         obtain ⟨rfl, rfl, rfl⟩ := H
         obtain ⟨Ao26, co26, eo26⟩ := Kd.R_slice HO_6.out
         subst eo26
         go_wp2_with (first | ((with_reducible refine gate_callee (f := 34) rfl ?_); refine goesL_ (some 69) rfl rfl Try.func34 (by kernel_rfl) rfl #[.slice Ao26 x6_2.length co26] rfl (by (try simp only [List.map_toArray, List.map_cons, List.map_nil]); first | done | rfl | (simp only [List.length_drop, List.length_take]; rfl)) ?_; (with_reducible refine (annuityref01_Sum.calls k2 _ _ x6_2 t256 t257 _ ?side1 ?side2 A22.out).mono ?_); (case side1 => repeat (first | exact (Kd.R_reads' HO_6.out).2.2 | (with_reducible refine Kd.C_alloc ?_ _) | (with_reducible refine Kd.C_drewN ?_ _) | (with_reducible refine Kd.C_drew ?_))); (case side2 => exact (Kd.R_reads' HO_6.out).2.1); rintro e w' ⟨rfl, ⟨nd, rfl⟩⟩; refine ⟨_, rfl, ?_⟩))
         go_ret3
         exact ⟨_, by first | rfl | (simp [errW_none, errW_some] <;> rfl) | (simp [*, errW_none, errW_some] <;> rfl), by (with_reducible repeat (first | apply Kd.R_alloc | apply Kd.R_drewN | apply Kd.R_drew)); exact HO_6.out, by exact h0q HB.out⟩
       ·rw [if_neg c23] at H
        have c23b0 : (t257 == 0) = false := beq_eq_false_iff_ne.mpr c23
        have c23b1 : (t257 != 0) = true := bne_iff_ne.mpr c23
        simp only [Option.some.injEq, Prod.mk.injEq] at H
        obtain ⟨rfl, rfl, rfl⟩ := H
        obtain ⟨Ao27, co27, eo27⟩ := Kd.R_slice HO_6.out
        subst eo27
        go_wp2_with (first | ((with_reducible refine gate_callee (f := 34) rfl ?_); refine goesL_ (some 69) rfl rfl Try.func34 (by kernel_rfl) rfl #[.slice Ao27 x6_2.length co27] rfl (by (try simp only [List.map_toArray, List.map_cons, List.map_nil]); first | done | rfl | (simp only [List.length_drop, List.length_take]; rfl)) ?_; (with_reducible refine (annuityref01_Sum.calls k2 _ _ x6_2 t256 t257 _ ?side1 ?side2 A22.out).mono ?_); (case side1 => repeat (first | exact (Kd.R_reads' HO_6.out).2.2 | (with_reducible refine Kd.C_alloc ?_ _) | (with_reducible refine Kd.C_drewN ?_ _) | (with_reducible refine Kd.C_drew ?_))); (case side2 => exact (Kd.R_reads' HO_6.out).2.1); rintro e w' ⟨rfl, ⟨nd, rfl⟩⟩; refine ⟨_, rfl, ?_⟩))
        go_ret3
        exact ⟨_, by first | rfl | (simp [errW_none, errW_some] <;> rfl) | (simp [*, errW_none, errW_some] <;> rfl), by first | exact Kd.R_nil _ _ _ _ _ | exact Kd.N_nil _ _ _ _ _ | exact Kd.V_nil _ _ _ _ _ | exact Kd.Q_nil _ _ _ _ _ | exact Kd.S_nil _ _ _ _ _, by exact h0q HB.out⟩

end Go.Proofs.Ytakcepffodipfaa.P
