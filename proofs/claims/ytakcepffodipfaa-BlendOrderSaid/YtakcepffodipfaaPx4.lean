/- Functions of the program as plain Lean functions, and proofs that its calls come to just their answers, where they tell one (written by a program of this session). -/
import Derived.Test.YtakcepffodipfaaZaa
import Derived.Test.YtakcepffodipfaaPx0
import Derived.Test.YtakcepffodipfaaPx2
import Derived.Test.YtakcepffodipfaaPx3
import Derived.Test.YtakcepffodipfaaZll
namespace Go.Proofs.Ytakcepffodipfaa.P
open Go.RowKit Go.Proofs.YtakcepffodipfaaW.PrintWords Go.Proofs.YtakcepffodipfaaW.PrintLast Go.Proofs.YtakcepffodipfaaW.PrintMore
attribute [local go_sem] max2_int min2_int max_two min_two max_three min_three max_four min_four   -- for this text's walks alone
set_option linter.unusedVariables false
set_option linter.unusedSimpArgs false

/-! ### blend_weights: function 24 -/
mutual
def blend_weights.l0 : Nat → List (S31) → List Int → List (S31) → Int → Int → Option (List Int × Int × Int)
 | 0, _, _, _, _, _ => none
 | k + 1, x0, x2, x16, x17, x18 => if x18 < x17 then (if 0 ≤ x18 then (if x18 < (x16.length : Int) then ((loan_Good.f k ((rd_T31 x16 x18).f0) ((rd_T31 x16 x18).f1) ((rd_T31 x16 x18).f2) ((rd_T31 x16 x18).f3) ((rd_T31 x16 x18).f4) ((rd_T31 x16 x18).f5) ((rd_T31 x16 x18).f6) ((rd_T31 x16 x18).f7) ((rd_T31 x16 x18).f8) ((rd_T31 x16 x18).f9) ((rd_T31 x16 x18).f10) ((rd_T31 x16 x18).f11) ((rd_T31 x16 x18).f12)).bind fun t120 => (if t120 = true then (if ((rd_T31 x16 x18).f8) = 0 then (if ((rd_T31 x16 x18).f12) > 1000000 then (some (([] : List Int), 0, 1)) else (blend_weights.l0 k x0 x2 x16 x17 (wrap64 (x18 + 1)))) else (some (([] : List Int), 0, 1))) else (some (([] : List Int), 0, 1)))) else (none)) else (none)) else (if (x0.length : Int) < 2 then (some (([] : List Int), 0, 64)) else (blend_weights.l1 k x2 ([] : List Int) x0 (x0.length : Int) 0))
def blend_weights.l1 : Nat → List Int → List Int → List (S31) → Int → Int → Option (List Int × Int × Int)
 | 0, _, _, _, _, _ => none
 | k + 1, x2, x7, x39, x40, x41 => if x41 < x40 then (if 0 ≤ x41 then (if x41 < (x39.length : Int) then ((loan_Owes.f k ((rd_T31 x39 x41).f0) ((rd_T31 x39 x41).f1) ((rd_T31 x39 x41).f2) ((rd_T31 x39 x41).f3) ((rd_T31 x39 x41).f4) ((rd_T31 x39 x41).f5) ((rd_T31 x39 x41).f6) ((rd_T31 x39 x41).f7) ((rd_T31 x39 x41).f8) ((rd_T31 x39 x41).f9) ((rd_T31 x39 x41).f10) ((rd_T31 x39 x41).f11) ((rd_T31 x39 x41).f12)).bind fun bt123 => (if bt123.2 = 0 then (if x2.length < 17592186044416 then (if x7.length < 17592186044416 then (blend_weights.l1 k (x2 ++ [IntKind.u64.wrap (bt123.1)]) (x7 ++ [bt123.1]) x39 x40 (wrap64 (x41 + 1))) else (none)) else (none)) else (some (([] : List Int), 0, bt123.2)))) else (none)) else (none)) else ((money_Sum.f x7).bind fun bt131 => (if bt131.2 = 0 then (if bt131.1 = 0 then (some (([] : List Int), 0, 64)) else (some (x2, bt131.1, 0))) else (some (([] : List Int), 0, bt131.2))))
end
def blend_weights.f (k : Nat) (l0 : List (S31)) : Option (List Int × Int × Int) := if (l0.length : Int) > 16 then (some (([] : List Int), 0, 1)) else (blend_weights.l0 k l0 ([] : List Int) l0 (l0.length : Int) 0)
set_option maxHeartbeats 8000000 in
set_option maxRecDepth 100000 in
theorem blend_weights.calls (k : Nat) (A0 : Option Addr) (c0 : Nat) (l0 : List (S31)) (r1 : List Int) (r2 : Int) (r3 : Int) (w : World) (hr0 : Kd.C k31 w A0 l0.length l0) (hc0 : l0.length ≤ c0) (h : blend_weights.f k l0 = some (r1, r2, r3)) :
  Calls Try.prog 24 #[.slice A0 l0.length c0] w fun e w' => ∃ v0_ : Value, e = .returned (.tuple #[v0_, .int .i64 r2, .int .i64 r3]) ∧ Kd.R (Kd.int .u64) 60 w' w.heap.size (fun _ => True) v0_ r1 ∧ Below w.heap.size w w' := by
 have hu31 := Try.underlying31
 have HR0 := Aside0.mk hr0
 have HC0 := Aside0.mk hc0
 clear hr0 hc0
 have HB := Aside0.mk (Below.refl w.heap.size w)
 have H : (if (l0.length : Int) > 16 then (some (([] : List Int), 0, 1)) else (blend_weights.l0 k l0 ([] : List Int) l0 (l0.length : Int) 0)) = some (r1, r2, r3) := h
 clear h
 by_cases c2 : (l0.length : Int) > 16
 ·rw [if_pos c2] at H
  have c2b0 : decide (16 < (l0.length : Int)) = true := decide_eq_true c2
  have c2b1 : decide (16 < l0.length) = true := decide_eq_true (by omega)
  clear c2
  simp only [Option.some.injEq, Prod.mk.injEq] at H
  obtain ⟨rfl, rfl, rfl⟩ := H
  go_enter Try.func24, Try.ntmps24
  go_wp2
  go_ret3
  exact ⟨_, by first | rfl | (simp [errW_none, errW_some] <;> rfl) | (simp [*, errW_none, errW_some] <;> rfl), by first | exact Kd.R_nil _ _ _ _ _ | exact Kd.N_nil _ _ _ _ _ | exact Kd.V_nil _ _ _ _ _ | exact Kd.Q_nil _ _ _ _ _ | exact Kd.S_nil _ _ _ _ _, by exact h0q HB.out⟩
 rw [if_neg c2] at H
 have c2b0 : decide (16 < (l0.length : Int)) = false := decide_eq_false c2
 have c2b1 : decide (16 < l0.length) = false := decide_eq_false (by omega)
 clear c2
 have H' := Aside0.mk H
 clear H
 go_enter Try.func24, Try.ntmps24
 go_wp2
 go_loopg [2, 18] k (fun kq v2 v18 w' => ∃ (x2_1 : List Int) (x18_1 : Int), v18 = .int .i64 x18_1 ∧ Aside0 (blend_weights.l0 kq l0 x2_1 l0 (l0.length : Int) x18_1 = some (r1, r2, r3)) ∧ Aside0 (kq ≤ k) ∧ Aside0 (Kd.R (Kd.int .u64) 60 w' w.heap.size (fun _ => True) v2 x2_1) ∧ Aside0 (Below w.heap.size w w'))
 case atStart => exact ⟨(([] : List Int)), (0), (by first | rfl | (simp; done) | (simp [*]; done)), H', ⟨Nat.le_refl _⟩, ⟨by first | exact Kd.R_nil _ _ _ _ _ | exact Kd.N_nil _ _ _ _ _ | exact Kd.V_nil _ _ _ _ _ | exact Kd.Q_nil _ _ _ _ _ | exact Kd.S_nil _ _ _ _ _⟩, ⟨by exact h0q HB.out⟩⟩
 case round =>
  clear H'
  try clear c2
  try clear c2b0 c2b1
  obtain ⟨x2_1, x18_1, rfl, HA, HK1, HO_2, HB⟩ := hrel
  rcases gk with _ | k1
  ·exact absurd HA.out (by simp [blend_weights.l0])
  have H := HA.out
  clear HA
  simp only [blend_weights.l0] at H
  by_cases c3 : x18_1 < (l0.length : Int)
  case neg =>
   rw [if_neg c3] at H
   have c3b0 : decide (x18_1 < (l0.length : Int)) = false := decide_eq_false c3
   clear c3
   by_cases c25 : (l0.length : Int) < 2
   ·rw [if_pos c25] at H
    have c25b0 : decide ((l0.length : Int) < 2) = true := decide_eq_true c25
    have c25b1 : decide (l0.length < 2) = true := decide_eq_true (by omega)
    clear c25
    simp only [Option.some.injEq, Prod.mk.injEq] at H
    obtain ⟨rfl, rfl, rfl⟩ := H
    go_wp2
    go_ret3
    exact ⟨_, by first | rfl | (simp [errW_none, errW_some] <;> rfl) | (simp [*, errW_none, errW_some] <;> rfl), by first | exact Kd.R_nil _ _ _ _ _ | exact Kd.N_nil _ _ _ _ _ | exact Kd.V_nil _ _ _ _ _ | exact Kd.Q_nil _ _ _ _ _ | exact Kd.S_nil _ _ _ _ _, by exact h0q HB.out⟩
   rw [if_neg c25] at H
   have c25b0 : decide ((l0.length : Int) < 2) = false := decide_eq_false c25
   have c25b1 : decide (l0.length < 2) = false := decide_eq_false (by omega)
   clear c25
   have H' := Aside0.mk H
   clear H
   go_wp2
   go_loopg [2, 7, 41] k1 (fun kq v2 v7 v41 w' => ∃ (x2_2 : List Int) (x7_2 : List Int) (x41_2 : Int), v41 = .int .i64 x41_2 ∧ Aside0 (blend_weights.l1 kq x2_2 x7_2 l0 (l0.length : Int) x41_2 = some (r1, r2, r3)) ∧ Aside0 (kq ≤ k1) ∧ Aside0 (Kd.R (Kd.int .u64) 60 w' w.heap.size (fun _ => True) v2 x2_2) ∧ Aside0 (Kd.R (Kd.int .i64) 2 w' w.heap.size (fun _ => True) v7 x7_2) ∧ Aside0 (Below w.heap.size w w'))
   case atStart => exact ⟨(x2_1), (([] : List Int)), (0), (by first | rfl | (simp; done) | (simp [*]; done)), H', ⟨Nat.le_refl _⟩, ⟨by exact rq HO_2.out⟩, ⟨by first | exact Kd.R_nil _ _ _ _ _ | exact Kd.N_nil _ _ _ _ _ | exact Kd.V_nil _ _ _ _ _ | exact Kd.Q_nil _ _ _ _ _ | exact Kd.S_nil _ _ _ _ _⟩, ⟨by exact h0q HB.out⟩⟩
   case round =>
    clear H'
    try clear c2
    try clear c2b0 c2b1
    try clear c3
    try clear c3b0
    try clear c4
    try clear c4b0
    try clear c5
    try clear c5b0
    try clear c7
    try clear c8
    try clear c8b0 c8b1
    try clear c9
    try clear c9b0
    try clear c25
    try clear c25b0 c25b1
    try clear hcz11_0
    try clear hcz11_1
    try clear hcz11_10
    try clear hcz11_11
    try clear hcz11_12
    try clear hcz11_2
    try clear hcz11_3
    try clear hcz11_4
    try clear hcz11_5
    try clear hcz11_6
    try clear hcz11_7
    try clear hcz11_8
    try clear hcz11_9
    try clear hcz13_0
    try clear hcz13_1
    try clear hcz13_10
    try clear hcz13_11
    try clear hcz13_12
    try clear hcz13_2
    try clear hcz13_3
    try clear hcz13_4
    try clear hcz13_5
    try clear hcz13_6
    try clear hcz13_7
    try clear hcz13_8
    try clear hcz13_9
    try clear hcz15_0
    try clear hcz15_1
    try clear hcz15_10
    try clear hcz15_11
    try clear hcz15_12
    try clear hcz15_2
    try clear hcz15_3
    try clear hcz15_4
    try clear hcz15_5
    try clear hcz15_6
    try clear hcz15_7
    try clear hcz15_8
    try clear hcz15_9
    try clear hcz17_0
    try clear hcz17_1
    try clear hcz17_10
    try clear hcz17_11
    try clear hcz17_12
    try clear hcz17_2
    try clear hcz17_3
    try clear hcz17_4
    try clear hcz17_5
    try clear hcz17_6
    try clear hcz17_7
    try clear hcz17_8
    try clear hcz17_9
    try clear hcz19_0
    try clear hcz19_1
    try clear hcz19_10
    try clear hcz19_11
    try clear hcz19_12
    try clear hcz19_2
    try clear hcz19_3
    try clear hcz19_4
    try clear hcz19_5
    try clear hcz19_6
    try clear hcz19_7
    try clear hcz19_8
    try clear hcz19_9
    try clear hcz21_0
    try clear hcz21_1
    try clear hcz21_10
    try clear hcz21_11
    try clear hcz21_12
    try clear hcz21_2
    try clear hcz21_3
    try clear hcz21_4
    try clear hcz21_5
    try clear hcz21_6
    try clear hcz21_7
    try clear hcz21_8
    try clear hcz21_9
    try clear hcz23_0
    try clear hcz23_1
    try clear hcz23_10
    try clear hcz23_11
    try clear hcz23_12
    try clear hcz23_2
    try clear hcz23_3
    try clear hcz23_4
    try clear hcz23_5
    try clear hcz23_6
    try clear hcz23_7
    try clear hcz23_8
    try clear hcz23_9
    try clear hfz11_0
    try clear hfz11_1
    try clear hfz11_10
    try clear hfz11_11
    try clear hfz11_12
    try clear hfz11_2
    try clear hfz11_3
    try clear hfz11_4
    try clear hfz11_5
    try clear hfz11_6
    try clear hfz11_7
    try clear hfz11_8
    try clear hfz11_9
    try clear hfz13_0
    try clear hfz13_1
    try clear hfz13_10
    try clear hfz13_11
    try clear hfz13_12
    try clear hfz13_2
    try clear hfz13_3
    try clear hfz13_4
    try clear hfz13_5
    try clear hfz13_6
    try clear hfz13_7
    try clear hfz13_8
    try clear hfz13_9
    try clear hfz15_0
    try clear hfz15_1
    try clear hfz15_10
    try clear hfz15_11
    try clear hfz15_12
    try clear hfz15_2
    try clear hfz15_3
    try clear hfz15_4
    try clear hfz15_5
    try clear hfz15_6
    try clear hfz15_7
    try clear hfz15_8
    try clear hfz15_9
    try clear hfz17_0
    try clear hfz17_1
    try clear hfz17_10
    try clear hfz17_11
    try clear hfz17_12
    try clear hfz17_2
    try clear hfz17_3
    try clear hfz17_4
    try clear hfz17_5
    try clear hfz17_6
    try clear hfz17_7
    try clear hfz17_8
    try clear hfz17_9
    try clear hfz19_0
    try clear hfz19_1
    try clear hfz19_10
    try clear hfz19_11
    try clear hfz19_12
    try clear hfz19_2
    try clear hfz19_3
    try clear hfz19_4
    try clear hfz19_5
    try clear hfz19_6
    try clear hfz19_7
    try clear hfz19_8
    try clear hfz19_9
    try clear hfz21_0
    try clear hfz21_1
    try clear hfz21_10
    try clear hfz21_11
    try clear hfz21_12
    try clear hfz21_2
    try clear hfz21_3
    try clear hfz21_4
    try clear hfz21_5
    try clear hfz21_6
    try clear hfz21_7
    try clear hfz21_8
    try clear hfz21_9
    try clear hfz23_0
    try clear hfz23_1
    try clear hfz23_10
    try clear hfz23_11
    try clear hfz23_12
    try clear hfz23_2
    try clear hfz23_3
    try clear hfz23_4
    try clear hfz23_5
    try clear hfz23_6
    try clear hfz23_7
    try clear hfz23_8
    try clear hfz23_9
    try clear hx118_0 hx118_1 hx118_10 hx118_11 hx118_12 hx118_2 hx118_3 hx118_4 hx118_5 hx118_6 hx118_7 hx118_8 hx118_9
    try clear p118 q118
    obtain ⟨x2_2, x7_2, x41_2, rfl, HA, HK2, HO_2, HO_7, HB⟩ := hrel
    rcases gk with _ | k2
    ·exact absurd HA.out (by simp [blend_weights.l1])
    have H := HA.out
    clear HA
    simp only [blend_weights.l1] at H
    by_cases c26 : x41_2 < (l0.length : Int)
    case neg =>
     rw [if_neg c26] at H
     have c26b0 : decide (x41_2 < (l0.length : Int)) = false := decide_eq_false c26
     clear c26
     replace H := Option.bind_eq_some_iff.mp H
     obtain ⟨⟨t131, t132⟩, A410, H⟩ := H
     replace H : (if t132 = 0 then (if t131 = 0 then (some (([] : List Int), 0, 64)) else (some (x2_2, t131, 0))) else (some (([] : List Int), 0, t132))) = some (r1, r2, r3) := H
     have A41 := Aside0.mk A410
     clear A410
     by_cases c42 : t132 = 0
     case neg =>
      rw [if_neg c42] at H
      have c42b0 : (t132 == 0) = false := beq_eq_false_iff_ne.mpr c42
      have c42b1 : (t132 != 0) = true := bne_iff_ne.mpr c42
      simp only [Option.some.injEq, Prod.mk.injEq] at H
      obtain ⟨rfl, rfl, rfl⟩ := H
      obtain ⟨Ao48, co48, eo48⟩ := Kd.R_slice HO_7.out
      subst eo48
      go_wp2_with (first | ((with_reducible refine gate_callee (f := 39) rfl ?_); refine goesL_ (some 65) rfl rfl Try.func39 (by kernel_rfl) rfl #[.slice Ao48 x7_2.length co48] rfl (by (try simp only [List.map_toArray, List.map_cons, List.map_nil]); first | done | rfl | (simp only [List.length_drop, List.length_take]; rfl)) ?_; (with_reducible refine (money_Sum.calls _ _ x7_2 t131 t132 _ ?side1 ?side2 A41.out).mono ?_); (case side1 => repeat (first | exact (Kd.R_reads' HO_7.out).2.2 | (with_reducible refine Kd.C_alloc ?_ _) | (with_reducible refine Kd.C_drewN ?_ _) | (with_reducible refine Kd.C_drew ?_))); (case side2 => exact (Kd.R_reads' HO_7.out).2.1); rintro e w49 ⟨rfl, hb⟩; refine ⟨_, rfl, ?_⟩; have n0_ := Aside0.mk (Kd.R_below (by exact rq HO_2.out) hb); have n1_ := Aside0.mk (Kd.R_below (by exact rq HO_7.out) hb); have n2_ := Aside0.mk (below_step (by exact h0q HB.out) hb); clear HO_2; clear HO_7; clear HB; have HO_2 := n0_; have HO_7 := n1_; have HB := n2_; clear n0_ n1_ n2_; (try clear hb); (try clear hb2); (try clear hk); (try clear hi)))
      go_ret3
      exact ⟨_, by first | rfl | (simp [errW_none, errW_some] <;> rfl) | (simp [*, errW_none, errW_some] <;> rfl), by first | exact Kd.R_nil _ _ _ _ _ | exact Kd.N_nil _ _ _ _ _ | exact Kd.V_nil _ _ _ _ _ | exact Kd.Q_nil _ _ _ _ _ | exact Kd.S_nil _ _ _ _ _, by exact h0q HB.out⟩

     rw [if_pos c42] at H
     have c42b0 : (t132 == 0) = true := beq_iff_eq.mpr c42
     have c42b1 : (t132 != 0) = false := bne_eq_false_iff_eq.mpr c42
     clear c42
     by_cases c43 : t131 = 0
     case neg =>
      rw [if_neg c43] at H
      have c43b0 : (t131 == 0) = false := beq_eq_false_iff_ne.mpr c43
      have c43b1 : (t131 != 0) = true := bne_iff_ne.mpr c43
      simp only [Option.some.injEq, Prod.mk.injEq] at H
      obtain ⟨rfl, rfl, rfl⟩ := H
      obtain ⟨Ao46, co46, eo46⟩ := Kd.R_slice HO_7.out
      subst eo46
      go_wp2_with (first | ((with_reducible refine gate_callee (f := 39) rfl ?_); refine goesL_ (some 65) rfl rfl Try.func39 (by kernel_rfl) rfl #[.slice Ao46 x7_2.length co46] rfl (by (try simp only [List.map_toArray, List.map_cons, List.map_nil]); first | done | rfl | (simp only [List.length_drop, List.length_take]; rfl)) ?_; (with_reducible refine (money_Sum.calls _ _ x7_2 t131 t132 _ ?side1 ?side2 A41.out).mono ?_); (case side1 => repeat (first | exact (Kd.R_reads' HO_7.out).2.2 | (with_reducible refine Kd.C_alloc ?_ _) | (with_reducible refine Kd.C_drewN ?_ _) | (with_reducible refine Kd.C_drew ?_))); (case side2 => exact (Kd.R_reads' HO_7.out).2.1); rintro e w47 ⟨rfl, hb⟩; refine ⟨_, rfl, ?_⟩; have n0_ := Aside0.mk (Kd.R_below (by exact rq HO_2.out) hb); have n1_ := Aside0.mk (Kd.R_below (by exact rq HO_7.out) hb); have n2_ := Aside0.mk (below_step (by exact h0q HB.out) hb); clear HO_2; clear HO_7; clear HB; have HO_2 := n0_; have HO_7 := n1_; have HB := n2_; clear n0_ n1_ n2_; (try clear hb); (try clear hb2); (try clear hk); (try clear hi)))
      go_ret3
      exact ⟨_, by first | rfl | (simp [errW_none, errW_some] <;> rfl) | (simp [*, errW_none, errW_some] <;> rfl), by (with_reducible repeat (first | apply Kd.R_alloc | apply Kd.R_drewN | apply Kd.R_drew)); exact HO_2.out, by exact h0q HB.out⟩
     rw [if_pos c43] at H
     have c43b0 : (t131 == 0) = true := beq_iff_eq.mpr c43
     have c43b1 : (t131 != 0) = false := bne_eq_false_iff_eq.mpr c43
     clear c43
     simp only [Option.some.injEq, Prod.mk.injEq] at H
     obtain ⟨rfl, rfl, rfl⟩ := H
     obtain ⟨Ao44, co44, eo44⟩ := Kd.R_slice HO_7.out
     subst eo44
     go_wp2_with (first | ((with_reducible refine gate_callee (f := 39) rfl ?_); refine goesL_ (some 65) rfl rfl Try.func39 (by kernel_rfl) rfl #[.slice Ao44 x7_2.length co44] rfl (by (try simp only [List.map_toArray, List.map_cons, List.map_nil]); first | done | rfl | (simp only [List.length_drop, List.length_take]; rfl)) ?_; (with_reducible refine (money_Sum.calls _ _ x7_2 t131 t132 _ ?side1 ?side2 A41.out).mono ?_); (case side1 => repeat (first | exact (Kd.R_reads' HO_7.out).2.2 | (with_reducible refine Kd.C_alloc ?_ _) | (with_reducible refine Kd.C_drewN ?_ _) | (with_reducible refine Kd.C_drew ?_))); (case side2 => exact (Kd.R_reads' HO_7.out).2.1); rintro e w45 ⟨rfl, hb⟩; refine ⟨_, rfl, ?_⟩; have n0_ := Aside0.mk (Kd.R_below (by exact rq HO_2.out) hb); have n1_ := Aside0.mk (Kd.R_below (by exact rq HO_7.out) hb); have n2_ := Aside0.mk (below_step (by exact h0q HB.out) hb); clear HO_2; clear HO_7; clear HB; have HO_2 := n0_; have HO_7 := n1_; have HB := n2_; clear n0_ n1_ n2_; (try clear hb); (try clear hb2); (try clear hk); (try clear hi)))
     go_ret3
     exact ⟨_, by first | rfl | (simp [errW_none, errW_some] <;> rfl) | (simp [*, errW_none, errW_some] <;> rfl), by first | exact Kd.R_nil _ _ _ _ _ | exact Kd.N_nil _ _ _ _ _ | exact Kd.V_nil _ _ _ _ _ | exact Kd.Q_nil _ _ _ _ _ | exact Kd.S_nil _ _ _ _ _, by exact h0q HB.out⟩
    rw [if_pos c26] at H
    have c26b0 : decide (x41_2 < (l0.length : Int)) = true := decide_eq_true c26
    clear c26
    by_cases c27 : 0 ≤ x41_2
    case neg =>
     rw [if_neg c27] at H
     exact absurd H (by simp)
    rw [if_pos c27] at H
    have c27b0 : decide (0 ≤ x41_2) = true := decide_eq_true c27
    clear c27
    by_cases c28 : x41_2 < (l0.length : Int)
    case neg =>
     rw [if_neg c28] at H
     exact absurd H (by simp)
    rw [if_pos c28] at H
    have c28b0 : decide (x41_2 < (l0.length : Int)) = true := decide_eq_true c28
    clear c28
    replace H := Option.bind_eq_some_iff.mp H
    obtain ⟨⟨t123, t124⟩, A290, H⟩ := H
    replace H : (if t124 = 0 then (if x2_2.length < 17592186044416 then (if x7_2.length < 17592186044416 then (blend_weights.l1 k2 (x2_2 ++ [IntKind.u64.wrap (t123)]) (x7_2 ++ [t123]) l0 (l0.length : Int) (wrap64 (x41_2 + 1))) else (none)) else (none)) else (some (([] : List Int), 0, t124))) = some (r1, r2, r3) := H
    have A29 := Aside0.mk A290
    clear A290
    by_cases c30 : t124 = 0
    case neg =>
     rw [if_neg c30] at H
     have c30b0 : (t124 == 0) = false := beq_eq_false_iff_ne.mpr c30
     have c30b1 : (t124 != 0) = true := bne_iff_ne.mpr c30
     simp only [Option.some.injEq, Prod.mk.injEq] at H
     obtain ⟨rfl, rfl, rfl⟩ := H
     have p121 : 0 ≤ (x41_2 : Int) := yd
     have q121 : x41_2 < (l0.length : Int) := yd
     obtain ⟨ad121, e121, hx121_0, hx121_1, hx121_2, hx121_3, hx121_4, hx121_5, hx121_6, hx121_7, hx121_8, hx121_9, hx121_10, hx121_11, hx121_12⟩ := at_T31 HR0.out x41_2 p121 q121
     cases e121
     replace hx121_0 := hxb HB.out hx121_0
     replace hx121_1 := hxb HB.out hx121_1
     replace hx121_2 := hxb HB.out hx121_2
     replace hx121_3 := hxb HB.out hx121_3
     replace hx121_4 := hxb HB.out hx121_4
     replace hx121_5 := hxb HB.out hx121_5
     replace hx121_6 := hxb HB.out hx121_6
     replace hx121_7 := hxb HB.out hx121_7
     replace hx121_8 := hxb HB.out hx121_8
     replace hx121_9 := hxb HB.out hx121_9
     replace hx121_10 := hxb HB.out hx121_10
     replace hx121_11 := hxb HB.out hx121_11
     replace hx121_12 := hxb HB.out hx121_12
     replace p121 := eq_true p121
     replace q121 := eq_true q121
     go_wp2_with (first | ((with_reducible refine gate_dst (N := 9) rfl ?_); refine box_event ?hg (N := 9) ?hd (cs := #[.int .i64 0, .int .i64 0, .int .i64 0, .int .i64 0, .int .i64 0, .int .i64 0, .bool false, .int .i64 0, .int .i64 0, .int .i64 0, .int .i64 0, .int .i64 0, .int .i64 0]) (t := 31) ?hr ?_; (case hd => rfl); (case hg => rfl); (case hr => first | (go_simp; done) | (go_simp; rfl)); intro gb122 hg w38 hbox hb; have n0_ := Aside0.mk (Kd.R_below (by exact rq HO_2.out) hb); have n1_ := Aside0.mk (Kd.R_below (by exact rq HO_7.out) hb); have n2_ := Aside0.mk (below_step (by exact h0q HB.out) hb); have n3_ := Aside0.mk (hbox); have n4_ := Aside0.mk ((by rw [hg]; exact (below_size (by exact h0q HB.out)) : w.heap.size ≤ gb122)); have n5_ := Aside0.mk ((by rw [hg]; exact (below_size (by exact h0q HB.out)) : w.heap.size ≤ gb122)); clear HO_2; clear HO_7; clear HB; have HO_2 := n0_; have HO_7 := n1_; have HB := n2_; have BK122 := n3_; have GW122 := n4_; have GE122 := n5_; clear n0_ n1_ n2_ n3_ n4_ n5_; clear hb hbox hg; obtain ⟨hcz39_0, hcz39_1, hcz39_2, hcz39_3, hcz39_4, hcz39_5, hcz39_6, hcz39_7, hcz39_8, hcz39_9, hcz39_10, hcz39_11, hcz39_12, hfz39_0, hfz39_1, hfz39_2, hfz39_3, hfz39_4, hfz39_5, hfz39_6, hfz39_7, hfz39_8, hfz39_9, hfz39_10, hfz39_11, hfz39_12⟩ := lc13 BK122.out) | ((with_reducible refine gate_callee (f := 38) rfl ?_); refine goesL_ (some 47) rfl rfl Try.func38 (by kernel_rfl) rfl #[.agg #[.int .i64 ((rd_T31 l0 x41_2).f0), .int .i64 ((rd_T31 l0 x41_2).f1), .int .i64 ((rd_T31 l0 x41_2).f2), .int .i64 ((rd_T31 l0 x41_2).f3), .int .i64 ((rd_T31 l0 x41_2).f4), .int .i64 ((rd_T31 l0 x41_2).f5), .bool ((rd_T31 l0 x41_2).f6), .int .i64 ((rd_T31 l0 x41_2).f7), .int .i64 ((rd_T31 l0 x41_2).f8), .int .i64 ((rd_T31 l0 x41_2).f9), .int .i64 ((rd_T31 l0 x41_2).f10), .int .i64 ((rd_T31 l0 x41_2).f11), .int .i64 ((rd_T31 l0 x41_2).f12)]] rfl (by (try simp only [List.map_toArray, List.map_cons, List.map_nil]); first | done | rfl | (simp only [List.length_drop, List.length_take]; rfl)) ?_; (with_reducible refine (loan_Owes.calls k2 ((rd_T31 l0 x41_2).f0) ((rd_T31 l0 x41_2).f1) ((rd_T31 l0 x41_2).f2) ((rd_T31 l0 x41_2).f3) ((rd_T31 l0 x41_2).f4) ((rd_T31 l0 x41_2).f5) ((rd_T31 l0 x41_2).f6) ((rd_T31 l0 x41_2).f7) ((rd_T31 l0 x41_2).f8) ((rd_T31 l0 x41_2).f9) ((rd_T31 l0 x41_2).f10) ((rd_T31 l0 x41_2).f11) ((rd_T31 l0 x41_2).f12) t123 t124 _ A29.out).mono ?_); rintro e w40 ⟨rfl, hb⟩; refine ⟨_, rfl, ?_⟩; have n0_ := Aside0.mk (Kd.R_below (by (with_reducible repeat (first | apply Kd.R_alloc | apply Kd.R_drewN | apply Kd.R_drew)); exact (Kd.R_mono (Kd.R_far (p := ⟨gb122, 12, none⟩) (Kd.R_far (p := ⟨gb122, 11, none⟩) (Kd.R_far (p := ⟨gb122, 10, none⟩) (Kd.R_far (p := ⟨gb122, 9, none⟩) (Kd.R_far (p := ⟨gb122, 8, none⟩) (Kd.R_far (p := ⟨gb122, 7, none⟩) (Kd.R_far (p := ⟨gb122, 6, none⟩) (Kd.R_far (p := ⟨gb122, 5, none⟩) (Kd.R_far (p := ⟨gb122, 4, none⟩) (Kd.R_far (p := ⟨gb122, 3, none⟩) (Kd.R_far (p := ⟨gb122, 2, none⟩) (Kd.R_far (p := ⟨gb122, 1, none⟩) (Kd.R_far (p := ⟨gb122, 0, none⟩) (Kd.R_types HO_2.out BK122.out (by decide)) (fun _ hk => hk.2) (.int .i64 ((rd_T31 l0 x41_2).f0))) (fun _ hk => hk.2) (.int .i64 ((rd_T31 l0 x41_2).f1))) (fun _ hk => hk.2) (.int .i64 ((rd_T31 l0 x41_2).f2))) (fun _ hk => hk.2) (.int .i64 ((rd_T31 l0 x41_2).f3))) (fun _ hk => hk.2) (.int .i64 ((rd_T31 l0 x41_2).f4))) (fun _ hk => hk.2) (.int .i64 ((rd_T31 l0 x41_2).f5))) (fun _ hk => hk.2) (.bool ((rd_T31 l0 x41_2).f6))) (fun _ hk => hk.2) (.int .i64 ((rd_T31 l0 x41_2).f7))) (fun _ hk => hk.2) (.int .i64 ((rd_T31 l0 x41_2).f8))) (fun _ hk => hk.2) (.int .i64 ((rd_T31 l0 x41_2).f9))) (fun _ hk => hk.2) (.int .i64 ((rd_T31 l0 x41_2).f10))) (fun _ hk => hk.2) (.int .i64 ((rd_T31 l0 x41_2).f11))) (fun _ hk => hk.2) (.int .i64 ((rd_T31 l0 x41_2).f12))) (fun _ h_ => h_.1))) hb); have n1_ := Aside0.mk (Kd.R_below (by (with_reducible repeat (first | apply Kd.R_alloc | apply Kd.R_drewN | apply Kd.R_drew)); exact (Kd.R_mono (Kd.R_far (p := ⟨gb122, 12, none⟩) (Kd.R_far (p := ⟨gb122, 11, none⟩) (Kd.R_far (p := ⟨gb122, 10, none⟩) (Kd.R_far (p := ⟨gb122, 9, none⟩) (Kd.R_far (p := ⟨gb122, 8, none⟩) (Kd.R_far (p := ⟨gb122, 7, none⟩) (Kd.R_far (p := ⟨gb122, 6, none⟩) (Kd.R_far (p := ⟨gb122, 5, none⟩) (Kd.R_far (p := ⟨gb122, 4, none⟩) (Kd.R_far (p := ⟨gb122, 3, none⟩) (Kd.R_far (p := ⟨gb122, 2, none⟩) (Kd.R_far (p := ⟨gb122, 1, none⟩) (Kd.R_far (p := ⟨gb122, 0, none⟩) (Kd.R_types HO_7.out BK122.out (by decide)) (fun _ hk => hk.2) (.int .i64 ((rd_T31 l0 x41_2).f0))) (fun _ hk => hk.2) (.int .i64 ((rd_T31 l0 x41_2).f1))) (fun _ hk => hk.2) (.int .i64 ((rd_T31 l0 x41_2).f2))) (fun _ hk => hk.2) (.int .i64 ((rd_T31 l0 x41_2).f3))) (fun _ hk => hk.2) (.int .i64 ((rd_T31 l0 x41_2).f4))) (fun _ hk => hk.2) (.int .i64 ((rd_T31 l0 x41_2).f5))) (fun _ hk => hk.2) (.bool ((rd_T31 l0 x41_2).f6))) (fun _ hk => hk.2) (.int .i64 ((rd_T31 l0 x41_2).f7))) (fun _ hk => hk.2) (.int .i64 ((rd_T31 l0 x41_2).f8))) (fun _ hk => hk.2) (.int .i64 ((rd_T31 l0 x41_2).f9))) (fun _ hk => hk.2) (.int .i64 ((rd_T31 l0 x41_2).f10))) (fun _ hk => hk.2) (.int .i64 ((rd_T31 l0 x41_2).f11))) (fun _ hk => hk.2) (.int .i64 ((rd_T31 l0 x41_2).f12))) (fun _ h_ => h_.1))) hb); have n2_ := Aside0.mk (blk_below (g := gb122) (o := .cells #[.int .i64 ((rd_T31 l0 x41_2).f0), .int .i64 ((rd_T31 l0 x41_2).f1), .int .i64 ((rd_T31 l0 x41_2).f2), .int .i64 ((rd_T31 l0 x41_2).f3), .int .i64 ((rd_T31 l0 x41_2).f4), .int .i64 ((rd_T31 l0 x41_2).f5), .bool ((rd_T31 l0 x41_2).f6), .int .i64 ((rd_T31 l0 x41_2).f7), .int .i64 ((rd_T31 l0 x41_2).f8), .int .i64 ((rd_T31 l0 x41_2).f9), .int .i64 ((rd_T31 l0 x41_2).f10), .int .i64 ((rd_T31 l0 x41_2).f11), .int .i64 ((rd_T31 l0 x41_2).f12)] 31 (0, 0)) (by (with_reducible repeat (first | refine blk_drewN ?_ _ | refine blk_drew ?_ | refine blk_alloc ?_ _)); refine blk_put (cs := #[.int .i64 ((rd_T31 l0 x41_2).f0), .int .i64 ((rd_T31 l0 x41_2).f1), .int .i64 ((rd_T31 l0 x41_2).f2), .int .i64 ((rd_T31 l0 x41_2).f3), .int .i64 ((rd_T31 l0 x41_2).f4), .int .i64 ((rd_T31 l0 x41_2).f5), .bool ((rd_T31 l0 x41_2).f6), .int .i64 ((rd_T31 l0 x41_2).f7), .int .i64 ((rd_T31 l0 x41_2).f8), .int .i64 ((rd_T31 l0 x41_2).f9), .int .i64 ((rd_T31 l0 x41_2).f10), .int .i64 ((rd_T31 l0 x41_2).f11), .int .i64 0]) ?_ 12 _ rfl; (with_reducible repeat (first | refine blk_drewN ?_ _ | refine blk_drew ?_ | refine blk_alloc ?_ _)); refine blk_put (cs := #[.int .i64 ((rd_T31 l0 x41_2).f0), .int .i64 ((rd_T31 l0 x41_2).f1), .int .i64 ((rd_T31 l0 x41_2).f2), .int .i64 ((rd_T31 l0 x41_2).f3), .int .i64 ((rd_T31 l0 x41_2).f4), .int .i64 ((rd_T31 l0 x41_2).f5), .bool ((rd_T31 l0 x41_2).f6), .int .i64 ((rd_T31 l0 x41_2).f7), .int .i64 ((rd_T31 l0 x41_2).f8), .int .i64 ((rd_T31 l0 x41_2).f9), .int .i64 ((rd_T31 l0 x41_2).f10), .int .i64 0, .int .i64 0]) ?_ 11 _ rfl; (with_reducible repeat (first | refine blk_drewN ?_ _ | refine blk_drew ?_ | refine blk_alloc ?_ _)); refine blk_put (cs := #[.int .i64 ((rd_T31 l0 x41_2).f0), .int .i64 ((rd_T31 l0 x41_2).f1), .int .i64 ((rd_T31 l0 x41_2).f2), .int .i64 ((rd_T31 l0 x41_2).f3), .int .i64 ((rd_T31 l0 x41_2).f4), .int .i64 ((rd_T31 l0 x41_2).f5), .bool ((rd_T31 l0 x41_2).f6), .int .i64 ((rd_T31 l0 x41_2).f7), .int .i64 ((rd_T31 l0 x41_2).f8), .int .i64 ((rd_T31 l0 x41_2).f9), .int .i64 0, .int .i64 0, .int .i64 0]) ?_ 10 _ rfl; (with_reducible repeat (first | refine blk_drewN ?_ _ | refine blk_drew ?_ | refine blk_alloc ?_ _)); refine blk_put (cs := #[.int .i64 ((rd_T31 l0 x41_2).f0), .int .i64 ((rd_T31 l0 x41_2).f1), .int .i64 ((rd_T31 l0 x41_2).f2), .int .i64 ((rd_T31 l0 x41_2).f3), .int .i64 ((rd_T31 l0 x41_2).f4), .int .i64 ((rd_T31 l0 x41_2).f5), .bool ((rd_T31 l0 x41_2).f6), .int .i64 ((rd_T31 l0 x41_2).f7), .int .i64 ((rd_T31 l0 x41_2).f8), .int .i64 0, .int .i64 0, .int .i64 0, .int .i64 0]) ?_ 9 _ rfl; (with_reducible repeat (first | refine blk_drewN ?_ _ | refine blk_drew ?_ | refine blk_alloc ?_ _)); refine blk_put (cs := #[.int .i64 ((rd_T31 l0 x41_2).f0), .int .i64 ((rd_T31 l0 x41_2).f1), .int .i64 ((rd_T31 l0 x41_2).f2), .int .i64 ((rd_T31 l0 x41_2).f3), .int .i64 ((rd_T31 l0 x41_2).f4), .int .i64 ((rd_T31 l0 x41_2).f5), .bool ((rd_T31 l0 x41_2).f6), .int .i64 ((rd_T31 l0 x41_2).f7), .int .i64 0, .int .i64 0, .int .i64 0, .int .i64 0, .int .i64 0]) ?_ 8 _ rfl; (with_reducible repeat (first | refine blk_drewN ?_ _ | refine blk_drew ?_ | refine blk_alloc ?_ _)); refine blk_put (cs := #[.int .i64 ((rd_T31 l0 x41_2).f0), .int .i64 ((rd_T31 l0 x41_2).f1), .int .i64 ((rd_T31 l0 x41_2).f2), .int .i64 ((rd_T31 l0 x41_2).f3), .int .i64 ((rd_T31 l0 x41_2).f4), .int .i64 ((rd_T31 l0 x41_2).f5), .bool ((rd_T31 l0 x41_2).f6), .int .i64 0, .int .i64 0, .int .i64 0, .int .i64 0, .int .i64 0, .int .i64 0]) ?_ 7 _ rfl; (with_reducible repeat (first | refine blk_drewN ?_ _ | refine blk_drew ?_ | refine blk_alloc ?_ _)); refine blk_put (cs := #[.int .i64 ((rd_T31 l0 x41_2).f0), .int .i64 ((rd_T31 l0 x41_2).f1), .int .i64 ((rd_T31 l0 x41_2).f2), .int .i64 ((rd_T31 l0 x41_2).f3), .int .i64 ((rd_T31 l0 x41_2).f4), .int .i64 ((rd_T31 l0 x41_2).f5), .bool false, .int .i64 0, .int .i64 0, .int .i64 0, .int .i64 0, .int .i64 0, .int .i64 0]) ?_ 6 _ rfl; (with_reducible repeat (first | refine blk_drewN ?_ _ | refine blk_drew ?_ | refine blk_alloc ?_ _)); refine blk_put (cs := #[.int .i64 ((rd_T31 l0 x41_2).f0), .int .i64 ((rd_T31 l0 x41_2).f1), .int .i64 ((rd_T31 l0 x41_2).f2), .int .i64 ((rd_T31 l0 x41_2).f3), .int .i64 ((rd_T31 l0 x41_2).f4), .int .i64 0, .bool false, .int .i64 0, .int .i64 0, .int .i64 0, .int .i64 0, .int .i64 0, .int .i64 0]) ?_ 5 _ rfl; (with_reducible repeat (first | refine blk_drewN ?_ _ | refine blk_drew ?_ | refine blk_alloc ?_ _)); refine blk_put (cs := #[.int .i64 ((rd_T31 l0 x41_2).f0), .int .i64 ((rd_T31 l0 x41_2).f1), .int .i64 ((rd_T31 l0 x41_2).f2), .int .i64 ((rd_T31 l0 x41_2).f3), .int .i64 0, .int .i64 0, .bool false, .int .i64 0, .int .i64 0, .int .i64 0, .int .i64 0, .int .i64 0, .int .i64 0]) ?_ 4 _ rfl; (with_reducible repeat (first | refine blk_drewN ?_ _ | refine blk_drew ?_ | refine blk_alloc ?_ _)); refine blk_put (cs := #[.int .i64 ((rd_T31 l0 x41_2).f0), .int .i64 ((rd_T31 l0 x41_2).f1), .int .i64 ((rd_T31 l0 x41_2).f2), .int .i64 0, .int .i64 0, .int .i64 0, .bool false, .int .i64 0, .int .i64 0, .int .i64 0, .int .i64 0, .int .i64 0, .int .i64 0]) ?_ 3 _ rfl; (with_reducible repeat (first | refine blk_drewN ?_ _ | refine blk_drew ?_ | refine blk_alloc ?_ _)); refine blk_put (cs := #[.int .i64 ((rd_T31 l0 x41_2).f0), .int .i64 ((rd_T31 l0 x41_2).f1), .int .i64 0, .int .i64 0, .int .i64 0, .int .i64 0, .bool false, .int .i64 0, .int .i64 0, .int .i64 0, .int .i64 0, .int .i64 0, .int .i64 0]) ?_ 2 _ rfl; (with_reducible repeat (first | refine blk_drewN ?_ _ | refine blk_drew ?_ | refine blk_alloc ?_ _)); refine blk_put (cs := #[.int .i64 ((rd_T31 l0 x41_2).f0), .int .i64 0, .int .i64 0, .int .i64 0, .int .i64 0, .int .i64 0, .bool false, .int .i64 0, .int .i64 0, .int .i64 0, .int .i64 0, .int .i64 0, .int .i64 0]) ?_ 1 _ rfl; (with_reducible repeat (first | refine blk_drewN ?_ _ | refine blk_drew ?_ | refine blk_alloc ?_ _)); refine blk_put (cs := #[.int .i64 0, .int .i64 0, .int .i64 0, .int .i64 0, .int .i64 0, .int .i64 0, .bool false, .int .i64 0, .int .i64 0, .int .i64 0, .int .i64 0, .int .i64 0, .int .i64 0]) ?_ 0 _ rfl; (with_reducible repeat (first | refine blk_drewN ?_ _ | refine blk_drew ?_ | refine blk_alloc ?_ _)); exact BK122.out) hb); have n3_ := Aside0.mk (below_step (by exact h1q HB.out GE122.out) hb); clear HO_2; clear HO_7; clear BK122; clear HB; have HO_2 := n0_; have HO_7 := n1_; have BK122 := n2_; have HB := n3_; clear n0_ n1_ n2_ n3_; (try clear hb); (try clear hb2); (try clear hk); (try clear hi)))
     go_ret3
     exact ⟨_, by first | rfl | (simp [errW_none, errW_some] <;> rfl) | (simp [*, errW_none, errW_some] <;> rfl), by first | exact Kd.R_nil _ _ _ _ _ | exact Kd.N_nil _ _ _ _ _ | exact Kd.V_nil _ _ _ _ _ | exact Kd.Q_nil _ _ _ _ _ | exact Kd.S_nil _ _ _ _ _, by exact h1q HB.out GE122.out⟩
    rw [if_pos c30] at H
    have c30b0 : (t124 == 0) = true := beq_iff_eq.mpr c30
    have c30b1 : (t124 != 0) = false := bne_eq_false_iff_eq.mpr c30
    clear c30
    by_cases c31 : x2_2.length < 17592186044416
    case neg =>
     rw [if_neg c31] at H
     exact absurd H (by simp)
    rw [if_pos c31] at H
    have LMc31 := Aside0.mk c31
    clear c31
    obtain ⟨y125, hy125⟩ : ∃ y_ : List Int, y_ = (x2_2 ++ [IntKind.u64.wrap (t123)]) := ⟨_, rfl⟩
    replace H : (if x7_2.length < 17592186044416 then (blend_weights.l1 k2 y125 (x7_2 ++ [t123]) l0 (l0.length : Int) (wrap64 (x41_2 + 1))) else (none)) = some (r1, r2, r3) := by first | (rw [hy125]; with_reducible exact H) | (have H2_ := (Option.bind_some _ _).symm.trans H; rw [hy125]; with_reducible exact H2_) | (have H2_ := (Option.bind_some _ _).symm.trans H; with_reducible exact H2_) | with_reducible exact H | (rw [hy125]; exact H) | exact H
    have Ny125 := Aside0.mk hy125
    clear hy125
    by_cases c32 : x7_2.length < 17592186044416
    case neg =>
     rw [if_neg c32] at H
     exact absurd H (by simp)
    rw [if_pos c32] at H
    have LMc32 := Aside0.mk c32
    clear c32
    obtain ⟨y128, hy128⟩ : ∃ y_ : List Int, y_ = (x7_2 ++ [t123]) := ⟨_, rfl⟩
    replace H : (blend_weights.l1 k2 y125 y128 l0 (l0.length : Int) (wrap64 (x41_2 + 1))) = some (r1, r2, r3) := by first | (rw [hy128]; with_reducible exact H) | (have H2_ := (Option.bind_some _ _).symm.trans H; rw [hy128]; with_reducible exact H2_) | (have H2_ := (Option.bind_some _ _).symm.trans H; with_reducible exact H2_) | with_reducible exact H | (rw [hy128]; exact H) | exact H
    have Ny128 := Aside0.mk hy128
    clear hy128
    have H' := Aside0.mk H
    clear H
    have p121 : 0 ≤ (x41_2 : Int) := yd
    have q121 : x41_2 < (l0.length : Int) := yd
    obtain ⟨ad121, e121, hx121_0, hx121_1, hx121_2, hx121_3, hx121_4, hx121_5, hx121_6, hx121_7, hx121_8, hx121_9, hx121_10, hx121_11, hx121_12⟩ := at_T31 HR0.out x41_2 p121 q121
    cases e121
    replace hx121_0 := hxb HB.out hx121_0
    replace hx121_1 := hxb HB.out hx121_1
    replace hx121_2 := hxb HB.out hx121_2
    replace hx121_3 := hxb HB.out hx121_3
    replace hx121_4 := hxb HB.out hx121_4
    replace hx121_5 := hxb HB.out hx121_5
    replace hx121_6 := hxb HB.out hx121_6
    replace hx121_7 := hxb HB.out hx121_7
    replace hx121_8 := hxb HB.out hx121_8
    replace hx121_9 := hxb HB.out hx121_9
    replace hx121_10 := hxb HB.out hx121_10
    replace hx121_11 := hxb HB.out hx121_11
    replace hx121_12 := hxb HB.out hx121_12
    replace p121 := eq_true p121
    replace q121 := eq_true q121
    go_wp2_with (first | ((with_reducible refine gate_dst (N := 9) rfl ?_); refine box_event ?hg (N := 9) ?hd (cs := #[.int .i64 0, .int .i64 0, .int .i64 0, .int .i64 0, .int .i64 0, .int .i64 0, .bool false, .int .i64 0, .int .i64 0, .int .i64 0, .int .i64 0, .int .i64 0, .int .i64 0]) (t := 31) ?hr ?_; (case hd => rfl); (case hg => rfl); (case hr => first | (go_simp; done) | (go_simp; rfl)); intro gb122 hg w33 hbox hb; have n0_ := Aside0.mk (Kd.R_below (by exact rq HO_2.out) hb); have n1_ := Aside0.mk (Kd.R_below (by exact rq HO_7.out) hb); have n2_ := Aside0.mk (below_step (by exact h0q HB.out) hb); have n3_ := Aside0.mk (hbox); have n4_ := Aside0.mk ((by rw [hg]; exact (below_size (by exact h0q HB.out)) : w.heap.size ≤ gb122)); have n5_ := Aside0.mk ((by rw [hg]; exact (below_size (by exact h0q HB.out)) : w.heap.size ≤ gb122)); clear HO_2; clear HO_7; clear HB; have HO_2 := n0_; have HO_7 := n1_; have HB := n2_; have BK122 := n3_; have GW122 := n4_; have GE122 := n5_; clear n0_ n1_ n2_ n3_ n4_ n5_; clear hb hbox hg; obtain ⟨hcz34_0, hcz34_1, hcz34_2, hcz34_3, hcz34_4, hcz34_5, hcz34_6, hcz34_7, hcz34_8, hcz34_9, hcz34_10, hcz34_11, hcz34_12, hfz34_0, hfz34_1, hfz34_2, hfz34_3, hfz34_4, hfz34_5, hfz34_6, hfz34_7, hfz34_8, hfz34_9, hfz34_10, hfz34_11, hfz34_12⟩ := lc13 BK122.out) | ((with_reducible refine gate_callee (f := 38) rfl ?_); refine goesL_ (some 47) rfl rfl Try.func38 (by kernel_rfl) rfl #[.agg #[.int .i64 ((rd_T31 l0 x41_2).f0), .int .i64 ((rd_T31 l0 x41_2).f1), .int .i64 ((rd_T31 l0 x41_2).f2), .int .i64 ((rd_T31 l0 x41_2).f3), .int .i64 ((rd_T31 l0 x41_2).f4), .int .i64 ((rd_T31 l0 x41_2).f5), .bool ((rd_T31 l0 x41_2).f6), .int .i64 ((rd_T31 l0 x41_2).f7), .int .i64 ((rd_T31 l0 x41_2).f8), .int .i64 ((rd_T31 l0 x41_2).f9), .int .i64 ((rd_T31 l0 x41_2).f10), .int .i64 ((rd_T31 l0 x41_2).f11), .int .i64 ((rd_T31 l0 x41_2).f12)]] rfl (by (try simp only [List.map_toArray, List.map_cons, List.map_nil]); first | done | rfl | (simp only [List.length_drop, List.length_take]; rfl)) ?_; (with_reducible refine (loan_Owes.calls k2 ((rd_T31 l0 x41_2).f0) ((rd_T31 l0 x41_2).f1) ((rd_T31 l0 x41_2).f2) ((rd_T31 l0 x41_2).f3) ((rd_T31 l0 x41_2).f4) ((rd_T31 l0 x41_2).f5) ((rd_T31 l0 x41_2).f6) ((rd_T31 l0 x41_2).f7) ((rd_T31 l0 x41_2).f8) ((rd_T31 l0 x41_2).f9) ((rd_T31 l0 x41_2).f10) ((rd_T31 l0 x41_2).f11) ((rd_T31 l0 x41_2).f12) t123 t124 _ A29.out).mono ?_); rintro e w35 ⟨rfl, hb⟩; refine ⟨_, rfl, ?_⟩; have n0_ := Aside0.mk (Kd.R_below (by (with_reducible repeat (first | apply Kd.R_alloc | apply Kd.R_drewN | apply Kd.R_drew)); exact (Kd.R_mono (Kd.R_far (p := ⟨gb122, 12, none⟩) (Kd.R_far (p := ⟨gb122, 11, none⟩) (Kd.R_far (p := ⟨gb122, 10, none⟩) (Kd.R_far (p := ⟨gb122, 9, none⟩) (Kd.R_far (p := ⟨gb122, 8, none⟩) (Kd.R_far (p := ⟨gb122, 7, none⟩) (Kd.R_far (p := ⟨gb122, 6, none⟩) (Kd.R_far (p := ⟨gb122, 5, none⟩) (Kd.R_far (p := ⟨gb122, 4, none⟩) (Kd.R_far (p := ⟨gb122, 3, none⟩) (Kd.R_far (p := ⟨gb122, 2, none⟩) (Kd.R_far (p := ⟨gb122, 1, none⟩) (Kd.R_far (p := ⟨gb122, 0, none⟩) (Kd.R_types HO_2.out BK122.out (by decide)) (fun _ hk => hk.2) (.int .i64 ((rd_T31 l0 x41_2).f0))) (fun _ hk => hk.2) (.int .i64 ((rd_T31 l0 x41_2).f1))) (fun _ hk => hk.2) (.int .i64 ((rd_T31 l0 x41_2).f2))) (fun _ hk => hk.2) (.int .i64 ((rd_T31 l0 x41_2).f3))) (fun _ hk => hk.2) (.int .i64 ((rd_T31 l0 x41_2).f4))) (fun _ hk => hk.2) (.int .i64 ((rd_T31 l0 x41_2).f5))) (fun _ hk => hk.2) (.bool ((rd_T31 l0 x41_2).f6))) (fun _ hk => hk.2) (.int .i64 ((rd_T31 l0 x41_2).f7))) (fun _ hk => hk.2) (.int .i64 ((rd_T31 l0 x41_2).f8))) (fun _ hk => hk.2) (.int .i64 ((rd_T31 l0 x41_2).f9))) (fun _ hk => hk.2) (.int .i64 ((rd_T31 l0 x41_2).f10))) (fun _ hk => hk.2) (.int .i64 ((rd_T31 l0 x41_2).f11))) (fun _ hk => hk.2) (.int .i64 ((rd_T31 l0 x41_2).f12))) (fun _ h_ => h_.1))) hb); have n1_ := Aside0.mk (Kd.R_below (by (with_reducible repeat (first | apply Kd.R_alloc | apply Kd.R_drewN | apply Kd.R_drew)); exact (Kd.R_mono (Kd.R_far (p := ⟨gb122, 12, none⟩) (Kd.R_far (p := ⟨gb122, 11, none⟩) (Kd.R_far (p := ⟨gb122, 10, none⟩) (Kd.R_far (p := ⟨gb122, 9, none⟩) (Kd.R_far (p := ⟨gb122, 8, none⟩) (Kd.R_far (p := ⟨gb122, 7, none⟩) (Kd.R_far (p := ⟨gb122, 6, none⟩) (Kd.R_far (p := ⟨gb122, 5, none⟩) (Kd.R_far (p := ⟨gb122, 4, none⟩) (Kd.R_far (p := ⟨gb122, 3, none⟩) (Kd.R_far (p := ⟨gb122, 2, none⟩) (Kd.R_far (p := ⟨gb122, 1, none⟩) (Kd.R_far (p := ⟨gb122, 0, none⟩) (Kd.R_types HO_7.out BK122.out (by decide)) (fun _ hk => hk.2) (.int .i64 ((rd_T31 l0 x41_2).f0))) (fun _ hk => hk.2) (.int .i64 ((rd_T31 l0 x41_2).f1))) (fun _ hk => hk.2) (.int .i64 ((rd_T31 l0 x41_2).f2))) (fun _ hk => hk.2) (.int .i64 ((rd_T31 l0 x41_2).f3))) (fun _ hk => hk.2) (.int .i64 ((rd_T31 l0 x41_2).f4))) (fun _ hk => hk.2) (.int .i64 ((rd_T31 l0 x41_2).f5))) (fun _ hk => hk.2) (.bool ((rd_T31 l0 x41_2).f6))) (fun _ hk => hk.2) (.int .i64 ((rd_T31 l0 x41_2).f7))) (fun _ hk => hk.2) (.int .i64 ((rd_T31 l0 x41_2).f8))) (fun _ hk => hk.2) (.int .i64 ((rd_T31 l0 x41_2).f9))) (fun _ hk => hk.2) (.int .i64 ((rd_T31 l0 x41_2).f10))) (fun _ hk => hk.2) (.int .i64 ((rd_T31 l0 x41_2).f11))) (fun _ hk => hk.2) (.int .i64 ((rd_T31 l0 x41_2).f12))) (fun _ h_ => h_.1))) hb); have n2_ := Aside0.mk (blk_below (g := gb122) (o := .cells #[.int .i64 ((rd_T31 l0 x41_2).f0), .int .i64 ((rd_T31 l0 x41_2).f1), .int .i64 ((rd_T31 l0 x41_2).f2), .int .i64 ((rd_T31 l0 x41_2).f3), .int .i64 ((rd_T31 l0 x41_2).f4), .int .i64 ((rd_T31 l0 x41_2).f5), .bool ((rd_T31 l0 x41_2).f6), .int .i64 ((rd_T31 l0 x41_2).f7), .int .i64 ((rd_T31 l0 x41_2).f8), .int .i64 ((rd_T31 l0 x41_2).f9), .int .i64 ((rd_T31 l0 x41_2).f10), .int .i64 ((rd_T31 l0 x41_2).f11), .int .i64 ((rd_T31 l0 x41_2).f12)] 31 (0, 0)) (by (with_reducible repeat (first | refine blk_drewN ?_ _ | refine blk_drew ?_ | refine blk_alloc ?_ _)); refine blk_put (cs := #[.int .i64 ((rd_T31 l0 x41_2).f0), .int .i64 ((rd_T31 l0 x41_2).f1), .int .i64 ((rd_T31 l0 x41_2).f2), .int .i64 ((rd_T31 l0 x41_2).f3), .int .i64 ((rd_T31 l0 x41_2).f4), .int .i64 ((rd_T31 l0 x41_2).f5), .bool ((rd_T31 l0 x41_2).f6), .int .i64 ((rd_T31 l0 x41_2).f7), .int .i64 ((rd_T31 l0 x41_2).f8), .int .i64 ((rd_T31 l0 x41_2).f9), .int .i64 ((rd_T31 l0 x41_2).f10), .int .i64 ((rd_T31 l0 x41_2).f11), .int .i64 0]) ?_ 12 _ rfl; (with_reducible repeat (first | refine blk_drewN ?_ _ | refine blk_drew ?_ | refine blk_alloc ?_ _)); refine blk_put (cs := #[.int .i64 ((rd_T31 l0 x41_2).f0), .int .i64 ((rd_T31 l0 x41_2).f1), .int .i64 ((rd_T31 l0 x41_2).f2), .int .i64 ((rd_T31 l0 x41_2).f3), .int .i64 ((rd_T31 l0 x41_2).f4), .int .i64 ((rd_T31 l0 x41_2).f5), .bool ((rd_T31 l0 x41_2).f6), .int .i64 ((rd_T31 l0 x41_2).f7), .int .i64 ((rd_T31 l0 x41_2).f8), .int .i64 ((rd_T31 l0 x41_2).f9), .int .i64 ((rd_T31 l0 x41_2).f10), .int .i64 0, .int .i64 0]) ?_ 11 _ rfl; (with_reducible repeat (first | refine blk_drewN ?_ _ | refine blk_drew ?_ | refine blk_alloc ?_ _)); refine blk_put (cs := #[.int .i64 ((rd_T31 l0 x41_2).f0), .int .i64 ((rd_T31 l0 x41_2).f1), .int .i64 ((rd_T31 l0 x41_2).f2), .int .i64 ((rd_T31 l0 x41_2).f3), .int .i64 ((rd_T31 l0 x41_2).f4), .int .i64 ((rd_T31 l0 x41_2).f5), .bool ((rd_T31 l0 x41_2).f6), .int .i64 ((rd_T31 l0 x41_2).f7), .int .i64 ((rd_T31 l0 x41_2).f8), .int .i64 ((rd_T31 l0 x41_2).f9), .int .i64 0, .int .i64 0, .int .i64 0]) ?_ 10 _ rfl; (with_reducible repeat (first | refine blk_drewN ?_ _ | refine blk_drew ?_ | refine blk_alloc ?_ _)); refine blk_put (cs := #[.int .i64 ((rd_T31 l0 x41_2).f0), .int .i64 ((rd_T31 l0 x41_2).f1), .int .i64 ((rd_T31 l0 x41_2).f2), .int .i64 ((rd_T31 l0 x41_2).f3), .int .i64 ((rd_T31 l0 x41_2).f4), .int .i64 ((rd_T31 l0 x41_2).f5), .bool ((rd_T31 l0 x41_2).f6), .int .i64 ((rd_T31 l0 x41_2).f7), .int .i64 ((rd_T31 l0 x41_2).f8), .int .i64 0, .int .i64 0, .int .i64 0, .int .i64 0]) ?_ 9 _ rfl; (with_reducible repeat (first | refine blk_drewN ?_ _ | refine blk_drew ?_ | refine blk_alloc ?_ _)); refine blk_put (cs := #[.int .i64 ((rd_T31 l0 x41_2).f0), .int .i64 ((rd_T31 l0 x41_2).f1), .int .i64 ((rd_T31 l0 x41_2).f2), .int .i64 ((rd_T31 l0 x41_2).f3), .int .i64 ((rd_T31 l0 x41_2).f4), .int .i64 ((rd_T31 l0 x41_2).f5), .bool ((rd_T31 l0 x41_2).f6), .int .i64 ((rd_T31 l0 x41_2).f7), .int .i64 0, .int .i64 0, .int .i64 0, .int .i64 0, .int .i64 0]) ?_ 8 _ rfl; (with_reducible repeat (first | refine blk_drewN ?_ _ | refine blk_drew ?_ | refine blk_alloc ?_ _)); refine blk_put (cs := #[.int .i64 ((rd_T31 l0 x41_2).f0), .int .i64 ((rd_T31 l0 x41_2).f1), .int .i64 ((rd_T31 l0 x41_2).f2), .int .i64 ((rd_T31 l0 x41_2).f3), .int .i64 ((rd_T31 l0 x41_2).f4), .int .i64 ((rd_T31 l0 x41_2).f5), .bool ((rd_T31 l0 x41_2).f6), .int .i64 0, .int .i64 0, .int .i64 0, .int .i64 0, .int .i64 0, .int .i64 0]) ?_ 7 _ rfl; (with_reducible repeat (first | refine blk_drewN ?_ _ | refine blk_drew ?_ | refine blk_alloc ?_ _)); refine blk_put (cs := #[.int .i64 ((rd_T31 l0 x41_2).f0), .int .i64 ((rd_T31 l0 x41_2).f1), .int .i64 ((rd_T31 l0 x41_2).f2), .int .i64 ((rd_T31 l0 x41_2).f3), .int .i64 ((rd_T31 l0 x41_2).f4), .int .i64 ((rd_T31 l0 x41_2).f5), .bool false, .int .i64 0, .int .i64 0, .int .i64 0, .int .i64 0, .int .i64 0, .int .i64 0]) ?_ 6 _ rfl; (with_reducible repeat (first | refine blk_drewN ?_ _ | refine blk_drew ?_ | refine blk_alloc ?_ _)); refine blk_put (cs := #[.int .i64 ((rd_T31 l0 x41_2).f0), .int .i64 ((rd_T31 l0 x41_2).f1), .int .i64 ((rd_T31 l0 x41_2).f2), .int .i64 ((rd_T31 l0 x41_2).f3), .int .i64 ((rd_T31 l0 x41_2).f4), .int .i64 0, .bool false, .int .i64 0, .int .i64 0, .int .i64 0, .int .i64 0, .int .i64 0, .int .i64 0]) ?_ 5 _ rfl; (with_reducible repeat (first | refine blk_drewN ?_ _ | refine blk_drew ?_ | refine blk_alloc ?_ _)); refine blk_put (cs := #[.int .i64 ((rd_T31 l0 x41_2).f0), .int .i64 ((rd_T31 l0 x41_2).f1), .int .i64 ((rd_T31 l0 x41_2).f2), .int .i64 ((rd_T31 l0 x41_2).f3), .int .i64 0, .int .i64 0, .bool false, .int .i64 0, .int .i64 0, .int .i64 0, .int .i64 0, .int .i64 0, .int .i64 0]) ?_ 4 _ rfl; (with_reducible repeat (first | refine blk_drewN ?_ _ | refine blk_drew ?_ | refine blk_alloc ?_ _)); refine blk_put (cs := #[.int .i64 ((rd_T31 l0 x41_2).f0), .int .i64 ((rd_T31 l0 x41_2).f1), .int .i64 ((rd_T31 l0 x41_2).f2), .int .i64 0, .int .i64 0, .int .i64 0, .bool false, .int .i64 0, .int .i64 0, .int .i64 0, .int .i64 0, .int .i64 0, .int .i64 0]) ?_ 3 _ rfl; (with_reducible repeat (first | refine blk_drewN ?_ _ | refine blk_drew ?_ | refine blk_alloc ?_ _)); refine blk_put (cs := #[.int .i64 ((rd_T31 l0 x41_2).f0), .int .i64 ((rd_T31 l0 x41_2).f1), .int .i64 0, .int .i64 0, .int .i64 0, .int .i64 0, .bool false, .int .i64 0, .int .i64 0, .int .i64 0, .int .i64 0, .int .i64 0, .int .i64 0]) ?_ 2 _ rfl; (with_reducible repeat (first | refine blk_drewN ?_ _ | refine blk_drew ?_ | refine blk_alloc ?_ _)); refine blk_put (cs := #[.int .i64 ((rd_T31 l0 x41_2).f0), .int .i64 0, .int .i64 0, .int .i64 0, .int .i64 0, .int .i64 0, .bool false, .int .i64 0, .int .i64 0, .int .i64 0, .int .i64 0, .int .i64 0, .int .i64 0]) ?_ 1 _ rfl; (with_reducible repeat (first | refine blk_drewN ?_ _ | refine blk_drew ?_ | refine blk_alloc ?_ _)); refine blk_put (cs := #[.int .i64 0, .int .i64 0, .int .i64 0, .int .i64 0, .int .i64 0, .int .i64 0, .bool false, .int .i64 0, .int .i64 0, .int .i64 0, .int .i64 0, .int .i64 0, .int .i64 0]) ?_ 0 _ rfl; (with_reducible repeat (first | refine blk_drewN ?_ _ | refine blk_drew ?_ | refine blk_alloc ?_ _)); exact BK122.out) hb); have n3_ := Aside0.mk (below_step (by exact h1q HB.out GE122.out) hb); clear HO_2; clear HO_7; clear BK122; clear HB; have HO_2 := n0_; have HO_7 := n1_; have BK122 := n2_; have HB := n3_; clear n0_ n1_ n2_ n3_; (try clear hb); (try clear hb2); (try clear hk); (try clear hi)) | ((with_reducible refine gate_builtin (b := .append) (xs := #[.tmp 53, .tmp 56]) rfl ?_); at_builtin; refine Kd.R_append (Kd.int .u64) (w0 := w) w.heap.size rfl (.tmp 53) (.tmp 56) 50 60 (.int .u64 0) 8 rfl Try.underlying50 info60 rfl (by decide) (by omega) u2 x2_2 (IntKind.u64.wrap (t123)) [.int .u64 (IntKind.u64.wrap (t123))] (fun _ => True) (fun _ => False) rfl rfl ?aP (fun _ hk => hk.elim) ?aF ?aO ?aB ?aS ?aL ?_; (case aP => exact rfl); (case aB => exact (by exact h1q HB.out GE122.out)); (case aF => exact (fun _ _ => trivial)); (case aO => exact (by exact rq HO_2.out)); (case aS => exact (below_size (by exact h1q HB.out GE122.out))); (case aL => have := LMc31.out; omega); intro v126 w36 ho hb hg hat; rw [← Ny125.out] at ho; have n0_ := Aside0.mk (Kd.R_over' (by exact rq HO_7.out) (Kd.R_typed (by exact rq HO_2.out)) (by decide) hg); have n1_ := Aside0.mk (blk_grown (g := gb122) (Up.up BK122.out) hg (Kd.R_ne HO_2.out BK122.out (by decide))); have n2_ := Aside0.mk (hb); have n3_ := Aside0.mk (ho); clear HO_7; clear BK122; clear HB; clear HO_2; have HO_7 := n0_; have BK122 := n1_; have HB := n2_; have HO127 := n3_; clear n0_ n1_ n2_ n3_; clear ho hb hg hat) | ((with_reducible refine gate_builtin (b := .append) (xs := #[.tmp 58, .tmp 60]) rfl ?_); at_builtin; refine Kd.R_append (Kd.int .i64) (w0 := w) w.heap.size rfl (.tmp 58) (.tmp 60) 45 2 (.int .i64 0) 8 rfl Try.underlying45 info2 rfl (by decide) (by omega) u7 x7_2 t123 [.int .i64 t123] (fun _ => True) (fun _ => False) rfl rfl ?aP (fun _ hk => hk.elim) ?aF ?aO ?aB ?aS ?aL ?_; (case aP => exact rfl); (case aB => exact (by exact h1q HB.out GE122.out)); (case aF => exact (fun _ _ => trivial)); (case aO => exact (by exact rq HO_7.out)); (case aS => exact (below_size (by exact h1q HB.out GE122.out))); (case aL => have := LMc32.out; omega); intro v129 w37 ho hb hg hat; rw [← Ny128.out] at ho; have n0_ := Aside0.mk (blk_grown (g := gb122) (Up.up BK122.out) hg (Kd.R_ne HO_7.out BK122.out (by decide))); have n1_ := Aside0.mk (Kd.R_over' (by exact rq HO127.out) (Kd.R_typed (by exact rq HO_7.out)) (by decide) hg); have n2_ := Aside0.mk (hb); have n3_ := Aside0.mk (ho); clear BK122; clear HO127; clear HB; clear HO_7; have BK122 := n0_; have HO127 := n1_; have HB := n2_; have HO130 := n3_; clear n0_ n1_ n2_ n3_; clear ho hb hg hat))
    go_roundg k2
    case measure => have := HK1.out; have := HK2.out; omega
    case rel => exact ⟨(y125), (y128), (wrap64 (x41_2 + 1)), (by first | rfl | (simp; done) | (simp [*]; done)), H', ⟨by have := HK1.out; have := HK2.out; omega⟩, ⟨by exact rq HO127.out⟩, ⟨by exact rq HO130.out⟩, ⟨by exact h1q HB.out GE122.out⟩⟩
  rw [if_pos c3] at H
  have c3b0 : decide (x18_1 < (l0.length : Int)) = true := decide_eq_true c3
  clear c3
  by_cases c4 : 0 ≤ x18_1
  case neg =>
   rw [if_neg c4] at H
   exact absurd H (by simp)
  rw [if_pos c4] at H
  have c4b0 : decide (0 ≤ x18_1) = true := decide_eq_true c4
  clear c4
  by_cases c5 : x18_1 < (l0.length : Int)
  case neg =>
   rw [if_neg c5] at H
   exact absurd H (by simp)
  rw [if_pos c5] at H
  have c5b0 : decide (x18_1 < (l0.length : Int)) = true := decide_eq_true c5
  clear c5
  replace H := Option.bind_eq_some_iff.mp H
  obtain ⟨t120, A60, H⟩ := H
  replace H : (if t120 = true then (if ((rd_T31 l0 x18_1).f8) = 0 then (if ((rd_T31 l0 x18_1).f12) > 1000000 then (some (([] : List Int), 0, 1)) else (blend_weights.l0 k1 l0 x2_1 l0 (l0.length : Int) (wrap64 (x18_1 + 1)))) else (some (([] : List Int), 0, 1))) else (some (([] : List Int), 0, 1))) = some (r1, r2, r3) := H
  have A6 := Aside0.mk A60
  clear A60
  by_cases c7 : t120 = true
  case neg =>
   replace c7 := Bool.eq_false_iff.mpr c7
   subst c7
   have H1 : (some (([] : List Int), 0, 1)) = some (r1, r2, r3) := by rw [if_neg (show ¬ (false = true) by decide)] at H; exact H
   clear H
   have H := H1
   clear H1
   simp only [Option.some.injEq, Prod.mk.injEq] at H
   obtain ⟨rfl, rfl, rfl⟩ := H
   have p118 : 0 ≤ (x18_1 : Int) := yd
   have q118 : x18_1 < (l0.length : Int) := yd
   obtain ⟨ad118, e118, hx118_0, hx118_1, hx118_2, hx118_3, hx118_4, hx118_5, hx118_6, hx118_7, hx118_8, hx118_9, hx118_10, hx118_11, hx118_12⟩ := at_T31 HR0.out x18_1 p118 q118
   cases e118
   replace hx118_0 := hxb HB.out hx118_0
   replace hx118_1 := hxb HB.out hx118_1
   replace hx118_2 := hxb HB.out hx118_2
   replace hx118_3 := hxb HB.out hx118_3
   replace hx118_4 := hxb HB.out hx118_4
   replace hx118_5 := hxb HB.out hx118_5
   replace hx118_6 := hxb HB.out hx118_6
   replace hx118_7 := hxb HB.out hx118_7
   replace hx118_8 := hxb HB.out hx118_8
   replace hx118_9 := hxb HB.out hx118_9
   replace hx118_10 := hxb HB.out hx118_10
   replace hx118_11 := hxb HB.out hx118_11
   replace hx118_12 := hxb HB.out hx118_12
   replace p118 := eq_true p118
   replace q118 := eq_true q118
   go_wp2_with (first | ((with_reducible refine gate_dst (N := 6) rfl ?_); refine box_event ?hg (N := 6) ?hd (cs := #[.int .i64 0, .int .i64 0, .int .i64 0, .int .i64 0, .int .i64 0, .int .i64 0, .bool false, .int .i64 0, .int .i64 0, .int .i64 0, .int .i64 0, .int .i64 0, .int .i64 0]) (t := 31) ?hr ?_; (case hd => rfl); (case hg => rfl); (case hr => first | (go_simp; done) | (go_simp; rfl)); intro gb119 hg w22 hbox hb; have n0_ := Aside0.mk (Kd.R_below (by exact rq HO_2.out) hb); have n1_ := Aside0.mk (below_step (by exact h0q HB.out) hb); have n2_ := Aside0.mk (hbox); have n3_ := Aside0.mk ((by rw [hg]; exact (below_size (by exact h0q HB.out)) : w.heap.size ≤ gb119)); have n4_ := Aside0.mk ((by rw [hg]; exact (below_size (by exact h0q HB.out)) : w.heap.size ≤ gb119)); clear HO_2; clear HB; have HO_2 := n0_; have HB := n1_; have BK119 := n2_; have GW119 := n3_; have GE119 := n4_; clear n0_ n1_ n2_ n3_ n4_; clear hb hbox hg; obtain ⟨hcz23_0, hcz23_1, hcz23_2, hcz23_3, hcz23_4, hcz23_5, hcz23_6, hcz23_7, hcz23_8, hcz23_9, hcz23_10, hcz23_11, hcz23_12, hfz23_0, hfz23_1, hfz23_2, hfz23_3, hfz23_4, hfz23_5, hfz23_6, hfz23_7, hfz23_8, hfz23_9, hfz23_10, hfz23_11, hfz23_12⟩ := lc13 BK119.out) | ((with_reducible refine gate_callee (f := 37) rfl ?_); refine goesL_ (some 23) rfl rfl Try.func37 (by kernel_rfl) rfl #[.agg #[.int .i64 ((rd_T31 l0 x18_1).f0), .int .i64 ((rd_T31 l0 x18_1).f1), .int .i64 ((rd_T31 l0 x18_1).f2), .int .i64 ((rd_T31 l0 x18_1).f3), .int .i64 ((rd_T31 l0 x18_1).f4), .int .i64 ((rd_T31 l0 x18_1).f5), .bool ((rd_T31 l0 x18_1).f6), .int .i64 ((rd_T31 l0 x18_1).f7), .int .i64 ((rd_T31 l0 x18_1).f8), .int .i64 ((rd_T31 l0 x18_1).f9), .int .i64 ((rd_T31 l0 x18_1).f10), .int .i64 ((rd_T31 l0 x18_1).f11), .int .i64 ((rd_T31 l0 x18_1).f12)]] rfl (by (try simp only [List.map_toArray, List.map_cons, List.map_nil]); first | done | rfl | (simp only [List.length_drop, List.length_take]; rfl)) ?_; (with_reducible refine (loan_Good.calls k1 ((rd_T31 l0 x18_1).f0) ((rd_T31 l0 x18_1).f1) ((rd_T31 l0 x18_1).f2) ((rd_T31 l0 x18_1).f3) ((rd_T31 l0 x18_1).f4) ((rd_T31 l0 x18_1).f5) ((rd_T31 l0 x18_1).f6) ((rd_T31 l0 x18_1).f7) ((rd_T31 l0 x18_1).f8) ((rd_T31 l0 x18_1).f9) ((rd_T31 l0 x18_1).f10) ((rd_T31 l0 x18_1).f11) ((rd_T31 l0 x18_1).f12) false _ A6.out).mono ?_); rintro e w24 ⟨rfl, hb⟩; refine ⟨_, rfl, ?_⟩; have n0_ := Aside0.mk (Kd.R_below (by (with_reducible repeat (first | apply Kd.R_alloc | apply Kd.R_drewN | apply Kd.R_drew)); exact (Kd.R_mono (Kd.R_far (p := ⟨gb119, 12, none⟩) (Kd.R_far (p := ⟨gb119, 11, none⟩) (Kd.R_far (p := ⟨gb119, 10, none⟩) (Kd.R_far (p := ⟨gb119, 9, none⟩) (Kd.R_far (p := ⟨gb119, 8, none⟩) (Kd.R_far (p := ⟨gb119, 7, none⟩) (Kd.R_far (p := ⟨gb119, 6, none⟩) (Kd.R_far (p := ⟨gb119, 5, none⟩) (Kd.R_far (p := ⟨gb119, 4, none⟩) (Kd.R_far (p := ⟨gb119, 3, none⟩) (Kd.R_far (p := ⟨gb119, 2, none⟩) (Kd.R_far (p := ⟨gb119, 1, none⟩) (Kd.R_far (p := ⟨gb119, 0, none⟩) (Kd.R_types HO_2.out BK119.out (by decide)) (fun _ hk => hk.2) (.int .i64 ((rd_T31 l0 x18_1).f0))) (fun _ hk => hk.2) (.int .i64 ((rd_T31 l0 x18_1).f1))) (fun _ hk => hk.2) (.int .i64 ((rd_T31 l0 x18_1).f2))) (fun _ hk => hk.2) (.int .i64 ((rd_T31 l0 x18_1).f3))) (fun _ hk => hk.2) (.int .i64 ((rd_T31 l0 x18_1).f4))) (fun _ hk => hk.2) (.int .i64 ((rd_T31 l0 x18_1).f5))) (fun _ hk => hk.2) (.bool ((rd_T31 l0 x18_1).f6))) (fun _ hk => hk.2) (.int .i64 ((rd_T31 l0 x18_1).f7))) (fun _ hk => hk.2) (.int .i64 ((rd_T31 l0 x18_1).f8))) (fun _ hk => hk.2) (.int .i64 ((rd_T31 l0 x18_1).f9))) (fun _ hk => hk.2) (.int .i64 ((rd_T31 l0 x18_1).f10))) (fun _ hk => hk.2) (.int .i64 ((rd_T31 l0 x18_1).f11))) (fun _ hk => hk.2) (.int .i64 ((rd_T31 l0 x18_1).f12))) (fun _ h_ => h_.1))) hb); have n1_ := Aside0.mk (blk_below (g := gb119) (o := .cells #[.int .i64 ((rd_T31 l0 x18_1).f0), .int .i64 ((rd_T31 l0 x18_1).f1), .int .i64 ((rd_T31 l0 x18_1).f2), .int .i64 ((rd_T31 l0 x18_1).f3), .int .i64 ((rd_T31 l0 x18_1).f4), .int .i64 ((rd_T31 l0 x18_1).f5), .bool ((rd_T31 l0 x18_1).f6), .int .i64 ((rd_T31 l0 x18_1).f7), .int .i64 ((rd_T31 l0 x18_1).f8), .int .i64 ((rd_T31 l0 x18_1).f9), .int .i64 ((rd_T31 l0 x18_1).f10), .int .i64 ((rd_T31 l0 x18_1).f11), .int .i64 ((rd_T31 l0 x18_1).f12)] 31 (0, 0)) (by (with_reducible repeat (first | refine blk_drewN ?_ _ | refine blk_drew ?_ | refine blk_alloc ?_ _)); refine blk_put (cs := #[.int .i64 ((rd_T31 l0 x18_1).f0), .int .i64 ((rd_T31 l0 x18_1).f1), .int .i64 ((rd_T31 l0 x18_1).f2), .int .i64 ((rd_T31 l0 x18_1).f3), .int .i64 ((rd_T31 l0 x18_1).f4), .int .i64 ((rd_T31 l0 x18_1).f5), .bool ((rd_T31 l0 x18_1).f6), .int .i64 ((rd_T31 l0 x18_1).f7), .int .i64 ((rd_T31 l0 x18_1).f8), .int .i64 ((rd_T31 l0 x18_1).f9), .int .i64 ((rd_T31 l0 x18_1).f10), .int .i64 ((rd_T31 l0 x18_1).f11), .int .i64 0]) ?_ 12 _ rfl; (with_reducible repeat (first | refine blk_drewN ?_ _ | refine blk_drew ?_ | refine blk_alloc ?_ _)); refine blk_put (cs := #[.int .i64 ((rd_T31 l0 x18_1).f0), .int .i64 ((rd_T31 l0 x18_1).f1), .int .i64 ((rd_T31 l0 x18_1).f2), .int .i64 ((rd_T31 l0 x18_1).f3), .int .i64 ((rd_T31 l0 x18_1).f4), .int .i64 ((rd_T31 l0 x18_1).f5), .bool ((rd_T31 l0 x18_1).f6), .int .i64 ((rd_T31 l0 x18_1).f7), .int .i64 ((rd_T31 l0 x18_1).f8), .int .i64 ((rd_T31 l0 x18_1).f9), .int .i64 ((rd_T31 l0 x18_1).f10), .int .i64 0, .int .i64 0]) ?_ 11 _ rfl; (with_reducible repeat (first | refine blk_drewN ?_ _ | refine blk_drew ?_ | refine blk_alloc ?_ _)); refine blk_put (cs := #[.int .i64 ((rd_T31 l0 x18_1).f0), .int .i64 ((rd_T31 l0 x18_1).f1), .int .i64 ((rd_T31 l0 x18_1).f2), .int .i64 ((rd_T31 l0 x18_1).f3), .int .i64 ((rd_T31 l0 x18_1).f4), .int .i64 ((rd_T31 l0 x18_1).f5), .bool ((rd_T31 l0 x18_1).f6), .int .i64 ((rd_T31 l0 x18_1).f7), .int .i64 ((rd_T31 l0 x18_1).f8), .int .i64 ((rd_T31 l0 x18_1).f9), .int .i64 0, .int .i64 0, .int .i64 0]) ?_ 10 _ rfl; (with_reducible repeat (first | refine blk_drewN ?_ _ | refine blk_drew ?_ | refine blk_alloc ?_ _)); refine blk_put (cs := #[.int .i64 ((rd_T31 l0 x18_1).f0), .int .i64 ((rd_T31 l0 x18_1).f1), .int .i64 ((rd_T31 l0 x18_1).f2), .int .i64 ((rd_T31 l0 x18_1).f3), .int .i64 ((rd_T31 l0 x18_1).f4), .int .i64 ((rd_T31 l0 x18_1).f5), .bool ((rd_T31 l0 x18_1).f6), .int .i64 ((rd_T31 l0 x18_1).f7), .int .i64 ((rd_T31 l0 x18_1).f8), .int .i64 0, .int .i64 0, .int .i64 0, .int .i64 0]) ?_ 9 _ rfl; (with_reducible repeat (first | refine blk_drewN ?_ _ | refine blk_drew ?_ | refine blk_alloc ?_ _)); refine blk_put (cs := #[.int .i64 ((rd_T31 l0 x18_1).f0), .int .i64 ((rd_T31 l0 x18_1).f1), .int .i64 ((rd_T31 l0 x18_1).f2), .int .i64 ((rd_T31 l0 x18_1).f3), .int .i64 ((rd_T31 l0 x18_1).f4), .int .i64 ((rd_T31 l0 x18_1).f5), .bool ((rd_T31 l0 x18_1).f6), .int .i64 ((rd_T31 l0 x18_1).f7), .int .i64 0, .int .i64 0, .int .i64 0, .int .i64 0, .int .i64 0]) ?_ 8 _ rfl; (with_reducible repeat (first | refine blk_drewN ?_ _ | refine blk_drew ?_ | refine blk_alloc ?_ _)); refine blk_put (cs := #[.int .i64 ((rd_T31 l0 x18_1).f0), .int .i64 ((rd_T31 l0 x18_1).f1), .int .i64 ((rd_T31 l0 x18_1).f2), .int .i64 ((rd_T31 l0 x18_1).f3), .int .i64 ((rd_T31 l0 x18_1).f4), .int .i64 ((rd_T31 l0 x18_1).f5), .bool ((rd_T31 l0 x18_1).f6), .int .i64 0, .int .i64 0, .int .i64 0, .int .i64 0, .int .i64 0, .int .i64 0]) ?_ 7 _ rfl; (with_reducible repeat (first | refine blk_drewN ?_ _ | refine blk_drew ?_ | refine blk_alloc ?_ _)); refine blk_put (cs := #[.int .i64 ((rd_T31 l0 x18_1).f0), .int .i64 ((rd_T31 l0 x18_1).f1), .int .i64 ((rd_T31 l0 x18_1).f2), .int .i64 ((rd_T31 l0 x18_1).f3), .int .i64 ((rd_T31 l0 x18_1).f4), .int .i64 ((rd_T31 l0 x18_1).f5), .bool false, .int .i64 0, .int .i64 0, .int .i64 0, .int .i64 0, .int .i64 0, .int .i64 0]) ?_ 6 _ rfl; (with_reducible repeat (first | refine blk_drewN ?_ _ | refine blk_drew ?_ | refine blk_alloc ?_ _)); refine blk_put (cs := #[.int .i64 ((rd_T31 l0 x18_1).f0), .int .i64 ((rd_T31 l0 x18_1).f1), .int .i64 ((rd_T31 l0 x18_1).f2), .int .i64 ((rd_T31 l0 x18_1).f3), .int .i64 ((rd_T31 l0 x18_1).f4), .int .i64 0, .bool false, .int .i64 0, .int .i64 0, .int .i64 0, .int .i64 0, .int .i64 0, .int .i64 0]) ?_ 5 _ rfl; (with_reducible repeat (first | refine blk_drewN ?_ _ | refine blk_drew ?_ | refine blk_alloc ?_ _)); refine blk_put (cs := #[.int .i64 ((rd_T31 l0 x18_1).f0), .int .i64 ((rd_T31 l0 x18_1).f1), .int .i64 ((rd_T31 l0 x18_1).f2), .int .i64 ((rd_T31 l0 x18_1).f3), .int .i64 0, .int .i64 0, .bool false, .int .i64 0, .int .i64 0, .int .i64 0, .int .i64 0, .int .i64 0, .int .i64 0]) ?_ 4 _ rfl; (with_reducible repeat (first | refine blk_drewN ?_ _ | refine blk_drew ?_ | refine blk_alloc ?_ _)); refine blk_put (cs := #[.int .i64 ((rd_T31 l0 x18_1).f0), .int .i64 ((rd_T31 l0 x18_1).f1), .int .i64 ((rd_T31 l0 x18_1).f2), .int .i64 0, .int .i64 0, .int .i64 0, .bool false, .int .i64 0, .int .i64 0, .int .i64 0, .int .i64 0, .int .i64 0, .int .i64 0]) ?_ 3 _ rfl; (with_reducible repeat (first | refine blk_drewN ?_ _ | refine blk_drew ?_ | refine blk_alloc ?_ _)); refine blk_put (cs := #[.int .i64 ((rd_T31 l0 x18_1).f0), .int .i64 ((rd_T31 l0 x18_1).f1), .int .i64 0, .int .i64 0, .int .i64 0, .int .i64 0, .bool false, .int .i64 0, .int .i64 0, .int .i64 0, .int .i64 0, .int .i64 0, .int .i64 0]) ?_ 2 _ rfl; (with_reducible repeat (first | refine blk_drewN ?_ _ | refine blk_drew ?_ | refine blk_alloc ?_ _)); refine blk_put (cs := #[.int .i64 ((rd_T31 l0 x18_1).f0), .int .i64 0, .int .i64 0, .int .i64 0, .int .i64 0, .int .i64 0, .bool false, .int .i64 0, .int .i64 0, .int .i64 0, .int .i64 0, .int .i64 0, .int .i64 0]) ?_ 1 _ rfl; (with_reducible repeat (first | refine blk_drewN ?_ _ | refine blk_drew ?_ | refine blk_alloc ?_ _)); refine blk_put (cs := #[.int .i64 0, .int .i64 0, .int .i64 0, .int .i64 0, .int .i64 0, .int .i64 0, .bool false, .int .i64 0, .int .i64 0, .int .i64 0, .int .i64 0, .int .i64 0, .int .i64 0]) ?_ 0 _ rfl; (with_reducible repeat (first | refine blk_drewN ?_ _ | refine blk_drew ?_ | refine blk_alloc ?_ _)); exact BK119.out) hb); have n2_ := Aside0.mk (below_step (by exact h1q HB.out GE119.out) hb); clear HO_2; clear BK119; clear HB; have HO_2 := n0_; have BK119 := n1_; have HB := n2_; clear n0_ n1_ n2_; (try clear hb); (try clear hb2); (try clear hk); (try clear hi)))
   go_ret3
   exact ⟨_, by first | rfl | (simp [errW_none, errW_some] <;> rfl) | (simp [*, errW_none, errW_some] <;> rfl), by first | exact Kd.R_nil _ _ _ _ _ | exact Kd.N_nil _ _ _ _ _ | exact Kd.V_nil _ _ _ _ _ | exact Kd.Q_nil _ _ _ _ _ | exact Kd.S_nil _ _ _ _ _, by exact h1q HB.out GE119.out⟩
  subst c7
  have H1 : (if ((rd_T31 l0 x18_1).f8) = 0 then (if ((rd_T31 l0 x18_1).f12) > 1000000 then (some (([] : List Int), 0, 1)) else (blend_weights.l0 k1 l0 x2_1 l0 (l0.length : Int) (wrap64 (x18_1 + 1)))) else (some (([] : List Int), 0, 1))) = some (r1, r2, r3) := by rw [if_pos rfl] at H; exact H
  clear H
  have H := H1
  clear H1
  by_cases c8 : ((rd_T31 l0 x18_1).f8) = 0
  case neg =>
   rw [if_neg c8] at H
   have c8b0 : (((rd_T31 l0 x18_1).f8) == 0) = false := beq_eq_false_iff_ne.mpr c8
   have c8b1 : (((rd_T31 l0 x18_1).f8) != 0) = true := bne_iff_ne.mpr c8
   simp only [Option.some.injEq, Prod.mk.injEq] at H
   obtain ⟨rfl, rfl, rfl⟩ := H
   have p118 : 0 ≤ (x18_1 : Int) := yd
   have q118 : x18_1 < (l0.length : Int) := yd
   obtain ⟨ad118, e118, hx118_0, hx118_1, hx118_2, hx118_3, hx118_4, hx118_5, hx118_6, hx118_7, hx118_8, hx118_9, hx118_10, hx118_11, hx118_12⟩ := at_T31 HR0.out x18_1 p118 q118
   cases e118
   replace hx118_0 := hxb HB.out hx118_0
   replace hx118_1 := hxb HB.out hx118_1
   replace hx118_2 := hxb HB.out hx118_2
   replace hx118_3 := hxb HB.out hx118_3
   replace hx118_4 := hxb HB.out hx118_4
   replace hx118_5 := hxb HB.out hx118_5
   replace hx118_6 := hxb HB.out hx118_6
   replace hx118_7 := hxb HB.out hx118_7
   replace hx118_8 := hxb HB.out hx118_8
   replace hx118_9 := hxb HB.out hx118_9
   replace hx118_10 := hxb HB.out hx118_10
   replace hx118_11 := hxb HB.out hx118_11
   replace hx118_12 := hxb HB.out hx118_12
   replace p118 := eq_true p118
   replace q118 := eq_true q118
   go_wp2_with (first | ((with_reducible refine gate_dst (N := 6) rfl ?_); refine box_event ?hg (N := 6) ?hd (cs := #[.int .i64 0, .int .i64 0, .int .i64 0, .int .i64 0, .int .i64 0, .int .i64 0, .bool false, .int .i64 0, .int .i64 0, .int .i64 0, .int .i64 0, .int .i64 0, .int .i64 0]) (t := 31) ?hr ?_; (case hd => rfl); (case hg => rfl); (case hr => first | (go_simp; done) | (go_simp; rfl)); intro gb119 hg w18 hbox hb; have n0_ := Aside0.mk (Kd.R_below (by exact rq HO_2.out) hb); have n1_ := Aside0.mk (below_step (by exact h0q HB.out) hb); have n2_ := Aside0.mk (hbox); have n3_ := Aside0.mk ((by rw [hg]; exact (below_size (by exact h0q HB.out)) : w.heap.size ≤ gb119)); have n4_ := Aside0.mk ((by rw [hg]; exact (below_size (by exact h0q HB.out)) : w.heap.size ≤ gb119)); clear HO_2; clear HB; have HO_2 := n0_; have HB := n1_; have BK119 := n2_; have GW119 := n3_; have GE119 := n4_; clear n0_ n1_ n2_ n3_ n4_; clear hb hbox hg; obtain ⟨hcz19_0, hcz19_1, hcz19_2, hcz19_3, hcz19_4, hcz19_5, hcz19_6, hcz19_7, hcz19_8, hcz19_9, hcz19_10, hcz19_11, hcz19_12, hfz19_0, hfz19_1, hfz19_2, hfz19_3, hfz19_4, hfz19_5, hfz19_6, hfz19_7, hfz19_8, hfz19_9, hfz19_10, hfz19_11, hfz19_12⟩ := lc13 BK119.out) | ((with_reducible refine gate_callee (f := 37) rfl ?_); refine goesL_ (some 23) rfl rfl Try.func37 (by kernel_rfl) rfl #[.agg #[.int .i64 ((rd_T31 l0 x18_1).f0), .int .i64 ((rd_T31 l0 x18_1).f1), .int .i64 ((rd_T31 l0 x18_1).f2), .int .i64 ((rd_T31 l0 x18_1).f3), .int .i64 ((rd_T31 l0 x18_1).f4), .int .i64 ((rd_T31 l0 x18_1).f5), .bool ((rd_T31 l0 x18_1).f6), .int .i64 ((rd_T31 l0 x18_1).f7), .int .i64 ((rd_T31 l0 x18_1).f8), .int .i64 ((rd_T31 l0 x18_1).f9), .int .i64 ((rd_T31 l0 x18_1).f10), .int .i64 ((rd_T31 l0 x18_1).f11), .int .i64 ((rd_T31 l0 x18_1).f12)]] rfl (by (try simp only [List.map_toArray, List.map_cons, List.map_nil]); first | done | rfl | (simp only [List.length_drop, List.length_take]; rfl)) ?_; (with_reducible refine (loan_Good.calls k1 ((rd_T31 l0 x18_1).f0) ((rd_T31 l0 x18_1).f1) ((rd_T31 l0 x18_1).f2) ((rd_T31 l0 x18_1).f3) ((rd_T31 l0 x18_1).f4) ((rd_T31 l0 x18_1).f5) ((rd_T31 l0 x18_1).f6) ((rd_T31 l0 x18_1).f7) ((rd_T31 l0 x18_1).f8) ((rd_T31 l0 x18_1).f9) ((rd_T31 l0 x18_1).f10) ((rd_T31 l0 x18_1).f11) ((rd_T31 l0 x18_1).f12) true _ A6.out).mono ?_); rintro e w20 ⟨rfl, hb⟩; refine ⟨_, rfl, ?_⟩; have n0_ := Aside0.mk (Kd.R_below (by (with_reducible repeat (first | apply Kd.R_alloc | apply Kd.R_drewN | apply Kd.R_drew)); exact (Kd.R_mono (Kd.R_far (p := ⟨gb119, 12, none⟩) (Kd.R_far (p := ⟨gb119, 11, none⟩) (Kd.R_far (p := ⟨gb119, 10, none⟩) (Kd.R_far (p := ⟨gb119, 9, none⟩) (Kd.R_far (p := ⟨gb119, 8, none⟩) (Kd.R_far (p := ⟨gb119, 7, none⟩) (Kd.R_far (p := ⟨gb119, 6, none⟩) (Kd.R_far (p := ⟨gb119, 5, none⟩) (Kd.R_far (p := ⟨gb119, 4, none⟩) (Kd.R_far (p := ⟨gb119, 3, none⟩) (Kd.R_far (p := ⟨gb119, 2, none⟩) (Kd.R_far (p := ⟨gb119, 1, none⟩) (Kd.R_far (p := ⟨gb119, 0, none⟩) (Kd.R_types HO_2.out BK119.out (by decide)) (fun _ hk => hk.2) (.int .i64 ((rd_T31 l0 x18_1).f0))) (fun _ hk => hk.2) (.int .i64 ((rd_T31 l0 x18_1).f1))) (fun _ hk => hk.2) (.int .i64 ((rd_T31 l0 x18_1).f2))) (fun _ hk => hk.2) (.int .i64 ((rd_T31 l0 x18_1).f3))) (fun _ hk => hk.2) (.int .i64 ((rd_T31 l0 x18_1).f4))) (fun _ hk => hk.2) (.int .i64 ((rd_T31 l0 x18_1).f5))) (fun _ hk => hk.2) (.bool ((rd_T31 l0 x18_1).f6))) (fun _ hk => hk.2) (.int .i64 ((rd_T31 l0 x18_1).f7))) (fun _ hk => hk.2) (.int .i64 ((rd_T31 l0 x18_1).f8))) (fun _ hk => hk.2) (.int .i64 ((rd_T31 l0 x18_1).f9))) (fun _ hk => hk.2) (.int .i64 ((rd_T31 l0 x18_1).f10))) (fun _ hk => hk.2) (.int .i64 ((rd_T31 l0 x18_1).f11))) (fun _ hk => hk.2) (.int .i64 ((rd_T31 l0 x18_1).f12))) (fun _ h_ => h_.1))) hb); have n1_ := Aside0.mk (blk_below (g := gb119) (o := .cells #[.int .i64 ((rd_T31 l0 x18_1).f0), .int .i64 ((rd_T31 l0 x18_1).f1), .int .i64 ((rd_T31 l0 x18_1).f2), .int .i64 ((rd_T31 l0 x18_1).f3), .int .i64 ((rd_T31 l0 x18_1).f4), .int .i64 ((rd_T31 l0 x18_1).f5), .bool ((rd_T31 l0 x18_1).f6), .int .i64 ((rd_T31 l0 x18_1).f7), .int .i64 ((rd_T31 l0 x18_1).f8), .int .i64 ((rd_T31 l0 x18_1).f9), .int .i64 ((rd_T31 l0 x18_1).f10), .int .i64 ((rd_T31 l0 x18_1).f11), .int .i64 ((rd_T31 l0 x18_1).f12)] 31 (0, 0)) (by (with_reducible repeat (first | refine blk_drewN ?_ _ | refine blk_drew ?_ | refine blk_alloc ?_ _)); refine blk_put (cs := #[.int .i64 ((rd_T31 l0 x18_1).f0), .int .i64 ((rd_T31 l0 x18_1).f1), .int .i64 ((rd_T31 l0 x18_1).f2), .int .i64 ((rd_T31 l0 x18_1).f3), .int .i64 ((rd_T31 l0 x18_1).f4), .int .i64 ((rd_T31 l0 x18_1).f5), .bool ((rd_T31 l0 x18_1).f6), .int .i64 ((rd_T31 l0 x18_1).f7), .int .i64 ((rd_T31 l0 x18_1).f8), .int .i64 ((rd_T31 l0 x18_1).f9), .int .i64 ((rd_T31 l0 x18_1).f10), .int .i64 ((rd_T31 l0 x18_1).f11), .int .i64 0]) ?_ 12 _ rfl; (with_reducible repeat (first | refine blk_drewN ?_ _ | refine blk_drew ?_ | refine blk_alloc ?_ _)); refine blk_put (cs := #[.int .i64 ((rd_T31 l0 x18_1).f0), .int .i64 ((rd_T31 l0 x18_1).f1), .int .i64 ((rd_T31 l0 x18_1).f2), .int .i64 ((rd_T31 l0 x18_1).f3), .int .i64 ((rd_T31 l0 x18_1).f4), .int .i64 ((rd_T31 l0 x18_1).f5), .bool ((rd_T31 l0 x18_1).f6), .int .i64 ((rd_T31 l0 x18_1).f7), .int .i64 ((rd_T31 l0 x18_1).f8), .int .i64 ((rd_T31 l0 x18_1).f9), .int .i64 ((rd_T31 l0 x18_1).f10), .int .i64 0, .int .i64 0]) ?_ 11 _ rfl; (with_reducible repeat (first | refine blk_drewN ?_ _ | refine blk_drew ?_ | refine blk_alloc ?_ _)); refine blk_put (cs := #[.int .i64 ((rd_T31 l0 x18_1).f0), .int .i64 ((rd_T31 l0 x18_1).f1), .int .i64 ((rd_T31 l0 x18_1).f2), .int .i64 ((rd_T31 l0 x18_1).f3), .int .i64 ((rd_T31 l0 x18_1).f4), .int .i64 ((rd_T31 l0 x18_1).f5), .bool ((rd_T31 l0 x18_1).f6), .int .i64 ((rd_T31 l0 x18_1).f7), .int .i64 ((rd_T31 l0 x18_1).f8), .int .i64 ((rd_T31 l0 x18_1).f9), .int .i64 0, .int .i64 0, .int .i64 0]) ?_ 10 _ rfl; (with_reducible repeat (first | refine blk_drewN ?_ _ | refine blk_drew ?_ | refine blk_alloc ?_ _)); refine blk_put (cs := #[.int .i64 ((rd_T31 l0 x18_1).f0), .int .i64 ((rd_T31 l0 x18_1).f1), .int .i64 ((rd_T31 l0 x18_1).f2), .int .i64 ((rd_T31 l0 x18_1).f3), .int .i64 ((rd_T31 l0 x18_1).f4), .int .i64 ((rd_T31 l0 x18_1).f5), .bool ((rd_T31 l0 x18_1).f6), .int .i64 ((rd_T31 l0 x18_1).f7), .int .i64 ((rd_T31 l0 x18_1).f8), .int .i64 0, .int .i64 0, .int .i64 0, .int .i64 0]) ?_ 9 _ rfl; (with_reducible repeat (first | refine blk_drewN ?_ _ | refine blk_drew ?_ | refine blk_alloc ?_ _)); refine blk_put (cs := #[.int .i64 ((rd_T31 l0 x18_1).f0), .int .i64 ((rd_T31 l0 x18_1).f1), .int .i64 ((rd_T31 l0 x18_1).f2), .int .i64 ((rd_T31 l0 x18_1).f3), .int .i64 ((rd_T31 l0 x18_1).f4), .int .i64 ((rd_T31 l0 x18_1).f5), .bool ((rd_T31 l0 x18_1).f6), .int .i64 ((rd_T31 l0 x18_1).f7), .int .i64 0, .int .i64 0, .int .i64 0, .int .i64 0, .int .i64 0]) ?_ 8 _ rfl; (with_reducible repeat (first | refine blk_drewN ?_ _ | refine blk_drew ?_ | refine blk_alloc ?_ _)); refine blk_put (cs := #[.int .i64 ((rd_T31 l0 x18_1).f0), .int .i64 ((rd_T31 l0 x18_1).f1), .int .i64 ((rd_T31 l0 x18_1).f2), .int .i64 ((rd_T31 l0 x18_1).f3), .int .i64 ((rd_T31 l0 x18_1).f4), .int .i64 ((rd_T31 l0 x18_1).f5), .bool ((rd_T31 l0 x18_1).f6), .int .i64 0, .int .i64 0, .int .i64 0, .int .i64 0, .int .i64 0, .int .i64 0]) ?_ 7 _ rfl; (with_reducible repeat (first | refine blk_drewN ?_ _ | refine blk_drew ?_ | refine blk_alloc ?_ _)); refine blk_put (cs := #[.int .i64 ((rd_T31 l0 x18_1).f0), .int .i64 ((rd_T31 l0 x18_1).f1), .int .i64 ((rd_T31 l0 x18_1).f2), .int .i64 ((rd_T31 l0 x18_1).f3), .int .i64 ((rd_T31 l0 x18_1).f4), .int .i64 ((rd_T31 l0 x18_1).f5), .bool false, .int .i64 0, .int .i64 0, .int .i64 0, .int .i64 0, .int .i64 0, .int .i64 0]) ?_ 6 _ rfl; (with_reducible repeat (first | refine blk_drewN ?_ _ | refine blk_drew ?_ | refine blk_alloc ?_ _)); refine blk_put (cs := #[.int .i64 ((rd_T31 l0 x18_1).f0), .int .i64 ((rd_T31 l0 x18_1).f1), .int .i64 ((rd_T31 l0 x18_1).f2), .int .i64 ((rd_T31 l0 x18_1).f3), .int .i64 ((rd_T31 l0 x18_1).f4), .int .i64 0, .bool false, .int .i64 0, .int .i64 0, .int .i64 0, .int .i64 0, .int .i64 0, .int .i64 0]) ?_ 5 _ rfl; (with_reducible repeat (first | refine blk_drewN ?_ _ | refine blk_drew ?_ | refine blk_alloc ?_ _)); refine blk_put (cs := #[.int .i64 ((rd_T31 l0 x18_1).f0), .int .i64 ((rd_T31 l0 x18_1).f1), .int .i64 ((rd_T31 l0 x18_1).f2), .int .i64 ((rd_T31 l0 x18_1).f3), .int .i64 0, .int .i64 0, .bool false, .int .i64 0, .int .i64 0, .int .i64 0, .int .i64 0, .int .i64 0, .int .i64 0]) ?_ 4 _ rfl; (with_reducible repeat (first | refine blk_drewN ?_ _ | refine blk_drew ?_ | refine blk_alloc ?_ _)); refine blk_put (cs := #[.int .i64 ((rd_T31 l0 x18_1).f0), .int .i64 ((rd_T31 l0 x18_1).f1), .int .i64 ((rd_T31 l0 x18_1).f2), .int .i64 0, .int .i64 0, .int .i64 0, .bool false, .int .i64 0, .int .i64 0, .int .i64 0, .int .i64 0, .int .i64 0, .int .i64 0]) ?_ 3 _ rfl; (with_reducible repeat (first | refine blk_drewN ?_ _ | refine blk_drew ?_ | refine blk_alloc ?_ _)); refine blk_put (cs := #[.int .i64 ((rd_T31 l0 x18_1).f0), .int .i64 ((rd_T31 l0 x18_1).f1), .int .i64 0, .int .i64 0, .int .i64 0, .int .i64 0, .bool false, .int .i64 0, .int .i64 0, .int .i64 0, .int .i64 0, .int .i64 0, .int .i64 0]) ?_ 2 _ rfl; (with_reducible repeat (first | refine blk_drewN ?_ _ | refine blk_drew ?_ | refine blk_alloc ?_ _)); refine blk_put (cs := #[.int .i64 ((rd_T31 l0 x18_1).f0), .int .i64 0, .int .i64 0, .int .i64 0, .int .i64 0, .int .i64 0, .bool false, .int .i64 0, .int .i64 0, .int .i64 0, .int .i64 0, .int .i64 0, .int .i64 0]) ?_ 1 _ rfl; (with_reducible repeat (first | refine blk_drewN ?_ _ | refine blk_drew ?_ | refine blk_alloc ?_ _)); refine blk_put (cs := #[.int .i64 0, .int .i64 0, .int .i64 0, .int .i64 0, .int .i64 0, .int .i64 0, .bool false, .int .i64 0, .int .i64 0, .int .i64 0, .int .i64 0, .int .i64 0, .int .i64 0]) ?_ 0 _ rfl; (with_reducible repeat (first | refine blk_drewN ?_ _ | refine blk_drew ?_ | refine blk_alloc ?_ _)); exact BK119.out) hb); have n2_ := Aside0.mk (below_step (by exact h1q HB.out GE119.out) hb); clear HO_2; clear BK119; clear HB; have HO_2 := n0_; have BK119 := n1_; have HB := n2_; clear n0_ n1_ n2_; (try clear hb); (try clear hb2); (try clear hk); (try clear hi); obtain ⟨hcz21_0, hcz21_1, hcz21_2, hcz21_3, hcz21_4, hcz21_5, hcz21_6, hcz21_7, hcz21_8, hcz21_9, hcz21_10, hcz21_11, hcz21_12, hfz21_0, hfz21_1, hfz21_2, hfz21_3, hfz21_4, hfz21_5, hfz21_6, hfz21_7, hfz21_8, hfz21_9, hfz21_10, hfz21_11, hfz21_12⟩ := lc13 BK119.out))
   go_ret3
   exact ⟨_, by first | rfl | (simp [errW_none, errW_some] <;> rfl) | (simp [*, errW_none, errW_some] <;> rfl), by first | exact Kd.R_nil _ _ _ _ _ | exact Kd.N_nil _ _ _ _ _ | exact Kd.V_nil _ _ _ _ _ | exact Kd.Q_nil _ _ _ _ _ | exact Kd.S_nil _ _ _ _ _, by exact h1q HB.out GE119.out⟩
  rw [if_pos c8] at H
  have c8b0 : (((rd_T31 l0 x18_1).f8) == 0) = true := beq_iff_eq.mpr c8
  have c8b1 : (((rd_T31 l0 x18_1).f8) != 0) = false := bne_eq_false_iff_eq.mpr c8
  clear c8
  by_cases c9 : ((rd_T31 l0 x18_1).f12) > 1000000
  case neg =>
   rw [if_neg c9] at H
   have c9b0 : decide (1000000 < ((rd_T31 l0 x18_1).f12)) = false := decide_eq_false c9
   clear c9
   have H' := Aside0.mk H
   clear H
   have p118 : 0 ≤ (x18_1 : Int) := yd
   have q118 : x18_1 < (l0.length : Int) := yd
   obtain ⟨ad118, e118, hx118_0, hx118_1, hx118_2, hx118_3, hx118_4, hx118_5, hx118_6, hx118_7, hx118_8, hx118_9, hx118_10, hx118_11, hx118_12⟩ := at_T31 HR0.out x18_1 p118 q118
   cases e118
   replace hx118_0 := hxb HB.out hx118_0
   replace hx118_1 := hxb HB.out hx118_1
   replace hx118_2 := hxb HB.out hx118_2
   replace hx118_3 := hxb HB.out hx118_3
   replace hx118_4 := hxb HB.out hx118_4
   replace hx118_5 := hxb HB.out hx118_5
   replace hx118_6 := hxb HB.out hx118_6
   replace hx118_7 := hxb HB.out hx118_7
   replace hx118_8 := hxb HB.out hx118_8
   replace hx118_9 := hxb HB.out hx118_9
   replace hx118_10 := hxb HB.out hx118_10
   replace hx118_11 := hxb HB.out hx118_11
   replace hx118_12 := hxb HB.out hx118_12
   replace p118 := eq_true p118
   replace q118 := eq_true q118
   go_wp2_with (first | ((with_reducible refine gate_dst (N := 6) rfl ?_); refine box_event ?hg (N := 6) ?hd (cs := #[.int .i64 0, .int .i64 0, .int .i64 0, .int .i64 0, .int .i64 0, .int .i64 0, .bool false, .int .i64 0, .int .i64 0, .int .i64 0, .int .i64 0, .int .i64 0, .int .i64 0]) (t := 31) ?hr ?_; (case hd => rfl); (case hg => rfl); (case hr => first | (go_simp; done) | (go_simp; rfl)); intro gb119 hg w14 hbox hb; have n0_ := Aside0.mk (Kd.R_below (by exact rq HO_2.out) hb); have n1_ := Aside0.mk (below_step (by exact h0q HB.out) hb); have n2_ := Aside0.mk (hbox); have n3_ := Aside0.mk ((by rw [hg]; exact (below_size (by exact h0q HB.out)) : w.heap.size ≤ gb119)); have n4_ := Aside0.mk ((by rw [hg]; exact (below_size (by exact h0q HB.out)) : w.heap.size ≤ gb119)); clear HO_2; clear HB; have HO_2 := n0_; have HB := n1_; have BK119 := n2_; have GW119 := n3_; have GE119 := n4_; clear n0_ n1_ n2_ n3_ n4_; clear hb hbox hg; obtain ⟨hcz15_0, hcz15_1, hcz15_2, hcz15_3, hcz15_4, hcz15_5, hcz15_6, hcz15_7, hcz15_8, hcz15_9, hcz15_10, hcz15_11, hcz15_12, hfz15_0, hfz15_1, hfz15_2, hfz15_3, hfz15_4, hfz15_5, hfz15_6, hfz15_7, hfz15_8, hfz15_9, hfz15_10, hfz15_11, hfz15_12⟩ := lc13 BK119.out) | ((with_reducible refine gate_callee (f := 37) rfl ?_); refine goesL_ (some 23) rfl rfl Try.func37 (by kernel_rfl) rfl #[.agg #[.int .i64 ((rd_T31 l0 x18_1).f0), .int .i64 ((rd_T31 l0 x18_1).f1), .int .i64 ((rd_T31 l0 x18_1).f2), .int .i64 ((rd_T31 l0 x18_1).f3), .int .i64 ((rd_T31 l0 x18_1).f4), .int .i64 ((rd_T31 l0 x18_1).f5), .bool ((rd_T31 l0 x18_1).f6), .int .i64 ((rd_T31 l0 x18_1).f7), .int .i64 ((rd_T31 l0 x18_1).f8), .int .i64 ((rd_T31 l0 x18_1).f9), .int .i64 ((rd_T31 l0 x18_1).f10), .int .i64 ((rd_T31 l0 x18_1).f11), .int .i64 ((rd_T31 l0 x18_1).f12)]] rfl (by (try simp only [List.map_toArray, List.map_cons, List.map_nil]); first | done | rfl | (simp only [List.length_drop, List.length_take]; rfl)) ?_; (with_reducible refine (loan_Good.calls k1 ((rd_T31 l0 x18_1).f0) ((rd_T31 l0 x18_1).f1) ((rd_T31 l0 x18_1).f2) ((rd_T31 l0 x18_1).f3) ((rd_T31 l0 x18_1).f4) ((rd_T31 l0 x18_1).f5) ((rd_T31 l0 x18_1).f6) ((rd_T31 l0 x18_1).f7) ((rd_T31 l0 x18_1).f8) ((rd_T31 l0 x18_1).f9) ((rd_T31 l0 x18_1).f10) ((rd_T31 l0 x18_1).f11) ((rd_T31 l0 x18_1).f12) true _ A6.out).mono ?_); rintro e w16 ⟨rfl, hb⟩; refine ⟨_, rfl, ?_⟩; have n0_ := Aside0.mk (Kd.R_below (by (with_reducible repeat (first | apply Kd.R_alloc | apply Kd.R_drewN | apply Kd.R_drew)); exact (Kd.R_mono (Kd.R_far (p := ⟨gb119, 12, none⟩) (Kd.R_far (p := ⟨gb119, 11, none⟩) (Kd.R_far (p := ⟨gb119, 10, none⟩) (Kd.R_far (p := ⟨gb119, 9, none⟩) (Kd.R_far (p := ⟨gb119, 8, none⟩) (Kd.R_far (p := ⟨gb119, 7, none⟩) (Kd.R_far (p := ⟨gb119, 6, none⟩) (Kd.R_far (p := ⟨gb119, 5, none⟩) (Kd.R_far (p := ⟨gb119, 4, none⟩) (Kd.R_far (p := ⟨gb119, 3, none⟩) (Kd.R_far (p := ⟨gb119, 2, none⟩) (Kd.R_far (p := ⟨gb119, 1, none⟩) (Kd.R_far (p := ⟨gb119, 0, none⟩) (Kd.R_types HO_2.out BK119.out (by decide)) (fun _ hk => hk.2) (.int .i64 ((rd_T31 l0 x18_1).f0))) (fun _ hk => hk.2) (.int .i64 ((rd_T31 l0 x18_1).f1))) (fun _ hk => hk.2) (.int .i64 ((rd_T31 l0 x18_1).f2))) (fun _ hk => hk.2) (.int .i64 ((rd_T31 l0 x18_1).f3))) (fun _ hk => hk.2) (.int .i64 ((rd_T31 l0 x18_1).f4))) (fun _ hk => hk.2) (.int .i64 ((rd_T31 l0 x18_1).f5))) (fun _ hk => hk.2) (.bool ((rd_T31 l0 x18_1).f6))) (fun _ hk => hk.2) (.int .i64 ((rd_T31 l0 x18_1).f7))) (fun _ hk => hk.2) (.int .i64 ((rd_T31 l0 x18_1).f8))) (fun _ hk => hk.2) (.int .i64 ((rd_T31 l0 x18_1).f9))) (fun _ hk => hk.2) (.int .i64 ((rd_T31 l0 x18_1).f10))) (fun _ hk => hk.2) (.int .i64 ((rd_T31 l0 x18_1).f11))) (fun _ hk => hk.2) (.int .i64 ((rd_T31 l0 x18_1).f12))) (fun _ h_ => h_.1))) hb); have n1_ := Aside0.mk (blk_below (g := gb119) (o := .cells #[.int .i64 ((rd_T31 l0 x18_1).f0), .int .i64 ((rd_T31 l0 x18_1).f1), .int .i64 ((rd_T31 l0 x18_1).f2), .int .i64 ((rd_T31 l0 x18_1).f3), .int .i64 ((rd_T31 l0 x18_1).f4), .int .i64 ((rd_T31 l0 x18_1).f5), .bool ((rd_T31 l0 x18_1).f6), .int .i64 ((rd_T31 l0 x18_1).f7), .int .i64 ((rd_T31 l0 x18_1).f8), .int .i64 ((rd_T31 l0 x18_1).f9), .int .i64 ((rd_T31 l0 x18_1).f10), .int .i64 ((rd_T31 l0 x18_1).f11), .int .i64 ((rd_T31 l0 x18_1).f12)] 31 (0, 0)) (by (with_reducible repeat (first | refine blk_drewN ?_ _ | refine blk_drew ?_ | refine blk_alloc ?_ _)); refine blk_put (cs := #[.int .i64 ((rd_T31 l0 x18_1).f0), .int .i64 ((rd_T31 l0 x18_1).f1), .int .i64 ((rd_T31 l0 x18_1).f2), .int .i64 ((rd_T31 l0 x18_1).f3), .int .i64 ((rd_T31 l0 x18_1).f4), .int .i64 ((rd_T31 l0 x18_1).f5), .bool ((rd_T31 l0 x18_1).f6), .int .i64 ((rd_T31 l0 x18_1).f7), .int .i64 ((rd_T31 l0 x18_1).f8), .int .i64 ((rd_T31 l0 x18_1).f9), .int .i64 ((rd_T31 l0 x18_1).f10), .int .i64 ((rd_T31 l0 x18_1).f11), .int .i64 0]) ?_ 12 _ rfl; (with_reducible repeat (first | refine blk_drewN ?_ _ | refine blk_drew ?_ | refine blk_alloc ?_ _)); refine blk_put (cs := #[.int .i64 ((rd_T31 l0 x18_1).f0), .int .i64 ((rd_T31 l0 x18_1).f1), .int .i64 ((rd_T31 l0 x18_1).f2), .int .i64 ((rd_T31 l0 x18_1).f3), .int .i64 ((rd_T31 l0 x18_1).f4), .int .i64 ((rd_T31 l0 x18_1).f5), .bool ((rd_T31 l0 x18_1).f6), .int .i64 ((rd_T31 l0 x18_1).f7), .int .i64 ((rd_T31 l0 x18_1).f8), .int .i64 ((rd_T31 l0 x18_1).f9), .int .i64 ((rd_T31 l0 x18_1).f10), .int .i64 0, .int .i64 0]) ?_ 11 _ rfl; (with_reducible repeat (first | refine blk_drewN ?_ _ | refine blk_drew ?_ | refine blk_alloc ?_ _)); refine blk_put (cs := #[.int .i64 ((rd_T31 l0 x18_1).f0), .int .i64 ((rd_T31 l0 x18_1).f1), .int .i64 ((rd_T31 l0 x18_1).f2), .int .i64 ((rd_T31 l0 x18_1).f3), .int .i64 ((rd_T31 l0 x18_1).f4), .int .i64 ((rd_T31 l0 x18_1).f5), .bool ((rd_T31 l0 x18_1).f6), .int .i64 ((rd_T31 l0 x18_1).f7), .int .i64 ((rd_T31 l0 x18_1).f8), .int .i64 ((rd_T31 l0 x18_1).f9), .int .i64 0, .int .i64 0, .int .i64 0]) ?_ 10 _ rfl; (with_reducible repeat (first | refine blk_drewN ?_ _ | refine blk_drew ?_ | refine blk_alloc ?_ _)); refine blk_put (cs := #[.int .i64 ((rd_T31 l0 x18_1).f0), .int .i64 ((rd_T31 l0 x18_1).f1), .int .i64 ((rd_T31 l0 x18_1).f2), .int .i64 ((rd_T31 l0 x18_1).f3), .int .i64 ((rd_T31 l0 x18_1).f4), .int .i64 ((rd_T31 l0 x18_1).f5), .bool ((rd_T31 l0 x18_1).f6), .int .i64 ((rd_T31 l0 x18_1).f7), .int .i64 ((rd_T31 l0 x18_1).f8), .int .i64 0, .int .i64 0, .int .i64 0, .int .i64 0]) ?_ 9 _ rfl; (with_reducible repeat (first | refine blk_drewN ?_ _ | refine blk_drew ?_ | refine blk_alloc ?_ _)); refine blk_put (cs := #[.int .i64 ((rd_T31 l0 x18_1).f0), .int .i64 ((rd_T31 l0 x18_1).f1), .int .i64 ((rd_T31 l0 x18_1).f2), .int .i64 ((rd_T31 l0 x18_1).f3), .int .i64 ((rd_T31 l0 x18_1).f4), .int .i64 ((rd_T31 l0 x18_1).f5), .bool ((rd_T31 l0 x18_1).f6), .int .i64 ((rd_T31 l0 x18_1).f7), .int .i64 0, .int .i64 0, .int .i64 0, .int .i64 0, .int .i64 0]) ?_ 8 _ rfl; (with_reducible repeat (first | refine blk_drewN ?_ _ | refine blk_drew ?_ | refine blk_alloc ?_ _)); refine blk_put (cs := #[.int .i64 ((rd_T31 l0 x18_1).f0), .int .i64 ((rd_T31 l0 x18_1).f1), .int .i64 ((rd_T31 l0 x18_1).f2), .int .i64 ((rd_T31 l0 x18_1).f3), .int .i64 ((rd_T31 l0 x18_1).f4), .int .i64 ((rd_T31 l0 x18_1).f5), .bool ((rd_T31 l0 x18_1).f6), .int .i64 0, .int .i64 0, .int .i64 0, .int .i64 0, .int .i64 0, .int .i64 0]) ?_ 7 _ rfl; (with_reducible repeat (first | refine blk_drewN ?_ _ | refine blk_drew ?_ | refine blk_alloc ?_ _)); refine blk_put (cs := #[.int .i64 ((rd_T31 l0 x18_1).f0), .int .i64 ((rd_T31 l0 x18_1).f1), .int .i64 ((rd_T31 l0 x18_1).f2), .int .i64 ((rd_T31 l0 x18_1).f3), .int .i64 ((rd_T31 l0 x18_1).f4), .int .i64 ((rd_T31 l0 x18_1).f5), .bool false, .int .i64 0, .int .i64 0, .int .i64 0, .int .i64 0, .int .i64 0, .int .i64 0]) ?_ 6 _ rfl; (with_reducible repeat (first | refine blk_drewN ?_ _ | refine blk_drew ?_ | refine blk_alloc ?_ _)); refine blk_put (cs := #[.int .i64 ((rd_T31 l0 x18_1).f0), .int .i64 ((rd_T31 l0 x18_1).f1), .int .i64 ((rd_T31 l0 x18_1).f2), .int .i64 ((rd_T31 l0 x18_1).f3), .int .i64 ((rd_T31 l0 x18_1).f4), .int .i64 0, .bool false, .int .i64 0, .int .i64 0, .int .i64 0, .int .i64 0, .int .i64 0, .int .i64 0]) ?_ 5 _ rfl; (with_reducible repeat (first | refine blk_drewN ?_ _ | refine blk_drew ?_ | refine blk_alloc ?_ _)); refine blk_put (cs := #[.int .i64 ((rd_T31 l0 x18_1).f0), .int .i64 ((rd_T31 l0 x18_1).f1), .int .i64 ((rd_T31 l0 x18_1).f2), .int .i64 ((rd_T31 l0 x18_1).f3), .int .i64 0, .int .i64 0, .bool false, .int .i64 0, .int .i64 0, .int .i64 0, .int .i64 0, .int .i64 0, .int .i64 0]) ?_ 4 _ rfl; (with_reducible repeat (first | refine blk_drewN ?_ _ | refine blk_drew ?_ | refine blk_alloc ?_ _)); refine blk_put (cs := #[.int .i64 ((rd_T31 l0 x18_1).f0), .int .i64 ((rd_T31 l0 x18_1).f1), .int .i64 ((rd_T31 l0 x18_1).f2), .int .i64 0, .int .i64 0, .int .i64 0, .bool false, .int .i64 0, .int .i64 0, .int .i64 0, .int .i64 0, .int .i64 0, .int .i64 0]) ?_ 3 _ rfl; (with_reducible repeat (first | refine blk_drewN ?_ _ | refine blk_drew ?_ | refine blk_alloc ?_ _)); refine blk_put (cs := #[.int .i64 ((rd_T31 l0 x18_1).f0), .int .i64 ((rd_T31 l0 x18_1).f1), .int .i64 0, .int .i64 0, .int .i64 0, .int .i64 0, .bool false, .int .i64 0, .int .i64 0, .int .i64 0, .int .i64 0, .int .i64 0, .int .i64 0]) ?_ 2 _ rfl; (with_reducible repeat (first | refine blk_drewN ?_ _ | refine blk_drew ?_ | refine blk_alloc ?_ _)); refine blk_put (cs := #[.int .i64 ((rd_T31 l0 x18_1).f0), .int .i64 0, .int .i64 0, .int .i64 0, .int .i64 0, .int .i64 0, .bool false, .int .i64 0, .int .i64 0, .int .i64 0, .int .i64 0, .int .i64 0, .int .i64 0]) ?_ 1 _ rfl; (with_reducible repeat (first | refine blk_drewN ?_ _ | refine blk_drew ?_ | refine blk_alloc ?_ _)); refine blk_put (cs := #[.int .i64 0, .int .i64 0, .int .i64 0, .int .i64 0, .int .i64 0, .int .i64 0, .bool false, .int .i64 0, .int .i64 0, .int .i64 0, .int .i64 0, .int .i64 0, .int .i64 0]) ?_ 0 _ rfl; (with_reducible repeat (first | refine blk_drewN ?_ _ | refine blk_drew ?_ | refine blk_alloc ?_ _)); exact BK119.out) hb); have n2_ := Aside0.mk (below_step (by exact h1q HB.out GE119.out) hb); clear HO_2; clear BK119; clear HB; have HO_2 := n0_; have BK119 := n1_; have HB := n2_; clear n0_ n1_ n2_; (try clear hb); (try clear hb2); (try clear hk); (try clear hi); obtain ⟨hcz17_0, hcz17_1, hcz17_2, hcz17_3, hcz17_4, hcz17_5, hcz17_6, hcz17_7, hcz17_8, hcz17_9, hcz17_10, hcz17_11, hcz17_12, hfz17_0, hfz17_1, hfz17_2, hfz17_3, hfz17_4, hfz17_5, hfz17_6, hfz17_7, hfz17_8, hfz17_9, hfz17_10, hfz17_11, hfz17_12⟩ := lc13 BK119.out))
   go_roundg k1
   case measure => have := HK1.out; omega
   case rel => exact ⟨(x2_1), (wrap64 (x18_1 + 1)), (by first | rfl | (simp; done) | (simp [*]; done)), H', ⟨by have := HK1.out; omega⟩, ⟨by exact rq HO_2.out⟩, ⟨by exact h1q HB.out GE119.out⟩⟩
  rw [if_pos c9] at H
  have c9b0 : decide (1000000 < ((rd_T31 l0 x18_1).f12)) = true := decide_eq_true c9
  clear c9
  simp only [Option.some.injEq, Prod.mk.injEq] at H
  obtain ⟨rfl, rfl, rfl⟩ := H
  have p118 : 0 ≤ (x18_1 : Int) := yd
  have q118 : x18_1 < (l0.length : Int) := yd
  obtain ⟨ad118, e118, hx118_0, hx118_1, hx118_2, hx118_3, hx118_4, hx118_5, hx118_6, hx118_7, hx118_8, hx118_9, hx118_10, hx118_11, hx118_12⟩ := at_T31 HR0.out x18_1 p118 q118
  cases e118
  replace hx118_0 := hxb HB.out hx118_0
  replace hx118_1 := hxb HB.out hx118_1
  replace hx118_2 := hxb HB.out hx118_2
  replace hx118_3 := hxb HB.out hx118_3
  replace hx118_4 := hxb HB.out hx118_4
  replace hx118_5 := hxb HB.out hx118_5
  replace hx118_6 := hxb HB.out hx118_6
  replace hx118_7 := hxb HB.out hx118_7
  replace hx118_8 := hxb HB.out hx118_8
  replace hx118_9 := hxb HB.out hx118_9
  replace hx118_10 := hxb HB.out hx118_10
  replace hx118_11 := hxb HB.out hx118_11
  replace hx118_12 := hxb HB.out hx118_12
  replace p118 := eq_true p118
  replace q118 := eq_true q118
  go_wp2_with (first | ((with_reducible refine gate_dst (N := 6) rfl ?_); refine box_event ?hg (N := 6) ?hd (cs := #[.int .i64 0, .int .i64 0, .int .i64 0, .int .i64 0, .int .i64 0, .int .i64 0, .bool false, .int .i64 0, .int .i64 0, .int .i64 0, .int .i64 0, .int .i64 0, .int .i64 0]) (t := 31) ?hr ?_; (case hd => rfl); (case hg => rfl); (case hr => first | (go_simp; done) | (go_simp; rfl)); intro gb119 hg w10 hbox hb; have n0_ := Aside0.mk (Kd.R_below (by exact rq HO_2.out) hb); have n1_ := Aside0.mk (below_step (by exact h0q HB.out) hb); have n2_ := Aside0.mk (hbox); have n3_ := Aside0.mk ((by rw [hg]; exact (below_size (by exact h0q HB.out)) : w.heap.size ≤ gb119)); have n4_ := Aside0.mk ((by rw [hg]; exact (below_size (by exact h0q HB.out)) : w.heap.size ≤ gb119)); clear HO_2; clear HB; have HO_2 := n0_; have HB := n1_; have BK119 := n2_; have GW119 := n3_; have GE119 := n4_; clear n0_ n1_ n2_ n3_ n4_; clear hb hbox hg; obtain ⟨hcz11_0, hcz11_1, hcz11_2, hcz11_3, hcz11_4, hcz11_5, hcz11_6, hcz11_7, hcz11_8, hcz11_9, hcz11_10, hcz11_11, hcz11_12, hfz11_0, hfz11_1, hfz11_2, hfz11_3, hfz11_4, hfz11_5, hfz11_6, hfz11_7, hfz11_8, hfz11_9, hfz11_10, hfz11_11, hfz11_12⟩ := lc13 BK119.out) | ((with_reducible refine gate_callee (f := 37) rfl ?_); refine goesL_ (some 23) rfl rfl Try.func37 (by kernel_rfl) rfl #[.agg #[.int .i64 ((rd_T31 l0 x18_1).f0), .int .i64 ((rd_T31 l0 x18_1).f1), .int .i64 ((rd_T31 l0 x18_1).f2), .int .i64 ((rd_T31 l0 x18_1).f3), .int .i64 ((rd_T31 l0 x18_1).f4), .int .i64 ((rd_T31 l0 x18_1).f5), .bool ((rd_T31 l0 x18_1).f6), .int .i64 ((rd_T31 l0 x18_1).f7), .int .i64 ((rd_T31 l0 x18_1).f8), .int .i64 ((rd_T31 l0 x18_1).f9), .int .i64 ((rd_T31 l0 x18_1).f10), .int .i64 ((rd_T31 l0 x18_1).f11), .int .i64 ((rd_T31 l0 x18_1).f12)]] rfl (by (try simp only [List.map_toArray, List.map_cons, List.map_nil]); first | done | rfl | (simp only [List.length_drop, List.length_take]; rfl)) ?_; (with_reducible refine (loan_Good.calls k1 ((rd_T31 l0 x18_1).f0) ((rd_T31 l0 x18_1).f1) ((rd_T31 l0 x18_1).f2) ((rd_T31 l0 x18_1).f3) ((rd_T31 l0 x18_1).f4) ((rd_T31 l0 x18_1).f5) ((rd_T31 l0 x18_1).f6) ((rd_T31 l0 x18_1).f7) ((rd_T31 l0 x18_1).f8) ((rd_T31 l0 x18_1).f9) ((rd_T31 l0 x18_1).f10) ((rd_T31 l0 x18_1).f11) ((rd_T31 l0 x18_1).f12) true _ A6.out).mono ?_); rintro e w12 ⟨rfl, hb⟩; refine ⟨_, rfl, ?_⟩; have n0_ := Aside0.mk (Kd.R_below (by (with_reducible repeat (first | apply Kd.R_alloc | apply Kd.R_drewN | apply Kd.R_drew)); exact (Kd.R_mono (Kd.R_far (p := ⟨gb119, 12, none⟩) (Kd.R_far (p := ⟨gb119, 11, none⟩) (Kd.R_far (p := ⟨gb119, 10, none⟩) (Kd.R_far (p := ⟨gb119, 9, none⟩) (Kd.R_far (p := ⟨gb119, 8, none⟩) (Kd.R_far (p := ⟨gb119, 7, none⟩) (Kd.R_far (p := ⟨gb119, 6, none⟩) (Kd.R_far (p := ⟨gb119, 5, none⟩) (Kd.R_far (p := ⟨gb119, 4, none⟩) (Kd.R_far (p := ⟨gb119, 3, none⟩) (Kd.R_far (p := ⟨gb119, 2, none⟩) (Kd.R_far (p := ⟨gb119, 1, none⟩) (Kd.R_far (p := ⟨gb119, 0, none⟩) (Kd.R_types HO_2.out BK119.out (by decide)) (fun _ hk => hk.2) (.int .i64 ((rd_T31 l0 x18_1).f0))) (fun _ hk => hk.2) (.int .i64 ((rd_T31 l0 x18_1).f1))) (fun _ hk => hk.2) (.int .i64 ((rd_T31 l0 x18_1).f2))) (fun _ hk => hk.2) (.int .i64 ((rd_T31 l0 x18_1).f3))) (fun _ hk => hk.2) (.int .i64 ((rd_T31 l0 x18_1).f4))) (fun _ hk => hk.2) (.int .i64 ((rd_T31 l0 x18_1).f5))) (fun _ hk => hk.2) (.bool ((rd_T31 l0 x18_1).f6))) (fun _ hk => hk.2) (.int .i64 ((rd_T31 l0 x18_1).f7))) (fun _ hk => hk.2) (.int .i64 ((rd_T31 l0 x18_1).f8))) (fun _ hk => hk.2) (.int .i64 ((rd_T31 l0 x18_1).f9))) (fun _ hk => hk.2) (.int .i64 ((rd_T31 l0 x18_1).f10))) (fun _ hk => hk.2) (.int .i64 ((rd_T31 l0 x18_1).f11))) (fun _ hk => hk.2) (.int .i64 ((rd_T31 l0 x18_1).f12))) (fun _ h_ => h_.1))) hb); have n1_ := Aside0.mk (blk_below (g := gb119) (o := .cells #[.int .i64 ((rd_T31 l0 x18_1).f0), .int .i64 ((rd_T31 l0 x18_1).f1), .int .i64 ((rd_T31 l0 x18_1).f2), .int .i64 ((rd_T31 l0 x18_1).f3), .int .i64 ((rd_T31 l0 x18_1).f4), .int .i64 ((rd_T31 l0 x18_1).f5), .bool ((rd_T31 l0 x18_1).f6), .int .i64 ((rd_T31 l0 x18_1).f7), .int .i64 ((rd_T31 l0 x18_1).f8), .int .i64 ((rd_T31 l0 x18_1).f9), .int .i64 ((rd_T31 l0 x18_1).f10), .int .i64 ((rd_T31 l0 x18_1).f11), .int .i64 ((rd_T31 l0 x18_1).f12)] 31 (0, 0)) (by (with_reducible repeat (first | refine blk_drewN ?_ _ | refine blk_drew ?_ | refine blk_alloc ?_ _)); refine blk_put (cs := #[.int .i64 ((rd_T31 l0 x18_1).f0), .int .i64 ((rd_T31 l0 x18_1).f1), .int .i64 ((rd_T31 l0 x18_1).f2), .int .i64 ((rd_T31 l0 x18_1).f3), .int .i64 ((rd_T31 l0 x18_1).f4), .int .i64 ((rd_T31 l0 x18_1).f5), .bool ((rd_T31 l0 x18_1).f6), .int .i64 ((rd_T31 l0 x18_1).f7), .int .i64 ((rd_T31 l0 x18_1).f8), .int .i64 ((rd_T31 l0 x18_1).f9), .int .i64 ((rd_T31 l0 x18_1).f10), .int .i64 ((rd_T31 l0 x18_1).f11), .int .i64 0]) ?_ 12 _ rfl; (with_reducible repeat (first | refine blk_drewN ?_ _ | refine blk_drew ?_ | refine blk_alloc ?_ _)); refine blk_put (cs := #[.int .i64 ((rd_T31 l0 x18_1).f0), .int .i64 ((rd_T31 l0 x18_1).f1), .int .i64 ((rd_T31 l0 x18_1).f2), .int .i64 ((rd_T31 l0 x18_1).f3), .int .i64 ((rd_T31 l0 x18_1).f4), .int .i64 ((rd_T31 l0 x18_1).f5), .bool ((rd_T31 l0 x18_1).f6), .int .i64 ((rd_T31 l0 x18_1).f7), .int .i64 ((rd_T31 l0 x18_1).f8), .int .i64 ((rd_T31 l0 x18_1).f9), .int .i64 ((rd_T31 l0 x18_1).f10), .int .i64 0, .int .i64 0]) ?_ 11 _ rfl; (with_reducible repeat (first | refine blk_drewN ?_ _ | refine blk_drew ?_ | refine blk_alloc ?_ _)); refine blk_put (cs := #[.int .i64 ((rd_T31 l0 x18_1).f0), .int .i64 ((rd_T31 l0 x18_1).f1), .int .i64 ((rd_T31 l0 x18_1).f2), .int .i64 ((rd_T31 l0 x18_1).f3), .int .i64 ((rd_T31 l0 x18_1).f4), .int .i64 ((rd_T31 l0 x18_1).f5), .bool ((rd_T31 l0 x18_1).f6), .int .i64 ((rd_T31 l0 x18_1).f7), .int .i64 ((rd_T31 l0 x18_1).f8), .int .i64 ((rd_T31 l0 x18_1).f9), .int .i64 0, .int .i64 0, .int .i64 0]) ?_ 10 _ rfl; (with_reducible repeat (first | refine blk_drewN ?_ _ | refine blk_drew ?_ | refine blk_alloc ?_ _)); refine blk_put (cs := #[.int .i64 ((rd_T31 l0 x18_1).f0), .int .i64 ((rd_T31 l0 x18_1).f1), .int .i64 ((rd_T31 l0 x18_1).f2), .int .i64 ((rd_T31 l0 x18_1).f3), .int .i64 ((rd_T31 l0 x18_1).f4), .int .i64 ((rd_T31 l0 x18_1).f5), .bool ((rd_T31 l0 x18_1).f6), .int .i64 ((rd_T31 l0 x18_1).f7), .int .i64 ((rd_T31 l0 x18_1).f8), .int .i64 0, .int .i64 0, .int .i64 0, .int .i64 0]) ?_ 9 _ rfl; (with_reducible repeat (first | refine blk_drewN ?_ _ | refine blk_drew ?_ | refine blk_alloc ?_ _)); refine blk_put (cs := #[.int .i64 ((rd_T31 l0 x18_1).f0), .int .i64 ((rd_T31 l0 x18_1).f1), .int .i64 ((rd_T31 l0 x18_1).f2), .int .i64 ((rd_T31 l0 x18_1).f3), .int .i64 ((rd_T31 l0 x18_1).f4), .int .i64 ((rd_T31 l0 x18_1).f5), .bool ((rd_T31 l0 x18_1).f6), .int .i64 ((rd_T31 l0 x18_1).f7), .int .i64 0, .int .i64 0, .int .i64 0, .int .i64 0, .int .i64 0]) ?_ 8 _ rfl; (with_reducible repeat (first | refine blk_drewN ?_ _ | refine blk_drew ?_ | refine blk_alloc ?_ _)); refine blk_put (cs := #[.int .i64 ((rd_T31 l0 x18_1).f0), .int .i64 ((rd_T31 l0 x18_1).f1), .int .i64 ((rd_T31 l0 x18_1).f2), .int .i64 ((rd_T31 l0 x18_1).f3), .int .i64 ((rd_T31 l0 x18_1).f4), .int .i64 ((rd_T31 l0 x18_1).f5), .bool ((rd_T31 l0 x18_1).f6), .int .i64 0, .int .i64 0, .int .i64 0, .int .i64 0, .int .i64 0, .int .i64 0]) ?_ 7 _ rfl; (with_reducible repeat (first | refine blk_drewN ?_ _ | refine blk_drew ?_ | refine blk_alloc ?_ _)); refine blk_put (cs := #[.int .i64 ((rd_T31 l0 x18_1).f0), .int .i64 ((rd_T31 l0 x18_1).f1), .int .i64 ((rd_T31 l0 x18_1).f2), .int .i64 ((rd_T31 l0 x18_1).f3), .int .i64 ((rd_T31 l0 x18_1).f4), .int .i64 ((rd_T31 l0 x18_1).f5), .bool false, .int .i64 0, .int .i64 0, .int .i64 0, .int .i64 0, .int .i64 0, .int .i64 0]) ?_ 6 _ rfl; (with_reducible repeat (first | refine blk_drewN ?_ _ | refine blk_drew ?_ | refine blk_alloc ?_ _)); refine blk_put (cs := #[.int .i64 ((rd_T31 l0 x18_1).f0), .int .i64 ((rd_T31 l0 x18_1).f1), .int .i64 ((rd_T31 l0 x18_1).f2), .int .i64 ((rd_T31 l0 x18_1).f3), .int .i64 ((rd_T31 l0 x18_1).f4), .int .i64 0, .bool false, .int .i64 0, .int .i64 0, .int .i64 0, .int .i64 0, .int .i64 0, .int .i64 0]) ?_ 5 _ rfl; (with_reducible repeat (first | refine blk_drewN ?_ _ | refine blk_drew ?_ | refine blk_alloc ?_ _)); refine blk_put (cs := #[.int .i64 ((rd_T31 l0 x18_1).f0), .int .i64 ((rd_T31 l0 x18_1).f1), .int .i64 ((rd_T31 l0 x18_1).f2), .int .i64 ((rd_T31 l0 x18_1).f3), .int .i64 0, .int .i64 0, .bool false, .int .i64 0, .int .i64 0, .int .i64 0, .int .i64 0, .int .i64 0, .int .i64 0]) ?_ 4 _ rfl; (with_reducible repeat (first | refine blk_drewN ?_ _ | refine blk_drew ?_ | refine blk_alloc ?_ _)); refine blk_put (cs := #[.int .i64 ((rd_T31 l0 x18_1).f0), .int .i64 ((rd_T31 l0 x18_1).f1), .int .i64 ((rd_T31 l0 x18_1).f2), .int .i64 0, .int .i64 0, .int .i64 0, .bool false, .int .i64 0, .int .i64 0, .int .i64 0, .int .i64 0, .int .i64 0, .int .i64 0]) ?_ 3 _ rfl; (with_reducible repeat (first | refine blk_drewN ?_ _ | refine blk_drew ?_ | refine blk_alloc ?_ _)); refine blk_put (cs := #[.int .i64 ((rd_T31 l0 x18_1).f0), .int .i64 ((rd_T31 l0 x18_1).f1), .int .i64 0, .int .i64 0, .int .i64 0, .int .i64 0, .bool false, .int .i64 0, .int .i64 0, .int .i64 0, .int .i64 0, .int .i64 0, .int .i64 0]) ?_ 2 _ rfl; (with_reducible repeat (first | refine blk_drewN ?_ _ | refine blk_drew ?_ | refine blk_alloc ?_ _)); refine blk_put (cs := #[.int .i64 ((rd_T31 l0 x18_1).f0), .int .i64 0, .int .i64 0, .int .i64 0, .int .i64 0, .int .i64 0, .bool false, .int .i64 0, .int .i64 0, .int .i64 0, .int .i64 0, .int .i64 0, .int .i64 0]) ?_ 1 _ rfl; (with_reducible repeat (first | refine blk_drewN ?_ _ | refine blk_drew ?_ | refine blk_alloc ?_ _)); refine blk_put (cs := #[.int .i64 0, .int .i64 0, .int .i64 0, .int .i64 0, .int .i64 0, .int .i64 0, .bool false, .int .i64 0, .int .i64 0, .int .i64 0, .int .i64 0, .int .i64 0, .int .i64 0]) ?_ 0 _ rfl; (with_reducible repeat (first | refine blk_drewN ?_ _ | refine blk_drew ?_ | refine blk_alloc ?_ _)); exact BK119.out) hb); have n2_ := Aside0.mk (below_step (by exact h1q HB.out GE119.out) hb); clear HO_2; clear BK119; clear HB; have HO_2 := n0_; have BK119 := n1_; have HB := n2_; clear n0_ n1_ n2_; (try clear hb); (try clear hb2); (try clear hk); (try clear hi); obtain ⟨hcz13_0, hcz13_1, hcz13_2, hcz13_3, hcz13_4, hcz13_5, hcz13_6, hcz13_7, hcz13_8, hcz13_9, hcz13_10, hcz13_11, hcz13_12, hfz13_0, hfz13_1, hfz13_2, hfz13_3, hfz13_4, hfz13_5, hfz13_6, hfz13_7, hfz13_8, hfz13_9, hfz13_10, hfz13_11, hfz13_12⟩ := lc13 BK119.out))
  go_ret3
  exact ⟨_, by first | rfl | (simp [errW_none, errW_some] <;> rfl) | (simp [*, errW_none, errW_some] <;> rfl), by first | exact Kd.R_nil _ _ _ _ _ | exact Kd.N_nil _ _ _ _ _ | exact Kd.V_nil _ _ _ _ _ | exact Kd.Q_nil _ _ _ _ _ | exact Kd.S_nil _ _ _ _ _, by exact h1q HB.out GE119.out⟩
end Go.Proofs.Ytakcepffodipfaa.P
