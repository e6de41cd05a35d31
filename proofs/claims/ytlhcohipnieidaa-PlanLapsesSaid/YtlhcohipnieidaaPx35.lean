/- Functions of the program as plain Lean functions, and proofs that its calls come to just their answers, where they tell one (written by a program of this session). -/
import Derived.Test.YtlhcohipnieidaaZaa
import Derived.Test.YtlhcohipnieidaaPx0
import Derived.Test.YtlhcohipnieidaaPx25
import Derived.Test.YtlhcohipnieidaaPx32
import Derived.Test.YtlhcohipnieidaaPx33
namespace Go.Proofs.Ytlhcohipnieidaa.P
open Go.RowKit Go.Proofs.YtlhcohipnieidaaW.PrintWords Go.Proofs.YtlhcohipnieidaaW.PrintLast Go.Proofs.YtlhcohipnieidaaW.PrintMore
attribute [local go_sem] max2_int min2_int max_two min_two max_three min_three max_four min_four   -- for this text's walks alone
set_option linter.unusedVariables false
set_option linter.unusedSimpArgs false

/-! ### annuitylaw18_PlanLapses: function 4 -/
def annuitylaw18_PlanLapses.f (k : Nat) (a0 : Int) (a1 : Int) (a2 : Int) : Option (Bool) := (annuitykeep_Mod.f a0 87258).bind fun t415 => ((annuitykeep_Mod.f a1 87659).bind fun t417 => (if (wrap64 (1 + (Int.tmod (wrap64 (a2)) 4))) = 4 then ((plan_Holds.f k 0 ([] : List (S23)) (wrap64 (1 + (Int.tmod (wrap64 (a2)) 4))) t415 0 0 ([] : List (S147)) 0 0 0 0 0 0 (wrap64 (t415 + 364))).bind fun t421 => (if t421 = 4 then ((plan_Holds.f k 0 ([] : List (S23)) (wrap64 (1 + (Int.tmod (wrap64 (a2)) 4))) t415 0 0 ([] : List (S147)) 0 0 0 0 0 0 (wrap64 (t415 + 366))).bind fun t422 => (if t422 = 1 then ((plan_Holds.f k 0 ([] : List (S23)) (wrap64 (1 + (Int.tmod (wrap64 (a2)) 4))) t415 0 0 ([] : List (S147)) 0 0 0 0 0 0 t415).bind fun t423 => (if t423 = 4 then (if t417 ≤ (wrap64 (t415 + 364)) then ((plan_Holds.f k 0 ([] : List (S23)) (wrap64 (1 + (Int.tmod (wrap64 (a2)) 4))) t415 0 0 ([] : List (S147)) 0 0 0 0 0 0 t417).bind fun t424 => (if t424 = 4 then (if t417 ≥ (wrap64 (t415 + 366)) then ((plan_Holds.f k 0 ([] : List (S23)) (wrap64 (1 + (Int.tmod (wrap64 (a2)) 4))) t415 0 0 ([] : List (S147)) 0 0 0 0 0 0 t417).bind fun t425 => (if t425 = 1 then ((annuitylaw18_wakes.f k).bind fun t426 => (some t426)) else (none))) else ((annuitylaw18_wakes.f k).bind fun t427 => (some t427))) else (none))) else (if t417 ≥ (wrap64 (t415 + 366)) then ((plan_Holds.f k 0 ([] : List (S23)) (wrap64 (1 + (Int.tmod (wrap64 (a2)) 4))) t415 0 0 ([] : List (S147)) 0 0 0 0 0 0 t417).bind fun t428 => (if t428 = 1 then ((annuitylaw18_wakes.f k).bind fun t429 => (some t429)) else (none))) else ((annuitylaw18_wakes.f k).bind fun t430 => (some t430)))) else (none))) else (none))) else (none))) else ((plan_Holds.f k 0 ([] : List (S23)) (wrap64 (1 + (Int.tmod (wrap64 (a2)) 4))) t415 0 0 ([] : List (S147)) 0 0 0 0 0 0 t417).bind fun t418 => (if t418 = (wrap64 (1 + (Int.tmod (wrap64 (a2)) 4))) then ((plan_Holds.f k 0 ([] : List (S23)) 0 t415 0 0 ([] : List (S147)) 0 0 0 0 0 0 t417).bind fun t419 => (if t419 = 1 then ((annuitylaw18_wakes.f k).bind fun t420 => (some t420)) else (none))) else (none)))))
def annuitylaw18_PlanLapses.T5 : Bool × List (List Nat × List Nat) := (true, [([], []), ([], []), ([0, 1], [0, 1]), ([], []), ([3], [3]), ([2, 4], [2, 4]), ([5, 2], [5]), ([6], [6]), ([7, 6], [6, 7]), ([6], [6]), ([8, 9, 6, 6], [6, 8, 9]), ([10, 6], [6, 10]), ([6, 11], [6, 11]), ([12, 10], [12]), ([13, 13], [13]), ([13, 14], [13, 14]), ([15, 14, 0, 1, 2, 3, 4, 5, 6, 7, 8, 9, 10, 11, 12, 13, 14, 15], [15])])
def annuitylaw18_PlanLapses.B5 : List Nat := [0, 0, 3, 0, 8, 31, 63, 127, 255, 127, 1023, 2047, 4095, 8191, 16383, 32767, 65535]
theorem annuitylaw18_PlanLapses.tab5 : rtab .any (opsOf Try.f4 5) = annuitylaw18_PlanLapses.T5 := by kernel_rfl
theorem annuitylaw18_PlanLapses.bits5 : waitsOk annuitylaw18_PlanLapses.T5.2 annuitylaw18_PlanLapses.B5 = true := by kernel_rfl
theorem plan_Holds0 (k : Nat) (pl since day r : Int) (w : World) (h : plan_Holds.f k 0 ([] : List (S23)) pl since 0 0 ([] : List (S147)) 0 0 0 0 0 0 day = some r) :
  Calls Try.prog 10 #[.agg #[.int .i64 0, .slice none 0 0, .int .i64 pl, .int .i64 since, .int .i64 0, .int .i64 0, .slice none 0 0, .int .i64 0, .int .i64 0, .int .i64 0, .int .i64 0, .int .i64 0, .int .i64 0], .int .i64 day] w fun e w' => e = .returned (.int .i64 r) ∧ Below w.heap.size w w' :=
 plan_Holds.calls k 0 none 0 ([] : List (S23)) pl since 0 0 none 0 ([] : List (S147)) 0 0 0 0 0 0 day r w (Kd.C_nil _ _) (Nat.le_refl _) (Kd.C_nil _ _) (Nat.le_refl _) h
set_option maxHeartbeats 8000000 in
set_option maxRecDepth 100000 in
theorem annuitylaw18_PlanLapses.calls (k : Nat) (a0 : Int) (a1 : Int) (a2 : Int) (r : Bool) (w : World) (h : annuitylaw18_PlanLapses.f k a0 a1 a2 = some r) :
  Calls Try.prog 4 #[.int .i64 a0, .int .i64 a1, .int .u8 a2] w fun e w' => e = .returned (.bool r) ∧ Below w.heap.size w w' := by
 have hu38 := Try.underlying38
 have HB := Aside0.mk (Below.refl w.heap.size w)
 have H : ((annuitykeep_Mod.f a0 87258).bind fun t415 => ((annuitykeep_Mod.f a1 87659).bind fun t417 => (if (wrap64 (1 + (Int.tmod (wrap64 (a2)) 4))) = 4 then ((plan_Holds.f k 0 ([] : List (S23)) (wrap64 (1 + (Int.tmod (wrap64 (a2)) 4))) t415 0 0 ([] : List (S147)) 0 0 0 0 0 0 (wrap64 (t415 + 364))).bind fun t421 => (if t421 = 4 then ((plan_Holds.f k 0 ([] : List (S23)) (wrap64 (1 + (Int.tmod (wrap64 (a2)) 4))) t415 0 0 ([] : List (S147)) 0 0 0 0 0 0 (wrap64 (t415 + 366))).bind fun t422 => (if t422 = 1 then ((plan_Holds.f k 0 ([] : List (S23)) (wrap64 (1 + (Int.tmod (wrap64 (a2)) 4))) t415 0 0 ([] : List (S147)) 0 0 0 0 0 0 t415).bind fun t423 => (if t423 = 4 then (if t417 ≤ (wrap64 (t415 + 364)) then ((plan_Holds.f k 0 ([] : List (S23)) (wrap64 (1 + (Int.tmod (wrap64 (a2)) 4))) t415 0 0 ([] : List (S147)) 0 0 0 0 0 0 t417).bind fun t424 => (if t424 = 4 then (if t417 ≥ (wrap64 (t415 + 366)) then ((plan_Holds.f k 0 ([] : List (S23)) (wrap64 (1 + (Int.tmod (wrap64 (a2)) 4))) t415 0 0 ([] : List (S147)) 0 0 0 0 0 0 t417).bind fun t425 => (if t425 = 1 then ((annuitylaw18_wakes.f k).bind fun t426 => (some t426)) else (none))) else ((annuitylaw18_wakes.f k).bind fun t427 => (some t427))) else (none))) else (if t417 ≥ (wrap64 (t415 + 366)) then ((plan_Holds.f k 0 ([] : List (S23)) (wrap64 (1 + (Int.tmod (wrap64 (a2)) 4))) t415 0 0 ([] : List (S147)) 0 0 0 0 0 0 t417).bind fun t428 => (if t428 = 1 then ((annuitylaw18_wakes.f k).bind fun t429 => (some t429)) else (none))) else ((annuitylaw18_wakes.f k).bind fun t430 => (some t430)))) else (none))) else (none))) else (none))) else ((plan_Holds.f k 0 ([] : List (S23)) (wrap64 (1 + (Int.tmod (wrap64 (a2)) 4))) t415 0 0 ([] : List (S147)) 0 0 0 0 0 0 t417).bind fun t418 => (if t418 = (wrap64 (1 + (Int.tmod (wrap64 (a2)) 4))) then ((plan_Holds.f k 0 ([] : List (S23)) 0 t415 0 0 ([] : List (S147)) 0 0 0 0 0 0 t417).bind fun t419 => (if t419 = 1 then ((annuitylaw18_wakes.f k).bind fun t420 => (some t420)) else (none))) else (none)))))) = some r := h
 clear h
 replace H := Option.bind_eq_some_iff.mp H
 obtain ⟨t415, A40, H⟩ := H
 replace H : ((annuitykeep_Mod.f a1 87659).bind fun t417 => (if (wrap64 (1 + (Int.tmod (wrap64 (a2)) 4))) = 4 then ((plan_Holds.f k 0 ([] : List (S23)) (wrap64 (1 + (Int.tmod (wrap64 (a2)) 4))) t415 0 0 ([] : List (S147)) 0 0 0 0 0 0 (wrap64 (t415 + 364))).bind fun t421 => (if t421 = 4 then ((plan_Holds.f k 0 ([] : List (S23)) (wrap64 (1 + (Int.tmod (wrap64 (a2)) 4))) t415 0 0 ([] : List (S147)) 0 0 0 0 0 0 (wrap64 (t415 + 366))).bind fun t422 => (if t422 = 1 then ((plan_Holds.f k 0 ([] : List (S23)) (wrap64 (1 + (Int.tmod (wrap64 (a2)) 4))) t415 0 0 ([] : List (S147)) 0 0 0 0 0 0 t415).bind fun t423 => (if t423 = 4 then (if t417 ≤ (wrap64 (t415 + 364)) then ((plan_Holds.f k 0 ([] : List (S23)) (wrap64 (1 + (Int.tmod (wrap64 (a2)) 4))) t415 0 0 ([] : List (S147)) 0 0 0 0 0 0 t417).bind fun t424 => (if t424 = 4 then (if t417 ≥ (wrap64 (t415 + 366)) then ((plan_Holds.f k 0 ([] : List (S23)) (wrap64 (1 + (Int.tmod (wrap64 (a2)) 4))) t415 0 0 ([] : List (S147)) 0 0 0 0 0 0 t417).bind fun t425 => (if t425 = 1 then ((annuitylaw18_wakes.f k).bind fun t426 => (some t426)) else (none))) else ((annuitylaw18_wakes.f k).bind fun t427 => (some t427))) else (none))) else (if t417 ≥ (wrap64 (t415 + 366)) then ((plan_Holds.f k 0 ([] : List (S23)) (wrap64 (1 + (Int.tmod (wrap64 (a2)) 4))) t415 0 0 ([] : List (S147)) 0 0 0 0 0 0 t417).bind fun t428 => (if t428 = 1 then ((annuitylaw18_wakes.f k).bind fun t429 => (some t429)) else (none))) else ((annuitylaw18_wakes.f k).bind fun t430 => (some t430)))) else (none))) else (none))) else (none))) else ((plan_Holds.f k 0 ([] : List (S23)) (wrap64 (1 + (Int.tmod (wrap64 (a2)) 4))) t415 0 0 ([] : List (S147)) 0 0 0 0 0 0 t417).bind fun t418 => (if t418 = (wrap64 (1 + (Int.tmod (wrap64 (a2)) 4))) then ((plan_Holds.f k 0 ([] : List (S23)) 0 t415 0 0 ([] : List (S147)) 0 0 0 0 0 0 t417).bind fun t419 => (if t419 = 1 then ((annuitylaw18_wakes.f k).bind fun t420 => (some t420)) else (none))) else (none))))) = some r := H
 have A4 := Aside0.mk A40
 clear A40
 replace H := Option.bind_eq_some_iff.mp H
 obtain ⟨t417, A50, H⟩ := H
 replace H : (if (wrap64 (1 + (Int.tmod (wrap64 (a2)) 4))) = 4 then ((plan_Holds.f k 0 ([] : List (S23)) (wrap64 (1 + (Int.tmod (wrap64 (a2)) 4))) t415 0 0 ([] : List (S147)) 0 0 0 0 0 0 (wrap64 (t415 + 364))).bind fun t421 => (if t421 = 4 then ((plan_Holds.f k 0 ([] : List (S23)) (wrap64 (1 + (Int.tmod (wrap64 (a2)) 4))) t415 0 0 ([] : List (S147)) 0 0 0 0 0 0 (wrap64 (t415 + 366))).bind fun t422 => (if t422 = 1 then ((plan_Holds.f k 0 ([] : List (S23)) (wrap64 (1 + (Int.tmod (wrap64 (a2)) 4))) t415 0 0 ([] : List (S147)) 0 0 0 0 0 0 t415).bind fun t423 => (if t423 = 4 then (if t417 ≤ (wrap64 (t415 + 364)) then ((plan_Holds.f k 0 ([] : List (S23)) (wrap64 (1 + (Int.tmod (wrap64 (a2)) 4))) t415 0 0 ([] : List (S147)) 0 0 0 0 0 0 t417).bind fun t424 => (if t424 = 4 then (if t417 ≥ (wrap64 (t415 + 366)) then ((plan_Holds.f k 0 ([] : List (S23)) (wrap64 (1 + (Int.tmod (wrap64 (a2)) 4))) t415 0 0 ([] : List (S147)) 0 0 0 0 0 0 t417).bind fun t425 => (if t425 = 1 then ((annuitylaw18_wakes.f k).bind fun t426 => (some t426)) else (none))) else ((annuitylaw18_wakes.f k).bind fun t427 => (some t427))) else (none))) else (if t417 ≥ (wrap64 (t415 + 366)) then ((plan_Holds.f k 0 ([] : List (S23)) (wrap64 (1 + (Int.tmod (wrap64 (a2)) 4))) t415 0 0 ([] : List (S147)) 0 0 0 0 0 0 t417).bind fun t428 => (if t428 = 1 then ((annuitylaw18_wakes.f k).bind fun t429 => (some t429)) else (none))) else ((annuitylaw18_wakes.f k).bind fun t430 => (some t430)))) else (none))) else (none))) else (none))) else ((plan_Holds.f k 0 ([] : List (S23)) (wrap64 (1 + (Int.tmod (wrap64 (a2)) 4))) t415 0 0 ([] : List (S147)) 0 0 0 0 0 0 t417).bind fun t418 => (if t418 = (wrap64 (1 + (Int.tmod (wrap64 (a2)) 4))) then ((plan_Holds.f k 0 ([] : List (S23)) 0 t415 0 0 ([] : List (S147)) 0 0 0 0 0 0 t417).bind fun t419 => (if t419 = 1 then ((annuitylaw18_wakes.f k).bind fun t420 => (some t420)) else (none))) else (none)))) = some r := H
 have A5 := Aside0.mk A50
 clear A50
 by_cases c6 : (wrap64 (1 + (Int.tmod (wrap64 (a2)) 4))) = 4
 ·rw [if_pos c6] at H
  have c6b0 : ((wrap64 (1 + (Int.tmod (wrap64 (a2)) 4))) == 4) = true := beq_iff_eq.mpr c6
  have c6b1 : ((wrap64 (1 + (Int.tmod (wrap64 (a2)) 4))) != 4) = false := bne_eq_false_iff_eq.mpr c6
  clear c6
  replace H := Option.bind_eq_some_iff.mp H
  obtain ⟨t421, A70, H⟩ := H
  replace H : (if t421 = 4 then ((plan_Holds.f k 0 ([] : List (S23)) (wrap64 (1 + (Int.tmod (wrap64 (a2)) 4))) t415 0 0 ([] : List (S147)) 0 0 0 0 0 0 (wrap64 (t415 + 366))).bind fun t422 => (if t422 = 1 then ((plan_Holds.f k 0 ([] : List (S23)) (wrap64 (1 + (Int.tmod (wrap64 (a2)) 4))) t415 0 0 ([] : List (S147)) 0 0 0 0 0 0 t415).bind fun t423 => (if t423 = 4 then (if t417 ≤ (wrap64 (t415 + 364)) then ((plan_Holds.f k 0 ([] : List (S23)) (wrap64 (1 + (Int.tmod (wrap64 (a2)) 4))) t415 0 0 ([] : List (S147)) 0 0 0 0 0 0 t417).bind fun t424 => (if t424 = 4 then (if t417 ≥ (wrap64 (t415 + 366)) then ((plan_Holds.f k 0 ([] : List (S23)) (wrap64 (1 + (Int.tmod (wrap64 (a2)) 4))) t415 0 0 ([] : List (S147)) 0 0 0 0 0 0 t417).bind fun t425 => (if t425 = 1 then ((annuitylaw18_wakes.f k).bind fun t426 => (some t426)) else (none))) else ((annuitylaw18_wakes.f k).bind fun t427 => (some t427))) else (none))) else (if t417 ≥ (wrap64 (t415 + 366)) then ((plan_Holds.f k 0 ([] : List (S23)) (wrap64 (1 + (Int.tmod (wrap64 (a2)) 4))) t415 0 0 ([] : List (S147)) 0 0 0 0 0 0 t417).bind fun t428 => (if t428 = 1 then ((annuitylaw18_wakes.f k).bind fun t429 => (some t429)) else (none))) else ((annuitylaw18_wakes.f k).bind fun t430 => (some t430)))) else (none))) else (none))) else (none)) = some r := H
  have A7 := Aside0.mk A70
  clear A70
  by_cases c8 : t421 = 4
  ·rw [if_pos c8] at H
   have c8b0 : (t421 == 4) = true := beq_iff_eq.mpr c8
   have c8b1 : (t421 != 4) = false := bne_eq_false_iff_eq.mpr c8
   clear c8
   replace H := Option.bind_eq_some_iff.mp H
   obtain ⟨t422, A90, H⟩ := H
   replace H : (if t422 = 1 then ((plan_Holds.f k 0 ([] : List (S23)) (wrap64 (1 + (Int.tmod (wrap64 (a2)) 4))) t415 0 0 ([] : List (S147)) 0 0 0 0 0 0 t415).bind fun t423 => (if t423 = 4 then (if t417 ≤ (wrap64 (t415 + 364)) then ((plan_Holds.f k 0 ([] : List (S23)) (wrap64 (1 + (Int.tmod (wrap64 (a2)) 4))) t415 0 0 ([] : List (S147)) 0 0 0 0 0 0 t417).bind fun t424 => (if t424 = 4 then (if t417 ≥ (wrap64 (t415 + 366)) then ((plan_Holds.f k 0 ([] : List (S23)) (wrap64 (1 + (Int.tmod (wrap64 (a2)) 4))) t415 0 0 ([] : List (S147)) 0 0 0 0 0 0 t417).bind fun t425 => (if t425 = 1 then ((annuitylaw18_wakes.f k).bind fun t426 => (some t426)) else (none))) else ((annuitylaw18_wakes.f k).bind fun t427 => (some t427))) else (none))) else (if t417 ≥ (wrap64 (t415 + 366)) then ((plan_Holds.f k 0 ([] : List (S23)) (wrap64 (1 + (Int.tmod (wrap64 (a2)) 4))) t415 0 0 ([] : List (S147)) 0 0 0 0 0 0 t417).bind fun t428 => (if t428 = 1 then ((annuitylaw18_wakes.f k).bind fun t429 => (some t429)) else (none))) else ((annuitylaw18_wakes.f k).bind fun t430 => (some t430)))) else (none))) else (none)) = some r := H
   have A9 := Aside0.mk A90
   clear A90
   by_cases c10 : t422 = 1
   ·rw [if_pos c10] at H
    have c10b0 : (t422 == 1) = true := beq_iff_eq.mpr c10
    have c10b1 : (t422 != 1) = false := bne_eq_false_iff_eq.mpr c10
    clear c10
    replace H := Option.bind_eq_some_iff.mp H
    obtain ⟨t423, A110, H⟩ := H
    replace H : (if t423 = 4 then (if t417 ≤ (wrap64 (t415 + 364)) then ((plan_Holds.f k 0 ([] : List (S23)) (wrap64 (1 + (Int.tmod (wrap64 (a2)) 4))) t415 0 0 ([] : List (S147)) 0 0 0 0 0 0 t417).bind fun t424 => (if t424 = 4 then (if t417 ≥ (wrap64 (t415 + 366)) then ((plan_Holds.f k 0 ([] : List (S23)) (wrap64 (1 + (Int.tmod (wrap64 (a2)) 4))) t415 0 0 ([] : List (S147)) 0 0 0 0 0 0 t417).bind fun t425 => (if t425 = 1 then ((annuitylaw18_wakes.f k).bind fun t426 => (some t426)) else (none))) else ((annuitylaw18_wakes.f k).bind fun t427 => (some t427))) else (none))) else (if t417 ≥ (wrap64 (t415 + 366)) then ((plan_Holds.f k 0 ([] : List (S23)) (wrap64 (1 + (Int.tmod (wrap64 (a2)) 4))) t415 0 0 ([] : List (S147)) 0 0 0 0 0 0 t417).bind fun t428 => (if t428 = 1 then ((annuitylaw18_wakes.f k).bind fun t429 => (some t429)) else (none))) else ((annuitylaw18_wakes.f k).bind fun t430 => (some t430)))) else (none)) = some r := H
    have A11 := Aside0.mk A110
    clear A110
    by_cases c12 : t423 = 4
    ·rw [if_pos c12] at H
     have c12b0 : (t423 == 4) = true := beq_iff_eq.mpr c12
     have c12b1 : (t423 != 4) = false := bne_eq_false_iff_eq.mpr c12
     clear c12
     by_cases c13 : t417 ≤ (wrap64 (t415 + 364))
     ·rw [if_pos c13] at H
      have c13b0 : decide (t417 ≤ (wrap64 (t415 + 364))) = true := decide_eq_true c13
      clear c13
      replace H := Option.bind_eq_some_iff.mp H
      obtain ⟨t424, A140, H⟩ := H
      replace H : (if t424 = 4 then (if t417 ≥ (wrap64 (t415 + 366)) then ((plan_Holds.f k 0 ([] : List (S23)) (wrap64 (1 + (Int.tmod (wrap64 (a2)) 4))) t415 0 0 ([] : List (S147)) 0 0 0 0 0 0 t417).bind fun t425 => (if t425 = 1 then ((annuitylaw18_wakes.f k).bind fun t426 => (some t426)) else (none))) else ((annuitylaw18_wakes.f k).bind fun t427 => (some t427))) else (none)) = some r := H
      have A14 := Aside0.mk A140
      clear A140
      by_cases c15 : t424 = 4
      ·rw [if_pos c15] at H
       have c15b0 : (t424 == 4) = true := beq_iff_eq.mpr c15
       have c15b1 : (t424 != 4) = false := bne_eq_false_iff_eq.mpr c15
       clear c15
       by_cases c16 : t417 ≥ (wrap64 (t415 + 366))
       ·rw [if_pos c16] at H
        have c16b0 : decide ((wrap64 (t415 + 366)) ≤ t417) = true := decide_eq_true c16
        clear c16
        replace H := Option.bind_eq_some_iff.mp H
        obtain ⟨t425, A170, H⟩ := H
        replace H : (if t425 = 1 then ((annuitylaw18_wakes.f k).bind fun t426 => (some t426)) else (none)) = some r := H
        have A17 := Aside0.mk A170
        clear A170
        by_cases c18 : t425 = 1
        ·rw [if_pos c18] at H
         have c18b0 : (t425 == 1) = true := beq_iff_eq.mpr c18
         have c18b1 : (t425 != 1) = false := bne_eq_false_iff_eq.mpr c18
         clear c18
         replace H := Option.bind_eq_some_iff.mp H
         obtain ⟨t426, A190, H⟩ := H
         replace H : (some t426) = some r := H
         have A19 := Aside0.mk A190
         clear A190
         obtain rfl := Option.some.inj H
         have e_ := Option.some.inj (A14.out.symm.trans A17.out)
         subst e_
         exact absurd ((beq_iff_eq.mp c15b0).symm.trans (beq_iff_eq.mp c18b0)) (by decide)
        ·rw [if_neg c18] at H
         exact absurd H (by simp)
       ·rw [if_neg c16] at H
        have c16b0 : decide ((wrap64 (t415 + 366)) ≤ t417) = false := decide_eq_false c16
        clear c16
        replace H := Option.bind_eq_some_iff.mp H
        obtain ⟨t427, A320, H⟩ := H
        replace H : (some t427) = some r := H
        have A32 := Aside0.mk A320
        clear A320
        obtain rfl := Option.some.inj H
        go_enter Try.func4, Try.ntmps4
        go_wp2_with (first | ((with_reducible refine gate_callee (f := 9) rfl ?_); refine goesL_ (some 11) rfl rfl Try.func9 (by kernel_rfl) rfl #[.int .i64 a0, .int .i64 87258] rfl (by (try simp only [List.map_toArray, List.map_cons, List.map_nil]); first | done | rfl | (simp only [List.length_drop, List.length_take]; rfl)) ?_; (with_reducible refine (annuitykeep_Mod.calls a0 87258 t415 _ A4.out).mono ?_); rintro e w' ⟨rfl, ⟨nd, rfl⟩⟩; refine ⟨_, rfl, ?_⟩) | ((with_reducible refine gate_dst (N := 8) rfl ?_); refine box_event ?hg (N := 8) ?hd (cs := #[.int .i64 0, .slice none 0 0, .int .i64 0, .int .i64 0, .int .i64 0, .int .i64 0, .slice none 0 0, .int .i64 0, .int .i64 0, .int .i64 0, .int .i64 0, .int .i64 0, .int .i64 0]) (t := 38) ?hr ?_; (case hd => rfl); (case hg => rfl); (case hr => first | (go_simp; done) | (go_simp; rfl)); intro gb416 hg w33 hbox hb; have n0_ := Aside0.mk (below_step (by exact h0q HB.out) hb); have n1_ := Aside0.mk (hbox); have n2_ := Aside0.mk ((by rw [hg]; exact (below_size (by exact h0q HB.out)) : w.heap.size ≤ gb416)); have n3_ := Aside0.mk ((by rw [hg]; exact (below_size (by exact h0q HB.out)) : w.heap.size ≤ gb416)); clear HB; have HB := n0_; have BK416 := n1_; have GW416 := n2_; have GE416 := n3_; clear n0_ n1_ n2_ n3_; clear hb hbox hg; obtain ⟨hcz34_0, hcz34_1, hcz34_2, hcz34_3, hcz34_4, hcz34_5, hcz34_6, hcz34_7, hcz34_8, hcz34_9, hcz34_10, hcz34_11, hcz34_12, hfz34_0, hfz34_1, hfz34_2, hfz34_3, hfz34_4, hfz34_5, hfz34_6, hfz34_7, hfz34_8, hfz34_9, hfz34_10, hfz34_11, hfz34_12⟩ := lc13 BK416.out) | ((with_reducible refine gate_callee (f := 9) rfl ?_); refine goesL_ (some 19) rfl rfl Try.func9 (by kernel_rfl) rfl #[.int .i64 a1, .int .i64 87659] rfl (by (try simp only [List.map_toArray, List.map_cons, List.map_nil]); first | done | rfl | (simp only [List.length_drop, List.length_take]; rfl)) ?_; (with_reducible refine (annuitykeep_Mod.calls a1 87659 t417 _ A5.out).mono ?_); rintro e w' ⟨rfl, ⟨nd, rfl⟩⟩; refine ⟨_, rfl, ?_⟩) | ((with_reducible refine gate_callee (f := 10) rfl ?_); refine goesL_ (some 42) rfl rfl Try.func10 (by kernel_rfl) rfl #[.agg #[.int .i64 0, .slice none 0 0, .int .i64 (wrap64 (1 + (Int.tmod (wrap64 (a2)) 4))), .int .i64 t415, .int .i64 0, .int .i64 0, .slice none 0 0, .int .i64 0, .int .i64 0, .int .i64 0, .int .i64 0, .int .i64 0, .int .i64 0], .int .i64 (wrap64 (t415 + 364))] rfl (by (try simp only [List.map_toArray, List.map_cons, List.map_nil]); first | done | rfl | (simp only [List.length_drop, List.length_take]; rfl)) ?_; (with_reducible refine (plan_Holds0 k (wrap64 (1 + (Int.tmod (wrap64 (a2)) 4))) t415 (wrap64 (t415 + 364)) t421 _ A7.out).mono ?_); rintro e w35 ⟨rfl, hb⟩; refine ⟨_, rfl, ?_⟩; have n0_ := Aside0.mk (blk_below (g := gb416) (o := .cells #[.int .i64 0, .slice none 0 0, .int .i64 (wrap64 (1 + (Int.tmod (wrap64 (a2)) 4))), .int .i64 t415, .int .i64 0, .int .i64 0, .slice none 0 0, .int .i64 0, .int .i64 0, .int .i64 0, .int .i64 0, .int .i64 0, .int .i64 0] 38 (0, 0)) (by (with_reducible repeat (first | refine blk_drewN ?_ _ | refine blk_drew ?_ | refine blk_alloc ?_ _)); refine blk_put (cs := #[.int .i64 0, .slice none 0 0, .int .i64 (wrap64 (1 + (Int.tmod (wrap64 (a2)) 4))), .int .i64 t415, .int .i64 0, .int .i64 0, .slice none 0 0, .int .i64 0, .int .i64 0, .int .i64 0, .int .i64 0, .int .i64 0, .int .i64 0]) ?_ 12 _ rfl; (with_reducible repeat (first | refine blk_drewN ?_ _ | refine blk_drew ?_ | refine blk_alloc ?_ _)); refine blk_put (cs := #[.int .i64 0, .slice none 0 0, .int .i64 (wrap64 (1 + (Int.tmod (wrap64 (a2)) 4))), .int .i64 t415, .int .i64 0, .int .i64 0, .slice none 0 0, .int .i64 0, .int .i64 0, .int .i64 0, .int .i64 0, .int .i64 0, .int .i64 0]) ?_ 11 _ rfl; (with_reducible repeat (first | refine blk_drewN ?_ _ | refine blk_drew ?_ | refine blk_alloc ?_ _)); refine blk_put (cs := #[.int .i64 0, .slice none 0 0, .int .i64 (wrap64 (1 + (Int.tmod (wrap64 (a2)) 4))), .int .i64 t415, .int .i64 0, .int .i64 0, .slice none 0 0, .int .i64 0, .int .i64 0, .int .i64 0, .int .i64 0, .int .i64 0, .int .i64 0]) ?_ 10 _ rfl; (with_reducible repeat (first | refine blk_drewN ?_ _ | refine blk_drew ?_ | refine blk_alloc ?_ _)); refine blk_put (cs := #[.int .i64 0, .slice none 0 0, .int .i64 (wrap64 (1 + (Int.tmod (wrap64 (a2)) 4))), .int .i64 t415, .int .i64 0, .int .i64 0, .slice none 0 0, .int .i64 0, .int .i64 0, .int .i64 0, .int .i64 0, .int .i64 0, .int .i64 0]) ?_ 9 _ rfl; (with_reducible repeat (first | refine blk_drewN ?_ _ | refine blk_drew ?_ | refine blk_alloc ?_ _)); refine blk_put (cs := #[.int .i64 0, .slice none 0 0, .int .i64 (wrap64 (1 + (Int.tmod (wrap64 (a2)) 4))), .int .i64 t415, .int .i64 0, .int .i64 0, .slice none 0 0, .int .i64 0, .int .i64 0, .int .i64 0, .int .i64 0, .int .i64 0, .int .i64 0]) ?_ 8 _ rfl; (with_reducible repeat (first | refine blk_drewN ?_ _ | refine blk_drew ?_ | refine blk_alloc ?_ _)); refine blk_put (cs := #[.int .i64 0, .slice none 0 0, .int .i64 (wrap64 (1 + (Int.tmod (wrap64 (a2)) 4))), .int .i64 t415, .int .i64 0, .int .i64 0, .slice none 0 0, .int .i64 0, .int .i64 0, .int .i64 0, .int .i64 0, .int .i64 0, .int .i64 0]) ?_ 7 _ rfl; (with_reducible repeat (first | refine blk_drewN ?_ _ | refine blk_drew ?_ | refine blk_alloc ?_ _)); refine blk_put (cs := #[.int .i64 0, .slice none 0 0, .int .i64 (wrap64 (1 + (Int.tmod (wrap64 (a2)) 4))), .int .i64 t415, .int .i64 0, .int .i64 0, .slice none 0 0, .int .i64 0, .int .i64 0, .int .i64 0, .int .i64 0, .int .i64 0, .int .i64 0]) ?_ 6 _ rfl; (with_reducible repeat (first | refine blk_drewN ?_ _ | refine blk_drew ?_ | refine blk_alloc ?_ _)); refine blk_put (cs := #[.int .i64 0, .slice none 0 0, .int .i64 (wrap64 (1 + (Int.tmod (wrap64 (a2)) 4))), .int .i64 t415, .int .i64 0, .int .i64 0, .slice none 0 0, .int .i64 0, .int .i64 0, .int .i64 0, .int .i64 0, .int .i64 0, .int .i64 0]) ?_ 5 _ rfl; (with_reducible repeat (first | refine blk_drewN ?_ _ | refine blk_drew ?_ | refine blk_alloc ?_ _)); refine blk_put (cs := #[.int .i64 0, .slice none 0 0, .int .i64 (wrap64 (1 + (Int.tmod (wrap64 (a2)) 4))), .int .i64 t415, .int .i64 0, .int .i64 0, .slice none 0 0, .int .i64 0, .int .i64 0, .int .i64 0, .int .i64 0, .int .i64 0, .int .i64 0]) ?_ 4 _ rfl; (with_reducible repeat (first | refine blk_drewN ?_ _ | refine blk_drew ?_ | refine blk_alloc ?_ _)); refine blk_put (cs := #[.int .i64 0, .slice none 0 0, .int .i64 (wrap64 (1 + (Int.tmod (wrap64 (a2)) 4))), .int .i64 0, .int .i64 0, .int .i64 0, .slice none 0 0, .int .i64 0, .int .i64 0, .int .i64 0, .int .i64 0, .int .i64 0, .int .i64 0]) ?_ 3 _ rfl; (with_reducible repeat (first | refine blk_drewN ?_ _ | refine blk_drew ?_ | refine blk_alloc ?_ _)); refine blk_put (cs := #[.int .i64 0, .slice none 0 0, .int .i64 0, .int .i64 0, .int .i64 0, .int .i64 0, .slice none 0 0, .int .i64 0, .int .i64 0, .int .i64 0, .int .i64 0, .int .i64 0, .int .i64 0]) ?_ 2 _ rfl; (with_reducible repeat (first | refine blk_drewN ?_ _ | refine blk_drew ?_ | refine blk_alloc ?_ _)); refine blk_put (cs := #[.int .i64 0, .slice none 0 0, .int .i64 0, .int .i64 0, .int .i64 0, .int .i64 0, .slice none 0 0, .int .i64 0, .int .i64 0, .int .i64 0, .int .i64 0, .int .i64 0, .int .i64 0]) ?_ 1 _ rfl; (with_reducible repeat (first | refine blk_drewN ?_ _ | refine blk_drew ?_ | refine blk_alloc ?_ _)); refine blk_put (cs := #[.int .i64 0, .slice none 0 0, .int .i64 0, .int .i64 0, .int .i64 0, .int .i64 0, .slice none 0 0, .int .i64 0, .int .i64 0, .int .i64 0, .int .i64 0, .int .i64 0, .int .i64 0]) ?_ 0 _ rfl; (with_reducible repeat (first | refine blk_drewN ?_ _ | refine blk_drew ?_ | refine blk_alloc ?_ _)); exact BK416.out) hb); have n1_ := Aside0.mk (below_step (by exact h1q HB.out GE416.out) hb); clear BK416; clear HB; have BK416 := n0_; have HB := n1_; clear n0_ n1_; (try clear hb); (try clear hb2); (try clear hk); (try clear hi); obtain ⟨hcz36_0, hcz36_1, hcz36_2, hcz36_3, hcz36_4, hcz36_5, hcz36_6, hcz36_7, hcz36_8, hcz36_9, hcz36_10, hcz36_11, hcz36_12, hfz36_0, hfz36_1, hfz36_2, hfz36_3, hfz36_4, hfz36_5, hfz36_6, hfz36_7, hfz36_8, hfz36_9, hfz36_10, hfz36_11, hfz36_12⟩ := lc13 BK416.out) | (go_at_call 10; (with_reducible refine (plan_Holds0 k (wrap64 (1 + (Int.tmod (wrap64 (a2)) 4))) t415 (wrap64 (t415 + 366)) t422 _ A9.out).mono ?_); rintro e w37 ⟨rfl, hb⟩; have n0_ := Aside0.mk (blk_below (g := gb416) (Up.up BK416.out) hb); have n1_ := Aside0.mk (below_step (by exact h1q HB.out GE416.out) hb); clear BK416; clear HB; have BK416 := n0_; have HB := n1_; clear n0_ n1_; (try clear hb); (try clear hb2); (try clear hk); (try clear hi); obtain ⟨hcz38_0, hcz38_1, hcz38_2, hcz38_3, hcz38_4, hcz38_5, hcz38_6, hcz38_7, hcz38_8, hcz38_9, hcz38_10, hcz38_11, hcz38_12, hfz38_0, hfz38_1, hfz38_2, hfz38_3, hfz38_4, hfz38_5, hfz38_6, hfz38_7, hfz38_8, hfz38_9, hfz38_10, hfz38_11, hfz38_12⟩ := lc13 BK416.out) | (go_at_call 10; (with_reducible refine (plan_Holds0 k (wrap64 (1 + (Int.tmod (wrap64 (a2)) 4))) t415 t415 t423 _ A11.out).mono ?_); rintro e w39 ⟨rfl, hb⟩; have n0_ := Aside0.mk (blk_below (g := gb416) (Up.up BK416.out) hb); have n1_ := Aside0.mk (below_step (by exact h1q HB.out GE416.out) hb); clear BK416; clear HB; have BK416 := n0_; have HB := n1_; clear n0_ n1_; (try clear hb); (try clear hb2); (try clear hk); (try clear hi); obtain ⟨hcz40_0, hcz40_1, hcz40_2, hcz40_3, hcz40_4, hcz40_5, hcz40_6, hcz40_7, hcz40_8, hcz40_9, hcz40_10, hcz40_11, hcz40_12, hfz40_0, hfz40_1, hfz40_2, hfz40_3, hfz40_4, hfz40_5, hfz40_6, hfz40_7, hfz40_8, hfz40_9, hfz40_10, hfz40_11, hfz40_12⟩ := lc13 BK416.out) | (go_at_call 10; (with_reducible refine (plan_Holds0 k (wrap64 (1 + (Int.tmod (wrap64 (a2)) 4))) t415 t417 t424 _ A14.out).mono ?_); rintro e w41 ⟨rfl, hb⟩; have n0_ := Aside0.mk (blk_below (g := gb416) (Up.up BK416.out) hb); have n1_ := Aside0.mk (below_step (by exact h1q HB.out GE416.out) hb); clear BK416; clear HB; have BK416 := n0_; have HB := n1_; clear n0_ n1_; (try clear hb); (try clear hb2); (try clear hk); (try clear hi)) | ((with_reducible refine gate_callee (f := 8) rfl ?_); refine goesL_ (some 79) rfl rfl Try.func8 (by kernel_rfl) rfl #[] rfl (by (try simp only [List.map_toArray, List.map_cons, List.map_nil]); first | done | rfl | (simp only [List.length_drop, List.length_take]; rfl)) ?_; (with_reducible refine (annuitylaw18_wakes.calls k  t427 _ A32.out).mono ?_); rintro e w42 ⟨rfl, hb⟩; refine ⟨_, rfl, ?_⟩; have n0_ := Aside0.mk (blk_below (g := gb416) (Up.up BK416.out) hb); have n1_ := Aside0.mk (below_step (by exact h1q HB.out GE416.out) hb); clear BK416; clear HB; have BK416 := n0_; have HB := n1_; clear n0_ n1_; (try clear hb); (try clear hb2); (try clear hk); (try clear hi)))
        go_ret
        exact ⟨by first | rfl | (simp [errW_none, errW_some] <;> rfl) | (simp [*, errW_none, errW_some] <;> rfl), by exact h1q HB.out GE416.out⟩
      ·rw [if_neg c15] at H
       exact absurd H (by simp)
     ·rw [if_neg c13] at H
      have c13b0 : decide (t417 ≤ (wrap64 (t415 + 364))) = false := decide_eq_false c13
      clear c13
      by_cases c43 : t417 ≥ (wrap64 (t415 + 366))
      ·rw [if_pos c43] at H
       have c43b0 : decide ((wrap64 (t415 + 366)) ≤ t417) = true := decide_eq_true c43
       clear c43
       replace H := Option.bind_eq_some_iff.mp H
       obtain ⟨t428, A440, H⟩ := H
       replace H : (if t428 = 1 then ((annuitylaw18_wakes.f k).bind fun t429 => (some t429)) else (none)) = some r := H
       have A44 := Aside0.mk A440
       clear A440
       by_cases c45 : t428 = 1
       ·rw [if_pos c45] at H
        have c45b0 : (t428 == 1) = true := beq_iff_eq.mpr c45
        have c45b1 : (t428 != 1) = false := bne_eq_false_iff_eq.mpr c45
        clear c45
        replace H := Option.bind_eq_some_iff.mp H
        obtain ⟨t429, A460, H⟩ := H
        replace H : (some t429) = some r := H
        have A46 := Aside0.mk A460
        clear A460
        obtain rfl := Option.some.inj H
        go_enter Try.func4, Try.ntmps4
        go_wp2_with (first | ((with_reducible refine gate_callee (f := 9) rfl ?_); refine goesL_ (some 11) rfl rfl Try.func9 (by kernel_rfl) rfl #[.int .i64 a0, .int .i64 87258] rfl (by (try simp only [List.map_toArray, List.map_cons, List.map_nil]); first | done | rfl | (simp only [List.length_drop, List.length_take]; rfl)) ?_; (with_reducible refine (annuitykeep_Mod.calls a0 87258 t415 _ A4.out).mono ?_); rintro e w' ⟨rfl, ⟨nd, rfl⟩⟩; refine ⟨_, rfl, ?_⟩) | ((with_reducible refine gate_dst (N := 8) rfl ?_); refine box_event ?hg (N := 8) ?hd (cs := #[.int .i64 0, .slice none 0 0, .int .i64 0, .int .i64 0, .int .i64 0, .int .i64 0, .slice none 0 0, .int .i64 0, .int .i64 0, .int .i64 0, .int .i64 0, .int .i64 0, .int .i64 0]) (t := 38) ?hr ?_; (case hd => rfl); (case hg => rfl); (case hr => first | (go_simp; done) | (go_simp; rfl)); intro gb416 hg w47 hbox hb; have n0_ := Aside0.mk (below_step (by exact h0q HB.out) hb); have n1_ := Aside0.mk (hbox); have n2_ := Aside0.mk ((by rw [hg]; exact (below_size (by exact h0q HB.out)) : w.heap.size ≤ gb416)); have n3_ := Aside0.mk ((by rw [hg]; exact (below_size (by exact h0q HB.out)) : w.heap.size ≤ gb416)); clear HB; have HB := n0_; have BK416 := n1_; have GW416 := n2_; have GE416 := n3_; clear n0_ n1_ n2_ n3_; clear hb hbox hg; obtain ⟨hcz48_0, hcz48_1, hcz48_2, hcz48_3, hcz48_4, hcz48_5, hcz48_6, hcz48_7, hcz48_8, hcz48_9, hcz48_10, hcz48_11, hcz48_12, hfz48_0, hfz48_1, hfz48_2, hfz48_3, hfz48_4, hfz48_5, hfz48_6, hfz48_7, hfz48_8, hfz48_9, hfz48_10, hfz48_11, hfz48_12⟩ := lc13 BK416.out) | ((with_reducible refine gate_callee (f := 9) rfl ?_); refine goesL_ (some 19) rfl rfl Try.func9 (by kernel_rfl) rfl #[.int .i64 a1, .int .i64 87659] rfl (by (try simp only [List.map_toArray, List.map_cons, List.map_nil]); first | done | rfl | (simp only [List.length_drop, List.length_take]; rfl)) ?_; (with_reducible refine (annuitykeep_Mod.calls a1 87659 t417 _ A5.out).mono ?_); rintro e w' ⟨rfl, ⟨nd, rfl⟩⟩; refine ⟨_, rfl, ?_⟩) | ((with_reducible refine gate_callee (f := 10) rfl ?_); refine goesL_ (some 42) rfl rfl Try.func10 (by kernel_rfl) rfl #[.agg #[.int .i64 0, .slice none 0 0, .int .i64 (wrap64 (1 + (Int.tmod (wrap64 (a2)) 4))), .int .i64 t415, .int .i64 0, .int .i64 0, .slice none 0 0, .int .i64 0, .int .i64 0, .int .i64 0, .int .i64 0, .int .i64 0, .int .i64 0], .int .i64 (wrap64 (t415 + 364))] rfl (by (try simp only [List.map_toArray, List.map_cons, List.map_nil]); first | done | rfl | (simp only [List.length_drop, List.length_take]; rfl)) ?_; (with_reducible refine (plan_Holds0 k (wrap64 (1 + (Int.tmod (wrap64 (a2)) 4))) t415 (wrap64 (t415 + 364)) t421 _ A7.out).mono ?_); rintro e w49 ⟨rfl, hb⟩; refine ⟨_, rfl, ?_⟩; have n0_ := Aside0.mk (blk_below (g := gb416) (o := .cells #[.int .i64 0, .slice none 0 0, .int .i64 (wrap64 (1 + (Int.tmod (wrap64 (a2)) 4))), .int .i64 t415, .int .i64 0, .int .i64 0, .slice none 0 0, .int .i64 0, .int .i64 0, .int .i64 0, .int .i64 0, .int .i64 0, .int .i64 0] 38 (0, 0)) (by (with_reducible repeat (first | refine blk_drewN ?_ _ | refine blk_drew ?_ | refine blk_alloc ?_ _)); refine blk_put (cs := #[.int .i64 0, .slice none 0 0, .int .i64 (wrap64 (1 + (Int.tmod (wrap64 (a2)) 4))), .int .i64 t415, .int .i64 0, .int .i64 0, .slice none 0 0, .int .i64 0, .int .i64 0, .int .i64 0, .int .i64 0, .int .i64 0, .int .i64 0]) ?_ 12 _ rfl; (with_reducible repeat (first | refine blk_drewN ?_ _ | refine blk_drew ?_ | refine blk_alloc ?_ _)); refine blk_put (cs := #[.int .i64 0, .slice none 0 0, .int .i64 (wrap64 (1 + (Int.tmod (wrap64 (a2)) 4))), .int .i64 t415, .int .i64 0, .int .i64 0, .slice none 0 0, .int .i64 0, .int .i64 0, .int .i64 0, .int .i64 0, .int .i64 0, .int .i64 0]) ?_ 11 _ rfl; (with_reducible repeat (first | refine blk_drewN ?_ _ | refine blk_drew ?_ | refine blk_alloc ?_ _)); refine blk_put (cs := #[.int .i64 0, .slice none 0 0, .int .i64 (wrap64 (1 + (Int.tmod (wrap64 (a2)) 4))), .int .i64 t415, .int .i64 0, .int .i64 0, .slice none 0 0, .int .i64 0, .int .i64 0, .int .i64 0, .int .i64 0, .int .i64 0, .int .i64 0]) ?_ 10 _ rfl; (with_reducible repeat (first | refine blk_drewN ?_ _ | refine blk_drew ?_ | refine blk_alloc ?_ _)); refine blk_put (cs := #[.int .i64 0, .slice none 0 0, .int .i64 (wrap64 (1 + (Int.tmod (wrap64 (a2)) 4))), .int .i64 t415, .int .i64 0, .int .i64 0, .slice none 0 0, .int .i64 0, .int .i64 0, .int .i64 0, .int .i64 0, .int .i64 0, .int .i64 0]) ?_ 9 _ rfl; (with_reducible repeat (first | refine blk_drewN ?_ _ | refine blk_drew ?_ | refine blk_alloc ?_ _)); refine blk_put (cs := #[.int .i64 0, .slice none 0 0, .int .i64 (wrap64 (1 + (Int.tmod (wrap64 (a2)) 4))), .int .i64 t415, .int .i64 0, .int .i64 0, .slice none 0 0, .int .i64 0, .int .i64 0, .int .i64 0, .int .i64 0, .int .i64 0, .int .i64 0]) ?_ 8 _ rfl; (with_reducible repeat (first | refine blk_drewN ?_ _ | refine blk_drew ?_ | refine blk_alloc ?_ _)); refine blk_put (cs := #[.int .i64 0, .slice none 0 0, .int .i64 (wrap64 (1 + (Int.tmod (wrap64 (a2)) 4))), .int .i64 t415, .int .i64 0, .int .i64 0, .slice none 0 0, .int .i64 0, .int .i64 0, .int .i64 0, .int .i64 0, .int .i64 0, .int .i64 0]) ?_ 7 _ rfl; (with_reducible repeat (first | refine blk_drewN ?_ _ | refine blk_drew ?_ | refine blk_alloc ?_ _)); refine blk_put (cs := #[.int .i64 0, .slice none 0 0, .int .i64 (wrap64 (1 + (Int.tmod (wrap64 (a2)) 4))), .int .i64 t415, .int .i64 0, .int .i64 0, .slice none 0 0, .int .i64 0, .int .i64 0, .int .i64 0, .int .i64 0, .int .i64 0, .int .i64 0]) ?_ 6 _ rfl; (with_reducible repeat (first | refine blk_drewN ?_ _ | refine blk_drew ?_ | refine blk_alloc ?_ _)); refine blk_put (cs := #[.int .i64 0, .slice none 0 0, .int .i64 (wrap64 (1 + (Int.tmod (wrap64 (a2)) 4))), .int .i64 t415, .int .i64 0, .int .i64 0, .slice none 0 0, .int .i64 0, .int .i64 0, .int .i64 0, .int .i64 0, .int .i64 0, .int .i64 0]) ?_ 5 _ rfl; (with_reducible repeat (first | refine blk_drewN ?_ _ | refine blk_drew ?_ | refine blk_alloc ?_ _)); refine blk_put (cs := #[.int .i64 0, .slice none 0 0, .int .i64 (wrap64 (1 + (Int.tmod (wrap64 (a2)) 4))), .int .i64 t415, .int .i64 0, .int .i64 0, .slice none 0 0, .int .i64 0, .int .i64 0, .int .i64 0, .int .i64 0, .int .i64 0, .int .i64 0]) ?_ 4 _ rfl; (with_reducible repeat (first | refine blk_drewN ?_ _ | refine blk_drew ?_ | refine blk_alloc ?_ _)); refine blk_put (cs := #[.int .i64 0, .slice none 0 0, .int .i64 (wrap64 (1 + (Int.tmod (wrap64 (a2)) 4))), .int .i64 0, .int .i64 0, .int .i64 0, .slice none 0 0, .int .i64 0, .int .i64 0, .int .i64 0, .int .i64 0, .int .i64 0, .int .i64 0]) ?_ 3 _ rfl; (with_reducible repeat (first | refine blk_drewN ?_ _ | refine blk_drew ?_ | refine blk_alloc ?_ _)); refine blk_put (cs := #[.int .i64 0, .slice none 0 0, .int .i64 0, .int .i64 0, .int .i64 0, .int .i64 0, .slice none 0 0, .int .i64 0, .int .i64 0, .int .i64 0, .int .i64 0, .int .i64 0, .int .i64 0]) ?_ 2 _ rfl; (with_reducible repeat (first | refine blk_drewN ?_ _ | refine blk_drew ?_ | refine blk_alloc ?_ _)); refine blk_put (cs := #[.int .i64 0, .slice none 0 0, .int .i64 0, .int .i64 0, .int .i64 0, .int .i64 0, .slice none 0 0, .int .i64 0, .int .i64 0, .int .i64 0, .int .i64 0, .int .i64 0, .int .i64 0]) ?_ 1 _ rfl; (with_reducible repeat (first | refine blk_drewN ?_ _ | refine blk_drew ?_ | refine blk_alloc ?_ _)); refine blk_put (cs := #[.int .i64 0, .slice none 0 0, .int .i64 0, .int .i64 0, .int .i64 0, .int .i64 0, .slice none 0 0, .int .i64 0, .int .i64 0, .int .i64 0, .int .i64 0, .int .i64 0, .int .i64 0]) ?_ 0 _ rfl; (with_reducible repeat (first | refine blk_drewN ?_ _ | refine blk_drew ?_ | refine blk_alloc ?_ _)); exact BK416.out) hb); have n1_ := Aside0.mk (below_step (by exact h1q HB.out GE416.out) hb); clear BK416; clear HB; have BK416 := n0_; have HB := n1_; clear n0_ n1_; (try clear hb); (try clear hb2); (try clear hk); (try clear hi); obtain ⟨hcz50_0, hcz50_1, hcz50_2, hcz50_3, hcz50_4, hcz50_5, hcz50_6, hcz50_7, hcz50_8, hcz50_9, hcz50_10, hcz50_11, hcz50_12, hfz50_0, hfz50_1, hfz50_2, hfz50_3, hfz50_4, hfz50_5, hfz50_6, hfz50_7, hfz50_8, hfz50_9, hfz50_10, hfz50_11, hfz50_12⟩ := lc13 BK416.out) | (go_at_call 10; (with_reducible refine (plan_Holds0 k (wrap64 (1 + (Int.tmod (wrap64 (a2)) 4))) t415 (wrap64 (t415 + 366)) t422 _ A9.out).mono ?_); rintro e w51 ⟨rfl, hb⟩; have n0_ := Aside0.mk (blk_below (g := gb416) (Up.up BK416.out) hb); have n1_ := Aside0.mk (below_step (by exact h1q HB.out GE416.out) hb); clear BK416; clear HB; have BK416 := n0_; have HB := n1_; clear n0_ n1_; (try clear hb); (try clear hb2); (try clear hk); (try clear hi); obtain ⟨hcz52_0, hcz52_1, hcz52_2, hcz52_3, hcz52_4, hcz52_5, hcz52_6, hcz52_7, hcz52_8, hcz52_9, hcz52_10, hcz52_11, hcz52_12, hfz52_0, hfz52_1, hfz52_2, hfz52_3, hfz52_4, hfz52_5, hfz52_6, hfz52_7, hfz52_8, hfz52_9, hfz52_10, hfz52_11, hfz52_12⟩ := lc13 BK416.out) | (go_at_call 10; (with_reducible refine (plan_Holds0 k (wrap64 (1 + (Int.tmod (wrap64 (a2)) 4))) t415 t415 t423 _ A11.out).mono ?_); rintro e w53 ⟨rfl, hb⟩; have n0_ := Aside0.mk (blk_below (g := gb416) (Up.up BK416.out) hb); have n1_ := Aside0.mk (below_step (by exact h1q HB.out GE416.out) hb); clear BK416; clear HB; have BK416 := n0_; have HB := n1_; clear n0_ n1_; (try clear hb); (try clear hb2); (try clear hk); (try clear hi); obtain ⟨hcz54_0, hcz54_1, hcz54_2, hcz54_3, hcz54_4, hcz54_5, hcz54_6, hcz54_7, hcz54_8, hcz54_9, hcz54_10, hcz54_11, hcz54_12, hfz54_0, hfz54_1, hfz54_2, hfz54_3, hfz54_4, hfz54_5, hfz54_6, hfz54_7, hfz54_8, hfz54_9, hfz54_10, hfz54_11, hfz54_12⟩ := lc13 BK416.out) | (go_at_call 10; (with_reducible refine (plan_Holds0 k (wrap64 (1 + (Int.tmod (wrap64 (a2)) 4))) t415 t417 t428 _ A44.out).mono ?_); rintro e w55 ⟨rfl, hb⟩; have n0_ := Aside0.mk (blk_below (g := gb416) (Up.up BK416.out) hb); have n1_ := Aside0.mk (below_step (by exact h1q HB.out GE416.out) hb); clear BK416; clear HB; have BK416 := n0_; have HB := n1_; clear n0_ n1_; (try clear hb); (try clear hb2); (try clear hk); (try clear hi)) | ((with_reducible refine gate_callee (f := 8) rfl ?_); refine goesL_ (some 79) rfl rfl Try.func8 (by kernel_rfl) rfl #[] rfl (by (try simp only [List.map_toArray, List.map_cons, List.map_nil]); first | done | rfl | (simp only [List.length_drop, List.length_take]; rfl)) ?_; (with_reducible refine (annuitylaw18_wakes.calls k  t429 _ A46.out).mono ?_); rintro e w56 ⟨rfl, hb⟩; refine ⟨_, rfl, ?_⟩; have n0_ := Aside0.mk (blk_below (g := gb416) (Up.up BK416.out) hb); have n1_ := Aside0.mk (below_step (by exact h1q HB.out GE416.out) hb); clear BK416; clear HB; have BK416 := n0_; have HB := n1_; clear n0_ n1_; (try clear hb); (try clear hb2); (try clear hk); (try clear hi)))
        go_ret
        exact ⟨by first | rfl | (simp [errW_none, errW_some] <;> rfl) | (simp [*, errW_none, errW_some] <;> rfl), by exact h1q HB.out GE416.out⟩
       ·rw [if_neg c45] at H
        exact absurd H (by simp)
      ·rw [if_neg c43] at H
       have c43b0 : decide ((wrap64 (t415 + 366)) ≤ t417) = false := decide_eq_false c43
       clear c43
       replace H := Option.bind_eq_some_iff.mp H
       obtain ⟨t430, A570, H⟩ := H
       replace H : (some t430) = some r := H
       have A57 := Aside0.mk A570
       clear A570
       obtain rfl := Option.some.inj H
       go_enter Try.func4, Try.ntmps4
       go_wp2_with (first | ((with_reducible refine gate_callee (f := 9) rfl ?_); refine goesL_ (some 11) rfl rfl Try.func9 (by kernel_rfl) rfl #[.int .i64 a0, .int .i64 87258] rfl (by (try simp only [List.map_toArray, List.map_cons, List.map_nil]); first | done | rfl | (simp only [List.length_drop, List.length_take]; rfl)) ?_; (with_reducible refine (annuitykeep_Mod.calls a0 87258 t415 _ A4.out).mono ?_); rintro e w' ⟨rfl, ⟨nd, rfl⟩⟩; refine ⟨_, rfl, ?_⟩) | ((with_reducible refine gate_dst (N := 8) rfl ?_); refine box_event ?hg (N := 8) ?hd (cs := #[.int .i64 0, .slice none 0 0, .int .i64 0, .int .i64 0, .int .i64 0, .int .i64 0, .slice none 0 0, .int .i64 0, .int .i64 0, .int .i64 0, .int .i64 0, .int .i64 0, .int .i64 0]) (t := 38) ?hr ?_; (case hd => rfl); (case hg => rfl); (case hr => first | (go_simp; done) | (go_simp; rfl)); intro gb416 hg w58 hbox hb; have n0_ := Aside0.mk (below_step (by exact h0q HB.out) hb); have n1_ := Aside0.mk (hbox); have n2_ := Aside0.mk ((by rw [hg]; exact (below_size (by exact h0q HB.out)) : w.heap.size ≤ gb416)); have n3_ := Aside0.mk ((by rw [hg]; exact (below_size (by exact h0q HB.out)) : w.heap.size ≤ gb416)); clear HB; have HB := n0_; have BK416 := n1_; have GW416 := n2_; have GE416 := n3_; clear n0_ n1_ n2_ n3_; clear hb hbox hg; obtain ⟨hcz59_0, hcz59_1, hcz59_2, hcz59_3, hcz59_4, hcz59_5, hcz59_6, hcz59_7, hcz59_8, hcz59_9, hcz59_10, hcz59_11, hcz59_12, hfz59_0, hfz59_1, hfz59_2, hfz59_3, hfz59_4, hfz59_5, hfz59_6, hfz59_7, hfz59_8, hfz59_9, hfz59_10, hfz59_11, hfz59_12⟩ := lc13 BK416.out) | ((with_reducible refine gate_callee (f := 9) rfl ?_); refine goesL_ (some 19) rfl rfl Try.func9 (by kernel_rfl) rfl #[.int .i64 a1, .int .i64 87659] rfl (by (try simp only [List.map_toArray, List.map_cons, List.map_nil]); first | done | rfl | (simp only [List.length_drop, List.length_take]; rfl)) ?_; (with_reducible refine (annuitykeep_Mod.calls a1 87659 t417 _ A5.out).mono ?_); rintro e w' ⟨rfl, ⟨nd, rfl⟩⟩; refine ⟨_, rfl, ?_⟩) | ((with_reducible refine gate_callee (f := 10) rfl ?_); refine goesL_ (some 42) rfl rfl Try.func10 (by kernel_rfl) rfl #[.agg #[.int .i64 0, .slice none 0 0, .int .i64 (wrap64 (1 + (Int.tmod (wrap64 (a2)) 4))), .int .i64 t415, .int .i64 0, .int .i64 0, .slice none 0 0, .int .i64 0, .int .i64 0, .int .i64 0, .int .i64 0, .int .i64 0, .int .i64 0], .int .i64 (wrap64 (t415 + 364))] rfl (by (try simp only [List.map_toArray, List.map_cons, List.map_nil]); first | done | rfl | (simp only [List.length_drop, List.length_take]; rfl)) ?_; (with_reducible refine (plan_Holds0 k (wrap64 (1 + (Int.tmod (wrap64 (a2)) 4))) t415 (wrap64 (t415 + 364)) t421 _ A7.out).mono ?_); rintro e w60 ⟨rfl, hb⟩; refine ⟨_, rfl, ?_⟩; have n0_ := Aside0.mk (blk_below (g := gb416) (o := .cells #[.int .i64 0, .slice none 0 0, .int .i64 (wrap64 (1 + (Int.tmod (wrap64 (a2)) 4))), .int .i64 t415, .int .i64 0, .int .i64 0, .slice none 0 0, .int .i64 0, .int .i64 0, .int .i64 0, .int .i64 0, .int .i64 0, .int .i64 0] 38 (0, 0)) (by (with_reducible repeat (first | refine blk_drewN ?_ _ | refine blk_drew ?_ | refine blk_alloc ?_ _)); refine blk_put (cs := #[.int .i64 0, .slice none 0 0, .int .i64 (wrap64 (1 + (Int.tmod (wrap64 (a2)) 4))), .int .i64 t415, .int .i64 0, .int .i64 0, .slice none 0 0, .int .i64 0, .int .i64 0, .int .i64 0, .int .i64 0, .int .i64 0, .int .i64 0]) ?_ 12 _ rfl; (with_reducible repeat (first | refine blk_drewN ?_ _ | refine blk_drew ?_ | refine blk_alloc ?_ _)); refine blk_put (cs := #[.int .i64 0, .slice none 0 0, .int .i64 (wrap64 (1 + (Int.tmod (wrap64 (a2)) 4))), .int .i64 t415, .int .i64 0, .int .i64 0, .slice none 0 0, .int .i64 0, .int .i64 0, .int .i64 0, .int .i64 0, .int .i64 0, .int .i64 0]) ?_ 11 _ rfl; (with_reducible repeat (first | refine blk_drewN ?_ _ | refine blk_drew ?_ | refine blk_alloc ?_ _)); refine blk_put (cs := #[.int .i64 0, .slice none 0 0, .int .i64 (wrap64 (1 + (Int.tmod (wrap64 (a2)) 4))), .int .i64 t415, .int .i64 0, .int .i64 0, .slice none 0 0, .int .i64 0, .int .i64 0, .int .i64 0, .int .i64 0, .int .i64 0, .int .i64 0]) ?_ 10 _ rfl; (with_reducible repeat (first | refine blk_drewN ?_ _ | refine blk_drew ?_ | refine blk_alloc ?_ _)); refine blk_put (cs := #[.int .i64 0, .slice none 0 0, .int .i64 (wrap64 (1 + (Int.tmod (wrap64 (a2)) 4))), .int .i64 t415, .int .i64 0, .int .i64 0, .slice none 0 0, .int .i64 0, .int .i64 0, .int .i64 0, .int .i64 0, .int .i64 0, .int .i64 0]) ?_ 9 _ rfl; (with_reducible repeat (first | refine blk_drewN ?_ _ | refine blk_drew ?_ | refine blk_alloc ?_ _)); refine blk_put (cs := #[.int .i64 0, .slice none 0 0, .int .i64 (wrap64 (1 + (Int.tmod (wrap64 (a2)) 4))), .int .i64 t415, .int .i64 0, .int .i64 0, .slice none 0 0, .int .i64 0, .int .i64 0, .int .i64 0, .int .i64 0, .int .i64 0, .int .i64 0]) ?_ 8 _ rfl; (with_reducible repeat (first | refine blk_drewN ?_ _ | refine blk_drew ?_ | refine blk_alloc ?_ _)); refine blk_put (cs := #[.int .i64 0, .slice none 0 0, .int .i64 (wrap64 (1 + (Int.tmod (wrap64 (a2)) 4))), .int .i64 t415, .int .i64 0, .int .i64 0, .slice none 0 0, .int .i64 0, .int .i64 0, .int .i64 0, .int .i64 0, .int .i64 0, .int .i64 0]) ?_ 7 _ rfl; (with_reducible repeat (first | refine blk_drewN ?_ _ | refine blk_drew ?_ | refine blk_alloc ?_ _)); refine blk_put (cs := #[.int .i64 0, .slice none 0 0, .int .i64 (wrap64 (1 + (Int.tmod (wrap64 (a2)) 4))), .int .i64 t415, .int .i64 0, .int .i64 0, .slice none 0 0, .int .i64 0, .int .i64 0, .int .i64 0, .int .i64 0, .int .i64 0, .int .i64 0]) ?_ 6 _ rfl; (with_reducible repeat (first | refine blk_drewN ?_ _ | refine blk_drew ?_ | refine blk_alloc ?_ _)); refine blk_put (cs := #[.int .i64 0, .slice none 0 0, .int .i64 (wrap64 (1 + (Int.tmod (wrap64 (a2)) 4))), .int .i64 t415, .int .i64 0, .int .i64 0, .slice none 0 0, .int .i64 0, .int .i64 0, .int .i64 0, .int .i64 0, .int .i64 0, .int .i64 0]) ?_ 5 _ rfl; (with_reducible repeat (first | refine blk_drewN ?_ _ | refine blk_drew ?_ | refine blk_alloc ?_ _)); refine blk_put (cs := #[.int .i64 0, .slice none 0 0, .int .i64 (wrap64 (1 + (Int.tmod (wrap64 (a2)) 4))), .int .i64 t415, .int .i64 0, .int .i64 0, .slice none 0 0, .int .i64 0, .int .i64 0, .int .i64 0, .int .i64 0, .int .i64 0, .int .i64 0]) ?_ 4 _ rfl; (with_reducible repeat (first | refine blk_drewN ?_ _ | refine blk_drew ?_ | refine blk_alloc ?_ _)); refine blk_put (cs := #[.int .i64 0, .slice none 0 0, .int .i64 (wrap64 (1 + (Int.tmod (wrap64 (a2)) 4))), .int .i64 0, .int .i64 0, .int .i64 0, .slice none 0 0, .int .i64 0, .int .i64 0, .int .i64 0, .int .i64 0, .int .i64 0, .int .i64 0]) ?_ 3 _ rfl; (with_reducible repeat (first | refine blk_drewN ?_ _ | refine blk_drew ?_ | refine blk_alloc ?_ _)); refine blk_put (cs := #[.int .i64 0, .slice none 0 0, .int .i64 0, .int .i64 0, .int .i64 0, .int .i64 0, .slice none 0 0, .int .i64 0, .int .i64 0, .int .i64 0, .int .i64 0, .int .i64 0, .int .i64 0]) ?_ 2 _ rfl; (with_reducible repeat (first | refine blk_drewN ?_ _ | refine blk_drew ?_ | refine blk_alloc ?_ _)); refine blk_put (cs := #[.int .i64 0, .slice none 0 0, .int .i64 0, .int .i64 0, .int .i64 0, .int .i64 0, .slice none 0 0, .int .i64 0, .int .i64 0, .int .i64 0, .int .i64 0, .int .i64 0, .int .i64 0]) ?_ 1 _ rfl; (with_reducible repeat (first | refine blk_drewN ?_ _ | refine blk_drew ?_ | refine blk_alloc ?_ _)); refine blk_put (cs := #[.int .i64 0, .slice none 0 0, .int .i64 0, .int .i64 0, .int .i64 0, .int .i64 0, .slice none 0 0, .int .i64 0, .int .i64 0, .int .i64 0, .int .i64 0, .int .i64 0, .int .i64 0]) ?_ 0 _ rfl; (with_reducible repeat (first | refine blk_drewN ?_ _ | refine blk_drew ?_ | refine blk_alloc ?_ _)); exact BK416.out) hb); have n1_ := Aside0.mk (below_step (by exact h1q HB.out GE416.out) hb); clear BK416; clear HB; have BK416 := n0_; have HB := n1_; clear n0_ n1_; (try clear hb); (try clear hb2); (try clear hk); (try clear hi); obtain ⟨hcz61_0, hcz61_1, hcz61_2, hcz61_3, hcz61_4, hcz61_5, hcz61_6, hcz61_7, hcz61_8, hcz61_9, hcz61_10, hcz61_11, hcz61_12, hfz61_0, hfz61_1, hfz61_2, hfz61_3, hfz61_4, hfz61_5, hfz61_6, hfz61_7, hfz61_8, hfz61_9, hfz61_10, hfz61_11, hfz61_12⟩ := lc13 BK416.out) | (go_at_call 10; (with_reducible refine (plan_Holds0 k (wrap64 (1 + (Int.tmod (wrap64 (a2)) 4))) t415 (wrap64 (t415 + 366)) t422 _ A9.out).mono ?_); rintro e w62 ⟨rfl, hb⟩; have n0_ := Aside0.mk (blk_below (g := gb416) (Up.up BK416.out) hb); have n1_ := Aside0.mk (below_step (by exact h1q HB.out GE416.out) hb); clear BK416; clear HB; have BK416 := n0_; have HB := n1_; clear n0_ n1_; (try clear hb); (try clear hb2); (try clear hk); (try clear hi); obtain ⟨hcz63_0, hcz63_1, hcz63_2, hcz63_3, hcz63_4, hcz63_5, hcz63_6, hcz63_7, hcz63_8, hcz63_9, hcz63_10, hcz63_11, hcz63_12, hfz63_0, hfz63_1, hfz63_2, hfz63_3, hfz63_4, hfz63_5, hfz63_6, hfz63_7, hfz63_8, hfz63_9, hfz63_10, hfz63_11, hfz63_12⟩ := lc13 BK416.out) | (go_at_call 10; (with_reducible refine (plan_Holds0 k (wrap64 (1 + (Int.tmod (wrap64 (a2)) 4))) t415 t415 t423 _ A11.out).mono ?_); rintro e w64 ⟨rfl, hb⟩; have n0_ := Aside0.mk (blk_below (g := gb416) (Up.up BK416.out) hb); have n1_ := Aside0.mk (below_step (by exact h1q HB.out GE416.out) hb); clear BK416; clear HB; have BK416 := n0_; have HB := n1_; clear n0_ n1_; (try clear hb); (try clear hb2); (try clear hk); (try clear hi)) | ((with_reducible refine gate_callee (f := 8) rfl ?_); refine goesL_ (some 79) rfl rfl Try.func8 (by kernel_rfl) rfl #[] rfl (by (try simp only [List.map_toArray, List.map_cons, List.map_nil]); first | done | rfl | (simp only [List.length_drop, List.length_take]; rfl)) ?_; (with_reducible refine (annuitylaw18_wakes.calls k  t430 _ A57.out).mono ?_); rintro e w65 ⟨rfl, hb⟩; refine ⟨_, rfl, ?_⟩; have n0_ := Aside0.mk (blk_below (g := gb416) (Up.up BK416.out) hb); have n1_ := Aside0.mk (below_step (by exact h1q HB.out GE416.out) hb); clear BK416; clear HB; have BK416 := n0_; have HB := n1_; clear n0_ n1_; (try clear hb); (try clear hb2); (try clear hk); (try clear hi)))
       go_ret
       exact ⟨by first | rfl | (simp [errW_none, errW_some] <;> rfl) | (simp [*, errW_none, errW_some] <;> rfl), by exact h1q HB.out GE416.out⟩
    ·rw [if_neg c12] at H
     exact absurd H (by simp)
   ·rw [if_neg c10] at H
    exact absurd H (by simp)
  ·rw [if_neg c8] at H
   exact absurd H (by simp)
 ·rw [if_neg c6] at H
  have c6b0 : ((wrap64 (1 + (Int.tmod (wrap64 (a2)) 4))) == 4) = false := beq_eq_false_iff_ne.mpr c6
  have c6b1 : ((wrap64 (1 + (Int.tmod (wrap64 (a2)) 4))) != 4) = true := bne_iff_ne.mpr c6
  replace H := Option.bind_eq_some_iff.mp H
  obtain ⟨t418, A660, H⟩ := H
  replace H : (if t418 = (wrap64 (1 + (Int.tmod (wrap64 (a2)) 4))) then ((plan_Holds.f k 0 ([] : List (S23)) 0 t415 0 0 ([] : List (S147)) 0 0 0 0 0 0 t417).bind fun t419 => (if t419 = 1 then ((annuitylaw18_wakes.f k).bind fun t420 => (some t420)) else (none))) else (none)) = some r := H
  have A66 := Aside0.mk A660
  clear A660
  by_cases c67 : t418 = (wrap64 (1 + (Int.tmod (wrap64 (a2)) 4)))
  ·rw [if_pos c67] at H
   have c67b0 : (t418 == (wrap64 (1 + (Int.tmod (wrap64 (a2)) 4)))) = true := beq_iff_eq.mpr c67
   have c67b1 : (t418 != (wrap64 (1 + (Int.tmod (wrap64 (a2)) 4)))) = false := bne_eq_false_iff_eq.mpr c67
   clear c67
   replace H := Option.bind_eq_some_iff.mp H
   obtain ⟨t419, A680, H⟩ := H
   replace H : (if t419 = 1 then ((annuitylaw18_wakes.f k).bind fun t420 => (some t420)) else (none)) = some r := H
   have A68 := Aside0.mk A680
   clear A680
   by_cases c69 : t419 = 1
   ·rw [if_pos c69] at H
    have c69b0 : (t419 == 1) = true := beq_iff_eq.mpr c69
    have c69b1 : (t419 != 1) = false := bne_eq_false_iff_eq.mpr c69
    clear c69
    replace H := Option.bind_eq_some_iff.mp H
    obtain ⟨t420, A700, H⟩ := H
    replace H : (some t420) = some r := H
    have A70 := Aside0.mk A700
    clear A700
    obtain rfl := Option.some.inj H
    go_enter Try.func4, Try.ntmps4
    try go_wp2_with (first | ((with_reducible refine gate_callee (f := 9) rfl ?_); refine goesL_ (some 11) rfl rfl Try.func9 (by kernel_rfl) rfl #[.int .i64 a0, .int .i64 87258] rfl (by (try simp only [List.map_toArray, List.map_cons, List.map_nil]); first | done | rfl | (simp only [List.length_drop, List.length_take]; rfl)) ?_; (with_reducible refine (annuitykeep_Mod.calls a0 87258 t415 _ A4.out).mono ?_); rintro e w' ⟨rfl, ⟨nd, rfl⟩⟩; refine ⟨_, rfl, ?_⟩) | ((with_reducible refine gate_dst (N := 8) rfl ?_); refine box_event ?hg (N := 8) ?hd (cs := #[.int .i64 0, .slice none 0 0, .int .i64 0, .int .i64 0, .int .i64 0, .int .i64 0, .slice none 0 0, .int .i64 0, .int .i64 0, .int .i64 0, .int .i64 0, .int .i64 0, .int .i64 0]) (t := 38) ?hr ?_; (case hd => rfl); (case hg => rfl); (case hr => first | (go_simp; done) | (go_simp; rfl)); intro gb416 hg w71 hbox hb; have n0_ := Aside0.mk (below_step (by exact h0q HB.out) hb); have n1_ := Aside0.mk (hbox); have n2_ := Aside0.mk ((by rw [hg]; exact (below_size (by exact h0q HB.out)) : w.heap.size ≤ gb416)); have n3_ := Aside0.mk ((by rw [hg]; exact (below_size (by exact h0q HB.out)) : w.heap.size ≤ gb416)); clear HB; have HB := n0_; have BK416 := n1_; have GW416 := n2_; have GE416 := n3_; clear n0_ n1_ n2_ n3_; clear hb hbox hg; obtain ⟨hcz72_0, hcz72_1, hcz72_2, hcz72_3, hcz72_4, hcz72_5, hcz72_6, hcz72_7, hcz72_8, hcz72_9, hcz72_10, hcz72_11, hcz72_12, hfz72_0, hfz72_1, hfz72_2, hfz72_3, hfz72_4, hfz72_5, hfz72_6, hfz72_7, hfz72_8, hfz72_9, hfz72_10, hfz72_11, hfz72_12⟩ := lc13 BK416.out) | ((with_reducible refine gate_callee (f := 9) rfl ?_); refine goesL_ (some 19) rfl rfl Try.func9 (by kernel_rfl) rfl #[.int .i64 a1, .int .i64 87659] rfl (by (try simp only [List.map_toArray, List.map_cons, List.map_nil]); first | done | rfl | (simp only [List.length_drop, List.length_take]; rfl)) ?_; (with_reducible refine (annuitykeep_Mod.calls a1 87659 t417 _ A5.out).mono ?_); rintro e w' ⟨rfl, ⟨nd, rfl⟩⟩; refine ⟨_, rfl, ?_⟩))
    have n0_ : Aside0 ((((((((((((((w71.setCell ⟨gb416, 0, none⟩ (.int .i64 0)).setCell ⟨gb416, 1, none⟩ (.slice none 0 0)).setCell ⟨gb416, 2, none⟩ (.int .i64 (wrap64 (1 + (Int.tmod (wrap64 (a2)) 4))))).setCell ⟨gb416, 3, none⟩ (.int .i64 t415)).setCell ⟨gb416, 4, none⟩ (.int .i64 0)).setCell ⟨gb416, 5, none⟩ (.int .i64 0)).setCell ⟨gb416, 6, none⟩ (.slice none 0 0)).setCell ⟨gb416, 7, none⟩ (.int .i64 0)).setCell ⟨gb416, 8, none⟩ (.int .i64 0)).setCell ⟨gb416, 9, none⟩ (.int .i64 0)).setCell ⟨gb416, 10, none⟩ (.int .i64 0)).setCell ⟨gb416, 11, none⟩ (.int .i64 0)).setCell ⟨gb416, 12, none⟩ (.int .i64 0)).heap[gb416]? = some (.cells #[.int .i64 0, .slice none 0 0, .int .i64 (wrap64 (1 + (Int.tmod (wrap64 (a2)) 4))), .int .i64 t415, .int .i64 0, .int .i64 0, .slice none 0 0, .int .i64 0, .int .i64 0, .int .i64 0, .int .i64 0, .int .i64 0, .int .i64 0] 38 (0, 0))) := ⟨by (with_reducible repeat (first | refine blk_drewN ?_ _ | refine blk_drew ?_ | refine blk_alloc ?_ _)); refine blk_put (cs := #[.int .i64 0, .slice none 0 0, .int .i64 (wrap64 (1 + (Int.tmod (wrap64 (a2)) 4))), .int .i64 t415, .int .i64 0, .int .i64 0, .slice none 0 0, .int .i64 0, .int .i64 0, .int .i64 0, .int .i64 0, .int .i64 0, .int .i64 0]) ?_ 12 _ rfl; (with_reducible repeat (first | refine blk_drewN ?_ _ | refine blk_drew ?_ | refine blk_alloc ?_ _)); refine blk_put (cs := #[.int .i64 0, .slice none 0 0, .int .i64 (wrap64 (1 + (Int.tmod (wrap64 (a2)) 4))), .int .i64 t415, .int .i64 0, .int .i64 0, .slice none 0 0, .int .i64 0, .int .i64 0, .int .i64 0, .int .i64 0, .int .i64 0, .int .i64 0]) ?_ 11 _ rfl; (with_reducible repeat (first | refine blk_drewN ?_ _ | refine blk_drew ?_ | refine blk_alloc ?_ _)); refine blk_put (cs := #[.int .i64 0, .slice none 0 0, .int .i64 (wrap64 (1 + (Int.tmod (wrap64 (a2)) 4))), .int .i64 t415, .int .i64 0, .int .i64 0, .slice none 0 0, .int .i64 0, .int .i64 0, .int .i64 0, .int .i64 0, .int .i64 0, .int .i64 0]) ?_ 10 _ rfl; (with_reducible repeat (first | refine blk_drewN ?_ _ | refine blk_drew ?_ | refine blk_alloc ?_ _)); refine blk_put (cs := #[.int .i64 0, .slice none 0 0, .int .i64 (wrap64 (1 + (Int.tmod (wrap64 (a2)) 4))), .int .i64 t415, .int .i64 0, .int .i64 0, .slice none 0 0, .int .i64 0, .int .i64 0, .int .i64 0, .int .i64 0, .int .i64 0, .int .i64 0]) ?_ 9 _ rfl; (with_reducible repeat (first | refine blk_drewN ?_ _ | refine blk_drew ?_ | refine blk_alloc ?_ _)); refine blk_put (cs := #[.int .i64 0, .slice none 0 0, .int .i64 (wrap64 (1 + (Int.tmod (wrap64 (a2)) 4))), .int .i64 t415, .int .i64 0, .int .i64 0, .slice none 0 0, .int .i64 0, .int .i64 0, .int .i64 0, .int .i64 0, .int .i64 0, .int .i64 0]) ?_ 8 _ rfl; (with_reducible repeat (first | refine blk_drewN ?_ _ | refine blk_drew ?_ | refine blk_alloc ?_ _)); refine blk_put (cs := #[.int .i64 0, .slice none 0 0, .int .i64 (wrap64 (1 + (Int.tmod (wrap64 (a2)) 4))), .int .i64 t415, .int .i64 0, .int .i64 0, .slice none 0 0, .int .i64 0, .int .i64 0, .int .i64 0, .int .i64 0, .int .i64 0, .int .i64 0]) ?_ 7 _ rfl; (with_reducible repeat (first | refine blk_drewN ?_ _ | refine blk_drew ?_ | refine blk_alloc ?_ _)); refine blk_put (cs := #[.int .i64 0, .slice none 0 0, .int .i64 (wrap64 (1 + (Int.tmod (wrap64 (a2)) 4))), .int .i64 t415, .int .i64 0, .int .i64 0, .slice none 0 0, .int .i64 0, .int .i64 0, .int .i64 0, .int .i64 0, .int .i64 0, .int .i64 0]) ?_ 6 _ rfl; (with_reducible repeat (first | refine blk_drewN ?_ _ | refine blk_drew ?_ | refine blk_alloc ?_ _)); refine blk_put (cs := #[.int .i64 0, .slice none 0 0, .int .i64 (wrap64 (1 + (Int.tmod (wrap64 (a2)) 4))), .int .i64 t415, .int .i64 0, .int .i64 0, .slice none 0 0, .int .i64 0, .int .i64 0, .int .i64 0, .int .i64 0, .int .i64 0, .int .i64 0]) ?_ 5 _ rfl; (with_reducible repeat (first | refine blk_drewN ?_ _ | refine blk_drew ?_ | refine blk_alloc ?_ _)); refine blk_put (cs := #[.int .i64 0, .slice none 0 0, .int .i64 (wrap64 (1 + (Int.tmod (wrap64 (a2)) 4))), .int .i64 t415, .int .i64 0, .int .i64 0, .slice none 0 0, .int .i64 0, .int .i64 0, .int .i64 0, .int .i64 0, .int .i64 0, .int .i64 0]) ?_ 4 _ rfl; (with_reducible repeat (first | refine blk_drewN ?_ _ | refine blk_drew ?_ | refine blk_alloc ?_ _)); refine blk_put (cs := #[.int .i64 0, .slice none 0 0, .int .i64 (wrap64 (1 + (Int.tmod (wrap64 (a2)) 4))), .int .i64 0, .int .i64 0, .int .i64 0, .slice none 0 0, .int .i64 0, .int .i64 0, .int .i64 0, .int .i64 0, .int .i64 0, .int .i64 0]) ?_ 3 _ rfl; (with_reducible repeat (first | refine blk_drewN ?_ _ | refine blk_drew ?_ | refine blk_alloc ?_ _)); refine blk_put (cs := #[.int .i64 0, .slice none 0 0, .int .i64 0, .int .i64 0, .int .i64 0, .int .i64 0, .slice none 0 0, .int .i64 0, .int .i64 0, .int .i64 0, .int .i64 0, .int .i64 0, .int .i64 0]) ?_ 2 _ rfl; (with_reducible repeat (first | refine blk_drewN ?_ _ | refine blk_drew ?_ | refine blk_alloc ?_ _)); refine blk_put (cs := #[.int .i64 0, .slice none 0 0, .int .i64 0, .int .i64 0, .int .i64 0, .int .i64 0, .slice none 0 0, .int .i64 0, .int .i64 0, .int .i64 0, .int .i64 0, .int .i64 0, .int .i64 0]) ?_ 1 _ rfl; (with_reducible repeat (first | refine blk_drewN ?_ _ | refine blk_drew ?_ | refine blk_alloc ?_ _)); refine blk_put (cs := #[.int .i64 0, .slice none 0 0, .int .i64 0, .int .i64 0, .int .i64 0, .int .i64 0, .slice none 0 0, .int .i64 0, .int .i64 0, .int .i64 0, .int .i64 0, .int .i64 0, .int .i64 0]) ?_ 0 _ rfl; (with_reducible repeat (first | refine blk_drewN ?_ _ | refine blk_drew ?_ | refine blk_alloc ?_ _)); exact BK416.out⟩
    have n1_ : Aside0 (Below w.heap.size w (((((((((((((w71.setCell ⟨gb416, 0, none⟩ (.int .i64 0)).setCell ⟨gb416, 1, none⟩ (.slice none 0 0)).setCell ⟨gb416, 2, none⟩ (.int .i64 (wrap64 (1 + (Int.tmod (wrap64 (a2)) 4))))).setCell ⟨gb416, 3, none⟩ (.int .i64 t415)).setCell ⟨gb416, 4, none⟩ (.int .i64 0)).setCell ⟨gb416, 5, none⟩ (.int .i64 0)).setCell ⟨gb416, 6, none⟩ (.slice none 0 0)).setCell ⟨gb416, 7, none⟩ (.int .i64 0)).setCell ⟨gb416, 8, none⟩ (.int .i64 0)).setCell ⟨gb416, 9, none⟩ (.int .i64 0)).setCell ⟨gb416, 10, none⟩ (.int .i64 0)).setCell ⟨gb416, 11, none⟩ (.int .i64 0)).setCell ⟨gb416, 12, none⟩ (.int .i64 0))) := ⟨by exact h1q HB.out GE416.out⟩
    (try clear BK416)
    (try clear HB)
    try simp only [show ∀ (w_ : World) (n_ : Nat) (p_ : Addr) (v_ : Value), (w_.drewN n_).setCell p_ v_ = (w_.setCell p_ v_).drewN n_ from fun _ _ _ _ => rfl]
    generalize (((((((((((((w71.setCell ⟨gb416, 0, none⟩ (.int .i64 0)).setCell ⟨gb416, 1, none⟩ (.slice none 0 0)).setCell ⟨gb416, 2, none⟩ (.int .i64 (wrap64 (1 + (Int.tmod (wrap64 (a2)) 4))))).setCell ⟨gb416, 3, none⟩ (.int .i64 t415)).setCell ⟨gb416, 4, none⟩ (.int .i64 0)).setCell ⟨gb416, 5, none⟩ (.int .i64 0)).setCell ⟨gb416, 6, none⟩ (.slice none 0 0)).setCell ⟨gb416, 7, none⟩ (.int .i64 0)).setCell ⟨gb416, 8, none⟩ (.int .i64 0)).setCell ⟨gb416, 9, none⟩ (.int .i64 0)).setCell ⟨gb416, 10, none⟩ (.int .i64 0)).setCell ⟨gb416, 11, none⟩ (.int .i64 0)).setCell ⟨gb416, 12, none⟩ (.int .i64 0)) = w73 at n0_ n1_ ⊢
    have BK416 := n0_
    have HB := n1_
    clear n0_ n1_
    (try (rw [drewN_self w73]; generalize hq_ : World.drewN w73 _ = w73; have n0_ : Aside0 (w73.heap[gb416]? = some (.cells #[.int .i64 0, .slice none 0 0, .int .i64 (wrap64 (1 + (Int.tmod (wrap64 (a2)) 4))), .int .i64 t415, .int .i64 0, .int .i64 0, .slice none 0 0, .int .i64 0, .int .i64 0, .int .i64 0, .int .i64 0, .int .i64 0, .int .i64 0] 38 (0, 0))) := ⟨by rw [← hq_]; exact (Up.up BK416.out)⟩; have n1_ : Aside0 (Below w.heap.size w w73) := ⟨by rw [← hq_]; exact (by exact h1q HB.out GE416.out)⟩; clear BK416 HB hq_; have BK416 := n0_; have HB := n1_; clear n0_ n1_))
    have n0_ := Aside0.mk (blk_drew BK416.out)
    have n1_ := Aside0.mk (below_drew1 HB.out)
    clear BK416
    clear HB
    have BK416 := n0_
    have HB := n1_
    clear n0_ n1_
    refine start_ (n := 17) (S := fun w' => w'.cell? ⟨gb416, 0, none⟩ = some (.int .i64 0) ∧ w'.cell? ⟨gb416, 1, none⟩ = some (.slice none 0 0) ∧ w'.cell? ⟨gb416, 2, none⟩ = some (.int .i64 (wrap64 (1 + (Int.tmod (wrap64 (a2)) 4)))) ∧ w'.cell? ⟨gb416, 3, none⟩ = some (.int .i64 t415) ∧ w'.cell? ⟨gb416, 4, none⟩ = some (.int .i64 0) ∧ w'.cell? ⟨gb416, 5, none⟩ = some (.int .i64 0) ∧ w'.cell? ⟨gb416, 6, none⟩ = some (.slice none 0 0) ∧ w'.cell? ⟨gb416, 7, none⟩ = some (.int .i64 0) ∧ w'.cell? ⟨gb416, 8, none⟩ = some (.int .i64 0) ∧ w'.cell? ⟨gb416, 9, none⟩ = some (.int .i64 0) ∧ w'.cell? ⟨gb416, 10, none⟩ = some (.int .i64 0) ∧ w'.cell? ⟨gb416, 11, none⟩ = some (.int .i64 0) ∧ w'.cell? ⟨gb416, 12, none⟩ = some (.int .i64 0)) (ds := []) #[false, false, false, false, false, false, false, false, false, false, false, false, false, false, false, false, false] (by kernel_rfl) rfl rfl ⟨(blk_cell BK416.out 0).trans rfl, (blk_cell BK416.out 1).trans rfl, (blk_cell BK416.out 2).trans rfl, (blk_cell BK416.out 3).trans rfl, (blk_cell BK416.out 4).trans rfl, (blk_cell BK416.out 5).trans rfl, (blk_cell BK416.out 6).trans rfl, (blk_cell BK416.out 7).trans rfl, (blk_cell BK416.out 8).trans rfl, (blk_cell BK416.out 9).trans rfl, (blk_cell BK416.out 10).trans rfl, (blk_cell BK416.out 11).trans rfl, (blk_cell BK416.out 12).trans rfl⟩ (fun hHeld => ?_); refine with_tabW annuitylaw18_PlanLapses.tab5 annuitylaw18_PlanLapses.bits5 (fun HT_ HW_ => ?_)
    generalize w73.drew = w74 at BK416 HB hHeld ⊢
    refine pure_ (i := 1) (N := some 24) (v := ?_) (a' := ?_) #[false, true, false, false, false, false, false, false, false, false, false, false, false, false, false, false, false] rfl rfl (any_of HT_.out (by kernel_rfl)) (fun _ _ _ h => h) (Or.inl ⟨by rfl, ?_⟩) ?_ ?_
    rotate_left
    ·intro w'
     go_simp
     with_reducible rfl
    rotate_left
    ·simp only [Act.put, List.setIfInBounds_toArray, List.set_cons_zero, List.set_cons_succ, i64_w, i32_w]
     rfl
    refine pure_ (i := 3) (N := some 26) (v := ?_) (a' := ?_) #[false, true, false, true, false, false, false, false, false, false, false, false, false, false, false, false, false] rfl rfl (any_of HT_.out (by kernel_rfl)) (fun _ _ _ h => h) (Or.inl ⟨by rfl, ?_⟩) ?_ ?_
    rotate_left
    ·intro w'
     go_simp
     with_reducible rfl
    rotate_left
    ·simp only [Act.put, List.setIfInBounds_toArray, List.set_cons_zero, List.set_cons_succ, i64_w, i32_w]
     rfl
    refine take_ (i := 0) (N := some 23) (v := ?_) (a' := ?_) #[true, true, false, true, false, false, false, false, false, false, false, false, false, false, false, false, false] rfl rfl (take_ofW HT_.out HW_.out (by kernel_rfl)) (fun _ _ _ h => h) (Or.inl ⟨by rfl, ?_⟩) hHeld ?_ ?_
    rotate_left
    ·rintro w' ⟨s0, s1, s2, s3, s4, s5, s6, s7, s8, s9, s10, s11, s12⟩
     go_simp
     with_reducible rfl
    rotate_left
    ·simp only [Act.put, List.setIfInBounds_toArray, List.set_cons_zero, List.set_cons_succ, i64_w, i32_w]
     rfl
    refine take_ (i := 4) (N := some 27) (v := ?_) (a' := ?_) #[true, true, false, true, true, false, false, false, false, false, false, false, false, false, false, false, false] rfl rfl (take_ofW HT_.out HW_.out (by kernel_rfl)) (fun _ _ _ h => h) (Or.inl ⟨by rfl, ?_⟩) hHeld ?_ ?_
    rotate_left
    ·rintro w' ⟨s0, s1, s2, s3, s4, s5, s6, s7, s8, s9, s10, s11, s12⟩
     go_simp
     with_reducible rfl
    rotate_left
    ·simp only [Act.put, List.setIfInBounds_toArray, List.set_cons_zero, List.set_cons_succ, i64_w, i32_w]
     rfl
    refine one_ (i := 2) (N := some 25) #[true, true, true, true, true, false, false, false, false, false, false, false, false, false, false, false, false] rfl rfl (one_of HT_.out (by kernel_rfl)) (by decide) (fun K hK => ?_)
    refine goes_ Try.func10 (by kernel_rfl) rfl #[.agg #[.int .i64 0, .slice none 0 0, .int .i64 (wrap64 (1 + (Int.tmod (wrap64 (a2)) 4))), .int .i64 t415, .int .i64 0, .int .i64 0, .slice none 0 0, .int .i64 0, .int .i64 0, .int .i64 0, .int .i64 0, .int .i64 0, .int .i64 0], .int .i64 t417] (by rfl) rfl rfl (by (try simp only [List.map_toArray, List.map_cons, List.map_nil]); first | done | rfl | (simp only [List.length_drop, List.length_take]; rfl)) ?_
    refine (plan_Holds.calls k 0 _ _ ([] : List (S23)) (wrap64 (1 + (Int.tmod (wrap64 (a2)) 4))) t415 0 0 _ _ ([] : List (S147)) 0 0 0 0 0 0 t417 t418 _ ?side1 ?side2 ?side3 ?side4 A66.out).mono ?_
    (case side1 => exact Kd.C_nil _ _)
    (case side2 => exact Nat.le_refl _)
    (case side3 => exact Kd.C_nil _ _)
    (case side4 => exact Nat.le_refl _)
    rintro e w75 ⟨rfl, hb⟩
    refine ⟨_, rfl, ?_⟩
    have n0_ := Aside0.mk (blk_below (g := gb416) (Up.up BK416.out) hb)
    have n1_ := Aside0.mk (below_step (by exact h1q HB.out GE416.out) hb)
    clear BK416
    clear HB
    have BK416 := n0_
    have HB := n1_
    clear n0_ n1_
    (try clear hb)
    (try clear hb2)
    (try clear hk)
    (try clear hi)
    refine hK.out _ _ ⟨(blk_cell BK416.out 0).trans rfl, (blk_cell BK416.out 1).trans rfl, (blk_cell BK416.out 2).trans rfl, (blk_cell BK416.out 3).trans rfl, (blk_cell BK416.out 4).trans rfl, (blk_cell BK416.out 5).trans rfl, (blk_cell BK416.out 6).trans rfl, (blk_cell BK416.out 7).trans rfl, (blk_cell BK416.out 8).trans rfl, (blk_cell BK416.out 9).trans rfl, (blk_cell BK416.out 10).trans rfl, (blk_cell BK416.out 11).trans rfl, (blk_cell BK416.out 12).trans rfl⟩ (fun hHeld => ?_)
    clear hK K
    refine norm_ (a' := ?_) ?_ ?_
    rotate_left
    ·show Act.put _ (some 25) _ = _
     simp only [Act.put, List.setIfInBounds_toArray, List.set_cons_zero, List.set_cons_succ, i64_w, i32_w]
     rfl
    refine pure_ (i := 5) (N := some 28) (v := ?_) (a' := ?_) #[true, true, true, true, true, true, false, false, false, false, false, false, false, false, false, false, false] rfl rfl (any_of HT_.out (by kernel_rfl)) (fun _ _ _ h => h) (Or.inl ⟨by rfl, ?_⟩) ?_ ?_
    rotate_left
    ·intro w'
     go_simp
     with_reducible rfl
    rotate_left
    ·simp only [Act.put, List.setIfInBounds_toArray, List.set_cons_zero, List.set_cons_succ, i64_w, i32_w]
     rfl
    refine pure_ (i := 6) (N := some 29) (v := ?_) (a' := ?_) #[true, true, true, true, true, true, true, false, false, false, false, false, false, false, false, false, false] rfl rfl (any_of HT_.out (by kernel_rfl)) (fun _ _ _ h => h) (Or.inl ⟨by rfl, ?_⟩) ?_ ?_
    rotate_left
    ·intro w'
     go_simp
     with_reducible rfl
    rotate_left
    ·simp only [Act.put, List.setIfInBounds_toArray, List.set_cons_zero, List.set_cons_succ, i64_w, i32_w]
     rfl
    refine pure_ (i := 7) (N := some 30) (v := ?_) (a' := ?_) #[true, true, true, true, true, true, true, true, false, false, false, false, false, false, false, false, false] rfl rfl (any_of HT_.out (by kernel_rfl)) (fun _ _ _ h => h) (Or.inl ⟨by rfl, ?_⟩) ?_ ?_
    rotate_left
    ·intro w'
     go_simp
     with_reducible rfl
    rotate_left
    ·simp only [Act.put, List.setIfInBounds_toArray, List.set_cons_zero, List.set_cons_succ, i64_w, i32_w]
     rfl
    refine pure_ (i := 8) (N := some 31) (v := ?_) (a' := ?_) #[true, true, true, true, true, true, true, true, true, false, false, false, false, false, false, false, false] rfl rfl (any_of HT_.out (by kernel_rfl)) (fun _ _ _ h => h) (Or.inl ⟨by rfl, ?_⟩) ?_ ?_
    rotate_left
    ·intro w'
     go_simp
     with_reducible rfl
    rotate_left
    ·simp only [Act.put, List.setIfInBounds_toArray, List.set_cons_zero, List.set_cons_succ, i64_w, i32_w]
     rfl
    refine pure_ (i := 9) (N := some 32) (v := ?_) (a' := ?_) #[true, true, true, true, true, true, true, true, true, true, false, false, false, false, false, false, false] rfl rfl (any_of HT_.out (by kernel_rfl)) (fun _ _ _ h => h) (Or.inl ⟨by rfl, ?_⟩) ?_ ?_
    rotate_left
    ·intro w'
     go_simp
     with_reducible rfl
    rotate_left
    ·simp only [Act.put, List.setIfInBounds_toArray, List.set_cons_zero, List.set_cons_succ, i64_w, i32_w]
     rfl
    refine one_ (i := 10) (N := some 33) #[true, true, true, true, true, true, true, true, true, true, true, false, false, false, false, false, false] rfl rfl (one_of HT_.out (by kernel_rfl)) (by decide) (fun K hK => ?_)
    refine goes_ Try.func10 (by kernel_rfl) rfl #[.agg #[.int .i64 0, .slice none 0 0, .int .i64 0, .int .i64 t415, .int .i64 0, .int .i64 0, .slice none 0 0, .int .i64 0, .int .i64 0, .int .i64 0, .int .i64 0, .int .i64 0, .int .i64 0], .int .i64 t417] (by rfl) rfl rfl (by (try simp only [List.map_toArray, List.map_cons, List.map_nil]); first | done | rfl | (simp only [List.length_drop, List.length_take]; rfl)) ?_
    refine (plan_Holds.calls k 0 _ _ ([] : List (S23)) 0 t415 0 0 _ _ ([] : List (S147)) 0 0 0 0 0 0 t417 t419 _ ?side1 ?side2 ?side3 ?side4 A68.out).mono ?_
    (case side1 => exact Kd.C_nil _ _)
    (case side2 => exact Nat.le_refl _)
    (case side3 => exact Kd.C_nil _ _)
    (case side4 => exact Nat.le_refl _)
    rintro e w76 ⟨rfl, hb⟩
    refine ⟨_, rfl, ?_⟩
    have n0_ := Aside0.mk (blk_below (g := gb416) (Up.up BK416.out) hb)
    have n1_ := Aside0.mk (below_step (by exact h1q HB.out GE416.out) hb)
    clear BK416
    clear HB
    have BK416 := n0_
    have HB := n1_
    clear n0_ n1_
    (try clear hb)
    (try clear hb2)
    (try clear hk)
    (try clear hi)
    refine hK.out _ _ ⟨(blk_cell BK416.out 0).trans rfl, (blk_cell BK416.out 1).trans rfl, (blk_cell BK416.out 2).trans rfl, (blk_cell BK416.out 3).trans rfl, (blk_cell BK416.out 4).trans rfl, (blk_cell BK416.out 5).trans rfl, (blk_cell BK416.out 6).trans rfl, (blk_cell BK416.out 7).trans rfl, (blk_cell BK416.out 8).trans rfl, (blk_cell BK416.out 9).trans rfl, (blk_cell BK416.out 10).trans rfl, (blk_cell BK416.out 11).trans rfl, (blk_cell BK416.out 12).trans rfl⟩ (fun hHeld => ?_)
    clear hK K
    refine norm_ (a' := ?_) ?_ ?_
    rotate_left
    ·show Act.put _ (some 33) _ = _
     simp only [Act.put, List.setIfInBounds_toArray, List.set_cons_zero, List.set_cons_succ, i64_w, i32_w]
     rfl
    refine pure_ (i := 11) (N := some 34) (v := ?_) (a' := ?_) #[true, true, true, true, true, true, true, true, true, true, true, true, false, false, false, false, false] rfl rfl (any_of HT_.out (by kernel_rfl)) (fun _ _ _ h => h) (Or.inl ⟨by rfl, ?_⟩) ?_ ?_
    rotate_left
    ·intro w'
     go_simp
     with_reducible rfl
    rotate_left
    ·simp only [Act.put, List.setIfInBounds_toArray, List.set_cons_zero, List.set_cons_succ, i64_w, i32_w]
     rfl
    refine pure_ (i := 12) (N := some 35) (v := ?_) (a' := ?_) #[true, true, true, true, true, true, true, true, true, true, true, true, true, false, false, false, false] rfl rfl (any_of HT_.out (by kernel_rfl)) (fun _ _ _ h => h) (Or.inl ⟨by rfl, ?_⟩) ?_ ?_
    rotate_left
    ·intro w'
     go_simp
     with_reducible rfl
    rotate_left
    ·simp only [Act.put, List.setIfInBounds_toArray, List.set_cons_zero, List.set_cons_succ, i64_w, i32_w]
     rfl
    refine pure_ (i := 13) (N := some 36) (v := ?_) (a' := ?_) #[true, true, true, true, true, true, true, true, true, true, true, true, true, true, false, false, false] rfl rfl (any_of HT_.out (by kernel_rfl)) (fun _ _ _ h => h) (Or.inl ⟨by rfl, ?_⟩) ?_ ?_
    rotate_left
    ·intro w'
     go_simp
     with_reducible rfl
    rotate_left
    ·simp only [Act.put, List.setIfInBounds_toArray, List.set_cons_zero, List.set_cons_succ, i64_w, i32_w]
     rfl
    refine one_ (i := 14) (N := some 37) #[true, true, true, true, true, true, true, true, true, true, true, true, true, true, true, false, false] rfl rfl (one_of HT_.out (by kernel_rfl)) (by decide) (fun K hK => ?_)
    refine goes_ Try.func8 (by kernel_rfl) rfl #[] (by rfl) rfl rfl (by (try simp only [List.map_toArray, List.map_cons, List.map_nil]); first | done | rfl | (simp only [List.length_drop, List.length_take]; rfl)) ?_
    with_reducible refine (annuitylaw18_wakes.calls k  t420 _ A70.out).mono ?_
    rintro e w77 ⟨rfl, hb⟩
    refine ⟨_, rfl, ?_⟩
    have n0_ := Aside0.mk (blk_below (g := gb416) (Up.up BK416.out) hb)
    have n1_ := Aside0.mk (below_step (by exact h1q HB.out GE416.out) hb)
    clear BK416
    clear HB
    have BK416 := n0_
    have HB := n1_
    clear n0_ n1_
    (try clear hb)
    (try clear hb2)
    (try clear hk)
    (try clear hi)
    refine hK.out _ _ ⟨(blk_cell BK416.out 0).trans rfl, (blk_cell BK416.out 1).trans rfl, (blk_cell BK416.out 2).trans rfl, (blk_cell BK416.out 3).trans rfl, (blk_cell BK416.out 4).trans rfl, (blk_cell BK416.out 5).trans rfl, (blk_cell BK416.out 6).trans rfl, (blk_cell BK416.out 7).trans rfl, (blk_cell BK416.out 8).trans rfl, (blk_cell BK416.out 9).trans rfl, (blk_cell BK416.out 10).trans rfl, (blk_cell BK416.out 11).trans rfl, (blk_cell BK416.out 12).trans rfl⟩ (fun hHeld => ?_)
    clear hK K
    refine norm_ (a' := ?_) ?_ ?_
    rotate_left
    ·show Act.put _ (some 37) _ = _
     simp only [Act.put, List.setIfInBounds_toArray, List.set_cons_zero, List.set_cons_succ, i64_w, i32_w]
     rfl
    refine pure_ (i := 15) (N := some 38) (v := ?_) (a' := ?_) #[true, true, true, true, true, true, true, true, true, true, true, true, true, true, true, true, false] rfl rfl (any_of HT_.out (by kernel_rfl)) (fun _ _ _ h => h) (Or.inl ⟨by rfl, ?_⟩) ?_ ?_
    rotate_left
    ·intro w'
     go_simp
     with_reducible rfl
    rotate_left
    ·simp only [Act.put, List.setIfInBounds_toArray, List.set_cons_zero, List.set_cons_succ, i64_w, i32_w]
     rfl
    refine pure_ (i := 16) (N := some 6) (v := ?_) (a' := ?_) #[true, true, true, true, true, true, true, true, true, true, true, true, true, true, true, true, true] rfl rfl (any_of HT_.out (by kernel_rfl)) (fun _ _ _ h => h) (Or.inl ⟨by rfl, ?_⟩) ?_ ?_
    rotate_left
    ·intro w'
     go_simp
     with_reducible rfl
    rotate_left
    ·simp only [Act.put, List.setIfInBounds_toArray, List.set_cons_zero, List.set_cons_succ, i64_w, i32_w]
     rfl
    refine done_ (done_of HT_.out (by kernel_rfl)) ?_
    try go_wp2
    go_ret
    exact ⟨by first | rfl | (simp [errW_none, errW_some] <;> rfl) | (simp [*, errW_none, errW_some] <;> rfl), by exact h1q HB.out GE416.out⟩
   ·rw [if_neg c69] at H
    have c69b0 : (t419 == 1) = false := beq_eq_false_iff_ne.mpr c69
    have c69b1 : (t419 != 1) = true := bne_iff_ne.mpr c69
    exact absurd H (by simp)
  ·rw [if_neg c67] at H
   have c67b0 : (t418 == (wrap64 (1 + (Int.tmod (wrap64 (a2)) 4)))) = false := beq_eq_false_iff_ne.mpr c67
   have c67b1 : (t418 != (wrap64 (1 + (Int.tmod (wrap64 (a2)) 4)))) = true := bne_iff_ne.mpr c67
   exact absurd H (by simp)

/-- THE ONE PURE STATEMENT of annuitylaw18_PlanLapses: yours. -/
def annuitylaw18_PlanLapses.Pure : Prop := ∀ (a0 : Int) (a1 : Int) (a2 : Int), (Lit.int .i64 a0).wf = true → (Lit.int .i64 a1).wf = true → (Lit.int .u8 a2).wf = true → ∃ k, annuitylaw18_PlanLapses.f k a0 a1 a2 = some true
theorem annuitylaw18_PlanLapses.walk (P : annuitylaw18_PlanLapses.Pure) (a0 : Int) (a1 : Int) (a2 : Int) (w : World) (w0 : (Lit.int .i64 a0).wf = true) (w1 : (Lit.int .i64 a1).wf = true) (w2 : (Lit.int .u8 a2).wf = true) :
  Calls Try.prog 4 #[.int .i64 a0, .int .i64 a1, .int .u8 a2] w fun e w' => e = .returned (.bool true) ∧ Below w.heap.size w w' := by
 obtain ⟨k, h⟩ := P a0 a1 a2 w0 w1 w2
 refine (annuitylaw18_PlanLapses.calls k a0 a1 a2 true w h).mono ?_
 rintro e w' ⟨rfl, hd⟩
 exact ⟨rfl, hd⟩

end Go.Proofs.Ytlhcohipnieidaa.P
