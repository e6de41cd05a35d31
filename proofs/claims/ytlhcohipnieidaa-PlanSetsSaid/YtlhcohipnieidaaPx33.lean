/- A part of a proof. -/
import Derived.Test.YtlhcohipnieidaaZaa
import Derived.Test.YtlhcohipnieidaaZsu
import Derived.Test.YtlhcohipnieidaaPx0
import Derived.Test.YtlhcohipnieidaaPx9
import Derived.Test.YtlhcohipnieidaaPx30
import Derived.Test.YtlhcohipnieidaaPx31
import Derived.Test.YtlhcohipnieidaaZo
namespace Go.Proofs.Ytlhcohipnieidaa.P
open Go.RowKit Go.Proofs.YtlhcohipnieidaaW.PrintWords Go.Proofs.YtlhcohipnieidaaW.PrintLast Go.Proofs.YtlhcohipnieidaaW.PrintMore
attribute [local go_sem] max2_int min2_int max_two min_two max_three min_three max_four min_four   -- for this text's walks alone
set_option linter.unusedVariables false
set_option linter.unusedSimpArgs false
-- BREAK
def annuitylaw18_wakes.f (k : Nat)  : Option (Bool) := (plan_Set.f k 1 120000 0 0 0 0 false 5 0 0 0 0 0).bind fun bt342 => ((plan_Of.f k bt342.1 bt342.2.1 bt342.2.2.1 bt342.2.2.2.1 bt342.2.2.2.2.1 bt342.2.2.2.2.2.1 bt342.2.2.2.2.2.2.1 bt342.2.2.2.2.2.2.2.1 bt342.2.2.2.2.2.2.2.2.1 bt342.2.2.2.2.2.2.2.2.2.1 bt342.2.2.2.2.2.2.2.2.2.2.1 bt342.2.2.2.2.2.2.2.2.2.2.2.1 bt342.2.2.2.2.2.2.2.2.2.2.2.2.1 1 40).bind fun bt357 => ((plan_Asks.f k 0 (([0] : List Int)) 0 (([(⟨bt342.1, bt342.2.1, bt342.2.2.1, bt342.2.2.2.1, bt342.2.2.2.2.1, bt342.2.2.2.2.2.1, bt342.2.2.2.2.2.2.1, bt342.2.2.2.2.2.2.2.1, bt342.2.2.2.2.2.2.2.2.1, bt342.2.2.2.2.2.2.2.2.2.1, bt342.2.2.2.2.2.2.2.2.2.2.1, bt342.2.2.2.2.2.2.2.2.2.2.2.1, bt342.2.2.2.2.2.2.2.2.2.2.2.2.1⟩ : S23)] : List (S23))) 4 30 12000 1 ([] : List (S147)) 0 0 0 0 0 0 40).bind fun bt365 => (if bt342.2.2.2.2.2.2.2.2.2.2.2.2.2 = 0 then (if bt357.2 = 0 then (if bt365.2.2 = 0 then (if bt342.2.2.2.2.2.2.2.2.2.2.1 = 1000 then (if bt342.2.2.2.2.2.2.2.2.2.2.2.1 = 400 then (if bt357.1 = 1000 then ((annuitykeep_Ints.f k bt365.1 (([1] : List Int))).bind fun t375 => (if t375 = true then ((annuitykeep_Longs.f k bt365.2.1 (([100] : List Int))).bind fun t379 => (if t379 = true then ((plan_Counts.f 1).bind fun t380 => (if t380 = true then ((plan_Counts.f 2).bind fun t381 => (some (!t381))) else (none))) else (none))) else (none))) else (none)) else (none)) else (none)) else (none)) else (none)) else (none))))
set_option maxHeartbeats 8000000 in
set_option maxRecDepth 100000 in
theorem annuitylaw18_wakes.calls (k : Nat)  (r : Bool) (w : World) (h : annuitylaw18_wakes.f k  = some r) :
  Calls Try.prog 8 #[] w fun e w' => e = .returned (.bool r) ∧ Below w.heap.size w w' := by
 have hu23 := Try.underlying23
 have hu51 := Try.underlying51
 have hu38 := Try.underlying38
 have HB := am (Below.refl w.heap.size w)
 have H : ((plan_Set.f k 1 120000 0 0 0 0 false 5 0 0 0 0 0).bind fun bt342 => ((plan_Of.f k bt342.1 bt342.2.1 bt342.2.2.1 bt342.2.2.2.1 bt342.2.2.2.2.1 bt342.2.2.2.2.2.1 bt342.2.2.2.2.2.2.1 bt342.2.2.2.2.2.2.2.1 bt342.2.2.2.2.2.2.2.2.1 bt342.2.2.2.2.2.2.2.2.2.1 bt342.2.2.2.2.2.2.2.2.2.2.1 bt342.2.2.2.2.2.2.2.2.2.2.2.1 bt342.2.2.2.2.2.2.2.2.2.2.2.2.1 1 40).bind fun bt357 => ((plan_Asks.f k 0 (([0] : List Int)) 0 (([(⟨bt342.1, bt342.2.1, bt342.2.2.1, bt342.2.2.2.1, bt342.2.2.2.2.1, bt342.2.2.2.2.2.1, bt342.2.2.2.2.2.2.1, bt342.2.2.2.2.2.2.2.1, bt342.2.2.2.2.2.2.2.2.1, bt342.2.2.2.2.2.2.2.2.2.1, bt342.2.2.2.2.2.2.2.2.2.2.1, bt342.2.2.2.2.2.2.2.2.2.2.2.1, bt342.2.2.2.2.2.2.2.2.2.2.2.2.1⟩ : S23)] : List (S23))) 4 30 12000 1 ([] : List (S147)) 0 0 0 0 0 0 40).bind fun bt365 => (if bt342.2.2.2.2.2.2.2.2.2.2.2.2.2 = 0 then (if bt357.2 = 0 then (if bt365.2.2 = 0 then (if bt342.2.2.2.2.2.2.2.2.2.2.1 = 1000 then (if bt342.2.2.2.2.2.2.2.2.2.2.2.1 = 400 then (if bt357.1 = 1000 then ((annuitykeep_Ints.f k bt365.1 (([1] : List Int))).bind fun t375 => (if t375 = true then ((annuitykeep_Longs.f k bt365.2.1 (([100] : List Int))).bind fun t379 => (if t379 = true then ((plan_Counts.f 1).bind fun t380 => (if t380 = true then ((plan_Counts.f 2).bind fun t381 => (some (!t381))) else (none))) else (none))) else (none))) else (none)) else (none)) else (none)) else (none)) else (none)) else (none))))) = some r := h
 clear h
 replace H := Option.bind_eq_some_iff.mp H
 obtain ⟨⟨t342, t343, t344, t345, t346, t347, t348, t349, t350, t351, t352, t353, t354, t355⟩, A10, H⟩ := H
 replace H : ((plan_Of.f k t342 t343 t344 t345 t346 t347 t348 t349 t350 t351 t352 t353 t354 1 40).bind fun bt357 => ((plan_Asks.f k 0 (([0] : List Int)) 0 (([(⟨t342, t343, t344, t345, t346, t347, t348, t349, t350, t351, t352, t353, t354⟩ : S23)] : List (S23))) 4 30 12000 1 ([] : List (S147)) 0 0 0 0 0 0 40).bind fun bt365 => (if t355 = 0 then (if bt357.2 = 0 then (if bt365.2.2 = 0 then (if t352 = 1000 then (if t353 = 400 then (if bt357.1 = 1000 then ((annuitykeep_Ints.f k bt365.1 (([1] : List Int))).bind fun t375 => (if t375 = true then ((annuitykeep_Longs.f k bt365.2.1 (([100] : List Int))).bind fun t379 => (if t379 = true then ((plan_Counts.f 1).bind fun t380 => (if t380 = true then ((plan_Counts.f 2).bind fun t381 => (some (!t381))) else (none))) else (none))) else (none))) else (none)) else (none)) else (none)) else (none)) else (none)) else (none)))) = some r := H
 have A1 := am A10
 clear A10
 replace H := Option.bind_eq_some_iff.mp H
 obtain ⟨⟨t357, t358⟩, A20, H⟩ := H
 replace H : ((plan_Asks.f k 0 (([0] : List Int)) 0 (([(⟨t342, t343, t344, t345, t346, t347, t348, t349, t350, t351, t352, t353, t354⟩ : S23)] : List (S23))) 4 30 12000 1 ([] : List (S147)) 0 0 0 0 0 0 40).bind fun bt365 => (if t355 = 0 then (if t358 = 0 then (if bt365.2.2 = 0 then (if t352 = 1000 then (if t353 = 400 then (if t357 = 1000 then ((annuitykeep_Ints.f k bt365.1 (([1] : List Int))).bind fun t375 => (if t375 = true then ((annuitykeep_Longs.f k bt365.2.1 (([100] : List Int))).bind fun t379 => (if t379 = true then ((plan_Counts.f 1).bind fun t380 => (if t380 = true then ((plan_Counts.f 2).bind fun t381 => (some (!t381))) else (none))) else (none))) else (none))) else (none)) else (none)) else (none)) else (none)) else (none)) else (none))) = some r := H
 have A2 := am A20
 clear A20
 obtain ⟨y359, hy359⟩ : ∃ y_ : List Int, y_ = (([0] : List Int)) := ⟨_, rfl⟩
 replace H : ((plan_Asks.f k 0 y359 0 (([(⟨t342, t343, t344, t345, t346, t347, t348, t349, t350, t351, t352, t353, t354⟩ : S23)] : List (S23))) 4 30 12000 1 ([] : List (S147)) 0 0 0 0 0 0 40).bind fun bt365 => (if t355 = 0 then (if t358 = 0 then (if bt365.2.2 = 0 then (if t352 = 1000 then (if t353 = 400 then (if t357 = 1000 then ((annuitykeep_Ints.f k bt365.1 (([1] : List Int))).bind fun t375 => (if t375 = true then ((annuitykeep_Longs.f k bt365.2.1 (([100] : List Int))).bind fun t379 => (if t379 = true then ((plan_Counts.f 1).bind fun t380 => (if t380 = true then ((plan_Counts.f 2).bind fun t381 => (some (!t381))) else (none))) else (none))) else (none))) else (none)) else (none)) else (none)) else (none)) else (none)) else (none))) = some r := by first | (rw [hy359]; with_reducible exact H) | (have H2_ := (Option.bind_some _ _).symm.trans H; rw [hy359]; with_reducible exact H2_) | (have H2_ := (Option.bind_some _ _).symm.trans H; with_reducible exact H2_) | with_reducible exact H | (rw [hy359]; exact H) | exact H
 have Ny359 := am hy359
 clear hy359
 obtain ⟨y362, hy362⟩ : ∃ y_ : List (S23), y_ = (([(⟨t342, t343, t344, t345, t346, t347, t348, t349, t350, t351, t352, t353, t354⟩ : S23)] : List (S23))) := ⟨_, rfl⟩
 replace H : ((plan_Asks.f k 0 y359 0 y362 4 30 12000 1 ([] : List (S147)) 0 0 0 0 0 0 40).bind fun bt365 => (if t355 = 0 then (if t358 = 0 then (if bt365.2.2 = 0 then (if t352 = 1000 then (if t353 = 400 then (if t357 = 1000 then ((annuitykeep_Ints.f k bt365.1 (([1] : List Int))).bind fun t375 => (if t375 = true then ((annuitykeep_Longs.f k bt365.2.1 (([100] : List Int))).bind fun t379 => (if t379 = true then ((plan_Counts.f 1).bind fun t380 => (if t380 = true then ((plan_Counts.f 2).bind fun t381 => (some (!t381))) else (none))) else (none))) else (none))) else (none)) else (none)) else (none)) else (none)) else (none)) else (none))) = some r := by first | (rw [hy362]; with_reducible exact H) | (have H2_ := (Option.bind_some _ _).symm.trans H; rw [hy362]; with_reducible exact H2_) | (have H2_ := (Option.bind_some _ _).symm.trans H; with_reducible exact H2_) | with_reducible exact H | (rw [hy362]; exact H) | exact H
 have Ny362 := am hy362
 clear hy362
 replace H := Option.bind_eq_some_iff.mp H
 obtain ⟨⟨t365, t368, t371⟩, A30, H⟩ := H
 replace H : (if t355 = 0 then (if t358 = 0 then (if t371 = 0 then (if t352 = 1000 then (if t353 = 400 then (if t357 = 1000 then ((annuitykeep_Ints.f k t365 (([1] : List Int))).bind fun t375 => (if t375 = true then ((annuitykeep_Longs.f k t368 (([100] : List Int))).bind fun t379 => (if t379 = true then ((plan_Counts.f 1).bind fun t380 => (if t380 = true then ((plan_Counts.f 2).bind fun t381 => (some (!t381))) else (none))) else (none))) else (none))) else (none)) else (none)) else (none)) else (none)) else (none)) else (none)) = some r := H
 have A3 := am A30
 clear A30
 by_cases c4 : t355 = 0
 ·rw [if_pos c4] at H
  have c4b0 : (t355 == 0) = true := beq_iff_eq.mpr c4
  have c4b1 : (t355 != 0) = false := bne_eq_false_iff_eq.mpr c4
  clear c4
  by_cases c5 : t358 = 0
  ·rw [if_pos c5] at H
   have c5b0 : (t358 == 0) = true := beq_iff_eq.mpr c5
   have c5b1 : (t358 != 0) = false := bne_eq_false_iff_eq.mpr c5
   clear c5
   by_cases c6 : t371 = 0
   ·rw [if_pos c6] at H
    have c6b0 : (t371 == 0) = true := beq_iff_eq.mpr c6
    have c6b1 : (t371 != 0) = false := bne_eq_false_iff_eq.mpr c6
    clear c6
    by_cases c7 : t352 = 1000
    ·rw [if_pos c7] at H
     have c7b0 : (t352 == 1000) = true := beq_iff_eq.mpr c7
     have c7b1 : (t352 != 1000) = false := bne_eq_false_iff_eq.mpr c7
     clear c7
     by_cases c8 : t353 = 400
     ·rw [if_pos c8] at H
      have c8b0 : (t353 == 400) = true := beq_iff_eq.mpr c8
      have c8b1 : (t353 != 400) = false := bne_eq_false_iff_eq.mpr c8
      clear c8
      by_cases c9 : t357 = 1000
      ·rw [if_pos c9] at H
       have c9b0 : (t357 == 1000) = true := beq_iff_eq.mpr c9
       have c9b1 : (t357 != 1000) = false := bne_eq_false_iff_eq.mpr c9
       clear c9
       obtain ⟨y372, hy372⟩ : ∃ y_ : List Int, y_ = (([1] : List Int)) := ⟨_, rfl⟩
       replace H : ((annuitykeep_Ints.f k t365 y372).bind fun t375 => (if t375 = true then ((annuitykeep_Longs.f k t368 (([100] : List Int))).bind fun t379 => (if t379 = true then ((plan_Counts.f 1).bind fun t380 => (if t380 = true then ((plan_Counts.f 2).bind fun t381 => (some (!t381))) else (none))) else (none))) else (none))) = some r := by first | (rw [hy372]; with_reducible exact H) | (have H2_ := (Option.bind_some _ _).symm.trans H; rw [hy372]; with_reducible exact H2_) | (have H2_ := (Option.bind_some _ _).symm.trans H; with_reducible exact H2_) | with_reducible exact H | (rw [hy372]; exact H) | exact H
       have Ny372 := am hy372
       clear hy372
       replace H := Option.bind_eq_some_iff.mp H
       obtain ⟨t375, A100, H⟩ := H
       replace H : (if t375 = true then ((annuitykeep_Longs.f k t368 (([100] : List Int))).bind fun t379 => (if t379 = true then ((plan_Counts.f 1).bind fun t380 => (if t380 = true then ((plan_Counts.f 2).bind fun t381 => (some (!t381))) else (none))) else (none))) else (none)) = some r := H
       have A10 := am A100
       clear A100
       by_cases c11 : t375 = true
       ·subst c11
        have H1 : ((annuitykeep_Longs.f k t368 (([100] : List Int))).bind fun t379 => (if t379 = true then ((plan_Counts.f 1).bind fun t380 => (if t380 = true then ((plan_Counts.f 2).bind fun t381 => (some (!t381))) else (none))) else (none))) = some r := by rw [if_pos rfl] at H; exact H
        clear H
        have H := H1
        clear H1
        obtain ⟨y376, hy376⟩ : ∃ y_ : List Int, y_ = (([100] : List Int)) := ⟨_, rfl⟩
        replace H : ((annuitykeep_Longs.f k t368 y376).bind fun t379 => (if t379 = true then ((plan_Counts.f 1).bind fun t380 => (if t380 = true then ((plan_Counts.f 2).bind fun t381 => (some (!t381))) else (none))) else (none))) = some r := by first | (rw [hy376]; with_reducible exact H) | (have H2_ := (Option.bind_some _ _).symm.trans H; rw [hy376]; with_reducible exact H2_) | (have H2_ := (Option.bind_some _ _).symm.trans H; with_reducible exact H2_) | with_reducible exact H | (rw [hy376]; exact H) | exact H
        have Ny376 := am hy376
        clear hy376
        replace H := Option.bind_eq_some_iff.mp H
        obtain ⟨t379, A120, H⟩ := H
        replace H : (if t379 = true then ((plan_Counts.f 1).bind fun t380 => (if t380 = true then ((plan_Counts.f 2).bind fun t381 => (some (!t381))) else (none))) else (none)) = some r := H
        have A12 := am A120
        clear A120
        by_cases c13 : t379 = true
        ·subst c13
         have H1 : ((plan_Counts.f 1).bind fun t380 => (if t380 = true then ((plan_Counts.f 2).bind fun t381 => (some (!t381))) else (none))) = some r := by rw [if_pos rfl] at H; exact H
         clear H
         have H := H1
         clear H1
         replace H := Option.bind_eq_some_iff.mp H
         obtain ⟨t380, A140, H⟩ := H
         replace H : (if t380 = true then ((plan_Counts.f 2).bind fun t381 => (some (!t381))) else (none)) = some r := H
         have A14 := am A140
         clear A140
         by_cases c15 : t380 = true
         ·subst c15
          have H1 : ((plan_Counts.f 2).bind fun t381 => (some (!t381))) = some r := by rw [if_pos rfl] at H; exact H
          clear H
          have H := H1
          clear H1
          replace H := Option.bind_eq_some_iff.mp H
          obtain ⟨t381, A160, H⟩ := H
          replace H : (some (!t381)) = some r := H
          have A16 := am A160
          clear A160
          obtain rfl := Option.some.inj H
          go_enter Try.func8, Try.ntmps8
          go_wp2_with (first | ((with_reducible refine gate_callee (f := 5) rfl ?_); refine goesL_ (some 10) rfl rfl Try.func5 (by kernel_rfl) rfl #[.agg #[.int .i64 1, .int .i64 120000, .int .i64 0, .int .i64 0, .int .i64 0, .int .i64 0, .bool false, .int .i64 5, .int .i64 0, .int .i64 0, .int .i64 0, .int .i64 0, .int .i64 0]] rfl ml ?_; (with_reducible refine (plan_Set.calls k 1 120000 0 0 0 0 false 5 0 0 0 0 0 t342 t343 t344 t345 t346 t347 t348 t349 t350 t351 t352 t353 t354 t355 _ A1.out).mono ?_); rintro e w17 ⟨rfl, hb⟩; refine ⟨_, rfl, ?_⟩; have n0_ := am (below_step (by exact h0q HB.out) hb); clear HB; have HB := n0_; clear n0_; (try clear hb); (try clear hb2); (try clear hk); (try clear hi)) | ((with_reducible refine gate_dst (N := 1) rfl ?_); (try (refine gate_guard (by rfl) ?_; dsimp only)); refine box_event ?hg (N := 1) ?hd (cs := #[.int .i64 0, .int .i64 0, .int .i64 0, .int .i64 0, .int .i64 0, .int .i64 0, .bool false, .int .i64 0, .int .i64 0, .int .i64 0, .int .i64 0, .int .i64 0, .int .i64 0]) (t := 23) ?hr ?_; (case hd => rfl); (case hg => rfl); (case hr => first | (go_simp; done) | (go_simp; rfl)); intro gb356 hg w18 hbox hb; have n0_ := am (below_step (by exact h0q HB.out) hb); have n1_ := am (hbox); have n2_ := am ((by rw [hg]; exact (below_size (by exact h0q HB.out)) : w.heap.size ≤ gb356)); have n3_ := am ((by rw [hg]; exact (below_size (by exact h0q HB.out)) : w.heap.size ≤ gb356)); clear HB; have HB := n0_; have BK356 := n1_; have GW356 := n2_; have GE356 := n3_; clear n0_ n1_ n2_ n3_; clear hb hbox hg; have hz19 := lc13 BK356.out) | ((with_reducible refine gate_callee (f := 15) rfl ?_); refine goesL_ (some 15) rfl rfl Try.func15 (by kernel_rfl) rfl #[.agg #[.int .i64 t342, .int .i64 t343, .int .i64 t344, .int .i64 t345, .int .i64 t346, .int .i64 t347, .bool t348, .int .i64 t349, .int .i64 t350, .int .i64 t351, .int .i64 t352, .int .i64 t353, .int .i64 t354], .int .i64 1, .int .i64 40] rfl ml ?_; (with_reducible refine (plan_Of.calls k t342 t343 t344 t345 t346 t347 t348 t349 t350 t351 t352 t353 t354 1 40 t357 t358 _ A2.out).mono ?_); rintro e w20 ⟨rfl, hb⟩; refine ⟨_, rfl, ?_⟩; have n0_ := am (blk_below (g := gb356) (o := .cells #[.int .i64 t342, .int .i64 t343, .int .i64 t344, .int .i64 t345, .int .i64 t346, .int .i64 t347, .bool t348, .int .i64 t349, .int .i64 t350, .int .i64 t351, .int .i64 t352, .int .i64 t353, .int .i64 t354] 23 (0, 0)) (by (with_reducible repeat (first | refine blk_drewN ?_ _ | refine blk_drew ?_ | refine blk_alloc ?_ _)); apply blk_put13b; (with_reducible repeat (first | refine blk_drewN ?_ _ | refine blk_drew ?_ | refine blk_alloc ?_ _)); exact BK356.out) hb); have n1_ := am (below_step (by exact h1q HB.out GE356.out) hb); clear BK356; clear HB; have BK356 := n0_; have HB := n1_; clear n0_ n1_; (try clear hb); (try clear hb2); (try clear hk); (try clear hi)) | ((with_reducible refine gate_dst (N := 19) rfl ?_); (try (refine gate_guard (by rfl) ?_; dsimp only)); refine Kd.R_lit (Kd.int .i64) _ 2 ?hg (N := 19) ?hd (xs := ([0] : List Int)) (inner := [.int .i64 0]) (ok := fun _ => True) (okp := fun _ => True) ?hr ?hp (fun _ hk => hk) trivial (Below.refl _ _) (Nat.le_refl _) (by simp) ?_; (case hd => rfl); (case hg => rfl); (case hr => first | (go_simp; done) | (go_simp; rfl)); (case hp => exact (Reps.one (show Kd.M (Kd.int .i64) _ _ _ 0 [.int .i64 0] from rfl) (Reps.none _ _))); intro v360 w21 ho22 hb hg_ hnew_; clear hg_ hnew_; (first | rw [← Ny359.out] at ho22 | (simp only [Int.reduceToNat] at ho22; rw [← Ny359.out] at ho22)); have n0_ := am (Kd.R_lower ho22 (below_size (by exact h1q HB.out GE356.out))); have n1_ := am (blk_below (g := gb356) (Up.up BK356.out) hb); have n2_ := am (below_step (by exact h1q HB.out GE356.out) hb); clear BK356; clear HB; have HO361 := n0_; have BK356 := n1_; have HB := n2_; clear n0_ n1_ n2_; clear hb ho22; obtain ⟨Ao23, co23, eo23⟩ := Kd.R_slice HO361.out; subst eo23; have hz24 := lc13 BK356.out) | ((with_reducible refine gate_dst (N := 22) rfl ?_); (try (refine gate_guard (by rfl) ?_; dsimp only)); refine Kd.R_lit k23 _ 23 ?hg (N := 22) ?hd (xs := ([(⟨t342, t343, t344, t345, t346, t347, t348, t349, t350, t351, t352, t353, t354⟩ : S23)] : List (S23))) (inner := [.int .i64 t342, .int .i64 t343, .int .i64 t344, .int .i64 t345, .int .i64 t346, .int .i64 t347, .bool t348, .int .i64 t349, .int .i64 t350, .int .i64 t351, .int .i64 t352, .int .i64 t353, .int .i64 t354]) (ok := fun _ => True) (okp := fun _ => True) ?hr ?hp (fun _ hk => hk) trivial (Below.refl _ _) (Nat.le_refl _) (by simp) ?_; (case hd => rfl); (case hg => rfl); (case hr => first | (go_simp; done) | (go_simp; rfl)); (case hp => exact (Reps.front (show Kd.M k23 _ _ _ (⟨t342, t343, t344, t345, t346, t347, t348, t349, t350, t351, t352, t353, t354⟩ : S23) [.int .i64 t342, .int .i64 t343, .int .i64 t344, .int .i64 t345, .int .i64 t346, .int .i64 t347, .bool t348, .int .i64 t349, .int .i64 t350, .int .i64 t351, .int .i64 t352, .int .i64 t353, .int .i64 t354] from (k23_mkM _ _ _ (⟨t342, t343, t344, t345, t346, t347, t348, t349, t350, t351, t352, t353, t354⟩ : S23) )) rfl (Reps.none _ _) rfl)); intro v363 w25 ho26 hb hg_ hnew_; clear hg_ hnew_; (first | rw [← Ny362.out] at ho26 | (simp only [Int.reduceToNat] at ho26; rw [← Ny362.out] at ho26)); have n0_ := am (Kd.R_below (by exact rq HO361.out) hb); have n1_ := am (Kd.R_lower (Kd.R_newB ho26 (g := gb356) (Up.up BK356.out)) (below_size (by exact h1q HB.out GE356.out))); have n2_ := am (blk_below (g := gb356) (Up.up BK356.out) hb); have n3_ := am (below_step (by exact h1q HB.out GE356.out) hb); clear HO361; clear BK356; clear HB; have HO361 := n0_; have HO364 := n1_; have BK356 := n2_; have HB := n3_; clear n0_ n1_ n2_ n3_; clear hb ho26; obtain ⟨Ao27, co27, eo27⟩ := Kd.R_slice HO364.out; subst eo27) | ((with_reducible refine gate_callee (f := 16) rfl ?_); refine goesL_ (some 24) rfl rfl Try.func16 (by kernel_rfl) rfl #[.agg #[.int .i64 0, .slice Ao23 y359.length co23], .agg #[.int .i64 0, .slice Ao27 y362.length co27, .int .i64 4, .int .i64 30, .int .i64 12000, .int .i64 1, .slice none 0 0, .int .i64 0, .int .i64 0, .int .i64 0, .int .i64 0, .int .i64 0, .int .i64 0], .int .i64 40] rfl ml ?_; (refine (plan_Asks.calls k 0 _ _ y359 0 _ _ y362 4 30 12000 1 _ _ ([] : List (S147)) 0 0 0 0 0 0 40 t365 t368 t371 _ ?side1 ?side2 ?side3 ?side4 ?side5 ?side6 A3.out).mono ?_); (case side1 => exact cq ((Kd.R_reads' HO361.out).2.2)); (case side2 => exact (Kd.R_reads' HO361.out).2.1); (case side3 => exact cq ((Kd.R_reads' HO364.out).2.2)); (case side4 => exact (Kd.R_reads' HO364.out).2.1); (case side5 => exact Kd.C_nil _ _); (case side6 => exact Nat.le_refl _); rintro e w28 ⟨v366, v369, rfl, ho0, ho1, hb⟩; refine ⟨_, rfl, ?_⟩; have n0_ := am (Kd.R_elder' (by exact rq HO361.out) (Kd.R_base ho1) hb); have n1_ := am (Kd.R_below (by exact rq HO364.out) hb); have n2_ := am (Kd.R_lower ho0 (below_size (by exact h1q HB.out GE356.out))); have n3_ := am (Kd.R_lower (Kd.R_new' ho1 (Kd.R_lt (by exact rq HO361.out))) (below_size (by exact h1q HB.out GE356.out))); have n4_ := am (blk_below (g := gb356) (Up.up BK356.out) hb); have n5_ := am (below_step (by exact h1q HB.out GE356.out) hb); clear HO361; clear HO364; clear BK356; clear HB; have HO361 := n0_; have HO364 := n1_; have HO367 := n2_; have HO370 := n3_; have BK356 := n4_; have HB := n5_; clear n0_ n1_ n2_ n3_ n4_ n5_; (try clear hb); (try clear hb2); (try clear hk); (try clear hi); (try clear ho0); (try clear ho1); have hz29 := lc13 BK356.out) | ((with_reducible refine gate_dst (N := 54) rfl ?_); (try (refine gate_guard (by rfl) ?_; dsimp only)); refine Kd.R_lit (Kd.int .i64) _ 3 ?hg (N := 54) ?hd (xs := ([1] : List Int)) (inner := [.int .i64 1]) (ok := fun _ => True) (okp := fun _ => True) ?hr ?hp (fun _ hk => hk) trivial (Below.refl _ _) (Nat.le_refl _) (by simp) ?_; (case hd => rfl); (case hg => rfl); (case hr => first | (go_simp; done) | (go_simp; rfl)); (case hp => exact (Reps.one (show Kd.M (Kd.int .i64) _ _ _ 1 [.int .i64 1] from rfl) (Reps.none _ _))); intro v373 w30 ho31 hb hg_ hnew_; clear hg_ hnew_; (first | rw [← Ny372.out] at ho31 | (simp only [Int.reduceToNat] at ho31; rw [← Ny372.out] at ho31)); have n0_ := am (Kd.R_below (by exact rq HO361.out) hb); have n1_ := am (Kd.R_below (by exact rq HO364.out) hb); have n2_ := am (Kd.R_elder' (by exact rq HO367.out) (Kd.R_base ho31) hb); have n3_ := am (Kd.R_below (by exact rq HO370.out) hb); have n4_ := am (Kd.R_lower (Kd.R_new' ho31 (Kd.R_lt (by exact rq HO367.out))) (below_size (by exact h1q HB.out GE356.out))); have n5_ := am (blk_below (g := gb356) (Up.up BK356.out) hb); have n6_ := am (below_step (by exact h1q HB.out GE356.out) hb); clear HO361; clear HO364; clear HO367; clear HO370; clear BK356; clear HB; have HO361 := n0_; have HO364 := n1_; have HO367 := n2_; have HO370 := n3_; have HO374 := n4_; have BK356 := n5_; have HB := n6_; clear n0_ n1_ n2_ n3_ n4_ n5_ n6_; clear hb ho31; obtain ⟨Ao32, co32, eo32⟩ := Kd.R_slice HO367.out; subst eo32; obtain ⟨Ao33, co33, eo33⟩ := Kd.R_slice HO374.out; subst eo33) | (go_at_call 17; (with_reducible refine (annuitykeep_Ints.calls k _ _ t365 _ _ y372 true _ ?side1 ?side2 ?side3 ?side4 A10.out).mono ?_); (case side1 => exact cq ((Kd.R_reads' HO367.out).2.2)); (case side2 => exact (Kd.R_reads' HO367.out).2.1); (case side3 => exact cq ((Kd.R_reads' HO374.out).2.2)); (case side4 => exact (Kd.R_reads' HO374.out).2.1); rintro e w' ⟨rfl, ⟨nd, rfl⟩⟩) | ((with_reducible refine gate_dst (N := 59) rfl ?_); (try (refine gate_guard (by rfl) ?_; dsimp only)); refine Kd.R_lit (Kd.int .i64) _ 2 ?hg (N := 59) ?hd (xs := ([100] : List Int)) (inner := [.int .i64 100]) (ok := fun _ => True) (okp := fun _ => True) ?hr ?hp (fun _ hk => hk) trivial (Below.refl _ _) (Nat.le_refl _) (by simp) ?_; (case hd => rfl); (case hg => rfl); (case hr => first | (go_simp; done) | (go_simp; rfl)); (case hp => exact (Reps.one (show Kd.M (Kd.int .i64) _ _ _ 100 [.int .i64 100] from rfl) (Reps.none _ _))); intro v377 w34 ho35 hb hg_ hnew_; clear hg_ hnew_; (first | rw [← Ny376.out] at ho35 | (simp only [Int.reduceToNat] at ho35; rw [← Ny376.out] at ho35)); have n0_ := am (Kd.R_elder' (by exact rq HO361.out) (Kd.R_base ho35) hb); have n1_ := am (Kd.R_below (by exact rq HO364.out) hb); have n2_ := am (Kd.R_below (by exact rq HO367.out) hb); have n3_ := am (Kd.R_elder' (by exact rq HO370.out) (Kd.R_base ho35) hb); have n4_ := am (Kd.R_below (by exact rq HO374.out) hb); have n5_ := am (Kd.R_lower (Kd.R_new' (Kd.R_new' ho35 (Kd.R_lt (by exact rq HO361.out))) (Kd.R_lt (by exact rq HO370.out))) (below_size (by exact h1q HB.out GE356.out))); have n6_ := am (blk_below (g := gb356) (Up.up BK356.out) hb); have n7_ := am (below_step (by exact h1q HB.out GE356.out) hb); clear HO361; clear HO364; clear HO367; clear HO370; clear HO374; clear BK356; clear HB; have HO361 := n0_; have HO364 := n1_; have HO367 := n2_; have HO370 := n3_; have HO374 := n4_; have HO378 := n5_; have BK356 := n6_; have HB := n7_; clear n0_ n1_ n2_ n3_ n4_ n5_ n6_ n7_; clear hb ho35; obtain ⟨Ao36, co36, eo36⟩ := Kd.R_slice HO370.out; subst eo36; obtain ⟨Ao37, co37, eo37⟩ := Kd.R_slice HO378.out; subst eo37) | (go_at_call 18; (with_reducible refine (annuitykeep_Longs.calls k _ _ t368 _ _ y376 true _ ?side1 ?side2 ?side3 ?side4 A12.out).mono ?_); (case side1 => exact cq ((Kd.R_reads' HO370.out).2.2)); (case side2 => exact (Kd.R_reads' HO370.out).2.1); (case side3 => exact cq ((Kd.R_reads' HO378.out).2.2)); (case side4 => exact (Kd.R_reads' HO378.out).2.1); rintro e w' ⟨rfl, ⟨nd, rfl⟩⟩) | (go_at_call 19; (with_reducible refine (plan_Counts.calls 1 true _ A14.out).mono ?_); rintro e w' ⟨rfl, ⟨nd, rfl⟩⟩) | (go_at_call 19; (with_reducible refine (plan_Counts.calls 2 t381 _ A16.out).mono ?_); rintro e w' ⟨rfl, ⟨nd, rfl⟩⟩))
          go_ret
          exact ⟨er, by exact h1q HB.out GE356.out⟩
         ·replace c15 := Bool.eq_false_iff.mpr c15
          subst c15
          have H1 : (none) = some r := by rw [if_neg (show ¬ (false = true) by decide)] at H; exact H
          clear H
          have H := H1
          clear H1
          exact absurd H (by simp)
        ·replace c13 := Bool.eq_false_iff.mpr c13
         subst c13
         have H1 : (none) = some r := by rw [if_neg (show ¬ (false = true) by decide)] at H; exact H
         clear H
         have H := H1
         clear H1
         exact absurd H (by simp)
       ·replace c11 := Bool.eq_false_iff.mpr c11
        subst c11
        have H1 : (none) = some r := by rw [if_neg (show ¬ (false = true) by decide)] at H; exact H
        clear H
        have H := H1
        clear H1
        exact absurd H (by simp)
      ·rw [if_neg c9] at H
       exact absurd H (by simp)
     ·rw [if_neg c8] at H
      exact absurd H (by simp)
    ·rw [if_neg c7] at H
     exact absurd H (by simp)
   ·rw [if_neg c6] at H
    exact absurd H (by simp)
  ·rw [if_neg c5] at H
   exact absurd H (by simp)
 ·rw [if_neg c4] at H
  exact absurd H (by simp)
end Go.Proofs.Ytlhcohipnieidaa.P
