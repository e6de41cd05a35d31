/- Functions of the program as plain Lean functions, and proofs that its calls come to just their answers, where they tell one (written by a program of this session). -/
import Derived.Test.YtakcepffodipfaaZaa
import Derived.Test.YtakcepffodipfaaPx0
import Derived.Test.YtakcepffodipfaaPx11
import Derived.Test.YtakcepffodipfaaPx12
import Derived.Test.YtakcepffodipfaaPx15
import Derived.Test.YtakcepffodipfaaPx27
import Derived.Test.YtakcepffodipfaaPx28
import Derived.Test.YtakcepffodipfaaZm
namespace Go.Proofs.Ytakcepffodipfaa.P
open Go.RowKit Go.Proofs.YtakcepffodipfaaW.PrintWords Go.Proofs.YtakcepffodipfaaW.PrintLast Go.Proofs.YtakcepffodipfaaW.PrintMore
attribute [local go_sem] max2_int min2_int max_two min_two max_three min_three max_four min_four   -- for this text's walks alone
set_option linter.unusedVariables false
set_option linter.unusedSimpArgs false

-- BREAK
/-! ### annuitylaw21_wakes: function 6 -/
def annuitylaw21_wakes.f (k : Nat)  : Option (Bool) := (some (([(⟨1, 100, 0, 0, 0, 50000, false, 5, 0, 0, 0, 0, 4⟩ : S31), (⟨2, 100, 0, 0, 0, 60000, false, 5, 0, 0, 0, 0, 5⟩ : S31)] : List (S31)) : List (S31))).bind fun y191 => ((blend_Rate.f k y191).bind fun bt194 => ((blend_Count.f k y191).bind fun bt196 => ((blend_Join.f k y191 9 40).bind fun bt198 => (if 1 ≤ (y191.length : Int) then ((blend_Rate.f k (y191.take 1)).bind fun bt217 => (if bt194.2 = 0 then (if bt196.2 = 0 then (if bt198.2.2.2.2.2.2.2.2.2.2.2.2.2 = 0 then (if bt217.2 = 64 then (if bt194.1 = 55000 then (if bt196.1 = 5 then (if bt198.2.1 = 200 then (if bt198.2.2.2.2.2.1 = 55000 then (if bt198.2.2.2.2.2.2.2.2.2.1 = 40 then (some (decide (bt198.2.2.2.2.2.2.2.2.2.2.1 > 0))) else (none)) else (none)) else (none)) else (none)) else (none)) else (none)) else (none)) else (none)) else (none))) else (none)))))
set_option maxHeartbeats 8000000 in
set_option maxRecDepth 100000 in
theorem annuitylaw21_wakes.calls (k : Nat)  (r : Bool) (w : World) (h : annuitylaw21_wakes.f k  = some r) :
  Calls Try.prog 6 #[] w fun e w' => e = .returned (.bool r) ∧ Below w.heap.size w w' := by
 have hu31 := Try.underlying31
 have HB := Aside0.mk (Below.refl w.heap.size w)
 have H : ((some (([(⟨1, 100, 0, 0, 0, 50000, false, 5, 0, 0, 0, 0, 4⟩ : S31), (⟨2, 100, 0, 0, 0, 60000, false, 5, 0, 0, 0, 0, 5⟩ : S31)] : List (S31)) : List (S31))).bind fun y191 => ((blend_Rate.f k y191).bind fun bt194 => ((blend_Count.f k y191).bind fun bt196 => ((blend_Join.f k y191 9 40).bind fun bt198 => (if 1 ≤ (y191.length : Int) then ((blend_Rate.f k (y191.take 1)).bind fun bt217 => (if bt194.2 = 0 then (if bt196.2 = 0 then (if bt198.2.2.2.2.2.2.2.2.2.2.2.2.2 = 0 then (if bt217.2 = 64 then (if bt194.1 = 55000 then (if bt196.1 = 5 then (if bt198.2.1 = 200 then (if bt198.2.2.2.2.2.1 = 55000 then (if bt198.2.2.2.2.2.2.2.2.2.1 = 40 then (some (decide (bt198.2.2.2.2.2.2.2.2.2.2.1 > 0))) else (none)) else (none)) else (none)) else (none)) else (none)) else (none)) else (none)) else (none)) else (none))) else (none)))))) = some r := h
 clear h
 obtain ⟨y191, hy191⟩ : ∃ y_ : List (S31), y_ = (([(⟨1, 100, 0, 0, 0, 50000, false, 5, 0, 0, 0, 0, 4⟩ : S31), (⟨2, 100, 0, 0, 0, 60000, false, 5, 0, 0, 0, 0, 5⟩ : S31)] : List (S31))) := ⟨_, rfl⟩
 replace H : ((blend_Rate.f k y191).bind fun bt194 => ((blend_Count.f k y191).bind fun bt196 => ((blend_Join.f k y191 9 40).bind fun bt198 => (if 1 ≤ (y191.length : Int) then ((blend_Rate.f k (y191.take 1)).bind fun bt217 => (if bt194.2 = 0 then (if bt196.2 = 0 then (if bt198.2.2.2.2.2.2.2.2.2.2.2.2.2 = 0 then (if bt217.2 = 64 then (if bt194.1 = 55000 then (if bt196.1 = 5 then (if bt198.2.1 = 200 then (if bt198.2.2.2.2.2.1 = 55000 then (if bt198.2.2.2.2.2.2.2.2.2.1 = 40 then (some (decide (bt198.2.2.2.2.2.2.2.2.2.2.1 > 0))) else (none)) else (none)) else (none)) else (none)) else (none)) else (none)) else (none)) else (none)) else (none))) else (none))))) = some r := by first | (rw [hy191]; with_reducible exact H) | (have H2_ := (Option.bind_some _ _).symm.trans H; rw [hy191]; with_reducible exact H2_) | (have H2_ := (Option.bind_some _ _).symm.trans H; with_reducible exact H2_) | with_reducible exact H | (rw [hy191]; exact H) | exact H
 have Ny191 := Aside0.mk hy191
 clear hy191
 replace H := Option.bind_eq_some_iff.mp H
 obtain ⟨⟨t194, t195⟩, A10, H⟩ := H
 replace H : ((blend_Count.f k y191).bind fun bt196 => ((blend_Join.f k y191 9 40).bind fun bt198 => (if 1 ≤ (y191.length : Int) then ((blend_Rate.f k (y191.take 1)).bind fun bt217 => (if t195 = 0 then (if bt196.2 = 0 then (if bt198.2.2.2.2.2.2.2.2.2.2.2.2.2 = 0 then (if bt217.2 = 64 then (if t194 = 55000 then (if bt196.1 = 5 then (if bt198.2.1 = 200 then (if bt198.2.2.2.2.2.1 = 55000 then (if bt198.2.2.2.2.2.2.2.2.2.1 = 40 then (some (decide (bt198.2.2.2.2.2.2.2.2.2.2.1 > 0))) else (none)) else (none)) else (none)) else (none)) else (none)) else (none)) else (none)) else (none)) else (none))) else (none)))) = some r := H
 have A1 := Aside0.mk A10
 clear A10
 replace H := Option.bind_eq_some_iff.mp H
 obtain ⟨⟨t196, t197⟩, A20, H⟩ := H
 replace H : ((blend_Join.f k y191 9 40).bind fun bt198 => (if 1 ≤ (y191.length : Int) then ((blend_Rate.f k (y191.take 1)).bind fun bt217 => (if t195 = 0 then (if t197 = 0 then (if bt198.2.2.2.2.2.2.2.2.2.2.2.2.2 = 0 then (if bt217.2 = 64 then (if t194 = 55000 then (if t196 = 5 then (if bt198.2.1 = 200 then (if bt198.2.2.2.2.2.1 = 55000 then (if bt198.2.2.2.2.2.2.2.2.2.1 = 40 then (some (decide (bt198.2.2.2.2.2.2.2.2.2.2.1 > 0))) else (none)) else (none)) else (none)) else (none)) else (none)) else (none)) else (none)) else (none)) else (none))) else (none))) = some r := H
 have A2 := Aside0.mk A20
 clear A20
 replace H := Option.bind_eq_some_iff.mp H
 obtain ⟨⟨t198, t199, t200, t201, t202, t203, t204, t205, t206, t207, t208, t209, t210, t211⟩, A30, H⟩ := H
 replace H : (if 1 ≤ (y191.length : Int) then ((blend_Rate.f k (y191.take 1)).bind fun bt217 => (if t195 = 0 then (if t197 = 0 then (if t211 = 0 then (if bt217.2 = 64 then (if t194 = 55000 then (if t196 = 5 then (if t199 = 200 then (if t203 = 55000 then (if t207 = 40 then (some (decide (t208 > 0))) else (none)) else (none)) else (none)) else (none)) else (none)) else (none)) else (none)) else (none)) else (none))) else (none)) = some r := H
 have A3 := Aside0.mk A30
 clear A30
 by_cases c4 : 1 ≤ (y191.length : Int)
 ·rw [if_pos c4] at H
  have c4b0 := eq_true c4
  have c4b1 : decide (1 ≤ (y191.length : Int)) = true := decide_eq_true c4
  clear c4
  obtain ⟨y213, hy213⟩ : ∃ y_ : List (S31), y_ = (y191.take 1) := ⟨_, rfl⟩
  replace H : ((blend_Rate.f k y213).bind fun bt217 => (if t195 = 0 then (if t197 = 0 then (if t211 = 0 then (if bt217.2 = 64 then (if t194 = 55000 then (if t196 = 5 then (if t199 = 200 then (if t203 = 55000 then (if t207 = 40 then (some (decide (t208 > 0))) else (none)) else (none)) else (none)) else (none)) else (none)) else (none)) else (none)) else (none)) else (none))) = some r := by first | (rw [hy213]; with_reducible exact H) | (have H2_ := (Option.bind_some _ _).symm.trans H; rw [hy213]; with_reducible exact H2_) | (have H2_ := (Option.bind_some _ _).symm.trans H; with_reducible exact H2_) | with_reducible exact H | (rw [hy213]; exact H) | exact H
  have Ny213 := Aside0.mk hy213
  clear hy213
  replace H := Option.bind_eq_some_iff.mp H
  obtain ⟨⟨t217, t218⟩, A50, H⟩ := H
  replace H : (if t195 = 0 then (if t197 = 0 then (if t211 = 0 then (if t218 = 64 then (if t194 = 55000 then (if t196 = 5 then (if t199 = 200 then (if t203 = 55000 then (if t207 = 40 then (some (decide (t208 > 0))) else (none)) else (none)) else (none)) else (none)) else (none)) else (none)) else (none)) else (none)) else (none)) = some r := H
  have A5 := Aside0.mk A50
  clear A50
  by_cases c6 : t195 = 0
  ·rw [if_pos c6] at H
   have c6b0 : (t195 == 0) = true := beq_iff_eq.mpr c6
   have c6b1 : (t195 != 0) = false := bne_eq_false_iff_eq.mpr c6
   clear c6
   by_cases c7 : t197 = 0
   ·rw [if_pos c7] at H
    have c7b0 : (t197 == 0) = true := beq_iff_eq.mpr c7
    have c7b1 : (t197 != 0) = false := bne_eq_false_iff_eq.mpr c7
    clear c7
    by_cases c8 : t211 = 0
    ·rw [if_pos c8] at H
     have c8b0 : (t211 == 0) = true := beq_iff_eq.mpr c8
     have c8b1 : (t211 != 0) = false := bne_eq_false_iff_eq.mpr c8
     clear c8
     by_cases c9 : t218 = 64
     ·rw [if_pos c9] at H
      have c9b0 : (t218 == 64) = true := beq_iff_eq.mpr c9
      have c9b1 : (t218 != 64) = false := bne_eq_false_iff_eq.mpr c9
      clear c9
      by_cases c10 : t194 = 55000
      ·rw [if_pos c10] at H
       have c10b0 : (t194 == 55000) = true := beq_iff_eq.mpr c10
       have c10b1 : (t194 != 55000) = false := bne_eq_false_iff_eq.mpr c10
       clear c10
       by_cases c11 : t196 = 5
       ·rw [if_pos c11] at H
        have c11b0 : (t196 == 5) = true := beq_iff_eq.mpr c11
        have c11b1 : (t196 != 5) = false := bne_eq_false_iff_eq.mpr c11
        clear c11
        by_cases c12 : t199 = 200
        ·rw [if_pos c12] at H
         have c12b0 : (t199 == 200) = true := beq_iff_eq.mpr c12
         have c12b1 : (t199 != 200) = false := bne_eq_false_iff_eq.mpr c12
         clear c12
         by_cases c13 : t203 = 55000
         ·rw [if_pos c13] at H
          have c13b0 : (t203 == 55000) = true := beq_iff_eq.mpr c13
          have c13b1 : (t203 != 55000) = false := bne_eq_false_iff_eq.mpr c13
          clear c13
          by_cases c14 : t207 = 40
          ·rw [if_pos c14] at H
           have c14b0 : (t207 == 40) = true := beq_iff_eq.mpr c14
           have c14b1 : (t207 != 40) = false := bne_eq_false_iff_eq.mpr c14
           clear c14
           obtain rfl := Option.some.inj H
           go_enter Try.func6, Try.ntmps6
           go_wp2_with (first | ((with_reducible refine gate_dst (N := 12) rfl ?_); refine Kd.R_lit k31 _ 31 ?hg (N := 12) ?hd (xs := ([(⟨1, 100, 0, 0, 0, 50000, false, 5, 0, 0, 0, 0, 4⟩ : S31), (⟨2, 100, 0, 0, 0, 60000, false, 5, 0, 0, 0, 0, 5⟩ : S31)] : List (S31))) (inner := [.int .i64 1, .int .i64 100, .int .i64 0, .int .i64 0, .int .i64 0, .int .i64 50000, .bool false, .int .i64 5, .int .i64 0, .int .i64 0, .int .i64 0, .int .i64 0, .int .i64 4, .int .i64 2, .int .i64 100, .int .i64 0, .int .i64 0, .int .i64 0, .int .i64 60000, .bool false, .int .i64 5, .int .i64 0, .int .i64 0, .int .i64 0, .int .i64 0, .int .i64 5]) (ok := fun _ => True) (okp := fun _ => True) ?hr ?hp (fun _ hk => hk) trivial (Below.refl _ _) (Nat.le_refl _) (by simp) ?_; (case hd => rfl); (case hg => rfl); (case hr => first | (go_simp; done) | (go_simp; rfl)); (case hp => exact (Reps.front (show Kd.M k31 _ _ _ (⟨1, 100, 0, 0, 0, 50000, false, 5, 0, 0, 0, 0, 4⟩ : S31) [.int .i64 1, .int .i64 100, .int .i64 0, .int .i64 0, .int .i64 0, .int .i64 50000, .bool false, .int .i64 5, .int .i64 0, .int .i64 0, .int .i64 0, .int .i64 0, .int .i64 4] from (k31_mkM _ _ _ (⟨1, 100, 0, 0, 0, 50000, false, 5, 0, 0, 0, 0, 4⟩ : S31) )) rfl (Reps.front (show Kd.M k31 _ _ _ (⟨2, 100, 0, 0, 0, 60000, false, 5, 0, 0, 0, 0, 5⟩ : S31) [.int .i64 2, .int .i64 100, .int .i64 0, .int .i64 0, .int .i64 0, .int .i64 60000, .bool false, .int .i64 5, .int .i64 0, .int .i64 0, .int .i64 0, .int .i64 0, .int .i64 5] from (k31_mkM _ _ _ (⟨2, 100, 0, 0, 0, 60000, false, 5, 0, 0, 0, 0, 5⟩ : S31) )) rfl (Reps.none _ _) rfl) rfl)); intro v192 w15 ho16 hb hg_ hnew_; clear hg_ hnew_; (first | rw [← Ny191.out] at ho16 | (simp only [Int.reduceToNat] at ho16; rw [← Ny191.out] at ho16)); have n0_ := Aside0.mk (Kd.R_lower ho16 (below_size (by exact h0q HB.out))); have n1_ := Aside0.mk (below_step (by exact h0q HB.out) hb); clear HB; have HO193 := n0_; have HB := n1_; clear n0_ n1_; clear hb ho16; obtain ⟨Ao17, co17, eo17⟩ := Kd.R_slice HO193.out; subst eo17) | ((with_reducible refine gate_callee (f := 8) rfl ?_); refine goesL_ (some 15) rfl rfl Try.func8 (by kernel_rfl) rfl #[.slice Ao17 y191.length co17] rfl (by (try simp only [List.map_toArray, List.map_cons, List.map_nil]); first | done | rfl | (simp only [List.length_drop, List.length_take]; rfl)) ?_; (with_reducible refine (blend_Rate.calls k _ _ y191 t194 t195 _ ?side1 ?side2 A1.out).mono ?_); (case side1 => repeat (first | exact (Kd.R_reads' HO193.out).2.2 | (with_reducible refine Kd.C_alloc ?_ _) | (with_reducible refine Kd.C_drewN ?_ _) | (with_reducible refine Kd.C_drew ?_))); (case side2 => exact (Kd.R_reads' HO193.out).2.1); rintro e w18 ⟨rfl, hb⟩; refine ⟨_, rfl, ?_⟩; have n0_ := Aside0.mk (Kd.R_below (by exact rq HO193.out) hb); have n1_ := Aside0.mk (below_step (by exact h0q HB.out) hb); clear HO193; clear HB; have HO193 := n0_; have HB := n1_; clear n0_ n1_; (try clear hb); (try clear hb2); (try clear hk); (try clear hi)) | ((with_reducible refine gate_callee (f := 10) rfl ?_); refine goesL_ (some 20) rfl rfl Try.func10 (by kernel_rfl) rfl #[.slice Ao17 y191.length co17] rfl (by (try simp only [List.map_toArray, List.map_cons, List.map_nil]); first | done | rfl | (simp only [List.length_drop, List.length_take]; rfl)) ?_; (with_reducible refine (blend_Count.calls k _ _ y191 t196 t197 _ ?side1 ?side2 A2.out).mono ?_); (case side1 => repeat (first | exact (Kd.R_reads' HO193.out).2.2 | (with_reducible refine Kd.C_alloc ?_ _) | (with_reducible refine Kd.C_drewN ?_ _) | (with_reducible refine Kd.C_drew ?_))); (case side2 => exact (Kd.R_reads' HO193.out).2.1); rintro e w19 ⟨rfl, hb⟩; refine ⟨_, rfl, ?_⟩; have n0_ := Aside0.mk (Kd.R_below (by exact rq HO193.out) hb); have n1_ := Aside0.mk (below_step (by exact h0q HB.out) hb); clear HO193; clear HB; have HO193 := n0_; have HB := n1_; clear n0_ n1_; (try clear hb); (try clear hb2); (try clear hk); (try clear hi)) | ((with_reducible refine gate_callee (f := 12) rfl ?_); refine goesL_ (some 25) rfl rfl Try.func12 (by kernel_rfl) rfl #[.slice Ao17 y191.length co17, .int .i64 9, .int .i64 40] rfl (by (try simp only [List.map_toArray, List.map_cons, List.map_nil]); first | done | rfl | (simp only [List.length_drop, List.length_take]; rfl)) ?_; (with_reducible refine (blend_Join.calls k _ _ y191 9 40 t198 t199 t200 t201 t202 t203 t204 t205 t206 t207 t208 t209 t210 t211 _ ?side1 ?side2 A3.out).mono ?_); (case side1 => repeat (first | exact (Kd.R_reads' HO193.out).2.2 | (with_reducible refine Kd.C_alloc ?_ _) | (with_reducible refine Kd.C_drewN ?_ _) | (with_reducible refine Kd.C_drew ?_))); (case side2 => exact (Kd.R_reads' HO193.out).2.1); rintro e w20 ⟨rfl, hb⟩; refine ⟨_, rfl, ?_⟩; have n0_ := Aside0.mk (Kd.R_below (by exact rq HO193.out) hb); have n1_ := Aside0.mk (below_step (by exact h0q HB.out) hb); clear HO193; clear HB; have HO193 := n0_; have HB := n1_; clear n0_ n1_; (try clear hb); (try clear hb2); (try clear hk); (try clear hi)) | ((with_reducible refine gate_dst (N := 6) rfl ?_); refine box_event ?hg (N := 6) ?hd (cs := #[.int .i64 0, .int .i64 0, .int .i64 0, .int .i64 0, .int .i64 0, .int .i64 0, .bool false, .int .i64 0, .int .i64 0, .int .i64 0, .int .i64 0, .int .i64 0, .int .i64 0]) (t := 31) ?hr ?_; (case hd => rfl); (case hg => rfl); (case hr => first | (go_simp; done) | (go_simp; rfl)); intro gb212 hg w21 hbox hb; have n0_ := Aside0.mk (Kd.R_below (Kd.R_elderB (by exact rq HO193.out) gb212 (Nat.le_of_eq hg.symm)) hb); have n1_ := Aside0.mk (below_step (by exact h0q HB.out) hb); have n2_ := Aside0.mk (hbox); have n3_ := Aside0.mk ((by rw [hg]; exact (below_size (by exact h0q HB.out)) : w.heap.size ≤ gb212)); have n4_ := Aside0.mk ((by rw [hg]; exact (below_size (by exact h0q HB.out)) : w.heap.size ≤ gb212)); clear HO193; clear HB; have HO193 := n0_; have HB := n1_; have BK212 := n2_; have GW212 := n3_; have GE212 := n4_; clear n0_ n1_ n2_ n3_ n4_; clear hb hbox hg; obtain ⟨hcz22_0, hcz22_1, hcz22_2, hcz22_3, hcz22_4, hcz22_5, hcz22_6, hcz22_7, hcz22_8, hcz22_9, hcz22_10, hcz22_11, hcz22_12, hfz22_0, hfz22_1, hfz22_2, hfz22_3, hfz22_4, hfz22_5, hfz22_6, hfz22_7, hfz22_8, hfz22_9, hfz22_10, hfz22_11, hfz22_12⟩ := lc13 BK212.out) | ((with_reducible refine gate_store (t := 31) (p := 6) rfl ?_); refine store_event (t := 31) (p := 6) (v := ?vo_w23) (w1 := (((((((((((((w21.setCell ⟨gb212, 0, none⟩ (.int .i64 t198)).setCell ⟨gb212, 1, none⟩ (.int .i64 t199)).setCell ⟨gb212, 2, none⟩ (.int .i64 t200)).setCell ⟨gb212, 3, none⟩ (.int .i64 t201)).setCell ⟨gb212, 4, none⟩ (.int .i64 t202)).setCell ⟨gb212, 5, none⟩ (.int .i64 t203)).setCell ⟨gb212, 6, none⟩ (.bool t204)).setCell ⟨gb212, 7, none⟩ (.int .i64 t205)).setCell ⟨gb212, 8, none⟩ (.int .i64 t206)).setCell ⟨gb212, 9, none⟩ (.int .i64 t207)).setCell ⟨gb212, 10, none⟩ (.int .i64 t208)).setCell ⟨gb212, 11, none⟩ (.int .i64 t209)).setCell ⟨gb212, 12, none⟩ (.int .i64 t210))) ?hg ?ho ?hn ?hr ?_; (case ho => rfl); (case hg => rfl); (case hn => rfl); (case hr => first | (go_simp; done) | (go_simp; rfl)); intro w23 hw; have n0_ : Aside0 (Kd.R k31 31 w23 w.heap.size (fun k_ => k_ ≠ gb212) (.slice Ao17 y191.length co17) y191) := ⟨(by rw [hw]; exact (by (with_reducible repeat (first | apply Kd.R_alloc | apply Kd.R_drewN | apply Kd.R_drew)); exact Kd.R_mono (Kd.R_far (p := ⟨gb212, 12, none⟩) (Kd.R_far (p := ⟨gb212, 11, none⟩) (Kd.R_far (p := ⟨gb212, 10, none⟩) (Kd.R_far (p := ⟨gb212, 9, none⟩) (Kd.R_far (p := ⟨gb212, 8, none⟩) (Kd.R_far (p := ⟨gb212, 7, none⟩) (Kd.R_far (p := ⟨gb212, 6, none⟩) (Kd.R_far (p := ⟨gb212, 5, none⟩) (Kd.R_far (p := ⟨gb212, 4, none⟩) (Kd.R_far (p := ⟨gb212, 3, none⟩) (Kd.R_far (p := ⟨gb212, 2, none⟩) (Kd.R_far (p := ⟨gb212, 1, none⟩) (Kd.R_far (p := ⟨gb212, 0, none⟩) (Kd.R_mono HO193.out (fun k_ hk => (⟨hk, hk.2⟩ : _ ∧ k_ ≠ gb212))) (fun _ hk => hk.2) (.int .i64 t198)) (fun _ hk => hk.2) (.int .i64 t199)) (fun _ hk => hk.2) (.int .i64 t200)) (fun _ hk => hk.2) (.int .i64 t201)) (fun _ hk => hk.2) (.int .i64 t202)) (fun _ hk => hk.2) (.int .i64 t203)) (fun _ hk => hk.2) (.bool t204)) (fun _ hk => hk.2) (.int .i64 t205)) (fun _ hk => hk.2) (.int .i64 t206)) (fun _ hk => hk.2) (.int .i64 t207)) (fun _ hk => hk.2) (.int .i64 t208)) (fun _ hk => hk.2) (.int .i64 t209)) (fun _ hk => hk.2) (.int .i64 t210)) (fun _ hk => hk.1.2)))⟩; have n1_ : Aside0 (w23.heap[gb212]? = some (.cells #[.int .i64 t198, .int .i64 t199, .int .i64 t200, .int .i64 t201, .int .i64 t202, .int .i64 t203, .bool t204, .int .i64 t205, .int .i64 t206, .int .i64 t207, .int .i64 t208, .int .i64 t209, .int .i64 t210] 31 (0, 0))) := ⟨(by rw [hw]; exact (by (with_reducible repeat (first | refine blk_drewN ?_ _ | refine blk_drew ?_ | refine blk_alloc ?_ _)); refine blk_put (cs := #[.int .i64 t198, .int .i64 t199, .int .i64 t200, .int .i64 t201, .int .i64 t202, .int .i64 t203, .bool t204, .int .i64 t205, .int .i64 t206, .int .i64 t207, .int .i64 t208, .int .i64 t209, .int .i64 0]) ?_ 12 _ rfl; (with_reducible repeat (first | refine blk_drewN ?_ _ | refine blk_drew ?_ | refine blk_alloc ?_ _)); refine blk_put (cs := #[.int .i64 t198, .int .i64 t199, .int .i64 t200, .int .i64 t201, .int .i64 t202, .int .i64 t203, .bool t204, .int .i64 t205, .int .i64 t206, .int .i64 t207, .int .i64 t208, .int .i64 0, .int .i64 0]) ?_ 11 _ rfl; (with_reducible repeat (first | refine blk_drewN ?_ _ | refine blk_drew ?_ | refine blk_alloc ?_ _)); refine blk_put (cs := #[.int .i64 t198, .int .i64 t199, .int .i64 t200, .int .i64 t201, .int .i64 t202, .int .i64 t203, .bool t204, .int .i64 t205, .int .i64 t206, .int .i64 t207, .int .i64 0, .int .i64 0, .int .i64 0]) ?_ 10 _ rfl; (with_reducible repeat (first | refine blk_drewN ?_ _ | refine blk_drew ?_ | refine blk_alloc ?_ _)); refine blk_put (cs := #[.int .i64 t198, .int .i64 t199, .int .i64 t200, .int .i64 t201, .int .i64 t202, .int .i64 t203, .bool t204, .int .i64 t205, .int .i64 t206, .int .i64 0, .int .i64 0, .int .i64 0, .int .i64 0]) ?_ 9 _ rfl; (with_reducible repeat (first | refine blk_drewN ?_ _ | refine blk_drew ?_ | refine blk_alloc ?_ _)); refine blk_put (cs := #[.int .i64 t198, .int .i64 t199, .int .i64 t200, .int .i64 t201, .int .i64 t202, .int .i64 t203, .bool t204, .int .i64 t205, .int .i64 0, .int .i64 0, .int .i64 0, .int .i64 0, .int .i64 0]) ?_ 8 _ rfl; (with_reducible repeat (first | refine blk_drewN ?_ _ | refine blk_drew ?_ | refine blk_alloc ?_ _)); refine blk_put (cs := #[.int .i64 t198, .int .i64 t199, .int .i64 t200, .int .i64 t201, .int .i64 t202, .int .i64 t203, .bool t204, .int .i64 0, .int .i64 0, .int .i64 0, .int .i64 0, .int .i64 0, .int .i64 0]) ?_ 7 _ rfl; (with_reducible repeat (first | refine blk_drewN ?_ _ | refine blk_drew ?_ | refine blk_alloc ?_ _)); refine blk_put (cs := #[.int .i64 t198, .int .i64 t199, .int .i64 t200, .int .i64 t201, .int .i64 t202, .int .i64 t203, .bool false, .int .i64 0, .int .i64 0, .int .i64 0, .int .i64 0, .int .i64 0, .int .i64 0]) ?_ 6 _ rfl; (with_reducible repeat (first | refine blk_drewN ?_ _ | refine blk_drew ?_ | refine blk_alloc ?_ _)); refine blk_put (cs := #[.int .i64 t198, .int .i64 t199, .int .i64 t200, .int .i64 t201, .int .i64 t202, .int .i64 0, .bool false, .int .i64 0, .int .i64 0, .int .i64 0, .int .i64 0, .int .i64 0, .int .i64 0]) ?_ 5 _ rfl; (with_reducible repeat (first | refine blk_drewN ?_ _ | refine blk_drew ?_ | refine blk_alloc ?_ _)); refine blk_put (cs := #[.int .i64 t198, .int .i64 t199, .int .i64 t200, .int .i64 t201, .int .i64 0, .int .i64 0, .bool false, .int .i64 0, .int .i64 0, .int .i64 0, .int .i64 0, .int .i64 0, .int .i64 0]) ?_ 4 _ rfl; (with_reducible repeat (first | refine blk_drewN ?_ _ | refine blk_drew ?_ | refine blk_alloc ?_ _)); refine blk_put (cs := #[.int .i64 t198, .int .i64 t199, .int .i64 t200, .int .i64 0, .int .i64 0, .int .i64 0, .bool false, .int .i64 0, .int .i64 0, .int .i64 0, .int .i64 0, .int .i64 0, .int .i64 0]) ?_ 3 _ rfl; (with_reducible repeat (first | refine blk_drewN ?_ _ | refine blk_drew ?_ | refine blk_alloc ?_ _)); refine blk_put (cs := #[.int .i64 t198, .int .i64 t199, .int .i64 0, .int .i64 0, .int .i64 0, .int .i64 0, .bool false, .int .i64 0, .int .i64 0, .int .i64 0, .int .i64 0, .int .i64 0, .int .i64 0]) ?_ 2 _ rfl; (with_reducible repeat (first | refine blk_drewN ?_ _ | refine blk_drew ?_ | refine blk_alloc ?_ _)); refine blk_put (cs := #[.int .i64 t198, .int .i64 0, .int .i64 0, .int .i64 0, .int .i64 0, .int .i64 0, .bool false, .int .i64 0, .int .i64 0, .int .i64 0, .int .i64 0, .int .i64 0, .int .i64 0]) ?_ 1 _ rfl; (with_reducible repeat (first | refine blk_drewN ?_ _ | refine blk_drew ?_ | refine blk_alloc ?_ _)); refine blk_put (cs := #[.int .i64 0, .int .i64 0, .int .i64 0, .int .i64 0, .int .i64 0, .int .i64 0, .bool false, .int .i64 0, .int .i64 0, .int .i64 0, .int .i64 0, .int .i64 0, .int .i64 0]) ?_ 0 _ rfl; (with_reducible repeat (first | refine blk_drewN ?_ _ | refine blk_drew ?_ | refine blk_alloc ?_ _)); exact BK212.out))⟩; have n2_ : Aside0 (Below w.heap.size w w23) := ⟨(by rw [hw]; exact (by exact h1q HB.out GE212.out))⟩; clear hw; clear HO193; clear BK212; clear HB; have HO193 := n0_; have BK212 := n1_; have HB := n2_; clear n0_ n1_ n2_; have q24 : (1 : Int) ≤ ((y191.length : Int) : Int) := yd; obtain ⟨i024, hi024, _, hsz24, _⟩ := info_parts info31; have hroom24 : y191.length ≤ co17 := (Kd.R_reads' HO193.out).2.1; have hC24 : Kd.C k31 _ Ao17 y191.length y191 := (Kd.R_reads' HO193.out).2.2; have hcut24 := cut_to (P := Try.prog) 22 31 .i64 Try.underlying22 hi024 Ao17 y191.length co17 1 (by omega) q24 hroom24; have hr24 := Kd.C_take (m := 1) hC24 (by omega); have hy24 : y213.length = (1 : Int).toNat := (by rw [Ny213.out, List.length_take]; omega); rw [← Ny213.out] at hr24; rw [← hy24] at hcut24; have HR216 := Aside0.mk hr24; have HC216 := Aside0.mk (show y213.length ≤ co17 from by omega); clear hr24 hC24 hroom24 hi024 hsz24; have KY24 := Aside0.mk hy24; clear hy24; have KL24 := Aside0.mk (show 1 ≤ y191.length from by omega); replace q24 := eq_true q24) | ((with_reducible refine gate_callee (f := 8) rfl ?_); refine goesL_ (some 31) rfl rfl Try.func8 (by kernel_rfl) rfl #[.slice Ao17 y213.length co17] rfl (by (try simp only [List.map_toArray, List.map_cons, List.map_nil]); first | done | rfl | (simp only [List.length_drop, List.length_take]; rfl)) ?_; (with_reducible refine (blend_Rate.calls k _ _ y213 t217 t218 _ ?side1 ?side2 A5.out).mono ?_); (case side1 => repeat (first | exact (by repeat (first | (with_reducible exact HR216.out) | (with_reducible refine Kd.C_alloc ?_ _) | (with_reducible refine Kd.C_drewN ?_ _) | (with_reducible refine Kd.C_drew ?_) | exact HR216.out)) | (with_reducible refine Kd.C_alloc ?_ _) | (with_reducible refine Kd.C_drewN ?_ _) | (with_reducible refine Kd.C_drew ?_))); (case side2 => exact HC216.out); rintro e w25 ⟨rfl, hb⟩; refine ⟨_, rfl, ?_⟩; have n0_ := Aside0.mk (Kd.R_below (by exact rq HO193.out) hb); have n1_ := Aside0.mk (blk_below (g := gb212) (Up.up BK212.out) hb); have n2_ := Aside0.mk (Kd.C_below (by repeat (first | (with_reducible exact HR216.out) | (with_reducible refine Kd.C_alloc ?_ _) | (with_reducible refine Kd.C_drewN ?_ _) | (with_reducible refine Kd.C_drew ?_) | exact HR216.out)) hb); have n3_ := Aside0.mk (below_step (by exact h1q HB.out GE212.out) hb); clear HO193; clear BK212; clear HR216; clear HB; have HO193 := n0_; have BK212 := n1_; have HR216 := n2_; have HB := n3_; clear n0_ n1_ n2_ n3_; (try clear hb); (try clear hb2); (try clear hk); (try clear hi); obtain ⟨hcz26_0, hcz26_1, hcz26_2, hcz26_3, hcz26_4, hcz26_5, hcz26_6, hcz26_7, hcz26_8, hcz26_9, hcz26_10, hcz26_11, hcz26_12, hfz26_0, hfz26_1, hfz26_2, hfz26_3, hfz26_4, hfz26_5, hfz26_6, hfz26_7, hfz26_8, hfz26_9, hfz26_10, hfz26_11, hfz26_12⟩ := lc13 BK212.out))
           go_ret
           exact ⟨by first | rfl | (simp [errW_none, errW_some] <;> rfl) | (simp [*, errW_none, errW_some] <;> rfl), by exact h1q HB.out GE212.out⟩
          ·rw [if_neg c14] at H
           exact absurd H (by simp)
         ·rw [if_neg c13] at H
          exact absurd H (by simp)
        ·rw [if_neg c12] at H
         exact absurd H (by simp)
       ·rw [if_neg c11] at H
        exact absurd H (by simp)
      ·rw [if_neg c10] at H
       exact absurd H (by simp)
     ·rw [if_neg c9] at H
      exact absurd H (by simp)
    ·rw [if_neg c8] at H
     exact absurd H (by simp)
   ·rw [if_neg c7] at H
    exact absurd H (by simp)
  ·rw [if_neg c6] at H
   exact absurd H (by simp)
 ·rw [if_neg c4] at H
  exact absurd H (by simp)

/-! ### annuitylaw21_BlendTells: function 3 -/
/-- What is known of an element that came in. -/
def annuitylaw21_BlendTells.wf31 (x : S31) : Prop := (Lit.int .i64 x.f0).wf = true ∧ (Lit.int .i64 x.f1).wf = true ∧ (Lit.int .i64 x.f2).wf = true ∧ (Lit.int .i64 x.f3).wf = true ∧ (Lit.int .i64 x.f4).wf = true ∧ (Lit.int .i64 x.f5).wf = true ∧ (Lit.int .i64 x.f7).wf = true ∧ (Lit.int .i64 x.f8).wf = true ∧ (Lit.int .i64 x.f9).wf = true ∧ (Lit.int .i64 x.f10).wf = true ∧ (Lit.int .i64 x.f11).wf = true ∧ (Lit.int .i64 x.f12).wf = true
end Go.Proofs.Ytakcepffodipfaa.P
