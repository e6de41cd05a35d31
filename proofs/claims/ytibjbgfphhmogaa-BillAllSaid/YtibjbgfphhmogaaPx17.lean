/- Functions of the program as plain Lean functions, and proofs that its calls come to just their answers, where they tell one (written by a program of this session). -/
import Derived.Test.YtibjbgfphhmogaaPx0
import Derived.Test.YtibjbgfphhmogaaPx1
import Derived.Test.YtibjbgfphhmogaaPx6
import Derived.Test.YtibjbgfphhmogaaPx7
import Derived.Test.YtibjbgfphhmogaaZo
import Derived.Test.YtibjbgfphhmogaaZr
namespace Go.Proofs.Ytibjbgfphhmogaa.P
open Go.RowKit Go.Proofs.YtibjbgfphhmogaaW.PrintWords Go.Proofs.YtibjbgfphhmogaaW.PrintLast Go.Proofs.YtibjbgfphhmogaaW.PrintMore
attribute [local go_sem] max2_int min2_int max_two min_two max_three min_three max_four min_four   -- for this text's walks alone
set_option linter.unusedVariables false
set_option linter.unusedSimpArgs false

-- BREAK
/-! ### annuitylaw19_Large: function 8 -/
def annuitylaw19_Large.f (k : Nat) (l0 : List (S45)) : Option (Bool) := (annuitykeep_Large.f k 0 ([] : List (S93)) 0 0 0 0 l0 0 0 0 0 0 0).bind fun t103 => (some t103)
theorem annuitylaw19_Large.mono : ∀ a0 k, LeO (annuitylaw19_Large.f k a0) (annuitylaw19_Large.f (k + 1) a0) := by
  intro a0 k
  unfold annuitylaw19_Large.f
  repeat' first
      | (with_reducible exact annuitykeep_Large.mono _ _ _ _ _ _ _ _ _ _ _ _ _ _)
      | (with_reducible exact LeO.refl _)
      | (with_reducible exact LeO.none _)
      | (with_reducible refine LeO.ite ?_ ?_)
      | (with_reducible refine LeO.bind ?_ (fun _ => ?_))
      | exact annuitykeep_Large.mono _ _ _ _ _ _ _ _ _ _ _ _ _ _
      | exact LeO.none _
      | refine LeO.ite ?_ ?_
      | refine LeO.bind ?_ (fun _ => ?_)
set_option maxHeartbeats 8000000 in
set_option maxRecDepth 100000 in
theorem annuitylaw19_Large.calls (k : Nat) (A0 : Option Addr) (c0 : Nat) (l0 : List (S45)) (r : Bool) (w : World) (hr0 : Kd.C k45 w A0 l0.length l0) (hc0 : l0.length ≤ c0) (h : annuitylaw19_Large.f k l0 = some r) :
    Calls Try.prog 8 #[.slice A0 l0.length c0] w fun e w' => e = .returned (.bool r) ∧ Below w.heap.size w w' := by
  have hu63 := Try.underlying63
  have HR0 := Aside0.mk hr0
  have HC0 := Aside0.mk hc0
  clear hr0 hc0
  have HB := Aside0.mk (Below.refl w.heap.size w)
  have H : ((annuitykeep_Large.f k 0 ([] : List (S93)) 0 0 0 0 l0 0 0 0 0 0 0).bind fun t103 => (some t103)) = some r := h
  clear h
  replace H := Option.bind_eq_some_iff.mp H
  obtain ⟨t103, A20, H⟩ := H
  replace H : (some t103) = some r := H
  have A2 := Aside0.mk A20
  clear A20
  obtain rfl := Option.some.inj H
  go_enter Try.func8, Try.ntmps8
  go_wp2_with (first | ((with_reducible refine gate_callee (f := 27) rfl ?_); refine goesL_ (some 5) rfl rfl Try.func27 (by kernel_rfl) rfl #[.agg #[.int .i64 0, .slice none 0 0, .int .i64 0, .int .i64 0, .int .i64 0, .int .i64 0, .slice A0 l0.length c0, .int .i64 0, .int .i64 0, .int .i64 0, .int .i64 0, .int .i64 0, .int .i64 0]] rfl (by (try simp only [List.map_toArray, List.map_cons, List.map_nil]); first | done | rfl | (simp only [List.length_drop, List.length_take]; rfl)) ?_; (refine (annuitykeep_Large.calls k 0 _ _ ([] : List (S93)) 0 0 0 0 _ _ l0 0 0 0 0 0 0 t103 _ ?side1 ?side2 ?side3 ?side4 A2.out).mono ?_); (case side1 => exact Kd.C_nil _ _); (case side2 => exact Nat.le_refl _); (case side3 => repeat (first | exact HR0.out | (with_reducible refine Kd.C_alloc ?_ _) | (with_reducible refine Kd.C_drewN ?_ _) | (with_reducible refine Kd.C_drew ?_))); (case side4 => exact HC0.out); rintro e w3 ⟨rfl, hb⟩; refine ⟨_, rfl, ?_⟩; have n0_ := Aside0.mk (below_step (by repeat (first | (with_reducible first | exact HB.out | apply below_alloc | apply pw_below_drewN | apply below_drew1) | exact HB.out)) hb); clear HB; have HB := n0_; clear n0_; (try clear hb); (try clear hb2); (try clear hk); (try clear hi)))
  go_ret
  exact ⟨by first | rfl | (simp [errW_none, errW_some] <;> rfl) | (simp [*, errW_none, errW_some] <;> rfl), by repeat (first | (with_reducible first | exact HB.out | apply below_alloc | apply pw_below_drewN | apply below_drew1) | exact HB.out)⟩

/-! ### annuitylaw19_wakes: function 9 -/
def annuitylaw19_wakes.f (k : Nat)  : Option (Bool) := (bill_Issue.f k ([] : List (S45)) 1 5 0 1 (([3] : List Int))).bind fun bt152 => ((bill_Issue.f k bt152.1 2 5 1 1 ([] : List Int)).bind fun bt157 => ((bill_Credit.f k bt157.1 7 40).bind fun bt162 => (if bt152.2.2 = 0 then (if bt157.2.2 = 0 then (if bt162.2.2 = 0 then (if bt152.2.1 = 0 then (if bt157.2.1 = 0 then (if bt162.2.1 = 0 then (if (bt162.1.length : Int) = 2 then (if 0 < (bt162.1.length : Int) then (if ((rd_T45 bt162.1 0).f2) = 0 then (if ((rd_T45 bt162.1 0).f3) = 40 then (if 1 < (bt162.1.length : Int) then (if ((rd_T45 bt162.1 1).f2) = 2 then ((bill_Open.f k bt162.1).bind fun t170 => (if t170 = 1 then ((bill_Late.f k bt162.1 65).bind fun t171 => (if t171 = 5 then (some ((((rd_T45 bt162.1 0).f5).length : Int) == 1)) else (none))) else (none))) else (none)) else (none)) else (none)) else (none)) else (none)) else (none)) else (none)) else (none)) else (none)) else (none)) else (none)) else (none))))
theorem annuitylaw19_wakes.mono : ∀ k, LeO (annuitylaw19_wakes.f k ) (annuitylaw19_wakes.f (k + 1) ) := by
  intro  k
  unfold annuitylaw19_wakes.f
  repeat' first
      | (with_reducible exact bill_Credit.mono _ _ _ _)
      | (with_reducible exact bill_Issue.mono _ _ _ _ _ _ _)
      | (with_reducible exact bill_Late.mono _ _ _)
      | (with_reducible exact bill_Open.mono _ _)
      | (with_reducible exact LeO.refl _)
      | (with_reducible exact LeO.none _)
      | (with_reducible refine LeO.ite ?_ ?_)
      | (with_reducible refine LeO.bind ?_ (fun _ => ?_))
      | exact bill_Credit.mono _ _ _ _
      | exact bill_Issue.mono _ _ _ _ _ _ _
      | exact bill_Late.mono _ _ _
      | exact bill_Open.mono _ _
      | exact LeO.none _
      | refine LeO.ite ?_ ?_
      | refine LeO.bind ?_ (fun _ => ?_)
set_option maxHeartbeats 8000000 in
set_option maxRecDepth 100000 in
theorem annuitylaw19_wakes.calls (k : Nat)  (r : Bool) (w : World) (h : annuitylaw19_wakes.f k  = some r) :
    Calls Try.prog 9 #[] w fun e w' => e = .returned (.bool r) ∧ Below w.heap.size w w' := by
  have HB := Aside0.mk (Below.refl w.heap.size w)
  have H : ((bill_Issue.f k ([] : List (S45)) 1 5 0 1 (([3] : List Int))).bind fun bt152 => ((bill_Issue.f k bt152.1 2 5 1 1 ([] : List Int)).bind fun bt157 => ((bill_Credit.f k bt157.1 7 40).bind fun bt162 => (if bt152.2.2 = 0 then (if bt157.2.2 = 0 then (if bt162.2.2 = 0 then (if bt152.2.1 = 0 then (if bt157.2.1 = 0 then (if bt162.2.1 = 0 then (if (bt162.1.length : Int) = 2 then (if 0 < (bt162.1.length : Int) then (if ((rd_T45 bt162.1 0).f2) = 0 then (if ((rd_T45 bt162.1 0).f3) = 40 then (if 1 < (bt162.1.length : Int) then (if ((rd_T45 bt162.1 1).f2) = 2 then ((bill_Open.f k bt162.1).bind fun t170 => (if t170 = 1 then ((bill_Late.f k bt162.1 65).bind fun t171 => (if t171 = 5 then (some ((((rd_T45 bt162.1 0).f5).length : Int) == 1)) else (none))) else (none))) else (none)) else (none)) else (none)) else (none)) else (none)) else (none)) else (none)) else (none)) else (none)) else (none)) else (none)) else (none))))) = some r := h
  clear h
  obtain ⟨y149, hy149⟩ : ∃ y_ : List Int, y_ = (([3] : List Int)) := ⟨_, rfl⟩
  replace H : ((bill_Issue.f k ([] : List (S45)) 1 5 0 1 y149).bind fun bt152 => ((bill_Issue.f k bt152.1 2 5 1 1 ([] : List Int)).bind fun bt157 => ((bill_Credit.f k bt157.1 7 40).bind fun bt162 => (if bt152.2.2 = 0 then (if bt157.2.2 = 0 then (if bt162.2.2 = 0 then (if bt152.2.1 = 0 then (if bt157.2.1 = 0 then (if bt162.2.1 = 0 then (if (bt162.1.length : Int) = 2 then (if 0 < (bt162.1.length : Int) then (if ((rd_T45 bt162.1 0).f2) = 0 then (if ((rd_T45 bt162.1 0).f3) = 40 then (if 1 < (bt162.1.length : Int) then (if ((rd_T45 bt162.1 1).f2) = 2 then ((bill_Open.f k bt162.1).bind fun t170 => (if t170 = 1 then ((bill_Late.f k bt162.1 65).bind fun t171 => (if t171 = 5 then (some ((((rd_T45 bt162.1 0).f5).length : Int) == 1)) else (none))) else (none))) else (none)) else (none)) else (none)) else (none)) else (none)) else (none)) else (none)) else (none)) else (none)) else (none)) else (none)) else (none))))) = some r := by first | (rw [hy149]; with_reducible exact H) | (have H2_ := (Option.bind_some _ _).symm.trans H; rw [hy149]; with_reducible exact H2_) | (have H2_ := (Option.bind_some _ _).symm.trans H; with_reducible exact H2_) | with_reducible exact H | (rw [hy149]; exact H) | exact H
  have Ny149 := Aside0.mk hy149
  clear hy149
  replace H := Option.bind_eq_some_iff.mp H
  obtain ⟨⟨t152, t155, t156⟩, A10, H⟩ := H
  replace H : ((bill_Issue.f k t152 2 5 1 1 ([] : List Int)).bind fun bt157 => ((bill_Credit.f k bt157.1 7 40).bind fun bt162 => (if t156 = 0 then (if bt157.2.2 = 0 then (if bt162.2.2 = 0 then (if t155 = 0 then (if bt157.2.1 = 0 then (if bt162.2.1 = 0 then (if (bt162.1.length : Int) = 2 then (if 0 < (bt162.1.length : Int) then (if ((rd_T45 bt162.1 0).f2) = 0 then (if ((rd_T45 bt162.1 0).f3) = 40 then (if 1 < (bt162.1.length : Int) then (if ((rd_T45 bt162.1 1).f2) = 2 then ((bill_Open.f k bt162.1).bind fun t170 => (if t170 = 1 then ((bill_Late.f k bt162.1 65).bind fun t171 => (if t171 = 5 then (some ((((rd_T45 bt162.1 0).f5).length : Int) == 1)) else (none))) else (none))) else (none)) else (none)) else (none)) else (none)) else (none)) else (none)) else (none)) else (none)) else (none)) else (none)) else (none)) else (none)))) = some r := H
  have A1 := Aside0.mk A10
  clear A10
  replace H := Option.bind_eq_some_iff.mp H
  obtain ⟨⟨t157, t160, t161⟩, A20, H⟩ := H
  replace H : ((bill_Credit.f k t157 7 40).bind fun bt162 => (if t156 = 0 then (if t161 = 0 then (if bt162.2.2 = 0 then (if t155 = 0 then (if t160 = 0 then (if bt162.2.1 = 0 then (if (bt162.1.length : Int) = 2 then (if 0 < (bt162.1.length : Int) then (if ((rd_T45 bt162.1 0).f2) = 0 then (if ((rd_T45 bt162.1 0).f3) = 40 then (if 1 < (bt162.1.length : Int) then (if ((rd_T45 bt162.1 1).f2) = 2 then ((bill_Open.f k bt162.1).bind fun t170 => (if t170 = 1 then ((bill_Late.f k bt162.1 65).bind fun t171 => (if t171 = 5 then (some ((((rd_T45 bt162.1 0).f5).length : Int) == 1)) else (none))) else (none))) else (none)) else (none)) else (none)) else (none)) else (none)) else (none)) else (none)) else (none)) else (none)) else (none)) else (none)) else (none))) = some r := H
  have A2 := Aside0.mk A20
  clear A20
  replace H := Option.bind_eq_some_iff.mp H
  obtain ⟨⟨t162, t165, t166⟩, A30, H⟩ := H
  replace H : (if t156 = 0 then (if t161 = 0 then (if t166 = 0 then (if t155 = 0 then (if t160 = 0 then (if t165 = 0 then (if (t162.length : Int) = 2 then (if 0 < (t162.length : Int) then (if ((rd_T45 t162 0).f2) = 0 then (if ((rd_T45 t162 0).f3) = 40 then (if 1 < (t162.length : Int) then (if ((rd_T45 t162 1).f2) = 2 then ((bill_Open.f k t162).bind fun t170 => (if t170 = 1 then ((bill_Late.f k t162 65).bind fun t171 => (if t171 = 5 then (some ((((rd_T45 t162 0).f5).length : Int) == 1)) else (none))) else (none))) else (none)) else (none)) else (none)) else (none)) else (none)) else (none)) else (none)) else (none)) else (none)) else (none)) else (none)) else (none)) = some r := H
  have A3 := Aside0.mk A30
  clear A30
  by_cases c4 : t156 = 0
  · rw [if_pos c4] at H
    have c4b0 : (t156 == 0) = true := beq_iff_eq.mpr c4
    have c4b1 : (t156 != 0) = false := bne_eq_false_iff_eq.mpr c4
    clear c4
    by_cases c5 : t161 = 0
    · rw [if_pos c5] at H
      have c5b0 : (t161 == 0) = true := beq_iff_eq.mpr c5
      have c5b1 : (t161 != 0) = false := bne_eq_false_iff_eq.mpr c5
      clear c5
      by_cases c6 : t166 = 0
      · rw [if_pos c6] at H
        have c6b0 : (t166 == 0) = true := beq_iff_eq.mpr c6
        have c6b1 : (t166 != 0) = false := bne_eq_false_iff_eq.mpr c6
        clear c6
        by_cases c7 : t155 = 0
        · rw [if_pos c7] at H
          have c7b0 : (t155 == 0) = true := beq_iff_eq.mpr c7
          have c7b1 : (t155 != 0) = false := bne_eq_false_iff_eq.mpr c7
          clear c7
          by_cases c8 : t160 = 0
          · rw [if_pos c8] at H
            have c8b0 : (t160 == 0) = true := beq_iff_eq.mpr c8
            have c8b1 : (t160 != 0) = false := bne_eq_false_iff_eq.mpr c8
            clear c8
            by_cases c9 : t165 = 0
            · rw [if_pos c9] at H
              have c9b0 : (t165 == 0) = true := beq_iff_eq.mpr c9
              have c9b1 : (t165 != 0) = false := bne_eq_false_iff_eq.mpr c9
              clear c9
              by_cases c10 : (t162.length : Int) = 2
              · rw [if_pos c10] at H
                have c10b0 : ((t162.length : Int) == 2) = true := beq_iff_eq.mpr c10
                have c10b1 : ((t162.length : Int) != 2) = false := bne_eq_false_iff_eq.mpr c10
                clear c10
                by_cases c11 : 0 < (t162.length : Int)
                · rw [if_pos c11] at H
                  have c11b0 : decide (0 < (t162.length : Int)) = true := decide_eq_true c11
                  have c11b1 : decide (0 < t162.length) = true := decide_eq_true (by omega)
                  clear c11
                  by_cases c12 : ((rd_T45 t162 0).f2) = 0
                  · rw [if_pos c12] at H
                    have c12b0 : (((rd_T45 t162 0).f2) == 0) = true := beq_iff_eq.mpr c12
                    have c12b1 : (((rd_T45 t162 0).f2) != 0) = false := bne_eq_false_iff_eq.mpr c12
                    clear c12
                    by_cases c13 : ((rd_T45 t162 0).f3) = 40
                    · rw [if_pos c13] at H
                      have c13b0 : (((rd_T45 t162 0).f3) == 40) = true := beq_iff_eq.mpr c13
                      have c13b1 : (((rd_T45 t162 0).f3) != 40) = false := bne_eq_false_iff_eq.mpr c13
                      clear c13
                      by_cases c14 : 1 < (t162.length : Int)
                      · rw [if_pos c14] at H
                        have c14b0 : decide (1 < (t162.length : Int)) = true := decide_eq_true c14
                        have c14b1 : decide (1 < t162.length) = true := decide_eq_true (by omega)
                        clear c14
                        by_cases c15 : ((rd_T45 t162 1).f2) = 2
                        · rw [if_pos c15] at H
                          have c15b0 : (((rd_T45 t162 1).f2) == 2) = true := beq_iff_eq.mpr c15
                          have c15b1 : (((rd_T45 t162 1).f2) != 2) = false := bne_eq_false_iff_eq.mpr c15
                          clear c15
                          replace H := Option.bind_eq_some_iff.mp H
                          obtain ⟨t170, A160, H⟩ := H
                          replace H : (if t170 = 1 then ((bill_Late.f k t162 65).bind fun t171 => (if t171 = 5 then (some ((((rd_T45 t162 0).f5).length : Int) == 1)) else (none))) else (none)) = some r := H
                          have A16 := Aside0.mk A160
                          clear A160
                          by_cases c17 : t170 = 1
                          · rw [if_pos c17] at H
                            have c17b0 : (t170 == 1) = true := beq_iff_eq.mpr c17
                            have c17b1 : (t170 != 1) = false := bne_eq_false_iff_eq.mpr c17
                            clear c17
                            replace H := Option.bind_eq_some_iff.mp H
                            obtain ⟨t171, A180, H⟩ := H
                            replace H : (if t171 = 5 then (some ((((rd_T45 t162 0).f5).length : Int) == 1)) else (none)) = some r := H
                            have A18 := Aside0.mk A180
                            clear A180
                            by_cases c19 : t171 = 5
                            · rw [if_pos c19] at H
                              have c19b0 : (t171 == 5) = true := beq_iff_eq.mpr c19
                              have c19b1 : (t171 != 5) = false := bne_eq_false_iff_eq.mpr c19
                              clear c19
                              obtain rfl := Option.some.inj H
                              go_enter Try.func9, Try.ntmps9
                              go_wp2_with (first | ((with_reducible refine gate_dst (N := 11) rfl ?_); (try (refine gate_guard (by rfl) ?_; dsimp only)); refine Kd.R_lit (Kd.int .i64) _ 3 ?hg (N := 11) ?hd (xs := ([3] : List Int)) (inner := [.int .i64 3]) (ok := fun _ => True) (okp := fun _ => True) ?hr ?hp (fun _ hk => hk) trivial (Below.refl _ _) (Nat.le_refl _) (by simp) ?_; (case hd => rfl); (case hg => rfl); (case hr => first | (go_simp; done) | (go_simp; rfl)); (case hp => exact (Reps.one (show Kd.M (Kd.int .i64) _ _ _ 3 [.int .i64 3] from rfl) (Reps.none _ _))); intro v150 w20 ho21 hb hg_ hnew_; clear hg_ hnew_; (first | rw [← Ny149.out] at ho21 | (simp only [Int.reduceToNat] at ho21; rw [← Ny149.out] at ho21)); have n0_ := Aside0.mk (Kd.R_lower ho21 (below_size (by repeat (first | (with_reducible first | exact HB.out | apply below_alloc | apply pw_below_drewN | apply below_drew1) | exact HB.out)))); have n1_ := Aside0.mk (below_step (by repeat (first | (with_reducible first | exact HB.out | apply below_alloc | apply pw_below_drewN | apply below_drew1) | exact HB.out)) hb); clear HB; have HO151 := n0_; have HB := n1_; clear n0_ n1_; clear hb ho21; obtain ⟨Ao22, co22, eo22⟩ := Kd.R_slice HO151.out; subst eo22) | ((with_reducible refine gate_callee (f := 11) rfl ?_); refine goesL_ (some 12) rfl rfl Try.func11 (by kernel_rfl) rfl #[.slice none 0 0, .int .i64 1, .int .i64 5, .int .i64 0, .int .i64 1, .slice Ao22 y149.length co22] rfl (by (try simp only [List.map_toArray, List.map_cons, List.map_nil]); first | done | rfl | (simp only [List.length_drop, List.length_take]; rfl)) ?_; (refine (bill_Issue.calls k _ _ ([] : List (S45)) 1 5 0 1 _ _ y149 t152 t155 t156 _ ?side1 ?side2 ?side3 ?side4 A1.out).mono ?_); (case side1 => exact Kd.C_nil _ _); (case side2 => exact Nat.le_refl _); (case side3 => repeat (first | exact (Kd.R_reads' HO151.out).2.2 | (with_reducible refine Kd.C_alloc ?_ _) | (with_reducible refine Kd.C_drewN ?_ _) | (with_reducible refine Kd.C_drew ?_))); (case side4 => exact (Kd.R_reads' HO151.out).2.1); rintro e w23 ⟨v153, rfl, ho0, hb⟩; refine ⟨_, rfl, ?_⟩; have n0_ := Aside0.mk (Kd.R_below (by (with_reducible repeat (first | apply Kd.R_alloc | apply Kd.R_drewN | apply Kd.R_drew)); exact HO151.out) hb); have n1_ := Aside0.mk (Kd.N_lower (Kd.N_mono (ok' := fun k_ => some k_ ≠ (.slice Ao22 y149.length co22 : Value).ownBlock) ho0 (fun k_ hk_ => (Kd.fresh' (Kd.R_lt (by (with_reducible repeat (first | apply Kd.R_alloc | apply Kd.R_drewN | apply Kd.R_drew)); exact HO151.out)) k_ hk_))) (below_size (by repeat (first | (with_reducible first | exact HB.out | apply below_alloc | apply pw_below_drewN | apply below_drew1) | exact HB.out)))); have n2_ := Aside0.mk (below_step (by repeat (first | (with_reducible first | exact HB.out | apply below_alloc | apply pw_below_drewN | apply below_drew1) | exact HB.out)) hb); clear HO151; clear HB; have HO151 := n0_; have HO154 := n1_; have HB := n2_; clear n0_ n1_ n2_; (try clear hb); (try clear hb2); (try clear hk); (try clear hi); (try clear ho0); obtain ⟨Ao24, co24, eo24⟩ := Kd.N_slice HO154.out; subst eo24) | ((with_reducible refine gate_callee (f := 11) rfl ?_); refine goesL_ (some 18) rfl rfl Try.func11 (by kernel_rfl) rfl #[.slice Ao24 t152.length co24, .int .i64 2, .int .i64 5, .int .i64 1, .int .i64 1, .slice none 0 0] rfl (by (try simp only [List.map_toArray, List.map_cons, List.map_nil]); first | done | rfl | (simp only [List.length_drop, List.length_take]; rfl)) ?_; (refine (bill_Issue.calls k _ _ t152 2 5 1 1 _ _ ([] : List Int) t157 t160 t161 _ ?side1 ?side2 ?side3 ?side4 A2.out).mono ?_); (case side1 => repeat (first | exact (Kd.N_reads' HO154.out).2.2 | (with_reducible refine Kd.C_alloc ?_ _) | (with_reducible refine Kd.C_drewN ?_ _) | (with_reducible refine Kd.C_drew ?_))); (case side2 => exact (Kd.N_reads' HO154.out).2.1); (case side3 => exact Kd.C_nil _ _); (case side4 => exact Nat.le_refl _); rintro e w25 ⟨v158, rfl, ho0, hb⟩; refine ⟨_, rfl, ?_⟩; have n0_ := Aside0.mk (Kd.R_below (by (with_reducible repeat (first | apply Kd.R_alloc | apply Kd.R_drewN | apply Kd.R_drew)); exact HO151.out) hb); have n1_ := Aside0.mk (Kd.N_elder' (by (with_reducible repeat (first | apply Kd.N_alloc | apply Kd.N_drewN | apply Kd.N_drew)); exact HO154.out) (by first | exact Kd.N_base ho0 | exact Kd.N_base (Kd.S_N ho0)) hb); have n2_ := Aside0.mk (Kd.N_lower (Kd.N_mono (ok' := fun k_ => some k_ ≠ (.slice Ao22 y149.length co22 : Value).ownBlock ∧ some k_ ≠ (.slice Ao24 t152.length co24 : Value).ownBlock) ho0 (fun k_ hk_ => ⟨(Kd.fresh' (Kd.R_lt (by (with_reducible repeat (first | apply Kd.R_alloc | apply Kd.R_drewN | apply Kd.R_drew)); exact HO151.out)) k_ hk_), (Kd.fresh' (Kd.N_lt (by (with_reducible repeat (first | apply Kd.N_alloc | apply Kd.N_drewN | apply Kd.N_drew)); exact HO154.out)) k_ hk_)⟩)) (below_size (by repeat (first | (with_reducible first | exact HB.out | apply below_alloc | apply pw_below_drewN | apply below_drew1) | exact HB.out)))); have n3_ := Aside0.mk (below_step (by repeat (first | (with_reducible first | exact HB.out | apply below_alloc | apply pw_below_drewN | apply below_drew1) | exact HB.out)) hb); clear HO151; clear HO154; clear HB; have HO151 := n0_; have HO154 := n1_; have HO159 := n2_; have HB := n3_; clear n0_ n1_ n2_ n3_; (try clear hb); (try clear hb2); (try clear hk); (try clear hi); (try clear ho0); obtain ⟨Ao26, co26, eo26⟩ := Kd.N_slice HO159.out; subst eo26) | ((with_reducible refine gate_callee (f := 14) rfl ?_); refine goesL_ (some 24) rfl rfl Try.func14 (by kernel_rfl) rfl #[.slice Ao26 t157.length co26, .int .i64 7, .int .i64 40] rfl (by (try simp only [List.map_toArray, List.map_cons, List.map_nil]); first | done | rfl | (simp only [List.length_drop, List.length_take]; rfl)) ?_; (with_reducible refine (bill_Credit.calls k _ _ t157 7 40 t162 t165 t166 _ ?side1 ?side2 A3.out).mono ?_); (case side1 => repeat (first | exact (Kd.N_reads' HO159.out).2.2 | (with_reducible refine Kd.C_alloc ?_ _) | (with_reducible refine Kd.C_drewN ?_ _) | (with_reducible refine Kd.C_drew ?_))); (case side2 => exact (Kd.N_reads' HO159.out).2.1); rintro e w27 ⟨v163, rfl, ho0, hb⟩; refine ⟨_, rfl, ?_⟩; have n0_ := Aside0.mk (Kd.R_below (by (with_reducible repeat (first | apply Kd.R_alloc | apply Kd.R_drewN | apply Kd.R_drew)); exact HO151.out) hb); have n1_ := Aside0.mk (Kd.N_elder' (by (with_reducible repeat (first | apply Kd.N_alloc | apply Kd.N_drewN | apply Kd.N_drew)); exact HO154.out) (by first | exact Kd.N_base ho0 | exact Kd.N_base (Kd.S_N ho0)) hb); have n2_ := Aside0.mk (Kd.N_elder' (by (with_reducible repeat (first | apply Kd.N_alloc | apply Kd.N_drewN | apply Kd.N_drew)); exact HO159.out) (by first | exact Kd.N_base ho0 | exact Kd.N_base (Kd.S_N ho0)) hb); have n3_ := Aside0.mk (Kd.N_lower (Kd.N_mono (ok' := fun k_ => some k_ ≠ (.slice Ao22 y149.length co22 : Value).ownBlock ∧ some k_ ≠ (.slice Ao24 t152.length co24 : Value).ownBlock ∧ some k_ ≠ (.slice Ao26 t157.length co26 : Value).ownBlock) ho0 (fun k_ hk_ => ⟨(Kd.fresh' (Kd.R_lt (by (with_reducible repeat (first | apply Kd.R_alloc | apply Kd.R_drewN | apply Kd.R_drew)); exact HO151.out)) k_ hk_), (Kd.fresh' (Kd.N_lt (by (with_reducible repeat (first | apply Kd.N_alloc | apply Kd.N_drewN | apply Kd.N_drew)); exact HO154.out)) k_ hk_), (Kd.fresh' (Kd.N_lt (by (with_reducible repeat (first | apply Kd.N_alloc | apply Kd.N_drewN | apply Kd.N_drew)); exact HO159.out)) k_ hk_)⟩)) (below_size (by repeat (first | (with_reducible first | exact HB.out | apply below_alloc | apply pw_below_drewN | apply below_drew1) | exact HB.out)))); have n4_ := Aside0.mk (below_step (by repeat (first | (with_reducible first | exact HB.out | apply below_alloc | apply pw_below_drewN | apply below_drew1) | exact HB.out)) hb); clear HO151; clear HO154; clear HO159; clear HB; have HO151 := n0_; have HO154 := n1_; have HO159 := n2_; have HO164 := n3_; have HB := n4_; clear n0_ n1_ n2_ n3_ n4_; (try clear hb); (try clear hb2); (try clear hk); (try clear hi); (try clear ho0); obtain ⟨Ao28, co28, eo28⟩ := Kd.N_slice HO164.out; subst eo28; have p167 : 0 ≤ (0 : Int) := (by omega); have q167 : 0 < (t162.length : Int) := of_decide_eq_true (by first | (with_reducible assumption) | assumption); obtain ⟨ad167, A167_5, c167_5, e167, hx167_0, hx167_1, hx167_2, hx167_3, hx167_4, hx167_5, hl167_5, hi167_5⟩ := at_T45 (Kd.N_reads' HO164.out).2.2 0 p167 q167; cases e167; obtain ⟨ce167, hce167, hMe167, hcc167⟩ := Kd.N_get HO164.out z45 0 p167 (by first | exact q167 | exact of_decide_eq_true (by first | (with_reducible assumption) | assumption) | (have e_ := (Kd.N_reads' HO164.out).1; omega)); obtain ⟨ua167_5, uc167_5, rfl, ul167_5, ge167_5⟩ := k45_openF hMe167; have hv167_5 := hcc167 5 _ rfl; rw [add_field _ _ 5 (by omega)] at hv167_5; replace hv167_5 := Option.some.inj (hv167_5.symm.trans hx167_5); injection hv167_5 with hva_ hvn_ hvc_; rw [hva_] at ge167_5; rw [hvc_] at ul167_5; have HL167_5 := Aside0.mk (show Kd.V (Kd.int .i64) 3 _ w.heap.size _ _ ((rd_T45 t162 0).f5) from Kd.V_mk ul167_5 ge167_5); clear hva_ hvn_ hvc_ ge167_5 ul167_5; clear hcc167 hce167; have qi167 : (0 < t162.length) = True := eq_true (by omega); (try rw [show ((0 : Int)).toNat = 0 from rfl] at hx167_0); (try rw [show 0 * 6 = 0 from rfl] at hx167_0); (try rw [Addr.add_zero'] at hx167_0); (try rw [show ((0 : Int)).toNat = 0 from rfl] at hx167_1); (try rw [show 0 * 6 = 0 from rfl] at hx167_1); (try rw [Addr.add_zero'] at hx167_1); (try rw [show ((0 : Int)).toNat = 0 from rfl] at hx167_2); (try rw [show 0 * 6 = 0 from rfl] at hx167_2); (try rw [Addr.add_zero'] at hx167_2); (try rw [show ((0 : Int)).toNat = 0 from rfl] at hx167_3); (try rw [show 0 * 6 = 0 from rfl] at hx167_3); (try rw [Addr.add_zero'] at hx167_3); (try rw [show ((0 : Int)).toNat = 0 from rfl] at hx167_4); (try rw [show 0 * 6 = 0 from rfl] at hx167_4); (try rw [Addr.add_zero'] at hx167_4); (try rw [show ((0 : Int)).toNat = 0 from rfl] at hx167_5); (try rw [show 0 * 6 = 0 from rfl] at hx167_5); (try rw [Addr.add_zero'] at hx167_5); have HR167_5 := Aside0.mk hi167_5; have HC167_5 := Aside0.mk hl167_5; clear hi167_5 hl167_5; replace p167 := eq_true p167; replace q167 := eq_true q167; have p168 : 0 ≤ (0 : Int) := (by omega); have q168 : 0 < (t162.length : Int) := of_decide_eq_true (by first | (with_reducible assumption) | assumption); obtain ⟨ad168, A168_5, c168_5, e168, hx168_0, hx168_1, hx168_2, hx168_3, hx168_4, hx168_5, hl168_5, hi168_5⟩ := at_T45 (Kd.N_reads' HO164.out).2.2 0 p168 q168; obtain rfl : ad167 = ad168 := (by injection e168); obtain ⟨ce168, hce168, hMe168, hcc168⟩ := Kd.N_get HO164.out z45 0 p168 (by first | exact q168 | exact of_decide_eq_true (by first | (with_reducible assumption) | assumption) | (have e_ := (Kd.N_reads' HO164.out).1; omega)); obtain ⟨ua168_5, uc168_5, rfl, ul168_5, ge168_5⟩ := k45_openF hMe168; have hv168_5 := hcc168 5 _ rfl; rw [add_field _ _ 5 (by omega)] at hv168_5; replace hv168_5 := Option.some.inj (hv168_5.symm.trans hx168_5); injection hv168_5 with hva_ hvn_ hvc_; rw [hva_] at ge168_5; rw [hvc_] at ul168_5; have HL168_5 := Aside0.mk (show Kd.V (Kd.int .i64) 3 _ w.heap.size _ _ ((rd_T45 t162 0).f5) from Kd.V_mk ul168_5 ge168_5); clear hva_ hvn_ hvc_ ge168_5 ul168_5; clear hcc168 hce168; have qi168 : (0 < t162.length) = True := eq_true (by omega); (try rw [show ((0 : Int)).toNat = 0 from rfl] at hx168_0); (try rw [show 0 * 6 = 0 from rfl] at hx168_0); (try rw [Addr.add_zero'] at hx168_0); (try rw [show ((0 : Int)).toNat = 0 from rfl] at hx168_1); (try rw [show 0 * 6 = 0 from rfl] at hx168_1); (try rw [Addr.add_zero'] at hx168_1); (try rw [show ((0 : Int)).toNat = 0 from rfl] at hx168_2); (try rw [show 0 * 6 = 0 from rfl] at hx168_2); (try rw [Addr.add_zero'] at hx168_2); (try rw [show ((0 : Int)).toNat = 0 from rfl] at hx168_3); (try rw [show 0 * 6 = 0 from rfl] at hx168_3); (try rw [Addr.add_zero'] at hx168_3); (try rw [show ((0 : Int)).toNat = 0 from rfl] at hx168_4); (try rw [show 0 * 6 = 0 from rfl] at hx168_4); (try rw [Addr.add_zero'] at hx168_4); (try rw [show ((0 : Int)).toNat = 0 from rfl] at hx168_5); (try rw [show 0 * 6 = 0 from rfl] at hx168_5); (try rw [Addr.add_zero'] at hx168_5); have HR168_5 := Aside0.mk hi168_5; have HC168_5 := Aside0.mk hl168_5; clear hi168_5 hl168_5; replace p168 := eq_true p168; replace q168 := eq_true q168; have ea_ := Option.some.inj (hx167_5.symm.trans hx168_5); injection ea_ with ea_ en_ ec_; subst ea_; subst ec_; clear en_; have p169 : 0 ≤ (1 : Int) := (by omega); have q169 : 1 < (t162.length : Int) := of_decide_eq_true (by first | (with_reducible assumption) | assumption); obtain ⟨ad169, A169_5, c169_5, e169, hx169_0, hx169_1, hx169_2, hx169_3, hx169_4, hx169_5, hl169_5, hi169_5⟩ := at_T45 (Kd.N_reads' HO164.out).2.2 1 p169 q169; obtain rfl : ad167 = ad169 := (by injection e169); obtain ⟨ce169, hce169, hMe169, hcc169⟩ := Kd.N_get HO164.out z45 1 p169 (by first | exact q169 | exact of_decide_eq_true (by first | (with_reducible assumption) | assumption) | (have e_ := (Kd.N_reads' HO164.out).1; omega)); obtain ⟨ua169_5, uc169_5, rfl, ul169_5, ge169_5⟩ := k45_openF hMe169; have hv169_5 := hcc169 5 _ rfl; rw [add_field _ _ 5 (by omega)] at hv169_5; replace hv169_5 := Option.some.inj (hv169_5.symm.trans hx169_5); injection hv169_5 with hva_ hvn_ hvc_; rw [hva_] at ge169_5; rw [hvc_] at ul169_5; have HL169_5 := Aside0.mk (show Kd.V (Kd.int .i64) 3 _ w.heap.size _ _ ((rd_T45 t162 1).f5) from Kd.V_mk ul169_5 ge169_5); clear hva_ hvn_ hvc_ ge169_5 ul169_5; clear hcc169 hce169; (try simp only [show (1 : Int).toNat = 1 from rfl, Nat.reduceMul, Nat.reduceEqDiff, Go.Addr.add, ↓reduceIte] at hx169_0); (try simp only [show (1 : Int).toNat = 1 from rfl, Nat.reduceMul, Nat.reduceEqDiff, Go.Addr.add, ↓reduceIte] at hx169_1); (try simp only [show (1 : Int).toNat = 1 from rfl, Nat.reduceMul, Nat.reduceEqDiff, Go.Addr.add, ↓reduceIte] at hx169_2); (try simp only [show (1 : Int).toNat = 1 from rfl, Nat.reduceMul, Nat.reduceEqDiff, Go.Addr.add, ↓reduceIte] at hx169_3); (try simp only [show (1 : Int).toNat = 1 from rfl, Nat.reduceMul, Nat.reduceEqDiff, Go.Addr.add, ↓reduceIte] at hx169_4); (try simp only [show (1 : Int).toNat = 1 from rfl, Nat.reduceMul, Nat.reduceEqDiff, Go.Addr.add, ↓reduceIte] at hx169_5); have qi169 : (1 < t162.length) = True := eq_true (by omega); (try rw [show ((1 : Int)).toNat = 1 from rfl] at hx169_0); (try rw [show 1 * 6 = 6 from rfl] at hx169_0); (try rw [show ((1 : Int)).toNat = 1 from rfl] at hx169_1); (try rw [show 1 * 6 = 6 from rfl] at hx169_1); (try rw [show ((1 : Int)).toNat = 1 from rfl] at hx169_2); (try rw [show 1 * 6 = 6 from rfl] at hx169_2); (try rw [show ((1 : Int)).toNat = 1 from rfl] at hx169_3); (try rw [show 1 * 6 = 6 from rfl] at hx169_3); (try rw [show ((1 : Int)).toNat = 1 from rfl] at hx169_4); (try rw [show 1 * 6 = 6 from rfl] at hx169_4); (try rw [show ((1 : Int)).toNat = 1 from rfl] at hx169_5); (try rw [show 1 * 6 = 6 from rfl] at hx169_5); have HR169_5 := Aside0.mk hi169_5; have HC169_5 := Aside0.mk hl169_5; clear hi169_5 hl169_5; replace p169 := eq_true p169; replace q169 := eq_true q169) | (go_at_call 21; (with_reducible refine (bill_Open.calls k _ _ t162 t170 _ ?side1 ?side2 A16.out).mono ?_); (case side1 => repeat (first | exact (Kd.N_reads' HO164.out).2.2 | (with_reducible refine Kd.C_alloc ?_ _) | (with_reducible refine Kd.C_drewN ?_ _) | (with_reducible refine Kd.C_drew ?_))); (case side2 => exact (Kd.N_reads' HO164.out).2.1); rintro e w29 ⟨rfl, hb⟩; have n0_ := Aside0.mk (Kd.R_below (by (with_reducible repeat (first | apply Kd.R_alloc | apply Kd.R_drewN | apply Kd.R_drew)); exact HO151.out) hb); have n1_ := Aside0.mk (Kd.N_below (by (with_reducible repeat (first | apply Kd.N_alloc | apply Kd.N_drewN | apply Kd.N_drew)); exact HO154.out) hb); have n2_ := Aside0.mk (Kd.N_below (by (with_reducible repeat (first | apply Kd.N_alloc | apply Kd.N_drewN | apply Kd.N_drew)); exact HO159.out) hb); have n3_ := Aside0.mk (Kd.N_below (by (with_reducible repeat (first | apply Kd.N_alloc | apply Kd.N_drewN | apply Kd.N_drew)); exact HO164.out) hb); have n4_ := Aside0.mk (Kd.V_below (by (with_reducible repeat (first | apply Kd.V_alloc | apply Kd.V_drewN | apply Kd.V_drew)); exact HL167_5.out) hb); have n5_ := Aside0.mk (Kd.V_below (by (with_reducible repeat (first | apply Kd.V_alloc | apply Kd.V_drewN | apply Kd.V_drew)); exact HL168_5.out) hb); have n6_ := Aside0.mk (Kd.V_below (by (with_reducible repeat (first | apply Kd.V_alloc | apply Kd.V_drewN | apply Kd.V_drew)); exact HL169_5.out) hb); have n7_ := Aside0.mk (Kd.C_below (by repeat (first | (with_reducible exact HR167_5.out) | (with_reducible refine Kd.C_alloc ?_ _) | (with_reducible refine Kd.C_drewN ?_ _) | (with_reducible refine Kd.C_drew ?_) | exact HR167_5.out)) hb); have n8_ := Aside0.mk (Kd.C_below (by repeat (first | (with_reducible exact HR168_5.out) | (with_reducible refine Kd.C_alloc ?_ _) | (with_reducible refine Kd.C_drewN ?_ _) | (with_reducible refine Kd.C_drew ?_) | exact HR168_5.out)) hb); have n9_ := Aside0.mk (Kd.C_below (by repeat (first | (with_reducible exact HR169_5.out) | (with_reducible refine Kd.C_alloc ?_ _) | (with_reducible refine Kd.C_drewN ?_ _) | (with_reducible refine Kd.C_drew ?_) | exact HR169_5.out)) hb); have n10_ := Aside0.mk (below_step (by repeat (first | (with_reducible first | exact HB.out | apply below_alloc | apply pw_below_drewN | apply below_drew1) | exact HB.out)) hb); clear HO151; clear HO154; clear HO159; clear HO164; clear HL167_5; clear HL168_5; clear HL169_5; clear HR167_5; clear HR168_5; clear HR169_5; clear HB; have HO151 := n0_; have HO154 := n1_; have HO159 := n2_; have HO164 := n3_; have HL167_5 := n4_; have HL168_5 := n5_; have HL169_5 := n6_; have HR167_5 := n7_; have HR168_5 := n8_; have HR169_5 := n9_; have HB := n10_; clear n0_ n1_ n2_ n3_ n4_ n5_ n6_ n7_ n8_ n9_ n10_; (try clear hb); (try clear hb2); (try clear hk); (try clear hi)) | (go_at_call 23; (with_reducible refine (bill_Late.calls k _ _ t162 65 t171 _ ?side1 ?side2 A18.out).mono ?_); (case side1 => repeat (first | exact (Kd.N_reads' HO164.out).2.2 | (with_reducible refine Kd.C_alloc ?_ _) | (with_reducible refine Kd.C_drewN ?_ _) | (with_reducible refine Kd.C_drew ?_))); (case side2 => exact (Kd.N_reads' HO164.out).2.1); rintro e w30 ⟨rfl, hb⟩; have n0_ := Aside0.mk (Kd.R_below (by (with_reducible repeat (first | apply Kd.R_alloc | apply Kd.R_drewN | apply Kd.R_drew)); exact HO151.out) hb); have n1_ := Aside0.mk (Kd.N_below (by (with_reducible repeat (first | apply Kd.N_alloc | apply Kd.N_drewN | apply Kd.N_drew)); exact HO154.out) hb); have n2_ := Aside0.mk (Kd.N_below (by (with_reducible repeat (first | apply Kd.N_alloc | apply Kd.N_drewN | apply Kd.N_drew)); exact HO159.out) hb); have n3_ := Aside0.mk (Kd.N_below (by (with_reducible repeat (first | apply Kd.N_alloc | apply Kd.N_drewN | apply Kd.N_drew)); exact HO164.out) hb); have n4_ := Aside0.mk (Kd.V_below (by (with_reducible repeat (first | apply Kd.V_alloc | apply Kd.V_drewN | apply Kd.V_drew)); exact HL167_5.out) hb); have n5_ := Aside0.mk (Kd.V_below (by (with_reducible repeat (first | apply Kd.V_alloc | apply Kd.V_drewN | apply Kd.V_drew)); exact HL168_5.out) hb); have n6_ := Aside0.mk (Kd.V_below (by (with_reducible repeat (first | apply Kd.V_alloc | apply Kd.V_drewN | apply Kd.V_drew)); exact HL169_5.out) hb); have n7_ := Aside0.mk (Kd.C_below (by repeat (first | (with_reducible exact HR167_5.out) | (with_reducible refine Kd.C_alloc ?_ _) | (with_reducible refine Kd.C_drewN ?_ _) | (with_reducible refine Kd.C_drew ?_) | exact HR167_5.out)) hb); have n8_ := Aside0.mk (Kd.C_below (by repeat (first | (with_reducible exact HR168_5.out) | (with_reducible refine Kd.C_alloc ?_ _) | (with_reducible refine Kd.C_drewN ?_ _) | (with_reducible refine Kd.C_drew ?_) | exact HR168_5.out)) hb); have n9_ := Aside0.mk (Kd.C_below (by repeat (first | (with_reducible exact HR169_5.out) | (with_reducible refine Kd.C_alloc ?_ _) | (with_reducible refine Kd.C_drewN ?_ _) | (with_reducible refine Kd.C_drew ?_) | exact HR169_5.out)) hb); have n10_ := Aside0.mk (below_step (by repeat (first | (with_reducible first | exact HB.out | apply below_alloc | apply pw_below_drewN | apply below_drew1) | exact HB.out)) hb); clear HO151; clear HO154; clear HO159; clear HO164; clear HL167_5; clear HL168_5; clear HL169_5; clear HR167_5; clear HR168_5; clear HR169_5; clear HB; have HO151 := n0_; have HO154 := n1_; have HO159 := n2_; have HO164 := n3_; have HL167_5 := n4_; have HL168_5 := n5_; have HL169_5 := n6_; have HR167_5 := n7_; have HR168_5 := n8_; have HR169_5 := n9_; have HB := n10_; clear n0_ n1_ n2_ n3_ n4_ n5_ n6_ n7_ n8_ n9_ n10_; (try clear hb); (try clear hb2); (try clear hk); (try clear hi); have p172 : 0 ≤ (0 : Int) := (by omega); have q172 : 0 < (t162.length : Int) := of_decide_eq_true (by first | (with_reducible assumption) | assumption); obtain ⟨ad172, A172_5, c172_5, e172, hx172_0, hx172_1, hx172_2, hx172_3, hx172_4, hx172_5, hl172_5, hi172_5⟩ := at_T45 (Kd.N_reads' HO164.out).2.2 0 p172 q172; obtain rfl : ad167 = ad172 := (by injection e172); obtain ⟨ce172, hce172, hMe172, hcc172⟩ := Kd.N_get HO164.out z45 0 p172 (by first | exact q172 | exact of_decide_eq_true (by first | (with_reducible assumption) | assumption) | (have e_ := (Kd.N_reads' HO164.out).1; omega)); obtain ⟨ua172_5, uc172_5, rfl, ul172_5, ge172_5⟩ := k45_openF hMe172; have hv172_5 := hcc172 5 _ rfl; rw [add_field _ _ 5 (by omega)] at hv172_5; replace hv172_5 := Option.some.inj (hv172_5.symm.trans hx172_5); injection hv172_5 with hva_ hvn_ hvc_; rw [hva_] at ge172_5; rw [hvc_] at ul172_5; have HL172_5 := Aside0.mk (show Kd.V (Kd.int .i64) 3 _ w.heap.size _ _ ((rd_T45 t162 0).f5) from Kd.V_mk ul172_5 ge172_5); clear hva_ hvn_ hvc_ ge172_5 ul172_5; clear hcc172 hce172; have qi172 : (0 < t162.length) = True := eq_true (by omega); (try rw [show ((0 : Int)).toNat = 0 from rfl] at hx172_0); (try rw [show 0 * 6 = 0 from rfl] at hx172_0); (try rw [Addr.add_zero'] at hx172_0); (try rw [show ((0 : Int)).toNat = 0 from rfl] at hx172_1); (try rw [show 0 * 6 = 0 from rfl] at hx172_1); (try rw [Addr.add_zero'] at hx172_1); (try rw [show ((0 : Int)).toNat = 0 from rfl] at hx172_2); (try rw [show 0 * 6 = 0 from rfl] at hx172_2); (try rw [Addr.add_zero'] at hx172_2); (try rw [show ((0 : Int)).toNat = 0 from rfl] at hx172_3); (try rw [show 0 * 6 = 0 from rfl] at hx172_3); (try rw [Addr.add_zero'] at hx172_3); (try rw [show ((0 : Int)).toNat = 0 from rfl] at hx172_4); (try rw [show 0 * 6 = 0 from rfl] at hx172_4); (try rw [Addr.add_zero'] at hx172_4); (try rw [show ((0 : Int)).toNat = 0 from rfl] at hx172_5); (try rw [show 0 * 6 = 0 from rfl] at hx172_5); (try rw [Addr.add_zero'] at hx172_5); have HR172_5 := Aside0.mk hi172_5; have HC172_5 := Aside0.mk hl172_5; clear hi172_5 hl172_5; replace p172 := eq_true p172; replace q172 := eq_true q172))
                              go_ret
                              exact ⟨by first | rfl | (simp [errW_none, errW_some] <;> rfl) | (simp [*, errW_none, errW_some] <;> rfl), by repeat (first | (with_reducible first | exact HB.out | apply below_alloc | apply pw_below_drewN | apply below_drew1) | exact HB.out)⟩
                            · rw [if_neg c19] at H
                              exact absurd H (by simp)
                          · rw [if_neg c17] at H
                            exact absurd H (by simp)
                        · rw [if_neg c15] at H
                          exact absurd H (by simp)
                      · rw [if_neg c14] at H
                        exact absurd H (by simp)
                    · rw [if_neg c13] at H
                      exact absurd H (by simp)
                  · rw [if_neg c12] at H
                    exact absurd H (by simp)
                · rw [if_neg c11] at H
                  exact absurd H (by simp)
              · rw [if_neg c10] at H
                exact absurd H (by simp)
            · rw [if_neg c9] at H
              exact absurd H (by simp)
          · rw [if_neg c8] at H
            exact absurd H (by simp)
        · rw [if_neg c7] at H
          exact absurd H (by simp)
      · rw [if_neg c6] at H
        exact absurd H (by simp)
    · rw [if_neg c5] at H
      exact absurd H (by simp)
  · rw [if_neg c4] at H
    exact absurd H (by simp)

end Go.Proofs.Ytibjbgfphhmogaa.P
