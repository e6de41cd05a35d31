/- Functions of the program as plain Lean functions, and proofs that its calls come to just their answers, where they tell one (written by a program of this session). -/
import Derived.Test.YtgobgjokelbngaaPx0
import Derived.Test.YtgobgjokelbngaaPx20
import Derived.Test.YtgobgjokelbngaaPx31
namespace Go.Proofs.Ytgobgjokelbngaa.P
open Go.RowKit Go.Proofs.YtgobgjokelbngaaW.PrintWords Go.Proofs.YtgobgjokelbngaaW.PrintLast Go.Proofs.YtgobgjokelbngaaW.PrintMore
attribute [local go_sem] max2_int min2_int max_two min_two max_three min_three max_four min_four   -- for this text's walks alone
set_option linter.unusedVariables false
set_option linter.unusedSimpArgs false

/-! ### annuitylaw15_LevelSums: function 10 -/
def annuitylaw15_LevelSums.f (k : Nat) (a0 : Int) (a1 : Int) (a2 : Int) : Option (Bool) := (level_Of.f k (wrap64 (a0)) (wrap64 (a1)) (wrap64 (1 + (Int.tmod (wrap64 (a2)) 360)))).bind fun bt289 => ((level_Of.f k (wrap64 (a0)) 0 (wrap64 (1 + (Int.tmod (wrap64 (a2)) 360)))).bind fun bt291 => (if bt289.2 = 0 then (if bt291.2 = 0 then (if (wrap64 (bt289.1 * (wrap64 (1 + (Int.tmod (wrap64 (a2)) 360))))) ≥ (wrap64 (a0)) then (if bt289.1 ≥ bt291.1 then (if (wrap64 (bt291.1 * (wrap64 (1 + (Int.tmod (wrap64 (a2)) 360))))) ≥ (wrap64 (a0)) then (if (wrap64 (bt291.1 * (wrap64 (1 + (Int.tmod (wrap64 (a2)) 360))))) < (wrap64 ((wrap64 (a0)) + (wrap64 (1 + (Int.tmod (wrap64 (a2)) 360))))) then ((annuitylaw15_wakes.f k).bind fun t293 => (some t293)) else (some false)) else (some false)) else (some false)) else (some false)) else (some false)) else (some false)))
theorem annuitylaw15_LevelSums.mono : ∀ a0 a1 a2 k, LeO (annuitylaw15_LevelSums.f k a0 a1 a2) (annuitylaw15_LevelSums.f (k + 1) a0 a1 a2) := by
  intro a0 a1 a2 k
  unfold annuitylaw15_LevelSums.f
  repeat' first
      | (with_reducible exact annuitylaw15_wakes.mono _)
      | (with_reducible exact level_Of.mono _ _ _ _)
      | (with_reducible exact LeO.refl _)
      | (with_reducible exact LeO.none _)
      | (with_reducible refine LeO.ite ?_ ?_)
      | (with_reducible refine LeO.bind ?_ (fun _ => ?_))
      | exact annuitylaw15_wakes.mono _
      | exact level_Of.mono _ _ _ _
      | exact LeO.none _
      | refine LeO.ite ?_ ?_
      | refine LeO.bind ?_ (fun _ => ?_)
set_option maxHeartbeats 8000000 in
set_option maxRecDepth 100000 in
theorem annuitylaw15_LevelSums.calls (k : Nat) (a0 : Int) (a1 : Int) (a2 : Int) (r : Bool) (w : World) (h : annuitylaw15_LevelSums.f k a0 a1 a2 = some r) :
    Calls Try.prog 10 #[.int .u32 a0, .int .u16 a1, .int .u16 a2] w fun e w' => e = .returned (.bool r) ∧ Below w.heap.size w w' := by
  have HB := Aside0.mk (Below.refl w.heap.size w)
  have H : ((level_Of.f k (wrap64 (a0)) (wrap64 (a1)) (wrap64 (1 + (Int.tmod (wrap64 (a2)) 360)))).bind fun bt289 => ((level_Of.f k (wrap64 (a0)) 0 (wrap64 (1 + (Int.tmod (wrap64 (a2)) 360)))).bind fun bt291 => (if bt289.2 = 0 then (if bt291.2 = 0 then (if (wrap64 (bt289.1 * (wrap64 (1 + (Int.tmod (wrap64 (a2)) 360))))) ≥ (wrap64 (a0)) then (if bt289.1 ≥ bt291.1 then (if (wrap64 (bt291.1 * (wrap64 (1 + (Int.tmod (wrap64 (a2)) 360))))) ≥ (wrap64 (a0)) then (if (wrap64 (bt291.1 * (wrap64 (1 + (Int.tmod (wrap64 (a2)) 360))))) < (wrap64 ((wrap64 (a0)) + (wrap64 (1 + (Int.tmod (wrap64 (a2)) 360))))) then ((annuitylaw15_wakes.f k).bind fun t293 => (some t293)) else (some false)) else (some false)) else (some false)) else (some false)) else (some false)) else (some false)))) = some r := h
  clear h
  replace H := Option.bind_eq_some_iff.mp H
  obtain ⟨⟨t289, t290⟩, A40, H⟩ := H
  replace H : ((level_Of.f k (wrap64 (a0)) 0 (wrap64 (1 + (Int.tmod (wrap64 (a2)) 360)))).bind fun bt291 => (if t290 = 0 then (if bt291.2 = 0 then (if (wrap64 (t289 * (wrap64 (1 + (Int.tmod (wrap64 (a2)) 360))))) ≥ (wrap64 (a0)) then (if t289 ≥ bt291.1 then (if (wrap64 (bt291.1 * (wrap64 (1 + (Int.tmod (wrap64 (a2)) 360))))) ≥ (wrap64 (a0)) then (if (wrap64 (bt291.1 * (wrap64 (1 + (Int.tmod (wrap64 (a2)) 360))))) < (wrap64 ((wrap64 (a0)) + (wrap64 (1 + (Int.tmod (wrap64 (a2)) 360))))) then ((annuitylaw15_wakes.f k).bind fun t293 => (some t293)) else (some false)) else (some false)) else (some false)) else (some false)) else (some false)) else (some false))) = some r := H
  have A4 := Aside0.mk A40
  clear A40
  replace H := Option.bind_eq_some_iff.mp H
  obtain ⟨⟨t291, t292⟩, A50, H⟩ := H
  replace H : (if t290 = 0 then (if t292 = 0 then (if (wrap64 (t289 * (wrap64 (1 + (Int.tmod (wrap64 (a2)) 360))))) ≥ (wrap64 (a0)) then (if t289 ≥ t291 then (if (wrap64 (t291 * (wrap64 (1 + (Int.tmod (wrap64 (a2)) 360))))) ≥ (wrap64 (a0)) then (if (wrap64 (t291 * (wrap64 (1 + (Int.tmod (wrap64 (a2)) 360))))) < (wrap64 ((wrap64 (a0)) + (wrap64 (1 + (Int.tmod (wrap64 (a2)) 360))))) then ((annuitylaw15_wakes.f k).bind fun t293 => (some t293)) else (some false)) else (some false)) else (some false)) else (some false)) else (some false)) else (some false)) = some r := H
  have A5 := Aside0.mk A50
  clear A50
  by_cases c6 : t290 = 0
  · rw [if_pos c6] at H
    have c6b0 : (t290 == 0) = true := beq_iff_eq.mpr c6
    have c6b1 : (t290 != 0) = false := bne_eq_false_iff_eq.mpr c6
    clear c6
    by_cases c7 : t292 = 0
    · rw [if_pos c7] at H
      have c7b0 : (t292 == 0) = true := beq_iff_eq.mpr c7
      have c7b1 : (t292 != 0) = false := bne_eq_false_iff_eq.mpr c7
      clear c7
      by_cases c8 : (wrap64 (t289 * (wrap64 (1 + (Int.tmod (wrap64 (a2)) 360))))) ≥ (wrap64 (a0))
      · rw [if_pos c8] at H
        have c8b0 : decide ((wrap64 (a0)) ≤ (wrap64 (t289 * (wrap64 (1 + (Int.tmod (wrap64 (a2)) 360)))))) = true := decide_eq_true c8
        clear c8
        by_cases c9 : t289 ≥ t291
        · rw [if_pos c9] at H
          have c9b0 : decide (t291 ≤ t289) = true := decide_eq_true c9
          clear c9
          by_cases c10 : (wrap64 (t291 * (wrap64 (1 + (Int.tmod (wrap64 (a2)) 360))))) ≥ (wrap64 (a0))
          · rw [if_pos c10] at H
            have c10b0 : decide ((wrap64 (a0)) ≤ (wrap64 (t291 * (wrap64 (1 + (Int.tmod (wrap64 (a2)) 360)))))) = true := decide_eq_true c10
            clear c10
            by_cases c11 : (wrap64 (t291 * (wrap64 (1 + (Int.tmod (wrap64 (a2)) 360))))) < (wrap64 ((wrap64 (a0)) + (wrap64 (1 + (Int.tmod (wrap64 (a2)) 360)))))
            · rw [if_pos c11] at H
              have c11b0 : decide ((wrap64 (t291 * (wrap64 (1 + (Int.tmod (wrap64 (a2)) 360))))) < (wrap64 ((wrap64 (a0)) + (wrap64 (1 + (Int.tmod (wrap64 (a2)) 360)))))) = true := decide_eq_true c11
              clear c11
              replace H := Option.bind_eq_some_iff.mp H
              obtain ⟨t293, A120, H⟩ := H
              replace H : (some t293) = some r := H
              have A12 := Aside0.mk A120
              clear A120
              obtain rfl := Option.some.inj H
              go_enter Try.func10, Try.ntmps10
              go_wp2_with (first | ((with_reducible refine gate_callee (f := 39) rfl ?_); refine goesL_ (some 22) rfl rfl Try.func39 (by kernel_rfl) rfl #[.int .i64 (wrap64 (a0)), .int .i64 (wrap64 (a1)), .int .i64 (wrap64 (1 + (Int.tmod (wrap64 (a2)) 360)))] rfl (by (try simp only [List.map_toArray, List.map_cons, List.map_nil]); first | done | rfl | (simp only [List.length_drop, List.length_take]; rfl)) ?_; (with_reducible refine (level_Of.calls k (wrap64 (a0)) (wrap64 (a1)) (wrap64 (1 + (Int.tmod (wrap64 (a2)) 360))) t289 t290 _ A4.out).mono ?_); rintro e w13 ⟨rfl, hb⟩; refine ⟨_, rfl, ?_⟩; have n0_ := Aside0.mk (below_step (by repeat (first | (with_reducible first | exact HB.out | apply below_alloc | apply pw_below_drewN | apply below_drew1) | exact HB.out)) hb); clear HB; have HB := n0_; clear n0_; (try clear hb); (try clear hb2); (try clear hk); (try clear hi)) | ((with_reducible refine gate_callee (f := 39) rfl ?_); refine goesL_ (some 29) rfl rfl Try.func39 (by kernel_rfl) rfl #[.int .i64 (wrap64 (a0)), .int .i64 0, .int .i64 (wrap64 (1 + (Int.tmod (wrap64 (a2)) 360)))] rfl (by (try simp only [List.map_toArray, List.map_cons, List.map_nil]); first | done | rfl | (simp only [List.length_drop, List.length_take]; rfl)) ?_; (with_reducible refine (level_Of.calls k (wrap64 (a0)) 0 (wrap64 (1 + (Int.tmod (wrap64 (a2)) 360))) t291 t292 _ A5.out).mono ?_); rintro e w14 ⟨rfl, hb⟩; refine ⟨_, rfl, ?_⟩; have n0_ := Aside0.mk (below_step (by repeat (first | (with_reducible first | exact HB.out | apply below_alloc | apply pw_below_drewN | apply below_drew1) | exact HB.out)) hb); clear HB; have HB := n0_; clear n0_; (try clear hb); (try clear hb2); (try clear hk); (try clear hi)) | (go_at_call 41; (with_reducible refine (annuitylaw15_wakes.calls k  t293 _ A12.out).mono ?_); rintro e w15 ⟨rfl, hb⟩; have n0_ := Aside0.mk (below_step (by repeat (first | (with_reducible first | exact HB.out | apply below_alloc | apply pw_below_drewN | apply below_drew1) | exact HB.out)) hb); clear HB; have HB := n0_; clear n0_; (try clear hb); (try clear hb2); (try clear hk); (try clear hi)))
              go_ret
              exact ⟨by first | rfl | (simp [errW_none, errW_some] <;> rfl) | (simp [*, errW_none, errW_some] <;> rfl), by repeat (first | (with_reducible first | exact HB.out | apply below_alloc | apply pw_below_drewN | apply below_drew1) | exact HB.out)⟩
            · rw [if_neg c11] at H
              have c11b0 : decide ((wrap64 (t291 * (wrap64 (1 + (Int.tmod (wrap64 (a2)) 360))))) < (wrap64 ((wrap64 (a0)) + (wrap64 (1 + (Int.tmod (wrap64 (a2)) 360)))))) = false := decide_eq_false c11
              clear c11
              obtain rfl := Option.some.inj H
              go_enter Try.func10, Try.ntmps10
              go_wp2_with (first | ((with_reducible refine gate_callee (f := 39) rfl ?_); refine goesL_ (some 22) rfl rfl Try.func39 (by kernel_rfl) rfl #[.int .i64 (wrap64 (a0)), .int .i64 (wrap64 (a1)), .int .i64 (wrap64 (1 + (Int.tmod (wrap64 (a2)) 360)))] rfl (by (try simp only [List.map_toArray, List.map_cons, List.map_nil]); first | done | rfl | (simp only [List.length_drop, List.length_take]; rfl)) ?_; (with_reducible refine (level_Of.calls k (wrap64 (a0)) (wrap64 (a1)) (wrap64 (1 + (Int.tmod (wrap64 (a2)) 360))) t289 t290 _ A4.out).mono ?_); rintro e w16 ⟨rfl, hb⟩; refine ⟨_, rfl, ?_⟩; have n0_ := Aside0.mk (below_step (by repeat (first | (with_reducible first | exact HB.out | apply below_alloc | apply pw_below_drewN | apply below_drew1) | exact HB.out)) hb); clear HB; have HB := n0_; clear n0_; (try clear hb); (try clear hb2); (try clear hk); (try clear hi)) | ((with_reducible refine gate_callee (f := 39) rfl ?_); refine goesL_ (some 29) rfl rfl Try.func39 (by kernel_rfl) rfl #[.int .i64 (wrap64 (a0)), .int .i64 0, .int .i64 (wrap64 (1 + (Int.tmod (wrap64 (a2)) 360)))] rfl (by (try simp only [List.map_toArray, List.map_cons, List.map_nil]); first | done | rfl | (simp only [List.length_drop, List.length_take]; rfl)) ?_; (with_reducible refine (level_Of.calls k (wrap64 (a0)) 0 (wrap64 (1 + (Int.tmod (wrap64 (a2)) 360))) t291 t292 _ A5.out).mono ?_); rintro e w17 ⟨rfl, hb⟩; refine ⟨_, rfl, ?_⟩; have n0_ := Aside0.mk (below_step (by repeat (first | (with_reducible first | exact HB.out | apply below_alloc | apply pw_below_drewN | apply below_drew1) | exact HB.out)) hb); clear HB; have HB := n0_; clear n0_; (try clear hb); (try clear hb2); (try clear hk); (try clear hi)))
              go_ret
              exact ⟨by first | rfl | (simp [errW_none, errW_some] <;> rfl) | (simp [*, errW_none, errW_some] <;> rfl), by repeat (first | (with_reducible first | exact HB.out | apply below_alloc | apply pw_below_drewN | apply below_drew1) | exact HB.out)⟩
          · rw [if_neg c10] at H
            have c10b0 : decide ((wrap64 (a0)) ≤ (wrap64 (t291 * (wrap64 (1 + (Int.tmod (wrap64 (a2)) 360)))))) = false := decide_eq_false c10
            clear c10
            obtain rfl := Option.some.inj H
            go_enter Try.func10, Try.ntmps10
            go_wp2_with (first | ((with_reducible refine gate_callee (f := 39) rfl ?_); refine goesL_ (some 22) rfl rfl Try.func39 (by kernel_rfl) rfl #[.int .i64 (wrap64 (a0)), .int .i64 (wrap64 (a1)), .int .i64 (wrap64 (1 + (Int.tmod (wrap64 (a2)) 360)))] rfl (by (try simp only [List.map_toArray, List.map_cons, List.map_nil]); first | done | rfl | (simp only [List.length_drop, List.length_take]; rfl)) ?_; (with_reducible refine (level_Of.calls k (wrap64 (a0)) (wrap64 (a1)) (wrap64 (1 + (Int.tmod (wrap64 (a2)) 360))) t289 t290 _ A4.out).mono ?_); rintro e w18 ⟨rfl, hb⟩; refine ⟨_, rfl, ?_⟩; have n0_ := Aside0.mk (below_step (by repeat (first | (with_reducible first | exact HB.out | apply below_alloc | apply pw_below_drewN | apply below_drew1) | exact HB.out)) hb); clear HB; have HB := n0_; clear n0_; (try clear hb); (try clear hb2); (try clear hk); (try clear hi)) | ((with_reducible refine gate_callee (f := 39) rfl ?_); refine goesL_ (some 29) rfl rfl Try.func39 (by kernel_rfl) rfl #[.int .i64 (wrap64 (a0)), .int .i64 0, .int .i64 (wrap64 (1 + (Int.tmod (wrap64 (a2)) 360)))] rfl (by (try simp only [List.map_toArray, List.map_cons, List.map_nil]); first | done | rfl | (simp only [List.length_drop, List.length_take]; rfl)) ?_; (with_reducible refine (level_Of.calls k (wrap64 (a0)) 0 (wrap64 (1 + (Int.tmod (wrap64 (a2)) 360))) t291 t292 _ A5.out).mono ?_); rintro e w19 ⟨rfl, hb⟩; refine ⟨_, rfl, ?_⟩; have n0_ := Aside0.mk (below_step (by repeat (first | (with_reducible first | exact HB.out | apply below_alloc | apply pw_below_drewN | apply below_drew1) | exact HB.out)) hb); clear HB; have HB := n0_; clear n0_; (try clear hb); (try clear hb2); (try clear hk); (try clear hi)))
            go_ret
            exact ⟨by first | rfl | (simp [errW_none, errW_some] <;> rfl) | (simp [*, errW_none, errW_some] <;> rfl), by repeat (first | (with_reducible first | exact HB.out | apply below_alloc | apply pw_below_drewN | apply below_drew1) | exact HB.out)⟩
        · rw [if_neg c9] at H
          have c9b0 : decide (t291 ≤ t289) = false := decide_eq_false c9
          clear c9
          obtain rfl := Option.some.inj H
          go_enter Try.func10, Try.ntmps10
          go_wp2_with (first | ((with_reducible refine gate_callee (f := 39) rfl ?_); refine goesL_ (some 22) rfl rfl Try.func39 (by kernel_rfl) rfl #[.int .i64 (wrap64 (a0)), .int .i64 (wrap64 (a1)), .int .i64 (wrap64 (1 + (Int.tmod (wrap64 (a2)) 360)))] rfl (by (try simp only [List.map_toArray, List.map_cons, List.map_nil]); first | done | rfl | (simp only [List.length_drop, List.length_take]; rfl)) ?_; (with_reducible refine (level_Of.calls k (wrap64 (a0)) (wrap64 (a1)) (wrap64 (1 + (Int.tmod (wrap64 (a2)) 360))) t289 t290 _ A4.out).mono ?_); rintro e w20 ⟨rfl, hb⟩; refine ⟨_, rfl, ?_⟩; have n0_ := Aside0.mk (below_step (by repeat (first | (with_reducible first | exact HB.out | apply below_alloc | apply pw_below_drewN | apply below_drew1) | exact HB.out)) hb); clear HB; have HB := n0_; clear n0_; (try clear hb); (try clear hb2); (try clear hk); (try clear hi)) | ((with_reducible refine gate_callee (f := 39) rfl ?_); refine goesL_ (some 29) rfl rfl Try.func39 (by kernel_rfl) rfl #[.int .i64 (wrap64 (a0)), .int .i64 0, .int .i64 (wrap64 (1 + (Int.tmod (wrap64 (a2)) 360)))] rfl (by (try simp only [List.map_toArray, List.map_cons, List.map_nil]); first | done | rfl | (simp only [List.length_drop, List.length_take]; rfl)) ?_; (with_reducible refine (level_Of.calls k (wrap64 (a0)) 0 (wrap64 (1 + (Int.tmod (wrap64 (a2)) 360))) t291 t292 _ A5.out).mono ?_); rintro e w21 ⟨rfl, hb⟩; refine ⟨_, rfl, ?_⟩; have n0_ := Aside0.mk (below_step (by repeat (first | (with_reducible first | exact HB.out | apply below_alloc | apply pw_below_drewN | apply below_drew1) | exact HB.out)) hb); clear HB; have HB := n0_; clear n0_; (try clear hb); (try clear hb2); (try clear hk); (try clear hi)))
          go_ret
          exact ⟨by first | rfl | (simp [errW_none, errW_some] <;> rfl) | (simp [*, errW_none, errW_some] <;> rfl), by repeat (first | (with_reducible first | exact HB.out | apply below_alloc | apply pw_below_drewN | apply below_drew1) | exact HB.out)⟩
      · rw [if_neg c8] at H
        have c8b0 : decide ((wrap64 (a0)) ≤ (wrap64 (t289 * (wrap64 (1 + (Int.tmod (wrap64 (a2)) 360)))))) = false := decide_eq_false c8
        clear c8
        obtain rfl := Option.some.inj H
        go_enter Try.func10, Try.ntmps10
        go_wp2_with (first | ((with_reducible refine gate_callee (f := 39) rfl ?_); refine goesL_ (some 22) rfl rfl Try.func39 (by kernel_rfl) rfl #[.int .i64 (wrap64 (a0)), .int .i64 (wrap64 (a1)), .int .i64 (wrap64 (1 + (Int.tmod (wrap64 (a2)) 360)))] rfl (by (try simp only [List.map_toArray, List.map_cons, List.map_nil]); first | done | rfl | (simp only [List.length_drop, List.length_take]; rfl)) ?_; (with_reducible refine (level_Of.calls k (wrap64 (a0)) (wrap64 (a1)) (wrap64 (1 + (Int.tmod (wrap64 (a2)) 360))) t289 t290 _ A4.out).mono ?_); rintro e w22 ⟨rfl, hb⟩; refine ⟨_, rfl, ?_⟩; have n0_ := Aside0.mk (below_step (by repeat (first | (with_reducible first | exact HB.out | apply below_alloc | apply pw_below_drewN | apply below_drew1) | exact HB.out)) hb); clear HB; have HB := n0_; clear n0_; (try clear hb); (try clear hb2); (try clear hk); (try clear hi)) | ((with_reducible refine gate_callee (f := 39) rfl ?_); refine goesL_ (some 29) rfl rfl Try.func39 (by kernel_rfl) rfl #[.int .i64 (wrap64 (a0)), .int .i64 0, .int .i64 (wrap64 (1 + (Int.tmod (wrap64 (a2)) 360)))] rfl (by (try simp only [List.map_toArray, List.map_cons, List.map_nil]); first | done | rfl | (simp only [List.length_drop, List.length_take]; rfl)) ?_; (with_reducible refine (level_Of.calls k (wrap64 (a0)) 0 (wrap64 (1 + (Int.tmod (wrap64 (a2)) 360))) t291 t292 _ A5.out).mono ?_); rintro e w23 ⟨rfl, hb⟩; refine ⟨_, rfl, ?_⟩; have n0_ := Aside0.mk (below_step (by repeat (first | (with_reducible first | exact HB.out | apply below_alloc | apply pw_below_drewN | apply below_drew1) | exact HB.out)) hb); clear HB; have HB := n0_; clear n0_; (try clear hb); (try clear hb2); (try clear hk); (try clear hi)))
        go_ret
        exact ⟨by first | rfl | (simp [errW_none, errW_some] <;> rfl) | (simp [*, errW_none, errW_some] <;> rfl), by repeat (first | (with_reducible first | exact HB.out | apply below_alloc | apply pw_below_drewN | apply below_drew1) | exact HB.out)⟩
    · rw [if_neg c7] at H
      have c7b0 : (t292 == 0) = false := beq_eq_false_iff_ne.mpr c7
      have c7b1 : (t292 != 0) = true := bne_iff_ne.mpr c7
      obtain rfl := Option.some.inj H
      go_enter Try.func10, Try.ntmps10
      go_wp2_with (first | ((with_reducible refine gate_callee (f := 39) rfl ?_); refine goesL_ (some 22) rfl rfl Try.func39 (by kernel_rfl) rfl #[.int .i64 (wrap64 (a0)), .int .i64 (wrap64 (a1)), .int .i64 (wrap64 (1 + (Int.tmod (wrap64 (a2)) 360)))] rfl (by (try simp only [List.map_toArray, List.map_cons, List.map_nil]); first | done | rfl | (simp only [List.length_drop, List.length_take]; rfl)) ?_; (with_reducible refine (level_Of.calls k (wrap64 (a0)) (wrap64 (a1)) (wrap64 (1 + (Int.tmod (wrap64 (a2)) 360))) t289 t290 _ A4.out).mono ?_); rintro e w24 ⟨rfl, hb⟩; refine ⟨_, rfl, ?_⟩; have n0_ := Aside0.mk (below_step (by repeat (first | (with_reducible first | exact HB.out | apply below_alloc | apply pw_below_drewN | apply below_drew1) | exact HB.out)) hb); clear HB; have HB := n0_; clear n0_; (try clear hb); (try clear hb2); (try clear hk); (try clear hi)) | ((with_reducible refine gate_callee (f := 39) rfl ?_); refine goesL_ (some 29) rfl rfl Try.func39 (by kernel_rfl) rfl #[.int .i64 (wrap64 (a0)), .int .i64 0, .int .i64 (wrap64 (1 + (Int.tmod (wrap64 (a2)) 360)))] rfl (by (try simp only [List.map_toArray, List.map_cons, List.map_nil]); first | done | rfl | (simp only [List.length_drop, List.length_take]; rfl)) ?_; (with_reducible refine (level_Of.calls k (wrap64 (a0)) 0 (wrap64 (1 + (Int.tmod (wrap64 (a2)) 360))) t291 t292 _ A5.out).mono ?_); rintro e w25 ⟨rfl, hb⟩; refine ⟨_, rfl, ?_⟩; have n0_ := Aside0.mk (below_step (by repeat (first | (with_reducible first | exact HB.out | apply below_alloc | apply pw_below_drewN | apply below_drew1) | exact HB.out)) hb); clear HB; have HB := n0_; clear n0_; (try clear hb); (try clear hb2); (try clear hk); (try clear hi)))
      go_ret
      exact ⟨by first | rfl | (simp [errW_none, errW_some] <;> rfl) | (simp [*, errW_none, errW_some] <;> rfl), by repeat (first | (with_reducible first | exact HB.out | apply below_alloc | apply pw_below_drewN | apply below_drew1) | exact HB.out)⟩
  · rw [if_neg c6] at H
    have c6b0 : (t290 == 0) = false := beq_eq_false_iff_ne.mpr c6
    have c6b1 : (t290 != 0) = true := bne_iff_ne.mpr c6
    obtain rfl := Option.some.inj H
    go_enter Try.func10, Try.ntmps10
    go_wp2_with (first | ((with_reducible refine gate_callee (f := 39) rfl ?_); refine goesL_ (some 22) rfl rfl Try.func39 (by kernel_rfl) rfl #[.int .i64 (wrap64 (a0)), .int .i64 (wrap64 (a1)), .int .i64 (wrap64 (1 + (Int.tmod (wrap64 (a2)) 360)))] rfl (by (try simp only [List.map_toArray, List.map_cons, List.map_nil]); first | done | rfl | (simp only [List.length_drop, List.length_take]; rfl)) ?_; (with_reducible refine (level_Of.calls k (wrap64 (a0)) (wrap64 (a1)) (wrap64 (1 + (Int.tmod (wrap64 (a2)) 360))) t289 t290 _ A4.out).mono ?_); rintro e w26 ⟨rfl, hb⟩; refine ⟨_, rfl, ?_⟩; have n0_ := Aside0.mk (below_step (by repeat (first | (with_reducible first | exact HB.out | apply below_alloc | apply pw_below_drewN | apply below_drew1) | exact HB.out)) hb); clear HB; have HB := n0_; clear n0_; (try clear hb); (try clear hb2); (try clear hk); (try clear hi)) | ((with_reducible refine gate_callee (f := 39) rfl ?_); refine goesL_ (some 29) rfl rfl Try.func39 (by kernel_rfl) rfl #[.int .i64 (wrap64 (a0)), .int .i64 0, .int .i64 (wrap64 (1 + (Int.tmod (wrap64 (a2)) 360)))] rfl (by (try simp only [List.map_toArray, List.map_cons, List.map_nil]); first | done | rfl | (simp only [List.length_drop, List.length_take]; rfl)) ?_; (with_reducible refine (level_Of.calls k (wrap64 (a0)) 0 (wrap64 (1 + (Int.tmod (wrap64 (a2)) 360))) t291 t292 _ A5.out).mono ?_); rintro e w27 ⟨rfl, hb⟩; refine ⟨_, rfl, ?_⟩; have n0_ := Aside0.mk (below_step (by repeat (first | (with_reducible first | exact HB.out | apply below_alloc | apply pw_below_drewN | apply below_drew1) | exact HB.out)) hb); clear HB; have HB := n0_; clear n0_; (try clear hb); (try clear hb2); (try clear hk); (try clear hi)))
    go_ret
    exact ⟨by first | rfl | (simp [errW_none, errW_some] <;> rfl) | (simp [*, errW_none, errW_some] <;> rfl), by repeat (first | (with_reducible first | exact HB.out | apply below_alloc | apply pw_below_drewN | apply below_drew1) | exact HB.out)⟩

/-- THE ONE PURE STATEMENT of annuitylaw15_LevelSums: yours. -/
def annuitylaw15_LevelSums.Pure : Prop := ∀ (a0 : Int) (a1 : Int) (a2 : Int), (Lit.int .u32 a0).wf = true → (Lit.int .u16 a1).wf = true → (Lit.int .u16 a2).wf = true → ∃ k, annuitylaw15_LevelSums.f k a0 a1 a2 = some true
theorem annuitylaw15_LevelSums.walk (P : annuitylaw15_LevelSums.Pure) (a0 : Int) (a1 : Int) (a2 : Int) (w : World) (w0 : (Lit.int .u32 a0).wf = true) (w1 : (Lit.int .u16 a1).wf = true) (w2 : (Lit.int .u16 a2).wf = true) :
    Calls Try.prog 10 #[.int .u32 a0, .int .u16 a1, .int .u16 a2] w fun e w' => e = .returned (.bool true) ∧ Below w.heap.size w w' := by
  obtain ⟨k, h⟩ := P a0 a1 a2 w0 w1 w2
  refine (annuitylaw15_LevelSums.calls k a0 a1 a2 true w h).mono ?_
  rintro e w' ⟨rfl, hd⟩
  exact ⟨rfl, hd⟩

end Go.Proofs.Ytgobgjokelbngaa.P
