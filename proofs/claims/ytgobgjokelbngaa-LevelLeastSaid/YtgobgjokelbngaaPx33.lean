/- Functions of the program as plain Lean functions, and proofs that its calls come to just their answers, where they tell one (written by a program of this session). -/
import Derived.Test.YtgobgjokelbngaaPx0
import Derived.Test.YtgobgjokelbngaaPx20
import Derived.Test.YtgobgjokelbngaaPx24
import Derived.Test.YtgobgjokelbngaaPx31
namespace Go.Proofs.Ytgobgjokelbngaa.P
open Go.RowKit Go.Proofs.YtgobgjokelbngaaW.PrintWords Go.Proofs.YtgobgjokelbngaaW.PrintLast Go.Proofs.YtgobgjokelbngaaW.PrintMore
attribute [local go_sem] max2_int min2_int max_two min_two max_three min_three max_four min_four   -- for this text's walks alone
set_option linter.unusedVariables false
set_option linter.unusedSimpArgs false

/-! ### annuitylaw15_LevelLeast: function 8 -/
def annuitylaw15_LevelLeast.j0 : Nat → Int → Int → Int → Int → Bool → Option (Bool)
  | 0, _, _, _, _, _ => none
  | k + 1, x0, x1, x2, x7, x44 => if x44 = true then (some false) else (if x7 = 0 then (if x0 = 0 then ((annuitylaw15_wakes.f k).bind fun t271 => (some t271)) else (some false)) else ((annuityref15_Left.f k x0 (wrap64 (x7 - 1)) x1 x2).bind fun bt272 => (if bt272.2 = 0 then (if bt272.1 > 0 then ((annuitylaw15_wakes.f k).bind fun t274 => (some t274)) else (some false)) else ((annuitylaw15_wakes.f k).bind fun t275 => (some t275)))))
def annuitylaw15_LevelLeast.f (k : Nat) (a0 : Int) (a1 : Int) (a2 : Int) : Option (Bool) := (level_Of.f k a0 a1 a2).bind fun bt266 => (if bt266.2 = 0 then ((annuityref15_Left.f k a0 bt266.1 a1 a2).bind fun bt269 => (if bt269.2 = 0 then (if bt269.1 = 0 then (annuitylaw15_LevelLeast.j0 k a0 a1 a2 bt266.1 (decide (bt266.1 < 0))) else (annuitylaw15_LevelLeast.j0 k a0 a1 a2 bt266.1 true)) else (annuitylaw15_LevelLeast.j0 k a0 a1 a2 bt266.1 true))) else (if bt266.1 = 0 then ((annuitylaw15_wakes.f k).bind fun t268 => (some t268)) else (some false)))
theorem annuitylaw15_LevelLeast.mono_l : ∀ k, (∀ y0 y1 y2 y3 y4, LeO (annuitylaw15_LevelLeast.j0 k y0 y1 y2 y3 y4) (annuitylaw15_LevelLeast.j0 (k + 1) y0 y1 y2 y3 y4))
  | 0 => fun _ _ _ _ _ r h => by simp [annuitylaw15_LevelLeast.j0] at h
  | k + 1 => by
    have ih0 := annuitylaw15_LevelLeast.mono_l k
    · intro y0 y1 y2 y3 y4
      unfold annuitylaw15_LevelLeast.j0
      repeat' first
      | (with_reducible exact ih0 _ _ _ _ _)
      | (with_reducible exact annuitylaw15_wakes.mono _)
      | (with_reducible exact annuityref15_Left.mono _ _ _ _ _)
      | (with_reducible exact level_Of.mono _ _ _ _)
      | (with_reducible exact LeO.refl _)
      | (with_reducible exact LeO.none _)
      | (with_reducible refine LeO.ite ?_ ?_)
      | (with_reducible refine LeO.bind ?_ (fun _ => ?_))
      | exact ih0 _ _ _ _ _
      | exact annuitylaw15_wakes.mono _
      | exact annuityref15_Left.mono _ _ _ _ _
      | exact level_Of.mono _ _ _ _
      | exact LeO.none _
      | refine LeO.ite ?_ ?_
      | refine LeO.bind ?_ (fun _ => ?_)
theorem annuitylaw15_LevelLeast.mono : ∀ a0 a1 a2 k, LeO (annuitylaw15_LevelLeast.f k a0 a1 a2) (annuitylaw15_LevelLeast.f (k + 1) a0 a1 a2) := by
  intro a0 a1 a2 k
  have ih0 := annuitylaw15_LevelLeast.mono_l k
  unfold annuitylaw15_LevelLeast.f
  repeat' first
      | (with_reducible exact ih0 _ _ _ _ _)
      | (with_reducible exact annuitylaw15_wakes.mono _)
      | (with_reducible exact annuityref15_Left.mono _ _ _ _ _)
      | (with_reducible exact level_Of.mono _ _ _ _)
      | (with_reducible exact LeO.refl _)
      | (with_reducible exact LeO.none _)
      | (with_reducible refine LeO.ite ?_ ?_)
      | (with_reducible refine LeO.bind ?_ (fun _ => ?_))
      | exact ih0 _ _ _ _ _
      | exact annuitylaw15_wakes.mono _
      | exact annuityref15_Left.mono _ _ _ _ _
      | exact level_Of.mono _ _ _ _
      | exact LeO.none _
      | refine LeO.ite ?_ ?_
      | refine LeO.bind ?_ (fun _ => ?_)
set_option maxHeartbeats 8000000 in
set_option maxRecDepth 100000 in
theorem annuitylaw15_LevelLeast.calls (k : Nat) (a0 : Int) (a1 : Int) (a2 : Int) (r : Bool) (w : World) (h : annuitylaw15_LevelLeast.f k a0 a1 a2 = some r) :
    Calls Try.prog 8 #[.int .i64 a0, .int .i64 a1, .int .i64 a2] w fun e w' => e = .returned (.bool r) ∧ Below w.heap.size w w' := by
  have HB := Aside0.mk (Below.refl w.heap.size w)
  have H : ((level_Of.f k a0 a1 a2).bind fun bt266 => (if bt266.2 = 0 then ((annuityref15_Left.f k a0 bt266.1 a1 a2).bind fun bt269 => (if bt269.2 = 0 then (if bt269.1 = 0 then (annuitylaw15_LevelLeast.j0 k a0 a1 a2 bt266.1 (decide (bt266.1 < 0))) else (annuitylaw15_LevelLeast.j0 k a0 a1 a2 bt266.1 true)) else (annuitylaw15_LevelLeast.j0 k a0 a1 a2 bt266.1 true))) else (if bt266.1 = 0 then ((annuitylaw15_wakes.f k).bind fun t268 => (some t268)) else (some false)))) = some r := h
  clear h
  replace H := Option.bind_eq_some_iff.mp H
  obtain ⟨⟨t266, t267⟩, A40, H⟩ := H
  replace H : (if t267 = 0 then ((annuityref15_Left.f k a0 t266 a1 a2).bind fun bt269 => (if bt269.2 = 0 then (if bt269.1 = 0 then (annuitylaw15_LevelLeast.j0 k a0 a1 a2 t266 (decide (t266 < 0))) else (annuitylaw15_LevelLeast.j0 k a0 a1 a2 t266 true)) else (annuitylaw15_LevelLeast.j0 k a0 a1 a2 t266 true))) else (if t266 = 0 then ((annuitylaw15_wakes.f k).bind fun t268 => (some t268)) else (some false))) = some r := H
  have A4 := Aside0.mk A40
  clear A40
  by_cases c5 : t267 = 0
  · rw [if_pos c5] at H
    have c5b0 : (t267 == 0) = true := beq_iff_eq.mpr c5
    have c5b1 : (t267 != 0) = false := bne_eq_false_iff_eq.mpr c5
    clear c5
    replace H := Option.bind_eq_some_iff.mp H
    obtain ⟨⟨t269, t270⟩, A60, H⟩ := H
    replace H : (if t270 = 0 then (if t269 = 0 then (annuitylaw15_LevelLeast.j0 k a0 a1 a2 t266 (decide (t266 < 0))) else (annuitylaw15_LevelLeast.j0 k a0 a1 a2 t266 true)) else (annuitylaw15_LevelLeast.j0 k a0 a1 a2 t266 true)) = some r := H
    have A6 := Aside0.mk A60
    clear A60
    have HC7 := Aside0.mk H
    clear H
    go_enter Try.func8, Try.ntmps8
    go_upto_region 5 with (first | ((with_reducible refine gate_callee (f := 39) rfl ?_); refine goesL_ (some 17) rfl rfl Try.func39 (by kernel_rfl) rfl #[.int .i64 a0, .int .i64 a1, .int .i64 a2] rfl (by (try simp only [List.map_toArray, List.map_cons, List.map_nil]); first | done | rfl | (simp only [List.length_drop, List.length_take]; rfl)) ?_; (with_reducible refine (level_Of.calls k a0 a1 a2 t266 t267 _ A4.out).mono ?_); rintro e w8 ⟨rfl, hb⟩; refine ⟨_, rfl, ?_⟩; have n0_ := Aside0.mk (below_step (by repeat (first | (with_reducible first | exact HB.out | apply below_alloc | apply pw_below_drewN | apply below_drew1) | exact HB.out)) hb); clear HB; have HB := n0_; clear n0_; (try clear hb); (try clear hb2); (try clear hk); (try clear hi)) | ((with_reducible refine gate_callee (f := 42) rfl ?_); refine goesL_ (some 32) rfl rfl Try.func42 (by kernel_rfl) rfl #[.int .i64 a0, .int .i64 t266, .int .i64 a1, .int .i64 a2] rfl (by (try simp only [List.map_toArray, List.map_cons, List.map_nil]); first | done | rfl | (simp only [List.length_drop, List.length_take]; rfl)) ?_; (with_reducible refine (annuityref15_Left.calls k a0 t266 a1 a2 t269 t270 _ A6.out).mono ?_); rintro e w9 ⟨rfl, hb⟩; refine ⟨_, rfl, ?_⟩; have n0_ := Aside0.mk (below_step (by repeat (first | (with_reducible first | exact HB.out | apply below_alloc | apply pw_below_drewN | apply below_drew1) | exact HB.out)) hb); clear HB; have HB := n0_; clear n0_; (try clear hb); (try clear hb2); (try clear hk); (try clear hi)))
    (try simp only [Act.put, List.setIfInBounds_toArray, List.set_cons_zero, List.set_cons_succ])
    go_cut [44] (fun v44 wc => ∃ (kq : Nat) (x44_6 : Bool), v44 = .bool x44_6 ∧ Aside0 (annuitylaw15_LevelLeast.j0 kq a0 a1 a2 t266 x44_6 = some r) ∧ Aside0 (kq ≤ k) ∧ Aside0 (Below w.heap.size w wc))
    case first =>
      have H := HC7.out
      clear HC7
      by_cases c10 : t270 = 0
      · rw [if_pos c10] at H
        have c10b0 : (t270 == 0) = true := beq_iff_eq.mpr c10
        have c10b1 : (t270 != 0) = false := bne_eq_false_iff_eq.mpr c10
        clear c10
        (first | rw [c10b0] | (simp only [i64_w, i32_w]; rw [c10b0]) | skip)
        by_cases c11 : t269 = 0
        · rw [if_pos c11] at H
          have c11b0 : (t269 == 0) = true := beq_iff_eq.mpr c11
          have c11b1 : (t269 != 0) = false := bne_eq_false_iff_eq.mpr c11
          clear c11
          have H' := Aside0.mk H
          clear H
          go_wp2
          go_meet
          case rel => exact ⟨_, (decide (t266 < 0)), (by first | rfl | (simp; done) | (simp [*]; done)), H', ⟨by first | omega | exact Nat.le_refl _⟩, ⟨by repeat (first | (with_reducible first | exact HB.out | apply below_alloc | apply pw_below_drewN | apply below_drew1) | exact HB.out)⟩⟩
        · rw [if_neg c11] at H
          have c11b0 : (t269 == 0) = false := beq_eq_false_iff_ne.mpr c11
          have c11b1 : (t269 != 0) = true := bne_iff_ne.mpr c11
          have H' := Aside0.mk H
          clear H
          go_wp2
          go_meet
          case rel => exact ⟨_, (true), (by first | rfl | (simp; done) | (simp [*]; done)), H', ⟨by first | omega | exact Nat.le_refl _⟩, ⟨by repeat (first | (with_reducible first | exact HB.out | apply below_alloc | apply pw_below_drewN | apply below_drew1) | exact HB.out)⟩⟩
      · rw [if_neg c10] at H
        have c10b0 : (t270 == 0) = false := beq_eq_false_iff_ne.mpr c10
        have c10b1 : (t270 != 0) = true := bne_iff_ne.mpr c10
        (first | rw [c10b0] | (simp only [i64_w, i32_w]; rw [c10b0]) | skip)
        have H' := Aside0.mk H
        clear H
        go_wp2
        go_meet
        case rel => exact ⟨_, (true), (by first | rfl | (simp; done) | (simp [*]; done)), H', ⟨by first | omega | exact Nat.le_refl _⟩, ⟨by repeat (first | (with_reducible first | exact HB.out | apply below_alloc | apply pw_below_drewN | apply below_drew1) | exact HB.out)⟩⟩
    case rest =>
      clear HC7
      try clear c1
      try clear p2
      try clear c3
      try clear c4
      try clear c5
      try clear c5b0
      try clear c5b1
      try clear c8
      try clear c10
      try clear c10b0
      try clear c10b1
      try clear c11
      try clear c11b0
      try clear c11b1
      obtain ⟨kq, x44_6, rfl, HA, HJ6, HB⟩ := hcut
      cases kq with
      | zero => exact absurd HA.out (by simp [annuitylaw15_LevelLeast.j0])
      | succ kj6 =>
        have H := HA.out
        clear HA
        simp only [annuitylaw15_LevelLeast.j0] at H
        by_cases c12 : x44_6 = true
        · subst c12
          have H1 : (some false) = some r := by rw [if_pos rfl] at H; exact H
          clear H
          have H := H1
          clear H1
          obtain rfl := Option.some.inj H
          go_wp2
          go_ret
          exact ⟨by first | rfl | (simp [errW_none, errW_some] <;> rfl) | (simp [*, errW_none, errW_some] <;> rfl), by repeat (first | (with_reducible first | exact HB.out | apply below_alloc | apply pw_below_drewN | apply below_drew1) | exact HB.out)⟩
        · replace c12 := Bool.eq_false_iff.mpr c12
          subst c12
          have H1 : (if t266 = 0 then (if a0 = 0 then ((annuitylaw15_wakes.f kj6).bind fun t271 => (some t271)) else (some false)) else ((annuityref15_Left.f kj6 a0 (wrap64 (t266 - 1)) a1 a2).bind fun bt272 => (if bt272.2 = 0 then (if bt272.1 > 0 then ((annuitylaw15_wakes.f kj6).bind fun t274 => (some t274)) else (some false)) else ((annuitylaw15_wakes.f kj6).bind fun t275 => (some t275))))) = some r := by rw [if_neg (show ¬ (false = true) by decide)] at H; exact H
          clear H
          have H := H1
          clear H1
          by_cases c13 : t266 = 0
          · rw [if_pos c13] at H
            have c13b0 : (t266 == 0) = true := beq_iff_eq.mpr c13
            have c13b1 : (t266 != 0) = false := bne_eq_false_iff_eq.mpr c13
            clear c13
            by_cases c14 : a0 = 0
            · rw [if_pos c14] at H
              have c14b0 : (a0 == 0) = true := beq_iff_eq.mpr c14
              have c14b1 : (a0 != 0) = false := bne_eq_false_iff_eq.mpr c14
              clear c14
              replace H := Option.bind_eq_some_iff.mp H
              obtain ⟨t271, A150, H⟩ := H
              replace H : (some t271) = some r := H
              have A15 := Aside0.mk A150
              clear A150
              obtain rfl := Option.some.inj H
              go_wp2_with (first | (go_at_call 41; (with_reducible refine (annuitylaw15_wakes.calls kj6  t271 _ A15.out).mono ?_); rintro e w16 ⟨rfl, hb⟩; have n0_ := Aside0.mk (below_step (by repeat (first | (with_reducible first | exact HB.out | apply below_alloc | apply pw_below_drewN | apply below_drew1) | exact HB.out)) hb); clear HB; have HB := n0_; clear n0_; (try clear hb); (try clear hb2); (try clear hk); (try clear hi)))
              go_ret
              exact ⟨by first | rfl | (simp [errW_none, errW_some] <;> rfl) | (simp [*, errW_none, errW_some] <;> rfl), by repeat (first | (with_reducible first | exact HB.out | apply below_alloc | apply pw_below_drewN | apply below_drew1) | exact HB.out)⟩
            · rw [if_neg c14] at H
              have c14b0 : (a0 == 0) = false := beq_eq_false_iff_ne.mpr c14
              have c14b1 : (a0 != 0) = true := bne_iff_ne.mpr c14
              obtain rfl := Option.some.inj H
              go_wp2
              go_ret
              exact ⟨by first | rfl | (simp [errW_none, errW_some] <;> rfl) | (simp [*, errW_none, errW_some] <;> rfl), by repeat (first | (with_reducible first | exact HB.out | apply below_alloc | apply pw_below_drewN | apply below_drew1) | exact HB.out)⟩
          · rw [if_neg c13] at H
            have c13b0 : (t266 == 0) = false := beq_eq_false_iff_ne.mpr c13
            have c13b1 : (t266 != 0) = true := bne_iff_ne.mpr c13
            replace H := Option.bind_eq_some_iff.mp H
            obtain ⟨⟨t272, t273⟩, A170, H⟩ := H
            replace H : (if t273 = 0 then (if t272 > 0 then ((annuitylaw15_wakes.f kj6).bind fun t274 => (some t274)) else (some false)) else ((annuitylaw15_wakes.f kj6).bind fun t275 => (some t275))) = some r := H
            have A17 := Aside0.mk A170
            clear A170
            by_cases c18 : t273 = 0
            · rw [if_pos c18] at H
              have c18b0 : (t273 == 0) = true := beq_iff_eq.mpr c18
              have c18b1 : (t273 != 0) = false := bne_eq_false_iff_eq.mpr c18
              clear c18
              by_cases c19 : t272 > 0
              · rw [if_pos c19] at H
                have c19b0 : decide (0 < t272) = true := decide_eq_true c19
                clear c19
                replace H := Option.bind_eq_some_iff.mp H
                obtain ⟨t274, A200, H⟩ := H
                replace H : (some t274) = some r := H
                have A20 := Aside0.mk A200
                clear A200
                obtain rfl := Option.some.inj H
                go_wp2_with (first | ((with_reducible refine gate_callee (f := 42) rfl ?_); refine goesL_ (some 58) rfl rfl Try.func42 (by kernel_rfl) rfl #[.int .i64 a0, .int .i64 (wrap64 (t266 - 1)), .int .i64 a1, .int .i64 a2] rfl (by (try simp only [List.map_toArray, List.map_cons, List.map_nil]); first | done | rfl | (simp only [List.length_drop, List.length_take]; rfl)) ?_; (with_reducible refine (annuityref15_Left.calls kj6 a0 (wrap64 (t266 - 1)) a1 a2 t272 t273 _ A17.out).mono ?_); rintro e w21 ⟨rfl, hb⟩; refine ⟨_, rfl, ?_⟩; have n0_ := Aside0.mk (below_step (by repeat (first | (with_reducible first | exact HB.out | apply below_alloc | apply pw_below_drewN | apply below_drew1) | exact HB.out)) hb); clear HB; have HB := n0_; clear n0_; (try clear hb); (try clear hb2); (try clear hk); (try clear hi)) | (go_at_call 41; (with_reducible refine (annuitylaw15_wakes.calls kj6  t274 _ A20.out).mono ?_); rintro e w22 ⟨rfl, hb⟩; have n0_ := Aside0.mk (below_step (by repeat (first | (with_reducible first | exact HB.out | apply below_alloc | apply pw_below_drewN | apply below_drew1) | exact HB.out)) hb); clear HB; have HB := n0_; clear n0_; (try clear hb); (try clear hb2); (try clear hk); (try clear hi)))
                go_ret
                exact ⟨by first | rfl | (simp [errW_none, errW_some] <;> rfl) | (simp [*, errW_none, errW_some] <;> rfl), by repeat (first | (with_reducible first | exact HB.out | apply below_alloc | apply pw_below_drewN | apply below_drew1) | exact HB.out)⟩
              · rw [if_neg c19] at H
                have c19b0 : decide (0 < t272) = false := decide_eq_false c19
                clear c19
                obtain rfl := Option.some.inj H
                go_wp2_with (first | ((with_reducible refine gate_callee (f := 42) rfl ?_); refine goesL_ (some 58) rfl rfl Try.func42 (by kernel_rfl) rfl #[.int .i64 a0, .int .i64 (wrap64 (t266 - 1)), .int .i64 a1, .int .i64 a2] rfl (by (try simp only [List.map_toArray, List.map_cons, List.map_nil]); first | done | rfl | (simp only [List.length_drop, List.length_take]; rfl)) ?_; (with_reducible refine (annuityref15_Left.calls kj6 a0 (wrap64 (t266 - 1)) a1 a2 t272 t273 _ A17.out).mono ?_); rintro e w23 ⟨rfl, hb⟩; refine ⟨_, rfl, ?_⟩; have n0_ := Aside0.mk (below_step (by repeat (first | (with_reducible first | exact HB.out | apply below_alloc | apply pw_below_drewN | apply below_drew1) | exact HB.out)) hb); clear HB; have HB := n0_; clear n0_; (try clear hb); (try clear hb2); (try clear hk); (try clear hi)))
                go_ret
                exact ⟨by first | rfl | (simp [errW_none, errW_some] <;> rfl) | (simp [*, errW_none, errW_some] <;> rfl), by repeat (first | (with_reducible first | exact HB.out | apply below_alloc | apply pw_below_drewN | apply below_drew1) | exact HB.out)⟩
            · rw [if_neg c18] at H
              have c18b0 : (t273 == 0) = false := beq_eq_false_iff_ne.mpr c18
              have c18b1 : (t273 != 0) = true := bne_iff_ne.mpr c18
              replace H := Option.bind_eq_some_iff.mp H
              obtain ⟨t275, A240, H⟩ := H
              replace H : (some t275) = some r := H
              have A24 := Aside0.mk A240
              clear A240
              obtain rfl := Option.some.inj H
              go_wp2_with (first | ((with_reducible refine gate_callee (f := 42) rfl ?_); refine goesL_ (some 58) rfl rfl Try.func42 (by kernel_rfl) rfl #[.int .i64 a0, .int .i64 (wrap64 (t266 - 1)), .int .i64 a1, .int .i64 a2] rfl (by (try simp only [List.map_toArray, List.map_cons, List.map_nil]); first | done | rfl | (simp only [List.length_drop, List.length_take]; rfl)) ?_; (with_reducible refine (annuityref15_Left.calls kj6 a0 (wrap64 (t266 - 1)) a1 a2 t272 t273 _ A17.out).mono ?_); rintro e w25 ⟨rfl, hb⟩; refine ⟨_, rfl, ?_⟩; have n0_ := Aside0.mk (below_step (by repeat (first | (with_reducible first | exact HB.out | apply below_alloc | apply pw_below_drewN | apply below_drew1) | exact HB.out)) hb); clear HB; have HB := n0_; clear n0_; (try clear hb); (try clear hb2); (try clear hk); (try clear hi)) | (go_at_call 41; (with_reducible refine (annuitylaw15_wakes.calls kj6  t275 _ A24.out).mono ?_); rintro e w26 ⟨rfl, hb⟩; have n0_ := Aside0.mk (below_step (by repeat (first | (with_reducible first | exact HB.out | apply below_alloc | apply pw_below_drewN | apply below_drew1) | exact HB.out)) hb); clear HB; have HB := n0_; clear n0_; (try clear hb); (try clear hb2); (try clear hk); (try clear hi)))
              go_ret
              exact ⟨by first | rfl | (simp [errW_none, errW_some] <;> rfl) | (simp [*, errW_none, errW_some] <;> rfl), by repeat (first | (with_reducible first | exact HB.out | apply below_alloc | apply pw_below_drewN | apply below_drew1) | exact HB.out)⟩
  · rw [if_neg c5] at H
    have c5b0 : (t267 == 0) = false := beq_eq_false_iff_ne.mpr c5
    have c5b1 : (t267 != 0) = true := bne_iff_ne.mpr c5
    by_cases c27 : t266 = 0
    · rw [if_pos c27] at H
      have c27b0 : (t266 == 0) = true := beq_iff_eq.mpr c27
      have c27b1 : (t266 != 0) = false := bne_eq_false_iff_eq.mpr c27
      clear c27
      replace H := Option.bind_eq_some_iff.mp H
      obtain ⟨t268, A280, H⟩ := H
      replace H : (some t268) = some r := H
      have A28 := Aside0.mk A280
      clear A280
      obtain rfl := Option.some.inj H
      go_enter Try.func8, Try.ntmps8
      go_wp2_with (first | ((with_reducible refine gate_callee (f := 39) rfl ?_); refine goesL_ (some 17) rfl rfl Try.func39 (by kernel_rfl) rfl #[.int .i64 a0, .int .i64 a1, .int .i64 a2] rfl (by (try simp only [List.map_toArray, List.map_cons, List.map_nil]); first | done | rfl | (simp only [List.length_drop, List.length_take]; rfl)) ?_; (with_reducible refine (level_Of.calls k a0 a1 a2 t266 t267 _ A4.out).mono ?_); rintro e w29 ⟨rfl, hb⟩; refine ⟨_, rfl, ?_⟩; have n0_ := Aside0.mk (below_step (by repeat (first | (with_reducible first | exact HB.out | apply below_alloc | apply pw_below_drewN | apply below_drew1) | exact HB.out)) hb); clear HB; have HB := n0_; clear n0_; (try clear hb); (try clear hb2); (try clear hk); (try clear hi)) | (go_at_call 41; (with_reducible refine (annuitylaw15_wakes.calls k  t268 _ A28.out).mono ?_); rintro e w30 ⟨rfl, hb⟩; have n0_ := Aside0.mk (below_step (by repeat (first | (with_reducible first | exact HB.out | apply below_alloc | apply pw_below_drewN | apply below_drew1) | exact HB.out)) hb); clear HB; have HB := n0_; clear n0_; (try clear hb); (try clear hb2); (try clear hk); (try clear hi)))
      go_ret
      exact ⟨by first | rfl | (simp [errW_none, errW_some] <;> rfl) | (simp [*, errW_none, errW_some] <;> rfl), by repeat (first | (with_reducible first | exact HB.out | apply below_alloc | apply pw_below_drewN | apply below_drew1) | exact HB.out)⟩
    · rw [if_neg c27] at H
      have c27b0 : (t266 == 0) = false := beq_eq_false_iff_ne.mpr c27
      have c27b1 : (t266 != 0) = true := bne_iff_ne.mpr c27
      obtain rfl := Option.some.inj H
      go_enter Try.func8, Try.ntmps8
      go_wp2_with (first | ((with_reducible refine gate_callee (f := 39) rfl ?_); refine goesL_ (some 17) rfl rfl Try.func39 (by kernel_rfl) rfl #[.int .i64 a0, .int .i64 a1, .int .i64 a2] rfl (by (try simp only [List.map_toArray, List.map_cons, List.map_nil]); first | done | rfl | (simp only [List.length_drop, List.length_take]; rfl)) ?_; (with_reducible refine (level_Of.calls k a0 a1 a2 t266 t267 _ A4.out).mono ?_); rintro e w31 ⟨rfl, hb⟩; refine ⟨_, rfl, ?_⟩; have n0_ := Aside0.mk (below_step (by repeat (first | (with_reducible first | exact HB.out | apply below_alloc | apply pw_below_drewN | apply below_drew1) | exact HB.out)) hb); clear HB; have HB := n0_; clear n0_; (try clear hb); (try clear hb2); (try clear hk); (try clear hi)))
      go_ret
      exact ⟨by first | rfl | (simp [errW_none, errW_some] <;> rfl) | (simp [*, errW_none, errW_some] <;> rfl), by repeat (first | (with_reducible first | exact HB.out | apply below_alloc | apply pw_below_drewN | apply below_drew1) | exact HB.out)⟩

/-- THE ONE PURE STATEMENT of annuitylaw15_LevelLeast: yours. -/
def annuitylaw15_LevelLeast.Pure : Prop := ∀ (a0 : Int) (a1 : Int) (a2 : Int), (Lit.int .i64 a0).wf = true → (Lit.int .i64 a1).wf = true → (Lit.int .i64 a2).wf = true → ∃ k, annuitylaw15_LevelLeast.f k a0 a1 a2 = some true
theorem annuitylaw15_LevelLeast.walk (P : annuitylaw15_LevelLeast.Pure) (a0 : Int) (a1 : Int) (a2 : Int) (w : World) (w0 : (Lit.int .i64 a0).wf = true) (w1 : (Lit.int .i64 a1).wf = true) (w2 : (Lit.int .i64 a2).wf = true) :
    Calls Try.prog 8 #[.int .i64 a0, .int .i64 a1, .int .i64 a2] w fun e w' => e = .returned (.bool true) ∧ Below w.heap.size w w' := by
  obtain ⟨k, h⟩ := P a0 a1 a2 w0 w1 w2
  refine (annuitylaw15_LevelLeast.calls k a0 a1 a2 true w h).mono ?_
  rintro e w' ⟨rfl, hd⟩
  exact ⟨rfl, hd⟩

end Go.Proofs.Ytgobgjokelbngaa.P
