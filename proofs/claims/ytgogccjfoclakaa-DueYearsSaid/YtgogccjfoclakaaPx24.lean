/- Functions of the program as plain Lean functions, and proofs that its calls come to just their answers, where they tell one (written by a program of this session). -/
import Derived.Test.YtgogccjfoclakaaPx0
import Derived.Test.YtgogccjfoclakaaPx10
import Derived.Test.YtgogccjfoclakaaPx13
import Derived.Test.YtgogccjfoclakaaPx16
import Derived.Test.YtgogccjfoclakaaPx17
import Derived.Test.YtgogccjfoclakaaPx18
import Derived.Test.YtgogccjfoclakaaPx19
import Derived.Test.YtgogccjfoclakaaPx20
namespace Go.Proofs.Ytgogccjfoclakaa.P
open Go.RowKit Go.Proofs.YtgogccjfoclakaaW.PrintWords Go.Proofs.YtgogccjfoclakaaW.PrintLast Go.Proofs.YtgogccjfoclakaaW.PrintMore
attribute [local go_sem] max2_int min2_int max_two min_two max_three min_three max_four min_four   -- for this text's walks alone
set_option linter.unusedVariables false
set_option linter.unusedSimpArgs false

/-! ### annuitylaw05_DueYears: function 13 -/
mutual
def annuitylaw05_DueYears.j0 : Nat → Int → Int → Int → Int → Int → Bool → Option (Bool)
  | 0, _, _, _, _, _, _ => none
  | k + 1, x2, x7, x8, x11, x12, x37 => if x37 = true then (some false) else (if x12 = 0 then ((due_Whole.f k x7 x11).bind fun t388 => (annuitylaw05_DueYears.j1 k x2 (t388 != (wrap64 (12 * x8))))) else (annuitylaw05_DueYears.j1 k x2 false))
def annuitylaw05_DueYears.j1 : Nat → Int → Bool → Option (Bool)
  | 0, _, _ => none
  | k + 1, x2, x47 => if x47 = true then (some false) else ((annuitykeep_Mod.f x2 2879).bind fun t389 => ((annuityref04_First.f k t389).bind fun bt390 => (if bt390.2 = 0 then ((due_InTime.f k t389 (wrap64 (bt390.1 + 15))).bind fun t392 => (if t392 = true then ((due_InTime.f k t389 (wrap64 (bt390.1 + 16))).bind fun t393 => (if t393 = true then (some false) else ((due_Late.f k t389 (wrap64 (bt390.1 + 15))).bind fun t394 => (if t394 = 0 then ((due_Late.f k t389 (wrap64 (bt390.1 + 18))).bind fun t395 => (if t395 = 3 then ((due_Months.f k (wrap64 (bt390.1 - 1)) bt390.1).bind fun t396 => ((annuitykeep_Ints.f k t396 (([t389] : List Int))).bind fun t402 => (if t402 = true then ((annuitylaw05_wakes.f k).bind fun t403 => (some t403)) else (some false)))) else (some false))) else (some false))))) else (some false))) else (some false))))
end
def annuitylaw05_DueYears.f (k : Nat) (a0 : Int) (a1 : Int) (a2 : Int) : Option (Bool) := (annuitykeep_Mod.f a0 87659).bind fun t382 => ((annuitykeep_Mod.f a1 241).bind fun t383 => ((due_Year.f k t382 0).bind fun bt384 => ((due_Year.f k t382 t383).bind fun bt386 => (if bt384.2 = 0 then (annuitylaw05_DueYears.j0 k a2 t382 t383 bt386.1 bt386.2 (bt384.1 != t382)) else (annuitylaw05_DueYears.j0 k a2 t382 t383 bt386.1 bt386.2 true)))))
theorem annuitylaw05_DueYears.mono_l : ∀ k, (∀ y0 y1 y2 y3 y4 y5, LeO (annuitylaw05_DueYears.j0 k y0 y1 y2 y3 y4 y5) (annuitylaw05_DueYears.j0 (k + 1) y0 y1 y2 y3 y4 y5)) ∧ (∀ y0 y1, LeO (annuitylaw05_DueYears.j1 k y0 y1) (annuitylaw05_DueYears.j1 (k + 1) y0 y1))
  | 0 => ⟨fun _ _ _ _ _ _ r h => by simp [annuitylaw05_DueYears.j0] at h, fun _ _ r h => by simp [annuitylaw05_DueYears.j1] at h⟩
  | k + 1 => by
    obtain ⟨ih0, ih1⟩ := annuitylaw05_DueYears.mono_l k
    refine ⟨?_, ?_⟩
    · intro y0 y1 y2 y3 y4 y5
      unfold annuitylaw05_DueYears.j0
      repeat' first
      | (with_reducible exact ih0 _ _ _ _ _ _)
      | (with_reducible exact ih1 _ _)
      | (with_reducible exact annuitykeep_Ints.mono _ _ _)
      | (with_reducible exact annuitylaw05_wakes.mono _)
      | (with_reducible exact annuityref04_First.mono _ _)
      | (with_reducible exact due_InTime.mono _ _ _)
      | (with_reducible exact due_Late.mono _ _ _)
      | (with_reducible exact due_Months.mono _ _ _)
      | (with_reducible exact due_Whole.mono _ _ _)
      | (with_reducible exact due_Year.mono _ _ _)
      | (with_reducible exact LeO.refl _)
      | (with_reducible exact LeO.none _)
      | (with_reducible refine LeO.ite ?_ ?_)
      | (with_reducible refine LeO.bind ?_ (fun _ => ?_))
      | exact ih0 _ _ _ _ _ _
      | exact ih1 _ _
      | exact annuitykeep_Ints.mono _ _ _
      | exact annuitylaw05_wakes.mono _
      | exact annuityref04_First.mono _ _
      | exact due_InTime.mono _ _ _
      | exact due_Late.mono _ _ _
      | exact due_Months.mono _ _ _
      | exact due_Whole.mono _ _ _
      | exact due_Year.mono _ _ _
      | exact LeO.none _
      | refine LeO.ite ?_ ?_
      | refine LeO.bind ?_ (fun _ => ?_)
    · intro y0 y1
      unfold annuitylaw05_DueYears.j1
      repeat' first
      | (with_reducible exact ih0 _ _ _ _ _ _)
      | (with_reducible exact ih1 _ _)
      | (with_reducible exact annuitykeep_Ints.mono _ _ _)
      | (with_reducible exact annuitylaw05_wakes.mono _)
      | (with_reducible exact annuityref04_First.mono _ _)
      | (with_reducible exact due_InTime.mono _ _ _)
      | (with_reducible exact due_Late.mono _ _ _)
      | (with_reducible exact due_Months.mono _ _ _)
      | (with_reducible exact due_Whole.mono _ _ _)
      | (with_reducible exact due_Year.mono _ _ _)
      | (with_reducible exact LeO.refl _)
      | (with_reducible exact LeO.none _)
      | (with_reducible refine LeO.ite ?_ ?_)
      | (with_reducible refine LeO.bind ?_ (fun _ => ?_))
      | exact ih0 _ _ _ _ _ _
      | exact ih1 _ _
      | exact annuitykeep_Ints.mono _ _ _
      | exact annuitylaw05_wakes.mono _
      | exact annuityref04_First.mono _ _
      | exact due_InTime.mono _ _ _
      | exact due_Late.mono _ _ _
      | exact due_Months.mono _ _ _
      | exact due_Whole.mono _ _ _
      | exact due_Year.mono _ _ _
      | exact LeO.none _
      | refine LeO.ite ?_ ?_
      | refine LeO.bind ?_ (fun _ => ?_)
theorem annuitylaw05_DueYears.mono : ∀ a0 a1 a2 k, LeO (annuitylaw05_DueYears.f k a0 a1 a2) (annuitylaw05_DueYears.f (k + 1) a0 a1 a2) := by
  intro a0 a1 a2 k
  obtain ⟨ih0, ih1⟩ := annuitylaw05_DueYears.mono_l k
  unfold annuitylaw05_DueYears.f
  repeat' first
      | (with_reducible exact ih0 _ _ _ _ _ _)
      | (with_reducible exact ih1 _ _)
      | (with_reducible exact annuitykeep_Ints.mono _ _ _)
      | (with_reducible exact annuitylaw05_wakes.mono _)
      | (with_reducible exact annuityref04_First.mono _ _)
      | (with_reducible exact due_InTime.mono _ _ _)
      | (with_reducible exact due_Late.mono _ _ _)
      | (with_reducible exact due_Months.mono _ _ _)
      | (with_reducible exact due_Whole.mono _ _ _)
      | (with_reducible exact due_Year.mono _ _ _)
      | (with_reducible exact LeO.refl _)
      | (with_reducible exact LeO.none _)
      | (with_reducible refine LeO.ite ?_ ?_)
      | (with_reducible refine LeO.bind ?_ (fun _ => ?_))
      | exact ih0 _ _ _ _ _ _
      | exact ih1 _ _
      | exact annuitykeep_Ints.mono _ _ _
      | exact annuitylaw05_wakes.mono _
      | exact annuityref04_First.mono _ _
      | exact due_InTime.mono _ _ _
      | exact due_Late.mono _ _ _
      | exact due_Months.mono _ _ _
      | exact due_Whole.mono _ _ _
      | exact due_Year.mono _ _ _
      | exact LeO.none _
      | refine LeO.ite ?_ ?_
      | refine LeO.bind ?_ (fun _ => ?_)
set_option maxHeartbeats 8000000 in
set_option maxRecDepth 100000 in
theorem annuitylaw05_DueYears.calls (k : Nat) (a0 : Int) (a1 : Int) (a2 : Int) (r : Bool) (w : World) (h : annuitylaw05_DueYears.f k a0 a1 a2 = some r) :
    Calls Try.prog 13 #[.int .i64 a0, .int .i64 a1, .int .i64 a2] w fun e w' => e = .returned (.bool r) ∧ Below w.heap.size w w' := by
  have HB := Aside0.mk (Below.refl w.heap.size w)
  have H : ((annuitykeep_Mod.f a0 87659).bind fun t382 => ((annuitykeep_Mod.f a1 241).bind fun t383 => ((due_Year.f k t382 0).bind fun bt384 => ((due_Year.f k t382 t383).bind fun bt386 => (if bt384.2 = 0 then (annuitylaw05_DueYears.j0 k a2 t382 t383 bt386.1 bt386.2 (bt384.1 != t382)) else (annuitylaw05_DueYears.j0 k a2 t382 t383 bt386.1 bt386.2 true)))))) = some r := h
  clear h
  replace H := Option.bind_eq_some_iff.mp H
  obtain ⟨t382, A40, H⟩ := H
  replace H : ((annuitykeep_Mod.f a1 241).bind fun t383 => ((due_Year.f k t382 0).bind fun bt384 => ((due_Year.f k t382 t383).bind fun bt386 => (if bt384.2 = 0 then (annuitylaw05_DueYears.j0 k a2 t382 t383 bt386.1 bt386.2 (bt384.1 != t382)) else (annuitylaw05_DueYears.j0 k a2 t382 t383 bt386.1 bt386.2 true))))) = some r := H
  have A4 := Aside0.mk A40
  clear A40
  replace H := Option.bind_eq_some_iff.mp H
  obtain ⟨t383, A50, H⟩ := H
  replace H : ((due_Year.f k t382 0).bind fun bt384 => ((due_Year.f k t382 t383).bind fun bt386 => (if bt384.2 = 0 then (annuitylaw05_DueYears.j0 k a2 t382 t383 bt386.1 bt386.2 (bt384.1 != t382)) else (annuitylaw05_DueYears.j0 k a2 t382 t383 bt386.1 bt386.2 true)))) = some r := H
  have A5 := Aside0.mk A50
  clear A50
  replace H := Option.bind_eq_some_iff.mp H
  obtain ⟨⟨t384, t385⟩, A60, H⟩ := H
  replace H : ((due_Year.f k t382 t383).bind fun bt386 => (if t385 = 0 then (annuitylaw05_DueYears.j0 k a2 t382 t383 bt386.1 bt386.2 (t384 != t382)) else (annuitylaw05_DueYears.j0 k a2 t382 t383 bt386.1 bt386.2 true))) = some r := H
  have A6 := Aside0.mk A60
  clear A60
  replace H := Option.bind_eq_some_iff.mp H
  obtain ⟨⟨t386, t387⟩, A70, H⟩ := H
  replace H : (if t385 = 0 then (annuitylaw05_DueYears.j0 k a2 t382 t383 t386 t387 (t384 != t382)) else (annuitylaw05_DueYears.j0 k a2 t382 t383 t386 t387 true)) = some r := H
  have A7 := Aside0.mk A70
  clear A70
  have HC8 := Aside0.mk H
  clear H
  go_enter Try.func13, Try.ntmps13
  go_upto_region 4 with (first | ((with_reducible refine gate_callee (f := 23) rfl ?_); refine goesL_ (some 17) rfl rfl Try.func23 (by kernel_rfl) rfl #[.int .i64 a0, .int .i64 87659] rfl (by (try simp only [List.map_toArray, List.map_cons, List.map_nil]); first | done | rfl | (simp only [List.length_drop, List.length_take]; rfl)) ?_; (with_reducible refine (annuitykeep_Mod.calls a0 87659 t382 _ A4.out).mono ?_); rintro e w' ⟨rfl, ⟨nd, rfl⟩⟩; refine ⟨_, rfl, ?_⟩) | ((with_reducible refine gate_callee (f := 23) rfl ?_); refine goesL_ (some 19) rfl rfl Try.func23 (by kernel_rfl) rfl #[.int .i64 a1, .int .i64 241] rfl (by (try simp only [List.map_toArray, List.map_cons, List.map_nil]); first | done | rfl | (simp only [List.length_drop, List.length_take]; rfl)) ?_; (with_reducible refine (annuitykeep_Mod.calls a1 241 t383 _ A5.out).mono ?_); rintro e w' ⟨rfl, ⟨nd, rfl⟩⟩; refine ⟨_, rfl, ?_⟩) | ((with_reducible refine gate_callee (f := 38) rfl ?_); refine goesL_ (some 22) rfl rfl Try.func38 (by kernel_rfl) rfl #[.int .i64 t382, .int .i64 0] rfl (by (try simp only [List.map_toArray, List.map_cons, List.map_nil]); first | done | rfl | (simp only [List.length_drop, List.length_take]; rfl)) ?_; (with_reducible refine (due_Year.calls k t382 0 t384 t385 _ A6.out).mono ?_); rintro e w9 ⟨rfl, hb⟩; refine ⟨_, rfl, ?_⟩; have n0_ := Aside0.mk (below_step (by repeat (first | (with_reducible first | exact HB.out | apply below_alloc | apply pw_below_drewN | apply below_drew1) | exact HB.out)) hb); clear HB; have HB := n0_; clear n0_; (try clear hb); (try clear hb2); (try clear hk); (try clear hi)) | ((with_reducible refine gate_callee (f := 38) rfl ?_); refine goesL_ (some 28) rfl rfl Try.func38 (by kernel_rfl) rfl #[.int .i64 t382, .int .i64 t383] rfl (by (try simp only [List.map_toArray, List.map_cons, List.map_nil]); first | done | rfl | (simp only [List.length_drop, List.length_take]; rfl)) ?_; (with_reducible refine (due_Year.calls k t382 t383 t386 t387 _ A7.out).mono ?_); rintro e w10 ⟨rfl, hb⟩; refine ⟨_, rfl, ?_⟩; have n0_ := Aside0.mk (below_step (by repeat (first | (with_reducible first | exact HB.out | apply below_alloc | apply pw_below_drewN | apply below_drew1) | exact HB.out)) hb); clear HB; have HB := n0_; clear n0_; (try clear hb); (try clear hb2); (try clear hk); (try clear hi)))
  (try simp only [Act.put, List.setIfInBounds_toArray, List.set_cons_zero, List.set_cons_succ])
  go_cut [37] (fun v37 wc => ∃ (kq : Nat) (x37_7 : Bool), v37 = .bool x37_7 ∧ Aside0 (annuitylaw05_DueYears.j0 kq a2 t382 t383 t386 t387 x37_7 = some r) ∧ Aside0 (kq ≤ k) ∧ Aside0 (Below w.heap.size w wc))
  case first =>
    have H := HC8.out
    clear HC8
    by_cases c11 : t385 = 0
    · rw [if_pos c11] at H
      have c11b0 : (t385 == 0) = true := beq_iff_eq.mpr c11
      have c11b1 : (t385 != 0) = false := bne_eq_false_iff_eq.mpr c11
      clear c11
      (first | rw [c11b0] | (simp only [i64_w, i32_w]; rw [c11b0]) | skip)
      have H' := Aside0.mk H
      clear H
      go_wp2
      go_meet
      case rel => exact ⟨_, ((t384 != t382)), (by first | rfl | (simp; done) | (simp [*]; done)), H', ⟨by first | omega | exact Nat.le_refl _⟩, ⟨by repeat (first | (with_reducible first | exact HB.out | apply below_alloc | apply pw_below_drewN | apply below_drew1) | exact HB.out)⟩⟩
    · rw [if_neg c11] at H
      have c11b0 : (t385 == 0) = false := beq_eq_false_iff_ne.mpr c11
      have c11b1 : (t385 != 0) = true := bne_iff_ne.mpr c11
      (first | rw [c11b0] | (simp only [i64_w, i32_w]; rw [c11b0]) | skip)
      have H' := Aside0.mk H
      clear H
      go_wp2
      go_meet
      case rel => exact ⟨_, (true), (by first | rfl | (simp; done) | (simp [*]; done)), H', ⟨by first | omega | exact Nat.le_refl _⟩, ⟨by repeat (first | (with_reducible first | exact HB.out | apply below_alloc | apply pw_below_drewN | apply below_drew1) | exact HB.out)⟩⟩
  case rest =>
    clear HC8
    try clear c1
    try clear c2
    try clear p2
    try clear c3
    try clear c11
    try clear c11b0
    try clear c11b1
    obtain ⟨kq, x37_7, rfl, HA, HJ7, HB⟩ := hcut
    cases kq with
    | zero => exact absurd HA.out (by simp [annuitylaw05_DueYears.j0])
    | succ kj7 =>
      have H := HA.out
      clear HA
      simp only [annuitylaw05_DueYears.j0] at H
      by_cases c12 : x37_7 = true
      · subst c12
        have H1 : (some false) = some r := by rw [if_pos rfl] at H; exact H
        clear H
        have H := H1
        clear H1
        obtain rfl := Option.some.inj H
        go_wp2
        go_ret
        exact ⟨by first | rfl | (simp [errW_none, errW_some] <;> rfl) | (simp [*, errW_none, errW_some] <;> rfl), by repeat (first | (with_reducible first | exact HB.out | apply below_alloc | apply pw_below_drewN | apply below_drew1) | exact HB.out)⟩
      · replace c12 := Bool.eq_false_iff.mpr c12
        subst c12
        have H1 : (if t387 = 0 then ((due_Whole.f kj7 t382 t386).bind fun t388 => (annuitylaw05_DueYears.j1 kj7 a2 (t388 != (wrap64 (12 * t383))))) else (annuitylaw05_DueYears.j1 kj7 a2 false)) = some r := by rw [if_neg (show ¬ (false = true) by decide)] at H; exact H
        clear H
        have H := H1
        clear H1
        have HC13 := Aside0.mk H
        clear H
        go_upto_region 6 with (fail)
        go_cut [47] (fun v47 wc => ∃ (kq : Nat) (x47_12 : Bool), v47 = .bool x47_12 ∧ Aside0 (annuitylaw05_DueYears.j1 kq a2 x47_12 = some r) ∧ Aside0 (kq ≤ kj7) ∧ Aside0 (Below w.heap.size w wc))
        case first =>
          have H := HC13.out
          clear HC13
          by_cases c14 : t387 = 0
          · rw [if_pos c14] at H
            have c14b0 : (t387 == 0) = true := beq_iff_eq.mpr c14
            have c14b1 : (t387 != 0) = false := bne_eq_false_iff_eq.mpr c14
            clear c14
            (first | rw [c14b0] | (simp only [i64_w, i32_w]; rw [c14b0]) | skip)
            replace H := Option.bind_eq_some_iff.mp H
            obtain ⟨t388, A150, H⟩ := H
            replace H : (annuitylaw05_DueYears.j1 kj7 a2 (t388 != (wrap64 (12 * t383)))) = some r := H
            have A15 := Aside0.mk A150
            clear A150
            have H' := Aside0.mk H
            clear H
            go_wp2_with (first | (go_at_call 44; (with_reducible refine (due_Whole.calls kj7 t382 t386 t388 _ A15.out).mono ?_); rintro e w16 ⟨rfl, hb⟩; have n0_ := Aside0.mk (below_step (by repeat (first | (with_reducible first | exact HB.out | apply below_alloc | apply pw_below_drewN | apply below_drew1) | exact HB.out)) hb); clear HB; have HB := n0_; clear n0_; (try clear hb); (try clear hb2); (try clear hk); (try clear hi)))
            go_meet
            case rel => exact ⟨_, ((t388 != (wrap64 (12 * t383)))), (by first | rfl | (simp; done) | (simp [*]; done)), H', ⟨by have := HJ7.out; first | omega | exact Nat.le_refl _⟩, ⟨by repeat (first | (with_reducible first | exact HB.out | apply below_alloc | apply pw_below_drewN | apply below_drew1) | exact HB.out)⟩⟩
          · rw [if_neg c14] at H
            have c14b0 : (t387 == 0) = false := beq_eq_false_iff_ne.mpr c14
            have c14b1 : (t387 != 0) = true := bne_iff_ne.mpr c14
            (first | rw [c14b0] | (simp only [i64_w, i32_w]; rw [c14b0]) | skip)
            have H' := Aside0.mk H
            clear H
            go_wp2
            go_meet
            case rel => exact ⟨_, (false), (by first | rfl | (simp; done) | (simp [*]; done)), H', ⟨by have := HJ7.out; first | omega | exact Nat.le_refl _⟩, ⟨by repeat (first | (with_reducible first | exact HB.out | apply below_alloc | apply pw_below_drewN | apply below_drew1) | exact HB.out)⟩⟩
        case rest =>
          clear HC13
          try clear c1
          try clear c2
          try clear p2
          try clear c3
          try clear p6
          try clear c11
          try clear c11b0
          try clear c11b1
          try clear c12
          try clear c13
          try clear c14
          try clear c14b0
          try clear c14b1
          try clear p2
          obtain ⟨kq, x47_12, rfl, HA, HJ12, HB⟩ := hcut
          cases kq with
          | zero => exact absurd HA.out (by simp [annuitylaw05_DueYears.j1])
          | succ kj12 =>
            have H := HA.out
            clear HA
            simp only [annuitylaw05_DueYears.j1] at H
            by_cases c17 : x47_12 = true
            · subst c17
              have H1 : (some false) = some r := by rw [if_pos rfl] at H; exact H
              clear H
              have H := H1
              clear H1
              obtain rfl := Option.some.inj H
              go_wp2
              go_ret
              exact ⟨by first | rfl | (simp [errW_none, errW_some] <;> rfl) | (simp [*, errW_none, errW_some] <;> rfl), by repeat (first | (with_reducible first | exact HB.out | apply below_alloc | apply pw_below_drewN | apply below_drew1) | exact HB.out)⟩
            · replace c17 := Bool.eq_false_iff.mpr c17
              subst c17
              have H1 : ((annuitykeep_Mod.f a2 2879).bind fun t389 => ((annuityref04_First.f kj12 t389).bind fun bt390 => (if bt390.2 = 0 then ((due_InTime.f kj12 t389 (wrap64 (bt390.1 + 15))).bind fun t392 => (if t392 = true then ((due_InTime.f kj12 t389 (wrap64 (bt390.1 + 16))).bind fun t393 => (if t393 = true then (some false) else ((due_Late.f kj12 t389 (wrap64 (bt390.1 + 15))).bind fun t394 => (if t394 = 0 then ((due_Late.f kj12 t389 (wrap64 (bt390.1 + 18))).bind fun t395 => (if t395 = 3 then ((due_Months.f kj12 (wrap64 (bt390.1 - 1)) bt390.1).bind fun t396 => ((annuitykeep_Ints.f kj12 t396 (([t389] : List Int))).bind fun t402 => (if t402 = true then ((annuitylaw05_wakes.f kj12).bind fun t403 => (some t403)) else (some false)))) else (some false))) else (some false))))) else (some false))) else (some false)))) = some r := by rw [if_neg (show ¬ (false = true) by decide)] at H; exact H
              clear H
              have H := H1
              clear H1
              replace H := Option.bind_eq_some_iff.mp H
              obtain ⟨t389, A180, H⟩ := H
              replace H : ((annuityref04_First.f kj12 t389).bind fun bt390 => (if bt390.2 = 0 then ((due_InTime.f kj12 t389 (wrap64 (bt390.1 + 15))).bind fun t392 => (if t392 = true then ((due_InTime.f kj12 t389 (wrap64 (bt390.1 + 16))).bind fun t393 => (if t393 = true then (some false) else ((due_Late.f kj12 t389 (wrap64 (bt390.1 + 15))).bind fun t394 => (if t394 = 0 then ((due_Late.f kj12 t389 (wrap64 (bt390.1 + 18))).bind fun t395 => (if t395 = 3 then ((due_Months.f kj12 (wrap64 (bt390.1 - 1)) bt390.1).bind fun t396 => ((annuitykeep_Ints.f kj12 t396 (([t389] : List Int))).bind fun t402 => (if t402 = true then ((annuitylaw05_wakes.f kj12).bind fun t403 => (some t403)) else (some false)))) else (some false))) else (some false))))) else (some false))) else (some false))) = some r := H
              have A18 := Aside0.mk A180
              clear A180
              replace H := Option.bind_eq_some_iff.mp H
              obtain ⟨⟨t390, t391⟩, A190, H⟩ := H
              replace H : (if t391 = 0 then ((due_InTime.f kj12 t389 (wrap64 (t390 + 15))).bind fun t392 => (if t392 = true then ((due_InTime.f kj12 t389 (wrap64 (t390 + 16))).bind fun t393 => (if t393 = true then (some false) else ((due_Late.f kj12 t389 (wrap64 (t390 + 15))).bind fun t394 => (if t394 = 0 then ((due_Late.f kj12 t389 (wrap64 (t390 + 18))).bind fun t395 => (if t395 = 3 then ((due_Months.f kj12 (wrap64 (t390 - 1)) t390).bind fun t396 => ((annuitykeep_Ints.f kj12 t396 (([t389] : List Int))).bind fun t402 => (if t402 = true then ((annuitylaw05_wakes.f kj12).bind fun t403 => (some t403)) else (some false)))) else (some false))) else (some false))))) else (some false))) else (some false)) = some r := H
              have A19 := Aside0.mk A190
              clear A190
              by_cases c20 : t391 = 0
              · rw [if_pos c20] at H
                have c20b0 : (t391 == 0) = true := beq_iff_eq.mpr c20
                have c20b1 : (t391 != 0) = false := bne_eq_false_iff_eq.mpr c20
                clear c20
                replace H := Option.bind_eq_some_iff.mp H
                obtain ⟨t392, A210, H⟩ := H
                replace H : (if t392 = true then ((due_InTime.f kj12 t389 (wrap64 (t390 + 16))).bind fun t393 => (if t393 = true then (some false) else ((due_Late.f kj12 t389 (wrap64 (t390 + 15))).bind fun t394 => (if t394 = 0 then ((due_Late.f kj12 t389 (wrap64 (t390 + 18))).bind fun t395 => (if t395 = 3 then ((due_Months.f kj12 (wrap64 (t390 - 1)) t390).bind fun t396 => ((annuitykeep_Ints.f kj12 t396 (([t389] : List Int))).bind fun t402 => (if t402 = true then ((annuitylaw05_wakes.f kj12).bind fun t403 => (some t403)) else (some false)))) else (some false))) else (some false))))) else (some false)) = some r := H
                have A21 := Aside0.mk A210
                clear A210
                by_cases c22 : t392 = true
                · subst c22
                  have H1 : ((due_InTime.f kj12 t389 (wrap64 (t390 + 16))).bind fun t393 => (if t393 = true then (some false) else ((due_Late.f kj12 t389 (wrap64 (t390 + 15))).bind fun t394 => (if t394 = 0 then ((due_Late.f kj12 t389 (wrap64 (t390 + 18))).bind fun t395 => (if t395 = 3 then ((due_Months.f kj12 (wrap64 (t390 - 1)) t390).bind fun t396 => ((annuitykeep_Ints.f kj12 t396 (([t389] : List Int))).bind fun t402 => (if t402 = true then ((annuitylaw05_wakes.f kj12).bind fun t403 => (some t403)) else (some false)))) else (some false))) else (some false))))) = some r := by rw [if_pos rfl] at H; exact H
                  clear H
                  have H := H1
                  clear H1
                  replace H := Option.bind_eq_some_iff.mp H
                  obtain ⟨t393, A230, H⟩ := H
                  replace H : (if t393 = true then (some false) else ((due_Late.f kj12 t389 (wrap64 (t390 + 15))).bind fun t394 => (if t394 = 0 then ((due_Late.f kj12 t389 (wrap64 (t390 + 18))).bind fun t395 => (if t395 = 3 then ((due_Months.f kj12 (wrap64 (t390 - 1)) t390).bind fun t396 => ((annuitykeep_Ints.f kj12 t396 (([t389] : List Int))).bind fun t402 => (if t402 = true then ((annuitylaw05_wakes.f kj12).bind fun t403 => (some t403)) else (some false)))) else (some false))) else (some false)))) = some r := H
                  have A23 := Aside0.mk A230
                  clear A230
                  by_cases c24 : t393 = true
                  · subst c24
                    have H1 : (some false) = some r := by rw [if_pos rfl] at H; exact H
                    clear H
                    have H := H1
                    clear H1
                    obtain rfl := Option.some.inj H
                    go_wp2_with (first | ((with_reducible refine gate_callee (f := 23) rfl ?_); refine goesL_ (some 49) rfl rfl Try.func23 (by kernel_rfl) rfl #[.int .i64 a2, .int .i64 2879] rfl (by (try simp only [List.map_toArray, List.map_cons, List.map_nil]); first | done | rfl | (simp only [List.length_drop, List.length_take]; rfl)) ?_; (with_reducible refine (annuitykeep_Mod.calls a2 2879 t389 _ A18.out).mono ?_); rintro e w' ⟨rfl, ⟨nd, rfl⟩⟩; refine ⟨_, rfl, ?_⟩) | ((with_reducible refine gate_callee (f := 31) rfl ?_); refine goesL_ (some 52) rfl rfl Try.func31 (by kernel_rfl) rfl #[.int .i64 t389] rfl (by (try simp only [List.map_toArray, List.map_cons, List.map_nil]); first | done | rfl | (simp only [List.length_drop, List.length_take]; rfl)) ?_; (with_reducible refine (annuityref04_First.calls kj12 t389 t390 t391 _ A19.out).mono ?_); rintro e w' ⟨rfl, ⟨nd, rfl⟩⟩; refine ⟨_, rfl, ?_⟩) | (go_at_call 40; (with_reducible refine (due_InTime.calls kj12 t389 (wrap64 (t390 + 15)) true _ A21.out).mono ?_); rintro e w' ⟨rfl, ⟨nd, rfl⟩⟩) | (go_at_call 40; (with_reducible refine (due_InTime.calls kj12 t389 (wrap64 (t390 + 16)) true _ A23.out).mono ?_); rintro e w' ⟨rfl, ⟨nd, rfl⟩⟩))
                    go_ret
                    exact ⟨by first | rfl | (simp [errW_none, errW_some] <;> rfl) | (simp [*, errW_none, errW_some] <;> rfl), by repeat (first | (with_reducible first | exact HB.out | apply below_alloc | apply pw_below_drewN | apply below_drew1) | exact HB.out)⟩
                  · replace c24 := Bool.eq_false_iff.mpr c24
                    subst c24
                    have H1 : ((due_Late.f kj12 t389 (wrap64 (t390 + 15))).bind fun t394 => (if t394 = 0 then ((due_Late.f kj12 t389 (wrap64 (t390 + 18))).bind fun t395 => (if t395 = 3 then ((due_Months.f kj12 (wrap64 (t390 - 1)) t390).bind fun t396 => ((annuitykeep_Ints.f kj12 t396 (([t389] : List Int))).bind fun t402 => (if t402 = true then ((annuitylaw05_wakes.f kj12).bind fun t403 => (some t403)) else (some false)))) else (some false))) else (some false))) = some r := by rw [if_neg (show ¬ (false = true) by decide)] at H; exact H
                    clear H
                    have H := H1
                    clear H1
                    replace H := Option.bind_eq_some_iff.mp H
                    obtain ⟨t394, A250, H⟩ := H
                    replace H : (if t394 = 0 then ((due_Late.f kj12 t389 (wrap64 (t390 + 18))).bind fun t395 => (if t395 = 3 then ((due_Months.f kj12 (wrap64 (t390 - 1)) t390).bind fun t396 => ((annuitykeep_Ints.f kj12 t396 (([t389] : List Int))).bind fun t402 => (if t402 = true then ((annuitylaw05_wakes.f kj12).bind fun t403 => (some t403)) else (some false)))) else (some false))) else (some false)) = some r := H
                    have A25 := Aside0.mk A250
                    clear A250
                    by_cases c26 : t394 = 0
                    · rw [if_pos c26] at H
                      have c26b0 : (t394 == 0) = true := beq_iff_eq.mpr c26
                      have c26b1 : (t394 != 0) = false := bne_eq_false_iff_eq.mpr c26
                      clear c26
                      replace H := Option.bind_eq_some_iff.mp H
                      obtain ⟨t395, A270, H⟩ := H
                      replace H : (if t395 = 3 then ((due_Months.f kj12 (wrap64 (t390 - 1)) t390).bind fun t396 => ((annuitykeep_Ints.f kj12 t396 (([t389] : List Int))).bind fun t402 => (if t402 = true then ((annuitylaw05_wakes.f kj12).bind fun t403 => (some t403)) else (some false)))) else (some false)) = some r := H
                      have A27 := Aside0.mk A270
                      clear A270
                      by_cases c28 : t395 = 3
                      · rw [if_pos c28] at H
                        have c28b0 : (t395 == 3) = true := beq_iff_eq.mpr c28
                        have c28b1 : (t395 != 3) = false := bne_eq_false_iff_eq.mpr c28
                        clear c28
                        replace H := Option.bind_eq_some_iff.mp H
                        obtain ⟨t396, A290, H⟩ := H
                        replace H : ((annuitykeep_Ints.f kj12 t396 (([t389] : List Int))).bind fun t402 => (if t402 = true then ((annuitylaw05_wakes.f kj12).bind fun t403 => (some t403)) else (some false))) = some r := H
                        have A29 := Aside0.mk A290
                        clear A290
                        obtain ⟨y399, hy399⟩ : ∃ y_ : List Int, y_ = (([t389] : List Int)) := ⟨_, rfl⟩
                        replace H : ((annuitykeep_Ints.f kj12 t396 y399).bind fun t402 => (if t402 = true then ((annuitylaw05_wakes.f kj12).bind fun t403 => (some t403)) else (some false))) = some r := by first | (rw [hy399]; with_reducible exact H) | (have H2_ := (Option.bind_some _ _).symm.trans H; rw [hy399]; with_reducible exact H2_) | (have H2_ := (Option.bind_some _ _).symm.trans H; with_reducible exact H2_) | with_reducible exact H | (rw [hy399]; exact H) | exact H
                        have Ny399 := Aside0.mk hy399
                        clear hy399
                        replace H := Option.bind_eq_some_iff.mp H
                        obtain ⟨t402, A300, H⟩ := H
                        replace H : (if t402 = true then ((annuitylaw05_wakes.f kj12).bind fun t403 => (some t403)) else (some false)) = some r := H
                        have A30 := Aside0.mk A300
                        clear A300
                        by_cases c31 : t402 = true
                        · subst c31
                          have H1 : ((annuitylaw05_wakes.f kj12).bind fun t403 => (some t403)) = some r := by rw [if_pos rfl] at H; exact H
                          clear H
                          have H := H1
                          clear H1
                          replace H := Option.bind_eq_some_iff.mp H
                          obtain ⟨t403, A320, H⟩ := H
                          replace H : (some t403) = some r := H
                          have A32 := Aside0.mk A320
                          clear A320
                          obtain rfl := Option.some.inj H
                          go_wp2_with (first | ((with_reducible refine gate_callee (f := 23) rfl ?_); refine goesL_ (some 49) rfl rfl Try.func23 (by kernel_rfl) rfl #[.int .i64 a2, .int .i64 2879] rfl (by (try simp only [List.map_toArray, List.map_cons, List.map_nil]); first | done | rfl | (simp only [List.length_drop, List.length_take]; rfl)) ?_; (with_reducible refine (annuitykeep_Mod.calls a2 2879 t389 _ A18.out).mono ?_); rintro e w' ⟨rfl, ⟨nd, rfl⟩⟩; refine ⟨_, rfl, ?_⟩) | ((with_reducible refine gate_callee (f := 31) rfl ?_); refine goesL_ (some 52) rfl rfl Try.func31 (by kernel_rfl) rfl #[.int .i64 t389] rfl (by (try simp only [List.map_toArray, List.map_cons, List.map_nil]); first | done | rfl | (simp only [List.length_drop, List.length_take]; rfl)) ?_; (with_reducible refine (annuityref04_First.calls kj12 t389 t390 t391 _ A19.out).mono ?_); rintro e w' ⟨rfl, ⟨nd, rfl⟩⟩; refine ⟨_, rfl, ?_⟩) | (go_at_call 40; (with_reducible refine (due_InTime.calls kj12 t389 (wrap64 (t390 + 15)) true _ A21.out).mono ?_); rintro e w' ⟨rfl, ⟨nd, rfl⟩⟩) | (go_at_call 40; (with_reducible refine (due_InTime.calls kj12 t389 (wrap64 (t390 + 16)) false _ A23.out).mono ?_); rintro e w' ⟨rfl, ⟨nd, rfl⟩⟩) | (go_at_call 42; (with_reducible refine (due_Late.calls kj12 t389 (wrap64 (t390 + 15)) t394 _ A25.out).mono ?_); rintro e w33 ⟨rfl, hb⟩; have n0_ := Aside0.mk (below_step (by repeat (first | (with_reducible first | exact HB.out | apply below_alloc | apply pw_below_drewN | apply below_drew1) | exact HB.out)) hb); clear HB; have HB := n0_; clear n0_; (try clear hb); (try clear hb2); (try clear hk); (try clear hi)) | (go_at_call 42; (with_reducible refine (due_Late.calls kj12 t389 (wrap64 (t390 + 18)) t395 _ A27.out).mono ?_); rintro e w34 ⟨rfl, hb⟩; have n0_ := Aside0.mk (below_step (by repeat (first | (with_reducible first | exact HB.out | apply below_alloc | apply pw_below_drewN | apply below_drew1) | exact HB.out)) hb); clear HB; have HB := n0_; clear n0_; (try clear hb); (try clear hb2); (try clear hk); (try clear hi)) | (go_at_call 35; (with_reducible refine (due_Months.calls kj12 (wrap64 (t390 - 1)) t390 t396 _ A29.out).mono ?_); rintro e w35 ⟨v397, rfl, ho0, hb⟩; have n0_ := Aside0.mk (Kd.R_lower ho0 (below_size (by repeat (first | (with_reducible first | exact HB.out | apply below_alloc | apply pw_below_drewN | apply below_drew1) | exact HB.out)))); have n1_ := Aside0.mk (below_step (by repeat (first | (with_reducible first | exact HB.out | apply below_alloc | apply pw_below_drewN | apply below_drew1) | exact HB.out)) hb); clear HB; have HO398 := n0_; have HB := n1_; clear n0_ n1_; (try clear hb); (try clear hb2); (try clear hk); (try clear hi); (try clear ho0)) | ((with_reducible refine gate_dst (N := 90) rfl ?_); (try (refine gate_guard (by rfl) ?_; dsimp only)); refine Kd.R_lit (Kd.int .i64) _ 3 ?hg (N := 90) ?hd (xs := ([t389] : List Int)) (inner := [.int .i64 t389]) (ok := fun _ => True) (okp := fun _ => True) ?hr ?hp (fun _ hk => hk) trivial (Below.refl _ _) (Nat.le_refl _) (by simp) ?_; (case hd => rfl); (case hg => rfl); (case hr => first | (go_simp; done) | (go_simp; rfl)); (case hp => exact (Reps.one (show Kd.M (Kd.int .i64) _ _ _ t389 [.int .i64 t389] from rfl) (Reps.none _ _))); intro v400 w36 ho37 hb hg_ hnew_; clear hg_ hnew_; (first | rw [← Ny399.out] at ho37 | (simp only [Int.reduceToNat] at ho37; rw [← Ny399.out] at ho37)); have n0_ := Aside0.mk (Kd.R_elder' (by (with_reducible repeat (first | apply Kd.R_alloc | apply Kd.R_drewN | apply Kd.R_drew)); exact HO398.out) (Kd.R_base ho37) hb); have n1_ := Aside0.mk (Kd.R_lower (Kd.R_new' ho37 (Kd.R_lt (by (with_reducible repeat (first | apply Kd.R_alloc | apply Kd.R_drewN | apply Kd.R_drew)); exact HO398.out))) (below_size (by repeat (first | (with_reducible first | exact HB.out | apply below_alloc | apply pw_below_drewN | apply below_drew1) | exact HB.out)))); have n2_ := Aside0.mk (below_step (by repeat (first | (with_reducible first | exact HB.out | apply below_alloc | apply pw_below_drewN | apply below_drew1) | exact HB.out)) hb); clear HO398; clear HB; have HO398 := n0_; have HO401 := n1_; have HB := n2_; clear n0_ n1_ n2_; clear hb ho37; obtain ⟨Ao38, co38, eo38⟩ := Kd.R_slice HO398.out; subst eo38; obtain ⟨Ao39, co39, eo39⟩ := Kd.R_slice HO401.out; subst eo39) | (go_at_call 34; (with_reducible refine (annuitykeep_Ints.calls kj12 _ _ t396 _ _ y399 true _ ?side1 ?side2 ?side3 ?side4 A30.out).mono ?_); (case side1 => repeat (first | exact (Kd.R_reads' HO398.out).2.2 | (with_reducible refine Kd.C_alloc ?_ _) | (with_reducible refine Kd.C_drewN ?_ _) | (with_reducible refine Kd.C_drew ?_))); (case side2 => exact (Kd.R_reads' HO398.out).2.1); (case side3 => repeat (first | exact (Kd.R_reads' HO401.out).2.2 | (with_reducible refine Kd.C_alloc ?_ _) | (with_reducible refine Kd.C_drewN ?_ _) | (with_reducible refine Kd.C_drew ?_))); (case side4 => exact (Kd.R_reads' HO401.out).2.1); rintro e w' ⟨rfl, ⟨nd, rfl⟩⟩) | (go_at_call 37; (with_reducible refine (annuitylaw05_wakes.calls kj12  t403 _ A32.out).mono ?_); rintro e w40 ⟨rfl, hb⟩; have n0_ := Aside0.mk (Kd.R_below (by (with_reducible repeat (first | apply Kd.R_alloc | apply Kd.R_drewN | apply Kd.R_drew)); exact HO398.out) hb); have n1_ := Aside0.mk (Kd.R_below (by (with_reducible repeat (first | apply Kd.R_alloc | apply Kd.R_drewN | apply Kd.R_drew)); exact HO401.out) hb); have n2_ := Aside0.mk (below_step (by repeat (first | (with_reducible first | exact HB.out | apply below_alloc | apply pw_below_drewN | apply below_drew1) | exact HB.out)) hb); clear HO398; clear HO401; clear HB; have HO398 := n0_; have HO401 := n1_; have HB := n2_; clear n0_ n1_ n2_; (try clear hb); (try clear hb2); (try clear hk); (try clear hi)))
                          go_ret
                          exact ⟨by first | rfl | (simp [errW_none, errW_some] <;> rfl) | (simp [*, errW_none, errW_some] <;> rfl), by repeat (first | (with_reducible first | exact HB.out | apply below_alloc | apply pw_below_drewN | apply below_drew1) | exact HB.out)⟩
                        · replace c31 := Bool.eq_false_iff.mpr c31
                          subst c31
                          have H1 : (some false) = some r := by rw [if_neg (show ¬ (false = true) by decide)] at H; exact H
                          clear H
                          have H := H1
                          clear H1
                          obtain rfl := Option.some.inj H
                          go_wp2_with (first | ((with_reducible refine gate_callee (f := 23) rfl ?_); refine goesL_ (some 49) rfl rfl Try.func23 (by kernel_rfl) rfl #[.int .i64 a2, .int .i64 2879] rfl (by (try simp only [List.map_toArray, List.map_cons, List.map_nil]); first | done | rfl | (simp only [List.length_drop, List.length_take]; rfl)) ?_; (with_reducible refine (annuitykeep_Mod.calls a2 2879 t389 _ A18.out).mono ?_); rintro e w' ⟨rfl, ⟨nd, rfl⟩⟩; refine ⟨_, rfl, ?_⟩) | ((with_reducible refine gate_callee (f := 31) rfl ?_); refine goesL_ (some 52) rfl rfl Try.func31 (by kernel_rfl) rfl #[.int .i64 t389] rfl (by (try simp only [List.map_toArray, List.map_cons, List.map_nil]); first | done | rfl | (simp only [List.length_drop, List.length_take]; rfl)) ?_; (with_reducible refine (annuityref04_First.calls kj12 t389 t390 t391 _ A19.out).mono ?_); rintro e w' ⟨rfl, ⟨nd, rfl⟩⟩; refine ⟨_, rfl, ?_⟩) | (go_at_call 40; (with_reducible refine (due_InTime.calls kj12 t389 (wrap64 (t390 + 15)) true _ A21.out).mono ?_); rintro e w' ⟨rfl, ⟨nd, rfl⟩⟩) | (go_at_call 40; (with_reducible refine (due_InTime.calls kj12 t389 (wrap64 (t390 + 16)) false _ A23.out).mono ?_); rintro e w' ⟨rfl, ⟨nd, rfl⟩⟩) | (go_at_call 42; (with_reducible refine (due_Late.calls kj12 t389 (wrap64 (t390 + 15)) t394 _ A25.out).mono ?_); rintro e w41 ⟨rfl, hb⟩; have n0_ := Aside0.mk (below_step (by repeat (first | (with_reducible first | exact HB.out | apply below_alloc | apply pw_below_drewN | apply below_drew1) | exact HB.out)) hb); clear HB; have HB := n0_; clear n0_; (try clear hb); (try clear hb2); (try clear hk); (try clear hi)) | (go_at_call 42; (with_reducible refine (due_Late.calls kj12 t389 (wrap64 (t390 + 18)) t395 _ A27.out).mono ?_); rintro e w42 ⟨rfl, hb⟩; have n0_ := Aside0.mk (below_step (by repeat (first | (with_reducible first | exact HB.out | apply below_alloc | apply pw_below_drewN | apply below_drew1) | exact HB.out)) hb); clear HB; have HB := n0_; clear n0_; (try clear hb); (try clear hb2); (try clear hk); (try clear hi)) | (go_at_call 35; (with_reducible refine (due_Months.calls kj12 (wrap64 (t390 - 1)) t390 t396 _ A29.out).mono ?_); rintro e w43 ⟨v397, rfl, ho0, hb⟩; have n0_ := Aside0.mk (Kd.R_lower ho0 (below_size (by repeat (first | (with_reducible first | exact HB.out | apply below_alloc | apply pw_below_drewN | apply below_drew1) | exact HB.out)))); have n1_ := Aside0.mk (below_step (by repeat (first | (with_reducible first | exact HB.out | apply below_alloc | apply pw_below_drewN | apply below_drew1) | exact HB.out)) hb); clear HB; have HO398 := n0_; have HB := n1_; clear n0_ n1_; (try clear hb); (try clear hb2); (try clear hk); (try clear hi); (try clear ho0)) | ((with_reducible refine gate_dst (N := 90) rfl ?_); (try (refine gate_guard (by rfl) ?_; dsimp only)); refine Kd.R_lit (Kd.int .i64) _ 3 ?hg (N := 90) ?hd (xs := ([t389] : List Int)) (inner := [.int .i64 t389]) (ok := fun _ => True) (okp := fun _ => True) ?hr ?hp (fun _ hk => hk) trivial (Below.refl _ _) (Nat.le_refl _) (by simp) ?_; (case hd => rfl); (case hg => rfl); (case hr => first | (go_simp; done) | (go_simp; rfl)); (case hp => exact (Reps.one (show Kd.M (Kd.int .i64) _ _ _ t389 [.int .i64 t389] from rfl) (Reps.none _ _))); intro v400 w44 ho45 hb hg_ hnew_; clear hg_ hnew_; (first | rw [← Ny399.out] at ho45 | (simp only [Int.reduceToNat] at ho45; rw [← Ny399.out] at ho45)); have n0_ := Aside0.mk (Kd.R_elder' (by (with_reducible repeat (first | apply Kd.R_alloc | apply Kd.R_drewN | apply Kd.R_drew)); exact HO398.out) (Kd.R_base ho45) hb); have n1_ := Aside0.mk (Kd.R_lower (Kd.R_new' ho45 (Kd.R_lt (by (with_reducible repeat (first | apply Kd.R_alloc | apply Kd.R_drewN | apply Kd.R_drew)); exact HO398.out))) (below_size (by repeat (first | (with_reducible first | exact HB.out | apply below_alloc | apply pw_below_drewN | apply below_drew1) | exact HB.out)))); have n2_ := Aside0.mk (below_step (by repeat (first | (with_reducible first | exact HB.out | apply below_alloc | apply pw_below_drewN | apply below_drew1) | exact HB.out)) hb); clear HO398; clear HB; have HO398 := n0_; have HO401 := n1_; have HB := n2_; clear n0_ n1_ n2_; clear hb ho45; obtain ⟨Ao46, co46, eo46⟩ := Kd.R_slice HO398.out; subst eo46; obtain ⟨Ao47, co47, eo47⟩ := Kd.R_slice HO401.out; subst eo47) | (go_at_call 34; (with_reducible refine (annuitykeep_Ints.calls kj12 _ _ t396 _ _ y399 false _ ?side1 ?side2 ?side3 ?side4 A30.out).mono ?_); (case side1 => repeat (first | exact (Kd.R_reads' HO398.out).2.2 | (with_reducible refine Kd.C_alloc ?_ _) | (with_reducible refine Kd.C_drewN ?_ _) | (with_reducible refine Kd.C_drew ?_))); (case side2 => exact (Kd.R_reads' HO398.out).2.1); (case side3 => repeat (first | exact (Kd.R_reads' HO401.out).2.2 | (with_reducible refine Kd.C_alloc ?_ _) | (with_reducible refine Kd.C_drewN ?_ _) | (with_reducible refine Kd.C_drew ?_))); (case side4 => exact (Kd.R_reads' HO401.out).2.1); rintro e w' ⟨rfl, ⟨nd, rfl⟩⟩))
                          go_ret
                          exact ⟨by first | rfl | (simp [errW_none, errW_some] <;> rfl) | (simp [*, errW_none, errW_some] <;> rfl), by repeat (first | (with_reducible first | exact HB.out | apply below_alloc | apply pw_below_drewN | apply below_drew1) | exact HB.out)⟩
                      · rw [if_neg c28] at H
                        have c28b0 : (t395 == 3) = false := beq_eq_false_iff_ne.mpr c28
                        have c28b1 : (t395 != 3) = true := bne_iff_ne.mpr c28
                        obtain rfl := Option.some.inj H
                        go_wp2_with (first | ((with_reducible refine gate_callee (f := 23) rfl ?_); refine goesL_ (some 49) rfl rfl Try.func23 (by kernel_rfl) rfl #[.int .i64 a2, .int .i64 2879] rfl (by (try simp only [List.map_toArray, List.map_cons, List.map_nil]); first | done | rfl | (simp only [List.length_drop, List.length_take]; rfl)) ?_; (with_reducible refine (annuitykeep_Mod.calls a2 2879 t389 _ A18.out).mono ?_); rintro e w' ⟨rfl, ⟨nd, rfl⟩⟩; refine ⟨_, rfl, ?_⟩) | ((with_reducible refine gate_callee (f := 31) rfl ?_); refine goesL_ (some 52) rfl rfl Try.func31 (by kernel_rfl) rfl #[.int .i64 t389] rfl (by (try simp only [List.map_toArray, List.map_cons, List.map_nil]); first | done | rfl | (simp only [List.length_drop, List.length_take]; rfl)) ?_; (with_reducible refine (annuityref04_First.calls kj12 t389 t390 t391 _ A19.out).mono ?_); rintro e w' ⟨rfl, ⟨nd, rfl⟩⟩; refine ⟨_, rfl, ?_⟩) | (go_at_call 40; (with_reducible refine (due_InTime.calls kj12 t389 (wrap64 (t390 + 15)) true _ A21.out).mono ?_); rintro e w' ⟨rfl, ⟨nd, rfl⟩⟩) | (go_at_call 40; (with_reducible refine (due_InTime.calls kj12 t389 (wrap64 (t390 + 16)) false _ A23.out).mono ?_); rintro e w' ⟨rfl, ⟨nd, rfl⟩⟩) | (go_at_call 42; (with_reducible refine (due_Late.calls kj12 t389 (wrap64 (t390 + 15)) t394 _ A25.out).mono ?_); rintro e w48 ⟨rfl, hb⟩; have n0_ := Aside0.mk (below_step (by repeat (first | (with_reducible first | exact HB.out | apply below_alloc | apply pw_below_drewN | apply below_drew1) | exact HB.out)) hb); clear HB; have HB := n0_; clear n0_; (try clear hb); (try clear hb2); (try clear hk); (try clear hi)) | (go_at_call 42; (with_reducible refine (due_Late.calls kj12 t389 (wrap64 (t390 + 18)) t395 _ A27.out).mono ?_); rintro e w49 ⟨rfl, hb⟩; have n0_ := Aside0.mk (below_step (by repeat (first | (with_reducible first | exact HB.out | apply below_alloc | apply pw_below_drewN | apply below_drew1) | exact HB.out)) hb); clear HB; have HB := n0_; clear n0_; (try clear hb); (try clear hb2); (try clear hk); (try clear hi)))
                        go_ret
                        exact ⟨by first | rfl | (simp [errW_none, errW_some] <;> rfl) | (simp [*, errW_none, errW_some] <;> rfl), by repeat (first | (with_reducible first | exact HB.out | apply below_alloc | apply pw_below_drewN | apply below_drew1) | exact HB.out)⟩
                    · rw [if_neg c26] at H
                      have c26b0 : (t394 == 0) = false := beq_eq_false_iff_ne.mpr c26
                      have c26b1 : (t394 != 0) = true := bne_iff_ne.mpr c26
                      obtain rfl := Option.some.inj H
                      go_wp2_with (first | ((with_reducible refine gate_callee (f := 23) rfl ?_); refine goesL_ (some 49) rfl rfl Try.func23 (by kernel_rfl) rfl #[.int .i64 a2, .int .i64 2879] rfl (by (try simp only [List.map_toArray, List.map_cons, List.map_nil]); first | done | rfl | (simp only [List.length_drop, List.length_take]; rfl)) ?_; (with_reducible refine (annuitykeep_Mod.calls a2 2879 t389 _ A18.out).mono ?_); rintro e w' ⟨rfl, ⟨nd, rfl⟩⟩; refine ⟨_, rfl, ?_⟩) | ((with_reducible refine gate_callee (f := 31) rfl ?_); refine goesL_ (some 52) rfl rfl Try.func31 (by kernel_rfl) rfl #[.int .i64 t389] rfl (by (try simp only [List.map_toArray, List.map_cons, List.map_nil]); first | done | rfl | (simp only [List.length_drop, List.length_take]; rfl)) ?_; (with_reducible refine (annuityref04_First.calls kj12 t389 t390 t391 _ A19.out).mono ?_); rintro e w' ⟨rfl, ⟨nd, rfl⟩⟩; refine ⟨_, rfl, ?_⟩) | (go_at_call 40; (with_reducible refine (due_InTime.calls kj12 t389 (wrap64 (t390 + 15)) true _ A21.out).mono ?_); rintro e w' ⟨rfl, ⟨nd, rfl⟩⟩) | (go_at_call 40; (with_reducible refine (due_InTime.calls kj12 t389 (wrap64 (t390 + 16)) false _ A23.out).mono ?_); rintro e w' ⟨rfl, ⟨nd, rfl⟩⟩) | (go_at_call 42; (with_reducible refine (due_Late.calls kj12 t389 (wrap64 (t390 + 15)) t394 _ A25.out).mono ?_); rintro e w50 ⟨rfl, hb⟩; have n0_ := Aside0.mk (below_step (by repeat (first | (with_reducible first | exact HB.out | apply below_alloc | apply pw_below_drewN | apply below_drew1) | exact HB.out)) hb); clear HB; have HB := n0_; clear n0_; (try clear hb); (try clear hb2); (try clear hk); (try clear hi)))
                      go_ret
                      exact ⟨by first | rfl | (simp [errW_none, errW_some] <;> rfl) | (simp [*, errW_none, errW_some] <;> rfl), by repeat (first | (with_reducible first | exact HB.out | apply below_alloc | apply pw_below_drewN | apply below_drew1) | exact HB.out)⟩
                · replace c22 := Bool.eq_false_iff.mpr c22
                  subst c22
                  have H1 : (some false) = some r := by rw [if_neg (show ¬ (false = true) by decide)] at H; exact H
                  clear H
                  have H := H1
                  clear H1
                  obtain rfl := Option.some.inj H
                  go_wp2_with (first | ((with_reducible refine gate_callee (f := 23) rfl ?_); refine goesL_ (some 49) rfl rfl Try.func23 (by kernel_rfl) rfl #[.int .i64 a2, .int .i64 2879] rfl (by (try simp only [List.map_toArray, List.map_cons, List.map_nil]); first | done | rfl | (simp only [List.length_drop, List.length_take]; rfl)) ?_; (with_reducible refine (annuitykeep_Mod.calls a2 2879 t389 _ A18.out).mono ?_); rintro e w' ⟨rfl, ⟨nd, rfl⟩⟩; refine ⟨_, rfl, ?_⟩) | ((with_reducible refine gate_callee (f := 31) rfl ?_); refine goesL_ (some 52) rfl rfl Try.func31 (by kernel_rfl) rfl #[.int .i64 t389] rfl (by (try simp only [List.map_toArray, List.map_cons, List.map_nil]); first | done | rfl | (simp only [List.length_drop, List.length_take]; rfl)) ?_; (with_reducible refine (annuityref04_First.calls kj12 t389 t390 t391 _ A19.out).mono ?_); rintro e w' ⟨rfl, ⟨nd, rfl⟩⟩; refine ⟨_, rfl, ?_⟩) | (go_at_call 40; (with_reducible refine (due_InTime.calls kj12 t389 (wrap64 (t390 + 15)) false _ A21.out).mono ?_); rintro e w' ⟨rfl, ⟨nd, rfl⟩⟩))
                  go_ret
                  exact ⟨by first | rfl | (simp [errW_none, errW_some] <;> rfl) | (simp [*, errW_none, errW_some] <;> rfl), by repeat (first | (with_reducible first | exact HB.out | apply below_alloc | apply pw_below_drewN | apply below_drew1) | exact HB.out)⟩
              · rw [if_neg c20] at H
                have c20b0 : (t391 == 0) = false := beq_eq_false_iff_ne.mpr c20
                have c20b1 : (t391 != 0) = true := bne_iff_ne.mpr c20
                obtain rfl := Option.some.inj H
                go_wp2_with (first | ((with_reducible refine gate_callee (f := 23) rfl ?_); refine goesL_ (some 49) rfl rfl Try.func23 (by kernel_rfl) rfl #[.int .i64 a2, .int .i64 2879] rfl (by (try simp only [List.map_toArray, List.map_cons, List.map_nil]); first | done | rfl | (simp only [List.length_drop, List.length_take]; rfl)) ?_; (with_reducible refine (annuitykeep_Mod.calls a2 2879 t389 _ A18.out).mono ?_); rintro e w' ⟨rfl, ⟨nd, rfl⟩⟩; refine ⟨_, rfl, ?_⟩) | ((with_reducible refine gate_callee (f := 31) rfl ?_); refine goesL_ (some 52) rfl rfl Try.func31 (by kernel_rfl) rfl #[.int .i64 t389] rfl (by (try simp only [List.map_toArray, List.map_cons, List.map_nil]); first | done | rfl | (simp only [List.length_drop, List.length_take]; rfl)) ?_; (with_reducible refine (annuityref04_First.calls kj12 t389 t390 t391 _ A19.out).mono ?_); rintro e w' ⟨rfl, ⟨nd, rfl⟩⟩; refine ⟨_, rfl, ?_⟩))
                go_ret
                exact ⟨by first | rfl | (simp [errW_none, errW_some] <;> rfl) | (simp [*, errW_none, errW_some] <;> rfl), by repeat (first | (with_reducible first | exact HB.out | apply below_alloc | apply pw_below_drewN | apply below_drew1) | exact HB.out)⟩

/-- THE ONE PURE STATEMENT of annuitylaw05_DueYears: yours. -/
def annuitylaw05_DueYears.Pure : Prop := ∀ (a0 : Int) (a1 : Int) (a2 : Int), (Lit.int .i64 a0).wf = true → (Lit.int .i64 a1).wf = true → (Lit.int .i64 a2).wf = true → ∃ k, annuitylaw05_DueYears.f k a0 a1 a2 = some true
theorem annuitylaw05_DueYears.walk (P : annuitylaw05_DueYears.Pure) (a0 : Int) (a1 : Int) (a2 : Int) (w : World) (w0 : (Lit.int .i64 a0).wf = true) (w1 : (Lit.int .i64 a1).wf = true) (w2 : (Lit.int .i64 a2).wf = true) :
    Calls Try.prog 13 #[.int .i64 a0, .int .i64 a1, .int .i64 a2] w fun e w' => e = .returned (.bool true) ∧ Below w.heap.size w w' := by
  obtain ⟨k, h⟩ := P a0 a1 a2 w0 w1 w2
  refine (annuitylaw05_DueYears.calls k a0 a1 a2 true w h).mono ?_
  rintro e w' ⟨rfl, hd⟩
  exact ⟨rfl, hd⟩

end Go.Proofs.Ytgogccjfoclakaa.P
