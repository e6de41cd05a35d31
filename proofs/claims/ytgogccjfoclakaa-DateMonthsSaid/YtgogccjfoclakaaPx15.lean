/- Functions of the program as plain Lean functions, and proofs that its calls come to just their answers, where they tell one (written by a program of this session). -/
import Derived.Test.YtgogccjfoclakaaPx0
import Derived.Test.YtgogccjfoclakaaPx5
import Derived.Test.YtgogccjfoclakaaPx6
import Derived.Test.YtgogccjfoclakaaPx7
import Derived.Test.YtgogccjfoclakaaPx10
import Derived.Test.YtgogccjfoclakaaPx13
namespace Go.Proofs.Ytgogccjfoclakaa.P
open Go.RowKit Go.Proofs.YtgogccjfoclakaaW.PrintWords Go.Proofs.YtgogccjfoclakaaW.PrintLast Go.Proofs.YtgogccjfoclakaaW.PrintMore
attribute [local go_sem] max2_int min2_int max_two min_two max_three min_three max_four min_four   -- for this text's walks alone
set_option linter.unusedVariables false
set_option linter.unusedSimpArgs false

/-! ### annuitylaw04_DateMonths: function 8 -/
def annuitylaw04_DateMonths.j0 : Nat → Int → Int → Int → Int → Bool → Option (Bool)
  | 0, _, _, _, _, _ => none
  | k + 1, x5, x6, x7, x13, x59 => if x59 = true then (some false) else ((date_Add.f k x5 x6).bind fun bt248 => (if bt248.2 = 0 then ((date_Month.f k bt248.1).bind fun bt251 => ((date_Add.f k bt248.1 (wrap64 (-x6))).bind fun bt253 => (if bt251.2 = 0 then (if bt253.2 = 0 then (if bt251.1 = (wrap64 (x7 + x6)) then (if (wrap64 (x7 + x6)) > 2879 then (some false) else (if bt253.1 = x5 then ((annuitylaw04_wakes.f k).bind fun t255 => (some t255)) else (if x13 > 28 then (if bt253.1 < x5 then (if (wrap64 (x5 - bt253.1)) ≤ 3 then ((annuitylaw04_wakes.f k).bind fun t256 => (some t256)) else (some false)) else (some false)) else (some false)))) else (some false)) else (some false)) else (some false)))) else (if (wrap64 (x7 + x6)) > 2879 then (if bt248.1 = 0 then ((annuitylaw04_wakes.f k).bind fun t250 => (some t250)) else (some false)) else (some false))))
def annuitylaw04_DateMonths.f (k : Nat) (a0 : Int) (a1 : Int) : Option (Bool) := (annuitykeep_Mod.f a0 87659).bind fun t238 => ((annuitykeep_Mod.f a1 2880).bind fun t239 => ((date_Month.f k t238).bind fun bt240 => ((date_First.f k bt240.1).bind fun bt242 => ((date_Civil.f k t238).bind fun bt244 => (if bt240.2 = 0 then (if bt242.2 = 0 then (if bt244.2.2.2 = 0 then (annuitylaw04_DateMonths.j0 k t238 t239 bt240.1 bt244.2.2.1 ((wrap64 ((wrap64 (bt242.1 + bt244.2.2.1)) - 1)) != t238)) else (annuitylaw04_DateMonths.j0 k t238 t239 bt240.1 bt244.2.2.1 true)) else (annuitylaw04_DateMonths.j0 k t238 t239 bt240.1 bt244.2.2.1 true)) else (annuitylaw04_DateMonths.j0 k t238 t239 bt240.1 bt244.2.2.1 true))))))
theorem annuitylaw04_DateMonths.mono_l : ∀ k, (∀ y0 y1 y2 y3 y4, LeO (annuitylaw04_DateMonths.j0 k y0 y1 y2 y3 y4) (annuitylaw04_DateMonths.j0 (k + 1) y0 y1 y2 y3 y4))
  | 0 => fun _ _ _ _ _ r h => by simp [annuitylaw04_DateMonths.j0] at h
  | k + 1 => by
    have ih0 := annuitylaw04_DateMonths.mono_l k
    · intro y0 y1 y2 y3 y4
      unfold annuitylaw04_DateMonths.j0
      repeat' first
      | (with_reducible exact ih0 _ _ _ _ _)
      | (with_reducible exact annuitylaw04_wakes.mono _)
      | (with_reducible exact date_Add.mono _ _ _)
      | (with_reducible exact date_Civil.mono _ _)
      | (with_reducible exact date_First.mono _ _)
      | (with_reducible exact date_Month.mono _ _)
      | (with_reducible exact LeO.refl _)
      | (with_reducible exact LeO.none _)
      | (with_reducible refine LeO.ite ?_ ?_)
      | (with_reducible refine LeO.bind ?_ (fun _ => ?_))
      | exact ih0 _ _ _ _ _
      | exact annuitylaw04_wakes.mono _
      | exact date_Add.mono _ _ _
      | exact date_Civil.mono _ _
      | exact date_First.mono _ _
      | exact date_Month.mono _ _
      | exact LeO.none _
      | refine LeO.ite ?_ ?_
      | refine LeO.bind ?_ (fun _ => ?_)
theorem annuitylaw04_DateMonths.mono : ∀ a0 a1 k, LeO (annuitylaw04_DateMonths.f k a0 a1) (annuitylaw04_DateMonths.f (k + 1) a0 a1) := by
  intro a0 a1 k
  have ih0 := annuitylaw04_DateMonths.mono_l k
  unfold annuitylaw04_DateMonths.f
  repeat' first
      | (with_reducible exact ih0 _ _ _ _ _)
      | (with_reducible exact annuitylaw04_wakes.mono _)
      | (with_reducible exact date_Add.mono _ _ _)
      | (with_reducible exact date_Civil.mono _ _)
      | (with_reducible exact date_First.mono _ _)
      | (with_reducible exact date_Month.mono _ _)
      | (with_reducible exact LeO.refl _)
      | (with_reducible exact LeO.none _)
      | (with_reducible refine LeO.ite ?_ ?_)
      | (with_reducible refine LeO.bind ?_ (fun _ => ?_))
      | exact ih0 _ _ _ _ _
      | exact annuitylaw04_wakes.mono _
      | exact date_Add.mono _ _ _
      | exact date_Civil.mono _ _
      | exact date_First.mono _ _
      | exact date_Month.mono _ _
      | exact LeO.none _
      | refine LeO.ite ?_ ?_
      | refine LeO.bind ?_ (fun _ => ?_)
set_option maxHeartbeats 8000000 in
set_option maxRecDepth 100000 in
theorem annuitylaw04_DateMonths.calls (k : Nat) (a0 : Int) (a1 : Int) (r : Bool) (w : World) (h : annuitylaw04_DateMonths.f k a0 a1 = some r) :
    Calls Try.prog 8 #[.int .i64 a0, .int .i64 a1] w fun e w' => e = .returned (.bool r) ∧ Below w.heap.size w w' := by
  have HB := Aside0.mk (Below.refl w.heap.size w)
  have H : ((annuitykeep_Mod.f a0 87659).bind fun t238 => ((annuitykeep_Mod.f a1 2880).bind fun t239 => ((date_Month.f k t238).bind fun bt240 => ((date_First.f k bt240.1).bind fun bt242 => ((date_Civil.f k t238).bind fun bt244 => (if bt240.2 = 0 then (if bt242.2 = 0 then (if bt244.2.2.2 = 0 then (annuitylaw04_DateMonths.j0 k t238 t239 bt240.1 bt244.2.2.1 ((wrap64 ((wrap64 (bt242.1 + bt244.2.2.1)) - 1)) != t238)) else (annuitylaw04_DateMonths.j0 k t238 t239 bt240.1 bt244.2.2.1 true)) else (annuitylaw04_DateMonths.j0 k t238 t239 bt240.1 bt244.2.2.1 true)) else (annuitylaw04_DateMonths.j0 k t238 t239 bt240.1 bt244.2.2.1 true))))))) = some r := h
  clear h
  replace H := Option.bind_eq_some_iff.mp H
  obtain ⟨t238, A30, H⟩ := H
  replace H : ((annuitykeep_Mod.f a1 2880).bind fun t239 => ((date_Month.f k t238).bind fun bt240 => ((date_First.f k bt240.1).bind fun bt242 => ((date_Civil.f k t238).bind fun bt244 => (if bt240.2 = 0 then (if bt242.2 = 0 then (if bt244.2.2.2 = 0 then (annuitylaw04_DateMonths.j0 k t238 t239 bt240.1 bt244.2.2.1 ((wrap64 ((wrap64 (bt242.1 + bt244.2.2.1)) - 1)) != t238)) else (annuitylaw04_DateMonths.j0 k t238 t239 bt240.1 bt244.2.2.1 true)) else (annuitylaw04_DateMonths.j0 k t238 t239 bt240.1 bt244.2.2.1 true)) else (annuitylaw04_DateMonths.j0 k t238 t239 bt240.1 bt244.2.2.1 true)))))) = some r := H
  have A3 := Aside0.mk A30
  clear A30
  replace H := Option.bind_eq_some_iff.mp H
  obtain ⟨t239, A40, H⟩ := H
  replace H : ((date_Month.f k t238).bind fun bt240 => ((date_First.f k bt240.1).bind fun bt242 => ((date_Civil.f k t238).bind fun bt244 => (if bt240.2 = 0 then (if bt242.2 = 0 then (if bt244.2.2.2 = 0 then (annuitylaw04_DateMonths.j0 k t238 t239 bt240.1 bt244.2.2.1 ((wrap64 ((wrap64 (bt242.1 + bt244.2.2.1)) - 1)) != t238)) else (annuitylaw04_DateMonths.j0 k t238 t239 bt240.1 bt244.2.2.1 true)) else (annuitylaw04_DateMonths.j0 k t238 t239 bt240.1 bt244.2.2.1 true)) else (annuitylaw04_DateMonths.j0 k t238 t239 bt240.1 bt244.2.2.1 true))))) = some r := H
  have A4 := Aside0.mk A40
  clear A40
  replace H := Option.bind_eq_some_iff.mp H
  obtain ⟨⟨t240, t241⟩, A50, H⟩ := H
  replace H : ((date_First.f k t240).bind fun bt242 => ((date_Civil.f k t238).bind fun bt244 => (if t241 = 0 then (if bt242.2 = 0 then (if bt244.2.2.2 = 0 then (annuitylaw04_DateMonths.j0 k t238 t239 t240 bt244.2.2.1 ((wrap64 ((wrap64 (bt242.1 + bt244.2.2.1)) - 1)) != t238)) else (annuitylaw04_DateMonths.j0 k t238 t239 t240 bt244.2.2.1 true)) else (annuitylaw04_DateMonths.j0 k t238 t239 t240 bt244.2.2.1 true)) else (annuitylaw04_DateMonths.j0 k t238 t239 t240 bt244.2.2.1 true)))) = some r := H
  have A5 := Aside0.mk A50
  clear A50
  replace H := Option.bind_eq_some_iff.mp H
  obtain ⟨⟨t242, t243⟩, A60, H⟩ := H
  replace H : ((date_Civil.f k t238).bind fun bt244 => (if t241 = 0 then (if t243 = 0 then (if bt244.2.2.2 = 0 then (annuitylaw04_DateMonths.j0 k t238 t239 t240 bt244.2.2.1 ((wrap64 ((wrap64 (t242 + bt244.2.2.1)) - 1)) != t238)) else (annuitylaw04_DateMonths.j0 k t238 t239 t240 bt244.2.2.1 true)) else (annuitylaw04_DateMonths.j0 k t238 t239 t240 bt244.2.2.1 true)) else (annuitylaw04_DateMonths.j0 k t238 t239 t240 bt244.2.2.1 true))) = some r := H
  have A6 := Aside0.mk A60
  clear A60
  replace H := Option.bind_eq_some_iff.mp H
  obtain ⟨⟨t244, t245, t246, t247⟩, A70, H⟩ := H
  replace H : (if t241 = 0 then (if t243 = 0 then (if t247 = 0 then (annuitylaw04_DateMonths.j0 k t238 t239 t240 t246 ((wrap64 ((wrap64 (t242 + t246)) - 1)) != t238)) else (annuitylaw04_DateMonths.j0 k t238 t239 t240 t246 true)) else (annuitylaw04_DateMonths.j0 k t238 t239 t240 t246 true)) else (annuitylaw04_DateMonths.j0 k t238 t239 t240 t246 true)) = some r := H
  have A7 := Aside0.mk A70
  clear A70
  have HC8 := Aside0.mk H
  clear H
  go_enter Try.func8, Try.ntmps8
  go_upto_region 5 with (first | ((with_reducible refine gate_callee (f := 23) rfl ?_); refine goesL_ (some 22) rfl rfl Try.func23 (by kernel_rfl) rfl #[.int .i64 a0, .int .i64 87659] rfl (by (try simp only [List.map_toArray, List.map_cons, List.map_nil]); first | done | rfl | (simp only [List.length_drop, List.length_take]; rfl)) ?_; (with_reducible refine (annuitykeep_Mod.calls a0 87659 t238 _ A3.out).mono ?_); rintro e w' ⟨rfl, ⟨nd, rfl⟩⟩; refine ⟨_, rfl, ?_⟩) | ((with_reducible refine gate_callee (f := 23) rfl ?_); refine goesL_ (some 24) rfl rfl Try.func23 (by kernel_rfl) rfl #[.int .i64 a1, .int .i64 2880] rfl (by (try simp only [List.map_toArray, List.map_cons, List.map_nil]); first | done | rfl | (simp only [List.length_drop, List.length_take]; rfl)) ?_; (with_reducible refine (annuitykeep_Mod.calls a1 2880 t239 _ A4.out).mono ?_); rintro e w' ⟨rfl, ⟨nd, rfl⟩⟩; refine ⟨_, rfl, ?_⟩) | ((with_reducible refine gate_callee (f := 27) rfl ?_); refine goesL_ (some 27) rfl rfl Try.func27 (by kernel_rfl) rfl #[.int .i64 t238] rfl (by (try simp only [List.map_toArray, List.map_cons, List.map_nil]); first | done | rfl | (simp only [List.length_drop, List.length_take]; rfl)) ?_; (with_reducible refine (date_Month.calls k t238 t240 t241 _ A5.out).mono ?_); rintro e w' ⟨rfl, ⟨nd, rfl⟩⟩; refine ⟨_, rfl, ?_⟩) | ((with_reducible refine gate_callee (f := 30) rfl ?_); refine goesL_ (some 32) rfl rfl Try.func30 (by kernel_rfl) rfl #[.int .i64 t240] rfl (by (try simp only [List.map_toArray, List.map_cons, List.map_nil]); first | done | rfl | (simp only [List.length_drop, List.length_take]; rfl)) ?_; (with_reducible refine (date_First.calls k t240 t242 t243 _ A6.out).mono ?_); rintro e w' ⟨rfl, ⟨nd, rfl⟩⟩; refine ⟨_, rfl, ?_⟩) | ((with_reducible refine gate_callee (f := 24) rfl ?_); refine goesL_ (some 37) rfl rfl Try.func24 (by kernel_rfl) rfl #[.int .i64 t238] rfl (by (try simp only [List.map_toArray, List.map_cons, List.map_nil]); first | done | rfl | (simp only [List.length_drop, List.length_take]; rfl)) ?_; (with_reducible refine (date_Civil.calls k t238 t244 t245 t246 t247 _ A7.out).mono ?_); rintro e w' ⟨rfl, ⟨nd, rfl⟩⟩; refine ⟨_, rfl, ?_⟩))
  (try simp only [Act.put, List.setIfInBounds_toArray, List.set_cons_zero, List.set_cons_succ])
  go_cut [59] (fun v59 wc => ∃ (kq : Nat) (x59_7 : Bool), v59 = .bool x59_7 ∧ Aside0 (annuitylaw04_DateMonths.j0 kq t238 t239 t240 t246 x59_7 = some r) ∧ Aside0 (kq ≤ k) ∧ Aside0 (Below w.heap.size w wc))
  case first =>
    have H := HC8.out
    clear HC8
    by_cases c9 : t241 = 0
    · rw [if_pos c9] at H
      have c9b0 : (t241 == 0) = true := beq_iff_eq.mpr c9
      have c9b1 : (t241 != 0) = false := bne_eq_false_iff_eq.mpr c9
      clear c9
      (first | rw [c9b0] | (simp only [i64_w, i32_w]; rw [c9b0]) | skip)
      by_cases c10 : t243 = 0
      · rw [if_pos c10] at H
        have c10b0 : (t243 == 0) = true := beq_iff_eq.mpr c10
        have c10b1 : (t243 != 0) = false := bne_eq_false_iff_eq.mpr c10
        clear c10
        by_cases c11 : t247 = 0
        · rw [if_pos c11] at H
          have c11b0 : (t247 == 0) = true := beq_iff_eq.mpr c11
          have c11b1 : (t247 != 0) = false := bne_eq_false_iff_eq.mpr c11
          clear c11
          have H' := Aside0.mk H
          clear H
          go_wp2
          go_meet
          case rel => exact ⟨_, (((wrap64 ((wrap64 (t242 + t246)) - 1)) != t238)), (by first | rfl | (simp; done) | (simp [*]; done)), H', ⟨by first | omega | exact Nat.le_refl _⟩, ⟨by repeat (first | (with_reducible first | exact HB.out | apply below_alloc | apply pw_below_drewN | apply below_drew1) | exact HB.out)⟩⟩
        · rw [if_neg c11] at H
          have c11b0 : (t247 == 0) = false := beq_eq_false_iff_ne.mpr c11
          have c11b1 : (t247 != 0) = true := bne_iff_ne.mpr c11
          have H' := Aside0.mk H
          clear H
          go_wp2
          go_meet
          case rel => exact ⟨_, (true), (by first | rfl | (simp; done) | (simp [*]; done)), H', ⟨by first | omega | exact Nat.le_refl _⟩, ⟨by repeat (first | (with_reducible first | exact HB.out | apply below_alloc | apply pw_below_drewN | apply below_drew1) | exact HB.out)⟩⟩
      · rw [if_neg c10] at H
        have c10b0 : (t243 == 0) = false := beq_eq_false_iff_ne.mpr c10
        have c10b1 : (t243 != 0) = true := bne_iff_ne.mpr c10
        have H' := Aside0.mk H
        clear H
        go_wp2
        go_meet
        case rel => exact ⟨_, (true), (by first | rfl | (simp; done) | (simp [*]; done)), H', ⟨by first | omega | exact Nat.le_refl _⟩, ⟨by repeat (first | (with_reducible first | exact HB.out | apply below_alloc | apply pw_below_drewN | apply below_drew1) | exact HB.out)⟩⟩
    · rw [if_neg c9] at H
      have c9b0 : (t241 == 0) = false := beq_eq_false_iff_ne.mpr c9
      have c9b1 : (t241 != 0) = true := bne_iff_ne.mpr c9
      (first | rw [c9b0] | (simp only [i64_w, i32_w]; rw [c9b0]) | skip)
      have H' := Aside0.mk H
      clear H
      go_wp2
      go_meet
      case rel => exact ⟨_, (true), (by first | rfl | (simp; done) | (simp [*]; done)), H', ⟨by first | omega | exact Nat.le_refl _⟩, ⟨by repeat (first | (with_reducible first | exact HB.out | apply below_alloc | apply pw_below_drewN | apply below_drew1) | exact HB.out)⟩⟩
  case rest =>
    clear HC8
    try clear c1
    try clear c2
    try clear p2
    try clear c3
    try clear p6
    try clear c8
    try clear c9
    try clear c9b0
    try clear c9b1
    try clear c10
    try clear c10b0
    try clear c10b1
    try clear c11
    try clear c11b0
    try clear c11b1
    obtain ⟨kq, x59_7, rfl, HA, HJ7, HB⟩ := hcut
    cases kq with
    | zero => exact absurd HA.out (by simp [annuitylaw04_DateMonths.j0])
    | succ kj7 =>
      have H := HA.out
      clear HA
      simp only [annuitylaw04_DateMonths.j0] at H
      by_cases c12 : x59_7 = true
      · subst c12
        have H1 : (some false) = some r := by rw [if_pos rfl] at H; exact H
        clear H
        have H := H1
        clear H1
        obtain rfl := Option.some.inj H
        go_wp2
        go_ret
        exact ⟨by first | rfl | (simp [errW_none, errW_some] <;> rfl) | (simp [*, errW_none, errW_some] <;> rfl), by repeat (first | (with_reducible first | exact HB.out | apply below_alloc | apply pw_below_drewN | apply below_drew1) | exact HB.out)⟩
      · replace c12 := Bool.eq_false_iff.mpr c12
        subst c12
        have H1 : ((date_Add.f kj7 t238 t239).bind fun bt248 => (if bt248.2 = 0 then ((date_Month.f kj7 bt248.1).bind fun bt251 => ((date_Add.f kj7 bt248.1 (wrap64 (-t239))).bind fun bt253 => (if bt251.2 = 0 then (if bt253.2 = 0 then (if bt251.1 = (wrap64 (t240 + t239)) then (if (wrap64 (t240 + t239)) > 2879 then (some false) else (if bt253.1 = t238 then ((annuitylaw04_wakes.f kj7).bind fun t255 => (some t255)) else (if t246 > 28 then (if bt253.1 < t238 then (if (wrap64 (t238 - bt253.1)) ≤ 3 then ((annuitylaw04_wakes.f kj7).bind fun t256 => (some t256)) else (some false)) else (some false)) else (some false)))) else (some false)) else (some false)) else (some false)))) else (if (wrap64 (t240 + t239)) > 2879 then (if bt248.1 = 0 then ((annuitylaw04_wakes.f kj7).bind fun t250 => (some t250)) else (some false)) else (some false)))) = some r := by rw [if_neg (show ¬ (false = true) by decide)] at H; exact H
        clear H
        have H := H1
        clear H1
        replace H := Option.bind_eq_some_iff.mp H
        obtain ⟨⟨t248, t249⟩, A130, H⟩ := H
        replace H : (if t249 = 0 then ((date_Month.f kj7 t248).bind fun bt251 => ((date_Add.f kj7 t248 (wrap64 (-t239))).bind fun bt253 => (if bt251.2 = 0 then (if bt253.2 = 0 then (if bt251.1 = (wrap64 (t240 + t239)) then (if (wrap64 (t240 + t239)) > 2879 then (some false) else (if bt253.1 = t238 then ((annuitylaw04_wakes.f kj7).bind fun t255 => (some t255)) else (if t246 > 28 then (if bt253.1 < t238 then (if (wrap64 (t238 - bt253.1)) ≤ 3 then ((annuitylaw04_wakes.f kj7).bind fun t256 => (some t256)) else (some false)) else (some false)) else (some false)))) else (some false)) else (some false)) else (some false)))) else (if (wrap64 (t240 + t239)) > 2879 then (if t248 = 0 then ((annuitylaw04_wakes.f kj7).bind fun t250 => (some t250)) else (some false)) else (some false))) = some r := H
        have A13 := Aside0.mk A130
        clear A130
        by_cases c14 : t249 = 0
        · rw [if_pos c14] at H
          have c14b0 : (t249 == 0) = true := beq_iff_eq.mpr c14
          have c14b1 : (t249 != 0) = false := bne_eq_false_iff_eq.mpr c14
          clear c14
          replace H := Option.bind_eq_some_iff.mp H
          obtain ⟨⟨t251, t252⟩, A150, H⟩ := H
          replace H : ((date_Add.f kj7 t248 (wrap64 (-t239))).bind fun bt253 => (if t252 = 0 then (if bt253.2 = 0 then (if t251 = (wrap64 (t240 + t239)) then (if (wrap64 (t240 + t239)) > 2879 then (some false) else (if bt253.1 = t238 then ((annuitylaw04_wakes.f kj7).bind fun t255 => (some t255)) else (if t246 > 28 then (if bt253.1 < t238 then (if (wrap64 (t238 - bt253.1)) ≤ 3 then ((annuitylaw04_wakes.f kj7).bind fun t256 => (some t256)) else (some false)) else (some false)) else (some false)))) else (some false)) else (some false)) else (some false))) = some r := H
          have A15 := Aside0.mk A150
          clear A150
          replace H := Option.bind_eq_some_iff.mp H
          obtain ⟨⟨t253, t254⟩, A160, H⟩ := H
          replace H : (if t252 = 0 then (if t254 = 0 then (if t251 = (wrap64 (t240 + t239)) then (if (wrap64 (t240 + t239)) > 2879 then (some false) else (if t253 = t238 then ((annuitylaw04_wakes.f kj7).bind fun t255 => (some t255)) else (if t246 > 28 then (if t253 < t238 then (if (wrap64 (t238 - t253)) ≤ 3 then ((annuitylaw04_wakes.f kj7).bind fun t256 => (some t256)) else (some false)) else (some false)) else (some false)))) else (some false)) else (some false)) else (some false)) = some r := H
          have A16 := Aside0.mk A160
          clear A160
          by_cases c17 : t252 = 0
          · rw [if_pos c17] at H
            have c17b0 : (t252 == 0) = true := beq_iff_eq.mpr c17
            have c17b1 : (t252 != 0) = false := bne_eq_false_iff_eq.mpr c17
            clear c17
            by_cases c18 : t254 = 0
            · rw [if_pos c18] at H
              have c18b0 : (t254 == 0) = true := beq_iff_eq.mpr c18
              have c18b1 : (t254 != 0) = false := bne_eq_false_iff_eq.mpr c18
              clear c18
              by_cases c19 : t251 = (wrap64 (t240 + t239))
              · rw [if_pos c19] at H
                have c19b0 : (t251 == (wrap64 (t240 + t239))) = true := beq_iff_eq.mpr c19
                have c19b1 : (t251 != (wrap64 (t240 + t239))) = false := bne_eq_false_iff_eq.mpr c19
                clear c19
                by_cases c20 : (wrap64 (t240 + t239)) > 2879
                · rw [if_pos c20] at H
                  have c20b0 : decide (2879 < (wrap64 (t240 + t239))) = true := decide_eq_true c20
                  clear c20
                  obtain rfl := Option.some.inj H
                  go_wp2_with (first | ((with_reducible refine gate_callee (f := 21) rfl ?_); refine goesL_ (some 63) rfl rfl Try.func21 (by kernel_rfl) rfl #[.int .i64 t238, .int .i64 t239] rfl (by (try simp only [List.map_toArray, List.map_cons, List.map_nil]); first | done | rfl | (simp only [List.length_drop, List.length_take]; rfl)) ?_; (with_reducible refine (date_Add.calls kj7 t238 t239 t248 t249 _ A13.out).mono ?_); rintro e w21 ⟨rfl, hb⟩; refine ⟨_, rfl, ?_⟩; have n0_ := Aside0.mk (below_step (by repeat (first | (with_reducible first | exact HB.out | apply below_alloc | apply pw_below_drewN | apply below_drew1) | exact HB.out)) hb); clear HB; have HB := n0_; clear n0_; (try clear hb); (try clear hb2); (try clear hk); (try clear hi)) | ((with_reducible refine gate_callee (f := 27) rfl ?_); refine goesL_ (some 81) rfl rfl Try.func27 (by kernel_rfl) rfl #[.int .i64 t248] rfl (by (try simp only [List.map_toArray, List.map_cons, List.map_nil]); first | done | rfl | (simp only [List.length_drop, List.length_take]; rfl)) ?_; (with_reducible refine (date_Month.calls kj7 t248 t251 t252 _ A15.out).mono ?_); rintro e w' ⟨rfl, ⟨nd, rfl⟩⟩; refine ⟨_, rfl, ?_⟩) | ((with_reducible refine gate_callee (f := 21) rfl ?_); refine goesL_ (some 88) rfl rfl Try.func21 (by kernel_rfl) rfl #[.int .i64 t248, .int .i64 (wrap64 (-t239))] rfl (by (try simp only [List.map_toArray, List.map_cons, List.map_nil]); first | done | rfl | (simp only [List.length_drop, List.length_take]; rfl)) ?_; (with_reducible refine (date_Add.calls kj7 t248 (wrap64 (-t239)) t253 t254 _ A16.out).mono ?_); rintro e w22 ⟨rfl, hb⟩; refine ⟨_, rfl, ?_⟩; have n0_ := Aside0.mk (below_step (by repeat (first | (with_reducible first | exact HB.out | apply below_alloc | apply pw_below_drewN | apply below_drew1) | exact HB.out)) hb); clear HB; have HB := n0_; clear n0_; (try clear hb); (try clear hb2); (try clear hk); (try clear hi)))
                  go_ret
                  exact ⟨by first | rfl | (simp [errW_none, errW_some] <;> rfl) | (simp [*, errW_none, errW_some] <;> rfl), by repeat (first | (with_reducible first | exact HB.out | apply below_alloc | apply pw_below_drewN | apply below_drew1) | exact HB.out)⟩
                · rw [if_neg c20] at H
                  have c20b0 : decide (2879 < (wrap64 (t240 + t239))) = false := decide_eq_false c20
                  clear c20
                  by_cases c23 : t253 = t238
                  · rw [if_pos c23] at H
                    have c23b0 : (t253 == t238) = true := beq_iff_eq.mpr c23
                    have c23b1 : (t253 != t238) = false := bne_eq_false_iff_eq.mpr c23
                    clear c23
                    replace H := Option.bind_eq_some_iff.mp H
                    obtain ⟨t255, A240, H⟩ := H
                    replace H : (some t255) = some r := H
                    have A24 := Aside0.mk A240
                    clear A240
                    obtain rfl := Option.some.inj H
                    go_wp2_with (first | ((with_reducible refine gate_callee (f := 21) rfl ?_); refine goesL_ (some 63) rfl rfl Try.func21 (by kernel_rfl) rfl #[.int .i64 t238, .int .i64 t239] rfl (by (try simp only [List.map_toArray, List.map_cons, List.map_nil]); first | done | rfl | (simp only [List.length_drop, List.length_take]; rfl)) ?_; (with_reducible refine (date_Add.calls kj7 t238 t239 t248 t249 _ A13.out).mono ?_); rintro e w25 ⟨rfl, hb⟩; refine ⟨_, rfl, ?_⟩; have n0_ := Aside0.mk (below_step (by repeat (first | (with_reducible first | exact HB.out | apply below_alloc | apply pw_below_drewN | apply below_drew1) | exact HB.out)) hb); clear HB; have HB := n0_; clear n0_; (try clear hb); (try clear hb2); (try clear hk); (try clear hi)) | ((with_reducible refine gate_callee (f := 27) rfl ?_); refine goesL_ (some 81) rfl rfl Try.func27 (by kernel_rfl) rfl #[.int .i64 t248] rfl (by (try simp only [List.map_toArray, List.map_cons, List.map_nil]); first | done | rfl | (simp only [List.length_drop, List.length_take]; rfl)) ?_; (with_reducible refine (date_Month.calls kj7 t248 t251 t252 _ A15.out).mono ?_); rintro e w' ⟨rfl, ⟨nd, rfl⟩⟩; refine ⟨_, rfl, ?_⟩) | ((with_reducible refine gate_callee (f := 21) rfl ?_); refine goesL_ (some 88) rfl rfl Try.func21 (by kernel_rfl) rfl #[.int .i64 t248, .int .i64 (wrap64 (-t239))] rfl (by (try simp only [List.map_toArray, List.map_cons, List.map_nil]); first | done | rfl | (simp only [List.length_drop, List.length_take]; rfl)) ?_; (with_reducible refine (date_Add.calls kj7 t248 (wrap64 (-t239)) t253 t254 _ A16.out).mono ?_); rintro e w26 ⟨rfl, hb⟩; refine ⟨_, rfl, ?_⟩; have n0_ := Aside0.mk (below_step (by repeat (first | (with_reducible first | exact HB.out | apply below_alloc | apply pw_below_drewN | apply below_drew1) | exact HB.out)) hb); clear HB; have HB := n0_; clear n0_; (try clear hb); (try clear hb2); (try clear hk); (try clear hi)) | (go_at_call 20; (with_reducible refine (annuitylaw04_wakes.calls kj7  t255 _ A24.out).mono ?_); rintro e w27 ⟨rfl, hb⟩; have n0_ := Aside0.mk (below_step (by repeat (first | (with_reducible first | exact HB.out | apply below_alloc | apply pw_below_drewN | apply below_drew1) | exact HB.out)) hb); clear HB; have HB := n0_; clear n0_; (try clear hb); (try clear hb2); (try clear hk); (try clear hi)))
                    go_ret
                    exact ⟨by first | rfl | (simp [errW_none, errW_some] <;> rfl) | (simp [*, errW_none, errW_some] <;> rfl), by repeat (first | (with_reducible first | exact HB.out | apply below_alloc | apply pw_below_drewN | apply below_drew1) | exact HB.out)⟩
                  · rw [if_neg c23] at H
                    have c23b0 : (t253 == t238) = false := beq_eq_false_iff_ne.mpr c23
                    have c23b1 : (t253 != t238) = true := bne_iff_ne.mpr c23
                    by_cases c28 : t246 > 28
                    · rw [if_pos c28] at H
                      have c28b0 : decide (28 < t246) = true := decide_eq_true c28
                      clear c28
                      by_cases c29 : t253 < t238
                      · rw [if_pos c29] at H
                        have c29b0 : decide (t253 < t238) = true := decide_eq_true c29
                        clear c29
                        by_cases c30 : (wrap64 (t238 - t253)) ≤ 3
                        · rw [if_pos c30] at H
                          have c30b0 : decide ((wrap64 (t238 - t253)) ≤ 3) = true := decide_eq_true c30
                          clear c30
                          replace H := Option.bind_eq_some_iff.mp H
                          obtain ⟨t256, A310, H⟩ := H
                          replace H : (some t256) = some r := H
                          have A31 := Aside0.mk A310
                          clear A310
                          obtain rfl := Option.some.inj H
                          go_wp2_with (first | ((with_reducible refine gate_callee (f := 21) rfl ?_); refine goesL_ (some 63) rfl rfl Try.func21 (by kernel_rfl) rfl #[.int .i64 t238, .int .i64 t239] rfl (by (try simp only [List.map_toArray, List.map_cons, List.map_nil]); first | done | rfl | (simp only [List.length_drop, List.length_take]; rfl)) ?_; (with_reducible refine (date_Add.calls kj7 t238 t239 t248 t249 _ A13.out).mono ?_); rintro e w32 ⟨rfl, hb⟩; refine ⟨_, rfl, ?_⟩; have n0_ := Aside0.mk (below_step (by repeat (first | (with_reducible first | exact HB.out | apply below_alloc | apply pw_below_drewN | apply below_drew1) | exact HB.out)) hb); clear HB; have HB := n0_; clear n0_; (try clear hb); (try clear hb2); (try clear hk); (try clear hi)) | ((with_reducible refine gate_callee (f := 27) rfl ?_); refine goesL_ (some 81) rfl rfl Try.func27 (by kernel_rfl) rfl #[.int .i64 t248] rfl (by (try simp only [List.map_toArray, List.map_cons, List.map_nil]); first | done | rfl | (simp only [List.length_drop, List.length_take]; rfl)) ?_; (with_reducible refine (date_Month.calls kj7 t248 t251 t252 _ A15.out).mono ?_); rintro e w' ⟨rfl, ⟨nd, rfl⟩⟩; refine ⟨_, rfl, ?_⟩) | ((with_reducible refine gate_callee (f := 21) rfl ?_); refine goesL_ (some 88) rfl rfl Try.func21 (by kernel_rfl) rfl #[.int .i64 t248, .int .i64 (wrap64 (-t239))] rfl (by (try simp only [List.map_toArray, List.map_cons, List.map_nil]); first | done | rfl | (simp only [List.length_drop, List.length_take]; rfl)) ?_; (with_reducible refine (date_Add.calls kj7 t248 (wrap64 (-t239)) t253 t254 _ A16.out).mono ?_); rintro e w33 ⟨rfl, hb⟩; refine ⟨_, rfl, ?_⟩; have n0_ := Aside0.mk (below_step (by repeat (first | (with_reducible first | exact HB.out | apply below_alloc | apply pw_below_drewN | apply below_drew1) | exact HB.out)) hb); clear HB; have HB := n0_; clear n0_; (try clear hb); (try clear hb2); (try clear hk); (try clear hi)) | (go_at_call 20; (with_reducible refine (annuitylaw04_wakes.calls kj7  t256 _ A31.out).mono ?_); rintro e w34 ⟨rfl, hb⟩; have n0_ := Aside0.mk (below_step (by repeat (first | (with_reducible first | exact HB.out | apply below_alloc | apply pw_below_drewN | apply below_drew1) | exact HB.out)) hb); clear HB; have HB := n0_; clear n0_; (try clear hb); (try clear hb2); (try clear hk); (try clear hi)))
                          go_ret
                          exact ⟨by first | rfl | (simp [errW_none, errW_some] <;> rfl) | (simp [*, errW_none, errW_some] <;> rfl), by repeat (first | (with_reducible first | exact HB.out | apply below_alloc | apply pw_below_drewN | apply below_drew1) | exact HB.out)⟩
                        · rw [if_neg c30] at H
                          have c30b0 : decide ((wrap64 (t238 - t253)) ≤ 3) = false := decide_eq_false c30
                          clear c30
                          obtain rfl := Option.some.inj H
                          go_wp2_with (first | ((with_reducible refine gate_callee (f := 21) rfl ?_); refine goesL_ (some 63) rfl rfl Try.func21 (by kernel_rfl) rfl #[.int .i64 t238, .int .i64 t239] rfl (by (try simp only [List.map_toArray, List.map_cons, List.map_nil]); first | done | rfl | (simp only [List.length_drop, List.length_take]; rfl)) ?_; (with_reducible refine (date_Add.calls kj7 t238 t239 t248 t249 _ A13.out).mono ?_); rintro e w35 ⟨rfl, hb⟩; refine ⟨_, rfl, ?_⟩; have n0_ := Aside0.mk (below_step (by repeat (first | (with_reducible first | exact HB.out | apply below_alloc | apply pw_below_drewN | apply below_drew1) | exact HB.out)) hb); clear HB; have HB := n0_; clear n0_; (try clear hb); (try clear hb2); (try clear hk); (try clear hi)) | ((with_reducible refine gate_callee (f := 27) rfl ?_); refine goesL_ (some 81) rfl rfl Try.func27 (by kernel_rfl) rfl #[.int .i64 t248] rfl (by (try simp only [List.map_toArray, List.map_cons, List.map_nil]); first | done | rfl | (simp only [List.length_drop, List.length_take]; rfl)) ?_; (with_reducible refine (date_Month.calls kj7 t248 t251 t252 _ A15.out).mono ?_); rintro e w' ⟨rfl, ⟨nd, rfl⟩⟩; refine ⟨_, rfl, ?_⟩) | ((with_reducible refine gate_callee (f := 21) rfl ?_); refine goesL_ (some 88) rfl rfl Try.func21 (by kernel_rfl) rfl #[.int .i64 t248, .int .i64 (wrap64 (-t239))] rfl (by (try simp only [List.map_toArray, List.map_cons, List.map_nil]); first | done | rfl | (simp only [List.length_drop, List.length_take]; rfl)) ?_; (with_reducible refine (date_Add.calls kj7 t248 (wrap64 (-t239)) t253 t254 _ A16.out).mono ?_); rintro e w36 ⟨rfl, hb⟩; refine ⟨_, rfl, ?_⟩; have n0_ := Aside0.mk (below_step (by repeat (first | (with_reducible first | exact HB.out | apply below_alloc | apply pw_below_drewN | apply below_drew1) | exact HB.out)) hb); clear HB; have HB := n0_; clear n0_; (try clear hb); (try clear hb2); (try clear hk); (try clear hi)))
                          go_ret
                          exact ⟨by first | rfl | (simp [errW_none, errW_some] <;> rfl) | (simp [*, errW_none, errW_some] <;> rfl), by repeat (first | (with_reducible first | exact HB.out | apply below_alloc | apply pw_below_drewN | apply below_drew1) | exact HB.out)⟩
                      · rw [if_neg c29] at H
                        have c29b0 : decide (t253 < t238) = false := decide_eq_false c29
                        clear c29
                        obtain rfl := Option.some.inj H
                        go_wp2_with (first | ((with_reducible refine gate_callee (f := 21) rfl ?_); refine goesL_ (some 63) rfl rfl Try.func21 (by kernel_rfl) rfl #[.int .i64 t238, .int .i64 t239] rfl (by (try simp only [List.map_toArray, List.map_cons, List.map_nil]); first | done | rfl | (simp only [List.length_drop, List.length_take]; rfl)) ?_; (with_reducible refine (date_Add.calls kj7 t238 t239 t248 t249 _ A13.out).mono ?_); rintro e w37 ⟨rfl, hb⟩; refine ⟨_, rfl, ?_⟩; have n0_ := Aside0.mk (below_step (by repeat (first | (with_reducible first | exact HB.out | apply below_alloc | apply pw_below_drewN | apply below_drew1) | exact HB.out)) hb); clear HB; have HB := n0_; clear n0_; (try clear hb); (try clear hb2); (try clear hk); (try clear hi)) | ((with_reducible refine gate_callee (f := 27) rfl ?_); refine goesL_ (some 81) rfl rfl Try.func27 (by kernel_rfl) rfl #[.int .i64 t248] rfl (by (try simp only [List.map_toArray, List.map_cons, List.map_nil]); first | done | rfl | (simp only [List.length_drop, List.length_take]; rfl)) ?_; (with_reducible refine (date_Month.calls kj7 t248 t251 t252 _ A15.out).mono ?_); rintro e w' ⟨rfl, ⟨nd, rfl⟩⟩; refine ⟨_, rfl, ?_⟩) | ((with_reducible refine gate_callee (f := 21) rfl ?_); refine goesL_ (some 88) rfl rfl Try.func21 (by kernel_rfl) rfl #[.int .i64 t248, .int .i64 (wrap64 (-t239))] rfl (by (try simp only [List.map_toArray, List.map_cons, List.map_nil]); first | done | rfl | (simp only [List.length_drop, List.length_take]; rfl)) ?_; (with_reducible refine (date_Add.calls kj7 t248 (wrap64 (-t239)) t253 t254 _ A16.out).mono ?_); rintro e w38 ⟨rfl, hb⟩; refine ⟨_, rfl, ?_⟩; have n0_ := Aside0.mk (below_step (by repeat (first | (with_reducible first | exact HB.out | apply below_alloc | apply pw_below_drewN | apply below_drew1) | exact HB.out)) hb); clear HB; have HB := n0_; clear n0_; (try clear hb); (try clear hb2); (try clear hk); (try clear hi)))
                        go_ret
                        exact ⟨by first | rfl | (simp [errW_none, errW_some] <;> rfl) | (simp [*, errW_none, errW_some] <;> rfl), by repeat (first | (with_reducible first | exact HB.out | apply below_alloc | apply pw_below_drewN | apply below_drew1) | exact HB.out)⟩
                    · rw [if_neg c28] at H
                      have c28b0 : decide (28 < t246) = false := decide_eq_false c28
                      clear c28
                      obtain rfl := Option.some.inj H
                      go_wp2_with (first | ((with_reducible refine gate_callee (f := 21) rfl ?_); refine goesL_ (some 63) rfl rfl Try.func21 (by kernel_rfl) rfl #[.int .i64 t238, .int .i64 t239] rfl (by (try simp only [List.map_toArray, List.map_cons, List.map_nil]); first | done | rfl | (simp only [List.length_drop, List.length_take]; rfl)) ?_; (with_reducible refine (date_Add.calls kj7 t238 t239 t248 t249 _ A13.out).mono ?_); rintro e w39 ⟨rfl, hb⟩; refine ⟨_, rfl, ?_⟩; have n0_ := Aside0.mk (below_step (by repeat (first | (with_reducible first | exact HB.out | apply below_alloc | apply pw_below_drewN | apply below_drew1) | exact HB.out)) hb); clear HB; have HB := n0_; clear n0_; (try clear hb); (try clear hb2); (try clear hk); (try clear hi)) | ((with_reducible refine gate_callee (f := 27) rfl ?_); refine goesL_ (some 81) rfl rfl Try.func27 (by kernel_rfl) rfl #[.int .i64 t248] rfl (by (try simp only [List.map_toArray, List.map_cons, List.map_nil]); first | done | rfl | (simp only [List.length_drop, List.length_take]; rfl)) ?_; (with_reducible refine (date_Month.calls kj7 t248 t251 t252 _ A15.out).mono ?_); rintro e w' ⟨rfl, ⟨nd, rfl⟩⟩; refine ⟨_, rfl, ?_⟩) | ((with_reducible refine gate_callee (f := 21) rfl ?_); refine goesL_ (some 88) rfl rfl Try.func21 (by kernel_rfl) rfl #[.int .i64 t248, .int .i64 (wrap64 (-t239))] rfl (by (try simp only [List.map_toArray, List.map_cons, List.map_nil]); first | done | rfl | (simp only [List.length_drop, List.length_take]; rfl)) ?_; (with_reducible refine (date_Add.calls kj7 t248 (wrap64 (-t239)) t253 t254 _ A16.out).mono ?_); rintro e w40 ⟨rfl, hb⟩; refine ⟨_, rfl, ?_⟩; have n0_ := Aside0.mk (below_step (by repeat (first | (with_reducible first | exact HB.out | apply below_alloc | apply pw_below_drewN | apply below_drew1) | exact HB.out)) hb); clear HB; have HB := n0_; clear n0_; (try clear hb); (try clear hb2); (try clear hk); (try clear hi)))
                      go_ret
                      exact ⟨by first | rfl | (simp [errW_none, errW_some] <;> rfl) | (simp [*, errW_none, errW_some] <;> rfl), by repeat (first | (with_reducible first | exact HB.out | apply below_alloc | apply pw_below_drewN | apply below_drew1) | exact HB.out)⟩
              · rw [if_neg c19] at H
                have c19b0 : (t251 == (wrap64 (t240 + t239))) = false := beq_eq_false_iff_ne.mpr c19
                have c19b1 : (t251 != (wrap64 (t240 + t239))) = true := bne_iff_ne.mpr c19
                obtain rfl := Option.some.inj H
                go_wp2_with (first | ((with_reducible refine gate_callee (f := 21) rfl ?_); refine goesL_ (some 63) rfl rfl Try.func21 (by kernel_rfl) rfl #[.int .i64 t238, .int .i64 t239] rfl (by (try simp only [List.map_toArray, List.map_cons, List.map_nil]); first | done | rfl | (simp only [List.length_drop, List.length_take]; rfl)) ?_; (with_reducible refine (date_Add.calls kj7 t238 t239 t248 t249 _ A13.out).mono ?_); rintro e w41 ⟨rfl, hb⟩; refine ⟨_, rfl, ?_⟩; have n0_ := Aside0.mk (below_step (by repeat (first | (with_reducible first | exact HB.out | apply below_alloc | apply pw_below_drewN | apply below_drew1) | exact HB.out)) hb); clear HB; have HB := n0_; clear n0_; (try clear hb); (try clear hb2); (try clear hk); (try clear hi)) | ((with_reducible refine gate_callee (f := 27) rfl ?_); refine goesL_ (some 81) rfl rfl Try.func27 (by kernel_rfl) rfl #[.int .i64 t248] rfl (by (try simp only [List.map_toArray, List.map_cons, List.map_nil]); first | done | rfl | (simp only [List.length_drop, List.length_take]; rfl)) ?_; (with_reducible refine (date_Month.calls kj7 t248 t251 t252 _ A15.out).mono ?_); rintro e w' ⟨rfl, ⟨nd, rfl⟩⟩; refine ⟨_, rfl, ?_⟩) | ((with_reducible refine gate_callee (f := 21) rfl ?_); refine goesL_ (some 88) rfl rfl Try.func21 (by kernel_rfl) rfl #[.int .i64 t248, .int .i64 (wrap64 (-t239))] rfl (by (try simp only [List.map_toArray, List.map_cons, List.map_nil]); first | done | rfl | (simp only [List.length_drop, List.length_take]; rfl)) ?_; (with_reducible refine (date_Add.calls kj7 t248 (wrap64 (-t239)) t253 t254 _ A16.out).mono ?_); rintro e w42 ⟨rfl, hb⟩; refine ⟨_, rfl, ?_⟩; have n0_ := Aside0.mk (below_step (by repeat (first | (with_reducible first | exact HB.out | apply below_alloc | apply pw_below_drewN | apply below_drew1) | exact HB.out)) hb); clear HB; have HB := n0_; clear n0_; (try clear hb); (try clear hb2); (try clear hk); (try clear hi)))
                go_ret
                exact ⟨by first | rfl | (simp [errW_none, errW_some] <;> rfl) | (simp [*, errW_none, errW_some] <;> rfl), by repeat (first | (with_reducible first | exact HB.out | apply below_alloc | apply pw_below_drewN | apply below_drew1) | exact HB.out)⟩
            · rw [if_neg c18] at H
              have c18b0 : (t254 == 0) = false := beq_eq_false_iff_ne.mpr c18
              have c18b1 : (t254 != 0) = true := bne_iff_ne.mpr c18
              obtain rfl := Option.some.inj H
              go_wp2_with (first | ((with_reducible refine gate_callee (f := 21) rfl ?_); refine goesL_ (some 63) rfl rfl Try.func21 (by kernel_rfl) rfl #[.int .i64 t238, .int .i64 t239] rfl (by (try simp only [List.map_toArray, List.map_cons, List.map_nil]); first | done | rfl | (simp only [List.length_drop, List.length_take]; rfl)) ?_; (with_reducible refine (date_Add.calls kj7 t238 t239 t248 t249 _ A13.out).mono ?_); rintro e w43 ⟨rfl, hb⟩; refine ⟨_, rfl, ?_⟩; have n0_ := Aside0.mk (below_step (by repeat (first | (with_reducible first | exact HB.out | apply below_alloc | apply pw_below_drewN | apply below_drew1) | exact HB.out)) hb); clear HB; have HB := n0_; clear n0_; (try clear hb); (try clear hb2); (try clear hk); (try clear hi)) | ((with_reducible refine gate_callee (f := 27) rfl ?_); refine goesL_ (some 81) rfl rfl Try.func27 (by kernel_rfl) rfl #[.int .i64 t248] rfl (by (try simp only [List.map_toArray, List.map_cons, List.map_nil]); first | done | rfl | (simp only [List.length_drop, List.length_take]; rfl)) ?_; (with_reducible refine (date_Month.calls kj7 t248 t251 t252 _ A15.out).mono ?_); rintro e w' ⟨rfl, ⟨nd, rfl⟩⟩; refine ⟨_, rfl, ?_⟩) | ((with_reducible refine gate_callee (f := 21) rfl ?_); refine goesL_ (some 88) rfl rfl Try.func21 (by kernel_rfl) rfl #[.int .i64 t248, .int .i64 (wrap64 (-t239))] rfl (by (try simp only [List.map_toArray, List.map_cons, List.map_nil]); first | done | rfl | (simp only [List.length_drop, List.length_take]; rfl)) ?_; (with_reducible refine (date_Add.calls kj7 t248 (wrap64 (-t239)) t253 t254 _ A16.out).mono ?_); rintro e w44 ⟨rfl, hb⟩; refine ⟨_, rfl, ?_⟩; have n0_ := Aside0.mk (below_step (by repeat (first | (with_reducible first | exact HB.out | apply below_alloc | apply pw_below_drewN | apply below_drew1) | exact HB.out)) hb); clear HB; have HB := n0_; clear n0_; (try clear hb); (try clear hb2); (try clear hk); (try clear hi)))
              go_ret
              exact ⟨by first | rfl | (simp [errW_none, errW_some] <;> rfl) | (simp [*, errW_none, errW_some] <;> rfl), by repeat (first | (with_reducible first | exact HB.out | apply below_alloc | apply pw_below_drewN | apply below_drew1) | exact HB.out)⟩
          · rw [if_neg c17] at H
            have c17b0 : (t252 == 0) = false := beq_eq_false_iff_ne.mpr c17
            have c17b1 : (t252 != 0) = true := bne_iff_ne.mpr c17
            obtain rfl := Option.some.inj H
            go_wp2_with (first | ((with_reducible refine gate_callee (f := 21) rfl ?_); refine goesL_ (some 63) rfl rfl Try.func21 (by kernel_rfl) rfl #[.int .i64 t238, .int .i64 t239] rfl (by (try simp only [List.map_toArray, List.map_cons, List.map_nil]); first | done | rfl | (simp only [List.length_drop, List.length_take]; rfl)) ?_; (with_reducible refine (date_Add.calls kj7 t238 t239 t248 t249 _ A13.out).mono ?_); rintro e w45 ⟨rfl, hb⟩; refine ⟨_, rfl, ?_⟩; have n0_ := Aside0.mk (below_step (by repeat (first | (with_reducible first | exact HB.out | apply below_alloc | apply pw_below_drewN | apply below_drew1) | exact HB.out)) hb); clear HB; have HB := n0_; clear n0_; (try clear hb); (try clear hb2); (try clear hk); (try clear hi)) | ((with_reducible refine gate_callee (f := 27) rfl ?_); refine goesL_ (some 81) rfl rfl Try.func27 (by kernel_rfl) rfl #[.int .i64 t248] rfl (by (try simp only [List.map_toArray, List.map_cons, List.map_nil]); first | done | rfl | (simp only [List.length_drop, List.length_take]; rfl)) ?_; (with_reducible refine (date_Month.calls kj7 t248 t251 t252 _ A15.out).mono ?_); rintro e w' ⟨rfl, ⟨nd, rfl⟩⟩; refine ⟨_, rfl, ?_⟩) | ((with_reducible refine gate_callee (f := 21) rfl ?_); refine goesL_ (some 88) rfl rfl Try.func21 (by kernel_rfl) rfl #[.int .i64 t248, .int .i64 (wrap64 (-t239))] rfl (by (try simp only [List.map_toArray, List.map_cons, List.map_nil]); first | done | rfl | (simp only [List.length_drop, List.length_take]; rfl)) ?_; (with_reducible refine (date_Add.calls kj7 t248 (wrap64 (-t239)) t253 t254 _ A16.out).mono ?_); rintro e w46 ⟨rfl, hb⟩; refine ⟨_, rfl, ?_⟩; have n0_ := Aside0.mk (below_step (by repeat (first | (with_reducible first | exact HB.out | apply below_alloc | apply pw_below_drewN | apply below_drew1) | exact HB.out)) hb); clear HB; have HB := n0_; clear n0_; (try clear hb); (try clear hb2); (try clear hk); (try clear hi)))
            go_ret
            exact ⟨by first | rfl | (simp [errW_none, errW_some] <;> rfl) | (simp [*, errW_none, errW_some] <;> rfl), by repeat (first | (with_reducible first | exact HB.out | apply below_alloc | apply pw_below_drewN | apply below_drew1) | exact HB.out)⟩
        · rw [if_neg c14] at H
          have c14b0 : (t249 == 0) = false := beq_eq_false_iff_ne.mpr c14
          have c14b1 : (t249 != 0) = true := bne_iff_ne.mpr c14
          by_cases c47 : (wrap64 (t240 + t239)) > 2879
          · rw [if_pos c47] at H
            have c47b0 : decide (2879 < (wrap64 (t240 + t239))) = true := decide_eq_true c47
            clear c47
            by_cases c48 : t248 = 0
            · rw [if_pos c48] at H
              have c48b0 : (t248 == 0) = true := beq_iff_eq.mpr c48
              have c48b1 : (t248 != 0) = false := bne_eq_false_iff_eq.mpr c48
              clear c48
              replace H := Option.bind_eq_some_iff.mp H
              obtain ⟨t250, A490, H⟩ := H
              replace H : (some t250) = some r := H
              have A49 := Aside0.mk A490
              clear A490
              obtain rfl := Option.some.inj H
              go_wp2_with (first | ((with_reducible refine gate_callee (f := 21) rfl ?_); refine goesL_ (some 63) rfl rfl Try.func21 (by kernel_rfl) rfl #[.int .i64 t238, .int .i64 t239] rfl (by (try simp only [List.map_toArray, List.map_cons, List.map_nil]); first | done | rfl | (simp only [List.length_drop, List.length_take]; rfl)) ?_; (with_reducible refine (date_Add.calls kj7 t238 t239 t248 t249 _ A13.out).mono ?_); rintro e w50 ⟨rfl, hb⟩; refine ⟨_, rfl, ?_⟩; have n0_ := Aside0.mk (below_step (by repeat (first | (with_reducible first | exact HB.out | apply below_alloc | apply pw_below_drewN | apply below_drew1) | exact HB.out)) hb); clear HB; have HB := n0_; clear n0_; (try clear hb); (try clear hb2); (try clear hk); (try clear hi)) | (go_at_call 20; (with_reducible refine (annuitylaw04_wakes.calls kj7  t250 _ A49.out).mono ?_); rintro e w51 ⟨rfl, hb⟩; have n0_ := Aside0.mk (below_step (by repeat (first | (with_reducible first | exact HB.out | apply below_alloc | apply pw_below_drewN | apply below_drew1) | exact HB.out)) hb); clear HB; have HB := n0_; clear n0_; (try clear hb); (try clear hb2); (try clear hk); (try clear hi)))
              go_ret
              exact ⟨by first | rfl | (simp [errW_none, errW_some] <;> rfl) | (simp [*, errW_none, errW_some] <;> rfl), by repeat (first | (with_reducible first | exact HB.out | apply below_alloc | apply pw_below_drewN | apply below_drew1) | exact HB.out)⟩
            · rw [if_neg c48] at H
              have c48b0 : (t248 == 0) = false := beq_eq_false_iff_ne.mpr c48
              have c48b1 : (t248 != 0) = true := bne_iff_ne.mpr c48
              obtain rfl := Option.some.inj H
              go_wp2_with (first | ((with_reducible refine gate_callee (f := 21) rfl ?_); refine goesL_ (some 63) rfl rfl Try.func21 (by kernel_rfl) rfl #[.int .i64 t238, .int .i64 t239] rfl (by (try simp only [List.map_toArray, List.map_cons, List.map_nil]); first | done | rfl | (simp only [List.length_drop, List.length_take]; rfl)) ?_; (with_reducible refine (date_Add.calls kj7 t238 t239 t248 t249 _ A13.out).mono ?_); rintro e w52 ⟨rfl, hb⟩; refine ⟨_, rfl, ?_⟩; have n0_ := Aside0.mk (below_step (by repeat (first | (with_reducible first | exact HB.out | apply below_alloc | apply pw_below_drewN | apply below_drew1) | exact HB.out)) hb); clear HB; have HB := n0_; clear n0_; (try clear hb); (try clear hb2); (try clear hk); (try clear hi)))
              go_ret
              exact ⟨by first | rfl | (simp [errW_none, errW_some] <;> rfl) | (simp [*, errW_none, errW_some] <;> rfl), by repeat (first | (with_reducible first | exact HB.out | apply below_alloc | apply pw_below_drewN | apply below_drew1) | exact HB.out)⟩
          · rw [if_neg c47] at H
            have c47b0 : decide (2879 < (wrap64 (t240 + t239))) = false := decide_eq_false c47
            clear c47
            obtain rfl := Option.some.inj H
            go_wp2_with (first | ((with_reducible refine gate_callee (f := 21) rfl ?_); refine goesL_ (some 63) rfl rfl Try.func21 (by kernel_rfl) rfl #[.int .i64 t238, .int .i64 t239] rfl (by (try simp only [List.map_toArray, List.map_cons, List.map_nil]); first | done | rfl | (simp only [List.length_drop, List.length_take]; rfl)) ?_; (with_reducible refine (date_Add.calls kj7 t238 t239 t248 t249 _ A13.out).mono ?_); rintro e w53 ⟨rfl, hb⟩; refine ⟨_, rfl, ?_⟩; have n0_ := Aside0.mk (below_step (by repeat (first | (with_reducible first | exact HB.out | apply below_alloc | apply pw_below_drewN | apply below_drew1) | exact HB.out)) hb); clear HB; have HB := n0_; clear n0_; (try clear hb); (try clear hb2); (try clear hk); (try clear hi)))
            go_ret
            exact ⟨by first | rfl | (simp [errW_none, errW_some] <;> rfl) | (simp [*, errW_none, errW_some] <;> rfl), by repeat (first | (with_reducible first | exact HB.out | apply below_alloc | apply pw_below_drewN | apply below_drew1) | exact HB.out)⟩

/-- THE ONE PURE STATEMENT of annuitylaw04_DateMonths: yours. -/
def annuitylaw04_DateMonths.Pure : Prop := ∀ (a0 : Int) (a1 : Int), (Lit.int .i64 a0).wf = true → (Lit.int .i64 a1).wf = true → ∃ k, annuitylaw04_DateMonths.f k a0 a1 = some true
theorem annuitylaw04_DateMonths.walk (P : annuitylaw04_DateMonths.Pure) (a0 : Int) (a1 : Int) (w : World) (w0 : (Lit.int .i64 a0).wf = true) (w1 : (Lit.int .i64 a1).wf = true) :
    Calls Try.prog 8 #[.int .i64 a0, .int .i64 a1] w fun e w' => e = .returned (.bool true) ∧ Below w.heap.size w w' := by
  obtain ⟨k, h⟩ := P a0 a1 w0 w1
  refine (annuitylaw04_DateMonths.calls k a0 a1 true w h).mono ?_
  rintro e w' ⟨rfl, hd⟩
  exact ⟨rfl, hd⟩

end Go.Proofs.Ytgogccjfoclakaa.P
