/- Functions of the program as plain Lean functions, and proofs that its calls come to just their answers, where they tell one (written by a program of this session). -/
import Derived.Test.YtgogccjfoclakaaPx0
import Derived.Test.YtgogccjfoclakaaPx1
import Derived.Test.YtgogccjfoclakaaPx5
import Derived.Test.YtgogccjfoclakaaPx6
import Derived.Test.YtgogccjfoclakaaPx7
import Derived.Test.YtgogccjfoclakaaPx10
namespace Go.Proofs.Ytgogccjfoclakaa.P
open Go.RowKit Go.Proofs.YtgogccjfoclakaaW.PrintWords Go.Proofs.YtgogccjfoclakaaW.PrintLast Go.Proofs.YtgogccjfoclakaaW.PrintMore
attribute [local go_sem] max2_int min2_int max_two min_two max_three min_three max_four min_four   -- for this text's walks alone
set_option linter.unusedVariables false
set_option linter.unusedSimpArgs false

/-! ### annuitylaw04_DateOrder: function 6 -/
mutual
def annuitylaw04_DateOrder.j0 : Nat → Int → Int → Int → Int → Int → Int → Int → Int → Int → Bool → Option (Bool)
  | 0, _, _, _, _, _, _, _, _, _, _ => none
  | k + 1, x2, x7, x8, x9, x10, x11, x13, x14, x15, x50 => if x50 = true then (some false) else (if x9 < x13 then (annuitylaw04_DateOrder.j1 k x2 x7 ((decide (x7 < x8)) != true)) else (if x9 = x13 then (if x10 < x14 then (annuitylaw04_DateOrder.j1 k x2 x7 ((decide (x7 < x8)) != true)) else (if x10 = x14 then (annuitylaw04_DateOrder.j1 k x2 x7 ((decide (x7 < x8)) != (decide (x11 < x15)))) else (annuitylaw04_DateOrder.j1 k x2 x7 ((decide (x7 < x8)) != false)))) else (annuitylaw04_DateOrder.j1 k x2 x7 ((decide (x7 < x8)) != false))))
def annuitylaw04_DateOrder.j1 : Nat → Int → Int → Bool → Option (Bool)
  | 0, _, _, _ => none
  | k + 1, x2, x7, x77 => if x77 = true then (some false) else ((date_Of.f k (wrap64 (1960 + (Int.tmod (wrap64 (x2)) 239))) 1 1).bind fun bt189 => ((date_Of.f k (wrap64 ((wrap64 (1960 + (Int.tmod (wrap64 (x2)) 239))) + 1)) 1 1).bind fun bt191 => ((date_Long.f (wrap64 (1960 + (Int.tmod (wrap64 (x2)) 239)))).bind fun t193 => (if t193 = true then (annuitylaw04_DateOrder.j2 k x7 bt189.1 bt189.2 bt191.1 bt191.2 366) else (annuitylaw04_DateOrder.j2 k x7 bt189.1 bt189.2 bt191.1 bt191.2 365)))))
def annuitylaw04_DateOrder.j2 : Nat → Int → Int → Int → Int → Int → Int → Option (Bool)
  | 0, _, _, _, _, _, _ => none
  | k + 1, x7, x18, x19, x20, x21, x22 => if x19 = 0 then (if x21 = 0 then (annuitylaw04_DateOrder.j3 k x7 ((wrap64 (x20 - x18)) != x22)) else (annuitylaw04_DateOrder.j3 k x7 true)) else (annuitylaw04_DateOrder.j3 k x7 true)
def annuitylaw04_DateOrder.j3 : Nat → Int → Bool → Option (Bool)
  | 0, _, _ => none
  | k + 1, x7, x107 => if x107 = true then (some false) else ((date_Week.f x7).bind fun bt194 => ((date_Week.f (wrap64 (x7 + 7))).bind fun bt196 => (if bt194.2 = 0 then (if (wrap64 (x7 + 7)) > 87658 then (if bt196.2 = 15 then ((annuitylaw04_wakes.f k).bind fun t198 => (some t198)) else (if bt196.2 = 0 then (if bt194.1 = bt196.1 then ((annuitylaw04_wakes.f k).bind fun t199 => (some t199)) else (some false)) else (some false))) else (if bt196.2 = 0 then (if bt194.1 = bt196.1 then ((annuitylaw04_wakes.f k).bind fun t200 => (some t200)) else (some false)) else (some false))) else (some false))))
end
def annuitylaw04_DateOrder.f (k : Nat) (a0 : Int) (a1 : Int) (a2 : Int) : Option (Bool) := (annuitykeep_Mod.f a0 87659).bind fun t179 => ((annuitykeep_Mod.f a1 87659).bind fun t180 => ((date_Civil.f k t179).bind fun bt181 => ((date_Civil.f k t180).bind fun bt185 => (if bt181.2.2.2 = 0 then (annuitylaw04_DateOrder.j0 k a2 t179 t180 bt181.1 bt181.2.1 bt181.2.2.1 bt185.1 bt185.2.1 bt185.2.2.1 (bt185.2.2.2 != 0)) else (annuitylaw04_DateOrder.j0 k a2 t179 t180 bt181.1 bt181.2.1 bt181.2.2.1 bt185.1 bt185.2.1 bt185.2.2.1 true)))))
theorem annuitylaw04_DateOrder.mono_l : ∀ k, (∀ y0 y1 y2 y3 y4 y5 y6 y7 y8 y9, LeO (annuitylaw04_DateOrder.j0 k y0 y1 y2 y3 y4 y5 y6 y7 y8 y9) (annuitylaw04_DateOrder.j0 (k + 1) y0 y1 y2 y3 y4 y5 y6 y7 y8 y9)) ∧ (∀ y0 y1 y2, LeO (annuitylaw04_DateOrder.j1 k y0 y1 y2) (annuitylaw04_DateOrder.j1 (k + 1) y0 y1 y2)) ∧ (∀ y0 y1 y2 y3 y4 y5, LeO (annuitylaw04_DateOrder.j2 k y0 y1 y2 y3 y4 y5) (annuitylaw04_DateOrder.j2 (k + 1) y0 y1 y2 y3 y4 y5)) ∧ (∀ y0 y1, LeO (annuitylaw04_DateOrder.j3 k y0 y1) (annuitylaw04_DateOrder.j3 (k + 1) y0 y1))
  | 0 => ⟨fun _ _ _ _ _ _ _ _ _ _ r h => by simp [annuitylaw04_DateOrder.j0] at h, fun _ _ _ r h => by simp [annuitylaw04_DateOrder.j1] at h, fun _ _ _ _ _ _ r h => by simp [annuitylaw04_DateOrder.j2] at h, fun _ _ r h => by simp [annuitylaw04_DateOrder.j3] at h⟩
  | k + 1 => by
    obtain ⟨ih0, ih1, ih2, ih3⟩ := annuitylaw04_DateOrder.mono_l k
    refine ⟨?_, ?_, ?_, ?_⟩
    · intro y0 y1 y2 y3 y4 y5 y6 y7 y8 y9
      unfold annuitylaw04_DateOrder.j0
      repeat' first
      | (with_reducible exact ih0 _ _ _ _ _ _ _ _ _ _)
      | (with_reducible exact ih1 _ _ _)
      | (with_reducible exact ih2 _ _ _ _ _ _)
      | (with_reducible exact ih3 _ _)
      | (with_reducible exact annuitylaw04_wakes.mono _)
      | (with_reducible exact date_Civil.mono _ _)
      | (with_reducible exact date_Of.mono _ _ _ _)
      | (with_reducible exact LeO.refl _)
      | (with_reducible exact LeO.none _)
      | (with_reducible refine LeO.ite ?_ ?_)
      | (with_reducible refine LeO.bind ?_ (fun _ => ?_))
      | exact ih0 _ _ _ _ _ _ _ _ _ _
      | exact ih1 _ _ _
      | exact ih2 _ _ _ _ _ _
      | exact ih3 _ _
      | exact annuitylaw04_wakes.mono _
      | exact date_Civil.mono _ _
      | exact date_Of.mono _ _ _ _
      | exact LeO.none _
      | refine LeO.ite ?_ ?_
      | refine LeO.bind ?_ (fun _ => ?_)
    · intro y0 y1 y2
      unfold annuitylaw04_DateOrder.j1
      repeat' first
      | (with_reducible exact ih0 _ _ _ _ _ _ _ _ _ _)
      | (with_reducible exact ih1 _ _ _)
      | (with_reducible exact ih2 _ _ _ _ _ _)
      | (with_reducible exact ih3 _ _)
      | (with_reducible exact annuitylaw04_wakes.mono _)
      | (with_reducible exact date_Civil.mono _ _)
      | (with_reducible exact date_Of.mono _ _ _ _)
      | (with_reducible exact LeO.refl _)
      | (with_reducible exact LeO.none _)
      | (with_reducible refine LeO.ite ?_ ?_)
      | (with_reducible refine LeO.bind ?_ (fun _ => ?_))
      | exact ih0 _ _ _ _ _ _ _ _ _ _
      | exact ih1 _ _ _
      | exact ih2 _ _ _ _ _ _
      | exact ih3 _ _
      | exact annuitylaw04_wakes.mono _
      | exact date_Civil.mono _ _
      | exact date_Of.mono _ _ _ _
      | exact LeO.none _
      | refine LeO.ite ?_ ?_
      | refine LeO.bind ?_ (fun _ => ?_)
    · intro y0 y1 y2 y3 y4 y5
      unfold annuitylaw04_DateOrder.j2
      repeat' first
      | (with_reducible exact ih0 _ _ _ _ _ _ _ _ _ _)
      | (with_reducible exact ih1 _ _ _)
      | (with_reducible exact ih2 _ _ _ _ _ _)
      | (with_reducible exact ih3 _ _)
      | (with_reducible exact annuitylaw04_wakes.mono _)
      | (with_reducible exact date_Civil.mono _ _)
      | (with_reducible exact date_Of.mono _ _ _ _)
      | (with_reducible exact LeO.refl _)
      | (with_reducible exact LeO.none _)
      | (with_reducible refine LeO.ite ?_ ?_)
      | (with_reducible refine LeO.bind ?_ (fun _ => ?_))
      | exact ih0 _ _ _ _ _ _ _ _ _ _
      | exact ih1 _ _ _
      | exact ih2 _ _ _ _ _ _
      | exact ih3 _ _
      | exact annuitylaw04_wakes.mono _
      | exact date_Civil.mono _ _
      | exact date_Of.mono _ _ _ _
      | exact LeO.none _
      | refine LeO.ite ?_ ?_
      | refine LeO.bind ?_ (fun _ => ?_)
    · intro y0 y1
      unfold annuitylaw04_DateOrder.j3
      repeat' first
      | (with_reducible exact ih0 _ _ _ _ _ _ _ _ _ _)
      | (with_reducible exact ih1 _ _ _)
      | (with_reducible exact ih2 _ _ _ _ _ _)
      | (with_reducible exact ih3 _ _)
      | (with_reducible exact annuitylaw04_wakes.mono _)
      | (with_reducible exact date_Civil.mono _ _)
      | (with_reducible exact date_Of.mono _ _ _ _)
      | (with_reducible exact LeO.refl _)
      | (with_reducible exact LeO.none _)
      | (with_reducible refine LeO.ite ?_ ?_)
      | (with_reducible refine LeO.bind ?_ (fun _ => ?_))
      | exact ih0 _ _ _ _ _ _ _ _ _ _
      | exact ih1 _ _ _
      | exact ih2 _ _ _ _ _ _
      | exact ih3 _ _
      | exact annuitylaw04_wakes.mono _
      | exact date_Civil.mono _ _
      | exact date_Of.mono _ _ _ _
      | exact LeO.none _
      | refine LeO.ite ?_ ?_
      | refine LeO.bind ?_ (fun _ => ?_)
theorem annuitylaw04_DateOrder.mono : ∀ a0 a1 a2 k, LeO (annuitylaw04_DateOrder.f k a0 a1 a2) (annuitylaw04_DateOrder.f (k + 1) a0 a1 a2) := by
  intro a0 a1 a2 k
  obtain ⟨ih0, ih1, ih2, ih3⟩ := annuitylaw04_DateOrder.mono_l k
  unfold annuitylaw04_DateOrder.f
  repeat' first
      | (with_reducible exact ih0 _ _ _ _ _ _ _ _ _ _)
      | (with_reducible exact ih1 _ _ _)
      | (with_reducible exact ih2 _ _ _ _ _ _)
      | (with_reducible exact ih3 _ _)
      | (with_reducible exact annuitylaw04_wakes.mono _)
      | (with_reducible exact date_Civil.mono _ _)
      | (with_reducible exact date_Of.mono _ _ _ _)
      | (with_reducible exact LeO.refl _)
      | (with_reducible exact LeO.none _)
      | (with_reducible refine LeO.ite ?_ ?_)
      | (with_reducible refine LeO.bind ?_ (fun _ => ?_))
      | exact ih0 _ _ _ _ _ _ _ _ _ _
      | exact ih1 _ _ _
      | exact ih2 _ _ _ _ _ _
      | exact ih3 _ _
      | exact annuitylaw04_wakes.mono _
      | exact date_Civil.mono _ _
      | exact date_Of.mono _ _ _ _
      | exact LeO.none _
      | refine LeO.ite ?_ ?_
      | refine LeO.bind ?_ (fun _ => ?_)
set_option maxHeartbeats 8000000 in
set_option maxRecDepth 100000 in
theorem annuitylaw04_DateOrder.calls (k : Nat) (a0 : Int) (a1 : Int) (a2 : Int) (r : Bool) (w : World) (h : annuitylaw04_DateOrder.f k a0 a1 a2 = some r) :
    Calls Try.prog 6 #[.int .i64 a0, .int .i64 a1, .int .u8 a2] w fun e w' => e = .returned (.bool r) ∧ Below w.heap.size w w' := by
  have HB := Aside0.mk (Below.refl w.heap.size w)
  have H : ((annuitykeep_Mod.f a0 87659).bind fun t179 => ((annuitykeep_Mod.f a1 87659).bind fun t180 => ((date_Civil.f k t179).bind fun bt181 => ((date_Civil.f k t180).bind fun bt185 => (if bt181.2.2.2 = 0 then (annuitylaw04_DateOrder.j0 k a2 t179 t180 bt181.1 bt181.2.1 bt181.2.2.1 bt185.1 bt185.2.1 bt185.2.2.1 (bt185.2.2.2 != 0)) else (annuitylaw04_DateOrder.j0 k a2 t179 t180 bt181.1 bt181.2.1 bt181.2.2.1 bt185.1 bt185.2.1 bt185.2.2.1 true)))))) = some r := h
  clear h
  replace H := Option.bind_eq_some_iff.mp H
  obtain ⟨t179, A40, H⟩ := H
  replace H : ((annuitykeep_Mod.f a1 87659).bind fun t180 => ((date_Civil.f k t179).bind fun bt181 => ((date_Civil.f k t180).bind fun bt185 => (if bt181.2.2.2 = 0 then (annuitylaw04_DateOrder.j0 k a2 t179 t180 bt181.1 bt181.2.1 bt181.2.2.1 bt185.1 bt185.2.1 bt185.2.2.1 (bt185.2.2.2 != 0)) else (annuitylaw04_DateOrder.j0 k a2 t179 t180 bt181.1 bt181.2.1 bt181.2.2.1 bt185.1 bt185.2.1 bt185.2.2.1 true))))) = some r := H
  have A4 := Aside0.mk A40
  clear A40
  replace H := Option.bind_eq_some_iff.mp H
  obtain ⟨t180, A50, H⟩ := H
  replace H : ((date_Civil.f k t179).bind fun bt181 => ((date_Civil.f k t180).bind fun bt185 => (if bt181.2.2.2 = 0 then (annuitylaw04_DateOrder.j0 k a2 t179 t180 bt181.1 bt181.2.1 bt181.2.2.1 bt185.1 bt185.2.1 bt185.2.2.1 (bt185.2.2.2 != 0)) else (annuitylaw04_DateOrder.j0 k a2 t179 t180 bt181.1 bt181.2.1 bt181.2.2.1 bt185.1 bt185.2.1 bt185.2.2.1 true)))) = some r := H
  have A5 := Aside0.mk A50
  clear A50
  replace H := Option.bind_eq_some_iff.mp H
  obtain ⟨⟨t181, t182, t183, t184⟩, A60, H⟩ := H
  replace H : ((date_Civil.f k t180).bind fun bt185 => (if t184 = 0 then (annuitylaw04_DateOrder.j0 k a2 t179 t180 t181 t182 t183 bt185.1 bt185.2.1 bt185.2.2.1 (bt185.2.2.2 != 0)) else (annuitylaw04_DateOrder.j0 k a2 t179 t180 t181 t182 t183 bt185.1 bt185.2.1 bt185.2.2.1 true))) = some r := H
  have A6 := Aside0.mk A60
  clear A60
  replace H := Option.bind_eq_some_iff.mp H
  obtain ⟨⟨t185, t186, t187, t188⟩, A70, H⟩ := H
  replace H : (if t184 = 0 then (annuitylaw04_DateOrder.j0 k a2 t179 t180 t181 t182 t183 t185 t186 t187 (t188 != 0)) else (annuitylaw04_DateOrder.j0 k a2 t179 t180 t181 t182 t183 t185 t186 t187 true)) = some r := H
  have A7 := Aside0.mk A70
  clear A70
  have HC8 := Aside0.mk H
  clear H
  go_enter Try.func6, Try.ntmps6
  go_upto_region 4 with (first | ((with_reducible refine gate_callee (f := 23) rfl ?_); refine goesL_ (some 28) rfl rfl Try.func23 (by kernel_rfl) rfl #[.int .i64 a0, .int .i64 87659] rfl (by (try simp only [List.map_toArray, List.map_cons, List.map_nil]); first | done | rfl | (simp only [List.length_drop, List.length_take]; rfl)) ?_; (with_reducible refine (annuitykeep_Mod.calls a0 87659 t179 _ A4.out).mono ?_); rintro e w' ⟨rfl, ⟨nd, rfl⟩⟩; refine ⟨_, rfl, ?_⟩) | ((with_reducible refine gate_callee (f := 23) rfl ?_); refine goesL_ (some 30) rfl rfl Try.func23 (by kernel_rfl) rfl #[.int .i64 a1, .int .i64 87659] rfl (by (try simp only [List.map_toArray, List.map_cons, List.map_nil]); first | done | rfl | (simp only [List.length_drop, List.length_take]; rfl)) ?_; (with_reducible refine (annuitykeep_Mod.calls a1 87659 t180 _ A5.out).mono ?_); rintro e w' ⟨rfl, ⟨nd, rfl⟩⟩; refine ⟨_, rfl, ?_⟩) | ((with_reducible refine gate_callee (f := 24) rfl ?_); refine goesL_ (some 33) rfl rfl Try.func24 (by kernel_rfl) rfl #[.int .i64 t179] rfl (by (try simp only [List.map_toArray, List.map_cons, List.map_nil]); first | done | rfl | (simp only [List.length_drop, List.length_take]; rfl)) ?_; (with_reducible refine (date_Civil.calls k t179 t181 t182 t183 t184 _ A6.out).mono ?_); rintro e w' ⟨rfl, ⟨nd, rfl⟩⟩; refine ⟨_, rfl, ?_⟩) | ((with_reducible refine gate_callee (f := 24) rfl ?_); refine goesL_ (some 40) rfl rfl Try.func24 (by kernel_rfl) rfl #[.int .i64 t180] rfl (by (try simp only [List.map_toArray, List.map_cons, List.map_nil]); first | done | rfl | (simp only [List.length_drop, List.length_take]; rfl)) ?_; (with_reducible refine (date_Civil.calls k t180 t185 t186 t187 t188 _ A7.out).mono ?_); rintro e w' ⟨rfl, ⟨nd, rfl⟩⟩; refine ⟨_, rfl, ?_⟩))
  (try simp only [Act.put, List.setIfInBounds_toArray, List.set_cons_zero, List.set_cons_succ])
  go_cut [50] (fun v50 wc => ∃ (kq : Nat) (x50_7 : Bool), v50 = .bool x50_7 ∧ Aside0 (annuitylaw04_DateOrder.j0 kq a2 t179 t180 t181 t182 t183 t185 t186 t187 x50_7 = some r) ∧ Aside0 (kq ≤ k) ∧ Aside0 (Below w.heap.size w wc))
  case first =>
    have H := HC8.out
    clear HC8
    by_cases c9 : t184 = 0
    · rw [if_pos c9] at H
      have c9b0 : (t184 == 0) = true := beq_iff_eq.mpr c9
      have c9b1 : (t184 != 0) = false := bne_eq_false_iff_eq.mpr c9
      clear c9
      (first | rw [c9b0] | (simp only [i64_w, i32_w]; rw [c9b0]) | skip)
      have H' := Aside0.mk H
      clear H
      go_wp2
      go_meet
      case rel => exact ⟨_, ((t188 != 0)), (by first | rfl | (simp; done) | (simp [*]; done)), H', ⟨by first | omega | exact Nat.le_refl _⟩, ⟨by repeat (first | (with_reducible first | exact HB.out | apply below_alloc | apply pw_below_drewN | apply below_drew1) | exact HB.out)⟩⟩
    · rw [if_neg c9] at H
      have c9b0 : (t184 == 0) = false := beq_eq_false_iff_ne.mpr c9
      have c9b1 : (t184 != 0) = true := bne_iff_ne.mpr c9
      (first | rw [c9b0] | (simp only [i64_w, i32_w]; rw [c9b0]) | skip)
      have H' := Aside0.mk H
      clear H
      go_wp2
      go_meet
      case rel => exact ⟨_, (true), (by first | rfl | (simp; done) | (simp [*]; done)), H', ⟨by first | omega | exact Nat.le_refl _⟩, ⟨by repeat (first | (with_reducible first | exact HB.out | apply below_alloc | apply pw_below_drewN | apply below_drew1) | exact HB.out)⟩⟩
  case rest =>
    clear HC8
    try clear c2
    try clear p2
    try clear c6
    try clear c9
    try clear c9b0
    try clear c9b1
    obtain ⟨kq, x50_7, rfl, HA, HJ7, HB⟩ := hcut
    cases kq with
    | zero => exact absurd HA.out (by simp [annuitylaw04_DateOrder.j0])
    | succ kj7 =>
      have H := HA.out
      clear HA
      simp only [annuitylaw04_DateOrder.j0] at H
      by_cases c10 : x50_7 = true
      · subst c10
        have H1 : (some false) = some r := by rw [if_pos rfl] at H; exact H
        clear H
        have H := H1
        clear H1
        obtain rfl := Option.some.inj H
        go_wp2
        go_ret
        exact ⟨by first | rfl | (simp [errW_none, errW_some] <;> rfl) | (simp [*, errW_none, errW_some] <;> rfl), by repeat (first | (with_reducible first | exact HB.out | apply below_alloc | apply pw_below_drewN | apply below_drew1) | exact HB.out)⟩
      · replace c10 := Bool.eq_false_iff.mpr c10
        subst c10
        have H1 : (if t181 < t185 then (annuitylaw04_DateOrder.j1 kj7 a2 t179 ((decide (t179 < t180)) != true)) else (if t181 = t185 then (if t182 < t186 then (annuitylaw04_DateOrder.j1 kj7 a2 t179 ((decide (t179 < t180)) != true)) else (if t182 = t186 then (annuitylaw04_DateOrder.j1 kj7 a2 t179 ((decide (t179 < t180)) != (decide (t183 < t187)))) else (annuitylaw04_DateOrder.j1 kj7 a2 t179 ((decide (t179 < t180)) != false)))) else (annuitylaw04_DateOrder.j1 kj7 a2 t179 ((decide (t179 < t180)) != false)))) = some r := by rw [if_neg (show ¬ (false = true) by decide)] at H; exact H
        clear H
        have H := H1
        clear H1
        have HC11 := Aside0.mk H
        clear H
        go_upto_region 6 with (fail)
        go_cut [77] (fun v77 wc => ∃ (kq : Nat) (x77_10 : Bool), v77 = .bool x77_10 ∧ Aside0 (annuitylaw04_DateOrder.j1 kq a2 t179 x77_10 = some r) ∧ Aside0 (kq ≤ kj7) ∧ Aside0 (Below w.heap.size w wc))
        case first =>
          have H := HC11.out
          clear HC11
          by_cases c12 : t181 < t185
          · rw [if_pos c12] at H
            have c12b0 : decide (t181 < t185) = true := decide_eq_true c12
            clear c12
            (first | rw [c12b0] | (simp only [i64_w, i32_w]; rw [c12b0]) | skip)
            have H' := Aside0.mk H
            clear H
            go_wp2
            go_meet
            case rel => exact ⟨_, (((decide (t179 < t180)) != true)), (by first | rfl | (simp; done) | (simp [*]; done)), H', ⟨by have := HJ7.out; first | omega | exact Nat.le_refl _⟩, ⟨by repeat (first | (with_reducible first | exact HB.out | apply below_alloc | apply pw_below_drewN | apply below_drew1) | exact HB.out)⟩⟩
          · rw [if_neg c12] at H
            have c12b0 : decide (t181 < t185) = false := decide_eq_false c12
            clear c12
            (first | rw [c12b0] | (simp only [i64_w, i32_w]; rw [c12b0]) | skip)
            by_cases c13 : t181 = t185
            · rw [if_pos c13] at H
              have c13b0 : (t181 == t185) = true := beq_iff_eq.mpr c13
              have c13b1 : (t181 != t185) = false := bne_eq_false_iff_eq.mpr c13
              clear c13
              by_cases c14 : t182 < t186
              · rw [if_pos c14] at H
                have c14b0 : decide (t182 < t186) = true := decide_eq_true c14
                clear c14
                have H' := Aside0.mk H
                clear H
                go_wp2
                go_meet
                case rel => exact ⟨_, (((decide (t179 < t180)) != true)), (by first | rfl | (simp; done) | (simp [*]; done)), H', ⟨by have := HJ7.out; first | omega | exact Nat.le_refl _⟩, ⟨by repeat (first | (with_reducible first | exact HB.out | apply below_alloc | apply pw_below_drewN | apply below_drew1) | exact HB.out)⟩⟩
              · rw [if_neg c14] at H
                have c14b0 : decide (t182 < t186) = false := decide_eq_false c14
                clear c14
                by_cases c15 : t182 = t186
                · rw [if_pos c15] at H
                  have c15b0 : (t182 == t186) = true := beq_iff_eq.mpr c15
                  have c15b1 : (t182 != t186) = false := bne_eq_false_iff_eq.mpr c15
                  clear c15
                  have H' := Aside0.mk H
                  clear H
                  go_wp2
                  go_meet
                  case rel => exact ⟨_, (((decide (t179 < t180)) != (decide (t183 < t187)))), (by first | rfl | (simp; done) | (simp [*]; done)), H', ⟨by have := HJ7.out; first | omega | exact Nat.le_refl _⟩, ⟨by repeat (first | (with_reducible first | exact HB.out | apply below_alloc | apply pw_below_drewN | apply below_drew1) | exact HB.out)⟩⟩
                · rw [if_neg c15] at H
                  have c15b0 : (t182 == t186) = false := beq_eq_false_iff_ne.mpr c15
                  have c15b1 : (t182 != t186) = true := bne_iff_ne.mpr c15
                  have H' := Aside0.mk H
                  clear H
                  go_wp2
                  go_meet
                  case rel => exact ⟨_, (((decide (t179 < t180)) != false)), (by first | rfl | (simp; done) | (simp [*]; done)), H', ⟨by have := HJ7.out; first | omega | exact Nat.le_refl _⟩, ⟨by repeat (first | (with_reducible first | exact HB.out | apply below_alloc | apply pw_below_drewN | apply below_drew1) | exact HB.out)⟩⟩
            · rw [if_neg c13] at H
              have c13b0 : (t181 == t185) = false := beq_eq_false_iff_ne.mpr c13
              have c13b1 : (t181 != t185) = true := bne_iff_ne.mpr c13
              have H' := Aside0.mk H
              clear H
              go_wp2
              go_meet
              case rel => exact ⟨_, (((decide (t179 < t180)) != false)), (by first | rfl | (simp; done) | (simp [*]; done)), H', ⟨by have := HJ7.out; first | omega | exact Nat.le_refl _⟩, ⟨by repeat (first | (with_reducible first | exact HB.out | apply below_alloc | apply pw_below_drewN | apply below_drew1) | exact HB.out)⟩⟩
        case rest =>
          clear HC11
          try clear c1
          try clear c2
          try clear p2
          try clear c6
          try clear c9
          try clear c9b0
          try clear c9b1
          try clear c10
          try clear c12
          try clear c12b0
          try clear c13
          try clear c13b0
          try clear c13b1
          try clear c14
          try clear c14b0
          try clear c15
          try clear c15b0
          try clear c15b1
          try clear p2
          obtain ⟨kq, x77_10, rfl, HA, HJ10, HB⟩ := hcut
          cases kq with
          | zero => exact absurd HA.out (by simp [annuitylaw04_DateOrder.j1])
          | succ kj10 =>
            have H := HA.out
            clear HA
            simp only [annuitylaw04_DateOrder.j1] at H
            by_cases c16 : x77_10 = true
            · subst c16
              have H1 : (some false) = some r := by rw [if_pos rfl] at H; exact H
              clear H
              have H := H1
              clear H1
              obtain rfl := Option.some.inj H
              go_wp2
              go_ret
              exact ⟨by first | rfl | (simp [errW_none, errW_some] <;> rfl) | (simp [*, errW_none, errW_some] <;> rfl), by repeat (first | (with_reducible first | exact HB.out | apply below_alloc | apply pw_below_drewN | apply below_drew1) | exact HB.out)⟩
            · replace c16 := Bool.eq_false_iff.mpr c16
              subst c16
              have H1 : ((date_Of.f kj10 (wrap64 (1960 + (Int.tmod (wrap64 (a2)) 239))) 1 1).bind fun bt189 => ((date_Of.f kj10 (wrap64 ((wrap64 (1960 + (Int.tmod (wrap64 (a2)) 239))) + 1)) 1 1).bind fun bt191 => ((date_Long.f (wrap64 (1960 + (Int.tmod (wrap64 (a2)) 239)))).bind fun t193 => (if t193 = true then (annuitylaw04_DateOrder.j2 kj10 t179 bt189.1 bt189.2 bt191.1 bt191.2 366) else (annuitylaw04_DateOrder.j2 kj10 t179 bt189.1 bt189.2 bt191.1 bt191.2 365))))) = some r := by rw [if_neg (show ¬ (false = true) by decide)] at H; exact H
              clear H
              have H := H1
              clear H1
              replace H := Option.bind_eq_some_iff.mp H
              obtain ⟨⟨t189, t190⟩, A170, H⟩ := H
              replace H : ((date_Of.f kj10 (wrap64 ((wrap64 (1960 + (Int.tmod (wrap64 (a2)) 239))) + 1)) 1 1).bind fun bt191 => ((date_Long.f (wrap64 (1960 + (Int.tmod (wrap64 (a2)) 239)))).bind fun t193 => (if t193 = true then (annuitylaw04_DateOrder.j2 kj10 t179 t189 t190 bt191.1 bt191.2 366) else (annuitylaw04_DateOrder.j2 kj10 t179 t189 t190 bt191.1 bt191.2 365)))) = some r := H
              have A17 := Aside0.mk A170
              clear A170
              replace H := Option.bind_eq_some_iff.mp H
              obtain ⟨⟨t191, t192⟩, A180, H⟩ := H
              replace H : ((date_Long.f (wrap64 (1960 + (Int.tmod (wrap64 (a2)) 239)))).bind fun t193 => (if t193 = true then (annuitylaw04_DateOrder.j2 kj10 t179 t189 t190 t191 t192 366) else (annuitylaw04_DateOrder.j2 kj10 t179 t189 t190 t191 t192 365))) = some r := H
              have A18 := Aside0.mk A180
              clear A180
              replace H := Option.bind_eq_some_iff.mp H
              obtain ⟨t193, A190, H⟩ := H
              replace H : (if t193 = true then (annuitylaw04_DateOrder.j2 kj10 t179 t189 t190 t191 t192 366) else (annuitylaw04_DateOrder.j2 kj10 t179 t189 t190 t191 t192 365)) = some r := H
              have A19 := Aside0.mk A190
              clear A190
              have HC20 := Aside0.mk H
              clear H
              go_upto_if 94 with (first | ((with_reducible refine gate_callee (f := 14) rfl ?_); refine goesL_ (some 84) rfl rfl Try.func14 (by kernel_rfl) rfl #[.int .i64 (wrap64 (1960 + (Int.tmod (wrap64 (a2)) 239))), .int .i64 1, .int .i64 1] rfl (by (try simp only [List.map_toArray, List.map_cons, List.map_nil]); first | done | rfl | (simp only [List.length_drop, List.length_take]; rfl)) ?_; (with_reducible refine (date_Of.calls kj10 (wrap64 (1960 + (Int.tmod (wrap64 (a2)) 239))) 1 1 t189 t190 _ A17.out).mono ?_); rintro e w' ⟨rfl, ⟨nd, rfl⟩⟩; refine ⟨_, rfl, ?_⟩) | ((with_reducible refine gate_callee (f := 14) rfl ?_); refine goesL_ (some 90) rfl rfl Try.func14 (by kernel_rfl) rfl #[.int .i64 (wrap64 ((wrap64 (1960 + (Int.tmod (wrap64 (a2)) 239))) + 1)), .int .i64 1, .int .i64 1] rfl (by (try simp only [List.map_toArray, List.map_cons, List.map_nil]); first | done | rfl | (simp only [List.length_drop, List.length_take]; rfl)) ?_; (with_reducible refine (date_Of.calls kj10 (wrap64 ((wrap64 (1960 + (Int.tmod (wrap64 (a2)) 239))) + 1)) 1 1 t191 t192 _ A18.out).mono ?_); rintro e w' ⟨rfl, ⟨nd, rfl⟩⟩; refine ⟨_, rfl, ?_⟩) | ((with_reducible refine gate_callee (f := 16) rfl ?_); refine goesL_ (some 94) rfl rfl Try.func16 (by kernel_rfl) rfl #[.int .i64 (wrap64 (1960 + (Int.tmod (wrap64 (a2)) 239)))] rfl (by (try simp only [List.map_toArray, List.map_cons, List.map_nil]); first | done | rfl | (simp only [List.length_drop, List.length_take]; rfl)) ?_; (with_reducible refine (date_Long.calls (wrap64 (1960 + (Int.tmod (wrap64 (a2)) 239))) t193 _ A19.out).mono ?_); rintro e w' ⟨rfl, ⟨nd, rfl⟩⟩; refine ⟨_, rfl, ?_⟩))
              (try simp only [Act.put, List.setIfInBounds_toArray, List.set_cons_zero, List.set_cons_succ])
              go_cut [22] (fun v22 wc => ∃ (kq : Nat) (x22_19 : Int), v22 = .int .i64 x22_19 ∧ Aside0 (annuitylaw04_DateOrder.j2 kq t179 t189 t190 t191 t192 x22_19 = some r) ∧ Aside0 (kq ≤ kj10) ∧ Aside0 (Below w.heap.size w wc))
              case first =>
                have H := HC20.out
                clear HC20
                by_cases c21 : t193 = true
                · subst c21
                  have H1 : (annuitylaw04_DateOrder.j2 kj10 t179 t189 t190 t191 t192 366) = some r := by rw [if_pos rfl] at H; exact H
                  clear H
                  have H := H1
                  clear H1
                  have H' := Aside0.mk H
                  clear H
                  go_wp2
                  go_meet
                  case rel => exact ⟨_, (366), (by first | rfl | (simp; done) | (simp [*]; done)), H', ⟨by have := HJ7.out; have := HJ10.out; first | omega | exact Nat.le_refl _⟩, ⟨by repeat (first | (with_reducible first | exact HB.out | apply below_alloc | apply pw_below_drewN | apply below_drew1) | exact HB.out)⟩⟩
                · replace c21 := Bool.eq_false_iff.mpr c21
                  subst c21
                  have H1 : (annuitylaw04_DateOrder.j2 kj10 t179 t189 t190 t191 t192 365) = some r := by rw [if_neg (show ¬ (false = true) by decide)] at H; exact H
                  clear H
                  have H := H1
                  clear H1
                  have H' := Aside0.mk H
                  clear H
                  go_wp2
                  go_meet
                  case rel => exact ⟨_, (365), (by first | rfl | (simp; done) | (simp [*]; done)), H', ⟨by have := HJ7.out; have := HJ10.out; first | omega | exact Nat.le_refl _⟩, ⟨by repeat (first | (with_reducible first | exact HB.out | apply below_alloc | apply pw_below_drewN | apply below_drew1) | exact HB.out)⟩⟩
              case rest =>
                clear HC20
                try clear c1
                try clear c2
                try clear p2
                try clear c6
                try clear p6
                try clear c9
                try clear c9b0
                try clear c9b1
                try clear c10
                try clear c12
                try clear c12b0
                try clear c13
                try clear c13b0
                try clear c13b1
                try clear c14
                try clear c14b0
                try clear c15
                try clear c15b0
                try clear c15b1
                try clear c16
                try clear c21
                try clear p2
                obtain ⟨kq, x22_19, rfl, HA, HJ19, HB⟩ := hcut
                cases kq with
                | zero => exact absurd HA.out (by simp [annuitylaw04_DateOrder.j2])
                | succ kj19 =>
                  have H := HA.out
                  clear HA
                  simp only [annuitylaw04_DateOrder.j2] at H
                  have HC22 := Aside0.mk H
                  clear H
                  go_upto_region 14 with (fail)
                  go_cut [107] (fun v107 wc => ∃ (kq : Nat) (x107_21 : Bool), v107 = .bool x107_21 ∧ Aside0 (annuitylaw04_DateOrder.j3 kq t179 x107_21 = some r) ∧ Aside0 (kq ≤ kj19) ∧ Aside0 (Below w.heap.size w wc))
                  case first =>
                    have H := HC22.out
                    clear HC22
                    by_cases c23 : t190 = 0
                    · rw [if_pos c23] at H
                      have c23b0 : (t190 == 0) = true := beq_iff_eq.mpr c23
                      have c23b1 : (t190 != 0) = false := bne_eq_false_iff_eq.mpr c23
                      clear c23
                      (first | rw [c23b0] | (simp only [i64_w, i32_w]; rw [c23b0]) | skip)
                      by_cases c24 : t192 = 0
                      · rw [if_pos c24] at H
                        have c24b0 : (t192 == 0) = true := beq_iff_eq.mpr c24
                        have c24b1 : (t192 != 0) = false := bne_eq_false_iff_eq.mpr c24
                        clear c24
                        have H' := Aside0.mk H
                        clear H
                        go_wp2
                        go_meet
                        case rel => exact ⟨_, (((wrap64 (t191 - t189)) != x22_19)), (by first | rfl | (simp; done) | (simp [*]; done)), H', ⟨by have := HJ7.out; have := HJ10.out; have := HJ19.out; first | omega | exact Nat.le_refl _⟩, ⟨by repeat (first | (with_reducible first | exact HB.out | apply below_alloc | apply pw_below_drewN | apply below_drew1) | exact HB.out)⟩⟩
                      · rw [if_neg c24] at H
                        have c24b0 : (t192 == 0) = false := beq_eq_false_iff_ne.mpr c24
                        have c24b1 : (t192 != 0) = true := bne_iff_ne.mpr c24
                        have H' := Aside0.mk H
                        clear H
                        go_wp2
                        go_meet
                        case rel => exact ⟨_, (true), (by first | rfl | (simp; done) | (simp [*]; done)), H', ⟨by have := HJ7.out; have := HJ10.out; have := HJ19.out; first | omega | exact Nat.le_refl _⟩, ⟨by repeat (first | (with_reducible first | exact HB.out | apply below_alloc | apply pw_below_drewN | apply below_drew1) | exact HB.out)⟩⟩
                    · rw [if_neg c23] at H
                      have c23b0 : (t190 == 0) = false := beq_eq_false_iff_ne.mpr c23
                      have c23b1 : (t190 != 0) = true := bne_iff_ne.mpr c23
                      (first | rw [c23b0] | (simp only [i64_w, i32_w]; rw [c23b0]) | skip)
                      have H' := Aside0.mk H
                      clear H
                      go_wp2
                      go_meet
                      case rel => exact ⟨_, (true), (by first | rfl | (simp; done) | (simp [*]; done)), H', ⟨by have := HJ7.out; have := HJ10.out; have := HJ19.out; first | omega | exact Nat.le_refl _⟩, ⟨by repeat (first | (with_reducible first | exact HB.out | apply below_alloc | apply pw_below_drewN | apply below_drew1) | exact HB.out)⟩⟩
                  case rest =>
                    clear HC22
                    try clear c1
                    try clear c2
                    try clear p2
                    try clear c6
                    try clear p6
                    try clear c9
                    try clear c9b0
                    try clear c9b1
                    try clear c10
                    try clear c12
                    try clear c12b0
                    try clear c13
                    try clear c13b0
                    try clear c13b1
                    try clear c14
                    try clear c14b0
                    try clear c15
                    try clear c15b0
                    try clear c15b1
                    try clear c16
                    try clear c21
                    try clear c23
                    try clear c23b0
                    try clear c23b1
                    try clear c24
                    try clear c24b0
                    try clear c24b1
                    try clear p2
                    try clear p6
                    obtain ⟨kq, x107_21, rfl, HA, HJ21, HB⟩ := hcut
                    cases kq with
                    | zero => exact absurd HA.out (by simp [annuitylaw04_DateOrder.j3])
                    | succ kj21 =>
                      have H := HA.out
                      clear HA
                      simp only [annuitylaw04_DateOrder.j3] at H
                      by_cases c25 : x107_21 = true
                      · subst c25
                        have H1 : (some false) = some r := by rw [if_pos rfl] at H; exact H
                        clear H
                        have H := H1
                        clear H1
                        obtain rfl := Option.some.inj H
                        go_wp2
                        go_ret
                        exact ⟨by first | rfl | (simp [errW_none, errW_some] <;> rfl) | (simp [*, errW_none, errW_some] <;> rfl), by repeat (first | (with_reducible first | exact HB.out | apply below_alloc | apply pw_below_drewN | apply below_drew1) | exact HB.out)⟩
                      · replace c25 := Bool.eq_false_iff.mpr c25
                        subst c25
                        have H1 : ((date_Week.f t179).bind fun bt194 => ((date_Week.f (wrap64 (t179 + 7))).bind fun bt196 => (if bt194.2 = 0 then (if (wrap64 (t179 + 7)) > 87658 then (if bt196.2 = 15 then ((annuitylaw04_wakes.f kj21).bind fun t198 => (some t198)) else (if bt196.2 = 0 then (if bt194.1 = bt196.1 then ((annuitylaw04_wakes.f kj21).bind fun t199 => (some t199)) else (some false)) else (some false))) else (if bt196.2 = 0 then (if bt194.1 = bt196.1 then ((annuitylaw04_wakes.f kj21).bind fun t200 => (some t200)) else (some false)) else (some false))) else (some false)))) = some r := by rw [if_neg (show ¬ (false = true) by decide)] at H; exact H
                        clear H
                        have H := H1
                        clear H1
                        replace H := Option.bind_eq_some_iff.mp H
                        obtain ⟨⟨t194, t195⟩, A260, H⟩ := H
                        replace H : ((date_Week.f (wrap64 (t179 + 7))).bind fun bt196 => (if t195 = 0 then (if (wrap64 (t179 + 7)) > 87658 then (if bt196.2 = 15 then ((annuitylaw04_wakes.f kj21).bind fun t198 => (some t198)) else (if bt196.2 = 0 then (if t194 = bt196.1 then ((annuitylaw04_wakes.f kj21).bind fun t199 => (some t199)) else (some false)) else (some false))) else (if bt196.2 = 0 then (if t194 = bt196.1 then ((annuitylaw04_wakes.f kj21).bind fun t200 => (some t200)) else (some false)) else (some false))) else (some false))) = some r := H
                        have A26 := Aside0.mk A260
                        clear A260
                        replace H := Option.bind_eq_some_iff.mp H
                        obtain ⟨⟨t196, t197⟩, A270, H⟩ := H
                        replace H : (if t195 = 0 then (if (wrap64 (t179 + 7)) > 87658 then (if t197 = 15 then ((annuitylaw04_wakes.f kj21).bind fun t198 => (some t198)) else (if t197 = 0 then (if t194 = t196 then ((annuitylaw04_wakes.f kj21).bind fun t199 => (some t199)) else (some false)) else (some false))) else (if t197 = 0 then (if t194 = t196 then ((annuitylaw04_wakes.f kj21).bind fun t200 => (some t200)) else (some false)) else (some false))) else (some false)) = some r := H
                        have A27 := Aside0.mk A270
                        clear A270
                        by_cases c28 : t195 = 0
                        · rw [if_pos c28] at H
                          have c28b0 : (t195 == 0) = true := beq_iff_eq.mpr c28
                          have c28b1 : (t195 != 0) = false := bne_eq_false_iff_eq.mpr c28
                          clear c28
                          by_cases c29 : (wrap64 (t179 + 7)) > 87658
                          · rw [if_pos c29] at H
                            have c29b0 : decide (87658 < (wrap64 (t179 + 7))) = true := decide_eq_true c29
                            clear c29
                            by_cases c30 : t197 = 15
                            · rw [if_pos c30] at H
                              have c30b0 : (t197 == 15) = true := beq_iff_eq.mpr c30
                              have c30b1 : (t197 != 15) = false := bne_eq_false_iff_eq.mpr c30
                              clear c30
                              replace H := Option.bind_eq_some_iff.mp H
                              obtain ⟨t198, A310, H⟩ := H
                              replace H : (some t198) = some r := H
                              have A31 := Aside0.mk A310
                              clear A310
                              obtain rfl := Option.some.inj H
                              go_wp2_with (first | ((with_reducible refine gate_callee (f := 25) rfl ?_); refine goesL_ (some 110) rfl rfl Try.func25 (by kernel_rfl) rfl #[.int .i64 t179] rfl (by (try simp only [List.map_toArray, List.map_cons, List.map_nil]); first | done | rfl | (simp only [List.length_drop, List.length_take]; rfl)) ?_; (with_reducible refine (date_Week.calls t179 t194 t195 _ A26.out).mono ?_); rintro e w' ⟨rfl, ⟨nd, rfl⟩⟩; refine ⟨_, rfl, ?_⟩) | ((with_reducible refine gate_callee (f := 25) rfl ?_); refine goesL_ (some 116) rfl rfl Try.func25 (by kernel_rfl) rfl #[.int .i64 (wrap64 (t179 + 7))] rfl (by (try simp only [List.map_toArray, List.map_cons, List.map_nil]); first | done | rfl | (simp only [List.length_drop, List.length_take]; rfl)) ?_; (with_reducible refine (date_Week.calls (wrap64 (t179 + 7)) t196 t197 _ A27.out).mono ?_); rintro e w' ⟨rfl, ⟨nd, rfl⟩⟩; refine ⟨_, rfl, ?_⟩) | (go_at_call 20; (with_reducible refine (annuitylaw04_wakes.calls kj21  t198 _ A31.out).mono ?_); rintro e w32 ⟨rfl, hb⟩; have n0_ := Aside0.mk (below_step (by repeat (first | (with_reducible first | exact HB.out | apply below_alloc | apply pw_below_drewN | apply below_drew1) | exact HB.out)) hb); clear HB; have HB := n0_; clear n0_; (try clear hb); (try clear hb2); (try clear hk); (try clear hi)))
                              go_ret
                              exact ⟨by first | rfl | (simp [errW_none, errW_some] <;> rfl) | (simp [*, errW_none, errW_some] <;> rfl), by repeat (first | (with_reducible first | exact HB.out | apply below_alloc | apply pw_below_drewN | apply below_drew1) | exact HB.out)⟩
                            · rw [if_neg c30] at H
                              have c30b0 : (t197 == 15) = false := beq_eq_false_iff_ne.mpr c30
                              have c30b1 : (t197 != 15) = true := bne_iff_ne.mpr c30
                              by_cases c33 : t197 = 0
                              · rw [if_pos c33] at H
                                have c33b0 : (t197 == 0) = true := beq_iff_eq.mpr c33
                                have c33b1 : (t197 != 0) = false := bne_eq_false_iff_eq.mpr c33
                                clear c33
                                by_cases c34 : t194 = t196
                                · rw [if_pos c34] at H
                                  have c34b0 : (t194 == t196) = true := beq_iff_eq.mpr c34
                                  have c34b1 : (t194 != t196) = false := bne_eq_false_iff_eq.mpr c34
                                  clear c34
                                  replace H := Option.bind_eq_some_iff.mp H
                                  obtain ⟨t199, A350, H⟩ := H
                                  replace H : (some t199) = some r := H
                                  have A35 := Aside0.mk A350
                                  clear A350
                                  obtain rfl := Option.some.inj H
                                  go_wp2_with (first | ((with_reducible refine gate_callee (f := 25) rfl ?_); refine goesL_ (some 110) rfl rfl Try.func25 (by kernel_rfl) rfl #[.int .i64 t179] rfl (by (try simp only [List.map_toArray, List.map_cons, List.map_nil]); first | done | rfl | (simp only [List.length_drop, List.length_take]; rfl)) ?_; (with_reducible refine (date_Week.calls t179 t194 t195 _ A26.out).mono ?_); rintro e w' ⟨rfl, ⟨nd, rfl⟩⟩; refine ⟨_, rfl, ?_⟩) | ((with_reducible refine gate_callee (f := 25) rfl ?_); refine goesL_ (some 116) rfl rfl Try.func25 (by kernel_rfl) rfl #[.int .i64 (wrap64 (t179 + 7))] rfl (by (try simp only [List.map_toArray, List.map_cons, List.map_nil]); first | done | rfl | (simp only [List.length_drop, List.length_take]; rfl)) ?_; (with_reducible refine (date_Week.calls (wrap64 (t179 + 7)) t196 t197 _ A27.out).mono ?_); rintro e w' ⟨rfl, ⟨nd, rfl⟩⟩; refine ⟨_, rfl, ?_⟩) | (go_at_call 20; (with_reducible refine (annuitylaw04_wakes.calls kj21  t199 _ A35.out).mono ?_); rintro e w36 ⟨rfl, hb⟩; have n0_ := Aside0.mk (below_step (by repeat (first | (with_reducible first | exact HB.out | apply below_alloc | apply pw_below_drewN | apply below_drew1) | exact HB.out)) hb); clear HB; have HB := n0_; clear n0_; (try clear hb); (try clear hb2); (try clear hk); (try clear hi)))
                                  go_ret
                                  exact ⟨by first | rfl | (simp [errW_none, errW_some] <;> rfl) | (simp [*, errW_none, errW_some] <;> rfl), by repeat (first | (with_reducible first | exact HB.out | apply below_alloc | apply pw_below_drewN | apply below_drew1) | exact HB.out)⟩
                                · rw [if_neg c34] at H
                                  have c34b0 : (t194 == t196) = false := beq_eq_false_iff_ne.mpr c34
                                  have c34b1 : (t194 != t196) = true := bne_iff_ne.mpr c34
                                  obtain rfl := Option.some.inj H
                                  go_wp2_with (first | ((with_reducible refine gate_callee (f := 25) rfl ?_); refine goesL_ (some 110) rfl rfl Try.func25 (by kernel_rfl) rfl #[.int .i64 t179] rfl (by (try simp only [List.map_toArray, List.map_cons, List.map_nil]); first | done | rfl | (simp only [List.length_drop, List.length_take]; rfl)) ?_; (with_reducible refine (date_Week.calls t179 t194 t195 _ A26.out).mono ?_); rintro e w' ⟨rfl, ⟨nd, rfl⟩⟩; refine ⟨_, rfl, ?_⟩) | ((with_reducible refine gate_callee (f := 25) rfl ?_); refine goesL_ (some 116) rfl rfl Try.func25 (by kernel_rfl) rfl #[.int .i64 (wrap64 (t179 + 7))] rfl (by (try simp only [List.map_toArray, List.map_cons, List.map_nil]); first | done | rfl | (simp only [List.length_drop, List.length_take]; rfl)) ?_; (with_reducible refine (date_Week.calls (wrap64 (t179 + 7)) t196 t197 _ A27.out).mono ?_); rintro e w' ⟨rfl, ⟨nd, rfl⟩⟩; refine ⟨_, rfl, ?_⟩))
                                  go_ret
                                  exact ⟨by first | rfl | (simp [errW_none, errW_some] <;> rfl) | (simp [*, errW_none, errW_some] <;> rfl), by repeat (first | (with_reducible first | exact HB.out | apply below_alloc | apply pw_below_drewN | apply below_drew1) | exact HB.out)⟩
                              · rw [if_neg c33] at H
                                have c33b0 : (t197 == 0) = false := beq_eq_false_iff_ne.mpr c33
                                have c33b1 : (t197 != 0) = true := bne_iff_ne.mpr c33
                                obtain rfl := Option.some.inj H
                                go_wp2_with (first | ((with_reducible refine gate_callee (f := 25) rfl ?_); refine goesL_ (some 110) rfl rfl Try.func25 (by kernel_rfl) rfl #[.int .i64 t179] rfl (by (try simp only [List.map_toArray, List.map_cons, List.map_nil]); first | done | rfl | (simp only [List.length_drop, List.length_take]; rfl)) ?_; (with_reducible refine (date_Week.calls t179 t194 t195 _ A26.out).mono ?_); rintro e w' ⟨rfl, ⟨nd, rfl⟩⟩; refine ⟨_, rfl, ?_⟩) | ((with_reducible refine gate_callee (f := 25) rfl ?_); refine goesL_ (some 116) rfl rfl Try.func25 (by kernel_rfl) rfl #[.int .i64 (wrap64 (t179 + 7))] rfl (by (try simp only [List.map_toArray, List.map_cons, List.map_nil]); first | done | rfl | (simp only [List.length_drop, List.length_take]; rfl)) ?_; (with_reducible refine (date_Week.calls (wrap64 (t179 + 7)) t196 t197 _ A27.out).mono ?_); rintro e w' ⟨rfl, ⟨nd, rfl⟩⟩; refine ⟨_, rfl, ?_⟩))
                                go_ret
                                exact ⟨by first | rfl | (simp [errW_none, errW_some] <;> rfl) | (simp [*, errW_none, errW_some] <;> rfl), by repeat (first | (with_reducible first | exact HB.out | apply below_alloc | apply pw_below_drewN | apply below_drew1) | exact HB.out)⟩
                          · rw [if_neg c29] at H
                            have c29b0 : decide (87658 < (wrap64 (t179 + 7))) = false := decide_eq_false c29
                            clear c29
                            by_cases c37 : t197 = 0
                            · rw [if_pos c37] at H
                              have c37b0 : (t197 == 0) = true := beq_iff_eq.mpr c37
                              have c37b1 : (t197 != 0) = false := bne_eq_false_iff_eq.mpr c37
                              clear c37
                              by_cases c38 : t194 = t196
                              · rw [if_pos c38] at H
                                have c38b0 : (t194 == t196) = true := beq_iff_eq.mpr c38
                                have c38b1 : (t194 != t196) = false := bne_eq_false_iff_eq.mpr c38
                                clear c38
                                replace H := Option.bind_eq_some_iff.mp H
                                obtain ⟨t200, A390, H⟩ := H
                                replace H : (some t200) = some r := H
                                have A39 := Aside0.mk A390
                                clear A390
                                obtain rfl := Option.some.inj H
                                go_wp2_with (first | ((with_reducible refine gate_callee (f := 25) rfl ?_); refine goesL_ (some 110) rfl rfl Try.func25 (by kernel_rfl) rfl #[.int .i64 t179] rfl (by (try simp only [List.map_toArray, List.map_cons, List.map_nil]); first | done | rfl | (simp only [List.length_drop, List.length_take]; rfl)) ?_; (with_reducible refine (date_Week.calls t179 t194 t195 _ A26.out).mono ?_); rintro e w' ⟨rfl, ⟨nd, rfl⟩⟩; refine ⟨_, rfl, ?_⟩) | ((with_reducible refine gate_callee (f := 25) rfl ?_); refine goesL_ (some 116) rfl rfl Try.func25 (by kernel_rfl) rfl #[.int .i64 (wrap64 (t179 + 7))] rfl (by (try simp only [List.map_toArray, List.map_cons, List.map_nil]); first | done | rfl | (simp only [List.length_drop, List.length_take]; rfl)) ?_; (with_reducible refine (date_Week.calls (wrap64 (t179 + 7)) t196 t197 _ A27.out).mono ?_); rintro e w' ⟨rfl, ⟨nd, rfl⟩⟩; refine ⟨_, rfl, ?_⟩) | (go_at_call 20; (with_reducible refine (annuitylaw04_wakes.calls kj21  t200 _ A39.out).mono ?_); rintro e w40 ⟨rfl, hb⟩; have n0_ := Aside0.mk (below_step (by repeat (first | (with_reducible first | exact HB.out | apply below_alloc | apply pw_below_drewN | apply below_drew1) | exact HB.out)) hb); clear HB; have HB := n0_; clear n0_; (try clear hb); (try clear hb2); (try clear hk); (try clear hi)))
                                go_ret
                                exact ⟨by first | rfl | (simp [errW_none, errW_some] <;> rfl) | (simp [*, errW_none, errW_some] <;> rfl), by repeat (first | (with_reducible first | exact HB.out | apply below_alloc | apply pw_below_drewN | apply below_drew1) | exact HB.out)⟩
                              · rw [if_neg c38] at H
                                have c38b0 : (t194 == t196) = false := beq_eq_false_iff_ne.mpr c38
                                have c38b1 : (t194 != t196) = true := bne_iff_ne.mpr c38
                                obtain rfl := Option.some.inj H
                                go_wp2_with (first | ((with_reducible refine gate_callee (f := 25) rfl ?_); refine goesL_ (some 110) rfl rfl Try.func25 (by kernel_rfl) rfl #[.int .i64 t179] rfl (by (try simp only [List.map_toArray, List.map_cons, List.map_nil]); first | done | rfl | (simp only [List.length_drop, List.length_take]; rfl)) ?_; (with_reducible refine (date_Week.calls t179 t194 t195 _ A26.out).mono ?_); rintro e w' ⟨rfl, ⟨nd, rfl⟩⟩; refine ⟨_, rfl, ?_⟩) | ((with_reducible refine gate_callee (f := 25) rfl ?_); refine goesL_ (some 116) rfl rfl Try.func25 (by kernel_rfl) rfl #[.int .i64 (wrap64 (t179 + 7))] rfl (by (try simp only [List.map_toArray, List.map_cons, List.map_nil]); first | done | rfl | (simp only [List.length_drop, List.length_take]; rfl)) ?_; (with_reducible refine (date_Week.calls (wrap64 (t179 + 7)) t196 t197 _ A27.out).mono ?_); rintro e w' ⟨rfl, ⟨nd, rfl⟩⟩; refine ⟨_, rfl, ?_⟩))
                                go_ret
                                exact ⟨by first | rfl | (simp [errW_none, errW_some] <;> rfl) | (simp [*, errW_none, errW_some] <;> rfl), by repeat (first | (with_reducible first | exact HB.out | apply below_alloc | apply pw_below_drewN | apply below_drew1) | exact HB.out)⟩
                            · rw [if_neg c37] at H
                              have c37b0 : (t197 == 0) = false := beq_eq_false_iff_ne.mpr c37
                              have c37b1 : (t197 != 0) = true := bne_iff_ne.mpr c37
                              obtain rfl := Option.some.inj H
                              go_wp2_with (first | ((with_reducible refine gate_callee (f := 25) rfl ?_); refine goesL_ (some 110) rfl rfl Try.func25 (by kernel_rfl) rfl #[.int .i64 t179] rfl (by (try simp only [List.map_toArray, List.map_cons, List.map_nil]); first | done | rfl | (simp only [List.length_drop, List.length_take]; rfl)) ?_; (with_reducible refine (date_Week.calls t179 t194 t195 _ A26.out).mono ?_); rintro e w' ⟨rfl, ⟨nd, rfl⟩⟩; refine ⟨_, rfl, ?_⟩) | ((with_reducible refine gate_callee (f := 25) rfl ?_); refine goesL_ (some 116) rfl rfl Try.func25 (by kernel_rfl) rfl #[.int .i64 (wrap64 (t179 + 7))] rfl (by (try simp only [List.map_toArray, List.map_cons, List.map_nil]); first | done | rfl | (simp only [List.length_drop, List.length_take]; rfl)) ?_; (with_reducible refine (date_Week.calls (wrap64 (t179 + 7)) t196 t197 _ A27.out).mono ?_); rintro e w' ⟨rfl, ⟨nd, rfl⟩⟩; refine ⟨_, rfl, ?_⟩))
                              go_ret
                              exact ⟨by first | rfl | (simp [errW_none, errW_some] <;> rfl) | (simp [*, errW_none, errW_some] <;> rfl), by repeat (first | (with_reducible first | exact HB.out | apply below_alloc | apply pw_below_drewN | apply below_drew1) | exact HB.out)⟩
                        · rw [if_neg c28] at H
                          have c28b0 : (t195 == 0) = false := beq_eq_false_iff_ne.mpr c28
                          have c28b1 : (t195 != 0) = true := bne_iff_ne.mpr c28
                          obtain rfl := Option.some.inj H
                          go_wp2_with (first | ((with_reducible refine gate_callee (f := 25) rfl ?_); refine goesL_ (some 110) rfl rfl Try.func25 (by kernel_rfl) rfl #[.int .i64 t179] rfl (by (try simp only [List.map_toArray, List.map_cons, List.map_nil]); first | done | rfl | (simp only [List.length_drop, List.length_take]; rfl)) ?_; (with_reducible refine (date_Week.calls t179 t194 t195 _ A26.out).mono ?_); rintro e w' ⟨rfl, ⟨nd, rfl⟩⟩; refine ⟨_, rfl, ?_⟩) | ((with_reducible refine gate_callee (f := 25) rfl ?_); refine goesL_ (some 116) rfl rfl Try.func25 (by kernel_rfl) rfl #[.int .i64 (wrap64 (t179 + 7))] rfl (by (try simp only [List.map_toArray, List.map_cons, List.map_nil]); first | done | rfl | (simp only [List.length_drop, List.length_take]; rfl)) ?_; (with_reducible refine (date_Week.calls (wrap64 (t179 + 7)) t196 t197 _ A27.out).mono ?_); rintro e w' ⟨rfl, ⟨nd, rfl⟩⟩; refine ⟨_, rfl, ?_⟩))
                          go_ret
                          exact ⟨by first | rfl | (simp [errW_none, errW_some] <;> rfl) | (simp [*, errW_none, errW_some] <;> rfl), by repeat (first | (with_reducible first | exact HB.out | apply below_alloc | apply pw_below_drewN | apply below_drew1) | exact HB.out)⟩

/-- THE ONE PURE STATEMENT of annuitylaw04_DateOrder: yours. -/
def annuitylaw04_DateOrder.Pure : Prop := ∀ (a0 : Int) (a1 : Int) (a2 : Int), (Lit.int .i64 a0).wf = true → (Lit.int .i64 a1).wf = true → (Lit.int .u8 a2).wf = true → ∃ k, annuitylaw04_DateOrder.f k a0 a1 a2 = some true
theorem annuitylaw04_DateOrder.walk (P : annuitylaw04_DateOrder.Pure) (a0 : Int) (a1 : Int) (a2 : Int) (w : World) (w0 : (Lit.int .i64 a0).wf = true) (w1 : (Lit.int .i64 a1).wf = true) (w2 : (Lit.int .u8 a2).wf = true) :
    Calls Try.prog 6 #[.int .i64 a0, .int .i64 a1, .int .u8 a2] w fun e w' => e = .returned (.bool true) ∧ Below w.heap.size w w' := by
  obtain ⟨k, h⟩ := P a0 a1 a2 w0 w1 w2
  refine (annuitylaw04_DateOrder.calls k a0 a1 a2 true w h).mono ?_
  rintro e w' ⟨rfl, hd⟩
  exact ⟨rfl, hd⟩

end Go.Proofs.Ytgogccjfoclakaa.P
