/- Functions of the program as plain Lean functions, and proofs that its calls come to just their answers, where they tell one (written by a program of this session). -/
import Derived.Test.YtgogccjfoclakaaPx0
import Derived.Test.YtgogccjfoclakaaPx1
import Derived.Test.YtgogccjfoclakaaPx5
import Derived.Test.YtgogccjfoclakaaPx6
import Derived.Test.YtgogccjfoclakaaPx7
import Derived.Test.YtgogccjfoclakaaPx10
namespace Go.Proofs.Ytgogccjfoclakaa.P
open Go.RowKit Go.Proofs.YtgogccjfoclakaaW.PrintWords Go.Proofs.YtgogccjfoclakaaW.PrintLast Go.Proofs.YtgogccjfoclakaaW.PrintMore
attribute [local go_sem] max2_int min2_int max_two min_two max_three min_three max_four min_four   -- for this text's walks alone
set_option linter.unusedVariables false
set_option linter.unusedSimpArgs false

/-! ### annuitylaw04_DateBack: function 5 -/
def annuitylaw04_DateBack.j0 : Nat → Int → Int → Int → Int → Int → Int → Bool → Option (Bool)
  | 0, _, _, _, _, _, _, _ => none
  | k + 1, x4, x5, x6, x10, x11, x12, x82 => if x82 = true then (some false) else (if x12 = 1 then ((date_Days.f x4 x5).bind fun t174 => (if x6 = t174 then (if x10 = x4 then (if x11 = (wrap64 (x5 + 1)) then ((annuitylaw04_wakes.f k).bind fun t175 => (some t175)) else (if x10 = (wrap64 (x4 + 1)) then (if x5 = 12 then (if x11 = 1 then ((annuitylaw04_wakes.f k).bind fun t176 => (some t176)) else (some false)) else (some false)) else (some false))) else (if x10 = (wrap64 (x4 + 1)) then (if x5 = 12 then (if x11 = 1 then ((annuitylaw04_wakes.f k).bind fun t177 => (some t177)) else (some false)) else (some false)) else (some false))) else (some false))) else (if x10 = x4 then (if x11 = x5 then (if x12 = (wrap64 (x6 + 1)) then ((annuitylaw04_wakes.f k).bind fun t178 => (some t178)) else (some false)) else (some false)) else (some false)))
def annuitylaw04_DateBack.f (k : Nat) (a0 : Int) : Option (Bool) := (annuitykeep_Mod.f a0 87658).bind fun t159 => ((date_Civil.f k t159).bind fun bt160 => ((date_Of.f k bt160.1 bt160.2.1 bt160.2.2.1).bind fun bt164 => ((date_Civil.f k (wrap64 (t159 + 1))).bind fun bt166 => ((date_Week.f t159).bind fun bt170 => ((date_Week.f (wrap64 (t159 + 1))).bind fun bt172 => (if bt160.2.2.2 = 0 then (if bt164.2 = 0 then (if bt166.2.2.2 = 0 then (if bt170.2 = 0 then (if bt172.2 = 0 then (if bt164.1 = t159 then (annuitylaw04_DateBack.j0 k bt160.1 bt160.2.1 bt160.2.2.1 bt166.1 bt166.2.1 bt166.2.2.1 (bt172.1 != (Int.tmod (wrap64 (bt170.1 + 1)) 7))) else (annuitylaw04_DateBack.j0 k bt160.1 bt160.2.1 bt160.2.2.1 bt166.1 bt166.2.1 bt166.2.2.1 true)) else (annuitylaw04_DateBack.j0 k bt160.1 bt160.2.1 bt160.2.2.1 bt166.1 bt166.2.1 bt166.2.2.1 true)) else (annuitylaw04_DateBack.j0 k bt160.1 bt160.2.1 bt160.2.2.1 bt166.1 bt166.2.1 bt166.2.2.1 true)) else (annuitylaw04_DateBack.j0 k bt160.1 bt160.2.1 bt160.2.2.1 bt166.1 bt166.2.1 bt166.2.2.1 true)) else (annuitylaw04_DateBack.j0 k bt160.1 bt160.2.1 bt160.2.2.1 bt166.1 bt166.2.1 bt166.2.2.1 true)) else (annuitylaw04_DateBack.j0 k bt160.1 bt160.2.1 bt160.2.2.1 bt166.1 bt166.2.1 bt166.2.2.1 true)))))))
theorem annuitylaw04_DateBack.mono_l : ∀ k, (∀ y0 y1 y2 y3 y4 y5 y6, LeO (annuitylaw04_DateBack.j0 k y0 y1 y2 y3 y4 y5 y6) (annuitylaw04_DateBack.j0 (k + 1) y0 y1 y2 y3 y4 y5 y6))
  | 0 => fun _ _ _ _ _ _ _ r h => by simp [annuitylaw04_DateBack.j0] at h
  | k + 1 => by
    have ih0 := annuitylaw04_DateBack.mono_l k
    · intro y0 y1 y2 y3 y4 y5 y6
      unfold annuitylaw04_DateBack.j0
      repeat' first
      | (with_reducible exact ih0 _ _ _ _ _ _ _)
      | (with_reducible exact annuitylaw04_wakes.mono _)
      | (with_reducible exact date_Civil.mono _ _)
      | (with_reducible exact date_Of.mono _ _ _ _)
      | (with_reducible exact LeO.refl _)
      | (with_reducible exact LeO.none _)
      | (with_reducible refine LeO.ite ?_ ?_)
      | (with_reducible refine LeO.bind ?_ (fun _ => ?_))
      | exact ih0 _ _ _ _ _ _ _
      | exact annuitylaw04_wakes.mono _
      | exact date_Civil.mono _ _
      | exact date_Of.mono _ _ _ _
      | exact LeO.none _
      | refine LeO.ite ?_ ?_
      | refine LeO.bind ?_ (fun _ => ?_)
theorem annuitylaw04_DateBack.mono : ∀ a0 k, LeO (annuitylaw04_DateBack.f k a0) (annuitylaw04_DateBack.f (k + 1) a0) := by
  intro a0 k
  have ih0 := annuitylaw04_DateBack.mono_l k
  unfold annuitylaw04_DateBack.f
  repeat' first
      | (with_reducible exact ih0 _ _ _ _ _ _ _)
      | (with_reducible exact annuitylaw04_wakes.mono _)
      | (with_reducible exact date_Civil.mono _ _)
      | (with_reducible exact date_Of.mono _ _ _ _)
      | (with_reducible exact LeO.refl _)
      | (with_reducible exact LeO.none _)
      | (with_reducible refine LeO.ite ?_ ?_)
      | (with_reducible refine LeO.bind ?_ (fun _ => ?_))
      | exact ih0 _ _ _ _ _ _ _
      | exact annuitylaw04_wakes.mono _
      | exact date_Civil.mono _ _
      | exact date_Of.mono _ _ _ _
      | exact LeO.none _
      | refine LeO.ite ?_ ?_
      | refine LeO.bind ?_ (fun _ => ?_)
set_option maxHeartbeats 8000000 in
set_option maxRecDepth 100000 in
theorem annuitylaw04_DateBack.calls (k : Nat) (a0 : Int) (r : Bool) (w : World) (h : annuitylaw04_DateBack.f k a0 = some r) :
    Calls Try.prog 5 #[.int .i64 a0] w fun e w' => e = .returned (.bool r) ∧ Below w.heap.size w w' := by
  have HB := Aside0.mk (Below.refl w.heap.size w)
  have H : ((annuitykeep_Mod.f a0 87658).bind fun t159 => ((date_Civil.f k t159).bind fun bt160 => ((date_Of.f k bt160.1 bt160.2.1 bt160.2.2.1).bind fun bt164 => ((date_Civil.f k (wrap64 (t159 + 1))).bind fun bt166 => ((date_Week.f t159).bind fun bt170 => ((date_Week.f (wrap64 (t159 + 1))).bind fun bt172 => (if bt160.2.2.2 = 0 then (if bt164.2 = 0 then (if bt166.2.2.2 = 0 then (if bt170.2 = 0 then (if bt172.2 = 0 then (if bt164.1 = t159 then (annuitylaw04_DateBack.j0 k bt160.1 bt160.2.1 bt160.2.2.1 bt166.1 bt166.2.1 bt166.2.2.1 (bt172.1 != (Int.tmod (wrap64 (bt170.1 + 1)) 7))) else (annuitylaw04_DateBack.j0 k bt160.1 bt160.2.1 bt160.2.2.1 bt166.1 bt166.2.1 bt166.2.2.1 true)) else (annuitylaw04_DateBack.j0 k bt160.1 bt160.2.1 bt160.2.2.1 bt166.1 bt166.2.1 bt166.2.2.1 true)) else (annuitylaw04_DateBack.j0 k bt160.1 bt160.2.1 bt160.2.2.1 bt166.1 bt166.2.1 bt166.2.2.1 true)) else (annuitylaw04_DateBack.j0 k bt160.1 bt160.2.1 bt160.2.2.1 bt166.1 bt166.2.1 bt166.2.2.1 true)) else (annuitylaw04_DateBack.j0 k bt160.1 bt160.2.1 bt160.2.2.1 bt166.1 bt166.2.1 bt166.2.2.1 true)) else (annuitylaw04_DateBack.j0 k bt160.1 bt160.2.1 bt160.2.2.1 bt166.1 bt166.2.1 bt166.2.2.1 true)))))))) = some r := h
  clear h
  replace H := Option.bind_eq_some_iff.mp H
  obtain ⟨t159, A20, H⟩ := H
  replace H : ((date_Civil.f k t159).bind fun bt160 => ((date_Of.f k bt160.1 bt160.2.1 bt160.2.2.1).bind fun bt164 => ((date_Civil.f k (wrap64 (t159 + 1))).bind fun bt166 => ((date_Week.f t159).bind fun bt170 => ((date_Week.f (wrap64 (t159 + 1))).bind fun bt172 => (if bt160.2.2.2 = 0 then (if bt164.2 = 0 then (if bt166.2.2.2 = 0 then (if bt170.2 = 0 then (if bt172.2 = 0 then (if bt164.1 = t159 then (annuitylaw04_DateBack.j0 k bt160.1 bt160.2.1 bt160.2.2.1 bt166.1 bt166.2.1 bt166.2.2.1 (bt172.1 != (Int.tmod (wrap64 (bt170.1 + 1)) 7))) else (annuitylaw04_DateBack.j0 k bt160.1 bt160.2.1 bt160.2.2.1 bt166.1 bt166.2.1 bt166.2.2.1 true)) else (annuitylaw04_DateBack.j0 k bt160.1 bt160.2.1 bt160.2.2.1 bt166.1 bt166.2.1 bt166.2.2.1 true)) else (annuitylaw04_DateBack.j0 k bt160.1 bt160.2.1 bt160.2.2.1 bt166.1 bt166.2.1 bt166.2.2.1 true)) else (annuitylaw04_DateBack.j0 k bt160.1 bt160.2.1 bt160.2.2.1 bt166.1 bt166.2.1 bt166.2.2.1 true)) else (annuitylaw04_DateBack.j0 k bt160.1 bt160.2.1 bt160.2.2.1 bt166.1 bt166.2.1 bt166.2.2.1 true)) else (annuitylaw04_DateBack.j0 k bt160.1 bt160.2.1 bt160.2.2.1 bt166.1 bt166.2.1 bt166.2.2.1 true))))))) = some r := H
  have A2 := Aside0.mk A20
  clear A20
  replace H := Option.bind_eq_some_iff.mp H
  obtain ⟨⟨t160, t161, t162, t163⟩, A30, H⟩ := H
  replace H : ((date_Of.f k t160 t161 t162).bind fun bt164 => ((date_Civil.f k (wrap64 (t159 + 1))).bind fun bt166 => ((date_Week.f t159).bind fun bt170 => ((date_Week.f (wrap64 (t159 + 1))).bind fun bt172 => (if t163 = 0 then (if bt164.2 = 0 then (if bt166.2.2.2 = 0 then (if bt170.2 = 0 then (if bt172.2 = 0 then (if bt164.1 = t159 then (annuitylaw04_DateBack.j0 k t160 t161 t162 bt166.1 bt166.2.1 bt166.2.2.1 (bt172.1 != (Int.tmod (wrap64 (bt170.1 + 1)) 7))) else (annuitylaw04_DateBack.j0 k t160 t161 t162 bt166.1 bt166.2.1 bt166.2.2.1 true)) else (annuitylaw04_DateBack.j0 k t160 t161 t162 bt166.1 bt166.2.1 bt166.2.2.1 true)) else (annuitylaw04_DateBack.j0 k t160 t161 t162 bt166.1 bt166.2.1 bt166.2.2.1 true)) else (annuitylaw04_DateBack.j0 k t160 t161 t162 bt166.1 bt166.2.1 bt166.2.2.1 true)) else (annuitylaw04_DateBack.j0 k t160 t161 t162 bt166.1 bt166.2.1 bt166.2.2.1 true)) else (annuitylaw04_DateBack.j0 k t160 t161 t162 bt166.1 bt166.2.1 bt166.2.2.1 true)))))) = some r := H
  have A3 := Aside0.mk A30
  clear A30
  replace H := Option.bind_eq_some_iff.mp H
  obtain ⟨⟨t164, t165⟩, A40, H⟩ := H
  replace H : ((date_Civil.f k (wrap64 (t159 + 1))).bind fun bt166 => ((date_Week.f t159).bind fun bt170 => ((date_Week.f (wrap64 (t159 + 1))).bind fun bt172 => (if t163 = 0 then (if t165 = 0 then (if bt166.2.2.2 = 0 then (if bt170.2 = 0 then (if bt172.2 = 0 then (if t164 = t159 then (annuitylaw04_DateBack.j0 k t160 t161 t162 bt166.1 bt166.2.1 bt166.2.2.1 (bt172.1 != (Int.tmod (wrap64 (bt170.1 + 1)) 7))) else (annuitylaw04_DateBack.j0 k t160 t161 t162 bt166.1 bt166.2.1 bt166.2.2.1 true)) else (annuitylaw04_DateBack.j0 k t160 t161 t162 bt166.1 bt166.2.1 bt166.2.2.1 true)) else (annuitylaw04_DateBack.j0 k t160 t161 t162 bt166.1 bt166.2.1 bt166.2.2.1 true)) else (annuitylaw04_DateBack.j0 k t160 t161 t162 bt166.1 bt166.2.1 bt166.2.2.1 true)) else (annuitylaw04_DateBack.j0 k t160 t161 t162 bt166.1 bt166.2.1 bt166.2.2.1 true)) else (annuitylaw04_DateBack.j0 k t160 t161 t162 bt166.1 bt166.2.1 bt166.2.2.1 true))))) = some r := H
  have A4 := Aside0.mk A40
  clear A40
  replace H := Option.bind_eq_some_iff.mp H
  obtain ⟨⟨t166, t167, t168, t169⟩, A50, H⟩ := H
  replace H : ((date_Week.f t159).bind fun bt170 => ((date_Week.f (wrap64 (t159 + 1))).bind fun bt172 => (if t163 = 0 then (if t165 = 0 then (if t169 = 0 then (if bt170.2 = 0 then (if bt172.2 = 0 then (if t164 = t159 then (annuitylaw04_DateBack.j0 k t160 t161 t162 t166 t167 t168 (bt172.1 != (Int.tmod (wrap64 (bt170.1 + 1)) 7))) else (annuitylaw04_DateBack.j0 k t160 t161 t162 t166 t167 t168 true)) else (annuitylaw04_DateBack.j0 k t160 t161 t162 t166 t167 t168 true)) else (annuitylaw04_DateBack.j0 k t160 t161 t162 t166 t167 t168 true)) else (annuitylaw04_DateBack.j0 k t160 t161 t162 t166 t167 t168 true)) else (annuitylaw04_DateBack.j0 k t160 t161 t162 t166 t167 t168 true)) else (annuitylaw04_DateBack.j0 k t160 t161 t162 t166 t167 t168 true)))) = some r := H
  have A5 := Aside0.mk A50
  clear A50
  replace H := Option.bind_eq_some_iff.mp H
  obtain ⟨⟨t170, t171⟩, A60, H⟩ := H
  replace H : ((date_Week.f (wrap64 (t159 + 1))).bind fun bt172 => (if t163 = 0 then (if t165 = 0 then (if t169 = 0 then (if t171 = 0 then (if bt172.2 = 0 then (if t164 = t159 then (annuitylaw04_DateBack.j0 k t160 t161 t162 t166 t167 t168 (bt172.1 != (Int.tmod (wrap64 (t170 + 1)) 7))) else (annuitylaw04_DateBack.j0 k t160 t161 t162 t166 t167 t168 true)) else (annuitylaw04_DateBack.j0 k t160 t161 t162 t166 t167 t168 true)) else (annuitylaw04_DateBack.j0 k t160 t161 t162 t166 t167 t168 true)) else (annuitylaw04_DateBack.j0 k t160 t161 t162 t166 t167 t168 true)) else (annuitylaw04_DateBack.j0 k t160 t161 t162 t166 t167 t168 true)) else (annuitylaw04_DateBack.j0 k t160 t161 t162 t166 t167 t168 true))) = some r := H
  have A6 := Aside0.mk A60
  clear A60
  replace H := Option.bind_eq_some_iff.mp H
  obtain ⟨⟨t172, t173⟩, A70, H⟩ := H
  replace H : (if t163 = 0 then (if t165 = 0 then (if t169 = 0 then (if t171 = 0 then (if t173 = 0 then (if t164 = t159 then (annuitylaw04_DateBack.j0 k t160 t161 t162 t166 t167 t168 (t172 != (Int.tmod (wrap64 (t170 + 1)) 7))) else (annuitylaw04_DateBack.j0 k t160 t161 t162 t166 t167 t168 true)) else (annuitylaw04_DateBack.j0 k t160 t161 t162 t166 t167 t168 true)) else (annuitylaw04_DateBack.j0 k t160 t161 t162 t166 t167 t168 true)) else (annuitylaw04_DateBack.j0 k t160 t161 t162 t166 t167 t168 true)) else (annuitylaw04_DateBack.j0 k t160 t161 t162 t166 t167 t168 true)) else (annuitylaw04_DateBack.j0 k t160 t161 t162 t166 t167 t168 true)) = some r := H
  have A7 := Aside0.mk A70
  clear A70
  have HC8 := Aside0.mk H
  clear H
  go_enter Try.func5, Try.ntmps5
  go_upto_region 7 with (first | ((with_reducible refine gate_callee (f := 23) rfl ?_); refine goesL_ (some 19) rfl rfl Try.func23 (by kernel_rfl) rfl #[.int .i64 a0, .int .i64 87658] rfl (by (try simp only [List.map_toArray, List.map_cons, List.map_nil]); first | done | rfl | (simp only [List.length_drop, List.length_take]; rfl)) ?_; (with_reducible refine (annuitykeep_Mod.calls a0 87658 t159 _ A2.out).mono ?_); rintro e w' ⟨rfl, ⟨nd, rfl⟩⟩; refine ⟨_, rfl, ?_⟩) | ((with_reducible refine gate_callee (f := 24) rfl ?_); refine goesL_ (some 22) rfl rfl Try.func24 (by kernel_rfl) rfl #[.int .i64 t159] rfl (by (try simp only [List.map_toArray, List.map_cons, List.map_nil]); first | done | rfl | (simp only [List.length_drop, List.length_take]; rfl)) ?_; (with_reducible refine (date_Civil.calls k t159 t160 t161 t162 t163 _ A3.out).mono ?_); rintro e w' ⟨rfl, ⟨nd, rfl⟩⟩; refine ⟨_, rfl, ?_⟩) | ((with_reducible refine gate_callee (f := 14) rfl ?_); refine goesL_ (some 31) rfl rfl Try.func14 (by kernel_rfl) rfl #[.int .i64 t160, .int .i64 t161, .int .i64 t162] rfl (by (try simp only [List.map_toArray, List.map_cons, List.map_nil]); first | done | rfl | (simp only [List.length_drop, List.length_take]; rfl)) ?_; (with_reducible refine (date_Of.calls k t160 t161 t162 t164 t165 _ A4.out).mono ?_); rintro e w' ⟨rfl, ⟨nd, rfl⟩⟩; refine ⟨_, rfl, ?_⟩) | ((with_reducible refine gate_callee (f := 24) rfl ?_); refine goesL_ (some 37) rfl rfl Try.func24 (by kernel_rfl) rfl #[.int .i64 (wrap64 (t159 + 1))] rfl (by (try simp only [List.map_toArray, List.map_cons, List.map_nil]); first | done | rfl | (simp only [List.length_drop, List.length_take]; rfl)) ?_; (with_reducible refine (date_Civil.calls k (wrap64 (t159 + 1)) t166 t167 t168 t169 _ A5.out).mono ?_); rintro e w' ⟨rfl, ⟨nd, rfl⟩⟩; refine ⟨_, rfl, ?_⟩) | ((with_reducible refine gate_callee (f := 25) rfl ?_); refine goesL_ (some 44) rfl rfl Try.func25 (by kernel_rfl) rfl #[.int .i64 t159] rfl (by (try simp only [List.map_toArray, List.map_cons, List.map_nil]); first | done | rfl | (simp only [List.length_drop, List.length_take]; rfl)) ?_; (with_reducible refine (date_Week.calls t159 t170 t171 _ A6.out).mono ?_); rintro e w' ⟨rfl, ⟨nd, rfl⟩⟩; refine ⟨_, rfl, ?_⟩) | ((with_reducible refine gate_callee (f := 25) rfl ?_); refine goesL_ (some 50) rfl rfl Try.func25 (by kernel_rfl) rfl #[.int .i64 (wrap64 (t159 + 1))] rfl (by (try simp only [List.map_toArray, List.map_cons, List.map_nil]); first | done | rfl | (simp only [List.length_drop, List.length_take]; rfl)) ?_; (with_reducible refine (date_Week.calls (wrap64 (t159 + 1)) t172 t173 _ A7.out).mono ?_); rintro e w' ⟨rfl, ⟨nd, rfl⟩⟩; refine ⟨_, rfl, ?_⟩))
  (try simp only [Act.put, List.setIfInBounds_toArray, List.set_cons_zero, List.set_cons_succ])
  go_cut [82] (fun v82 wc => ∃ (kq : Nat) (x82_7 : Bool), v82 = .bool x82_7 ∧ Aside0 (annuitylaw04_DateBack.j0 kq t160 t161 t162 t166 t167 t168 x82_7 = some r) ∧ Aside0 (kq ≤ k) ∧ Aside0 (Below w.heap.size w wc))
  case first =>
    have H := HC8.out
    clear HC8
    by_cases c9 : t163 = 0
    · rw [if_pos c9] at H
      have c9b0 : (t163 == 0) = true := beq_iff_eq.mpr c9
      have c9b1 : (t163 != 0) = false := bne_eq_false_iff_eq.mpr c9
      clear c9
      (first | rw [c9b0] | (simp only [i64_w, i32_w]; rw [c9b0]) | skip)
      by_cases c10 : t165 = 0
      · rw [if_pos c10] at H
        have c10b0 : (t165 == 0) = true := beq_iff_eq.mpr c10
        have c10b1 : (t165 != 0) = false := bne_eq_false_iff_eq.mpr c10
        clear c10
        by_cases c11 : t169 = 0
        · rw [if_pos c11] at H
          have c11b0 : (t169 == 0) = true := beq_iff_eq.mpr c11
          have c11b1 : (t169 != 0) = false := bne_eq_false_iff_eq.mpr c11
          clear c11
          by_cases c12 : t171 = 0
          · rw [if_pos c12] at H
            have c12b0 : (t171 == 0) = true := beq_iff_eq.mpr c12
            have c12b1 : (t171 != 0) = false := bne_eq_false_iff_eq.mpr c12
            clear c12
            by_cases c13 : t173 = 0
            · rw [if_pos c13] at H
              have c13b0 : (t173 == 0) = true := beq_iff_eq.mpr c13
              have c13b1 : (t173 != 0) = false := bne_eq_false_iff_eq.mpr c13
              clear c13
              by_cases c14 : t164 = t159
              · rw [if_pos c14] at H
                have c14b0 : (t164 == t159) = true := beq_iff_eq.mpr c14
                have c14b1 : (t164 != t159) = false := bne_eq_false_iff_eq.mpr c14
                clear c14
                have H' := Aside0.mk H
                clear H
                go_wp2
                go_meet
                case rel => exact ⟨_, ((t172 != (Int.tmod (wrap64 (t170 + 1)) 7))), (by first | rfl | (simp; done) | (simp [*]; done)), H', ⟨by first | omega | exact Nat.le_refl _⟩, ⟨by repeat (first | (with_reducible first | exact HB.out | apply below_alloc | apply pw_below_drewN | apply below_drew1) | exact HB.out)⟩⟩
              · rw [if_neg c14] at H
                have c14b0 : (t164 == t159) = false := beq_eq_false_iff_ne.mpr c14
                have c14b1 : (t164 != t159) = true := bne_iff_ne.mpr c14
                have H' := Aside0.mk H
                clear H
                go_wp2
                go_meet
                case rel => exact ⟨_, (true), (by first | rfl | (simp; done) | (simp [*]; done)), H', ⟨by first | omega | exact Nat.le_refl _⟩, ⟨by repeat (first | (with_reducible first | exact HB.out | apply below_alloc | apply pw_below_drewN | apply below_drew1) | exact HB.out)⟩⟩
            · rw [if_neg c13] at H
              have c13b0 : (t173 == 0) = false := beq_eq_false_iff_ne.mpr c13
              have c13b1 : (t173 != 0) = true := bne_iff_ne.mpr c13
              have H' := Aside0.mk H
              clear H
              go_wp2
              go_meet
              case rel => exact ⟨_, (true), (by first | rfl | (simp; done) | (simp [*]; done)), H', ⟨by first | omega | exact Nat.le_refl _⟩, ⟨by repeat (first | (with_reducible first | exact HB.out | apply below_alloc | apply pw_below_drewN | apply below_drew1) | exact HB.out)⟩⟩
          · rw [if_neg c12] at H
            have c12b0 : (t171 == 0) = false := beq_eq_false_iff_ne.mpr c12
            have c12b1 : (t171 != 0) = true := bne_iff_ne.mpr c12
            have H' := Aside0.mk H
            clear H
            go_wp2
            go_meet
            case rel => exact ⟨_, (true), (by first | rfl | (simp; done) | (simp [*]; done)), H', ⟨by first | omega | exact Nat.le_refl _⟩, ⟨by repeat (first | (with_reducible first | exact HB.out | apply below_alloc | apply pw_below_drewN | apply below_drew1) | exact HB.out)⟩⟩
        · rw [if_neg c11] at H
          have c11b0 : (t169 == 0) = false := beq_eq_false_iff_ne.mpr c11
          have c11b1 : (t169 != 0) = true := bne_iff_ne.mpr c11
          have H' := Aside0.mk H
          clear H
          go_wp2
          go_meet
          case rel => exact ⟨_, (true), (by first | rfl | (simp; done) | (simp [*]; done)), H', ⟨by first | omega | exact Nat.le_refl _⟩, ⟨by repeat (first | (with_reducible first | exact HB.out | apply below_alloc | apply pw_below_drewN | apply below_drew1) | exact HB.out)⟩⟩
      · rw [if_neg c10] at H
        have c10b0 : (t165 == 0) = false := beq_eq_false_iff_ne.mpr c10
        have c10b1 : (t165 != 0) = true := bne_iff_ne.mpr c10
        have H' := Aside0.mk H
        clear H
        go_wp2
        go_meet
        case rel => exact ⟨_, (true), (by first | rfl | (simp; done) | (simp [*]; done)), H', ⟨by first | omega | exact Nat.le_refl _⟩, ⟨by repeat (first | (with_reducible first | exact HB.out | apply below_alloc | apply pw_below_drewN | apply below_drew1) | exact HB.out)⟩⟩
    · rw [if_neg c9] at H
      have c9b0 : (t163 == 0) = false := beq_eq_false_iff_ne.mpr c9
      have c9b1 : (t163 != 0) = true := bne_iff_ne.mpr c9
      (first | rw [c9b0] | (simp only [i64_w, i32_w]; rw [c9b0]) | skip)
      have H' := Aside0.mk H
      clear H
      go_wp2
      go_meet
      case rel => exact ⟨_, (true), (by first | rfl | (simp; done) | (simp [*]; done)), H', ⟨by first | omega | exact Nat.le_refl _⟩, ⟨by repeat (first | (with_reducible first | exact HB.out | apply below_alloc | apply pw_below_drewN | apply below_drew1) | exact HB.out)⟩⟩
  case rest =>
    clear HC8
    try clear c1
    try clear c2
    try clear p2
    try clear c5
    try clear p6
    try clear c9
    try clear c9b0
    try clear c9b1
    try clear c10
    try clear c10b0
    try clear c10b1
    try clear c11
    try clear c11b0
    try clear c11b1
    try clear c12
    try clear c12b0
    try clear c12b1
    try clear c13
    try clear c13b0
    try clear c13b1
    try clear c14
    try clear c14b0
    try clear c14b1
    obtain ⟨kq, x82_7, rfl, HA, HJ7, HB⟩ := hcut
    cases kq with
    | zero => exact absurd HA.out (by simp [annuitylaw04_DateBack.j0])
    | succ kj7 =>
      have H := HA.out
      clear HA
      simp only [annuitylaw04_DateBack.j0] at H
      by_cases c15 : x82_7 = true
      · subst c15
        have H1 : (some false) = some r := by rw [if_pos rfl] at H; exact H
        clear H
        have H := H1
        clear H1
        obtain rfl := Option.some.inj H
        go_wp2
        go_ret
        exact ⟨by first | rfl | (simp [errW_none, errW_some] <;> rfl) | (simp [*, errW_none, errW_some] <;> rfl), by repeat (first | (with_reducible first | exact HB.out | apply below_alloc | apply pw_below_drewN | apply below_drew1) | exact HB.out)⟩
      · replace c15 := Bool.eq_false_iff.mpr c15
        subst c15
        have H1 : (if t168 = 1 then ((date_Days.f t160 t161).bind fun t174 => (if t162 = t174 then (if t166 = t160 then (if t167 = (wrap64 (t161 + 1)) then ((annuitylaw04_wakes.f kj7).bind fun t175 => (some t175)) else (if t166 = (wrap64 (t160 + 1)) then (if t161 = 12 then (if t167 = 1 then ((annuitylaw04_wakes.f kj7).bind fun t176 => (some t176)) else (some false)) else (some false)) else (some false))) else (if t166 = (wrap64 (t160 + 1)) then (if t161 = 12 then (if t167 = 1 then ((annuitylaw04_wakes.f kj7).bind fun t177 => (some t177)) else (some false)) else (some false)) else (some false))) else (some false))) else (if t166 = t160 then (if t167 = t161 then (if t168 = (wrap64 (t162 + 1)) then ((annuitylaw04_wakes.f kj7).bind fun t178 => (some t178)) else (some false)) else (some false)) else (some false))) = some r := by rw [if_neg (show ¬ (false = true) by decide)] at H; exact H
        clear H
        have H := H1
        clear H1
        by_cases c16 : t168 = 1
        · rw [if_pos c16] at H
          have c16b0 : (t168 == 1) = true := beq_iff_eq.mpr c16
          have c16b1 : (t168 != 1) = false := bne_eq_false_iff_eq.mpr c16
          clear c16
          replace H := Option.bind_eq_some_iff.mp H
          obtain ⟨t174, A170, H⟩ := H
          replace H : (if t162 = t174 then (if t166 = t160 then (if t167 = (wrap64 (t161 + 1)) then ((annuitylaw04_wakes.f kj7).bind fun t175 => (some t175)) else (if t166 = (wrap64 (t160 + 1)) then (if t161 = 12 then (if t167 = 1 then ((annuitylaw04_wakes.f kj7).bind fun t176 => (some t176)) else (some false)) else (some false)) else (some false))) else (if t166 = (wrap64 (t160 + 1)) then (if t161 = 12 then (if t167 = 1 then ((annuitylaw04_wakes.f kj7).bind fun t177 => (some t177)) else (some false)) else (some false)) else (some false))) else (some false)) = some r := H
          have A17 := Aside0.mk A170
          clear A170
          by_cases c18 : t162 = t174
          · rw [if_pos c18] at H
            have c18b0 : (t162 == t174) = true := beq_iff_eq.mpr c18
            have c18b1 : (t162 != t174) = false := bne_eq_false_iff_eq.mpr c18
            clear c18
            by_cases c19 : t166 = t160
            · rw [if_pos c19] at H
              have c19b0 : (t166 == t160) = true := beq_iff_eq.mpr c19
              have c19b1 : (t166 != t160) = false := bne_eq_false_iff_eq.mpr c19
              clear c19
              by_cases c20 : t167 = (wrap64 (t161 + 1))
              · rw [if_pos c20] at H
                have c20b0 : (t167 == (wrap64 (t161 + 1))) = true := beq_iff_eq.mpr c20
                have c20b1 : (t167 != (wrap64 (t161 + 1))) = false := bne_eq_false_iff_eq.mpr c20
                clear c20
                replace H := Option.bind_eq_some_iff.mp H
                obtain ⟨t175, A210, H⟩ := H
                replace H : (some t175) = some r := H
                have A21 := Aside0.mk A210
                clear A210
                obtain rfl := Option.some.inj H
                go_wp2_with (first | ((with_reducible refine gate_callee (f := 18) rfl ?_); refine goesL_ (some 88) rfl rfl Try.func18 (by kernel_rfl) rfl #[.int .i64 t160, .int .i64 t161] rfl (by (try simp only [List.map_toArray, List.map_cons, List.map_nil]); first | done | rfl | (simp only [List.length_drop, List.length_take]; rfl)) ?_; (with_reducible refine (date_Days.calls t160 t161 t174 _ A17.out).mono ?_); rintro e w' ⟨rfl, ⟨nd, rfl⟩⟩; refine ⟨_, rfl, ?_⟩) | (go_at_call 20; (with_reducible refine (annuitylaw04_wakes.calls kj7  t175 _ A21.out).mono ?_); rintro e w22 ⟨rfl, hb⟩; have n0_ := Aside0.mk (below_step (by repeat (first | (with_reducible first | exact HB.out | apply below_alloc | apply pw_below_drewN | apply below_drew1) | exact HB.out)) hb); clear HB; have HB := n0_; clear n0_; (try clear hb); (try clear hb2); (try clear hk); (try clear hi)))
                go_ret
                exact ⟨by first | rfl | (simp [errW_none, errW_some] <;> rfl) | (simp [*, errW_none, errW_some] <;> rfl), by repeat (first | (with_reducible first | exact HB.out | apply below_alloc | apply pw_below_drewN | apply below_drew1) | exact HB.out)⟩
              · rw [if_neg c20] at H
                have c20b0 : (t167 == (wrap64 (t161 + 1))) = false := beq_eq_false_iff_ne.mpr c20
                have c20b1 : (t167 != (wrap64 (t161 + 1))) = true := bne_iff_ne.mpr c20
                by_cases c23 : t166 = (wrap64 (t160 + 1))
                · rw [if_pos c23] at H
                  have c23b0 : (t166 == (wrap64 (t160 + 1))) = true := beq_iff_eq.mpr c23
                  have c23b1 : (t166 != (wrap64 (t160 + 1))) = false := bne_eq_false_iff_eq.mpr c23
                  clear c23
                  by_cases c24 : t161 = 12
                  · rw [if_pos c24] at H
                    have c24b0 : (t161 == 12) = true := beq_iff_eq.mpr c24
                    have c24b1 : (t161 != 12) = false := bne_eq_false_iff_eq.mpr c24
                    clear c24
                    by_cases c25 : t167 = 1
                    · rw [if_pos c25] at H
                      have c25b0 : (t167 == 1) = true := beq_iff_eq.mpr c25
                      have c25b1 : (t167 != 1) = false := bne_eq_false_iff_eq.mpr c25
                      clear c25
                      replace H := Option.bind_eq_some_iff.mp H
                      obtain ⟨t176, A260, H⟩ := H
                      replace H : (some t176) = some r := H
                      have A26 := Aside0.mk A260
                      clear A260
                      obtain rfl := Option.some.inj H
                      go_wp2_with (first | ((with_reducible refine gate_callee (f := 18) rfl ?_); refine goesL_ (some 88) rfl rfl Try.func18 (by kernel_rfl) rfl #[.int .i64 t160, .int .i64 t161] rfl (by (try simp only [List.map_toArray, List.map_cons, List.map_nil]); first | done | rfl | (simp only [List.length_drop, List.length_take]; rfl)) ?_; (with_reducible refine (date_Days.calls t160 t161 t174 _ A17.out).mono ?_); rintro e w' ⟨rfl, ⟨nd, rfl⟩⟩; refine ⟨_, rfl, ?_⟩) | (go_at_call 20; (with_reducible refine (annuitylaw04_wakes.calls kj7  t176 _ A26.out).mono ?_); rintro e w27 ⟨rfl, hb⟩; have n0_ := Aside0.mk (below_step (by repeat (first | (with_reducible first | exact HB.out | apply below_alloc | apply pw_below_drewN | apply below_drew1) | exact HB.out)) hb); clear HB; have HB := n0_; clear n0_; (try clear hb); (try clear hb2); (try clear hk); (try clear hi)))
                      go_ret
                      exact ⟨by first | rfl | (simp [errW_none, errW_some] <;> rfl) | (simp [*, errW_none, errW_some] <;> rfl), by repeat (first | (with_reducible first | exact HB.out | apply below_alloc | apply pw_below_drewN | apply below_drew1) | exact HB.out)⟩
                    · rw [if_neg c25] at H
                      have c25b0 : (t167 == 1) = false := beq_eq_false_iff_ne.mpr c25
                      have c25b1 : (t167 != 1) = true := bne_iff_ne.mpr c25
                      obtain rfl := Option.some.inj H
                      go_wp2_with (first | ((with_reducible refine gate_callee (f := 18) rfl ?_); refine goesL_ (some 88) rfl rfl Try.func18 (by kernel_rfl) rfl #[.int .i64 t160, .int .i64 t161] rfl (by (try simp only [List.map_toArray, List.map_cons, List.map_nil]); first | done | rfl | (simp only [List.length_drop, List.length_take]; rfl)) ?_; (with_reducible refine (date_Days.calls t160 t161 t174 _ A17.out).mono ?_); rintro e w' ⟨rfl, ⟨nd, rfl⟩⟩; refine ⟨_, rfl, ?_⟩))
                      go_ret
                      exact ⟨by first | rfl | (simp [errW_none, errW_some] <;> rfl) | (simp [*, errW_none, errW_some] <;> rfl), by repeat (first | (with_reducible first | exact HB.out | apply below_alloc | apply pw_below_drewN | apply below_drew1) | exact HB.out)⟩
                  · rw [if_neg c24] at H
                    have c24b0 : (t161 == 12) = false := beq_eq_false_iff_ne.mpr c24
                    have c24b1 : (t161 != 12) = true := bne_iff_ne.mpr c24
                    obtain rfl := Option.some.inj H
                    go_wp2_with (first | ((with_reducible refine gate_callee (f := 18) rfl ?_); refine goesL_ (some 88) rfl rfl Try.func18 (by kernel_rfl) rfl #[.int .i64 t160, .int .i64 t161] rfl (by (try simp only [List.map_toArray, List.map_cons, List.map_nil]); first | done | rfl | (simp only [List.length_drop, List.length_take]; rfl)) ?_; (with_reducible refine (date_Days.calls t160 t161 t174 _ A17.out).mono ?_); rintro e w' ⟨rfl, ⟨nd, rfl⟩⟩; refine ⟨_, rfl, ?_⟩))
                    go_ret
                    exact ⟨by first | rfl | (simp [errW_none, errW_some] <;> rfl) | (simp [*, errW_none, errW_some] <;> rfl), by repeat (first | (with_reducible first | exact HB.out | apply below_alloc | apply pw_below_drewN | apply below_drew1) | exact HB.out)⟩
                · rw [if_neg c23] at H
                  have c23b0 : (t166 == (wrap64 (t160 + 1))) = false := beq_eq_false_iff_ne.mpr c23
                  have c23b1 : (t166 != (wrap64 (t160 + 1))) = true := bne_iff_ne.mpr c23
                  obtain rfl := Option.some.inj H
                  go_wp2_with (first | ((with_reducible refine gate_callee (f := 18) rfl ?_); refine goesL_ (some 88) rfl rfl Try.func18 (by kernel_rfl) rfl #[.int .i64 t160, .int .i64 t161] rfl (by (try simp only [List.map_toArray, List.map_cons, List.map_nil]); first | done | rfl | (simp only [List.length_drop, List.length_take]; rfl)) ?_; (with_reducible refine (date_Days.calls t160 t161 t174 _ A17.out).mono ?_); rintro e w' ⟨rfl, ⟨nd, rfl⟩⟩; refine ⟨_, rfl, ?_⟩))
                  go_ret
                  exact ⟨by first | rfl | (simp [errW_none, errW_some] <;> rfl) | (simp [*, errW_none, errW_some] <;> rfl), by repeat (first | (with_reducible first | exact HB.out | apply below_alloc | apply pw_below_drewN | apply below_drew1) | exact HB.out)⟩
            · rw [if_neg c19] at H
              have c19b0 : (t166 == t160) = false := beq_eq_false_iff_ne.mpr c19
              have c19b1 : (t166 != t160) = true := bne_iff_ne.mpr c19
              by_cases c28 : t166 = (wrap64 (t160 + 1))
              · rw [if_pos c28] at H
                have c28b0 : (t166 == (wrap64 (t160 + 1))) = true := beq_iff_eq.mpr c28
                have c28b1 : (t166 != (wrap64 (t160 + 1))) = false := bne_eq_false_iff_eq.mpr c28
                clear c28
                by_cases c29 : t161 = 12
                · rw [if_pos c29] at H
                  have c29b0 : (t161 == 12) = true := beq_iff_eq.mpr c29
                  have c29b1 : (t161 != 12) = false := bne_eq_false_iff_eq.mpr c29
                  clear c29
                  by_cases c30 : t167 = 1
                  · rw [if_pos c30] at H
                    have c30b0 : (t167 == 1) = true := beq_iff_eq.mpr c30
                    have c30b1 : (t167 != 1) = false := bne_eq_false_iff_eq.mpr c30
                    clear c30
                    replace H := Option.bind_eq_some_iff.mp H
                    obtain ⟨t177, A310, H⟩ := H
                    replace H : (some t177) = some r := H
                    have A31 := Aside0.mk A310
                    clear A310
                    obtain rfl := Option.some.inj H
                    go_wp2_with (first | ((with_reducible refine gate_callee (f := 18) rfl ?_); refine goesL_ (some 88) rfl rfl Try.func18 (by kernel_rfl) rfl #[.int .i64 t160, .int .i64 t161] rfl (by (try simp only [List.map_toArray, List.map_cons, List.map_nil]); first | done | rfl | (simp only [List.length_drop, List.length_take]; rfl)) ?_; (with_reducible refine (date_Days.calls t160 t161 t174 _ A17.out).mono ?_); rintro e w' ⟨rfl, ⟨nd, rfl⟩⟩; refine ⟨_, rfl, ?_⟩) | (go_at_call 20; (with_reducible refine (annuitylaw04_wakes.calls kj7  t177 _ A31.out).mono ?_); rintro e w32 ⟨rfl, hb⟩; have n0_ := Aside0.mk (below_step (by repeat (first | (with_reducible first | exact HB.out | apply below_alloc | apply pw_below_drewN | apply below_drew1) | exact HB.out)) hb); clear HB; have HB := n0_; clear n0_; (try clear hb); (try clear hb2); (try clear hk); (try clear hi)))
                    go_ret
                    exact ⟨by first | rfl | (simp [errW_none, errW_some] <;> rfl) | (simp [*, errW_none, errW_some] <;> rfl), by repeat (first | (with_reducible first | exact HB.out | apply below_alloc | apply pw_below_drewN | apply below_drew1) | exact HB.out)⟩
                  · rw [if_neg c30] at H
                    have c30b0 : (t167 == 1) = false := beq_eq_false_iff_ne.mpr c30
                    have c30b1 : (t167 != 1) = true := bne_iff_ne.mpr c30
                    obtain rfl := Option.some.inj H
                    go_wp2_with (first | ((with_reducible refine gate_callee (f := 18) rfl ?_); refine goesL_ (some 88) rfl rfl Try.func18 (by kernel_rfl) rfl #[.int .i64 t160, .int .i64 t161] rfl (by (try simp only [List.map_toArray, List.map_cons, List.map_nil]); first | done | rfl | (simp only [List.length_drop, List.length_take]; rfl)) ?_; (with_reducible refine (date_Days.calls t160 t161 t174 _ A17.out).mono ?_); rintro e w' ⟨rfl, ⟨nd, rfl⟩⟩; refine ⟨_, rfl, ?_⟩))
                    go_ret
                    exact ⟨by first | rfl | (simp [errW_none, errW_some] <;> rfl) | (simp [*, errW_none, errW_some] <;> rfl), by repeat (first | (with_reducible first | exact HB.out | apply below_alloc | apply pw_below_drewN | apply below_drew1) | exact HB.out)⟩
                · rw [if_neg c29] at H
                  have c29b0 : (t161 == 12) = false := beq_eq_false_iff_ne.mpr c29
                  have c29b1 : (t161 != 12) = true := bne_iff_ne.mpr c29
                  obtain rfl := Option.some.inj H
                  go_wp2_with (first | ((with_reducible refine gate_callee (f := 18) rfl ?_); refine goesL_ (some 88) rfl rfl Try.func18 (by kernel_rfl) rfl #[.int .i64 t160, .int .i64 t161] rfl (by (try simp only [List.map_toArray, List.map_cons, List.map_nil]); first | done | rfl | (simp only [List.length_drop, List.length_take]; rfl)) ?_; (with_reducible refine (date_Days.calls t160 t161 t174 _ A17.out).mono ?_); rintro e w' ⟨rfl, ⟨nd, rfl⟩⟩; refine ⟨_, rfl, ?_⟩))
                  go_ret
                  exact ⟨by first | rfl | (simp [errW_none, errW_some] <;> rfl) | (simp [*, errW_none, errW_some] <;> rfl), by repeat (first | (with_reducible first | exact HB.out | apply below_alloc | apply pw_below_drewN | apply below_drew1) | exact HB.out)⟩
              · rw [if_neg c28] at H
                have c28b0 : (t166 == (wrap64 (t160 + 1))) = false := beq_eq_false_iff_ne.mpr c28
                have c28b1 : (t166 != (wrap64 (t160 + 1))) = true := bne_iff_ne.mpr c28
                obtain rfl := Option.some.inj H
                go_wp2_with (first | ((with_reducible refine gate_callee (f := 18) rfl ?_); refine goesL_ (some 88) rfl rfl Try.func18 (by kernel_rfl) rfl #[.int .i64 t160, .int .i64 t161] rfl (by (try simp only [List.map_toArray, List.map_cons, List.map_nil]); first | done | rfl | (simp only [List.length_drop, List.length_take]; rfl)) ?_; (with_reducible refine (date_Days.calls t160 t161 t174 _ A17.out).mono ?_); rintro e w' ⟨rfl, ⟨nd, rfl⟩⟩; refine ⟨_, rfl, ?_⟩))
                go_ret
                exact ⟨by first | rfl | (simp [errW_none, errW_some] <;> rfl) | (simp [*, errW_none, errW_some] <;> rfl), by repeat (first | (with_reducible first | exact HB.out | apply below_alloc | apply pw_below_drewN | apply below_drew1) | exact HB.out)⟩
          · rw [if_neg c18] at H
            have c18b0 : (t162 == t174) = false := beq_eq_false_iff_ne.mpr c18
            have c18b1 : (t162 != t174) = true := bne_iff_ne.mpr c18
            obtain rfl := Option.some.inj H
            go_wp2_with (first | ((with_reducible refine gate_callee (f := 18) rfl ?_); refine goesL_ (some 88) rfl rfl Try.func18 (by kernel_rfl) rfl #[.int .i64 t160, .int .i64 t161] rfl (by (try simp only [List.map_toArray, List.map_cons, List.map_nil]); first | done | rfl | (simp only [List.length_drop, List.length_take]; rfl)) ?_; (with_reducible refine (date_Days.calls t160 t161 t174 _ A17.out).mono ?_); rintro e w' ⟨rfl, ⟨nd, rfl⟩⟩; refine ⟨_, rfl, ?_⟩))
            go_ret
            exact ⟨by first | rfl | (simp [errW_none, errW_some] <;> rfl) | (simp [*, errW_none, errW_some] <;> rfl), by repeat (first | (with_reducible first | exact HB.out | apply below_alloc | apply pw_below_drewN | apply below_drew1) | exact HB.out)⟩
        · rw [if_neg c16] at H
          have c16b0 : (t168 == 1) = false := beq_eq_false_iff_ne.mpr c16
          have c16b1 : (t168 != 1) = true := bne_iff_ne.mpr c16
          by_cases c33 : t166 = t160
          · rw [if_pos c33] at H
            have c33b0 : (t166 == t160) = true := beq_iff_eq.mpr c33
            have c33b1 : (t166 != t160) = false := bne_eq_false_iff_eq.mpr c33
            clear c33
            by_cases c34 : t167 = t161
            · rw [if_pos c34] at H
              have c34b0 : (t167 == t161) = true := beq_iff_eq.mpr c34
              have c34b1 : (t167 != t161) = false := bne_eq_false_iff_eq.mpr c34
              clear c34
              by_cases c35 : t168 = (wrap64 (t162 + 1))
              · rw [if_pos c35] at H
                have c35b0 : (t168 == (wrap64 (t162 + 1))) = true := beq_iff_eq.mpr c35
                have c35b1 : (t168 != (wrap64 (t162 + 1))) = false := bne_eq_false_iff_eq.mpr c35
                clear c35
                replace H := Option.bind_eq_some_iff.mp H
                obtain ⟨t178, A360, H⟩ := H
                replace H : (some t178) = some r := H
                have A36 := Aside0.mk A360
                clear A360
                obtain rfl := Option.some.inj H
                go_wp2_with (first | (go_at_call 20; (with_reducible refine (annuitylaw04_wakes.calls kj7  t178 _ A36.out).mono ?_); rintro e w37 ⟨rfl, hb⟩; have n0_ := Aside0.mk (below_step (by repeat (first | (with_reducible first | exact HB.out | apply below_alloc | apply pw_below_drewN | apply below_drew1) | exact HB.out)) hb); clear HB; have HB := n0_; clear n0_; (try clear hb); (try clear hb2); (try clear hk); (try clear hi)))
                go_ret
                exact ⟨by first | rfl | (simp [errW_none, errW_some] <;> rfl) | (simp [*, errW_none, errW_some] <;> rfl), by repeat (first | (with_reducible first | exact HB.out | apply below_alloc | apply pw_below_drewN | apply below_drew1) | exact HB.out)⟩
              · rw [if_neg c35] at H
                have c35b0 : (t168 == (wrap64 (t162 + 1))) = false := beq_eq_false_iff_ne.mpr c35
                have c35b1 : (t168 != (wrap64 (t162 + 1))) = true := bne_iff_ne.mpr c35
                obtain rfl := Option.some.inj H
                go_wp2
                go_ret
                exact ⟨by first | rfl | (simp [errW_none, errW_some] <;> rfl) | (simp [*, errW_none, errW_some] <;> rfl), by repeat (first | (with_reducible first | exact HB.out | apply below_alloc | apply pw_below_drewN | apply below_drew1) | exact HB.out)⟩
            · rw [if_neg c34] at H
              have c34b0 : (t167 == t161) = false := beq_eq_false_iff_ne.mpr c34
              have c34b1 : (t167 != t161) = true := bne_iff_ne.mpr c34
              obtain rfl := Option.some.inj H
              go_wp2
              go_ret
              exact ⟨by first | rfl | (simp [errW_none, errW_some] <;> rfl) | (simp [*, errW_none, errW_some] <;> rfl), by repeat (first | (with_reducible first | exact HB.out | apply below_alloc | apply pw_below_drewN | apply below_drew1) | exact HB.out)⟩
          · rw [if_neg c33] at H
            have c33b0 : (t166 == t160) = false := beq_eq_false_iff_ne.mpr c33
            have c33b1 : (t166 != t160) = true := bne_iff_ne.mpr c33
            obtain rfl := Option.some.inj H
            go_wp2
            go_ret
            exact ⟨by first | rfl | (simp [errW_none, errW_some] <;> rfl) | (simp [*, errW_none, errW_some] <;> rfl), by repeat (first | (with_reducible first | exact HB.out | apply below_alloc | apply pw_below_drewN | apply below_drew1) | exact HB.out)⟩

/-- THE ONE PURE STATEMENT of annuitylaw04_DateBack: yours. -/
def annuitylaw04_DateBack.Pure : Prop := ∀ (a0 : Int), (Lit.int .i64 a0).wf = true → ∃ k, annuitylaw04_DateBack.f k a0 = some true
theorem annuitylaw04_DateBack.walk (P : annuitylaw04_DateBack.Pure) (a0 : Int) (w : World) (w0 : (Lit.int .i64 a0).wf = true) :
    Calls Try.prog 5 #[.int .i64 a0] w fun e w' => e = .returned (.bool true) ∧ Below w.heap.size w w' := by
  obtain ⟨k, h⟩ := P a0 w0
  refine (annuitylaw04_DateBack.calls k a0 true w h).mono ?_
  rintro e w' ⟨rfl, hd⟩
  exact ⟨rfl, hd⟩

end Go.Proofs.Ytgogccjfoclakaa.P
