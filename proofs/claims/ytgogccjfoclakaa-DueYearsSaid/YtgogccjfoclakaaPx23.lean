/- Functions of the program as plain Lean functions, and proofs that its calls come to just their answers, where they tell one (written by a program of this session). -/
import Derived.Test.YtgogccjfoclakaaPx0
import Derived.Test.YtgogccjfoclakaaPx9
import Derived.Test.YtgogccjfoclakaaPx10
import Derived.Test.YtgogccjfoclakaaPx19
import Derived.Test.YtgogccjfoclakaaPx20
namespace Go.Proofs.Ytgogccjfoclakaa.P
open Go.RowKit Go.Proofs.YtgogccjfoclakaaW.PrintWords Go.Proofs.YtgogccjfoclakaaW.PrintLast Go.Proofs.YtgogccjfoclakaaW.PrintMore
attribute [local go_sem] max2_int min2_int max_two min_two max_three min_three max_four min_four   -- for this text's walks alone
set_option linter.unusedVariables false
set_option linter.unusedSimpArgs false

/-! ### annuitylaw05_DueWhole: function 12 -/
def annuitylaw05_DueWhole.j0 : Nat → Int → Int → Int → Bool → Option (Bool)
  | 0, _, _, _, _ => none
  | k + 1, x2, x9, x10, x62 => if x62 = true then (some false) else ((annuitykeep_Mod.f x2 2880).bind fun t376 => ((due_InTime.f k t376 x10).bind fun t377 => ((due_Late.f k t376 x10).bind fun t378 => (if (t377 == (t378 == 0)) = true then (if x9 = x10 then ((annuitylaw05_wakes.f k).bind fun t379 => (some t379)) else ((due_Whole.f k x10 x9).bind fun t380 => (if t380 = 0 then ((annuitylaw05_wakes.f k).bind fun t381 => (some t381)) else (some false)))) else (some false)))))
def annuitylaw05_DueWhole.f (k : Nat) (a0 : Int) (a1 : Int) (a2 : Int) : Option (Bool) := (annuitykeep_Mod.f a0 87659).bind fun t369 => ((annuitykeep_Mod.f a1 87659).bind fun t370 => ((due_Whole.f k (mn t369 t370) (mx t369 t370)).bind fun t371 => ((annuityref04_Add.f k (mn t369 t370) t371).bind fun bt372 => ((annuityref04_Add.f k (mn t369 t370) (wrap64 (t371 + 1))).bind fun bt374 => (if t371 < 0 then (annuitylaw05_DueWhole.j0 k a2 (mn t369 t370) (mx t369 t370) true) else (if bt372.2 = 0 then (if bt372.1 > (mx t369 t370) then (annuitylaw05_DueWhole.j0 k a2 (mn t369 t370) (mx t369 t370) true) else (if bt374.2 = 0 then (annuitylaw05_DueWhole.j0 k a2 (mn t369 t370) (mx t369 t370) (decide (bt374.1 ≤ (mx t369 t370)))) else (annuitylaw05_DueWhole.j0 k a2 (mn t369 t370) (mx t369 t370) false))) else (annuitylaw05_DueWhole.j0 k a2 (mn t369 t370) (mx t369 t370) true)))))))
theorem annuitylaw05_DueWhole.mono_l : ∀ k, (∀ y0 y1 y2 y3, LeO (annuitylaw05_DueWhole.j0 k y0 y1 y2 y3) (annuitylaw05_DueWhole.j0 (k + 1) y0 y1 y2 y3))
  | 0 => fun _ _ _ _ r h => by simp [annuitylaw05_DueWhole.j0] at h
  | k + 1 => by
    have ih0 := annuitylaw05_DueWhole.mono_l k
    · intro y0 y1 y2 y3
      unfold annuitylaw05_DueWhole.j0
      repeat' first
      | (with_reducible exact ih0 _ _ _ _)
      | (with_reducible exact annuitylaw05_wakes.mono _)
      | (with_reducible exact annuityref04_Add.mono _ _ _)
      | (with_reducible exact due_InTime.mono _ _ _)
      | (with_reducible exact due_Late.mono _ _ _)
      | (with_reducible exact due_Whole.mono _ _ _)
      | (with_reducible exact LeO.refl _)
      | (with_reducible exact LeO.none _)
      | (with_reducible refine LeO.ite ?_ ?_)
      | (with_reducible refine LeO.bind ?_ (fun _ => ?_))
      | exact ih0 _ _ _ _
      | exact annuitylaw05_wakes.mono _
      | exact annuityref04_Add.mono _ _ _
      | exact due_InTime.mono _ _ _
      | exact due_Late.mono _ _ _
      | exact due_Whole.mono _ _ _
      | exact LeO.none _
      | refine LeO.ite ?_ ?_
      | refine LeO.bind ?_ (fun _ => ?_)
theorem annuitylaw05_DueWhole.mono : ∀ a0 a1 a2 k, LeO (annuitylaw05_DueWhole.f k a0 a1 a2) (annuitylaw05_DueWhole.f (k + 1) a0 a1 a2) := by
  intro a0 a1 a2 k
  have ih0 := annuitylaw05_DueWhole.mono_l k
  unfold annuitylaw05_DueWhole.f
  repeat' first
      | (with_reducible exact ih0 _ _ _ _)
      | (with_reducible exact annuitylaw05_wakes.mono _)
      | (with_reducible exact annuityref04_Add.mono _ _ _)
      | (with_reducible exact due_InTime.mono _ _ _)
      | (with_reducible exact due_Late.mono _ _ _)
      | (with_reducible exact due_Whole.mono _ _ _)
      | (with_reducible exact LeO.refl _)
      | (with_reducible exact LeO.none _)
      | (with_reducible refine LeO.ite ?_ ?_)
      | (with_reducible refine LeO.bind ?_ (fun _ => ?_))
      | exact ih0 _ _ _ _
      | exact annuitylaw05_wakes.mono _
      | exact annuityref04_Add.mono _ _ _
      | exact due_InTime.mono _ _ _
      | exact due_Late.mono _ _ _
      | exact due_Whole.mono _ _ _
      | exact LeO.none _
      | refine LeO.ite ?_ ?_
      | refine LeO.bind ?_ (fun _ => ?_)
set_option maxHeartbeats 8000000 in
set_option maxRecDepth 100000 in
theorem annuitylaw05_DueWhole.calls (k : Nat) (a0 : Int) (a1 : Int) (a2 : Int) (r : Bool) (w : World) (h : annuitylaw05_DueWhole.f k a0 a1 a2 = some r) :
    Calls Try.prog 12 #[.int .i64 a0, .int .i64 a1, .int .i64 a2] w fun e w' => e = .returned (.bool r) ∧ Below w.heap.size w w' := by
  have HB := Aside0.mk (Below.refl w.heap.size w)
  have H : ((annuitykeep_Mod.f a0 87659).bind fun t369 => ((annuitykeep_Mod.f a1 87659).bind fun t370 => ((due_Whole.f k (mn t369 t370) (mx t369 t370)).bind fun t371 => ((annuityref04_Add.f k (mn t369 t370) t371).bind fun bt372 => ((annuityref04_Add.f k (mn t369 t370) (wrap64 (t371 + 1))).bind fun bt374 => (if t371 < 0 then (annuitylaw05_DueWhole.j0 k a2 (mn t369 t370) (mx t369 t370) true) else (if bt372.2 = 0 then (if bt372.1 > (mx t369 t370) then (annuitylaw05_DueWhole.j0 k a2 (mn t369 t370) (mx t369 t370) true) else (if bt374.2 = 0 then (annuitylaw05_DueWhole.j0 k a2 (mn t369 t370) (mx t369 t370) (decide (bt374.1 ≤ (mx t369 t370)))) else (annuitylaw05_DueWhole.j0 k a2 (mn t369 t370) (mx t369 t370) false))) else (annuitylaw05_DueWhole.j0 k a2 (mn t369 t370) (mx t369 t370) true)))))))) = some r := h
  clear h
  replace H := Option.bind_eq_some_iff.mp H
  obtain ⟨t369, A40, H⟩ := H
  replace H : ((annuitykeep_Mod.f a1 87659).bind fun t370 => ((due_Whole.f k (mn t369 t370) (mx t369 t370)).bind fun t371 => ((annuityref04_Add.f k (mn t369 t370) t371).bind fun bt372 => ((annuityref04_Add.f k (mn t369 t370) (wrap64 (t371 + 1))).bind fun bt374 => (if t371 < 0 then (annuitylaw05_DueWhole.j0 k a2 (mn t369 t370) (mx t369 t370) true) else (if bt372.2 = 0 then (if bt372.1 > (mx t369 t370) then (annuitylaw05_DueWhole.j0 k a2 (mn t369 t370) (mx t369 t370) true) else (if bt374.2 = 0 then (annuitylaw05_DueWhole.j0 k a2 (mn t369 t370) (mx t369 t370) (decide (bt374.1 ≤ (mx t369 t370)))) else (annuitylaw05_DueWhole.j0 k a2 (mn t369 t370) (mx t369 t370) false))) else (annuitylaw05_DueWhole.j0 k a2 (mn t369 t370) (mx t369 t370) true))))))) = some r := H
  have A4 := Aside0.mk A40
  clear A40
  replace H := Option.bind_eq_some_iff.mp H
  obtain ⟨t370, A50, H⟩ := H
  replace H : ((due_Whole.f k (mn t369 t370) (mx t369 t370)).bind fun t371 => ((annuityref04_Add.f k (mn t369 t370) t371).bind fun bt372 => ((annuityref04_Add.f k (mn t369 t370) (wrap64 (t371 + 1))).bind fun bt374 => (if t371 < 0 then (annuitylaw05_DueWhole.j0 k a2 (mn t369 t370) (mx t369 t370) true) else (if bt372.2 = 0 then (if bt372.1 > (mx t369 t370) then (annuitylaw05_DueWhole.j0 k a2 (mn t369 t370) (mx t369 t370) true) else (if bt374.2 = 0 then (annuitylaw05_DueWhole.j0 k a2 (mn t369 t370) (mx t369 t370) (decide (bt374.1 ≤ (mx t369 t370)))) else (annuitylaw05_DueWhole.j0 k a2 (mn t369 t370) (mx t369 t370) false))) else (annuitylaw05_DueWhole.j0 k a2 (mn t369 t370) (mx t369 t370) true)))))) = some r := H
  have A5 := Aside0.mk A50
  clear A50
  obtain ⟨ji6, hji6⟩ : ∃ j_ : Int, (mn t369 t370) = j_ := ⟨_, rfl⟩
  replace H : ((due_Whole.f k (ji6) (mx t369 t370)).bind fun t371 => ((annuityref04_Add.f k (ji6) t371).bind fun bt372 => ((annuityref04_Add.f k (ji6) (wrap64 (t371 + 1))).bind fun bt374 => (if t371 < 0 then (annuitylaw05_DueWhole.j0 k a2 ji6 (mx t369 t370) true) else (if bt372.2 = 0 then (if bt372.1 > (mx t369 t370) then (annuitylaw05_DueWhole.j0 k a2 ji6 (mx t369 t370) true) else (if bt374.2 = 0 then (annuitylaw05_DueWhole.j0 k a2 ji6 (mx t369 t370) (decide (bt374.1 ≤ (mx t369 t370)))) else (annuitylaw05_DueWhole.j0 k a2 ji6 (mx t369 t370) false))) else (annuitylaw05_DueWhole.j0 k a2 ji6 (mx t369 t370) true)))))) = some r := by first | (rw [hji6] at H; exact H) | (simp only [hji6] at H ⊢; exact H)
  (try rw [hji6] at A4)
  (try rw [hji6] at A5)
  have hji6_ : (if t370 < t369 then t370 else t369) = ji6 := hji6
  obtain ⟨ji7, hji7⟩ : ∃ j_ : Int, (mx t369 t370) = j_ := ⟨_, rfl⟩
  replace H : ((due_Whole.f k (ji6) (ji7)).bind fun t371 => ((annuityref04_Add.f k (ji6) t371).bind fun bt372 => ((annuityref04_Add.f k (ji6) (wrap64 (t371 + 1))).bind fun bt374 => (if t371 < 0 then (annuitylaw05_DueWhole.j0 k a2 ji6 ji7 true) else (if bt372.2 = 0 then (if bt372.1 > (ji7) then (annuitylaw05_DueWhole.j0 k a2 ji6 ji7 true) else (if bt374.2 = 0 then (annuitylaw05_DueWhole.j0 k a2 ji6 ji7 (decide (bt374.1 ≤ (ji7)))) else (annuitylaw05_DueWhole.j0 k a2 ji6 ji7 false))) else (annuitylaw05_DueWhole.j0 k a2 ji6 ji7 true)))))) = some r := by first | (rw [hji7] at H; exact H) | (simp only [hji7] at H ⊢; exact H)
  (try rw [hji7] at A4)
  (try rw [hji7] at A5)
  have hji7_ : (if t369 < t370 then t370 else t369) = ji7 := hji7
  replace H := Option.bind_eq_some_iff.mp H
  obtain ⟨t371, A80, H⟩ := H
  replace H : ((annuityref04_Add.f k (ji6) t371).bind fun bt372 => ((annuityref04_Add.f k (ji6) (wrap64 (t371 + 1))).bind fun bt374 => (if t371 < 0 then (annuitylaw05_DueWhole.j0 k a2 ji6 ji7 true) else (if bt372.2 = 0 then (if bt372.1 > (ji7) then (annuitylaw05_DueWhole.j0 k a2 ji6 ji7 true) else (if bt374.2 = 0 then (annuitylaw05_DueWhole.j0 k a2 ji6 ji7 (decide (bt374.1 ≤ (ji7)))) else (annuitylaw05_DueWhole.j0 k a2 ji6 ji7 false))) else (annuitylaw05_DueWhole.j0 k a2 ji6 ji7 true))))) = some r := H
  have A8 := Aside0.mk A80
  clear A80
  replace H := Option.bind_eq_some_iff.mp H
  obtain ⟨⟨t372, t373⟩, A90, H⟩ := H
  replace H : ((annuityref04_Add.f k (ji6) (wrap64 (t371 + 1))).bind fun bt374 => (if t371 < 0 then (annuitylaw05_DueWhole.j0 k a2 ji6 ji7 true) else (if t373 = 0 then (if t372 > (ji7) then (annuitylaw05_DueWhole.j0 k a2 ji6 ji7 true) else (if bt374.2 = 0 then (annuitylaw05_DueWhole.j0 k a2 ji6 ji7 (decide (bt374.1 ≤ (ji7)))) else (annuitylaw05_DueWhole.j0 k a2 ji6 ji7 false))) else (annuitylaw05_DueWhole.j0 k a2 ji6 ji7 true)))) = some r := H
  have A9 := Aside0.mk A90
  clear A90
  replace H := Option.bind_eq_some_iff.mp H
  obtain ⟨⟨t374, t375⟩, A100, H⟩ := H
  replace H : (if t371 < 0 then (annuitylaw05_DueWhole.j0 k a2 ji6 ji7 true) else (if t373 = 0 then (if t372 > (ji7) then (annuitylaw05_DueWhole.j0 k a2 ji6 ji7 true) else (if t375 = 0 then (annuitylaw05_DueWhole.j0 k a2 ji6 ji7 (decide (t374 ≤ (ji7)))) else (annuitylaw05_DueWhole.j0 k a2 ji6 ji7 false))) else (annuitylaw05_DueWhole.j0 k a2 ji6 ji7 true))) = some r := H
  have A10 := Aside0.mk A100
  clear A100
  have HC11 := Aside0.mk H
  clear H
  go_enter Try.func12, Try.ntmps12
  go_upto_region 6 with (first | ((with_reducible refine gate_callee (f := 23) rfl ?_); refine goesL_ (some 18) rfl rfl Try.func23 (by kernel_rfl) rfl #[.int .i64 a0, .int .i64 87659] rfl (by (try simp only [List.map_toArray, List.map_cons, List.map_nil]); first | done | rfl | (simp only [List.length_drop, List.length_take]; rfl)) ?_; (with_reducible refine (annuitykeep_Mod.calls a0 87659 t369 _ A4.out).mono ?_); rintro e w' ⟨rfl, ⟨nd, rfl⟩⟩; refine ⟨_, rfl, ?_⟩) | ((with_reducible refine gate_callee (f := 23) rfl ?_); refine goesL_ (some 20) rfl rfl Try.func23 (by kernel_rfl) rfl #[.int .i64 a1, .int .i64 87659] rfl (by (try simp only [List.map_toArray, List.map_cons, List.map_nil]); first | done | rfl | (simp only [List.length_drop, List.length_take]; rfl)) ?_; (with_reducible refine (annuitykeep_Mod.calls a1 87659 t370 _ A5.out).mono ?_); rintro e w' ⟨rfl, ⟨nd, rfl⟩⟩; refine ⟨_, rfl, ?_⟩) | ((with_reducible refine gate_callee (f := 44) rfl ?_); refine goesL_ (some 29) rfl rfl Try.func44 (by kernel_rfl) rfl #[.int .i64 ji6, .int .i64 ji7] rfl (by (try simp only [List.map_toArray, List.map_cons, List.map_nil]); first | done | (simp only [hji6, hji7]; rfl) | rfl | (simp only [List.length_drop, List.length_take]; rfl)) ?_; (with_reducible refine (due_Whole.calls k ji6 ji7 t371 _ A8.out).mono ?_); rintro e w12 ⟨rfl, hb⟩; refine ⟨_, rfl, ?_⟩; have n0_ := Aside0.mk (below_step (by repeat (first | (with_reducible first | exact HB.out | apply below_alloc | apply pw_below_drewN | apply below_drew1) | exact HB.out)) hb); clear HB; have HB := n0_; clear n0_; (try clear hb); (try clear hb2); (try clear hk); (try clear hi)) | ((with_reducible refine gate_callee (f := 22) rfl ?_); refine goesL_ (some 33) rfl rfl Try.func22 (by kernel_rfl) rfl #[.int .i64 ji6, .int .i64 t371] rfl (by (try simp only [List.map_toArray, List.map_cons, List.map_nil]); first | done | (simp only [hji6]; rfl) | rfl | (simp only [List.length_drop, List.length_take]; rfl)) ?_; (with_reducible refine (annuityref04_Add.calls k ji6 t371 t372 t373 _ A9.out).mono ?_); rintro e w13 ⟨rfl, hb⟩; refine ⟨_, rfl, ?_⟩; have n0_ := Aside0.mk (below_step (by repeat (first | (with_reducible first | exact HB.out | apply below_alloc | apply pw_below_drewN | apply below_drew1) | exact HB.out)) hb); clear HB; have HB := n0_; clear n0_; (try clear hb); (try clear hb2); (try clear hk); (try clear hi)) | ((with_reducible refine gate_callee (f := 22) rfl ?_); refine goesL_ (some 40) rfl rfl Try.func22 (by kernel_rfl) rfl #[.int .i64 ji6, .int .i64 (wrap64 (t371 + 1))] rfl (by (try simp only [List.map_toArray, List.map_cons, List.map_nil]); first | done | (simp only [hji6]; rfl) | rfl | (simp only [List.length_drop, List.length_take]; rfl)) ?_; (with_reducible refine (annuityref04_Add.calls k ji6 (wrap64 (t371 + 1)) t374 t375 _ A10.out).mono ?_); rintro e w14 ⟨rfl, hb⟩; refine ⟨_, rfl, ?_⟩; have n0_ := Aside0.mk (below_step (by repeat (first | (with_reducible first | exact HB.out | apply below_alloc | apply pw_below_drewN | apply below_drew1) | exact HB.out)) hb); clear HB; have HB := n0_; clear n0_; (try clear hb); (try clear hb2); (try clear hk); (try clear hi)))
  (try simp only [Act.put, List.setIfInBounds_toArray, List.set_cons_zero, List.set_cons_succ])
  go_cut [62] (fun v62 wc => ∃ (kq : Nat) (x62_10 : Bool), v62 = .bool x62_10 ∧ Aside0 (annuitylaw05_DueWhole.j0 kq a2 ji6 ji7 x62_10 = some r) ∧ Aside0 (kq ≤ k) ∧ Aside0 (Below w.heap.size w wc))
  case first =>
    have H := HC11.out
    clear HC11
    by_cases c15 : t371 < 0
    · rw [if_pos c15] at H
      have c15b0 : decide (t371 < 0) = true := decide_eq_true c15
      clear c15
      (first | rw [c15b0] | (simp only [i64_w, i32_w]; rw [c15b0]) | skip)
      have H' := Aside0.mk H
      clear H
      go_wp2
      go_meet
      case rel => exact ⟨_, (true), (by first | rfl | (simp; done) | (simp [*]; done)), H', ⟨by first | omega | exact Nat.le_refl _⟩, ⟨by repeat (first | (with_reducible first | exact HB.out | apply below_alloc | apply pw_below_drewN | apply below_drew1) | exact HB.out)⟩⟩
    · rw [if_neg c15] at H
      have c15b0 : decide (t371 < 0) = false := decide_eq_false c15
      clear c15
      (first | rw [c15b0] | (simp only [i64_w, i32_w]; rw [c15b0]) | skip)
      by_cases c16 : t373 = 0
      · rw [if_pos c16] at H
        have c16b0 : (t373 == 0) = true := beq_iff_eq.mpr c16
        have c16b1 : (t373 != 0) = false := bne_eq_false_iff_eq.mpr c16
        clear c16
        by_cases c17 : t372 > (ji7)
        · rw [if_pos c17] at H
          have c17b0 : decide ((ji7) < t372) = true := decide_eq_true c17
          clear c17
          have H' := Aside0.mk H
          clear H
          go_wp2
          go_meet
          case rel => exact ⟨_, (true), (by first | rfl | (simp; done) | (simp [*]; done)), H', ⟨by first | omega | exact Nat.le_refl _⟩, ⟨by repeat (first | (with_reducible first | exact HB.out | apply below_alloc | apply pw_below_drewN | apply below_drew1) | exact HB.out)⟩⟩
        · rw [if_neg c17] at H
          have c17b0 : decide ((ji7) < t372) = false := decide_eq_false c17
          clear c17
          by_cases c18 : t375 = 0
          · rw [if_pos c18] at H
            have c18b0 : (t375 == 0) = true := beq_iff_eq.mpr c18
            have c18b1 : (t375 != 0) = false := bne_eq_false_iff_eq.mpr c18
            clear c18
            have H' := Aside0.mk H
            clear H
            go_wp2
            go_meet
            case rel => exact ⟨_, (decide (t374 ≤ (ji7))), (by first | rfl | (simp; done) | (simp only [← hji7] <;> (first | rfl | simp)) | (simp [*]; done)), H', ⟨by first | omega | exact Nat.le_refl _⟩, ⟨by repeat (first | (with_reducible first | exact HB.out | apply below_alloc | apply pw_below_drewN | apply below_drew1) | exact HB.out)⟩⟩
          · rw [if_neg c18] at H
            have c18b0 : (t375 == 0) = false := beq_eq_false_iff_ne.mpr c18
            have c18b1 : (t375 != 0) = true := bne_iff_ne.mpr c18
            have H' := Aside0.mk H
            clear H
            go_wp2
            go_meet
            case rel => exact ⟨_, (false), (by first | rfl | (simp; done) | (simp [*]; done)), H', ⟨by first | omega | exact Nat.le_refl _⟩, ⟨by repeat (first | (with_reducible first | exact HB.out | apply below_alloc | apply pw_below_drewN | apply below_drew1) | exact HB.out)⟩⟩
      · rw [if_neg c16] at H
        have c16b0 : (t373 == 0) = false := beq_eq_false_iff_ne.mpr c16
        have c16b1 : (t373 != 0) = true := bne_iff_ne.mpr c16
        have H' := Aside0.mk H
        clear H
        go_wp2
        go_meet
        case rel => exact ⟨_, (true), (by first | rfl | (simp; done) | (simp [*]; done)), H', ⟨by first | omega | exact Nat.le_refl _⟩, ⟨by repeat (first | (with_reducible first | exact HB.out | apply below_alloc | apply pw_below_drewN | apply below_drew1) | exact HB.out)⟩⟩
  case rest =>
    clear HC11
    try clear c1
    try clear c2
    try clear p2
    try clear c4
    try clear p6
    try clear c12
    try clear c15
    try clear c15b0
    try clear c16
    try clear c16b0
    try clear c16b1
    try clear c17
    try clear c17b0
    try clear c18
    try clear c18b0
    try clear c18b1
    obtain ⟨kq, x62_10, rfl, HA, HJ10, HB⟩ := hcut
    cases kq with
    | zero => exact absurd HA.out (by simp [annuitylaw05_DueWhole.j0])
    | succ kj10 =>
      have H := HA.out
      clear HA
      simp only [annuitylaw05_DueWhole.j0] at H
      by_cases c19 : x62_10 = true
      · subst c19
        have H1 : (some false) = some r := by rw [if_pos rfl] at H; exact H
        clear H
        have H := H1
        clear H1
        obtain rfl := Option.some.inj H
        go_wp2
        go_ret
        exact ⟨by first | rfl | (simp [errW_none, errW_some] <;> rfl) | (simp only [← hji6, ← hji7]; first | rfl | (simp [errW_none, errW_some] <;> rfl)) | (simp [*, errW_none, errW_some] <;> rfl), by repeat (first | (with_reducible first | exact HB.out | apply below_alloc | apply pw_below_drewN | apply below_drew1) | exact HB.out)⟩
      · replace c19 := Bool.eq_false_iff.mpr c19
        subst c19
        have H1 : ((annuitykeep_Mod.f a2 2880).bind fun t376 => ((due_InTime.f kj10 t376 ji7).bind fun t377 => ((due_Late.f kj10 t376 ji7).bind fun t378 => (if (t377 == (t378 == 0)) = true then (if ji6 = ji7 then ((annuitylaw05_wakes.f kj10).bind fun t379 => (some t379)) else ((due_Whole.f kj10 ji7 ji6).bind fun t380 => (if t380 = 0 then ((annuitylaw05_wakes.f kj10).bind fun t381 => (some t381)) else (some false)))) else (some false))))) = some r := by rw [if_neg (show ¬ (false = true) by decide)] at H; exact H
        clear H
        have H := H1
        clear H1
        replace H := Option.bind_eq_some_iff.mp H
        obtain ⟨t376, A200, H⟩ := H
        replace H : ((due_InTime.f kj10 t376 ji7).bind fun t377 => ((due_Late.f kj10 t376 ji7).bind fun t378 => (if (t377 == (t378 == 0)) = true then (if ji6 = ji7 then ((annuitylaw05_wakes.f kj10).bind fun t379 => (some t379)) else ((due_Whole.f kj10 ji7 ji6).bind fun t380 => (if t380 = 0 then ((annuitylaw05_wakes.f kj10).bind fun t381 => (some t381)) else (some false)))) else (some false)))) = some r := H
        have A20 := Aside0.mk A200
        clear A200
        replace H := Option.bind_eq_some_iff.mp H
        obtain ⟨t377, A210, H⟩ := H
        replace H : ((due_Late.f kj10 t376 ji7).bind fun t378 => (if (t377 == (t378 == 0)) = true then (if ji6 = ji7 then ((annuitylaw05_wakes.f kj10).bind fun t379 => (some t379)) else ((due_Whole.f kj10 ji7 ji6).bind fun t380 => (if t380 = 0 then ((annuitylaw05_wakes.f kj10).bind fun t381 => (some t381)) else (some false)))) else (some false))) = some r := H
        have A21 := Aside0.mk A210
        clear A210
        replace H := Option.bind_eq_some_iff.mp H
        obtain ⟨t378, A220, H⟩ := H
        replace H : (if (t377 == (t378 == 0)) = true then (if ji6 = ji7 then ((annuitylaw05_wakes.f kj10).bind fun t379 => (some t379)) else ((due_Whole.f kj10 ji7 ji6).bind fun t380 => (if t380 = 0 then ((annuitylaw05_wakes.f kj10).bind fun t381 => (some t381)) else (some false)))) else (some false)) = some r := H
        have A22 := Aside0.mk A220
        clear A220
        by_cases c23 : (t377 == (t378 == 0)) = true
        · rw [if_pos c23] at H
          have c23b0 : (t377 == (t378 == 0)) = true := c23
          (try (have c23b1 : decide (t377 = (t378 == 0)) = true := by simpa using c23))
          (try (have c23b2 : (t377 == (t378 == 0)) = true := by simpa using c23))
          clear c23
          by_cases c24 : ji6 = ji7
          · rw [if_pos c24] at H
            have c24b0 : (ji6 == ji7) = true := beq_iff_eq.mpr c24
            have c24b1 : (ji6 != ji7) = false := bne_eq_false_iff_eq.mpr c24
            clear c24
            replace H := Option.bind_eq_some_iff.mp H
            obtain ⟨t379, A250, H⟩ := H
            replace H : (some t379) = some r := H
            have A25 := Aside0.mk A250
            clear A250
            obtain rfl := Option.some.inj H
            go_wp2_with (first | ((with_reducible refine gate_callee (f := 23) rfl ?_); refine goesL_ (some 64) rfl rfl Try.func23 (by kernel_rfl) rfl #[.int .i64 a2, .int .i64 2880] rfl (by (try simp only [List.map_toArray, List.map_cons, List.map_nil]); first | done | rfl | (simp only [List.length_drop, List.length_take]; rfl)) ?_; (with_reducible refine (annuitykeep_Mod.calls a2 2880 t376 _ A20.out).mono ?_); rintro e w' ⟨rfl, ⟨nd, rfl⟩⟩; refine ⟨_, rfl, ?_⟩) | ((with_reducible refine gate_callee (f := 40) rfl ?_); refine goesL_ (some 67) rfl rfl Try.func40 (by kernel_rfl) rfl #[.int .i64 t376, .int .i64 ji7] rfl (by (try simp only [List.map_toArray, List.map_cons, List.map_nil]); first | done | (simp only [hji7]; rfl) | rfl | (simp only [List.length_drop, List.length_take]; rfl)) ?_; (with_reducible refine (due_InTime.calls kj10 t376 ji7 t377 _ A21.out).mono ?_); rintro e w' ⟨rfl, ⟨nd, rfl⟩⟩; refine ⟨_, rfl, ?_⟩) | ((with_reducible refine gate_callee (f := 42) rfl ?_); refine goesL_ (some 70) rfl rfl Try.func42 (by kernel_rfl) rfl #[.int .i64 t376, .int .i64 ji7] rfl (by (try simp only [List.map_toArray, List.map_cons, List.map_nil]); first | done | (simp only [hji7]; rfl) | rfl | (simp only [List.length_drop, List.length_take]; rfl)) ?_; (with_reducible refine (due_Late.calls kj10 t376 ji7 t378 _ A22.out).mono ?_); rintro e w26 ⟨rfl, hb⟩; refine ⟨_, rfl, ?_⟩; have n0_ := Aside0.mk (below_step (by repeat (first | (with_reducible first | exact HB.out | apply below_alloc | apply pw_below_drewN | apply below_drew1) | exact HB.out)) hb); clear HB; have HB := n0_; clear n0_; (try clear hb); (try clear hb2); (try clear hk); (try clear hi)) | (go_at_call 37; (with_reducible refine (annuitylaw05_wakes.calls kj10  t379 _ A25.out).mono ?_); rintro e w27 ⟨rfl, hb⟩; have n0_ := Aside0.mk (below_step (by repeat (first | (with_reducible first | exact HB.out | apply below_alloc | apply pw_below_drewN | apply below_drew1) | exact HB.out)) hb); clear HB; have HB := n0_; clear n0_; (try clear hb); (try clear hb2); (try clear hk); (try clear hi)))
            go_ret
            exact ⟨by first | rfl | (simp [errW_none, errW_some] <;> rfl) | (simp only [← hji6, ← hji7]; first | rfl | (simp [errW_none, errW_some] <;> rfl)) | (simp [*, errW_none, errW_some] <;> rfl), by repeat (first | (with_reducible first | exact HB.out | apply below_alloc | apply pw_below_drewN | apply below_drew1) | exact HB.out)⟩
          · rw [if_neg c24] at H
            have c24b0 : (ji6 == ji7) = false := beq_eq_false_iff_ne.mpr c24
            have c24b1 : (ji6 != ji7) = true := bne_iff_ne.mpr c24
            replace H := Option.bind_eq_some_iff.mp H
            obtain ⟨t380, A280, H⟩ := H
            replace H : (if t380 = 0 then ((annuitylaw05_wakes.f kj10).bind fun t381 => (some t381)) else (some false)) = some r := H
            have A28 := Aside0.mk A280
            clear A280
            by_cases c29 : t380 = 0
            · rw [if_pos c29] at H
              have c29b0 : (t380 == 0) = true := beq_iff_eq.mpr c29
              have c29b1 : (t380 != 0) = false := bne_eq_false_iff_eq.mpr c29
              clear c29
              replace H := Option.bind_eq_some_iff.mp H
              obtain ⟨t381, A300, H⟩ := H
              replace H : (some t381) = some r := H
              have A30 := Aside0.mk A300
              clear A300
              obtain rfl := Option.some.inj H
              go_wp2_with (first | ((with_reducible refine gate_callee (f := 23) rfl ?_); refine goesL_ (some 64) rfl rfl Try.func23 (by kernel_rfl) rfl #[.int .i64 a2, .int .i64 2880] rfl (by (try simp only [List.map_toArray, List.map_cons, List.map_nil]); first | done | rfl | (simp only [List.length_drop, List.length_take]; rfl)) ?_; (with_reducible refine (annuitykeep_Mod.calls a2 2880 t376 _ A20.out).mono ?_); rintro e w' ⟨rfl, ⟨nd, rfl⟩⟩; refine ⟨_, rfl, ?_⟩) | ((with_reducible refine gate_callee (f := 40) rfl ?_); refine goesL_ (some 67) rfl rfl Try.func40 (by kernel_rfl) rfl #[.int .i64 t376, .int .i64 ji7] rfl (by (try simp only [List.map_toArray, List.map_cons, List.map_nil]); first | done | (simp only [hji7]; rfl) | rfl | (simp only [List.length_drop, List.length_take]; rfl)) ?_; (with_reducible refine (due_InTime.calls kj10 t376 ji7 t377 _ A21.out).mono ?_); rintro e w' ⟨rfl, ⟨nd, rfl⟩⟩; refine ⟨_, rfl, ?_⟩) | ((with_reducible refine gate_callee (f := 42) rfl ?_); refine goesL_ (some 70) rfl rfl Try.func42 (by kernel_rfl) rfl #[.int .i64 t376, .int .i64 ji7] rfl (by (try simp only [List.map_toArray, List.map_cons, List.map_nil]); first | done | (simp only [hji7]; rfl) | rfl | (simp only [List.length_drop, List.length_take]; rfl)) ?_; (with_reducible refine (due_Late.calls kj10 t376 ji7 t378 _ A22.out).mono ?_); rintro e w31 ⟨rfl, hb⟩; refine ⟨_, rfl, ?_⟩; have n0_ := Aside0.mk (below_step (by repeat (first | (with_reducible first | exact HB.out | apply below_alloc | apply pw_below_drewN | apply below_drew1) | exact HB.out)) hb); clear HB; have HB := n0_; clear n0_; (try clear hb); (try clear hb2); (try clear hk); (try clear hi)) | (go_at_call 44; (with_reducible refine (due_Whole.calls kj10 ji7 ji6 t380 _ A28.out).mono ?_); rintro e w32 ⟨rfl, hb⟩; have n0_ := Aside0.mk (below_step (by repeat (first | (with_reducible first | exact HB.out | apply below_alloc | apply pw_below_drewN | apply below_drew1) | exact HB.out)) hb); clear HB; have HB := n0_; clear n0_; (try clear hb); (try clear hb2); (try clear hk); (try clear hi)) | (go_at_call 37; (with_reducible refine (annuitylaw05_wakes.calls kj10  t381 _ A30.out).mono ?_); rintro e w33 ⟨rfl, hb⟩; have n0_ := Aside0.mk (below_step (by repeat (first | (with_reducible first | exact HB.out | apply below_alloc | apply pw_below_drewN | apply below_drew1) | exact HB.out)) hb); clear HB; have HB := n0_; clear n0_; (try clear hb); (try clear hb2); (try clear hk); (try clear hi)))
              go_ret
              exact ⟨by first | rfl | (simp [errW_none, errW_some] <;> rfl) | (simp only [← hji6, ← hji7]; first | rfl | (simp [errW_none, errW_some] <;> rfl)) | (simp [*, errW_none, errW_some] <;> rfl), by repeat (first | (with_reducible first | exact HB.out | apply below_alloc | apply pw_below_drewN | apply below_drew1) | exact HB.out)⟩
            · rw [if_neg c29] at H
              have c29b0 : (t380 == 0) = false := beq_eq_false_iff_ne.mpr c29
              have c29b1 : (t380 != 0) = true := bne_iff_ne.mpr c29
              obtain rfl := Option.some.inj H
              go_wp2_with (first | ((with_reducible refine gate_callee (f := 23) rfl ?_); refine goesL_ (some 64) rfl rfl Try.func23 (by kernel_rfl) rfl #[.int .i64 a2, .int .i64 2880] rfl (by (try simp only [List.map_toArray, List.map_cons, List.map_nil]); first | done | rfl | (simp only [List.length_drop, List.length_take]; rfl)) ?_; (with_reducible refine (annuitykeep_Mod.calls a2 2880 t376 _ A20.out).mono ?_); rintro e w' ⟨rfl, ⟨nd, rfl⟩⟩; refine ⟨_, rfl, ?_⟩) | ((with_reducible refine gate_callee (f := 40) rfl ?_); refine goesL_ (some 67) rfl rfl Try.func40 (by kernel_rfl) rfl #[.int .i64 t376, .int .i64 ji7] rfl (by (try simp only [List.map_toArray, List.map_cons, List.map_nil]); first | done | (simp only [hji7]; rfl) | rfl | (simp only [List.length_drop, List.length_take]; rfl)) ?_; (with_reducible refine (due_InTime.calls kj10 t376 ji7 t377 _ A21.out).mono ?_); rintro e w' ⟨rfl, ⟨nd, rfl⟩⟩; refine ⟨_, rfl, ?_⟩) | ((with_reducible refine gate_callee (f := 42) rfl ?_); refine goesL_ (some 70) rfl rfl Try.func42 (by kernel_rfl) rfl #[.int .i64 t376, .int .i64 ji7] rfl (by (try simp only [List.map_toArray, List.map_cons, List.map_nil]); first | done | (simp only [hji7]; rfl) | rfl | (simp only [List.length_drop, List.length_take]; rfl)) ?_; (with_reducible refine (due_Late.calls kj10 t376 ji7 t378 _ A22.out).mono ?_); rintro e w34 ⟨rfl, hb⟩; refine ⟨_, rfl, ?_⟩; have n0_ := Aside0.mk (below_step (by repeat (first | (with_reducible first | exact HB.out | apply below_alloc | apply pw_below_drewN | apply below_drew1) | exact HB.out)) hb); clear HB; have HB := n0_; clear n0_; (try clear hb); (try clear hb2); (try clear hk); (try clear hi)) | (go_at_call 44; (with_reducible refine (due_Whole.calls kj10 ji7 ji6 t380 _ A28.out).mono ?_); rintro e w35 ⟨rfl, hb⟩; have n0_ := Aside0.mk (below_step (by repeat (first | (with_reducible first | exact HB.out | apply below_alloc | apply pw_below_drewN | apply below_drew1) | exact HB.out)) hb); clear HB; have HB := n0_; clear n0_; (try clear hb); (try clear hb2); (try clear hk); (try clear hi)))
              go_ret
              exact ⟨by first | rfl | (simp [errW_none, errW_some] <;> rfl) | (simp only [← hji6, ← hji7]; first | rfl | (simp [errW_none, errW_some] <;> rfl)) | (simp [*, errW_none, errW_some] <;> rfl), by repeat (first | (with_reducible first | exact HB.out | apply below_alloc | apply pw_below_drewN | apply below_drew1) | exact HB.out)⟩
        · rw [if_neg c23] at H
          have c23b0 : (t377 == (t378 == 0)) = false := by simpa using c23
          (try (have c23b1 : decide (t377 = (t378 == 0)) = false := by simpa using c23))
          (try (have c23b2 : (t377 == (t378 == 0)) = false := by simpa using c23))
          (try (have c23b3 : ¬ (t377 = (t378 == 0)) := by simpa using c23))
          clear c23
          obtain rfl := Option.some.inj H
          go_wp2_with (first | ((with_reducible refine gate_callee (f := 23) rfl ?_); refine goesL_ (some 64) rfl rfl Try.func23 (by kernel_rfl) rfl #[.int .i64 a2, .int .i64 2880] rfl (by (try simp only [List.map_toArray, List.map_cons, List.map_nil]); first | done | rfl | (simp only [List.length_drop, List.length_take]; rfl)) ?_; (with_reducible refine (annuitykeep_Mod.calls a2 2880 t376 _ A20.out).mono ?_); rintro e w' ⟨rfl, ⟨nd, rfl⟩⟩; refine ⟨_, rfl, ?_⟩) | ((with_reducible refine gate_callee (f := 40) rfl ?_); refine goesL_ (some 67) rfl rfl Try.func40 (by kernel_rfl) rfl #[.int .i64 t376, .int .i64 ji7] rfl (by (try simp only [List.map_toArray, List.map_cons, List.map_nil]); first | done | (simp only [hji7]; rfl) | rfl | (simp only [List.length_drop, List.length_take]; rfl)) ?_; (with_reducible refine (due_InTime.calls kj10 t376 ji7 t377 _ A21.out).mono ?_); rintro e w' ⟨rfl, ⟨nd, rfl⟩⟩; refine ⟨_, rfl, ?_⟩) | ((with_reducible refine gate_callee (f := 42) rfl ?_); refine goesL_ (some 70) rfl rfl Try.func42 (by kernel_rfl) rfl #[.int .i64 t376, .int .i64 ji7] rfl (by (try simp only [List.map_toArray, List.map_cons, List.map_nil]); first | done | (simp only [hji7]; rfl) | rfl | (simp only [List.length_drop, List.length_take]; rfl)) ?_; (with_reducible refine (due_Late.calls kj10 t376 ji7 t378 _ A22.out).mono ?_); rintro e w36 ⟨rfl, hb⟩; refine ⟨_, rfl, ?_⟩; have n0_ := Aside0.mk (below_step (by repeat (first | (with_reducible first | exact HB.out | apply below_alloc | apply pw_below_drewN | apply below_drew1) | exact HB.out)) hb); clear HB; have HB := n0_; clear n0_; (try clear hb); (try clear hb2); (try clear hk); (try clear hi)))
          go_ret
          exact ⟨by first | rfl | (simp [errW_none, errW_some] <;> rfl) | (simp only [← hji6, ← hji7]; first | rfl | (simp [errW_none, errW_some] <;> rfl)) | (simp [*, errW_none, errW_some] <;> rfl), by repeat (first | (with_reducible first | exact HB.out | apply below_alloc | apply pw_below_drewN | apply below_drew1) | exact HB.out)⟩

/-- THE ONE PURE STATEMENT of annuitylaw05_DueWhole: yours. -/
def annuitylaw05_DueWhole.Pure : Prop := ∀ (a0 : Int) (a1 : Int) (a2 : Int), (Lit.int .i64 a0).wf = true → (Lit.int .i64 a1).wf = true → (Lit.int .i64 a2).wf = true → ∃ k, annuitylaw05_DueWhole.f k a0 a1 a2 = some true
theorem annuitylaw05_DueWhole.walk (P : annuitylaw05_DueWhole.Pure) (a0 : Int) (a1 : Int) (a2 : Int) (w : World) (w0 : (Lit.int .i64 a0).wf = true) (w1 : (Lit.int .i64 a1).wf = true) (w2 : (Lit.int .i64 a2).wf = true) :
    Calls Try.prog 12 #[.int .i64 a0, .int .i64 a1, .int .i64 a2] w fun e w' => e = .returned (.bool true) ∧ Below w.heap.size w w' := by
  obtain ⟨k, h⟩ := P a0 a1 a2 w0 w1 w2
  refine (annuitylaw05_DueWhole.calls k a0 a1 a2 true w h).mono ?_
  rintro e w' ⟨rfl, hd⟩
  exact ⟨rfl, hd⟩

end Go.Proofs.Ytgogccjfoclakaa.P
