/- Functions of the program as plain Lean functions, and proofs that its calls come to just their answers, where they tell one (written by a program of this session). -/
import Derived.Test.YteeajbnpbagjlaaPx0
import Derived.Test.YteeajbnpbagjlaaPx4
import Derived.Test.YteeajbnpbagjlaaPx7
namespace Go.Proofs.Yteeajbnpbagjlaa.P
open Go.RowKit Go.Proofs.YteeajbnpbagjlaaW.PrintWords Go.Proofs.YteeajbnpbagjlaaW.PrintLast Go.Proofs.YteeajbnpbagjlaaW.PrintMore
attribute [local go_sem] max2_int min2_int max_two min_two max_three min_three max_four min_four   -- for this text's walks alone
set_option linter.unusedVariables false
set_option linter.unusedSimpArgs false

/-! ### annuitylaw01_MoneyRounds: function 5 -/
def annuitylaw01_MoneyRounds.f (k : Nat) (a0 : Int) (a1 : Int) (a2 : Int) : Option (Bool) := (money_MulDiv.f k (wrap64 (a0)) (wrap64 (Int.tmod a1 1000)) (wrap64 ((wrap64 (a2)) + 1)) 0).bind fun bt153 => ((money_MulDiv.f k (wrap64 (a0)) (wrap64 (Int.tmod a1 1000)) (wrap64 ((wrap64 (a2)) + 1)) 2).bind fun bt155 => ((money_MulDiv.f k (wrap64 (a0)) (wrap64 (Int.tmod a1 1000)) (wrap64 ((wrap64 (a2)) + 1)) 1).bind fun bt157 => (if bt153.2 = 0 then (if bt155.2 = 0 then (if bt157.2 = 0 then (if bt153.1 ≤ bt155.1 then (if bt155.1 ≤ bt157.1 then (if (wrap64 (bt157.1 - bt153.1)) ≤ 1 then (if (wrap64 ((wrap64 (a2)) + 1)) = 0 then (none) else (if ((bt153.1 == bt157.1) == ((Int.tmod (wrap64 ((wrap64 (a0)) * (wrap64 (Int.tmod a1 1000)))) (wrap64 ((wrap64 (a2)) + 1))) == 0)) = true then (if (wrap64 (bt153.1 * (wrap64 ((wrap64 (a2)) + 1)))) ≤ (wrap64 ((wrap64 (a0)) * (wrap64 (Int.tmod a1 1000)))) then (if (wrap64 ((wrap64 ((wrap64 (a0)) * (wrap64 (Int.tmod a1 1000)))) - (wrap64 (bt153.1 * (wrap64 ((wrap64 (a2)) + 1)))))) < (wrap64 ((wrap64 (a2)) + 1)) then ((annuitylaw01_wakes.f k).bind fun t159 => (some t159)) else (some false)) else (some false)) else (some false))) else (some false)) else (some false)) else (some false)) else (some false)) else (some false)) else (some false))))
theorem annuitylaw01_MoneyRounds.mono : ∀ a0 a1 a2 k, LeO (annuitylaw01_MoneyRounds.f k a0 a1 a2) (annuitylaw01_MoneyRounds.f (k + 1) a0 a1 a2) := by
  intro a0 a1 a2 k
  unfold annuitylaw01_MoneyRounds.f
  repeat' first
      | (with_reducible exact annuitylaw01_wakes.mono _)
      | (with_reducible exact money_MulDiv.mono _ _ _ _ _)
      | (with_reducible exact LeO.refl _)
      | (with_reducible exact LeO.none _)
      | (with_reducible refine LeO.ite ?_ ?_)
      | (with_reducible refine LeO.bind ?_ (fun _ => ?_))
      | exact annuitylaw01_wakes.mono _
      | exact money_MulDiv.mono _ _ _ _ _
      | exact LeO.none _
      | refine LeO.ite ?_ ?_
      | refine LeO.bind ?_ (fun _ => ?_)
set_option maxHeartbeats 8000000 in
set_option maxRecDepth 100000 in
theorem annuitylaw01_MoneyRounds.calls (k : Nat) (a0 : Int) (a1 : Int) (a2 : Int) (r : Bool) (w : World) (h : annuitylaw01_MoneyRounds.f k a0 a1 a2 = some r) :
    Calls Try.prog 5 #[.int .u32 a0, .int .u32 a1, .int .u16 a2] w fun e w' => e = .returned (.bool r) ∧ Drawn0 w w' := by
  have H : ((money_MulDiv.f k (wrap64 (a0)) (wrap64 (Int.tmod a1 1000)) (wrap64 ((wrap64 (a2)) + 1)) 0).bind fun bt153 => ((money_MulDiv.f k (wrap64 (a0)) (wrap64 (Int.tmod a1 1000)) (wrap64 ((wrap64 (a2)) + 1)) 2).bind fun bt155 => ((money_MulDiv.f k (wrap64 (a0)) (wrap64 (Int.tmod a1 1000)) (wrap64 ((wrap64 (a2)) + 1)) 1).bind fun bt157 => (if bt153.2 = 0 then (if bt155.2 = 0 then (if bt157.2 = 0 then (if bt153.1 ≤ bt155.1 then (if bt155.1 ≤ bt157.1 then (if (wrap64 (bt157.1 - bt153.1)) ≤ 1 then (if (wrap64 ((wrap64 (a2)) + 1)) = 0 then (none) else (if ((bt153.1 == bt157.1) == ((Int.tmod (wrap64 ((wrap64 (a0)) * (wrap64 (Int.tmod a1 1000)))) (wrap64 ((wrap64 (a2)) + 1))) == 0)) = true then (if (wrap64 (bt153.1 * (wrap64 ((wrap64 (a2)) + 1)))) ≤ (wrap64 ((wrap64 (a0)) * (wrap64 (Int.tmod a1 1000)))) then (if (wrap64 ((wrap64 ((wrap64 (a0)) * (wrap64 (Int.tmod a1 1000)))) - (wrap64 (bt153.1 * (wrap64 ((wrap64 (a2)) + 1)))))) < (wrap64 ((wrap64 (a2)) + 1)) then ((annuitylaw01_wakes.f k).bind fun t159 => (some t159)) else (some false)) else (some false)) else (some false))) else (some false)) else (some false)) else (some false)) else (some false)) else (some false)) else (some false))))) = some r := h
  clear h
  replace H := Option.bind_eq_some_iff.mp H
  obtain ⟨⟨t153, t154⟩, A40, H⟩ := H
  replace H : ((money_MulDiv.f k (wrap64 (a0)) (wrap64 (Int.tmod a1 1000)) (wrap64 ((wrap64 (a2)) + 1)) 2).bind fun bt155 => ((money_MulDiv.f k (wrap64 (a0)) (wrap64 (Int.tmod a1 1000)) (wrap64 ((wrap64 (a2)) + 1)) 1).bind fun bt157 => (if t154 = 0 then (if bt155.2 = 0 then (if bt157.2 = 0 then (if t153 ≤ bt155.1 then (if bt155.1 ≤ bt157.1 then (if (wrap64 (bt157.1 - t153)) ≤ 1 then (if (wrap64 ((wrap64 (a2)) + 1)) = 0 then (none) else (if ((t153 == bt157.1) == ((Int.tmod (wrap64 ((wrap64 (a0)) * (wrap64 (Int.tmod a1 1000)))) (wrap64 ((wrap64 (a2)) + 1))) == 0)) = true then (if (wrap64 (t153 * (wrap64 ((wrap64 (a2)) + 1)))) ≤ (wrap64 ((wrap64 (a0)) * (wrap64 (Int.tmod a1 1000)))) then (if (wrap64 ((wrap64 ((wrap64 (a0)) * (wrap64 (Int.tmod a1 1000)))) - (wrap64 (t153 * (wrap64 ((wrap64 (a2)) + 1)))))) < (wrap64 ((wrap64 (a2)) + 1)) then ((annuitylaw01_wakes.f k).bind fun t159 => (some t159)) else (some false)) else (some false)) else (some false))) else (some false)) else (some false)) else (some false)) else (some false)) else (some false)) else (some false)))) = some r := H
  have A4 := Aside0.mk A40
  clear A40
  replace H := Option.bind_eq_some_iff.mp H
  obtain ⟨⟨t155, t156⟩, A50, H⟩ := H
  replace H : ((money_MulDiv.f k (wrap64 (a0)) (wrap64 (Int.tmod a1 1000)) (wrap64 ((wrap64 (a2)) + 1)) 1).bind fun bt157 => (if t154 = 0 then (if t156 = 0 then (if bt157.2 = 0 then (if t153 ≤ t155 then (if t155 ≤ bt157.1 then (if (wrap64 (bt157.1 - t153)) ≤ 1 then (if (wrap64 ((wrap64 (a2)) + 1)) = 0 then (none) else (if ((t153 == bt157.1) == ((Int.tmod (wrap64 ((wrap64 (a0)) * (wrap64 (Int.tmod a1 1000)))) (wrap64 ((wrap64 (a2)) + 1))) == 0)) = true then (if (wrap64 (t153 * (wrap64 ((wrap64 (a2)) + 1)))) ≤ (wrap64 ((wrap64 (a0)) * (wrap64 (Int.tmod a1 1000)))) then (if (wrap64 ((wrap64 ((wrap64 (a0)) * (wrap64 (Int.tmod a1 1000)))) - (wrap64 (t153 * (wrap64 ((wrap64 (a2)) + 1)))))) < (wrap64 ((wrap64 (a2)) + 1)) then ((annuitylaw01_wakes.f k).bind fun t159 => (some t159)) else (some false)) else (some false)) else (some false))) else (some false)) else (some false)) else (some false)) else (some false)) else (some false)) else (some false))) = some r := H
  have A5 := Aside0.mk A50
  clear A50
  replace H := Option.bind_eq_some_iff.mp H
  obtain ⟨⟨t157, t158⟩, A60, H⟩ := H
  replace H : (if t154 = 0 then (if t156 = 0 then (if t158 = 0 then (if t153 ≤ t155 then (if t155 ≤ t157 then (if (wrap64 (t157 - t153)) ≤ 1 then (if (wrap64 ((wrap64 (a2)) + 1)) = 0 then (none) else (if ((t153 == t157) == ((Int.tmod (wrap64 ((wrap64 (a0)) * (wrap64 (Int.tmod a1 1000)))) (wrap64 ((wrap64 (a2)) + 1))) == 0)) = true then (if (wrap64 (t153 * (wrap64 ((wrap64 (a2)) + 1)))) ≤ (wrap64 ((wrap64 (a0)) * (wrap64 (Int.tmod a1 1000)))) then (if (wrap64 ((wrap64 ((wrap64 (a0)) * (wrap64 (Int.tmod a1 1000)))) - (wrap64 (t153 * (wrap64 ((wrap64 (a2)) + 1)))))) < (wrap64 ((wrap64 (a2)) + 1)) then ((annuitylaw01_wakes.f k).bind fun t159 => (some t159)) else (some false)) else (some false)) else (some false))) else (some false)) else (some false)) else (some false)) else (some false)) else (some false)) else (some false)) = some r := H
  have A6 := Aside0.mk A60
  clear A60
  by_cases c7 : t154 = 0
  · rw [if_pos c7] at H
    have c7b0 : (t154 == 0) = true := beq_iff_eq.mpr c7
    have c7b1 : (t154 != 0) = false := bne_eq_false_iff_eq.mpr c7
    clear c7
    by_cases c8 : t156 = 0
    · rw [if_pos c8] at H
      have c8b0 : (t156 == 0) = true := beq_iff_eq.mpr c8
      have c8b1 : (t156 != 0) = false := bne_eq_false_iff_eq.mpr c8
      clear c8
      by_cases c9 : t158 = 0
      · rw [if_pos c9] at H
        have c9b0 : (t158 == 0) = true := beq_iff_eq.mpr c9
        have c9b1 : (t158 != 0) = false := bne_eq_false_iff_eq.mpr c9
        clear c9
        by_cases c10 : t153 ≤ t155
        · rw [if_pos c10] at H
          have c10b0 : decide (t153 ≤ t155) = true := decide_eq_true c10
          clear c10
          by_cases c11 : t155 ≤ t157
          · rw [if_pos c11] at H
            have c11b0 : decide (t155 ≤ t157) = true := decide_eq_true c11
            clear c11
            by_cases c12 : (wrap64 (t157 - t153)) ≤ 1
            · rw [if_pos c12] at H
              have c12b0 : decide ((wrap64 (t157 - t153)) ≤ 1) = true := decide_eq_true c12
              clear c12
              by_cases c13 : (wrap64 ((wrap64 (a2)) + 1)) = 0
              · rw [if_pos c13] at H
                exact absurd H (by simp)
              · rw [if_neg c13] at H
                have c13b0 : ((wrap64 ((wrap64 (a2)) + 1)) == 0) = false := beq_eq_false_iff_ne.mpr c13
                have c13b1 : ((wrap64 ((wrap64 (a2)) + 1)) != 0) = true := bne_iff_ne.mpr c13
                by_cases c14 : ((t153 == t157) == ((Int.tmod (wrap64 ((wrap64 (a0)) * (wrap64 (Int.tmod a1 1000)))) (wrap64 ((wrap64 (a2)) + 1))) == 0)) = true
                · rw [if_pos c14] at H
                  have c14b0 : ((t153 == t157) == ((Int.tmod (wrap64 ((wrap64 (a0)) * (wrap64 (Int.tmod a1 1000)))) (wrap64 ((wrap64 (a2)) + 1))) == 0)) = true := c14
                  (try (have c14b1 : decide ((t153 == t157) = ((Int.tmod (wrap64 ((wrap64 (a0)) * (wrap64 (Int.tmod a1 1000)))) (wrap64 ((wrap64 (a2)) + 1))) == 0)) = true := by simpa using c14))
                  (try (have c14b2 : ((t153 == t157) == ((Int.tmod (wrap64 ((wrap64 (a0)) * (wrap64 (Int.tmod a1 1000)))) (wrap64 ((wrap64 (a2)) + 1))) == 0)) = true := by simpa using c14))
                  clear c14
                  by_cases c15 : (wrap64 (t153 * (wrap64 ((wrap64 (a2)) + 1)))) ≤ (wrap64 ((wrap64 (a0)) * (wrap64 (Int.tmod a1 1000))))
                  · rw [if_pos c15] at H
                    have c15b0 : decide ((wrap64 (t153 * (wrap64 ((wrap64 (a2)) + 1)))) ≤ (wrap64 ((wrap64 (a0)) * (wrap64 (Int.tmod a1 1000))))) = true := decide_eq_true c15
                    clear c15
                    by_cases c16 : (wrap64 ((wrap64 ((wrap64 (a0)) * (wrap64 (Int.tmod a1 1000)))) - (wrap64 (t153 * (wrap64 ((wrap64 (a2)) + 1)))))) < (wrap64 ((wrap64 (a2)) + 1))
                    · rw [if_pos c16] at H
                      have c16b0 : decide ((wrap64 ((wrap64 ((wrap64 (a0)) * (wrap64 (Int.tmod a1 1000)))) - (wrap64 (t153 * (wrap64 ((wrap64 (a2)) + 1)))))) < (wrap64 ((wrap64 (a2)) + 1))) = true := decide_eq_true c16
                      clear c16
                      replace H := Option.bind_eq_some_iff.mp H
                      obtain ⟨t159, A170, H⟩ := H
                      replace H : (some t159) = some r := H
                      have A17 := Aside0.mk A170
                      clear A170
                      obtain rfl := Option.some.inj H
                      go_enter Try.func5, Try.ntmps5
                      go_wp2_with (first | ((with_reducible refine gate_callee (f := 15) rfl ?_); refine goesL_ (some 25) rfl rfl Try.func15 (by kernel_rfl) rfl #[.int .i64 (wrap64 (a0)), .int .i64 (wrap64 (Int.tmod a1 1000)), .int .i64 (wrap64 ((wrap64 (a2)) + 1)), .int .i64 0] rfl (by (try simp only [List.map_toArray, List.map_cons, List.map_nil]); first | done | rfl | (simp only [List.length_drop, List.length_take]; rfl)) ?_; (with_reducible refine (money_MulDiv.calls k (wrap64 (a0)) (wrap64 (Int.tmod a1 1000)) (wrap64 ((wrap64 (a2)) + 1)) 0 t153 t154 _ A4.out).mono ?_); rintro e w' ⟨rfl, ⟨nd, rfl⟩⟩; refine ⟨_, rfl, ?_⟩) | ((with_reducible refine gate_callee (f := 15) rfl ?_); refine goesL_ (some 35) rfl rfl Try.func15 (by kernel_rfl) rfl #[.int .i64 (wrap64 (a0)), .int .i64 (wrap64 (Int.tmod a1 1000)), .int .i64 (wrap64 ((wrap64 (a2)) + 1)), .int .i64 2] rfl (by (try simp only [List.map_toArray, List.map_cons, List.map_nil]); first | done | rfl | (simp only [List.length_drop, List.length_take]; rfl)) ?_; (with_reducible refine (money_MulDiv.calls k (wrap64 (a0)) (wrap64 (Int.tmod a1 1000)) (wrap64 ((wrap64 (a2)) + 1)) 2 t155 t156 _ A5.out).mono ?_); rintro e w' ⟨rfl, ⟨nd, rfl⟩⟩; refine ⟨_, rfl, ?_⟩) | ((with_reducible refine gate_callee (f := 15) rfl ?_); refine goesL_ (some 45) rfl rfl Try.func15 (by kernel_rfl) rfl #[.int .i64 (wrap64 (a0)), .int .i64 (wrap64 (Int.tmod a1 1000)), .int .i64 (wrap64 ((wrap64 (a2)) + 1)), .int .i64 1] rfl (by (try simp only [List.map_toArray, List.map_cons, List.map_nil]); first | done | rfl | (simp only [List.length_drop, List.length_take]; rfl)) ?_; (with_reducible refine (money_MulDiv.calls k (wrap64 (a0)) (wrap64 (Int.tmod a1 1000)) (wrap64 ((wrap64 (a2)) + 1)) 1 t157 t158 _ A6.out).mono ?_); rintro e w' ⟨rfl, ⟨nd, rfl⟩⟩; refine ⟨_, rfl, ?_⟩) | (go_at_call 17; (with_reducible refine (annuitylaw01_wakes.calls k  t159 _ A17.out).mono ?_); rintro e w' ⟨rfl, ⟨nd, rfl⟩⟩))
                      go_ret
                      exact ⟨by first | rfl | (simp; done) | (simp [*]; done), by repeat (first | exact Drawn0.refl _ | apply Drawn0.step)⟩
                    · rw [if_neg c16] at H
                      have c16b0 : decide ((wrap64 ((wrap64 ((wrap64 (a0)) * (wrap64 (Int.tmod a1 1000)))) - (wrap64 (t153 * (wrap64 ((wrap64 (a2)) + 1)))))) < (wrap64 ((wrap64 (a2)) + 1))) = false := decide_eq_false c16
                      clear c16
                      obtain rfl := Option.some.inj H
                      go_enter Try.func5, Try.ntmps5
                      go_wp2_with (first | ((with_reducible refine gate_callee (f := 15) rfl ?_); refine goesL_ (some 25) rfl rfl Try.func15 (by kernel_rfl) rfl #[.int .i64 (wrap64 (a0)), .int .i64 (wrap64 (Int.tmod a1 1000)), .int .i64 (wrap64 ((wrap64 (a2)) + 1)), .int .i64 0] rfl (by (try simp only [List.map_toArray, List.map_cons, List.map_nil]); first | done | rfl | (simp only [List.length_drop, List.length_take]; rfl)) ?_; (with_reducible refine (money_MulDiv.calls k (wrap64 (a0)) (wrap64 (Int.tmod a1 1000)) (wrap64 ((wrap64 (a2)) + 1)) 0 t153 t154 _ A4.out).mono ?_); rintro e w' ⟨rfl, ⟨nd, rfl⟩⟩; refine ⟨_, rfl, ?_⟩) | ((with_reducible refine gate_callee (f := 15) rfl ?_); refine goesL_ (some 35) rfl rfl Try.func15 (by kernel_rfl) rfl #[.int .i64 (wrap64 (a0)), .int .i64 (wrap64 (Int.tmod a1 1000)), .int .i64 (wrap64 ((wrap64 (a2)) + 1)), .int .i64 2] rfl (by (try simp only [List.map_toArray, List.map_cons, List.map_nil]); first | done | rfl | (simp only [List.length_drop, List.length_take]; rfl)) ?_; (with_reducible refine (money_MulDiv.calls k (wrap64 (a0)) (wrap64 (Int.tmod a1 1000)) (wrap64 ((wrap64 (a2)) + 1)) 2 t155 t156 _ A5.out).mono ?_); rintro e w' ⟨rfl, ⟨nd, rfl⟩⟩; refine ⟨_, rfl, ?_⟩) | ((with_reducible refine gate_callee (f := 15) rfl ?_); refine goesL_ (some 45) rfl rfl Try.func15 (by kernel_rfl) rfl #[.int .i64 (wrap64 (a0)), .int .i64 (wrap64 (Int.tmod a1 1000)), .int .i64 (wrap64 ((wrap64 (a2)) + 1)), .int .i64 1] rfl (by (try simp only [List.map_toArray, List.map_cons, List.map_nil]); first | done | rfl | (simp only [List.length_drop, List.length_take]; rfl)) ?_; (with_reducible refine (money_MulDiv.calls k (wrap64 (a0)) (wrap64 (Int.tmod a1 1000)) (wrap64 ((wrap64 (a2)) + 1)) 1 t157 t158 _ A6.out).mono ?_); rintro e w' ⟨rfl, ⟨nd, rfl⟩⟩; refine ⟨_, rfl, ?_⟩))
                      go_ret
                      exact ⟨by first | rfl | (simp; done) | (simp [*]; done), by repeat (first | exact Drawn0.refl _ | apply Drawn0.step)⟩
                  · rw [if_neg c15] at H
                    have c15b0 : decide ((wrap64 (t153 * (wrap64 ((wrap64 (a2)) + 1)))) ≤ (wrap64 ((wrap64 (a0)) * (wrap64 (Int.tmod a1 1000))))) = false := decide_eq_false c15
                    clear c15
                    obtain rfl := Option.some.inj H
                    go_enter Try.func5, Try.ntmps5
                    go_wp2_with (first | ((with_reducible refine gate_callee (f := 15) rfl ?_); refine goesL_ (some 25) rfl rfl Try.func15 (by kernel_rfl) rfl #[.int .i64 (wrap64 (a0)), .int .i64 (wrap64 (Int.tmod a1 1000)), .int .i64 (wrap64 ((wrap64 (a2)) + 1)), .int .i64 0] rfl (by (try simp only [List.map_toArray, List.map_cons, List.map_nil]); first | done | rfl | (simp only [List.length_drop, List.length_take]; rfl)) ?_; (with_reducible refine (money_MulDiv.calls k (wrap64 (a0)) (wrap64 (Int.tmod a1 1000)) (wrap64 ((wrap64 (a2)) + 1)) 0 t153 t154 _ A4.out).mono ?_); rintro e w' ⟨rfl, ⟨nd, rfl⟩⟩; refine ⟨_, rfl, ?_⟩) | ((with_reducible refine gate_callee (f := 15) rfl ?_); refine goesL_ (some 35) rfl rfl Try.func15 (by kernel_rfl) rfl #[.int .i64 (wrap64 (a0)), .int .i64 (wrap64 (Int.tmod a1 1000)), .int .i64 (wrap64 ((wrap64 (a2)) + 1)), .int .i64 2] rfl (by (try simp only [List.map_toArray, List.map_cons, List.map_nil]); first | done | rfl | (simp only [List.length_drop, List.length_take]; rfl)) ?_; (with_reducible refine (money_MulDiv.calls k (wrap64 (a0)) (wrap64 (Int.tmod a1 1000)) (wrap64 ((wrap64 (a2)) + 1)) 2 t155 t156 _ A5.out).mono ?_); rintro e w' ⟨rfl, ⟨nd, rfl⟩⟩; refine ⟨_, rfl, ?_⟩) | ((with_reducible refine gate_callee (f := 15) rfl ?_); refine goesL_ (some 45) rfl rfl Try.func15 (by kernel_rfl) rfl #[.int .i64 (wrap64 (a0)), .int .i64 (wrap64 (Int.tmod a1 1000)), .int .i64 (wrap64 ((wrap64 (a2)) + 1)), .int .i64 1] rfl (by (try simp only [List.map_toArray, List.map_cons, List.map_nil]); first | done | rfl | (simp only [List.length_drop, List.length_take]; rfl)) ?_; (with_reducible refine (money_MulDiv.calls k (wrap64 (a0)) (wrap64 (Int.tmod a1 1000)) (wrap64 ((wrap64 (a2)) + 1)) 1 t157 t158 _ A6.out).mono ?_); rintro e w' ⟨rfl, ⟨nd, rfl⟩⟩; refine ⟨_, rfl, ?_⟩))
                    go_ret
                    exact ⟨by first | rfl | (simp; done) | (simp [*]; done), by repeat (first | exact Drawn0.refl _ | apply Drawn0.step)⟩
                · rw [if_neg c14] at H
                  have c14b0 : ((t153 == t157) == ((Int.tmod (wrap64 ((wrap64 (a0)) * (wrap64 (Int.tmod a1 1000)))) (wrap64 ((wrap64 (a2)) + 1))) == 0)) = false := by simpa using c14
                  (try (have c14b1 : decide ((t153 == t157) = ((Int.tmod (wrap64 ((wrap64 (a0)) * (wrap64 (Int.tmod a1 1000)))) (wrap64 ((wrap64 (a2)) + 1))) == 0)) = false := by simpa using c14))
                  (try (have c14b2 : ((t153 == t157) == ((Int.tmod (wrap64 ((wrap64 (a0)) * (wrap64 (Int.tmod a1 1000)))) (wrap64 ((wrap64 (a2)) + 1))) == 0)) = false := by simpa using c14))
                  (try (have c14b3 : ¬ ((t153 == t157) = ((Int.tmod (wrap64 ((wrap64 (a0)) * (wrap64 (Int.tmod a1 1000)))) (wrap64 ((wrap64 (a2)) + 1))) == 0)) := by simpa using c14))
                  clear c14
                  obtain rfl := Option.some.inj H
                  go_enter Try.func5, Try.ntmps5
                  go_wp2_with (first | ((with_reducible refine gate_callee (f := 15) rfl ?_); refine goesL_ (some 25) rfl rfl Try.func15 (by kernel_rfl) rfl #[.int .i64 (wrap64 (a0)), .int .i64 (wrap64 (Int.tmod a1 1000)), .int .i64 (wrap64 ((wrap64 (a2)) + 1)), .int .i64 0] rfl (by (try simp only [List.map_toArray, List.map_cons, List.map_nil]); first | done | rfl | (simp only [List.length_drop, List.length_take]; rfl)) ?_; (with_reducible refine (money_MulDiv.calls k (wrap64 (a0)) (wrap64 (Int.tmod a1 1000)) (wrap64 ((wrap64 (a2)) + 1)) 0 t153 t154 _ A4.out).mono ?_); rintro e w' ⟨rfl, ⟨nd, rfl⟩⟩; refine ⟨_, rfl, ?_⟩) | ((with_reducible refine gate_callee (f := 15) rfl ?_); refine goesL_ (some 35) rfl rfl Try.func15 (by kernel_rfl) rfl #[.int .i64 (wrap64 (a0)), .int .i64 (wrap64 (Int.tmod a1 1000)), .int .i64 (wrap64 ((wrap64 (a2)) + 1)), .int .i64 2] rfl (by (try simp only [List.map_toArray, List.map_cons, List.map_nil]); first | done | rfl | (simp only [List.length_drop, List.length_take]; rfl)) ?_; (with_reducible refine (money_MulDiv.calls k (wrap64 (a0)) (wrap64 (Int.tmod a1 1000)) (wrap64 ((wrap64 (a2)) + 1)) 2 t155 t156 _ A5.out).mono ?_); rintro e w' ⟨rfl, ⟨nd, rfl⟩⟩; refine ⟨_, rfl, ?_⟩) | ((with_reducible refine gate_callee (f := 15) rfl ?_); refine goesL_ (some 45) rfl rfl Try.func15 (by kernel_rfl) rfl #[.int .i64 (wrap64 (a0)), .int .i64 (wrap64 (Int.tmod a1 1000)), .int .i64 (wrap64 ((wrap64 (a2)) + 1)), .int .i64 1] rfl (by (try simp only [List.map_toArray, List.map_cons, List.map_nil]); first | done | rfl | (simp only [List.length_drop, List.length_take]; rfl)) ?_; (with_reducible refine (money_MulDiv.calls k (wrap64 (a0)) (wrap64 (Int.tmod a1 1000)) (wrap64 ((wrap64 (a2)) + 1)) 1 t157 t158 _ A6.out).mono ?_); rintro e w' ⟨rfl, ⟨nd, rfl⟩⟩; refine ⟨_, rfl, ?_⟩))
                  go_ret
                  exact ⟨by first | rfl | (simp; done) | (simp [*]; done), by repeat (first | exact Drawn0.refl _ | apply Drawn0.step)⟩
            · rw [if_neg c12] at H
              have c12b0 : decide ((wrap64 (t157 - t153)) ≤ 1) = false := decide_eq_false c12
              clear c12
              obtain rfl := Option.some.inj H
              go_enter Try.func5, Try.ntmps5
              go_wp2_with (first | ((with_reducible refine gate_callee (f := 15) rfl ?_); refine goesL_ (some 25) rfl rfl Try.func15 (by kernel_rfl) rfl #[.int .i64 (wrap64 (a0)), .int .i64 (wrap64 (Int.tmod a1 1000)), .int .i64 (wrap64 ((wrap64 (a2)) + 1)), .int .i64 0] rfl (by (try simp only [List.map_toArray, List.map_cons, List.map_nil]); first | done | rfl | (simp only [List.length_drop, List.length_take]; rfl)) ?_; (with_reducible refine (money_MulDiv.calls k (wrap64 (a0)) (wrap64 (Int.tmod a1 1000)) (wrap64 ((wrap64 (a2)) + 1)) 0 t153 t154 _ A4.out).mono ?_); rintro e w' ⟨rfl, ⟨nd, rfl⟩⟩; refine ⟨_, rfl, ?_⟩) | ((with_reducible refine gate_callee (f := 15) rfl ?_); refine goesL_ (some 35) rfl rfl Try.func15 (by kernel_rfl) rfl #[.int .i64 (wrap64 (a0)), .int .i64 (wrap64 (Int.tmod a1 1000)), .int .i64 (wrap64 ((wrap64 (a2)) + 1)), .int .i64 2] rfl (by (try simp only [List.map_toArray, List.map_cons, List.map_nil]); first | done | rfl | (simp only [List.length_drop, List.length_take]; rfl)) ?_; (with_reducible refine (money_MulDiv.calls k (wrap64 (a0)) (wrap64 (Int.tmod a1 1000)) (wrap64 ((wrap64 (a2)) + 1)) 2 t155 t156 _ A5.out).mono ?_); rintro e w' ⟨rfl, ⟨nd, rfl⟩⟩; refine ⟨_, rfl, ?_⟩) | ((with_reducible refine gate_callee (f := 15) rfl ?_); refine goesL_ (some 45) rfl rfl Try.func15 (by kernel_rfl) rfl #[.int .i64 (wrap64 (a0)), .int .i64 (wrap64 (Int.tmod a1 1000)), .int .i64 (wrap64 ((wrap64 (a2)) + 1)), .int .i64 1] rfl (by (try simp only [List.map_toArray, List.map_cons, List.map_nil]); first | done | rfl | (simp only [List.length_drop, List.length_take]; rfl)) ?_; (with_reducible refine (money_MulDiv.calls k (wrap64 (a0)) (wrap64 (Int.tmod a1 1000)) (wrap64 ((wrap64 (a2)) + 1)) 1 t157 t158 _ A6.out).mono ?_); rintro e w' ⟨rfl, ⟨nd, rfl⟩⟩; refine ⟨_, rfl, ?_⟩))
              go_ret
              exact ⟨by first | rfl | (simp; done) | (simp [*]; done), by repeat (first | exact Drawn0.refl _ | apply Drawn0.step)⟩
          · rw [if_neg c11] at H
            have c11b0 : decide (t155 ≤ t157) = false := decide_eq_false c11
            clear c11
            obtain rfl := Option.some.inj H
            go_enter Try.func5, Try.ntmps5
            go_wp2_with (first | ((with_reducible refine gate_callee (f := 15) rfl ?_); refine goesL_ (some 25) rfl rfl Try.func15 (by kernel_rfl) rfl #[.int .i64 (wrap64 (a0)), .int .i64 (wrap64 (Int.tmod a1 1000)), .int .i64 (wrap64 ((wrap64 (a2)) + 1)), .int .i64 0] rfl (by (try simp only [List.map_toArray, List.map_cons, List.map_nil]); first | done | rfl | (simp only [List.length_drop, List.length_take]; rfl)) ?_; (with_reducible refine (money_MulDiv.calls k (wrap64 (a0)) (wrap64 (Int.tmod a1 1000)) (wrap64 ((wrap64 (a2)) + 1)) 0 t153 t154 _ A4.out).mono ?_); rintro e w' ⟨rfl, ⟨nd, rfl⟩⟩; refine ⟨_, rfl, ?_⟩) | ((with_reducible refine gate_callee (f := 15) rfl ?_); refine goesL_ (some 35) rfl rfl Try.func15 (by kernel_rfl) rfl #[.int .i64 (wrap64 (a0)), .int .i64 (wrap64 (Int.tmod a1 1000)), .int .i64 (wrap64 ((wrap64 (a2)) + 1)), .int .i64 2] rfl (by (try simp only [List.map_toArray, List.map_cons, List.map_nil]); first | done | rfl | (simp only [List.length_drop, List.length_take]; rfl)) ?_; (with_reducible refine (money_MulDiv.calls k (wrap64 (a0)) (wrap64 (Int.tmod a1 1000)) (wrap64 ((wrap64 (a2)) + 1)) 2 t155 t156 _ A5.out).mono ?_); rintro e w' ⟨rfl, ⟨nd, rfl⟩⟩; refine ⟨_, rfl, ?_⟩) | ((with_reducible refine gate_callee (f := 15) rfl ?_); refine goesL_ (some 45) rfl rfl Try.func15 (by kernel_rfl) rfl #[.int .i64 (wrap64 (a0)), .int .i64 (wrap64 (Int.tmod a1 1000)), .int .i64 (wrap64 ((wrap64 (a2)) + 1)), .int .i64 1] rfl (by (try simp only [List.map_toArray, List.map_cons, List.map_nil]); first | done | rfl | (simp only [List.length_drop, List.length_take]; rfl)) ?_; (with_reducible refine (money_MulDiv.calls k (wrap64 (a0)) (wrap64 (Int.tmod a1 1000)) (wrap64 ((wrap64 (a2)) + 1)) 1 t157 t158 _ A6.out).mono ?_); rintro e w' ⟨rfl, ⟨nd, rfl⟩⟩; refine ⟨_, rfl, ?_⟩))
            go_ret
            exact ⟨by first | rfl | (simp; done) | (simp [*]; done), by repeat (first | exact Drawn0.refl _ | apply Drawn0.step)⟩
        · rw [if_neg c10] at H
          have c10b0 : decide (t153 ≤ t155) = false := decide_eq_false c10
          clear c10
          obtain rfl := Option.some.inj H
          go_enter Try.func5, Try.ntmps5
          go_wp2_with (first | ((with_reducible refine gate_callee (f := 15) rfl ?_); refine goesL_ (some 25) rfl rfl Try.func15 (by kernel_rfl) rfl #[.int .i64 (wrap64 (a0)), .int .i64 (wrap64 (Int.tmod a1 1000)), .int .i64 (wrap64 ((wrap64 (a2)) + 1)), .int .i64 0] rfl (by (try simp only [List.map_toArray, List.map_cons, List.map_nil]); first | done | rfl | (simp only [List.length_drop, List.length_take]; rfl)) ?_; (with_reducible refine (money_MulDiv.calls k (wrap64 (a0)) (wrap64 (Int.tmod a1 1000)) (wrap64 ((wrap64 (a2)) + 1)) 0 t153 t154 _ A4.out).mono ?_); rintro e w' ⟨rfl, ⟨nd, rfl⟩⟩; refine ⟨_, rfl, ?_⟩) | ((with_reducible refine gate_callee (f := 15) rfl ?_); refine goesL_ (some 35) rfl rfl Try.func15 (by kernel_rfl) rfl #[.int .i64 (wrap64 (a0)), .int .i64 (wrap64 (Int.tmod a1 1000)), .int .i64 (wrap64 ((wrap64 (a2)) + 1)), .int .i64 2] rfl (by (try simp only [List.map_toArray, List.map_cons, List.map_nil]); first | done | rfl | (simp only [List.length_drop, List.length_take]; rfl)) ?_; (with_reducible refine (money_MulDiv.calls k (wrap64 (a0)) (wrap64 (Int.tmod a1 1000)) (wrap64 ((wrap64 (a2)) + 1)) 2 t155 t156 _ A5.out).mono ?_); rintro e w' ⟨rfl, ⟨nd, rfl⟩⟩; refine ⟨_, rfl, ?_⟩) | ((with_reducible refine gate_callee (f := 15) rfl ?_); refine goesL_ (some 45) rfl rfl Try.func15 (by kernel_rfl) rfl #[.int .i64 (wrap64 (a0)), .int .i64 (wrap64 (Int.tmod a1 1000)), .int .i64 (wrap64 ((wrap64 (a2)) + 1)), .int .i64 1] rfl (by (try simp only [List.map_toArray, List.map_cons, List.map_nil]); first | done | rfl | (simp only [List.length_drop, List.length_take]; rfl)) ?_; (with_reducible refine (money_MulDiv.calls k (wrap64 (a0)) (wrap64 (Int.tmod a1 1000)) (wrap64 ((wrap64 (a2)) + 1)) 1 t157 t158 _ A6.out).mono ?_); rintro e w' ⟨rfl, ⟨nd, rfl⟩⟩; refine ⟨_, rfl, ?_⟩))
          go_ret
          exact ⟨by first | rfl | (simp; done) | (simp [*]; done), by repeat (first | exact Drawn0.refl _ | apply Drawn0.step)⟩
      · rw [if_neg c9] at H
        have c9b0 : (t158 == 0) = false := beq_eq_false_iff_ne.mpr c9
        have c9b1 : (t158 != 0) = true := bne_iff_ne.mpr c9
        obtain rfl := Option.some.inj H
        go_enter Try.func5, Try.ntmps5
        go_wp2_with (first | ((with_reducible refine gate_callee (f := 15) rfl ?_); refine goesL_ (some 25) rfl rfl Try.func15 (by kernel_rfl) rfl #[.int .i64 (wrap64 (a0)), .int .i64 (wrap64 (Int.tmod a1 1000)), .int .i64 (wrap64 ((wrap64 (a2)) + 1)), .int .i64 0] rfl (by (try simp only [List.map_toArray, List.map_cons, List.map_nil]); first | done | rfl | (simp only [List.length_drop, List.length_take]; rfl)) ?_; (with_reducible refine (money_MulDiv.calls k (wrap64 (a0)) (wrap64 (Int.tmod a1 1000)) (wrap64 ((wrap64 (a2)) + 1)) 0 t153 t154 _ A4.out).mono ?_); rintro e w' ⟨rfl, ⟨nd, rfl⟩⟩; refine ⟨_, rfl, ?_⟩) | ((with_reducible refine gate_callee (f := 15) rfl ?_); refine goesL_ (some 35) rfl rfl Try.func15 (by kernel_rfl) rfl #[.int .i64 (wrap64 (a0)), .int .i64 (wrap64 (Int.tmod a1 1000)), .int .i64 (wrap64 ((wrap64 (a2)) + 1)), .int .i64 2] rfl (by (try simp only [List.map_toArray, List.map_cons, List.map_nil]); first | done | rfl | (simp only [List.length_drop, List.length_take]; rfl)) ?_; (with_reducible refine (money_MulDiv.calls k (wrap64 (a0)) (wrap64 (Int.tmod a1 1000)) (wrap64 ((wrap64 (a2)) + 1)) 2 t155 t156 _ A5.out).mono ?_); rintro e w' ⟨rfl, ⟨nd, rfl⟩⟩; refine ⟨_, rfl, ?_⟩) | ((with_reducible refine gate_callee (f := 15) rfl ?_); refine goesL_ (some 45) rfl rfl Try.func15 (by kernel_rfl) rfl #[.int .i64 (wrap64 (a0)), .int .i64 (wrap64 (Int.tmod a1 1000)), .int .i64 (wrap64 ((wrap64 (a2)) + 1)), .int .i64 1] rfl (by (try simp only [List.map_toArray, List.map_cons, List.map_nil]); first | done | rfl | (simp only [List.length_drop, List.length_take]; rfl)) ?_; (with_reducible refine (money_MulDiv.calls k (wrap64 (a0)) (wrap64 (Int.tmod a1 1000)) (wrap64 ((wrap64 (a2)) + 1)) 1 t157 t158 _ A6.out).mono ?_); rintro e w' ⟨rfl, ⟨nd, rfl⟩⟩; refine ⟨_, rfl, ?_⟩))
        go_ret
        exact ⟨by first | rfl | (simp; done) | (simp [*]; done), by repeat (first | exact Drawn0.refl _ | apply Drawn0.step)⟩
    · rw [if_neg c8] at H
      have c8b0 : (t156 == 0) = false := beq_eq_false_iff_ne.mpr c8
      have c8b1 : (t156 != 0) = true := bne_iff_ne.mpr c8
      obtain rfl := Option.some.inj H
      go_enter Try.func5, Try.ntmps5
      go_wp2_with (first | ((with_reducible refine gate_callee (f := 15) rfl ?_); refine goesL_ (some 25) rfl rfl Try.func15 (by kernel_rfl) rfl #[.int .i64 (wrap64 (a0)), .int .i64 (wrap64 (Int.tmod a1 1000)), .int .i64 (wrap64 ((wrap64 (a2)) + 1)), .int .i64 0] rfl (by (try simp only [List.map_toArray, List.map_cons, List.map_nil]); first | done | rfl | (simp only [List.length_drop, List.length_take]; rfl)) ?_; (with_reducible refine (money_MulDiv.calls k (wrap64 (a0)) (wrap64 (Int.tmod a1 1000)) (wrap64 ((wrap64 (a2)) + 1)) 0 t153 t154 _ A4.out).mono ?_); rintro e w' ⟨rfl, ⟨nd, rfl⟩⟩; refine ⟨_, rfl, ?_⟩) | ((with_reducible refine gate_callee (f := 15) rfl ?_); refine goesL_ (some 35) rfl rfl Try.func15 (by kernel_rfl) rfl #[.int .i64 (wrap64 (a0)), .int .i64 (wrap64 (Int.tmod a1 1000)), .int .i64 (wrap64 ((wrap64 (a2)) + 1)), .int .i64 2] rfl (by (try simp only [List.map_toArray, List.map_cons, List.map_nil]); first | done | rfl | (simp only [List.length_drop, List.length_take]; rfl)) ?_; (with_reducible refine (money_MulDiv.calls k (wrap64 (a0)) (wrap64 (Int.tmod a1 1000)) (wrap64 ((wrap64 (a2)) + 1)) 2 t155 t156 _ A5.out).mono ?_); rintro e w' ⟨rfl, ⟨nd, rfl⟩⟩; refine ⟨_, rfl, ?_⟩) | ((with_reducible refine gate_callee (f := 15) rfl ?_); refine goesL_ (some 45) rfl rfl Try.func15 (by kernel_rfl) rfl #[.int .i64 (wrap64 (a0)), .int .i64 (wrap64 (Int.tmod a1 1000)), .int .i64 (wrap64 ((wrap64 (a2)) + 1)), .int .i64 1] rfl (by (try simp only [List.map_toArray, List.map_cons, List.map_nil]); first | done | rfl | (simp only [List.length_drop, List.length_take]; rfl)) ?_; (with_reducible refine (money_MulDiv.calls k (wrap64 (a0)) (wrap64 (Int.tmod a1 1000)) (wrap64 ((wrap64 (a2)) + 1)) 1 t157 t158 _ A6.out).mono ?_); rintro e w' ⟨rfl, ⟨nd, rfl⟩⟩; refine ⟨_, rfl, ?_⟩))
      go_ret
      exact ⟨by first | rfl | (simp; done) | (simp [*]; done), by repeat (first | exact Drawn0.refl _ | apply Drawn0.step)⟩
  · rw [if_neg c7] at H
    have c7b0 : (t154 == 0) = false := beq_eq_false_iff_ne.mpr c7
    have c7b1 : (t154 != 0) = true := bne_iff_ne.mpr c7
    obtain rfl := Option.some.inj H
    go_enter Try.func5, Try.ntmps5
    go_wp2_with (first | ((with_reducible refine gate_callee (f := 15) rfl ?_); refine goesL_ (some 25) rfl rfl Try.func15 (by kernel_rfl) rfl #[.int .i64 (wrap64 (a0)), .int .i64 (wrap64 (Int.tmod a1 1000)), .int .i64 (wrap64 ((wrap64 (a2)) + 1)), .int .i64 0] rfl (by (try simp only [List.map_toArray, List.map_cons, List.map_nil]); first | done | rfl | (simp only [List.length_drop, List.length_take]; rfl)) ?_; (with_reducible refine (money_MulDiv.calls k (wrap64 (a0)) (wrap64 (Int.tmod a1 1000)) (wrap64 ((wrap64 (a2)) + 1)) 0 t153 t154 _ A4.out).mono ?_); rintro e w' ⟨rfl, ⟨nd, rfl⟩⟩; refine ⟨_, rfl, ?_⟩) | ((with_reducible refine gate_callee (f := 15) rfl ?_); refine goesL_ (some 35) rfl rfl Try.func15 (by kernel_rfl) rfl #[.int .i64 (wrap64 (a0)), .int .i64 (wrap64 (Int.tmod a1 1000)), .int .i64 (wrap64 ((wrap64 (a2)) + 1)), .int .i64 2] rfl (by (try simp only [List.map_toArray, List.map_cons, List.map_nil]); first | done | rfl | (simp only [List.length_drop, List.length_take]; rfl)) ?_; (with_reducible refine (money_MulDiv.calls k (wrap64 (a0)) (wrap64 (Int.tmod a1 1000)) (wrap64 ((wrap64 (a2)) + 1)) 2 t155 t156 _ A5.out).mono ?_); rintro e w' ⟨rfl, ⟨nd, rfl⟩⟩; refine ⟨_, rfl, ?_⟩) | ((with_reducible refine gate_callee (f := 15) rfl ?_); refine goesL_ (some 45) rfl rfl Try.func15 (by kernel_rfl) rfl #[.int .i64 (wrap64 (a0)), .int .i64 (wrap64 (Int.tmod a1 1000)), .int .i64 (wrap64 ((wrap64 (a2)) + 1)), .int .i64 1] rfl (by (try simp only [List.map_toArray, List.map_cons, List.map_nil]); first | done | rfl | (simp only [List.length_drop, List.length_take]; rfl)) ?_; (with_reducible refine (money_MulDiv.calls k (wrap64 (a0)) (wrap64 (Int.tmod a1 1000)) (wrap64 ((wrap64 (a2)) + 1)) 1 t157 t158 _ A6.out).mono ?_); rintro e w' ⟨rfl, ⟨nd, rfl⟩⟩; refine ⟨_, rfl, ?_⟩))
    go_ret
    exact ⟨by first | rfl | (simp; done) | (simp [*]; done), by repeat (first | exact Drawn0.refl _ | apply Drawn0.step)⟩

/-- THE ONE PURE STATEMENT of annuitylaw01_MoneyRounds: yours. -/
def annuitylaw01_MoneyRounds.Pure : Prop := ∀ (a0 : Int) (a1 : Int) (a2 : Int), (Lit.int .u32 a0).wf = true → (Lit.int .u32 a1).wf = true → (Lit.int .u16 a2).wf = true → ∃ k, annuitylaw01_MoneyRounds.f k a0 a1 a2 = some true
theorem annuitylaw01_MoneyRounds.walk (P : annuitylaw01_MoneyRounds.Pure) (a0 : Int) (a1 : Int) (a2 : Int) (w : World) (w0 : (Lit.int .u32 a0).wf = true) (w1 : (Lit.int .u32 a1).wf = true) (w2 : (Lit.int .u16 a2).wf = true) :
    Calls Try.prog 5 #[.int .u32 a0, .int .u32 a1, .int .u16 a2] w fun e w' => e = .returned (.bool true) ∧ Below w.heap.size w w' := by
  obtain ⟨k, h⟩ := P a0 a1 a2 w0 w1 w2
  refine (annuitylaw01_MoneyRounds.calls k a0 a1 a2 true w h).mono ?_
  rintro e w' ⟨rfl, hd⟩
  exact ⟨rfl, hd.below⟩

end Go.Proofs.Yteeajbnpbagjlaa.P
