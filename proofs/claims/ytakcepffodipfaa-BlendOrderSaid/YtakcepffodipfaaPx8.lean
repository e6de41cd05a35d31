/- Functions of the program as plain Lean functions, and proofs that its calls come to just their answers, where they tell one (written by a program of this session). -/
import Derived.Test.YtakcepffodipfaaPx0
import Derived.Test.YtakcepffodipfaaPx5
import Derived.Test.YtakcepffodipfaaPx7
namespace Go.Proofs.Ytakcepffodipfaa.P
open Go.RowKit Go.Proofs.YtakcepffodipfaaW.PrintWords Go.Proofs.YtakcepffodipfaaW.PrintLast Go.Proofs.YtakcepffodipfaaW.PrintMore
attribute [local go_sem] max2_int min2_int max_two min_two max_three min_three max_four min_four   -- for this text's walks alone
set_option linter.unusedVariables false
set_option linter.unusedSimpArgs false

/-! ### money_MulDiv: function 70 -/
mutual
def money_MulDiv.j0 : Nat → Int → Int → Int → Int → Bool → Option (Int × Int)
  | 0, _, _, _, _, _ => none
  | k + 1, x0, x1, x2, x3, x34 => if x34 = true then (some (0, 1)) else ((money_Mul.f (IntKind.u64.wrap (x0)) (IntKind.u64.wrap (x1))).bind fun bt148 => ((money_Div.f k bt148.1 bt148.2 (IntKind.u64.wrap (x2))).bind fun bt150 => (if bt150.2.2 = true then (money_MulDiv.j1 k x2 x3 bt150.1 bt150.2.1 (decide (bt150.1 > 10000000000000))) else (money_MulDiv.j1 k x2 x3 bt150.1 bt150.2.1 true))))
def money_MulDiv.j1 : Nat → Int → Int → Int → Int → Bool → Option (Int × Int)
  | 0, _, _, _, _, _ => none
  | k + 1, x2, x3, x12, x13, x57 => if x57 = true then (some (0, 14)) else (if x3 = 1 then (money_MulDiv.j2 k x12 (decide (x13 > 0))) else (if x3 = 2 then (if x13 > (IntKind.u64.wrap ((IntKind.u64.wrap (x2)) - x13)) then (money_MulDiv.j2 k x12 true) else (if x13 = (IntKind.u64.wrap ((IntKind.u64.wrap (x2)) - x13)) then (money_MulDiv.j2 k x12 ((Go.bits .and .u64 x12 1) == 1)) else (money_MulDiv.j2 k x12 false))) else (money_MulDiv.j2 k x12 false)))
def money_MulDiv.j2 : Nat → Int → Bool → Option (Int × Int)
  | 0, _, _ => none
  | k + 1, x12, x15 => if x15 = true then (if (IntKind.u64.wrap (x12 + 1)) > 10000000000000 then (some (0, 14)) else (some (wrap64 (IntKind.u64.wrap (x12 + 1)), 0))) else (if x12 > 10000000000000 then (some (0, 14)) else (some (wrap64 (x12), 0)))
end
def money_MulDiv.f (k : Nat) (a0 : Int) (a1 : Int) (a2 : Int) (a3 : Int) : Option (Int × Int) := if a0 < 0 then (money_MulDiv.j0 k a0 a1 a2 a3 true) else (if a1 < 0 then (money_MulDiv.j0 k a0 a1 a2 a3 true) else (if a2 ≤ 0 then (money_MulDiv.j0 k a0 a1 a2 a3 true) else (if a3 < 0 then (money_MulDiv.j0 k a0 a1 a2 a3 true) else (money_MulDiv.j0 k a0 a1 a2 a3 (decide (a3 > 2))))))
set_option maxHeartbeats 8000000 in
set_option maxRecDepth 100000 in
theorem money_MulDiv.calls (k : Nat) (a0 : Int) (a1 : Int) (a2 : Int) (a3 : Int) (r1 : Int) (r2 : Int) (w : World) (h : money_MulDiv.f k a0 a1 a2 a3 = some (r1, r2)) :
    Calls Try.prog 70 #[.int .i64 a0, .int .i64 a1, .int .i64 a2, .int .i64 a3] w fun e w' => e = .returned (.tuple #[.int .i64 r1, .int .i64 r2]) ∧ Drawn0 w w' := by
  have H : (if a0 < 0 then (money_MulDiv.j0 k a0 a1 a2 a3 true) else (if a1 < 0 then (money_MulDiv.j0 k a0 a1 a2 a3 true) else (if a2 ≤ 0 then (money_MulDiv.j0 k a0 a1 a2 a3 true) else (if a3 < 0 then (money_MulDiv.j0 k a0 a1 a2 a3 true) else (money_MulDiv.j0 k a0 a1 a2 a3 (decide (a3 > 2))))))) = some (r1, r2) := h
  clear h
  have HC5 := Aside0.mk H
  clear H
  go_enter Try.func70, Try.ntmps70
  go_upto_region 1 with (fail)
  go_cut [34] (fun v34 wc => ∃ (kq : Nat) (x34_4 : Bool), v34 = .bool x34_4 ∧ Aside0 (money_MulDiv.j0 kq a0 a1 a2 a3 x34_4 = some (r1, r2)) ∧ Aside0 (kq ≤ k) ∧ Drawn0 w wc)
  case first =>
    have H := HC5.out
    clear HC5
    by_cases c6 : a0 < 0
    · rw [if_pos c6] at H
      have c6b0 : decide (a0 < 0) = true := decide_eq_true c6
      clear c6
      (first | rw [c6b0] | (simp only [i64_w, i32_w]; rw [c6b0]) | skip)
      have H' := Aside0.mk H
      clear H
      go_wp2
      go_meet
      case rel => exact ⟨_, (true), (by first | rfl | (simp; done) | (simp [*]; done)), H', ⟨by first | omega | exact Nat.le_refl _⟩, by repeat (first | exact Drawn0.refl _ | apply Drawn0.step)⟩
    · rw [if_neg c6] at H
      have c6b0 : decide (a0 < 0) = false := decide_eq_false c6
      clear c6
      (first | rw [c6b0] | (simp only [i64_w, i32_w]; rw [c6b0]) | skip)
      by_cases c7 : a1 < 0
      · rw [if_pos c7] at H
        have c7b0 : decide (a1 < 0) = true := decide_eq_true c7
        clear c7
        have H' := Aside0.mk H
        clear H
        go_wp2
        go_meet
        case rel => exact ⟨_, (true), (by first | rfl | (simp; done) | (simp [*]; done)), H', ⟨by first | omega | exact Nat.le_refl _⟩, by repeat (first | exact Drawn0.refl _ | apply Drawn0.step)⟩
      · rw [if_neg c7] at H
        have c7b0 : decide (a1 < 0) = false := decide_eq_false c7
        clear c7
        by_cases c8 : a2 ≤ 0
        · rw [if_pos c8] at H
          have c8b0 : decide (a2 ≤ 0) = true := decide_eq_true c8
          clear c8
          have H' := Aside0.mk H
          clear H
          go_wp2
          go_meet
          case rel => exact ⟨_, (true), (by first | rfl | (simp; done) | (simp [*]; done)), H', ⟨by first | omega | exact Nat.le_refl _⟩, by repeat (first | exact Drawn0.refl _ | apply Drawn0.step)⟩
        · rw [if_neg c8] at H
          have c8b0 : decide (a2 ≤ 0) = false := decide_eq_false c8
          clear c8
          by_cases c9 : a3 < 0
          · rw [if_pos c9] at H
            have c9b0 : decide (a3 < 0) = true := decide_eq_true c9
            clear c9
            have H' := Aside0.mk H
            clear H
            go_wp2
            go_meet
            case rel => exact ⟨_, (true), (by first | rfl | (simp; done) | (simp [*]; done)), H', ⟨by first | omega | exact Nat.le_refl _⟩, by repeat (first | exact Drawn0.refl _ | apply Drawn0.step)⟩
          · rw [if_neg c9] at H
            have c9b0 : decide (a3 < 0) = false := decide_eq_false c9
            clear c9
            have H' := Aside0.mk H
            clear H
            go_wp2
            go_meet
            case rel => exact ⟨_, (decide (a3 > 2)), (by first | rfl | (simp; done) | (simp [*]; done)), H', ⟨by first | omega | exact Nat.le_refl _⟩, by repeat (first | exact Drawn0.refl _ | apply Drawn0.step)⟩
  case rest =>
    clear HC5
    try clear c6
    try clear c6b0
    try clear c7
    try clear c7b0
    try clear c8
    try clear c8b0
    try clear c9
    try clear c9b0
    obtain ⟨kq, x34_4, rfl, HA, HJ4, ⟨mc4, rfl⟩⟩ := hcut
    rcases kq with _ | kj4
    ·exact absurd HA.out (by simp [money_MulDiv.j0])
    have H := HA.out
    clear HA
    simp only [money_MulDiv.j0] at H
    by_cases c10 : x34_4 = true
    · subst c10
      have H1 : (some (0, 1)) = some (r1, r2) := by rw [if_pos rfl] at H; exact H
      clear H
      have H := H1
      clear H1
      simp only [Option.some.injEq, Prod.mk.injEq] at H
      obtain ⟨rfl, rfl⟩ := H
      go_wp2
      go_ret2
      exact ⟨by first | rfl | (simp; done) | (simp [*]; done), by repeat (first | exact Drawn0.refl _ | apply Drawn0.step)⟩
    · replace c10 := Bool.eq_false_iff.mpr c10
      subst c10
      have H1 : ((money_Mul.f (IntKind.u64.wrap (a0)) (IntKind.u64.wrap (a1))).bind fun bt148 => ((money_Div.f kj4 bt148.1 bt148.2 (IntKind.u64.wrap (a2))).bind fun bt150 => (if bt150.2.2 = true then (money_MulDiv.j1 kj4 a2 a3 bt150.1 bt150.2.1 (decide (bt150.1 > 10000000000000))) else (money_MulDiv.j1 kj4 a2 a3 bt150.1 bt150.2.1 true)))) = some (r1, r2) := by rw [if_neg (show ¬ (false = true) by decide)] at H; exact H
      clear H
      have H := H1
      clear H1
      replace H := Option.bind_eq_some_iff.mp H
      obtain ⟨⟨t148, t149⟩, A110, H⟩ := H
      replace H : ((money_Div.f kj4 t148 t149 (IntKind.u64.wrap (a2))).bind fun bt150 => (if bt150.2.2 = true then (money_MulDiv.j1 kj4 a2 a3 bt150.1 bt150.2.1 (decide (bt150.1 > 10000000000000))) else (money_MulDiv.j1 kj4 a2 a3 bt150.1 bt150.2.1 true))) = some (r1, r2) := H
      have A11 := Aside0.mk A110
      clear A110
      replace H := Option.bind_eq_some_iff.mp H
      obtain ⟨⟨t150, t151, t152⟩, A120, H⟩ := H
      replace H : (if t152 = true then (money_MulDiv.j1 kj4 a2 a3 t150 t151 (decide (t150 > 10000000000000))) else (money_MulDiv.j1 kj4 a2 a3 t150 t151 true)) = some (r1, r2) := H
      have A12 := Aside0.mk A120
      clear A120
      have HC13 := Aside0.mk H
      clear H
      go_upto_region 5 with (first | ((with_reducible refine gate_callee (f := 45) rfl ?_); refine goesL_ (some 40) rfl rfl Try.func45 (by kernel_rfl) rfl #[.int .u64 (IntKind.u64.wrap (a0)), .int .u64 (IntKind.u64.wrap (a1))] rfl (by (try simp only [List.map_toArray, List.map_cons, List.map_nil]); first | done | rfl | (simp only [List.length_drop, List.length_take]; rfl)) ?_; (with_reducible refine (money_Mul.calls (IntKind.u64.wrap (a0)) (IntKind.u64.wrap (a1)) t148 t149 _ A11.out).mono ?_); rintro e w' ⟨rfl, ⟨nd, rfl⟩⟩; refine ⟨_, rfl, ?_⟩) | ((with_reducible refine gate_callee (f := 47) rfl ?_); refine goesL_ (some 48) rfl rfl Try.func47 (by kernel_rfl) rfl #[.int .u64 t148, .int .u64 t149, .int .u64 (IntKind.u64.wrap (a2))] rfl (by (try simp only [List.map_toArray, List.map_cons, List.map_nil]); first | done | rfl | (simp only [List.length_drop, List.length_take]; rfl)) ?_; (with_reducible refine (money_Div.calls kj4 t148 t149 (IntKind.u64.wrap (a2)) t150 t151 t152 _ A12.out).mono ?_); rintro e w' ⟨rfl, ⟨nd, rfl⟩⟩; refine ⟨_, rfl, ?_⟩))
      (try simp only [Act.put, List.setIfInBounds_toArray, List.set_cons_zero, List.set_cons_succ])
      go_cut [57] (fun v57 wc => ∃ (kq : Nat) (x57_12 : Bool), v57 = .bool x57_12 ∧ Aside0 (money_MulDiv.j1 kq a2 a3 t150 t151 x57_12 = some (r1, r2)) ∧ Aside0 (kq ≤ kj4) ∧ Drawn0 w wc)
      case first =>
        have H := HC13.out
        clear HC13
        by_cases c14 : t152 = true
        · subst c14
          have H1 : (money_MulDiv.j1 kj4 a2 a3 t150 t151 (decide (t150 > 10000000000000))) = some (r1, r2) := by rw [if_pos rfl] at H; exact H
          clear H
          have H := H1
          clear H1
          have H' := Aside0.mk H
          clear H
          go_wp2
          go_meet
          case rel => exact ⟨_, (decide (t150 > 10000000000000)), (by first | rfl | (simp; done) | (simp [*]; done)), H', ⟨by have := HJ4.out; first | omega | exact Nat.le_refl _⟩, by repeat (first | exact Drawn0.refl _ | apply Drawn0.step)⟩
        · replace c14 := Bool.eq_false_iff.mpr c14
          subst c14
          have H1 : (money_MulDiv.j1 kj4 a2 a3 t150 t151 true) = some (r1, r2) := by rw [if_neg (show ¬ (false = true) by decide)] at H; exact H
          clear H
          have H := H1
          clear H1
          have H' := Aside0.mk H
          clear H
          go_wp2
          go_meet
          case rel => exact ⟨_, (true), (by first | rfl | (simp; done) | (simp [*]; done)), H', ⟨by have := HJ4.out; first | omega | exact Nat.le_refl _⟩, by repeat (first | exact Drawn0.refl _ | apply Drawn0.step)⟩
      case rest =>
        clear HC13
        try clear c6
        try clear c6b0
        try clear c7
        try clear c7b0
        try clear c8
        try clear c8b0
        try clear c9
        try clear c9b0
        try clear c10
        try clear c14
        obtain ⟨kq, x57_12, rfl, HA, HJ12, ⟨mc12, rfl⟩⟩ := hcut
        rcases kq with _ | kj12
        ·exact absurd HA.out (by simp [money_MulDiv.j1])
        have H := HA.out
        clear HA
        simp only [money_MulDiv.j1] at H
        by_cases c15 : x57_12 = true
        · subst c15
          have H1 : (some (0, 14)) = some (r1, r2) := by rw [if_pos rfl] at H; exact H
          clear H
          have H := H1
          clear H1
          simp only [Option.some.injEq, Prod.mk.injEq] at H
          obtain ⟨rfl, rfl⟩ := H
          go_wp2
          go_ret2
          exact ⟨by first | rfl | (simp; done) | (simp [*]; done), by repeat (first | exact Drawn0.refl _ | apply Drawn0.step)⟩
        · replace c15 := Bool.eq_false_iff.mpr c15
          subst c15
          have H1 : (if a3 = 1 then (money_MulDiv.j2 kj12 t150 (decide (t151 > 0))) else (if a3 = 2 then (if t151 > (IntKind.u64.wrap ((IntKind.u64.wrap (a2)) - t151)) then (money_MulDiv.j2 kj12 t150 true) else (if t151 = (IntKind.u64.wrap ((IntKind.u64.wrap (a2)) - t151)) then (money_MulDiv.j2 kj12 t150 ((Go.bits .and .u64 t150 1) == 1)) else (money_MulDiv.j2 kj12 t150 false))) else (money_MulDiv.j2 kj12 t150 false))) = some (r1, r2) := by rw [if_neg (show ¬ (false = true) by decide)] at H; exact H
          clear H
          have H := H1
          clear H1
          have HC16 := Aside0.mk H
          clear H
          go_upto_block 0 with (fail)
          go_cut [15] (fun v15 wc => ∃ (kq : Nat) (x15_15 : Bool), v15 = .bool x15_15 ∧ Aside0 (money_MulDiv.j2 kq t150 x15_15 = some (r1, r2)) ∧ Aside0 (kq ≤ kj12) ∧ Drawn0 w wc)
          case first =>
            have H := HC16.out
            clear HC16
            by_cases c17 : a3 = 1
            · rw [if_pos c17] at H
              have c17b0 : (a3 == 1) = true := beq_iff_eq.mpr c17
              have c17b1 : (a3 != 1) = false := bne_eq_false_iff_eq.mpr c17
              clear c17
              (first | rw [c17b0] | (simp only [i64_w, i32_w]; rw [c17b0]) | skip)
              have H' := Aside0.mk H
              clear H
              go_wp2
              go_meet
              case rel => exact ⟨_, (decide (t151 > 0)), (by first | rfl | (simp; done) | (simp [*]; done)), H', ⟨by have := HJ4.out; have := HJ12.out; first | omega | exact Nat.le_refl _⟩, by repeat (first | exact Drawn0.refl _ | apply Drawn0.step)⟩
            · rw [if_neg c17] at H
              have c17b0 : (a3 == 1) = false := beq_eq_false_iff_ne.mpr c17
              have c17b1 : (a3 != 1) = true := bne_iff_ne.mpr c17
              (first | rw [c17b0] | (simp only [i64_w, i32_w]; rw [c17b0]) | skip)
              by_cases c18 : a3 = 2
              · rw [if_pos c18] at H
                have c18b0 : (a3 == 2) = true := beq_iff_eq.mpr c18
                have c18b1 : (a3 != 2) = false := bne_eq_false_iff_eq.mpr c18
                clear c18
                by_cases c19 : t151 > (IntKind.u64.wrap ((IntKind.u64.wrap (a2)) - t151))
                · rw [if_pos c19] at H
                  have c19b0 : decide ((IntKind.u64.wrap ((IntKind.u64.wrap (a2)) - t151)) < t151) = true := decide_eq_true c19
                  clear c19
                  have H' := Aside0.mk H
                  clear H
                  go_wp2
                  go_meet
                  case rel => exact ⟨_, (true), (by first | rfl | (simp; done) | (simp [*]; done)), H', ⟨by have := HJ4.out; have := HJ12.out; first | omega | exact Nat.le_refl _⟩, by repeat (first | exact Drawn0.refl _ | apply Drawn0.step)⟩
                · rw [if_neg c19] at H
                  have c19b0 : decide ((IntKind.u64.wrap ((IntKind.u64.wrap (a2)) - t151)) < t151) = false := decide_eq_false c19
                  clear c19
                  by_cases c20 : t151 = (IntKind.u64.wrap ((IntKind.u64.wrap (a2)) - t151))
                  · rw [if_pos c20] at H
                    have c20b0 : (t151 == (IntKind.u64.wrap ((IntKind.u64.wrap (a2)) - t151))) = true := beq_iff_eq.mpr c20
                    have c20b1 : (t151 != (IntKind.u64.wrap ((IntKind.u64.wrap (a2)) - t151))) = false := bne_eq_false_iff_eq.mpr c20
                    clear c20
                    have H' := Aside0.mk H
                    clear H
                    go_wp2
                    go_meet
                    case rel => exact ⟨_, (((Go.bits .and .u64 t150 1) == 1)), (by first | rfl | (simp; done) | (simp [*]; done)), H', ⟨by have := HJ4.out; have := HJ12.out; first | omega | exact Nat.le_refl _⟩, by repeat (first | exact Drawn0.refl _ | apply Drawn0.step)⟩
                  · rw [if_neg c20] at H
                    have c20b0 : (t151 == (IntKind.u64.wrap ((IntKind.u64.wrap (a2)) - t151))) = false := beq_eq_false_iff_ne.mpr c20
                    have c20b1 : (t151 != (IntKind.u64.wrap ((IntKind.u64.wrap (a2)) - t151))) = true := bne_iff_ne.mpr c20
                    have H' := Aside0.mk H
                    clear H
                    go_wp2
                    go_meet
                    case rel => exact ⟨_, (false), (by first | rfl | (simp; done) | (simp [*]; done)), H', ⟨by have := HJ4.out; have := HJ12.out; first | omega | exact Nat.le_refl _⟩, by repeat (first | exact Drawn0.refl _ | apply Drawn0.step)⟩
              · rw [if_neg c18] at H
                have c18b0 : (a3 == 2) = false := beq_eq_false_iff_ne.mpr c18
                have c18b1 : (a3 != 2) = true := bne_iff_ne.mpr c18
                have H' := Aside0.mk H
                clear H
                go_wp2
                go_meet
                case rel => exact ⟨_, (false), (by first | rfl | (simp; done) | (simp [*]; done)), H', ⟨by have := HJ4.out; have := HJ12.out; first | omega | exact Nat.le_refl _⟩, by repeat (first | exact Drawn0.refl _ | apply Drawn0.step)⟩
          case rest =>
            clear HC16
            try clear c6
            try clear c6b0
            try clear c7
            try clear c7b0
            try clear c8
            try clear c8b0
            try clear c9
            try clear c9b0
            try clear c10
            try clear c14
            try clear c15
            try clear c17
            try clear c17b0 c17b1
            try clear c18
            try clear c18b0 c18b1
            try clear c19
            try clear c19b0
            try clear c20
            try clear c20b0 c20b1
            obtain ⟨kq, x15_15, rfl, HA, HJ15, ⟨mc15, rfl⟩⟩ := hcut
            rcases kq with _ | kj15
            ·exact absurd HA.out (by simp [money_MulDiv.j2])
            have H := HA.out
            clear HA
            simp only [money_MulDiv.j2] at H
            by_cases c21 : x15_15 = true
            · subst c21
              have H1 : (if (IntKind.u64.wrap (t150 + 1)) > 10000000000000 then (some (0, 14)) else (some (wrap64 (IntKind.u64.wrap (t150 + 1)), 0))) = some (r1, r2) := by rw [if_pos rfl] at H; exact H
              clear H
              have H := H1
              clear H1
              by_cases c22 : (IntKind.u64.wrap (t150 + 1)) > 10000000000000
              · rw [if_pos c22] at H
                have c22b0 : decide (10000000000000 < (IntKind.u64.wrap (t150 + 1))) = true := decide_eq_true c22
                clear c22
                simp only [Option.some.injEq, Prod.mk.injEq] at H
                obtain ⟨rfl, rfl⟩ := H
                go_wp2
                go_ret2
                exact ⟨by first | rfl | (simp; done) | (simp [*]; done), by repeat (first | exact Drawn0.refl _ | apply Drawn0.step)⟩
              · rw [if_neg c22] at H
                have c22b0 : decide (10000000000000 < (IntKind.u64.wrap (t150 + 1))) = false := decide_eq_false c22
                clear c22
                simp only [Option.some.injEq, Prod.mk.injEq] at H
                obtain ⟨rfl, rfl⟩ := H
                go_wp2
                go_ret2
                exact ⟨by first | rfl | (simp; done) | (simp [*]; done), by repeat (first | exact Drawn0.refl _ | apply Drawn0.step)⟩
            · replace c21 := Bool.eq_false_iff.mpr c21
              subst c21
              have H1 : (if t150 > 10000000000000 then (some (0, 14)) else (some (wrap64 (t150), 0))) = some (r1, r2) := by rw [if_neg (show ¬ (false = true) by decide)] at H; exact H
              clear H
              have H := H1
              clear H1
              by_cases c23 : t150 > 10000000000000
              · rw [if_pos c23] at H
                have c23b0 : decide (10000000000000 < t150) = true := decide_eq_true c23
                clear c23
                simp only [Option.some.injEq, Prod.mk.injEq] at H
                obtain ⟨rfl, rfl⟩ := H
                go_wp2
                go_ret2
                exact ⟨by first | rfl | (simp; done) | (simp [*]; done), by repeat (first | exact Drawn0.refl _ | apply Drawn0.step)⟩
              · rw [if_neg c23] at H
                have c23b0 : decide (10000000000000 < t150) = false := decide_eq_false c23
                clear c23
                simp only [Option.some.injEq, Prod.mk.injEq] at H
                obtain ⟨rfl, rfl⟩ := H
                go_wp2
                go_ret2
                exact ⟨by first | rfl | (simp; done) | (simp [*]; done), by repeat (first | exact Drawn0.refl _ | apply Drawn0.step)⟩

end Go.Proofs.Ytakcepffodipfaa.P
