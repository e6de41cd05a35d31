/- Functions of the program as plain Lean functions, and proofs that its calls come to just their answers, where they tell one (written by a program of this session). -/
import Derived.Test.YtakcepffodipfaaZaa
import Derived.Test.YtakcepffodipfaaPx0
import Derived.Test.YtakcepffodipfaaPx19
import Derived.Test.YtakcepffodipfaaPx23
namespace Go.Proofs.Ytakcepffodipfaa.P
open Go.RowKit Go.Proofs.YtakcepffodipfaaW.PrintWords Go.Proofs.YtakcepffodipfaaW.PrintLast Go.Proofs.YtakcepffodipfaaW.PrintMore
attribute [local go_sem] max2_int min2_int max_two min_two max_three min_three max_four min_four   -- for this text's walks alone
set_option linter.unusedVariables false
set_option linter.unusedSimpArgs false

/-! ### annuityref15_Of: function 41 -/
mutual
def annuityref15_Of.j0 : Nat → Int → Int → Int → Bool → Option (Int × Int)
 | 0, _, _, _, _ => none
 | k + 1, x0, x1, x2, x34 => if x34 = true then (some (0, 1)) else ((annuityref15_Left.f k x0 10000000000000 x1 x2).bind fun bt316 => (if bt316.2 = 0 then (annuityref15_Of.j1 k x0 x1 x2 (-1) 10000000000000 (bt316.1 != 0)) else (annuityref15_Of.j1 k x0 x1 x2 (-1) 10000000000000 true)))
def annuityref15_Of.j1 : Nat → Int → Int → Int → Int → Int → Bool → Option (Int × Int)
 | 0, _, _, _, _, _, _ => none
 | k + 1, x0, x1, x2, x8, x9, x48 => if x48 = true then (some (0, 14)) else (annuityref15_Of.l0 k x0 x1 x2 x8 x9 0)
def annuityref15_Of.l0 : Nat → Int → Int → Int → Int → Int → Int → Option (Int × Int)
 | 0, _, _, _, _, _, _ => none
 | k + 1, x0, x1, x2, x8, x9, x12 => if x12 < 60 then (annuityref15_Of.j3 k x0 x1 x2 x8 x9 x12 (decide ((wrap64 (x9 - x8)) > 1))) else (annuityref15_Of.j3 k x0 x1 x2 x8 x9 x12 false)
def annuityref15_Of.j3 : Nat → Int → Int → Int → Int → Int → Int → Bool → Option (Int × Int)
 | 0, _, _, _, _, _, _, _ => none
 | k + 1, x0, x1, x2, x8, x9, x12, x56 => if x56 = true then ((annuityref15_Left.f k x0 (wrap64 (x8 + (wrap64 (Int.tdiv (wrap64 (x9 - x8)) 2)))) x1 x2).bind fun bt318 => (if bt318.2 = 0 then (if bt318.1 = 0 then (annuityref15_Of.l0 k x0 x1 x2 x8 (wrap64 (x8 + (wrap64 (Int.tdiv (wrap64 (x9 - x8)) 2)))) (wrap64 (x12 + 1))) else (annuityref15_Of.l0 k x0 x1 x2 (wrap64 (x8 + (wrap64 (Int.tdiv (wrap64 (x9 - x8)) 2)))) x9 (wrap64 (x12 + 1)))) else (annuityref15_Of.l0 k x0 x1 x2 (wrap64 (x8 + (wrap64 (Int.tdiv (wrap64 (x9 - x8)) 2)))) x9 (wrap64 (x12 + 1))))) else (some (x9, 0))
end
def annuityref15_Of.f (k : Nat) (a0 : Int) (a1 : Int) (a2 : Int) : Option (Int × Int) := (annuityref15_money.f a0).bind fun t315 => (if t315 = true then (if a1 < 0 then (annuityref15_Of.j0 k a0 a1 a2 true) else (if a1 > 1000000 then (annuityref15_Of.j0 k a0 a1 a2 true) else (if a2 < 1 then (annuityref15_Of.j0 k a0 a1 a2 true) else (annuityref15_Of.j0 k a0 a1 a2 (decide (a2 > 360)))))) else (annuityref15_Of.j0 k a0 a1 a2 true))
set_option maxHeartbeats 8000000 in
set_option maxRecDepth 100000 in
theorem annuityref15_Of.calls (k : Nat) (a0 : Int) (a1 : Int) (a2 : Int) (r1 : Int) (r2 : Int) (w : World) (h : annuityref15_Of.f k a0 a1 a2 = some (r1, r2)) :
  Calls Try.prog 41 #[.int .i64 a0, .int .i64 a1, .int .i64 a2] w fun e w' => e = .returned (.tuple #[.int .i64 r1, .int .i64 r2]) ∧ Below w.heap.size w w' := by
 have HB := Aside0.mk (Below.refl w.heap.size w)
 have H : ((annuityref15_money.f a0).bind fun t315 => (if t315 = true then (if a1 < 0 then (annuityref15_Of.j0 k a0 a1 a2 true) else (if a1 > 1000000 then (annuityref15_Of.j0 k a0 a1 a2 true) else (if a2 < 1 then (annuityref15_Of.j0 k a0 a1 a2 true) else (annuityref15_Of.j0 k a0 a1 a2 (decide (a2 > 360)))))) else (annuityref15_Of.j0 k a0 a1 a2 true))) = some (r1, r2) := h
 clear h
 have HC4 := Aside0.mk H
 clear H
 go_enter Try.func41, Try.ntmps41
 go_upto_region 1 with (fail)
 go_cut [34] (fun v34 wc => ∃ (kq : Nat) (x34_3 : Bool), v34 = .bool x34_3 ∧ Aside0 (annuityref15_Of.j0 kq a0 a1 a2 x34_3 = some (r1, r2)) ∧ Aside0 (kq ≤ k) ∧ Aside0 (Below w.heap.size w wc))
 case first =>
  have H := HC4.out
  clear HC4
  replace H := Option.bind_eq_some_iff.mp H
  obtain ⟨t315, A50, H⟩ := H
  replace H : (if t315 = true then (if a1 < 0 then (annuityref15_Of.j0 k a0 a1 a2 true) else (if a1 > 1000000 then (annuityref15_Of.j0 k a0 a1 a2 true) else (if a2 < 1 then (annuityref15_Of.j0 k a0 a1 a2 true) else (annuityref15_Of.j0 k a0 a1 a2 (decide (a2 > 360)))))) else (annuityref15_Of.j0 k a0 a1 a2 true)) = some (r1, r2) := H
  have A5 := Aside0.mk A50
  clear A50
  by_cases c6 : t315 = true
  ·subst c6
   have H1 : (if a1 < 0 then (annuityref15_Of.j0 k a0 a1 a2 true) else (if a1 > 1000000 then (annuityref15_Of.j0 k a0 a1 a2 true) else (if a2 < 1 then (annuityref15_Of.j0 k a0 a1 a2 true) else (annuityref15_Of.j0 k a0 a1 a2 (decide (a2 > 360)))))) = some (r1, r2) := by rw [if_pos rfl] at H; exact H
   clear H
   have H := H1
   clear H1
   by_cases c7 : a1 < 0
   ·rw [if_pos c7] at H
    have c7b0 : decide (a1 < 0) = true := decide_eq_true c7
    clear c7
    (first | rw [c7b0] | (simp only [i64_w, i32_w]; rw [c7b0]) | skip)
    have H' := Aside0.mk H
    clear H
    go_wp2_with (first | ((with_reducible refine gate_callee (f := 57) rfl ?_); refine goesL_ (some 17) rfl rfl Try.func57 (by kernel_rfl) rfl #[.int .i64 a0] rfl (by (try simp only [List.map_toArray, List.map_cons, List.map_nil]); first | done | rfl | (simp only [List.length_drop, List.length_take]; rfl)) ?_; (with_reducible refine (annuityref15_money.calls a0 true _ A5.out).mono ?_); rintro e w' ⟨rfl, ⟨nd, rfl⟩⟩; refine ⟨_, rfl, ?_⟩))
    go_meet
    case rel => exact ⟨_, (true), (by first | rfl | (simp; done) | (simp [*]; done)), H', ⟨by first | omega | exact Nat.le_refl _⟩, ⟨by exact h0q HB.out⟩⟩
   ·rw [if_neg c7] at H
    have c7b0 : decide (a1 < 0) = false := decide_eq_false c7
    clear c7
    (first | rw [c7b0] | (simp only [i64_w, i32_w]; rw [c7b0]) | skip)
    by_cases c8 : a1 > 1000000
    ·rw [if_pos c8] at H
     have c8b0 : decide (1000000 < a1) = true := decide_eq_true c8
     clear c8
     have H' := Aside0.mk H
     clear H
     go_wp2_with (first | ((with_reducible refine gate_callee (f := 57) rfl ?_); refine goesL_ (some 17) rfl rfl Try.func57 (by kernel_rfl) rfl #[.int .i64 a0] rfl (by (try simp only [List.map_toArray, List.map_cons, List.map_nil]); first | done | rfl | (simp only [List.length_drop, List.length_take]; rfl)) ?_; (with_reducible refine (annuityref15_money.calls a0 true _ A5.out).mono ?_); rintro e w' ⟨rfl, ⟨nd, rfl⟩⟩; refine ⟨_, rfl, ?_⟩))
     go_meet
     case rel => exact ⟨_, (true), (by first | rfl | (simp; done) | (simp [*]; done)), H', ⟨by first | omega | exact Nat.le_refl _⟩, ⟨by exact h0q HB.out⟩⟩
    ·rw [if_neg c8] at H
     have c8b0 : decide (1000000 < a1) = false := decide_eq_false c8
     clear c8
     by_cases c9 : a2 < 1
     ·rw [if_pos c9] at H
      have c9b0 : decide (a2 < 1) = true := decide_eq_true c9
      clear c9
      have H' := Aside0.mk H
      clear H
      go_wp2_with (first | ((with_reducible refine gate_callee (f := 57) rfl ?_); refine goesL_ (some 17) rfl rfl Try.func57 (by kernel_rfl) rfl #[.int .i64 a0] rfl (by (try simp only [List.map_toArray, List.map_cons, List.map_nil]); first | done | rfl | (simp only [List.length_drop, List.length_take]; rfl)) ?_; (with_reducible refine (annuityref15_money.calls a0 true _ A5.out).mono ?_); rintro e w' ⟨rfl, ⟨nd, rfl⟩⟩; refine ⟨_, rfl, ?_⟩))
      go_meet
      case rel => exact ⟨_, (true), (by first | rfl | (simp; done) | (simp [*]; done)), H', ⟨by first | omega | exact Nat.le_refl _⟩, ⟨by exact h0q HB.out⟩⟩
     ·rw [if_neg c9] at H
      have c9b0 : decide (a2 < 1) = false := decide_eq_false c9
      clear c9
      have H' := Aside0.mk H
      clear H
      go_wp2_with (first | ((with_reducible refine gate_callee (f := 57) rfl ?_); refine goesL_ (some 17) rfl rfl Try.func57 (by kernel_rfl) rfl #[.int .i64 a0] rfl (by (try simp only [List.map_toArray, List.map_cons, List.map_nil]); first | done | rfl | (simp only [List.length_drop, List.length_take]; rfl)) ?_; (with_reducible refine (annuityref15_money.calls a0 true _ A5.out).mono ?_); rintro e w' ⟨rfl, ⟨nd, rfl⟩⟩; refine ⟨_, rfl, ?_⟩))
      go_meet
      case rel => exact ⟨_, (decide (a2 > 360)), (by first | rfl | (simp; done) | (simp [*]; done)), H', ⟨by first | omega | exact Nat.le_refl _⟩, ⟨by exact h0q HB.out⟩⟩
  ·replace c6 := Bool.eq_false_iff.mpr c6
   subst c6
   have H1 : (annuityref15_Of.j0 k a0 a1 a2 true) = some (r1, r2) := by rw [if_neg (show ¬ (false = true) by decide)] at H; exact H
   clear H
   have H := H1
   clear H1
   have H' := Aside0.mk H
   clear H
   go_wp2_with (first | ((with_reducible refine gate_callee (f := 57) rfl ?_); refine goesL_ (some 17) rfl rfl Try.func57 (by kernel_rfl) rfl #[.int .i64 a0] rfl (by (try simp only [List.map_toArray, List.map_cons, List.map_nil]); first | done | rfl | (simp only [List.length_drop, List.length_take]; rfl)) ?_; (with_reducible refine (annuityref15_money.calls a0 false _ A5.out).mono ?_); rintro e w' ⟨rfl, ⟨nd, rfl⟩⟩; refine ⟨_, rfl, ?_⟩))
   go_meet
   case rel => exact ⟨_, (true), (by first | rfl | (simp; done) | (simp [*]; done)), H', ⟨by first | omega | exact Nat.le_refl _⟩, ⟨by exact h0q HB.out⟩⟩
 case rest =>
  clear HC4
  try clear c6
  try clear c7
  try clear c7b0
  try clear c8
  try clear c8b0
  try clear c9
  try clear c9b0
  obtain ⟨kq, x34_3, rfl, HA, HJ3, HB⟩ := hcut
  rcases kq with _ | kj3
  ·exact absurd HA.out (by simp [annuityref15_Of.j0])
  have H := HA.out
  clear HA
  simp only [annuityref15_Of.j0] at H
  by_cases c10 : x34_3 = true
  ·subst c10
   have H1 : (some (0, 1)) = some (r1, r2) := by rw [if_pos rfl] at H; exact H
   clear H
   have H := H1
   clear H1
   simp only [Option.some.injEq, Prod.mk.injEq] at H
   obtain ⟨rfl, rfl⟩ := H
   go_wp2
   go_ret2
   exact ⟨by first | rfl | (simp [errW_none, errW_some] <;> rfl) | (simp [*, errW_none, errW_some] <;> rfl), by exact h0q HB.out⟩
  ·replace c10 := Bool.eq_false_iff.mpr c10
   subst c10
   have H1 : ((annuityref15_Left.f kj3 a0 10000000000000 a1 a2).bind fun bt316 => (if bt316.2 = 0 then (annuityref15_Of.j1 kj3 a0 a1 a2 (-1) 10000000000000 (bt316.1 != 0)) else (annuityref15_Of.j1 kj3 a0 a1 a2 (-1) 10000000000000 true))) = some (r1, r2) := by rw [if_neg (show ¬ (false = true) by decide)] at H; exact H
   clear H
   have H := H1
   clear H1
   replace H := Option.bind_eq_some_iff.mp H
   obtain ⟨⟨t316, t317⟩, A110, H⟩ := H
   replace H : (if t317 = 0 then (annuityref15_Of.j1 kj3 a0 a1 a2 (-1) 10000000000000 (t316 != 0)) else (annuityref15_Of.j1 kj3 a0 a1 a2 (-1) 10000000000000 true)) = some (r1, r2) := H
   have A11 := Aside0.mk A110
   clear A110
   have HC12 := Aside0.mk H
   clear H
   go_upto_region 5 with (first | ((with_reducible refine gate_callee (f := 58) rfl ?_); refine goesL_ (some 40) rfl rfl Try.func58 (by kernel_rfl) rfl #[.int .i64 a0, .int .i64 10000000000000, .int .i64 a1, .int .i64 a2] rfl (by (try simp only [List.map_toArray, List.map_cons, List.map_nil]); first | done | rfl | (simp only [List.length_drop, List.length_take]; rfl)) ?_; (with_reducible refine (annuityref15_Left.calls kj3 a0 10000000000000 a1 a2 t316 t317 _ A11.out).mono ?_); rintro e w13 ⟨rfl, hb⟩; refine ⟨_, rfl, ?_⟩; have n0_ := Aside0.mk (below_step (by exact h0q HB.out) hb); clear HB; have HB := n0_; clear n0_; (try clear hb); (try clear hb2); (try clear hk); (try clear hi)))
   (try simp only [Act.put, List.setIfInBounds_toArray, List.set_cons_zero, List.set_cons_succ])
   go_cut [48] (fun v48 wc => ∃ (kq : Nat) (x48_11 : Bool), v48 = .bool x48_11 ∧ Aside0 (annuityref15_Of.j1 kq a0 a1 a2 (-1) 10000000000000 x48_11 = some (r1, r2)) ∧ Aside0 (kq ≤ kj3) ∧ Aside0 (Below w.heap.size w wc))
   case first =>
    have H := HC12.out
    clear HC12
    by_cases c14 : t317 = 0
    ·rw [if_pos c14] at H
     have c14b0 : (t317 == 0) = true := beq_iff_eq.mpr c14
     have c14b1 : (t317 != 0) = false := bne_eq_false_iff_eq.mpr c14
     clear c14
     (first | rw [c14b0] | (simp only [i64_w, i32_w]; rw [c14b0]) | skip)
     have H' := Aside0.mk H
     clear H
     go_wp2
     go_meet
     case rel => exact ⟨_, ((t316 != 0)), (by first | rfl | (simp; done) | (simp [*]; done)), H', ⟨by have := HJ3.out; first | omega | exact Nat.le_refl _⟩, ⟨by exact h0q HB.out⟩⟩
    ·rw [if_neg c14] at H
     have c14b0 : (t317 == 0) = false := beq_eq_false_iff_ne.mpr c14
     have c14b1 : (t317 != 0) = true := bne_iff_ne.mpr c14
     (first | rw [c14b0] | (simp only [i64_w, i32_w]; rw [c14b0]) | skip)
     have H' := Aside0.mk H
     clear H
     go_wp2
     go_meet
     case rel => exact ⟨_, (true), (by first | rfl | (simp; done) | (simp [*]; done)), H', ⟨by have := HJ3.out; first | omega | exact Nat.le_refl _⟩, ⟨by exact h0q HB.out⟩⟩
   case rest =>
    clear HC12
    try clear c6
    try clear c7
    try clear c7b0
    try clear c8
    try clear c8b0
    try clear c9
    try clear c9b0
    try clear c10
    try clear c14
    try clear c14b0 c14b1
    obtain ⟨kq, x48_11, rfl, HA, HJ11, HB⟩ := hcut
    rcases kq with _ | kj11
    ·exact absurd HA.out (by simp [annuityref15_Of.j1])
    have H := HA.out
    clear HA
    simp only [annuityref15_Of.j1] at H
    by_cases c15 : x48_11 = true
    ·subst c15
     have H1 : (some (0, 14)) = some (r1, r2) := by rw [if_pos rfl] at H; exact H
     clear H
     have H := H1
     clear H1
     simp only [Option.some.injEq, Prod.mk.injEq] at H
     obtain ⟨rfl, rfl⟩ := H
     go_wp2
     go_ret2
     exact ⟨by first | rfl | (simp [errW_none, errW_some] <;> rfl) | (simp [*, errW_none, errW_some] <;> rfl), by exact h0q HB.out⟩
    ·replace c15 := Bool.eq_false_iff.mpr c15
     subst c15
     have H1 : (annuityref15_Of.l0 kj11 a0 a1 a2 (-1) 10000000000000 0) = some (r1, r2) := by rw [if_neg (show ¬ (false = true) by decide)] at H; exact H
     clear H
     have H := H1
     clear H1
     have H' := Aside0.mk H
     clear H
     go_wp2
     go_loopg [8, 9, 12] kj11 (fun kq v8 v9 v12 w' => ∃ (x8_3 : Int) (x9_3 : Int) (x12_3 : Int), v8 = .int .i64 x8_3 ∧ v9 = .int .i64 x9_3 ∧ v12 = .int .i64 x12_3 ∧ Aside0 (annuityref15_Of.l0 kq a0 a1 a2 x8_3 x9_3 x12_3 = some (r1, r2)) ∧ Aside0 (kq ≤ kj11) ∧ Aside0 (Below w.heap.size w w'))
     case atStart => exact ⟨((-1)), (10000000000000), (0), (by first | rfl | (simp; done) | (simp [*]; done)), (by first | rfl | (simp; done) | (simp [*]; done)), (by first | rfl | (simp; done) | (simp [*]; done)), H', ⟨Nat.le_refl _⟩, ⟨by exact h0q HB.out⟩⟩
     case round =>
      clear H'
      try clear c6
      try clear c7
      try clear c7b0
      try clear c8
      try clear c8b0
      try clear c9
      try clear c9b0
      try clear c10
      try clear c14
      try clear c14b0 c14b1
      try clear c15
      obtain ⟨x8_3, x9_3, x12_3, rfl, rfl, rfl, HA, HK3, HB⟩ := hrel
      rcases gk with _ | k3
      ·exact absurd HA.out (by simp [annuityref15_Of.l0])
      have H := HA.out
      clear HA
      simp only [annuityref15_Of.l0] at H
      have HC16 := Aside0.mk H
      clear H
      go_upto_region 8 with (fail)
      go_cut [56] (fun v56 wc => ∃ (kq : Nat) (x56_15 : Bool), v56 = .bool x56_15 ∧ Aside0 (annuityref15_Of.j3 kq a0 a1 a2 x8_3 x9_3 x12_3 x56_15 = some (r1, r2)) ∧ Aside0 (kq ≤ k3) ∧ Aside0 (Below w.heap.size w wc))
      case first =>
       have H := HC16.out
       clear HC16
       by_cases c17 : x12_3 < 60
       ·rw [if_pos c17] at H
        have c17b0 : decide (x12_3 < 60) = true := decide_eq_true c17
        clear c17
        (first | rw [c17b0] | (simp only [i64_w, i32_w]; rw [c17b0]) | skip)
        have H' := Aside0.mk H
        clear H
        go_wp2
        go_meet
        case rel => exact ⟨_, (decide ((wrap64 (x9_3 - x8_3)) > 1)), (by first | rfl | (simp; done) | (simp [*]; done)), H', ⟨by have := HJ3.out; have := HJ11.out; have := HK3.out; first | omega | exact Nat.le_refl _⟩, ⟨by exact h0q HB.out⟩⟩
       ·rw [if_neg c17] at H
        have c17b0 : decide (x12_3 < 60) = false := decide_eq_false c17
        clear c17
        (first | rw [c17b0] | (simp only [i64_w, i32_w]; rw [c17b0]) | skip)
        have H' := Aside0.mk H
        clear H
        go_wp2
        go_meet
        case rel => exact ⟨_, (false), (by first | rfl | (simp; done) | (simp [*]; done)), H', ⟨by have := HJ3.out; have := HJ11.out; have := HK3.out; first | omega | exact Nat.le_refl _⟩, ⟨by exact h0q HB.out⟩⟩
      case rest =>
       clear HC16
       try clear c6
       try clear c7
       try clear c7b0
       try clear c8
       try clear c8b0
       try clear c9
       try clear c9b0
       try clear c10
       try clear c14
       try clear c14b0 c14b1
       try clear c15
       try clear c17
       try clear c17b0
       obtain ⟨kq, x56_15, rfl, HA, HJ15, HB⟩ := hcut
       rcases kq with _ | kj15
       ·exact absurd HA.out (by simp [annuityref15_Of.j3])
       have H := HA.out
       clear HA
       simp only [annuityref15_Of.j3] at H
       by_cases c18 : x56_15 = true
       ·subst c18
        have H1 : ((annuityref15_Left.f kj15 a0 (wrap64 (x8_3 + (wrap64 (Int.tdiv (wrap64 (x9_3 - x8_3)) 2)))) a1 a2).bind fun bt318 => (if bt318.2 = 0 then (if bt318.1 = 0 then (annuityref15_Of.l0 kj15 a0 a1 a2 x8_3 (wrap64 (x8_3 + (wrap64 (Int.tdiv (wrap64 (x9_3 - x8_3)) 2)))) (wrap64 (x12_3 + 1))) else (annuityref15_Of.l0 kj15 a0 a1 a2 (wrap64 (x8_3 + (wrap64 (Int.tdiv (wrap64 (x9_3 - x8_3)) 2)))) x9_3 (wrap64 (x12_3 + 1)))) else (annuityref15_Of.l0 kj15 a0 a1 a2 (wrap64 (x8_3 + (wrap64 (Int.tdiv (wrap64 (x9_3 - x8_3)) 2)))) x9_3 (wrap64 (x12_3 + 1))))) = some (r1, r2) := by rw [if_pos rfl] at H; exact H
        clear H
        have H := H1
        clear H1
        replace H := Option.bind_eq_some_iff.mp H
        obtain ⟨⟨t318, t319⟩, A190, H⟩ := H
        replace H : (if t319 = 0 then (if t318 = 0 then (annuityref15_Of.l0 kj15 a0 a1 a2 x8_3 (wrap64 (x8_3 + (wrap64 (Int.tdiv (wrap64 (x9_3 - x8_3)) 2)))) (wrap64 (x12_3 + 1))) else (annuityref15_Of.l0 kj15 a0 a1 a2 (wrap64 (x8_3 + (wrap64 (Int.tdiv (wrap64 (x9_3 - x8_3)) 2)))) x9_3 (wrap64 (x12_3 + 1)))) else (annuityref15_Of.l0 kj15 a0 a1 a2 (wrap64 (x8_3 + (wrap64 (Int.tdiv (wrap64 (x9_3 - x8_3)) 2)))) x9_3 (wrap64 (x12_3 + 1)))) = some (r1, r2) := H
        have A19 := Aside0.mk A190
        clear A190
        by_cases c20 : t319 = 0
        ·rw [if_pos c20] at H
         have c20b0 : (t319 == 0) = true := beq_iff_eq.mpr c20
         have c20b1 : (t319 != 0) = false := bne_eq_false_iff_eq.mpr c20
         clear c20
         by_cases c21 : t318 = 0
         ·rw [if_pos c21] at H
          have c21b0 : (t318 == 0) = true := beq_iff_eq.mpr c21
          have c21b1 : (t318 != 0) = false := bne_eq_false_iff_eq.mpr c21
          clear c21
          have H' := Aside0.mk H
          clear H
          go_wp2_with (first | ((with_reducible refine gate_callee (f := 58) rfl ?_); refine goesL_ (some 70) rfl rfl Try.func58 (by kernel_rfl) rfl #[.int .i64 a0, .int .i64 (wrap64 (x8_3 + (wrap64 (Int.tdiv (wrap64 (x9_3 - x8_3)) 2)))), .int .i64 a1, .int .i64 a2] rfl (by (try simp only [List.map_toArray, List.map_cons, List.map_nil]); first | done | rfl | (simp only [List.length_drop, List.length_take]; rfl)) ?_; (with_reducible refine (annuityref15_Left.calls kj15 a0 (wrap64 (x8_3 + (wrap64 (Int.tdiv (wrap64 (x9_3 - x8_3)) 2)))) a1 a2 t318 t319 _ A19.out).mono ?_); rintro e w22 ⟨rfl, hb⟩; refine ⟨_, rfl, ?_⟩; have n0_ := Aside0.mk (below_step (by exact h0q HB.out) hb); clear HB; have HB := n0_; clear n0_; (try clear hb); (try clear hb2); (try clear hk); (try clear hi)))
          go_roundg kj15
          case measure => have := HJ3.out; have := HJ11.out; have := HK3.out; have := HJ15.out; omega
          case rel => exact ⟨(x8_3), (wrap64 (x8_3 + (wrap64 (Int.tdiv (wrap64 (x9_3 - x8_3)) 2)))), (wrap64 (x12_3 + 1)), (by first | rfl | (simp; done) | (simp [*]; done)), (by first | rfl | (simp; done) | (simp [*]; done)), (by first | rfl | (simp; done) | (simp [*]; done)), H', ⟨by have := HJ3.out; have := HJ11.out; have := HK3.out; have := HJ15.out; omega⟩, ⟨by exact h0q HB.out⟩⟩
         ·rw [if_neg c21] at H
          have c21b0 : (t318 == 0) = false := beq_eq_false_iff_ne.mpr c21
          have c21b1 : (t318 != 0) = true := bne_iff_ne.mpr c21
          have H' := Aside0.mk H
          clear H
          go_wp2_with (first | ((with_reducible refine gate_callee (f := 58) rfl ?_); refine goesL_ (some 70) rfl rfl Try.func58 (by kernel_rfl) rfl #[.int .i64 a0, .int .i64 (wrap64 (x8_3 + (wrap64 (Int.tdiv (wrap64 (x9_3 - x8_3)) 2)))), .int .i64 a1, .int .i64 a2] rfl (by (try simp only [List.map_toArray, List.map_cons, List.map_nil]); first | done | rfl | (simp only [List.length_drop, List.length_take]; rfl)) ?_; (with_reducible refine (annuityref15_Left.calls kj15 a0 (wrap64 (x8_3 + (wrap64 (Int.tdiv (wrap64 (x9_3 - x8_3)) 2)))) a1 a2 t318 t319 _ A19.out).mono ?_); rintro e w23 ⟨rfl, hb⟩; refine ⟨_, rfl, ?_⟩; have n0_ := Aside0.mk (below_step (by exact h0q HB.out) hb); clear HB; have HB := n0_; clear n0_; (try clear hb); (try clear hb2); (try clear hk); (try clear hi)))
          go_roundg kj15
          case measure => have := HJ3.out; have := HJ11.out; have := HK3.out; have := HJ15.out; omega
          case rel => exact ⟨(wrap64 (x8_3 + (wrap64 (Int.tdiv (wrap64 (x9_3 - x8_3)) 2)))), (x9_3), (wrap64 (x12_3 + 1)), (by first | rfl | (simp; done) | (simp [*]; done)), (by first | rfl | (simp; done) | (simp [*]; done)), (by first | rfl | (simp; done) | (simp [*]; done)), H', ⟨by have := HJ3.out; have := HJ11.out; have := HK3.out; have := HJ15.out; omega⟩, ⟨by exact h0q HB.out⟩⟩
        ·rw [if_neg c20] at H
         have c20b0 : (t319 == 0) = false := beq_eq_false_iff_ne.mpr c20
         have c20b1 : (t319 != 0) = true := bne_iff_ne.mpr c20
         have H' := Aside0.mk H
         clear H
         go_wp2_with (first | ((with_reducible refine gate_callee (f := 58) rfl ?_); refine goesL_ (some 70) rfl rfl Try.func58 (by kernel_rfl) rfl #[.int .i64 a0, .int .i64 (wrap64 (x8_3 + (wrap64 (Int.tdiv (wrap64 (x9_3 - x8_3)) 2)))), .int .i64 a1, .int .i64 a2] rfl (by (try simp only [List.map_toArray, List.map_cons, List.map_nil]); first | done | rfl | (simp only [List.length_drop, List.length_take]; rfl)) ?_; (with_reducible refine (annuityref15_Left.calls kj15 a0 (wrap64 (x8_3 + (wrap64 (Int.tdiv (wrap64 (x9_3 - x8_3)) 2)))) a1 a2 t318 t319 _ A19.out).mono ?_); rintro e w24 ⟨rfl, hb⟩; refine ⟨_, rfl, ?_⟩; have n0_ := Aside0.mk (below_step (by exact h0q HB.out) hb); clear HB; have HB := n0_; clear n0_; (try clear hb); (try clear hb2); (try clear hk); (try clear hi)))
         go_roundg kj15
         case measure => have := HJ3.out; have := HJ11.out; have := HK3.out; have := HJ15.out; omega
         case rel => exact ⟨(wrap64 (x8_3 + (wrap64 (Int.tdiv (wrap64 (x9_3 - x8_3)) 2)))), (x9_3), (wrap64 (x12_3 + 1)), (by first | rfl | (simp; done) | (simp [*]; done)), (by first | rfl | (simp; done) | (simp [*]; done)), (by first | rfl | (simp; done) | (simp [*]; done)), H', ⟨by have := HJ3.out; have := HJ11.out; have := HK3.out; have := HJ15.out; omega⟩, ⟨by exact h0q HB.out⟩⟩
       ·replace c18 := Bool.eq_false_iff.mpr c18
        subst c18
        have H1 : (some (x9_3, 0)) = some (r1, r2) := by rw [if_neg (show ¬ (false = true) by decide)] at H; exact H
        clear H
        have H := H1
        clear H1
        simp only [Option.some.injEq, Prod.mk.injEq] at H
        obtain ⟨rfl, rfl⟩ := H
        go_wp2
        go_ret2
        exact ⟨by first | rfl | (simp [errW_none, errW_some] <;> rfl) | (simp [*, errW_none, errW_some] <;> rfl), by exact h0q HB.out⟩

end Go.Proofs.Ytakcepffodipfaa.P
