/- Several texts as one (written by a program): what the walks and the plain laws come to, one behind the other. -/
import Derived.Test.YtlhcohipnieidaaGreatQa
import Derived.Test.YtlhcohipnieidaaGreatQb
import Derived.Test.YtlhcohipnieidaaGreatQe
import Derived.Test.YtlhcohipnieidaaGreatQf
import Derived.Deep.Slices
import Derived.WalkKit
import Derived.ProofKit
import Derived.OpenShut
import Derived.ShutString
import Derived.ChangeOld
import Derived.Below
import Derived.SizedLaws
import Derived.Test.YtlhcohipnieidaaGreatWAll
import Derived.Laws.BitsLemmas
import Derived.Laws.Bits64
import Derived.Lib.ItoaNum
import Derived.RowKit
namespace Go.Proofs.YtlhcohipnieidaaGreat.P
open Go.RowKit W.PrintWords W.PrintLast W.PrintMore
attribute [local go_sem] qXg qXd qXq qXr qY2 qY1 qXe qXf
set_option linter.unusedVariables false
set_option linter.unusedSimpArgs false
def qXm.f (a0 : Int) (a1 : Int) (a2 : Int) (a3 : Int) : Option (Bool) := if a0 ≥ 0 then ((qQ4.f a0).bind fun t276 => (if t276 = true then (if a1 ≥ 0 then ((qQ4.f a1).bind fun t277 => (if t277 = true then (if a2 ≥ 0 then (if a2 ≤ 1000000 then (if a3 ≥ 0 then (some (decide (a3 ≤ 360))) else (some false)) else (some false)) else (some false)) else (some false))) else (some false)) else (some false))) else (some false)
set_option maxHeartbeats 8000000 in
set_option maxRecDepth 100000 in
theorem qXm.calls (a0 : Int) (a1 : Int) (a2 : Int) (a3 : Int) (r : Bool) (w : World) (h : qXm.f a0 a1 a2 a3 = some r) :
  Calls Tryz.prog 66 #[.int .i64 a0, .int .i64 a1, .int .i64 a2, .int .i64 a3] w fun e w' => e = .returned (.bool r) ∧ Drawn0 w w' := by
 have H : (if a0 ≥ 0 then ((qQ4.f a0).bind fun t276 => (if t276 = true then (if a1 ≥ 0 then ((qQ4.f a1).bind fun t277 => (if t277 = true then (if a2 ≥ 0 then (if a2 ≤ 1000000 then (if a3 ≥ 0 then (some (decide (a3 ≤ 360))) else (some false)) else (some false)) else (some false)) else (some false))) else (some false)) else (some false))) else (some false)) = some r := h
 clear h
 by_cases c5 : a0 ≥ 0
 ·rw [if_pos c5] at H
  have c5b0 : decide (0 ≤ a0) = true := decide_eq_true c5
  clear c5
  replace H := Option.bind_eq_some_iff.mp H
  obtain ⟨t276, A60, H⟩ := H
  replace H : (if t276 = true then (if a1 ≥ 0 then ((qQ4.f a1).bind fun t277 => (if t277 = true then (if a2 ≥ 0 then (if a2 ≤ 1000000 then (if a3 ≥ 0 then (some (decide (a3 ≤ 360))) else (some false)) else (some false)) else (some false)) else (some false))) else (some false)) else (some false)) = some r := H
  have A6 := am A60
  clear A60
  by_cases c7 : t276 = true
  ·subst c7
   have H1 : (if a1 ≥ 0 then ((qQ4.f a1).bind fun t277 => (if t277 = true then (if a2 ≥ 0 then (if a2 ≤ 1000000 then (if a3 ≥ 0 then (some (decide (a3 ≤ 360))) else (some false)) else (some false)) else (some false)) else (some false))) else (some false)) = some r := by rw [if_pos rfl] at H; exact H
   clear H
   have H := H1
   clear H1
   by_cases c8 : a1 ≥ 0
   ·rw [if_pos c8] at H
    have c8b0 : decide (0 ≤ a1) = true := decide_eq_true c8
    clear c8
    replace H := Option.bind_eq_some_iff.mp H
    obtain ⟨t277, A90, H⟩ := H
    replace H : (if t277 = true then (if a2 ≥ 0 then (if a2 ≤ 1000000 then (if a3 ≥ 0 then (some (decide (a3 ≤ 360))) else (some false)) else (some false)) else (some false)) else (some false)) = some r := H
    have A9 := am A90
    clear A90
    by_cases c10 : t277 = true
    ·subst c10
     have H1 : (if a2 ≥ 0 then (if a2 ≤ 1000000 then (if a3 ≥ 0 then (some (decide (a3 ≤ 360))) else (some false)) else (some false)) else (some false)) = some r := by rw [if_pos rfl] at H; exact H
     clear H
     have H := H1
     clear H1
     by_cases c11 : a2 ≥ 0
     ·rw [if_pos c11] at H
      have c11b0 : decide (0 ≤ a2) = true := decide_eq_true c11
      clear c11
      by_cases c12 : a2 ≤ 1000000
      ·rw [if_pos c12] at H
       have c12b0 : decide (a2 ≤ 1000000) = true := decide_eq_true c12
       clear c12
       by_cases c13 : a3 ≥ 0
       ·rw [if_pos c13] at H
        have c13b0 : decide (0 ≤ a3) = true := decide_eq_true c13
        clear c13
        obtain rfl := Option.some.inj H
        go_enter Tryz.func66, Tryz.ntmps66
        go_wp2_with (first | (go_at_call 74; (with_reducible refine (qQ4.calls a0 true _ A6.out).mono ?_); rintro e w' ⟨rfl, ⟨nd, rfl⟩⟩) | (go_at_call 74; (with_reducible refine (qQ4.calls a1 true _ A9.out).mono ?_); rintro e w' ⟨rfl, ⟨nd, rfl⟩⟩))
        go_ret
        exact ⟨by first | rfl | (simp; done) | (simp [*]; done), by repeat (first | exact Drawn0.refl _ | apply Drawn0.step)⟩
       ·rw [if_neg c13] at H
        have c13b0 : decide (0 ≤ a3) = false := decide_eq_false c13
        clear c13
        obtain rfl := Option.some.inj H
        go_enter Tryz.func66, Tryz.ntmps66
        go_wp2_with (first | (go_at_call 74; (with_reducible refine (qQ4.calls a0 true _ A6.out).mono ?_); rintro e w' ⟨rfl, ⟨nd, rfl⟩⟩) | (go_at_call 74; (with_reducible refine (qQ4.calls a1 true _ A9.out).mono ?_); rintro e w' ⟨rfl, ⟨nd, rfl⟩⟩))
        go_ret
        exact ⟨by first | rfl | (simp; done) | (simp [*]; done), by repeat (first | exact Drawn0.refl _ | apply Drawn0.step)⟩
      ·rw [if_neg c12] at H
       have c12b0 : decide (a2 ≤ 1000000) = false := decide_eq_false c12
       clear c12
       obtain rfl := Option.some.inj H
       go_enter Tryz.func66, Tryz.ntmps66
       go_wp2_with (first | (go_at_call 74; (with_reducible refine (qQ4.calls a0 true _ A6.out).mono ?_); rintro e w' ⟨rfl, ⟨nd, rfl⟩⟩) | (go_at_call 74; (with_reducible refine (qQ4.calls a1 true _ A9.out).mono ?_); rintro e w' ⟨rfl, ⟨nd, rfl⟩⟩))
       go_ret
       exact ⟨by first | rfl | (simp; done) | (simp [*]; done), by repeat (first | exact Drawn0.refl _ | apply Drawn0.step)⟩
     ·rw [if_neg c11] at H
      have c11b0 : decide (0 ≤ a2) = false := decide_eq_false c11
      clear c11
      obtain rfl := Option.some.inj H
      go_enter Tryz.func66, Tryz.ntmps66
      go_wp2_with (first | (go_at_call 74; (with_reducible refine (qQ4.calls a0 true _ A6.out).mono ?_); rintro e w' ⟨rfl, ⟨nd, rfl⟩⟩) | (go_at_call 74; (with_reducible refine (qQ4.calls a1 true _ A9.out).mono ?_); rintro e w' ⟨rfl, ⟨nd, rfl⟩⟩))
      go_ret
      exact ⟨by first | rfl | (simp; done) | (simp [*]; done), by repeat (first | exact Drawn0.refl _ | apply Drawn0.step)⟩
    ·replace c10 := Bool.eq_false_iff.mpr c10
     subst c10
     have H1 : (some false) = some r := by rw [if_neg (show ¬ (false = true) by decide)] at H; exact H
     clear H
     have H := H1
     clear H1
     obtain rfl := Option.some.inj H
     go_enter Tryz.func66, Tryz.ntmps66
     go_wp2_with (first | (go_at_call 74; (with_reducible refine (qQ4.calls a0 true _ A6.out).mono ?_); rintro e w' ⟨rfl, ⟨nd, rfl⟩⟩) | (go_at_call 74; (with_reducible refine (qQ4.calls a1 false _ A9.out).mono ?_); rintro e w' ⟨rfl, ⟨nd, rfl⟩⟩))
     go_ret
     exact ⟨by first | rfl | (simp; done) | (simp [*]; done), by repeat (first | exact Drawn0.refl _ | apply Drawn0.step)⟩
   ·rw [if_neg c8] at H
    have c8b0 : decide (0 ≤ a1) = false := decide_eq_false c8
    clear c8
    obtain rfl := Option.some.inj H
    go_enter Tryz.func66, Tryz.ntmps66
    go_wp2_with (first | (go_at_call 74; (with_reducible refine (qQ4.calls a0 true _ A6.out).mono ?_); rintro e w' ⟨rfl, ⟨nd, rfl⟩⟩))
    go_ret
    exact ⟨by first | rfl | (simp; done) | (simp [*]; done), by repeat (first | exact Drawn0.refl _ | apply Drawn0.step)⟩
  ·replace c7 := Bool.eq_false_iff.mpr c7
   subst c7
   have H1 : (some false) = some r := by rw [if_neg (show ¬ (false = true) by decide)] at H; exact H
   clear H
   have H := H1
   clear H1
   obtain rfl := Option.some.inj H
   go_enter Tryz.func66, Tryz.ntmps66
   go_wp2_with (first | (go_at_call 74; (with_reducible refine (qQ4.calls a0 false _ A6.out).mono ?_); rintro e w' ⟨rfl, ⟨nd, rfl⟩⟩))
   go_ret
   exact ⟨by first | rfl | (simp; done) | (simp [*]; done), by repeat (first | exact Drawn0.refl _ | apply Drawn0.step)⟩
 ·rw [if_neg c5] at H
  have c5b0 : decide (0 ≤ a0) = false := decide_eq_false c5
  clear c5
  obtain rfl := Option.some.inj H
  go_enter Tryz.func66, Tryz.ntmps66
  go_wp2
  go_ret
  exact ⟨by first | rfl | (simp; done) | (simp [*]; done), by repeat (first | exact Drawn0.refl _ | apply Drawn0.step)⟩
def qXi.f (k : Nat) (a0 : Int) (a1 : Int) (a2 : Int) : Option (Int × Int) := (qQo.f k a0 a2 12000000 1).bind fun bt278 => (if bt278.2 = 0 then ((qZ1.f a0 bt278.1).bind fun bt280 => (if bt280.2 = 0 then (some (mx (wrap64 (bt280.1 - a1)) 0, 0)) else (some (0, bt280.2)))) else (some (0, bt278.2)))
set_option maxHeartbeats 8000000 in
set_option maxRecDepth 100000 in
theorem qXi.calls (k : Nat) (a0 : Int) (a1 : Int) (a2 : Int) (r1 : Int) (r2 : Int) (w : World) (h : qXi.f k a0 a1 a2 = some (r1, r2)) :
  Calls Tryz.prog 91 #[.int .i64 a0, .int .i64 a1, .int .i64 a2] w fun e w' => e = .returned (.tuple #[.int .i64 r1, .int .i64 r2]) ∧ Below w.heap.size w w' := by
 have HB := am (Below.refl w.heap.size w)
 have H : ((qQo.f k a0 a2 12000000 1).bind fun bt278 => (if bt278.2 = 0 then ((qZ1.f a0 bt278.1).bind fun bt280 => (if bt280.2 = 0 then (some (mx (wrap64 (bt280.1 - a1)) 0, 0)) else (some (0, bt280.2)))) else (some (0, bt278.2)))) = some (r1, r2) := h
 clear h
 replace H := Option.bind_eq_some_iff.mp H
 obtain ⟨⟨t278, t279⟩, A40, H⟩ := H
 replace H : (if t279 = 0 then ((qZ1.f a0 t278).bind fun bt280 => (if bt280.2 = 0 then (some (mx (wrap64 (bt280.1 - a1)) 0, 0)) else (some (0, bt280.2)))) else (some (0, t279))) = some (r1, r2) := H
 have A4 := am A40
 clear A40
 by_cases c5 : t279 = 0
 ·rw [if_pos c5] at H
  have c5b0 : (t279 == 0) = true := beq_iff_eq.mpr c5
  have c5b1 : (t279 != 0) = false := bne_eq_false_iff_eq.mpr c5
  clear c5
  replace H := Option.bind_eq_some_iff.mp H
  obtain ⟨⟨t280, t281⟩, A60, H⟩ := H
  replace H : (if t281 = 0 then (some (mx (wrap64 (t280 - a1)) 0, 0)) else (some (0, t281))) = some (r1, r2) := H
  have A6 := am A60
  clear A60
  by_cases c7 : t281 = 0
  ·rw [if_pos c7] at H
   have c7b0 : (t281 == 0) = true := beq_iff_eq.mpr c7
   have c7b1 : (t281 != 0) = false := bne_eq_false_iff_eq.mpr c7
   clear c7
   obtain ⟨ji8, hji8⟩ : ∃ j_ : Int, (mx (wrap64 (t280 - a1)) 0) = j_ := ⟨_, rfl⟩
   replace H : (some (ji8, 0)) = some (r1, r2) := by first | (rw [hji8] at H; exact H) | (simp only [hji8] at H ⊢; exact H)
   (try rw [hji8] at A4)
   (try rw [hji8] at A6)
   (try (have hji8l : 0 ≤ ji8 := by (rw [← hji8]; unfold mx; (repeat' split) <;> omega)))
   (try (have hji8m : 0 ≤ ji8 := by omega))
   have hji8_ : (if (wrap64 (t280 - a1)) < 0 then 0 else (wrap64 (t280 - a1))) = ji8 := hji8
   simp only [Option.some.injEq, Prod.mk.injEq] at H
   obtain ⟨rfl, rfl⟩ := H
   go_enter Tryz.func91, Tryz.ntmps91
   go_wp2_with (first | ((with_reducible refine qQh (f := 79) rfl ?_); refine goesL_ (some 13) rfl rfl Tryz.func79 (by kernel_rfl) rfl #[.int .i64 a0, .int .i64 a2, .int .i64 12000000, .int .i64 1] rfl ml ?_; (with_reducible refine (qQo.calls k a0 a2 12000000 1 t278 t279 _ A4.out).mono ?_); rintro e w' ⟨rfl, ⟨nd, rfl⟩⟩; refine ⟨_, rfl, ?_⟩) | ((with_reducible refine qQh (f := 110) rfl ?_); refine goesL_ (some 22) rfl rfl Tryz.func110 (by kernel_rfl) rfl #[.int .i64 a0, .int .i64 t278] rfl ml ?_; (with_reducible refine (qZ1.calls a0 t278 t280 t281 _ A6.out).mono ?_); rintro e w9 ⟨rfl, hb⟩; refine ⟨_, rfl, ?_⟩; have n0_ := am (qQb (by exact h0q HB.out) hb); clear HB; have HB := n0_; clear n0_; (try clear hb); (try clear hb2); (try clear hk); (try clear hi)))
   go_ret2
   exact ⟨by first | rfl | (simp [qQq, qQr] <;> rfl) | (simp only [← hji8]; first | rfl | (simp [qQq, qQr] <;> rfl)) | (simp [*, qQq, qQr] <;> rfl), by exact h0q HB.out⟩
  ·rw [if_neg c7] at H
   have c7b0 : (t281 == 0) = false := beq_eq_false_iff_ne.mpr c7
   have c7b1 : (t281 != 0) = true := bne_iff_ne.mpr c7
   simp only [Option.some.injEq, Prod.mk.injEq] at H
   obtain ⟨rfl, rfl⟩ := H
   go_enter Tryz.func91, Tryz.ntmps91
   go_wp2_with (first | ((with_reducible refine qQh (f := 79) rfl ?_); refine goesL_ (some 13) rfl rfl Tryz.func79 (by kernel_rfl) rfl #[.int .i64 a0, .int .i64 a2, .int .i64 12000000, .int .i64 1] rfl ml ?_; (with_reducible refine (qQo.calls k a0 a2 12000000 1 t278 t279 _ A4.out).mono ?_); rintro e w' ⟨rfl, ⟨nd, rfl⟩⟩; refine ⟨_, rfl, ?_⟩) | ((with_reducible refine qQh (f := 110) rfl ?_); refine goesL_ (some 22) rfl rfl Tryz.func110 (by kernel_rfl) rfl #[.int .i64 a0, .int .i64 t278] rfl ml ?_; (with_reducible refine (qZ1.calls a0 t278 t280 t281 _ A6.out).mono ?_); rintro e w10 ⟨rfl, hb⟩; refine ⟨_, rfl, ?_⟩; have n0_ := am (qQb (by exact h0q HB.out) hb); clear HB; have HB := n0_; clear n0_; (try clear hb); (try clear hb2); (try clear hk); (try clear hi)))
   go_ret2
   exact ⟨er, by exact h0q HB.out⟩
 ·rw [if_neg c5] at H
  have c5b0 : (t279 == 0) = false := beq_eq_false_iff_ne.mpr c5
  have c5b1 : (t279 != 0) = true := bne_iff_ne.mpr c5
  simp only [Option.some.injEq, Prod.mk.injEq] at H
  obtain ⟨rfl, rfl⟩ := H
  go_enter Tryz.func91, Tryz.ntmps91
  go_wp2_with (first | ((with_reducible refine qQh (f := 79) rfl ?_); refine goesL_ (some 13) rfl rfl Tryz.func79 (by kernel_rfl) rfl #[.int .i64 a0, .int .i64 a2, .int .i64 12000000, .int .i64 1] rfl ml ?_; (with_reducible refine (qQo.calls k a0 a2 12000000 1 t278 t279 _ A4.out).mono ?_); rintro e w' ⟨rfl, ⟨nd, rfl⟩⟩; refine ⟨_, rfl, ?_⟩))
  go_ret2
  exact ⟨er, by exact h0q HB.out⟩
def qYh.l0 : Nat → Int → Int → Int → Int → Int → Option (Int × Int)
 | 0, _, _, _, _, _ => none
 | k + 1, x0, x1, x2, x11, x12 => if x12 < x11 then ((qXi.f k x0 x1 x2).bind fun bt282 => (if bt282.2 = 0 then (qYh.l0 k bt282.1 x1 x2 x11 (wrap64 (x12 + 1))) else (some (0, bt282.2)))) else (some (x0, 0))
def qYh.f (k : Nat) (a0 : Int) (a1 : Int) (a2 : Int) (a3 : Int) : Option (Int × Int) := qYh.l0 k a0 a1 a2 a3 0
set_option maxHeartbeats 8000000 in
set_option maxRecDepth 100000 in
theorem qYh.calls (k : Nat) (a0 : Int) (a1 : Int) (a2 : Int) (a3 : Int) (r1 : Int) (r2 : Int) (w : World) (h : qYh.f k a0 a1 a2 a3 = some (r1, r2)) :
  Calls Tryz.prog 68 #[.int .i64 a0, .int .i64 a1, .int .i64 a2, .int .i64 a3] w fun e w' => e = .returned (.tuple #[.int .i64 r1, .int .i64 r2]) ∧ Below w.heap.size w w' := by
 have HB := am (Below.refl w.heap.size w)
 have H : (qYh.l0 k a0 a1 a2 a3 0) = some (r1, r2) := h
 clear h
 have H' := am H
 clear H
 go_enter Tryz.func68, Tryz.ntmps68
 go_wp2
 go_loopg [0, 12] k (fun kq v0 v12 w' => ∃ (x0_1 : Int) (x12_1 : Int), v0 = .int .i64 x0_1 ∧ v12 = .int .i64 x12_1 ∧ Aside0 (qYh.l0 kq x0_1 a1 a2 a3 x12_1 = some (r1, r2)) ∧ Aside0 (kq ≤ k) ∧ Aside0 (Below w.heap.size w w'))
 case atStart => exact ⟨(a0), (0), (by first | rfl | (simp; done) | (simp [*]; done)), (by first | rfl | (simp; done) | (simp [*]; done)), H', ⟨Nat.le_refl _⟩, ⟨by exact h0q HB.out⟩⟩
 case round =>
  clear H'
  obtain ⟨x0_1, x12_1, rfl, rfl, HA, HK1, HB⟩ := hrel
  rcases gk with _ | k1
  ·exact absurd HA.out (by simp [qYh.l0])
  have H := HA.out
  clear HA
  simp only [qYh.l0] at H
  by_cases c5 : x12_1 < a3
  ·rw [if_pos c5] at H
   have c5b0 : decide (x12_1 < a3) = true := decide_eq_true c5
   clear c5
   replace H := Option.bind_eq_some_iff.mp H
   obtain ⟨⟨t282, t283⟩, A60, H⟩ := H
   replace H : (if t283 = 0 then (qYh.l0 k1 t282 a1 a2 a3 (wrap64 (x12_1 + 1))) else (some (0, t283))) = some (r1, r2) := H
   have A6 := am A60
   clear A60
   by_cases c7 : t283 = 0
   ·rw [if_pos c7] at H
    have c7b0 : (t283 == 0) = true := beq_iff_eq.mpr c7
    have c7b1 : (t283 != 0) = false := bne_eq_false_iff_eq.mpr c7
    clear c7
    have H' := am H
    clear H
    go_wp2_with (first | ((with_reducible refine qQh (f := 91) rfl ?_); refine goesL_ (some 18) rfl rfl Tryz.func91 (by kernel_rfl) rfl #[.int .i64 x0_1, .int .i64 a1, .int .i64 a2] rfl ml ?_; (with_reducible refine (qXi.calls k1 x0_1 a1 a2 t282 t283 _ A6.out).mono ?_); rintro e w8 ⟨rfl, hb⟩; refine ⟨_, rfl, ?_⟩; have n0_ := am (qQb (by exact h0q HB.out) hb); clear HB; have HB := n0_; clear n0_; (try clear hb); (try clear hb2); (try clear hk); (try clear hi)))
    go_roundg k1
    case measure => have := HK1.out; omega
    case rel => exact ⟨(t282), (wrap64 (x12_1 + 1)), (by first | rfl | (simp; done) | (simp [*]; done)), (by first | rfl | (simp; done) | (simp [*]; done)), H', ⟨by have := HK1.out; omega⟩, ⟨by exact h0q HB.out⟩⟩
   ·rw [if_neg c7] at H
    have c7b0 : (t283 == 0) = false := beq_eq_false_iff_ne.mpr c7
    have c7b1 : (t283 != 0) = true := bne_iff_ne.mpr c7
    simp only [Option.some.injEq, Prod.mk.injEq] at H
    obtain ⟨rfl, rfl⟩ := H
    go_wp2_with (first | ((with_reducible refine qQh (f := 91) rfl ?_); refine goesL_ (some 18) rfl rfl Tryz.func91 (by kernel_rfl) rfl #[.int .i64 x0_1, .int .i64 a1, .int .i64 a2] rfl ml ?_; (with_reducible refine (qXi.calls k1 x0_1 a1 a2 t282 t283 _ A6.out).mono ?_); rintro e w9 ⟨rfl, hb⟩; refine ⟨_, rfl, ?_⟩; have n0_ := am (qQb (by exact h0q HB.out) hb); clear HB; have HB := n0_; clear n0_; (try clear hb); (try clear hb2); (try clear hk); (try clear hi)))
    go_ret2
    exact ⟨er, by exact h0q HB.out⟩
  ·rw [if_neg c5] at H
   have c5b0 : decide (x12_1 < a3) = false := decide_eq_false c5
   clear c5
   simp only [Option.some.injEq, Prod.mk.injEq] at H
   obtain ⟨rfl, rfl⟩ := H
   go_wp2
   go_ret2
   exact ⟨er, by exact h0q HB.out⟩
-- NOT PRINTED: function 67 (level_Of_1)
def qZg.en (k : Nat) (a0 : Int) (a1 : Int) (a2 : Int) (pay : Int) : Option (Bool) := (qYh.f k a0 pay a1 a2).bind fun r => if r.2 = 0 then some (r.1 == 0) else some false
def qZg.l0 : Nat → Int → Int → Int → Int → Int → Option (Int × Int)
 | 0, _, _, _, _, _ => none
 | k + 1, x0, x1, x2, x9, x10 => if x9 < x10 then ((qZg.en k x0 x1 x2 (wrap64 (Int.tdiv (wrap64 (x9 + x10)) 2))).bind fun t => (if t = true then (qZg.l0 k x0 x1 x2 x9 (wrap64 (Int.tdiv (wrap64 (x9 + x10)) 2))) else (qZg.l0 k x0 x1 x2 (wrap64 ((wrap64 (Int.tdiv (wrap64 (x9 + x10)) 2)) + 1)) x10))) else (some (x9, 0))
def qZg.f (k : Nat) (a0 : Int) (a1 : Int) (a2 : Int) : Option (Int × Int) := (qXm.f a0 0 a1 a2).bind fun m => if m = true then (if a2 < 1 then (some (0, 1)) else ((qZg.en k a0 a1 a2 10000000000000).bind fun t => (if t = true then (qZg.l0 k a0 a1 a2 0 10000000000000) else (some (0, 14))))) else (some (0, 1))
set_option maxHeartbeats 8000000 in
set_option maxRecDepth 100000 in
theorem qZg.enough (k : Nat) (a0 a1 a2 pay : Int) (g : Nat) (r : Bool) (w : World) (h : qZg.en k a0 a1 a2 pay = some r)
  (h1 : w.heap[g]? = some (.cells #[.int .i64 a0] 2 (0, 0))) (h2 : w.heap[g + 1]? = some (.cells #[.int .i64 a1] 3 (0, 0))) (h3 : w.heap[g + 2]? = some (.cells #[.int .i64 a2] 3 (0, 0))) :
  Calls Tryz.prog 67 #[.int .i64 pay, .pointer (some ⟨g, 0, none⟩), .pointer (some ⟨g + 1, 0, none⟩), .pointer (some ⟨g + 2, 0, none⟩)] w fun e w' => e = .returned (.bool r) ∧ Below w.heap.size w w' := by
 unfold qZg.en at h
 obtain ⟨⟨x, e⟩, hl, h⟩ := Option.bind_eq_some_iff.mp h
 have A := am hl
 clear hl
 have c1 : w.cell? ⟨g, 0, none⟩ = some (.int .i64 a0) := (qQc h1 0).trans rfl
 have c2 : w.cell? ⟨g + 1, 0, none⟩ = some (.int .i64 a1) := (qQc h2 0).trans rfl
 have c3 : w.cell? ⟨g + 2, 0, none⟩ = some (.int .i64 a2) := (qQc h3 0).trans rfl
 have f1 := qQi h1 0
 have f2 := qQi h2 0
 have f3 := qQi h3 0
 clear h1 h2 h3
 simp only at h
 by_cases c : e = 0
 ·rw [if_pos c] at h
  subst c
  obtain rfl := Option.some.inj h
  clear h
  go_enter Tryz.func67, Tryz.ntmps67
  go_wp2_with (go_at_call 68; (with_reducible refine (qYh.calls k a0 pay a1 a2 x 0 _ A.out).mono ?_); rintro e w1 ⟨rfl, hb⟩)
  go_ret
  exact ⟨by first | rfl | (simp; done), hb⟩
 ·rw [if_neg c] at h
  have c4 : (e == 0) = false := beq_eq_false_iff_ne.mpr c
  obtain rfl := Option.some.inj h
  clear h
  go_enter Tryz.func67, Tryz.ntmps67
  go_wp2_with (go_at_call 68; (with_reducible refine (qYh.calls k a0 pay a1 a2 x e _ A.out).mono ?_); rintro e w1 ⟨rfl, hb⟩)
  go_ret
  exact ⟨by first | rfl | (simp; done), hb⟩
theorem qZg.kept {w w' : World} {i : Nat} {o : Obj} (hb : Below w.heap.size w w') (h : w.heap[i]? = some o) : w'.heap[i]? = some o :=
 (hb.block i (qZr h)).trans h
set_option maxHeartbeats 8000000 in
set_option maxRecDepth 100000 in
theorem qZg.calls (k : Nat) (a0 : Int) (a1 : Int) (a2 : Int) (r1 : Int) (r2 : Int) (w : World) (h : qZg.f k a0 a1 a2 = some (r1, r2)) :
  Calls Tryz.prog 44 #[.int .i64 a0, .int .i64 a1, .int .i64 a2] w fun e w' => e = .returned (.tuple #[.int .i64 r1, .int .i64 r2]) ∧ Below w.heap.size w w' := by
 unfold qZg.f at h
 obtain ⟨m, hm, h⟩ := Option.bind_eq_some_iff.mp h
 have M := am hm
 have H := am h
 clear hm h
 have hmf : ∀ (fn : Fn) (first cap : Array Value) (w : World), (Instr.makeFunc fn first cap).run Tryz.prog w = .ok (.func fn first cap) w := fun _ _ _ _ => rfl
 go_enter Tryz.func44, Tryz.ntmps44
 go_upto_region 1 with (fail)
 obtain ⟨W, hW⟩ : ∃ W, W = ((w.alloc (Obj.cells #[.int .i64 a0] 2)).alloc (Obj.cells #[.int .i64 a1] 3)).alloc (Obj.cells #[.int .i64 a2] 3) := ⟨_, rfl⟩
 have B0 : Aside0 (W.heap[w.heap.size]? = some (.cells #[.int .i64 a0] 2 (0, 0))) := ⟨by rw [hW]; exact qQm (qQm (qY3 w _) _) _⟩
 have B1 : Aside0 (W.heap[w.heap.size + 1]? = some (.cells #[.int .i64 a1] 3 (0, 0))) := ⟨by
  have := qQm (qY3 (w.alloc (Obj.cells #[.int .i64 a0] 2)) (Obj.cells #[.int .i64 a1] 3)) (Obj.cells #[.int .i64 a2] 3)
  rw [hW]; simpa using this⟩
 have B2 : Aside0 (W.heap[w.heap.size + 2]? = some (.cells #[.int .i64 a2] 3 (0, 0))) := ⟨by
  have := qY3 ((w.alloc (Obj.cells #[.int .i64 a0] 2)).alloc (Obj.cells #[.int .i64 a1] 3)) (Obj.cells #[.int .i64 a2] 3)
  rw [hW]; simpa using this⟩
 have HB : Aside0 (Below w.heap.size w W) := ⟨by rw [hW]; exact (((Below.refl _ _).alloc (Nat.le_refl _) _).alloc (by simp) _).alloc (by simp; omega) _⟩
 rw [← hW]
 clear hW h
 rw [show w.heap.size + 1 + 1 = w.heap.size + 2 from rfl]
 have c0 : W.cell? ⟨w.heap.size, 0, none⟩ = some (.int .i64 a0) := (qQc B0.out 0).trans rfl
 have c1 : W.cell? ⟨w.heap.size + 1, 0, none⟩ = some (.int .i64 a1) := (qQc B1.out 0).trans rfl
 have c2 : W.cell? ⟨w.heap.size + 2, 0, none⟩ = some (.int .i64 a2) := (qQc B2.out 0).trans rfl
 have f0 := qQi B0.out 0
 have f1 := qQi B1.out 0
 have f2 := qQi B2.out 0
 cases m with
 | false =>
  have h := H.out
  rw [if_neg (show ¬ (false = true) by decide)] at h
  simp only [Option.some.injEq, Prod.mk.injEq] at h
  obtain ⟨rfl, rfl⟩ := h
  clear H
  go_wp2_with (go_at_call 66; (with_reducible refine (qXm.calls a0 0 a1 a2 false _ M.out).mono ?_); rintro e w' ⟨rfl, ⟨nd, rfl⟩⟩)
  go_ret2
  exact ⟨rfl, qZo HB.out _⟩
 | true =>
  have h := H.out
  rw [if_pos rfl] at h
  by_cases c : a2 < 1
  ·rw [if_pos c] at h
   have c' : decide (a2 < 1) = true := decide_eq_true c
   simp only [Option.some.injEq, Prod.mk.injEq] at h
   obtain ⟨rfl, rfl⟩ := h
   clear H c
   go_wp2_with (go_at_call 66; (with_reducible refine (qXm.calls a0 0 a1 a2 true _ M.out).mono ?_); rintro e w' ⟨rfl, ⟨nd, rfl⟩⟩)
   go_ret2
   exact ⟨rfl, qZo HB.out _⟩
  ·rw [if_neg c] at h
   have c' : decide (a2 < 1) = false := decide_eq_false c
   obtain ⟨t, A0, h⟩ := Option.bind_eq_some_iff.mp h
   have A := am A0
   have H1 := am h
   clear H c A0 h
   cases t with
   | false =>
    have h := H1.out
    rw [if_neg (show ¬ (false = true) by decide)] at h
    simp only [Option.some.injEq, Prod.mk.injEq] at h
    obtain ⟨rfl, rfl⟩ := h
    clear H1
    go_wp2_with (first | (go_at_call 66; (with_reducible refine (qXm.calls a0 0 a1 a2 true _ M.out).mono ?_); rintro e w' ⟨rfl, ⟨nd, rfl⟩⟩) | (go_at_call 67; (with_reducible refine (qZg.enough k a0 a1 a2 10000000000000 w.heap.size false _ A.out (qQj B0.out _) (qQj B1.out _) (qQj B2.out _)).mono ?_); rintro e w1 ⟨rfl, hb⟩))
    go_ret2
    exact ⟨rfl, qQb (qZo HB.out _) hb⟩
   | true =>
    have h := H1.out
    rw [if_pos rfl] at h
    have H2 := am h
    clear H1 h
    go_wp2_with (first | (go_at_call 66; (with_reducible refine (qXm.calls a0 0 a1 a2 true _ M.out).mono ?_); rintro e w' ⟨rfl, ⟨nd, rfl⟩⟩) | (go_at_call 67; (with_reducible refine (qZg.enough k a0 a1 a2 10000000000000 w.heap.size true _ A.out (qQj B0.out _) (qQj B1.out _) (qQj B2.out _)).mono ?_); rintro e w1 ⟨rfl, hb⟩))
    have C0 : Aside0 (w1.heap[w.heap.size]? = some (.cells #[.int .i64 a0] 2 (0, 0))) := ⟨qZg.kept hb (qQj B0.out _)⟩
    have C1 : Aside0 (w1.heap[w.heap.size + 1]? = some (.cells #[.int .i64 a1] 3 (0, 0))) := ⟨qZg.kept hb (qQj B1.out _)⟩
    have C2 : Aside0 (w1.heap[w.heap.size + 2]? = some (.cells #[.int .i64 a2] 3 (0, 0))) := ⟨qZg.kept hb (qQj B2.out _)⟩
    have HC : Aside0 (Below w.heap.size w w1) := ⟨qQb (qZo HB.out _) hb⟩
    clear hb f0 f1 f2 c0 c1 c2 B0 B1 B2 HB A M c'
    go_loopg [9, 10] k (fun kq v9 v10 wr => ∃ (x9 x10 : Int), v9 = .int .i64 x9 ∧ v10 = .int .i64 x10 ∧ Aside0 (qZg.l0 kq a0 a1 a2 x9 x10 = some (r1, r2)) ∧ Aside0 (kq ≤ k) ∧ Aside0 (wr.heap[w.heap.size]? = some (.cells #[.int .i64 a0] 2 (0, 0))) ∧ Aside0 (wr.heap[w.heap.size + 1]? = some (.cells #[.int .i64 a1] 3 (0, 0))) ∧ Aside0 (wr.heap[w.heap.size + 2]? = some (.cells #[.int .i64 a2] 3 (0, 0))) ∧ Aside0 (Below w.heap.size w wr))
    case atStart => exact ⟨0, 10000000000000, rfl, rfl, H2, ⟨Nat.le_refl _⟩, C0, C1, C2, HC⟩
    case round =>
     clear C0 C1 C2 HC H2
     obtain ⟨x9, x10, rfl, rfl, HA, HK, B0, B1, B2, HB⟩ := hrel
     rcases gk with _ | kq
     ·exact absurd HA.out (by simp [qZg.l0])
     have h := HA.out
     simp only [qZg.l0] at h
     clear HA
     by_cases cc : x9 < x10
     ·rw [if_pos cc] at h
      have cc' : decide (x9 < x10) = true := decide_eq_true cc
      obtain ⟨t, A0, h⟩ := Option.bind_eq_some_iff.mp h
      have A := am A0
      clear cc A0
      cases t with
      | true =>
       rw [if_pos rfl] at h
       have HN := am h
       clear h
       go_wp2_with (go_at_call 67; (with_reducible refine (qZg.enough kq a0 a1 a2 _ w.heap.size true _ A.out B0.out B1.out B2.out).mono ?_); rintro e w2 ⟨rfl, hb⟩)
       go_roundg kq
       case measure => have := HK.out; omega
       case rel => exact ⟨_, _, rfl, rfl, HN, ⟨by have := HK.out; omega⟩, ⟨qZg.kept hb B0.out⟩, ⟨qZg.kept hb B1.out⟩, ⟨qZg.kept hb B2.out⟩, ⟨qQb HB.out hb⟩⟩
      | false =>
       rw [if_neg (show ¬ (false = true) by decide)] at h
       have HN := am h
       clear h
       go_wp2_with (go_at_call 67; (with_reducible refine (qZg.enough kq a0 a1 a2 _ w.heap.size false _ A.out B0.out B1.out B2.out).mono ?_); rintro e w2 ⟨rfl, hb⟩)
       go_roundg kq
       case measure => have := HK.out; omega
       case rel => exact ⟨_, _, rfl, rfl, HN, ⟨by have := HK.out; omega⟩, ⟨qZg.kept hb B0.out⟩, ⟨qZg.kept hb B1.out⟩, ⟨qZg.kept hb B2.out⟩, ⟨qQb HB.out hb⟩⟩
     ·rw [if_neg cc] at h
      have cc' : decide (x9 < x10) = false := decide_eq_false cc
      simp only [Option.some.injEq, Prod.mk.injEq] at h
      obtain ⟨rfl, rfl⟩ := h
      clear cc
      go_wp2
      go_ret2
      exact ⟨rfl, HB.out⟩
def qWk.f (k : Nat) (a0_0 : Int) (a0_1 : Int) (a0_2 : Int) (a0_3 : Int) (a0_4 : Int) (a0_5 : Int) (a0_6 : Bool) (a0_7 : Int) (a0_8 : Int) (a0_9 : Int) (a0_10 : Int) (a0_11 : Int) (a0_12 : Int) : Option (Int × Int × Int × Int × Int × Int × Bool × Int × Int × Int × Int × Int × Int × Int) := (qQu.f k a0_0 a0_1 a0_2 a0_3 a0_4 a0_5 a0_6 a0_7 a0_8 a0_9 a0_10 a0_11 a0_12).bind fun t286 => (if t286 = true then (if a0_8 = 0 then ((qZg.f k a0_1 a0_5 120).bind fun bt287 => (if bt287.2 = 0 then ((qZg.f k a0_1 a0_5 300).bind fun bt289 => (if bt289.2 = 0 then (some (a0_0, a0_1, a0_2, a0_3, a0_4, a0_5, a0_6, a0_7, a0_8, a0_9, bt287.1, bt289.1, a0_12, 0)) else (some (0, 0, 0, 0, 0, 0, false, 0, 0, 0, 0, 0, 0, bt289.2)))) else (some (0, 0, 0, 0, 0, 0, false, 0, 0, 0, 0, 0, 0, bt287.2)))) else (some (0, 0, 0, 0, 0, 0, false, 0, 0, 0, 0, 0, 0, 61))) else (some (0, 0, 0, 0, 0, 0, false, 0, 0, 0, 0, 0, 0, 1)))
set_option maxHeartbeats 8000000 in
set_option maxRecDepth 100000 in
theorem qWk.calls (k : Nat) (a0_0 : Int) (a0_1 : Int) (a0_2 : Int) (a0_3 : Int) (a0_4 : Int) (a0_5 : Int) (a0_6 : Bool) (a0_7 : Int) (a0_8 : Int) (a0_9 : Int) (a0_10 : Int) (a0_11 : Int) (a0_12 : Int) (r1 : Int) (r2 : Int) (r3 : Int) (r4 : Int) (r5 : Int) (r6 : Int) (r7 : Bool) (r8 : Int) (r9 : Int) (r10 : Int) (r11 : Int) (r12 : Int) (r13 : Int) (r14 : Int) (w : World) (h : qWk.f k a0_0 a0_1 a0_2 a0_3 a0_4 a0_5 a0_6 a0_7 a0_8 a0_9 a0_10 a0_11 a0_12 = some (r1, r2, r3, r4, r5, r6, r7, r8, r9, r10, r11, r12, r13, r14)) :
  Calls Tryz.prog 17 #[.agg #[.int .i64 a0_0, .int .i64 a0_1, .int .i64 a0_2, .int .i64 a0_3, .int .i64 a0_4, .int .i64 a0_5, .bool a0_6, .int .i64 a0_7, .int .i64 a0_8, .int .i64 a0_9, .int .i64 a0_10, .int .i64 a0_11, .int .i64 a0_12]] w fun e w' => e = .returned (.tuple #[.agg #[.int .i64 r1, .int .i64 r2, .int .i64 r3, .int .i64 r4, .int .i64 r5, .int .i64 r6, .bool r7, .int .i64 r8, .int .i64 r9, .int .i64 r10, .int .i64 r11, .int .i64 r12, .int .i64 r13], .int .i64 r14]) ∧ Below w.heap.size w w' := by
 have hu48 := Tryz.underlying48
 have HB := am (Below.refl w.heap.size w)
 have H : ((qQu.f k a0_0 a0_1 a0_2 a0_3 a0_4 a0_5 a0_6 a0_7 a0_8 a0_9 a0_10 a0_11 a0_12).bind fun t286 => (if t286 = true then (if a0_8 = 0 then ((qZg.f k a0_1 a0_5 120).bind fun bt287 => (if bt287.2 = 0 then ((qZg.f k a0_1 a0_5 300).bind fun bt289 => (if bt289.2 = 0 then (some (a0_0, a0_1, a0_2, a0_3, a0_4, a0_5, a0_6, a0_7, a0_8, a0_9, bt287.1, bt289.1, a0_12, 0)) else (some (0, 0, 0, 0, 0, 0, false, 0, 0, 0, 0, 0, 0, bt289.2)))) else (some (0, 0, 0, 0, 0, 0, false, 0, 0, 0, 0, 0, 0, bt287.2)))) else (some (0, 0, 0, 0, 0, 0, false, 0, 0, 0, 0, 0, 0, 61))) else (some (0, 0, 0, 0, 0, 0, false, 0, 0, 0, 0, 0, 0, 1)))) = some (r1, r2, r3, r4, r5, r6, r7, r8, r9, r10, r11, r12, r13, r14) := h
 clear h
 replace H := Option.bind_eq_some_iff.mp H
 obtain ⟨t286, A20, H⟩ := H
 replace H : (if t286 = true then (if a0_8 = 0 then ((qZg.f k a0_1 a0_5 120).bind fun bt287 => (if bt287.2 = 0 then ((qZg.f k a0_1 a0_5 300).bind fun bt289 => (if bt289.2 = 0 then (some (a0_0, a0_1, a0_2, a0_3, a0_4, a0_5, a0_6, a0_7, a0_8, a0_9, bt287.1, bt289.1, a0_12, 0)) else (some (0, 0, 0, 0, 0, 0, false, 0, 0, 0, 0, 0, 0, bt289.2)))) else (some (0, 0, 0, 0, 0, 0, false, 0, 0, 0, 0, 0, 0, bt287.2)))) else (some (0, 0, 0, 0, 0, 0, false, 0, 0, 0, 0, 0, 0, 61))) else (some (0, 0, 0, 0, 0, 0, false, 0, 0, 0, 0, 0, 0, 1))) = some (r1, r2, r3, r4, r5, r6, r7, r8, r9, r10, r11, r12, r13, r14) := H
 have A2 := am A20
 clear A20
 by_cases c3 : t286 = true
 ·subst c3
  have H1 : (if a0_8 = 0 then ((qZg.f k a0_1 a0_5 120).bind fun bt287 => (if bt287.2 = 0 then ((qZg.f k a0_1 a0_5 300).bind fun bt289 => (if bt289.2 = 0 then (some (a0_0, a0_1, a0_2, a0_3, a0_4, a0_5, a0_6, a0_7, a0_8, a0_9, bt287.1, bt289.1, a0_12, 0)) else (some (0, 0, 0, 0, 0, 0, false, 0, 0, 0, 0, 0, 0, bt289.2)))) else (some (0, 0, 0, 0, 0, 0, false, 0, 0, 0, 0, 0, 0, bt287.2)))) else (some (0, 0, 0, 0, 0, 0, false, 0, 0, 0, 0, 0, 0, 61))) = some (r1, r2, r3, r4, r5, r6, r7, r8, r9, r10, r11, r12, r13, r14) := by rw [if_pos rfl] at H; exact H
  clear H
  have H := H1
  clear H1
  by_cases c4 : a0_8 = 0
  ·rw [if_pos c4] at H
   have c4b0 : (a0_8 == 0) = true := beq_iff_eq.mpr c4
   have c4b1 : (a0_8 != 0) = false := bne_eq_false_iff_eq.mpr c4
   clear c4
   replace H := Option.bind_eq_some_iff.mp H
   obtain ⟨⟨t287, t288⟩, A50, H⟩ := H
   replace H : (if t288 = 0 then ((qZg.f k a0_1 a0_5 300).bind fun bt289 => (if bt289.2 = 0 then (some (a0_0, a0_1, a0_2, a0_3, a0_4, a0_5, a0_6, a0_7, a0_8, a0_9, t287, bt289.1, a0_12, 0)) else (some (0, 0, 0, 0, 0, 0, false, 0, 0, 0, 0, 0, 0, bt289.2)))) else (some (0, 0, 0, 0, 0, 0, false, 0, 0, 0, 0, 0, 0, t288))) = some (r1, r2, r3, r4, r5, r6, r7, r8, r9, r10, r11, r12, r13, r14) := H
   have A5 := am A50
   clear A50
   by_cases c6 : t288 = 0
   ·rw [if_pos c6] at H
    have c6b0 : (t288 == 0) = true := beq_iff_eq.mpr c6
    have c6b1 : (t288 != 0) = false := bne_eq_false_iff_eq.mpr c6
    clear c6
    replace H := Option.bind_eq_some_iff.mp H
    obtain ⟨⟨t289, t290⟩, A70, H⟩ := H
    replace H : (if t290 = 0 then (some (a0_0, a0_1, a0_2, a0_3, a0_4, a0_5, a0_6, a0_7, a0_8, a0_9, t287, t289, a0_12, 0)) else (some (0, 0, 0, 0, 0, 0, false, 0, 0, 0, 0, 0, 0, t290))) = some (r1, r2, r3, r4, r5, r6, r7, r8, r9, r10, r11, r12, r13, r14) := H
    have A7 := am A70
    clear A70
    by_cases c8 : t290 = 0
    ·rw [if_pos c8] at H
     have c8b0 : (t290 == 0) = true := beq_iff_eq.mpr c8
     have c8b1 : (t290 != 0) = false := bne_eq_false_iff_eq.mpr c8
     clear c8
     simp only [Option.some.injEq, Prod.mk.injEq] at H
     obtain ⟨rfl, rfl, rfl, rfl, rfl, rfl, rfl, rfl, rfl, rfl, rfl, rfl, rfl, rfl⟩ := H
     go_enter Tryz.func17, Tryz.ntmps17
     go_wp2_with (first | ((with_reducible refine qQ0 (N := 1) rfl ?_); refine qQs ?hg (N := 1) ?hd (cs := #[.int .i64 a0_0, .int .i64 a0_1, .int .i64 a0_2, .int .i64 a0_3, .int .i64 a0_4, .int .i64 a0_5, .bool a0_6, .int .i64 a0_7, .int .i64 a0_8, .int .i64 a0_9, .int .i64 a0_10, .int .i64 a0_11, .int .i64 a0_12]) (t := 48) ?hr ?_; (case hd => rfl); (case hg => rfl); (case hr => first | (go_simp; done) | (go_simp; rfl)); intro gb284 hg w9 hbox hb; have n0_ := am (qQb (by exact h0q HB.out) hb); have n1_ := am (hbox); have n2_ := am ((by rw [hg]; exact (qQd (by exact h0q HB.out)) : w.heap.size ≤ gb284)); have n3_ := am ((by rw [hg]; exact (qQd (by exact h0q HB.out)) : w.heap.size ≤ gb284)); clear HB; have HB := n0_; have BK284 := n1_; have GW284 := n2_; have GE284 := n3_; clear n0_ n1_ n2_ n3_; clear hb hbox hg) | ((with_reducible refine qQ0 (N := 2) rfl ?_); refine qQs ?hg (N := 2) ?hd (cs := #[.int .i64 0, .int .i64 0, .int .i64 0, .int .i64 0, .int .i64 0, .int .i64 0, .bool false, .int .i64 0, .int .i64 0, .int .i64 0, .int .i64 0, .int .i64 0, .int .i64 0]) (t := 48) ?hr ?_; (case hd => rfl); (case hg => rfl); (case hr => first | (go_simp; done) | (go_simp; rfl)); intro gb285 hg w10 hbox hb; have n0_ := am (qQg (g := gb284) (Up.up BK284.out) hb); have n1_ := am (qQb (by exact h1q HB.out GE284.out) hb); have n2_ := am (hbox); have n3_ := am ((by rw [hg]; exact (qQd (by exact h1q HB.out GE284.out)) : w.heap.size ≤ gb285)); have n4_ := am ((by rw [hg]; exact (qQd (by exact h1q HB.out GE284.out)) : w.heap.size ≤ gb285)); have n5_ := am ((by rw [hg]; exact Nat.ne_of_lt (qZr (g := gb284) (Up.up BK284.out)) : gb284 ≠ gb285)); have n6_ := am ((by rw [hg]; exact Nat.ne_of_gt (qZr (g := gb284) (Up.up BK284.out)) : gb285 ≠ gb284)); clear BK284; clear HB; have BK284 := n0_; have HB := n1_; have BK285 := n2_; have GW285 := n3_; have GE285 := n4_; have NB284_285 := n5_; have NB285_284 := n6_; clear n0_ n1_ n2_ n3_ n4_ n5_ n6_; clear hb hbox hg; have hnb11 := NB284_285.out; have hnc11 := NB285_284.out; have hz12 := lc13 BK284.out) | ((with_reducible refine qQh (f := 26) rfl ?_); refine goesL_ (some 9) rfl rfl Tryz.func26 (by kernel_rfl) rfl #[.agg #[.int .i64 a0_0, .int .i64 a0_1, .int .i64 a0_2, .int .i64 a0_3, .int .i64 a0_4, .int .i64 a0_5, .bool a0_6, .int .i64 a0_7, .int .i64 a0_8, .int .i64 a0_9, .int .i64 a0_10, .int .i64 a0_11, .int .i64 a0_12]] rfl ml ?_; (with_reducible refine (qQu.calls k a0_0 a0_1 a0_2 a0_3 a0_4 a0_5 a0_6 a0_7 a0_8 a0_9 a0_10 a0_11 a0_12 true _ A2.out).mono ?_); rintro e w13 ⟨rfl, hb⟩; refine ⟨_, rfl, ?_⟩; have n0_ := am (qQg (g := gb284) (Up.up BK284.out) hb); have n1_ := am (qQg (g := gb285) (Up.up BK285.out) hb); have n2_ := am (qQb (by exact h2q HB.out GE284.out GE285.out) hb); clear BK284; clear BK285; clear HB; have BK284 := n0_; have BK285 := n1_; have HB := n2_; clear n0_ n1_ n2_; (try clear hb); (try clear hb2); (try clear hk); (try clear hi); have hz14 := lc13 BK284.out) | ((with_reducible refine qQh (f := 44) rfl ?_); refine goesL_ (some 22) rfl rfl Tryz.func44 (by kernel_rfl) rfl #[.int .i64 a0_1, .int .i64 a0_5, .int .i64 120] rfl ml ?_; (with_reducible refine (qZg.calls k a0_1 a0_5 120 t287 t288 _ A5.out).mono ?_); rintro e w15 ⟨rfl, hb⟩; refine ⟨_, rfl, ?_⟩; have n0_ := am (qQg (g := gb284) (Up.up BK284.out) hb); have n1_ := am (qQg (g := gb285) (Up.up BK285.out) hb); have n2_ := am (qQb (by exact h2q HB.out GE284.out GE285.out) hb); clear BK284; clear BK285; clear HB; have BK284 := n0_; have BK285 := n1_; have HB := n2_; clear n0_ n1_ n2_; (try clear hb); (try clear hb2); (try clear hk); (try clear hi); have hz16 := lc13 BK284.out) | ((with_reducible refine qQh (f := 44) rfl ?_); refine goesL_ (some 34) rfl rfl Tryz.func44 (by kernel_rfl) rfl #[.int .i64 a0_1, .int .i64 a0_5, .int .i64 300] rfl ml ?_; (with_reducible refine (qZg.calls k a0_1 a0_5 300 t289 t290 _ A7.out).mono ?_); rintro e w17 ⟨rfl, hb⟩; refine ⟨_, rfl, ?_⟩; have n0_ := am (qQg (g := gb284) (Up.up BK284.out) hb); have n1_ := am (qQg (g := gb285) (Up.up BK285.out) hb); have n2_ := am (qQb (by exact h2q HB.out GE284.out GE285.out) hb); clear BK284; clear BK285; clear HB; have BK284 := n0_; have BK285 := n1_; have HB := n2_; clear n0_ n1_ n2_; (try clear hb); (try clear hb2); (try clear hk); (try clear hi); have hz18 := lc13 BK284.out; have hz19 := lc13 BK285.out))
     refine bodyPost_ret (qXt rfl _ _ gb285 48 #[.int .i64 a0_0, .int .i64 a0_1, .int .i64 a0_2, .int .i64 a0_3, .int .i64 a0_4, .int .i64 a0_5, .bool a0_6, .int .i64 a0_7, .int .i64 a0_8, .int .i64 a0_9, .int .i64 t287, .int .i64 t289, .int .i64 a0_12] (0, 0) _ rfl (by (with_reducible repeat (first | refine qQj ?_ _ | refine qQv ?_ | refine qQm ?_ _)); apply blk_put13b; (iterate 2 ((with_reducible repeat (first | refine qQj ?_ _ | refine qQv ?_ | refine qQm ?_ _)); refine qYr ?_ NB285_284.out _)); (with_reducible repeat (first | refine qQj ?_ _ | refine qQv ?_ | refine qQm ?_ _)); exact BK285.out) Tryz.underlying48 rfl (by kernel_rfl)) rfl ?_
     exact ⟨er, by exact h2q HB.out GE284.out GE285.out⟩
    ·rw [if_neg c8] at H
     have c8b0 : (t290 == 0) = false := beq_eq_false_iff_ne.mpr c8
     have c8b1 : (t290 != 0) = true := bne_iff_ne.mpr c8
     simp only [Option.some.injEq, Prod.mk.injEq] at H
     obtain ⟨rfl, rfl, rfl, rfl, rfl, rfl, rfl, rfl, rfl, rfl, rfl, rfl, rfl, rfl⟩ := H
     go_enter Tryz.func17, Tryz.ntmps17
     go_wp2_with (first | ((with_reducible refine qQ0 (N := 1) rfl ?_); refine qQs ?hg (N := 1) ?hd (cs := #[.int .i64 a0_0, .int .i64 a0_1, .int .i64 a0_2, .int .i64 a0_3, .int .i64 a0_4, .int .i64 a0_5, .bool a0_6, .int .i64 a0_7, .int .i64 a0_8, .int .i64 a0_9, .int .i64 a0_10, .int .i64 a0_11, .int .i64 a0_12]) (t := 48) ?hr ?_; (case hd => rfl); (case hg => rfl); (case hr => first | (go_simp; done) | (go_simp; rfl)); intro gb284 hg w20 hbox hb; have n0_ := am (qQb (by exact h0q HB.out) hb); have n1_ := am (hbox); have n2_ := am ((by rw [hg]; exact (qQd (by exact h0q HB.out)) : w.heap.size ≤ gb284)); have n3_ := am ((by rw [hg]; exact (qQd (by exact h0q HB.out)) : w.heap.size ≤ gb284)); clear HB; have HB := n0_; have BK284 := n1_; have GW284 := n2_; have GE284 := n3_; clear n0_ n1_ n2_ n3_; clear hb hbox hg) | ((with_reducible refine qQ0 (N := 2) rfl ?_); refine qQs ?hg (N := 2) ?hd (cs := #[.int .i64 0, .int .i64 0, .int .i64 0, .int .i64 0, .int .i64 0, .int .i64 0, .bool false, .int .i64 0, .int .i64 0, .int .i64 0, .int .i64 0, .int .i64 0, .int .i64 0]) (t := 48) ?hr ?_; (case hd => rfl); (case hg => rfl); (case hr => first | (go_simp; done) | (go_simp; rfl)); intro gb285 hg w21 hbox hb; have n0_ := am (qQg (g := gb284) (Up.up BK284.out) hb); have n1_ := am (qQb (by exact h1q HB.out GE284.out) hb); have n2_ := am (hbox); have n3_ := am ((by rw [hg]; exact (qQd (by exact h1q HB.out GE284.out)) : w.heap.size ≤ gb285)); have n4_ := am ((by rw [hg]; exact (qQd (by exact h1q HB.out GE284.out)) : w.heap.size ≤ gb285)); have n5_ := am ((by rw [hg]; exact Nat.ne_of_lt (qZr (g := gb284) (Up.up BK284.out)) : gb284 ≠ gb285)); have n6_ := am ((by rw [hg]; exact Nat.ne_of_gt (qZr (g := gb284) (Up.up BK284.out)) : gb285 ≠ gb284)); clear BK284; clear HB; have BK284 := n0_; have HB := n1_; have BK285 := n2_; have GW285 := n3_; have GE285 := n4_; have NB284_285 := n5_; have NB285_284 := n6_; clear n0_ n1_ n2_ n3_ n4_ n5_ n6_; clear hb hbox hg; have hnb22 := NB284_285.out; have hnc22 := NB285_284.out; have hz23 := lc13 BK284.out) | ((with_reducible refine qQh (f := 26) rfl ?_); refine goesL_ (some 9) rfl rfl Tryz.func26 (by kernel_rfl) rfl #[.agg #[.int .i64 a0_0, .int .i64 a0_1, .int .i64 a0_2, .int .i64 a0_3, .int .i64 a0_4, .int .i64 a0_5, .bool a0_6, .int .i64 a0_7, .int .i64 a0_8, .int .i64 a0_9, .int .i64 a0_10, .int .i64 a0_11, .int .i64 a0_12]] rfl ml ?_; (with_reducible refine (qQu.calls k a0_0 a0_1 a0_2 a0_3 a0_4 a0_5 a0_6 a0_7 a0_8 a0_9 a0_10 a0_11 a0_12 true _ A2.out).mono ?_); rintro e w24 ⟨rfl, hb⟩; refine ⟨_, rfl, ?_⟩; have n0_ := am (qQg (g := gb284) (Up.up BK284.out) hb); have n1_ := am (qQg (g := gb285) (Up.up BK285.out) hb); have n2_ := am (qQb (by exact h2q HB.out GE284.out GE285.out) hb); clear BK284; clear BK285; clear HB; have BK284 := n0_; have BK285 := n1_; have HB := n2_; clear n0_ n1_ n2_; (try clear hb); (try clear hb2); (try clear hk); (try clear hi); have hz25 := lc13 BK284.out) | ((with_reducible refine qQh (f := 44) rfl ?_); refine goesL_ (some 22) rfl rfl Tryz.func44 (by kernel_rfl) rfl #[.int .i64 a0_1, .int .i64 a0_5, .int .i64 120] rfl ml ?_; (with_reducible refine (qZg.calls k a0_1 a0_5 120 t287 t288 _ A5.out).mono ?_); rintro e w26 ⟨rfl, hb⟩; refine ⟨_, rfl, ?_⟩; have n0_ := am (qQg (g := gb284) (Up.up BK284.out) hb); have n1_ := am (qQg (g := gb285) (Up.up BK285.out) hb); have n2_ := am (qQb (by exact h2q HB.out GE284.out GE285.out) hb); clear BK284; clear BK285; clear HB; have BK284 := n0_; have BK285 := n1_; have HB := n2_; clear n0_ n1_ n2_; (try clear hb); (try clear hb2); (try clear hk); (try clear hi); have hz27 := lc13 BK284.out) | ((with_reducible refine qQh (f := 44) rfl ?_); refine goesL_ (some 34) rfl rfl Tryz.func44 (by kernel_rfl) rfl #[.int .i64 a0_1, .int .i64 a0_5, .int .i64 300] rfl ml ?_; (with_reducible refine (qZg.calls k a0_1 a0_5 300 t289 t290 _ A7.out).mono ?_); rintro e w28 ⟨rfl, hb⟩; refine ⟨_, rfl, ?_⟩; have n0_ := am (qQg (g := gb284) (Up.up BK284.out) hb); have n1_ := am (qQg (g := gb285) (Up.up BK285.out) hb); have n2_ := am (qQb (by exact h2q HB.out GE284.out GE285.out) hb); clear BK284; clear BK285; clear HB; have BK284 := n0_; have BK285 := n1_; have HB := n2_; clear n0_ n1_ n2_; (try clear hb); (try clear hb2); (try clear hk); (try clear hi); have hz29 := lc13 BK285.out))
     refine bodyPost_ret (qXt rfl _ _ gb285 48 #[.int .i64 0, .int .i64 0, .int .i64 0, .int .i64 0, .int .i64 0, .int .i64 0, .bool false, .int .i64 0, .int .i64 0, .int .i64 0, .int .i64 0, .int .i64 0, .int .i64 0] (0, 0) _ rfl (by (with_reducible repeat (first | refine qQj ?_ _ | refine qQv ?_ | refine qQm ?_ _)); apply blk_put13b; (with_reducible repeat (first | refine qQj ?_ _ | refine qQv ?_ | refine qQm ?_ _)); exact BK285.out) Tryz.underlying48 rfl (by kernel_rfl)) rfl ?_
     exact ⟨er, by exact h2q HB.out GE284.out GE285.out⟩
   ·rw [if_neg c6] at H
    have c6b0 : (t288 == 0) = false := beq_eq_false_iff_ne.mpr c6
    have c6b1 : (t288 != 0) = true := bne_iff_ne.mpr c6
    simp only [Option.some.injEq, Prod.mk.injEq] at H
    obtain ⟨rfl, rfl, rfl, rfl, rfl, rfl, rfl, rfl, rfl, rfl, rfl, rfl, rfl, rfl⟩ := H
    go_enter Tryz.func17, Tryz.ntmps17
    go_wp2_with (first | ((with_reducible refine qQ0 (N := 1) rfl ?_); refine qQs ?hg (N := 1) ?hd (cs := #[.int .i64 a0_0, .int .i64 a0_1, .int .i64 a0_2, .int .i64 a0_3, .int .i64 a0_4, .int .i64 a0_5, .bool a0_6, .int .i64 a0_7, .int .i64 a0_8, .int .i64 a0_9, .int .i64 a0_10, .int .i64 a0_11, .int .i64 a0_12]) (t := 48) ?hr ?_; (case hd => rfl); (case hg => rfl); (case hr => first | (go_simp; done) | (go_simp; rfl)); intro gb284 hg w30 hbox hb; have n0_ := am (qQb (by exact h0q HB.out) hb); have n1_ := am (hbox); have n2_ := am ((by rw [hg]; exact (qQd (by exact h0q HB.out)) : w.heap.size ≤ gb284)); have n3_ := am ((by rw [hg]; exact (qQd (by exact h0q HB.out)) : w.heap.size ≤ gb284)); clear HB; have HB := n0_; have BK284 := n1_; have GW284 := n2_; have GE284 := n3_; clear n0_ n1_ n2_ n3_; clear hb hbox hg) | ((with_reducible refine qQ0 (N := 2) rfl ?_); refine qQs ?hg (N := 2) ?hd (cs := #[.int .i64 0, .int .i64 0, .int .i64 0, .int .i64 0, .int .i64 0, .int .i64 0, .bool false, .int .i64 0, .int .i64 0, .int .i64 0, .int .i64 0, .int .i64 0, .int .i64 0]) (t := 48) ?hr ?_; (case hd => rfl); (case hg => rfl); (case hr => first | (go_simp; done) | (go_simp; rfl)); intro gb285 hg w31 hbox hb; have n0_ := am (qQg (g := gb284) (Up.up BK284.out) hb); have n1_ := am (qQb (by exact h1q HB.out GE284.out) hb); have n2_ := am (hbox); have n3_ := am ((by rw [hg]; exact (qQd (by exact h1q HB.out GE284.out)) : w.heap.size ≤ gb285)); have n4_ := am ((by rw [hg]; exact (qQd (by exact h1q HB.out GE284.out)) : w.heap.size ≤ gb285)); have n5_ := am ((by rw [hg]; exact Nat.ne_of_lt (qZr (g := gb284) (Up.up BK284.out)) : gb284 ≠ gb285)); have n6_ := am ((by rw [hg]; exact Nat.ne_of_gt (qZr (g := gb284) (Up.up BK284.out)) : gb285 ≠ gb284)); clear BK284; clear HB; have BK284 := n0_; have HB := n1_; have BK285 := n2_; have GW285 := n3_; have GE285 := n4_; have NB284_285 := n5_; have NB285_284 := n6_; clear n0_ n1_ n2_ n3_ n4_ n5_ n6_; clear hb hbox hg; have hnb32 := NB284_285.out; have hnc32 := NB285_284.out; have hz33 := lc13 BK284.out) | ((with_reducible refine qQh (f := 26) rfl ?_); refine goesL_ (some 9) rfl rfl Tryz.func26 (by kernel_rfl) rfl #[.agg #[.int .i64 a0_0, .int .i64 a0_1, .int .i64 a0_2, .int .i64 a0_3, .int .i64 a0_4, .int .i64 a0_5, .bool a0_6, .int .i64 a0_7, .int .i64 a0_8, .int .i64 a0_9, .int .i64 a0_10, .int .i64 a0_11, .int .i64 a0_12]] rfl ml ?_; (with_reducible refine (qQu.calls k a0_0 a0_1 a0_2 a0_3 a0_4 a0_5 a0_6 a0_7 a0_8 a0_9 a0_10 a0_11 a0_12 true _ A2.out).mono ?_); rintro e w34 ⟨rfl, hb⟩; refine ⟨_, rfl, ?_⟩; have n0_ := am (qQg (g := gb284) (Up.up BK284.out) hb); have n1_ := am (qQg (g := gb285) (Up.up BK285.out) hb); have n2_ := am (qQb (by exact h2q HB.out GE284.out GE285.out) hb); clear BK284; clear BK285; clear HB; have BK284 := n0_; have BK285 := n1_; have HB := n2_; clear n0_ n1_ n2_; (try clear hb); (try clear hb2); (try clear hk); (try clear hi); have hz35 := lc13 BK284.out) | ((with_reducible refine qQh (f := 44) rfl ?_); refine goesL_ (some 22) rfl rfl Tryz.func44 (by kernel_rfl) rfl #[.int .i64 a0_1, .int .i64 a0_5, .int .i64 120] rfl ml ?_; (with_reducible refine (qZg.calls k a0_1 a0_5 120 t287 t288 _ A5.out).mono ?_); rintro e w36 ⟨rfl, hb⟩; refine ⟨_, rfl, ?_⟩; have n0_ := am (qQg (g := gb284) (Up.up BK284.out) hb); have n1_ := am (qQg (g := gb285) (Up.up BK285.out) hb); have n2_ := am (qQb (by exact h2q HB.out GE284.out GE285.out) hb); clear BK284; clear BK285; clear HB; have BK284 := n0_; have BK285 := n1_; have HB := n2_; clear n0_ n1_ n2_; (try clear hb); (try clear hb2); (try clear hk); (try clear hi); have hz37 := lc13 BK285.out))
    refine bodyPost_ret (qXt rfl _ _ gb285 48 #[.int .i64 0, .int .i64 0, .int .i64 0, .int .i64 0, .int .i64 0, .int .i64 0, .bool false, .int .i64 0, .int .i64 0, .int .i64 0, .int .i64 0, .int .i64 0, .int .i64 0] (0, 0) _ rfl (by (with_reducible repeat (first | refine qQj ?_ _ | refine qQv ?_ | refine qQm ?_ _)); apply blk_put13b; (with_reducible repeat (first | refine qQj ?_ _ | refine qQv ?_ | refine qQm ?_ _)); exact BK285.out) Tryz.underlying48 rfl (by kernel_rfl)) rfl ?_
    exact ⟨er, by exact h2q HB.out GE284.out GE285.out⟩
  ·rw [if_neg c4] at H
   have c4b0 : (a0_8 == 0) = false := beq_eq_false_iff_ne.mpr c4
   have c4b1 : (a0_8 != 0) = true := bne_iff_ne.mpr c4
   simp only [Option.some.injEq, Prod.mk.injEq] at H
   obtain ⟨rfl, rfl, rfl, rfl, rfl, rfl, rfl, rfl, rfl, rfl, rfl, rfl, rfl, rfl⟩ := H
   go_enter Tryz.func17, Tryz.ntmps17
   go_wp2_with (first | ((with_reducible refine qQ0 (N := 1) rfl ?_); refine qQs ?hg (N := 1) ?hd (cs := #[.int .i64 a0_0, .int .i64 a0_1, .int .i64 a0_2, .int .i64 a0_3, .int .i64 a0_4, .int .i64 a0_5, .bool a0_6, .int .i64 a0_7, .int .i64 a0_8, .int .i64 a0_9, .int .i64 a0_10, .int .i64 a0_11, .int .i64 a0_12]) (t := 48) ?hr ?_; (case hd => rfl); (case hg => rfl); (case hr => first | (go_simp; done) | (go_simp; rfl)); intro gb284 hg w38 hbox hb; have n0_ := am (qQb (by exact h0q HB.out) hb); have n1_ := am (hbox); have n2_ := am ((by rw [hg]; exact (qQd (by exact h0q HB.out)) : w.heap.size ≤ gb284)); have n3_ := am ((by rw [hg]; exact (qQd (by exact h0q HB.out)) : w.heap.size ≤ gb284)); clear HB; have HB := n0_; have BK284 := n1_; have GW284 := n2_; have GE284 := n3_; clear n0_ n1_ n2_ n3_; clear hb hbox hg) | ((with_reducible refine qQ0 (N := 2) rfl ?_); refine qQs ?hg (N := 2) ?hd (cs := #[.int .i64 0, .int .i64 0, .int .i64 0, .int .i64 0, .int .i64 0, .int .i64 0, .bool false, .int .i64 0, .int .i64 0, .int .i64 0, .int .i64 0, .int .i64 0, .int .i64 0]) (t := 48) ?hr ?_; (case hd => rfl); (case hg => rfl); (case hr => first | (go_simp; done) | (go_simp; rfl)); intro gb285 hg w39 hbox hb; have n0_ := am (qQg (g := gb284) (Up.up BK284.out) hb); have n1_ := am (qQb (by exact h1q HB.out GE284.out) hb); have n2_ := am (hbox); have n3_ := am ((by rw [hg]; exact (qQd (by exact h1q HB.out GE284.out)) : w.heap.size ≤ gb285)); have n4_ := am ((by rw [hg]; exact (qQd (by exact h1q HB.out GE284.out)) : w.heap.size ≤ gb285)); have n5_ := am ((by rw [hg]; exact Nat.ne_of_lt (qZr (g := gb284) (Up.up BK284.out)) : gb284 ≠ gb285)); have n6_ := am ((by rw [hg]; exact Nat.ne_of_gt (qZr (g := gb284) (Up.up BK284.out)) : gb285 ≠ gb284)); clear BK284; clear HB; have BK284 := n0_; have HB := n1_; have BK285 := n2_; have GW285 := n3_; have GE285 := n4_; have NB284_285 := n5_; have NB285_284 := n6_; clear n0_ n1_ n2_ n3_ n4_ n5_ n6_; clear hb hbox hg; have hnb40 := NB284_285.out; have hnc40 := NB285_284.out; have hz41 := lc13 BK284.out) | ((with_reducible refine qQh (f := 26) rfl ?_); refine goesL_ (some 9) rfl rfl Tryz.func26 (by kernel_rfl) rfl #[.agg #[.int .i64 a0_0, .int .i64 a0_1, .int .i64 a0_2, .int .i64 a0_3, .int .i64 a0_4, .int .i64 a0_5, .bool a0_6, .int .i64 a0_7, .int .i64 a0_8, .int .i64 a0_9, .int .i64 a0_10, .int .i64 a0_11, .int .i64 a0_12]] rfl ml ?_; (with_reducible refine (qQu.calls k a0_0 a0_1 a0_2 a0_3 a0_4 a0_5 a0_6 a0_7 a0_8 a0_9 a0_10 a0_11 a0_12 true _ A2.out).mono ?_); rintro e w42 ⟨rfl, hb⟩; refine ⟨_, rfl, ?_⟩; have n0_ := am (qQg (g := gb284) (Up.up BK284.out) hb); have n1_ := am (qQg (g := gb285) (Up.up BK285.out) hb); have n2_ := am (qQb (by exact h2q HB.out GE284.out GE285.out) hb); clear BK284; clear BK285; clear HB; have BK284 := n0_; have BK285 := n1_; have HB := n2_; clear n0_ n1_ n2_; (try clear hb); (try clear hb2); (try clear hk); (try clear hi); have hz43 := lc13 BK284.out; have hz44 := lc13 BK285.out))
   refine bodyPost_ret (qXt rfl _ _ gb285 48 #[.int .i64 0, .int .i64 0, .int .i64 0, .int .i64 0, .int .i64 0, .int .i64 0, .bool false, .int .i64 0, .int .i64 0, .int .i64 0, .int .i64 0, .int .i64 0, .int .i64 0] (0, 0) _ rfl (by (with_reducible repeat (first | refine qQj ?_ _ | refine qQv ?_ | refine qQm ?_ _)); apply blk_put13b; (with_reducible repeat (first | refine qQj ?_ _ | refine qQv ?_ | refine qQm ?_ _)); exact BK285.out) Tryz.underlying48 rfl (by kernel_rfl)) rfl ?_
   exact ⟨er, by exact h2q HB.out GE284.out GE285.out⟩
 ·replace c3 := Bool.eq_false_iff.mpr c3
  subst c3
  have H1 : (some (0, 0, 0, 0, 0, 0, false, 0, 0, 0, 0, 0, 0, 1)) = some (r1, r2, r3, r4, r5, r6, r7, r8, r9, r10, r11, r12, r13, r14) := by rw [if_neg (show ¬ (false = true) by decide)] at H; exact H
  clear H
  have H := H1
  clear H1
  simp only [Option.some.injEq, Prod.mk.injEq] at H
  obtain ⟨rfl, rfl, rfl, rfl, rfl, rfl, rfl, rfl, rfl, rfl, rfl, rfl, rfl, rfl⟩ := H
  go_enter Tryz.func17, Tryz.ntmps17
  go_wp2_with (first | ((with_reducible refine qQ0 (N := 1) rfl ?_); refine qQs ?hg (N := 1) ?hd (cs := #[.int .i64 a0_0, .int .i64 a0_1, .int .i64 a0_2, .int .i64 a0_3, .int .i64 a0_4, .int .i64 a0_5, .bool a0_6, .int .i64 a0_7, .int .i64 a0_8, .int .i64 a0_9, .int .i64 a0_10, .int .i64 a0_11, .int .i64 a0_12]) (t := 48) ?hr ?_; (case hd => rfl); (case hg => rfl); (case hr => first | (go_simp; done) | (go_simp; rfl)); intro gb284 hg w45 hbox hb; have n0_ := am (qQb (by exact h0q HB.out) hb); have n1_ := am (hbox); have n2_ := am ((by rw [hg]; exact (qQd (by exact h0q HB.out)) : w.heap.size ≤ gb284)); have n3_ := am ((by rw [hg]; exact (qQd (by exact h0q HB.out)) : w.heap.size ≤ gb284)); clear HB; have HB := n0_; have BK284 := n1_; have GW284 := n2_; have GE284 := n3_; clear n0_ n1_ n2_ n3_; clear hb hbox hg) | ((with_reducible refine qQ0 (N := 2) rfl ?_); refine qQs ?hg (N := 2) ?hd (cs := #[.int .i64 0, .int .i64 0, .int .i64 0, .int .i64 0, .int .i64 0, .int .i64 0, .bool false, .int .i64 0, .int .i64 0, .int .i64 0, .int .i64 0, .int .i64 0, .int .i64 0]) (t := 48) ?hr ?_; (case hd => rfl); (case hg => rfl); (case hr => first | (go_simp; done) | (go_simp; rfl)); intro gb285 hg w46 hbox hb; have n0_ := am (qQg (g := gb284) (Up.up BK284.out) hb); have n1_ := am (qQb (by exact h1q HB.out GE284.out) hb); have n2_ := am (hbox); have n3_ := am ((by rw [hg]; exact (qQd (by exact h1q HB.out GE284.out)) : w.heap.size ≤ gb285)); have n4_ := am ((by rw [hg]; exact (qQd (by exact h1q HB.out GE284.out)) : w.heap.size ≤ gb285)); have n5_ := am ((by rw [hg]; exact Nat.ne_of_lt (qZr (g := gb284) (Up.up BK284.out)) : gb284 ≠ gb285)); have n6_ := am ((by rw [hg]; exact Nat.ne_of_gt (qZr (g := gb284) (Up.up BK284.out)) : gb285 ≠ gb284)); clear BK284; clear HB; have BK284 := n0_; have HB := n1_; have BK285 := n2_; have GW285 := n3_; have GE285 := n4_; have NB284_285 := n5_; have NB285_284 := n6_; clear n0_ n1_ n2_ n3_ n4_ n5_ n6_; clear hb hbox hg; have hnb47 := NB284_285.out; have hnc47 := NB285_284.out; have hz48 := lc13 BK284.out) | ((with_reducible refine qQh (f := 26) rfl ?_); refine goesL_ (some 9) rfl rfl Tryz.func26 (by kernel_rfl) rfl #[.agg #[.int .i64 a0_0, .int .i64 a0_1, .int .i64 a0_2, .int .i64 a0_3, .int .i64 a0_4, .int .i64 a0_5, .bool a0_6, .int .i64 a0_7, .int .i64 a0_8, .int .i64 a0_9, .int .i64 a0_10, .int .i64 a0_11, .int .i64 a0_12]] rfl ml ?_; (with_reducible refine (qQu.calls k a0_0 a0_1 a0_2 a0_3 a0_4 a0_5 a0_6 a0_7 a0_8 a0_9 a0_10 a0_11 a0_12 false _ A2.out).mono ?_); rintro e w49 ⟨rfl, hb⟩; refine ⟨_, rfl, ?_⟩; have n0_ := am (qQg (g := gb284) (Up.up BK284.out) hb); have n1_ := am (qQg (g := gb285) (Up.up BK285.out) hb); have n2_ := am (qQb (by exact h2q HB.out GE284.out GE285.out) hb); clear BK284; clear BK285; clear HB; have BK284 := n0_; have BK285 := n1_; have HB := n2_; clear n0_ n1_ n2_; (try clear hb); (try clear hb2); (try clear hk); (try clear hi); have hz50 := lc13 BK285.out))
  refine bodyPost_ret (qXt rfl _ _ gb285 48 #[.int .i64 0, .int .i64 0, .int .i64 0, .int .i64 0, .int .i64 0, .int .i64 0, .bool false, .int .i64 0, .int .i64 0, .int .i64 0, .int .i64 0, .int .i64 0, .int .i64 0] (0, 0) _ rfl (by (with_reducible repeat (first | refine qQj ?_ _ | refine qQv ?_ | refine qQm ?_ _)); apply blk_put13b; (with_reducible repeat (first | refine qQj ?_ _ | refine qQv ?_ | refine qQm ?_ _)); exact BK285.out) Tryz.underlying48 rfl (by kernel_rfl)) rfl ?_
  exact ⟨er, by exact h2q HB.out GE284.out GE285.out⟩
def qZl.f (a0 : Int) : Option (Bool) := if a0 = 1 then (some true) else (some (a0 == 4))
set_option maxHeartbeats 8000000 in
set_option maxRecDepth 100000 in
theorem qZl.calls (a0 : Int) (r : Bool) (w : World) (h : qZl.f a0 = some r) :
  Calls Tryz.prog 19 #[.int .i64 a0] w fun e w' => e = .returned (.bool r) ∧ Drawn0 w w' := by
 have H : (if a0 = 1 then (some true) else (some (a0 == 4))) = some r := h
 clear h
 by_cases c2 : a0 = 1
 ·rw [if_pos c2] at H
  have c2b0 : (a0 == 1) = true := beq_iff_eq.mpr c2
  have c2b1 : (a0 != 1) = false := bne_eq_false_iff_eq.mpr c2
  clear c2
  obtain rfl := Option.some.inj H
  go_enter Tryz.func19, Tryz.ntmps19
  go_wp2
  go_ret
  exact ⟨by first | rfl | (simp; done) | (simp [*]; done), by repeat (first | exact Drawn0.refl _ | apply Drawn0.step)⟩
 ·rw [if_neg c2] at H
  have c2b0 : (a0 == 1) = false := beq_eq_false_iff_ne.mpr c2
  have c2b1 : (a0 != 1) = true := bne_iff_ne.mpr c2
  obtain rfl := Option.some.inj H
  go_enter Tryz.func19, Tryz.ntmps19
  go_wp2
  go_ret
  exact ⟨by first | rfl | (simp; done) | (simp [*]; done), by repeat (first | exact Drawn0.refl _ | apply Drawn0.step)⟩
-- NOT PRINTED: function 6 (qQp)
-- BREAK
def qQp.f (k : Nat)  : Option (Bool) := (qWk.f k 1 120000 0 0 0 0 false 5 0 0 0 0 0).bind fun bt291 => ((qZ8.f k bt291.1 bt291.2.1 bt291.2.2.1 bt291.2.2.2.1 bt291.2.2.2.2.1 bt291.2.2.2.2.2.1 bt291.2.2.2.2.2.2.1 bt291.2.2.2.2.2.2.2.1 bt291.2.2.2.2.2.2.2.2.1 bt291.2.2.2.2.2.2.2.2.2.1 bt291.2.2.2.2.2.2.2.2.2.2.1 bt291.2.2.2.2.2.2.2.2.2.2.2.1 bt291.2.2.2.2.2.2.2.2.2.2.2.2.1 1 40).bind fun bt306 => ((qQz.f k 0 (([0] : List Int)) 0 (([(⟨bt291.1, bt291.2.1, bt291.2.2.1, bt291.2.2.2.1, bt291.2.2.2.2.1, bt291.2.2.2.2.2.1, bt291.2.2.2.2.2.2.1, bt291.2.2.2.2.2.2.2.1, bt291.2.2.2.2.2.2.2.2.1, bt291.2.2.2.2.2.2.2.2.2.1, bt291.2.2.2.2.2.2.2.2.2.2.1, bt291.2.2.2.2.2.2.2.2.2.2.2.1, bt291.2.2.2.2.2.2.2.2.2.2.2.2.1⟩ : S48)] : List (S48))) 4 30 12000 1 ([] : List (S54)) 0 0 0 0 0 0 40).bind fun bt314 => (if bt291.2.2.2.2.2.2.2.2.2.2.2.2.2 = 0 then (if bt306.2 = 0 then (if bt314.2.2 = 0 then (if bt291.2.2.2.2.2.2.2.2.2.2.1 = 1000 then (if bt291.2.2.2.2.2.2.2.2.2.2.2.1 = 400 then (if bt306.1 = 1000 then ((qZc.f k bt314.1 (([1] : List Int))).bind fun t324 => (if t324 = true then ((qQ7.f k bt314.2.1 (([100] : List Int))).bind fun t328 => (if t328 = true then ((qZl.f 1).bind fun t329 => (if t329 = true then ((qZl.f 2).bind fun t330 => (some (!t330))) else (none))) else (none))) else (none))) else (none)) else (none)) else (none)) else (none)) else (none)) else (none))))
set_option maxHeartbeats 8000000 in
set_option maxRecDepth 100000 in
theorem qQp.calls (k : Nat)  (r : Bool) (w : World) (h : qQp.f k  = some r) :
  Calls Tryz.prog 6 #[] w fun e w' => e = .returned (.bool r) ∧ Below w.heap.size w w' := by
 have hu48 := Tryz.underlying48
 have hu37 := Tryz.underlying37
 have hu28 := Tryz.underlying28
 have HB := am (Below.refl w.heap.size w)
 have H : ((qWk.f k 1 120000 0 0 0 0 false 5 0 0 0 0 0).bind fun bt291 => ((qZ8.f k bt291.1 bt291.2.1 bt291.2.2.1 bt291.2.2.2.1 bt291.2.2.2.2.1 bt291.2.2.2.2.2.1 bt291.2.2.2.2.2.2.1 bt291.2.2.2.2.2.2.2.1 bt291.2.2.2.2.2.2.2.2.1 bt291.2.2.2.2.2.2.2.2.2.1 bt291.2.2.2.2.2.2.2.2.2.2.1 bt291.2.2.2.2.2.2.2.2.2.2.2.1 bt291.2.2.2.2.2.2.2.2.2.2.2.2.1 1 40).bind fun bt306 => ((qQz.f k 0 (([0] : List Int)) 0 (([(⟨bt291.1, bt291.2.1, bt291.2.2.1, bt291.2.2.2.1, bt291.2.2.2.2.1, bt291.2.2.2.2.2.1, bt291.2.2.2.2.2.2.1, bt291.2.2.2.2.2.2.2.1, bt291.2.2.2.2.2.2.2.2.1, bt291.2.2.2.2.2.2.2.2.2.1, bt291.2.2.2.2.2.2.2.2.2.2.1, bt291.2.2.2.2.2.2.2.2.2.2.2.1, bt291.2.2.2.2.2.2.2.2.2.2.2.2.1⟩ : S48)] : List (S48))) 4 30 12000 1 ([] : List (S54)) 0 0 0 0 0 0 40).bind fun bt314 => (if bt291.2.2.2.2.2.2.2.2.2.2.2.2.2 = 0 then (if bt306.2 = 0 then (if bt314.2.2 = 0 then (if bt291.2.2.2.2.2.2.2.2.2.2.1 = 1000 then (if bt291.2.2.2.2.2.2.2.2.2.2.2.1 = 400 then (if bt306.1 = 1000 then ((qZc.f k bt314.1 (([1] : List Int))).bind fun t324 => (if t324 = true then ((qQ7.f k bt314.2.1 (([100] : List Int))).bind fun t328 => (if t328 = true then ((qZl.f 1).bind fun t329 => (if t329 = true then ((qZl.f 2).bind fun t330 => (some (!t330))) else (none))) else (none))) else (none))) else (none)) else (none)) else (none)) else (none)) else (none)) else (none))))) = some r := h
 clear h
 replace H := Option.bind_eq_some_iff.mp H
 obtain ⟨⟨t291, t292, t293, t294, t295, t296, t297, t298, t299, t300, t301, t302, t303, t304⟩, A10, H⟩ := H
 replace H : ((qZ8.f k t291 t292 t293 t294 t295 t296 t297 t298 t299 t300 t301 t302 t303 1 40).bind fun bt306 => ((qQz.f k 0 (([0] : List Int)) 0 (([(⟨t291, t292, t293, t294, t295, t296, t297, t298, t299, t300, t301, t302, t303⟩ : S48)] : List (S48))) 4 30 12000 1 ([] : List (S54)) 0 0 0 0 0 0 40).bind fun bt314 => (if t304 = 0 then (if bt306.2 = 0 then (if bt314.2.2 = 0 then (if t301 = 1000 then (if t302 = 400 then (if bt306.1 = 1000 then ((qZc.f k bt314.1 (([1] : List Int))).bind fun t324 => (if t324 = true then ((qQ7.f k bt314.2.1 (([100] : List Int))).bind fun t328 => (if t328 = true then ((qZl.f 1).bind fun t329 => (if t329 = true then ((qZl.f 2).bind fun t330 => (some (!t330))) else (none))) else (none))) else (none))) else (none)) else (none)) else (none)) else (none)) else (none)) else (none)))) = some r := H
 have A1 := am A10
 clear A10
 replace H := Option.bind_eq_some_iff.mp H
 obtain ⟨⟨t306, t307⟩, A20, H⟩ := H
 replace H : ((qQz.f k 0 (([0] : List Int)) 0 (([(⟨t291, t292, t293, t294, t295, t296, t297, t298, t299, t300, t301, t302, t303⟩ : S48)] : List (S48))) 4 30 12000 1 ([] : List (S54)) 0 0 0 0 0 0 40).bind fun bt314 => (if t304 = 0 then (if t307 = 0 then (if bt314.2.2 = 0 then (if t301 = 1000 then (if t302 = 400 then (if t306 = 1000 then ((qZc.f k bt314.1 (([1] : List Int))).bind fun t324 => (if t324 = true then ((qQ7.f k bt314.2.1 (([100] : List Int))).bind fun t328 => (if t328 = true then ((qZl.f 1).bind fun t329 => (if t329 = true then ((qZl.f 2).bind fun t330 => (some (!t330))) else (none))) else (none))) else (none))) else (none)) else (none)) else (none)) else (none)) else (none)) else (none))) = some r := H
 have A2 := am A20
 clear A20
 obtain ⟨y308, hy308⟩ : ∃ y_ : List Int, y_ = (([0] : List Int)) := ⟨_, rfl⟩
 replace H : ((qQz.f k 0 y308 0 (([(⟨t291, t292, t293, t294, t295, t296, t297, t298, t299, t300, t301, t302, t303⟩ : S48)] : List (S48))) 4 30 12000 1 ([] : List (S54)) 0 0 0 0 0 0 40).bind fun bt314 => (if t304 = 0 then (if t307 = 0 then (if bt314.2.2 = 0 then (if t301 = 1000 then (if t302 = 400 then (if t306 = 1000 then ((qZc.f k bt314.1 (([1] : List Int))).bind fun t324 => (if t324 = true then ((qQ7.f k bt314.2.1 (([100] : List Int))).bind fun t328 => (if t328 = true then ((qZl.f 1).bind fun t329 => (if t329 = true then ((qZl.f 2).bind fun t330 => (some (!t330))) else (none))) else (none))) else (none))) else (none)) else (none)) else (none)) else (none)) else (none)) else (none))) = some r := by first | (rw [hy308]; with_reducible exact H) | (have H2_ := (Option.bind_some _ _).symm.trans H; rw [hy308]; with_reducible exact H2_) | (have H2_ := (Option.bind_some _ _).symm.trans H; with_reducible exact H2_) | with_reducible exact H | (rw [hy308]; exact H) | exact H
 have Ny308 := am hy308
 clear hy308
 obtain ⟨y311, hy311⟩ : ∃ y_ : List (S48), y_ = (([(⟨t291, t292, t293, t294, t295, t296, t297, t298, t299, t300, t301, t302, t303⟩ : S48)] : List (S48))) := ⟨_, rfl⟩
 replace H : ((qQz.f k 0 y308 0 y311 4 30 12000 1 ([] : List (S54)) 0 0 0 0 0 0 40).bind fun bt314 => (if t304 = 0 then (if t307 = 0 then (if bt314.2.2 = 0 then (if t301 = 1000 then (if t302 = 400 then (if t306 = 1000 then ((qZc.f k bt314.1 (([1] : List Int))).bind fun t324 => (if t324 = true then ((qQ7.f k bt314.2.1 (([100] : List Int))).bind fun t328 => (if t328 = true then ((qZl.f 1).bind fun t329 => (if t329 = true then ((qZl.f 2).bind fun t330 => (some (!t330))) else (none))) else (none))) else (none))) else (none)) else (none)) else (none)) else (none)) else (none)) else (none))) = some r := by first | (rw [hy311]; with_reducible exact H) | (have H2_ := (Option.bind_some _ _).symm.trans H; rw [hy311]; with_reducible exact H2_) | (have H2_ := (Option.bind_some _ _).symm.trans H; with_reducible exact H2_) | with_reducible exact H | (rw [hy311]; exact H) | exact H
 have Ny311 := am hy311
 clear hy311
 replace H := Option.bind_eq_some_iff.mp H
 obtain ⟨⟨t314, t317, t320⟩, A30, H⟩ := H
 replace H : (if t304 = 0 then (if t307 = 0 then (if t320 = 0 then (if t301 = 1000 then (if t302 = 400 then (if t306 = 1000 then ((qZc.f k t314 (([1] : List Int))).bind fun t324 => (if t324 = true then ((qQ7.f k t317 (([100] : List Int))).bind fun t328 => (if t328 = true then ((qZl.f 1).bind fun t329 => (if t329 = true then ((qZl.f 2).bind fun t330 => (some (!t330))) else (none))) else (none))) else (none))) else (none)) else (none)) else (none)) else (none)) else (none)) else (none)) = some r := H
 have A3 := am A30
 clear A30
 by_cases c4 : t304 = 0
 ·rw [if_pos c4] at H
  have c4b0 : (t304 == 0) = true := beq_iff_eq.mpr c4
  have c4b1 : (t304 != 0) = false := bne_eq_false_iff_eq.mpr c4
  clear c4
  by_cases c5 : t307 = 0
  ·rw [if_pos c5] at H
   have c5b0 : (t307 == 0) = true := beq_iff_eq.mpr c5
   have c5b1 : (t307 != 0) = false := bne_eq_false_iff_eq.mpr c5
   clear c5
   by_cases c6 : t320 = 0
   ·rw [if_pos c6] at H
    have c6b0 : (t320 == 0) = true := beq_iff_eq.mpr c6
    have c6b1 : (t320 != 0) = false := bne_eq_false_iff_eq.mpr c6
    clear c6
    by_cases c7 : t301 = 1000
    ·rw [if_pos c7] at H
     have c7b0 : (t301 == 1000) = true := beq_iff_eq.mpr c7
     have c7b1 : (t301 != 1000) = false := bne_eq_false_iff_eq.mpr c7
     clear c7
     by_cases c8 : t302 = 400
     ·rw [if_pos c8] at H
      have c8b0 : (t302 == 400) = true := beq_iff_eq.mpr c8
      have c8b1 : (t302 != 400) = false := bne_eq_false_iff_eq.mpr c8
      clear c8
      by_cases c9 : t306 = 1000
      ·rw [if_pos c9] at H
       have c9b0 : (t306 == 1000) = true := beq_iff_eq.mpr c9
       have c9b1 : (t306 != 1000) = false := bne_eq_false_iff_eq.mpr c9
       clear c9
       obtain ⟨y321, hy321⟩ : ∃ y_ : List Int, y_ = (([1] : List Int)) := ⟨_, rfl⟩
       replace H : ((qZc.f k t314 y321).bind fun t324 => (if t324 = true then ((qQ7.f k t317 (([100] : List Int))).bind fun t328 => (if t328 = true then ((qZl.f 1).bind fun t329 => (if t329 = true then ((qZl.f 2).bind fun t330 => (some (!t330))) else (none))) else (none))) else (none))) = some r := by first | (rw [hy321]; with_reducible exact H) | (have H2_ := (Option.bind_some _ _).symm.trans H; rw [hy321]; with_reducible exact H2_) | (have H2_ := (Option.bind_some _ _).symm.trans H; with_reducible exact H2_) | with_reducible exact H | (rw [hy321]; exact H) | exact H
       have Ny321 := am hy321
       clear hy321
       replace H := Option.bind_eq_some_iff.mp H
       obtain ⟨t324, A100, H⟩ := H
       replace H : (if t324 = true then ((qQ7.f k t317 (([100] : List Int))).bind fun t328 => (if t328 = true then ((qZl.f 1).bind fun t329 => (if t329 = true then ((qZl.f 2).bind fun t330 => (some (!t330))) else (none))) else (none))) else (none)) = some r := H
       have A10 := am A100
       clear A100
       by_cases c11 : t324 = true
       ·subst c11
        have H1 : ((qQ7.f k t317 (([100] : List Int))).bind fun t328 => (if t328 = true then ((qZl.f 1).bind fun t329 => (if t329 = true then ((qZl.f 2).bind fun t330 => (some (!t330))) else (none))) else (none))) = some r := by rw [if_pos rfl] at H; exact H
        clear H
        have H := H1
        clear H1
        obtain ⟨y325, hy325⟩ : ∃ y_ : List Int, y_ = (([100] : List Int)) := ⟨_, rfl⟩
        replace H : ((qQ7.f k t317 y325).bind fun t328 => (if t328 = true then ((qZl.f 1).bind fun t329 => (if t329 = true then ((qZl.f 2).bind fun t330 => (some (!t330))) else (none))) else (none))) = some r := by first | (rw [hy325]; with_reducible exact H) | (have H2_ := (Option.bind_some _ _).symm.trans H; rw [hy325]; with_reducible exact H2_) | (have H2_ := (Option.bind_some _ _).symm.trans H; with_reducible exact H2_) | with_reducible exact H | (rw [hy325]; exact H) | exact H
        have Ny325 := am hy325
        clear hy325
        replace H := Option.bind_eq_some_iff.mp H
        obtain ⟨t328, A120, H⟩ := H
        replace H : (if t328 = true then ((qZl.f 1).bind fun t329 => (if t329 = true then ((qZl.f 2).bind fun t330 => (some (!t330))) else (none))) else (none)) = some r := H
        have A12 := am A120
        clear A120
        by_cases c13 : t328 = true
        ·subst c13
         have H1 : ((qZl.f 1).bind fun t329 => (if t329 = true then ((qZl.f 2).bind fun t330 => (some (!t330))) else (none))) = some r := by rw [if_pos rfl] at H; exact H
         clear H
         have H := H1
         clear H1
         replace H := Option.bind_eq_some_iff.mp H
         obtain ⟨t329, A140, H⟩ := H
         replace H : (if t329 = true then ((qZl.f 2).bind fun t330 => (some (!t330))) else (none)) = some r := H
         have A14 := am A140
         clear A140
         by_cases c15 : t329 = true
         ·subst c15
          have H1 : ((qZl.f 2).bind fun t330 => (some (!t330))) = some r := by rw [if_pos rfl] at H; exact H
          clear H
          have H := H1
          clear H1
          replace H := Option.bind_eq_some_iff.mp H
          obtain ⟨t330, A160, H⟩ := H
          replace H : (some (!t330)) = some r := H
          have A16 := am A160
          clear A160
          obtain rfl := Option.some.inj H
          go_enter Tryz.func6, Tryz.ntmps6
          go_wp2_with (first | ((with_reducible refine qQh (f := 17) rfl ?_); refine goesL_ (some 10) rfl rfl Tryz.func17 (by kernel_rfl) rfl #[.agg #[.int .i64 1, .int .i64 120000, .int .i64 0, .int .i64 0, .int .i64 0, .int .i64 0, .bool false, .int .i64 5, .int .i64 0, .int .i64 0, .int .i64 0, .int .i64 0, .int .i64 0]] rfl ml ?_; (with_reducible refine (qWk.calls k 1 120000 0 0 0 0 false 5 0 0 0 0 0 t291 t292 t293 t294 t295 t296 t297 t298 t299 t300 t301 t302 t303 t304 _ A1.out).mono ?_); rintro e w17 ⟨rfl, hb⟩; refine ⟨_, rfl, ?_⟩; have n0_ := am (qQb (by exact h0q HB.out) hb); clear HB; have HB := n0_; clear n0_; (try clear hb); (try clear hb2); (try clear hk); (try clear hi)) | ((with_reducible refine qQ0 (N := 1) rfl ?_); (try (refine qYz (by rfl) ?_; dsimp only)); refine qQs ?hg (N := 1) ?hd (cs := #[.int .i64 0, .int .i64 0, .int .i64 0, .int .i64 0, .int .i64 0, .int .i64 0, .bool false, .int .i64 0, .int .i64 0, .int .i64 0, .int .i64 0, .int .i64 0, .int .i64 0]) (t := 48) ?hr ?_; (case hd => rfl); (case hg => rfl); (case hr => first | (go_simp; done) | (go_simp; rfl)); intro gb305 hg w18 hbox hb; have n0_ := am (qQb (by exact h0q HB.out) hb); have n1_ := am (hbox); have n2_ := am ((by rw [hg]; exact (qQd (by exact h0q HB.out)) : w.heap.size ≤ gb305)); have n3_ := am ((by rw [hg]; exact (qQd (by exact h0q HB.out)) : w.heap.size ≤ gb305)); clear HB; have HB := n0_; have BK305 := n1_; have GW305 := n2_; have GE305 := n3_; clear n0_ n1_ n2_ n3_; clear hb hbox hg; have hz19 := lc13 BK305.out) | ((with_reducible refine qQh (f := 18) rfl ?_); refine goesL_ (some 15) rfl rfl Tryz.func18 (by kernel_rfl) rfl #[.agg #[.int .i64 t291, .int .i64 t292, .int .i64 t293, .int .i64 t294, .int .i64 t295, .int .i64 t296, .bool t297, .int .i64 t298, .int .i64 t299, .int .i64 t300, .int .i64 t301, .int .i64 t302, .int .i64 t303], .int .i64 1, .int .i64 40] rfl ml ?_; (with_reducible refine (qZ8.calls k t291 t292 t293 t294 t295 t296 t297 t298 t299 t300 t301 t302 t303 1 40 t306 t307 _ A2.out).mono ?_); rintro e w20 ⟨rfl, hb⟩; refine ⟨_, rfl, ?_⟩; have n0_ := am (qQg (g := gb305) (o := .cells #[.int .i64 t291, .int .i64 t292, .int .i64 t293, .int .i64 t294, .int .i64 t295, .int .i64 t296, .bool t297, .int .i64 t298, .int .i64 t299, .int .i64 t300, .int .i64 t301, .int .i64 t302, .int .i64 t303] 48 (0, 0)) (by (with_reducible repeat (first | refine qQj ?_ _ | refine qQv ?_ | refine qQm ?_ _)); apply blk_put13b; (with_reducible repeat (first | refine qQj ?_ _ | refine qQv ?_ | refine qQm ?_ _)); exact BK305.out) hb); have n1_ := am (qQb (by exact h1q HB.out GE305.out) hb); clear BK305; clear HB; have BK305 := n0_; have HB := n1_; clear n0_ n1_; (try clear hb); (try clear hb2); (try clear hk); (try clear hi)) | ((with_reducible refine qQ0 (N := 19) rfl ?_); (try (refine qYz (by rfl) ?_; dsimp only)); refine Kd.R_lit (Kd.int .i64) _ 2 ?hg (N := 19) ?hd (xs := ([0] : List Int)) (inner := [.int .i64 0]) (ok := fun _ => True) (okp := fun _ => True) ?hr ?hp (fun _ hk => hk) trivial (Below.refl _ _) (Nat.le_refl _) (by simp) ?_; (case hd => rfl); (case hg => rfl); (case hr => first | (go_simp; done) | (go_simp; rfl)); (case hp => exact (Reps.one (show Kd.M (Kd.int .i64) _ _ _ 0 [.int .i64 0] from rfl) (Reps.none _ _))); intro v309 w21 ho22 hb hg_ hnew_; clear hg_ hnew_; (first | rw [← Ny308.out] at ho22 | (simp only [Int.reduceToNat] at ho22; rw [← Ny308.out] at ho22)); have n0_ := am (Kd.qYx ho22 (qQd (by exact h1q HB.out GE305.out))); have n1_ := am (qQg (g := gb305) (Up.up BK305.out) hb); have n2_ := am (qQb (by exact h1q HB.out GE305.out) hb); clear BK305; clear HB; have HO310 := n0_; have BK305 := n1_; have HB := n2_; clear n0_ n1_ n2_; clear hb ho22; obtain ⟨Ao23, co23, eo23⟩ := Kd.qYy HO310.out; subst eo23; have hz24 := lc13 BK305.out) | ((with_reducible refine qQ0 (N := 22) rfl ?_); (try (refine qYz (by rfl) ?_; dsimp only)); refine Kd.R_lit k48 _ 48 ?hg (N := 22) ?hd (xs := ([(⟨t291, t292, t293, t294, t295, t296, t297, t298, t299, t300, t301, t302, t303⟩ : S48)] : List (S48))) (inner := [.int .i64 t291, .int .i64 t292, .int .i64 t293, .int .i64 t294, .int .i64 t295, .int .i64 t296, .bool t297, .int .i64 t298, .int .i64 t299, .int .i64 t300, .int .i64 t301, .int .i64 t302, .int .i64 t303]) (ok := fun _ => True) (okp := fun _ => True) ?hr ?hp (fun _ hk => hk) trivial (Below.refl _ _) (Nat.le_refl _) (by simp) ?_; (case hd => rfl); (case hg => rfl); (case hr => first | (go_simp; done) | (go_simp; rfl)); (case hp => exact (Reps.front (show Kd.M k48 _ _ _ (⟨t291, t292, t293, t294, t295, t296, t297, t298, t299, t300, t301, t302, t303⟩ : S48) [.int .i64 t291, .int .i64 t292, .int .i64 t293, .int .i64 t294, .int .i64 t295, .int .i64 t296, .bool t297, .int .i64 t298, .int .i64 t299, .int .i64 t300, .int .i64 t301, .int .i64 t302, .int .i64 t303] from (zYj _ _ _ (⟨t291, t292, t293, t294, t295, t296, t297, t298, t299, t300, t301, t302, t303⟩ : S48) )) rfl (Reps.none _ _) rfl)); intro v312 w25 ho26 hb hg_ hnew_; clear hg_ hnew_; (first | rw [← Ny311.out] at ho26 | (simp only [Int.reduceToNat] at ho26; rw [← Ny311.out] at ho26)); have n0_ := am (Kd.qQt (by exact rq HO310.out) hb); have n1_ := am (Kd.qYx (Kd.R_newB ho26 (g := gb305) (Up.up BK305.out)) (qQd (by exact h1q HB.out GE305.out))); have n2_ := am (qQg (g := gb305) (Up.up BK305.out) hb); have n3_ := am (qQb (by exact h1q HB.out GE305.out) hb); clear HO310; clear BK305; clear HB; have HO310 := n0_; have HO313 := n1_; have BK305 := n2_; have HB := n3_; clear n0_ n1_ n2_ n3_; clear hb ho26; obtain ⟨Ao27, co27, eo27⟩ := Kd.qYy HO313.out; subst eo27) | ((with_reducible refine qQh (f := 8) rfl ?_); refine goesL_ (some 24) rfl rfl Tryz.func8 (by kernel_rfl) rfl #[.agg #[.int .i64 0, .slice Ao23 y308.length co23], .agg #[.int .i64 0, .slice Ao27 y311.length co27, .int .i64 4, .int .i64 30, .int .i64 12000, .int .i64 1, .slice none 0 0, .int .i64 0, .int .i64 0, .int .i64 0, .int .i64 0, .int .i64 0, .int .i64 0], .int .i64 40] rfl ml ?_; (refine (qQz.calls k 0 _ _ y308 0 _ _ y311 4 30 12000 1 _ _ ([] : List (S54)) 0 0 0 0 0 0 40 t314 t317 t320 _ ?side1 ?side2 ?side3 ?side4 ?side5 ?side6 A3.out).mono ?_); (case side1 => exact cq ((Kd.qZe HO310.out).2.2)); (case side2 => exact (Kd.qZe HO310.out).2.1); (case side3 => exact cq ((Kd.qZe HO313.out).2.2)); (case side4 => exact (Kd.qZe HO313.out).2.1); (case side5 => exact Kd.C_nil _ _); (case side6 => exact Nat.le_refl _); rintro e w28 ⟨v315, v318, rfl, ho0, ho1, hb⟩; refine ⟨_, rfl, ?_⟩; have n0_ := am (Kd.qXv (by exact rq HO310.out) (Kd.qWw ho1) hb); have n1_ := am (Kd.qQt (by exact rq HO313.out) hb); have n2_ := am (Kd.qYx ho0 (qQd (by exact h1q HB.out GE305.out))); have n3_ := am (Kd.qYx (Kd.qWu ho1 (Kd.R_lt (by exact rq HO310.out))) (qQd (by exact h1q HB.out GE305.out))); have n4_ := am (qQg (g := gb305) (Up.up BK305.out) hb); have n5_ := am (qQb (by exact h1q HB.out GE305.out) hb); clear HO310; clear HO313; clear BK305; clear HB; have HO310 := n0_; have HO313 := n1_; have HO316 := n2_; have HO319 := n3_; have BK305 := n4_; have HB := n5_; clear n0_ n1_ n2_ n3_ n4_ n5_; (try clear hb); (try clear hb2); (try clear hk); (try clear hi); (try clear ho0); (try clear ho1); have hz29 := lc13 BK305.out) | ((with_reducible refine qQ0 (N := 54) rfl ?_); (try (refine qYz (by rfl) ?_; dsimp only)); refine Kd.R_lit (Kd.int .i64) _ 3 ?hg (N := 54) ?hd (xs := ([1] : List Int)) (inner := [.int .i64 1]) (ok := fun _ => True) (okp := fun _ => True) ?hr ?hp (fun _ hk => hk) trivial (Below.refl _ _) (Nat.le_refl _) (by simp) ?_; (case hd => rfl); (case hg => rfl); (case hr => first | (go_simp; done) | (go_simp; rfl)); (case hp => exact (Reps.one (show Kd.M (Kd.int .i64) _ _ _ 1 [.int .i64 1] from rfl) (Reps.none _ _))); intro v322 w30 ho31 hb hg_ hnew_; clear hg_ hnew_; (first | rw [← Ny321.out] at ho31 | (simp only [Int.reduceToNat] at ho31; rw [← Ny321.out] at ho31)); have n0_ := am (Kd.qQt (by exact rq HO310.out) hb); have n1_ := am (Kd.qQt (by exact rq HO313.out) hb); have n2_ := am (Kd.qXv (by exact rq HO316.out) (Kd.qWw ho31) hb); have n3_ := am (Kd.qQt (by exact rq HO319.out) hb); have n4_ := am (Kd.qYx (Kd.qWu ho31 (Kd.R_lt (by exact rq HO316.out))) (qQd (by exact h1q HB.out GE305.out))); have n5_ := am (qQg (g := gb305) (Up.up BK305.out) hb); have n6_ := am (qQb (by exact h1q HB.out GE305.out) hb); clear HO310; clear HO313; clear HO316; clear HO319; clear BK305; clear HB; have HO310 := n0_; have HO313 := n1_; have HO316 := n2_; have HO319 := n3_; have HO323 := n4_; have BK305 := n5_; have HB := n6_; clear n0_ n1_ n2_ n3_ n4_ n5_ n6_; clear hb ho31; obtain ⟨Ao32, co32, eo32⟩ := Kd.qYy HO316.out; subst eo32; obtain ⟨Ao33, co33, eo33⟩ := Kd.qYy HO323.out; subst eo33) | (go_at_call 10; (with_reducible refine (qZc.calls k _ _ t314 _ _ y321 true _ ?side1 ?side2 ?side3 ?side4 A10.out).mono ?_); (case side1 => exact cq ((Kd.qZe HO316.out).2.2)); (case side2 => exact (Kd.qZe HO316.out).2.1); (case side3 => exact cq ((Kd.qZe HO323.out).2.2)); (case side4 => exact (Kd.qZe HO323.out).2.1); rintro e w' ⟨rfl, ⟨nd, rfl⟩⟩) | ((with_reducible refine qQ0 (N := 59) rfl ?_); (try (refine qYz (by rfl) ?_; dsimp only)); refine Kd.R_lit (Kd.int .i64) _ 2 ?hg (N := 59) ?hd (xs := ([100] : List Int)) (inner := [.int .i64 100]) (ok := fun _ => True) (okp := fun _ => True) ?hr ?hp (fun _ hk => hk) trivial (Below.refl _ _) (Nat.le_refl _) (by simp) ?_; (case hd => rfl); (case hg => rfl); (case hr => first | (go_simp; done) | (go_simp; rfl)); (case hp => exact (Reps.one (show Kd.M (Kd.int .i64) _ _ _ 100 [.int .i64 100] from rfl) (Reps.none _ _))); intro v326 w34 ho35 hb hg_ hnew_; clear hg_ hnew_; (first | rw [← Ny325.out] at ho35 | (simp only [Int.reduceToNat] at ho35; rw [← Ny325.out] at ho35)); have n0_ := am (Kd.qXv (by exact rq HO310.out) (Kd.qWw ho35) hb); have n1_ := am (Kd.qQt (by exact rq HO313.out) hb); have n2_ := am (Kd.qQt (by exact rq HO316.out) hb); have n3_ := am (Kd.qXv (by exact rq HO319.out) (Kd.qWw ho35) hb); have n4_ := am (Kd.qQt (by exact rq HO323.out) hb); have n5_ := am (Kd.qYx (Kd.qWu (Kd.qWu ho35 (Kd.R_lt (by exact rq HO310.out))) (Kd.R_lt (by exact rq HO319.out))) (qQd (by exact h1q HB.out GE305.out))); have n6_ := am (qQg (g := gb305) (Up.up BK305.out) hb); have n7_ := am (qQb (by exact h1q HB.out GE305.out) hb); clear HO310; clear HO313; clear HO316; clear HO319; clear HO323; clear BK305; clear HB; have HO310 := n0_; have HO313 := n1_; have HO316 := n2_; have HO319 := n3_; have HO323 := n4_; have HO327 := n5_; have BK305 := n6_; have HB := n7_; clear n0_ n1_ n2_ n3_ n4_ n5_ n6_ n7_; clear hb ho35; obtain ⟨Ao36, co36, eo36⟩ := Kd.qYy HO319.out; subst eo36; obtain ⟨Ao37, co37, eo37⟩ := Kd.qYy HO327.out; subst eo37) | (go_at_call 11; (with_reducible refine (qQ7.calls k _ _ t317 _ _ y325 true _ ?side1 ?side2 ?side3 ?side4 A12.out).mono ?_); (case side1 => exact cq ((Kd.qZe HO319.out).2.2)); (case side2 => exact (Kd.qZe HO319.out).2.1); (case side3 => exact cq ((Kd.qZe HO327.out).2.2)); (case side4 => exact (Kd.qZe HO327.out).2.1); rintro e w' ⟨rfl, ⟨nd, rfl⟩⟩) | (go_at_call 19; (with_reducible refine (qZl.calls 1 true _ A14.out).mono ?_); rintro e w' ⟨rfl, ⟨nd, rfl⟩⟩) | (go_at_call 19; (with_reducible refine (qZl.calls 2 t330 _ A16.out).mono ?_); rintro e w' ⟨rfl, ⟨nd, rfl⟩⟩))
          go_ret
          exact ⟨er, by exact h1q HB.out GE305.out⟩
         ·replace c15 := Bool.eq_false_iff.mpr c15
          subst c15
          have H1 : (none) = some r := by rw [if_neg (show ¬ (false = true) by decide)] at H; exact H
          clear H
          have H := H1
          clear H1
          exact absurd H (by simp)
        ·replace c13 := Bool.eq_false_iff.mpr c13
         subst c13
         have H1 : (none) = some r := by rw [if_neg (show ¬ (false = true) by decide)] at H; exact H
         clear H
         have H := H1
         clear H1
         exact absurd H (by simp)
       ·replace c11 := Bool.eq_false_iff.mpr c11
        subst c11
        have H1 : (none) = some r := by rw [if_neg (show ¬ (false = true) by decide)] at H; exact H
        clear H
        have H := H1
        clear H1
        exact absurd H (by simp)
      ·rw [if_neg c9] at H
       exact absurd H (by simp)
     ·rw [if_neg c8] at H
      exact absurd H (by simp)
    ·rw [if_neg c7] at H
     exact absurd H (by simp)
   ·rw [if_neg c6] at H
    exact absurd H (by simp)
  ·rw [if_neg c5] at H
   exact absurd H (by simp)
 ·rw [if_neg c4] at H
  exact absurd H (by simp)
def qQy.l0 : Nat → List Int → Int → List Int → List Int → Int → Int → Int → Int → List (S48) → Int → Int → Int → Int → List (S54) → Int → Int → Int → Int → Int → Int → Option (Bool)
 | 0, _, _, _, _, _, _, _, _, _, _, _, _, _, _, _, _, _, _, _, _ => none
 | k + 1, x0, x2, x7, x8, x10, x11, x12, x589000, x589001, x589002, x589003, x589004, x589005, x589006, x589007, x589008, x589009, x589010, x589011, x589012 => if x12 < (x589001.length : Int) then (if 0 ≤ x12 then ((qZf.f ((qQa x589001 x12).f0) ((qQa x589001 x12).f1) ((qQa x589001 x12).f2) ((qQa x589001 x12).f3) ((qQa x589001 x12).f4) ((qQa x589001 x12).f5) ((qQa x589001 x12).f6) ((qQa x589001 x12).f7) ((qQa x589001 x12).f8) ((qQa x589001 x12).f9) ((qQa x589001 x12).f10) ((qQa x589001 x12).f11) ((qQa x589001 x12).f12)).bind fun t601 => (if t601 = true then ((qZk.f ((qQa x589001 x12).f0) ((qQa x589001 x12).f1) ((qQa x589001 x12).f2) ((qQa x589001 x12).f3) ((qQa x589001 x12).f4) ((qQa x589001 x12).f5) ((qQa x589001 x12).f6) ((qQa x589001 x12).f7) ((qQa x589001 x12).f8) ((qQa x589001 x12).f9) ((qQa x589001 x12).f10) ((qQa x589001 x12).f11) ((qQa x589001 x12).f12)).bind fun bt603 => (if x10 ≥ (x7.length : Int) then (none) else (if 0 ≤ x10 then (if x10 < (x7.length : Int) then (if (rd x7 x10) = ((qQa x589001 x12).f0) then (if bt603.2 = 0 then (if x10 < (x8.length : Int) then (if (rd x8 x10) < 0 then (none) else (if (rd x8 x10) > bt603.1 then (none) else (qQy.l0 k x0 x2 x7 x8 (wrap64 (x10 + 1)) (wrap64 (x11 + (rd x8 x10))) (wrap64 (x12 + 1)) x589000 x589001 x589002 x589003 x589004 x589005 x589006 x589007 x589008 x589009 x589010 x589011 x589012))) else (none)) else (if x10 < (x8.length : Int) then (qQy.l0 k x0 x2 x7 x8 (wrap64 (x10 + 1)) (wrap64 (x11 + (rd x8 x10))) (wrap64 (x12 + 1)) x589000 x589001 x589002 x589003 x589004 x589005 x589006 x589007 x589008 x589009 x589010 x589011 x589012) else (none))) else (none)) else (none)) else (none)))) else (qQy.l0 k x0 x2 x7 x8 x10 x11 (wrap64 (x12 + 1)) x589000 x589001 x589002 x589003 x589004 x589005 x589006 x589007 x589008 x589009 x589010 x589011 x589012))) else (none)) else (if x10 = (x7.length : Int) then (if x10 = 0 then ((qQp.f k).bind fun t611 => (some t611)) else ((qZp.f k x589000 x589001 x589002 x589003 x589004 x589005 x589006 x589007 x589008 x589009 x589010 x589011 x589012 x2).bind fun t612 => (if t612 = 4 then ((qZ7.f k x0 x589005 x589004).bind fun bt614 => (if bt614.2 = 0 then (if x11 ≤ bt614.1 then ((qQp.f k).bind fun t616 => (some t616)) else (none)) else (none))) else ((qQp.f k).bind fun t613 => (some t613))))) else (none))
def qQy.f (k : Nat) (l0 : List Int) (a1_0 : Int) (l1_1 : List (S48)) (a1_2 : Int) (a1_3 : Int) (a1_4 : Int) (a1_5 : Int) (l1_6 : List (S54)) (a1_7 : Int) (a1_8 : Int) (a1_9 : Int) (a1_10 : Int) (a1_11 : Int) (a1_12 : Int) (a2 : Int) : Option (Bool) := (qQ5.f k a1_0 l1_1 a1_2 a1_3 a1_4 a1_5 l1_6 a1_7 a1_8 a1_9 a1_10 a1_11 a1_12).bind fun t589 => (if t589 = true then ((qQp.f k).bind fun t590 => (some t590)) else (if (l0.length : Int) > 100 then ((qQp.f k).bind fun t591 => (some t591)) else ((qQz.f k 0 l0 a1_0 l1_1 a1_2 a1_3 a1_4 a1_5 l1_6 a1_7 a1_8 a1_9 a1_10 a1_11 a1_12 a2).bind fun bt592 => (if bt592.2.2 = 0 then (if (bt592.1.length : Int) = (bt592.2.1.length : Int) then (qQy.l0 k l0 a2 bt592.1 bt592.2.1 0 0 0 a1_0 l1_1 a1_2 a1_3 a1_4 a1_5 l1_6 a1_7 a1_8 a1_9 a1_10 a1_11 a1_12) else (none)) else (if (bt592.1.length : Int) = 0 then (if (bt592.2.1.length : Int) = 0 then ((qQp.f k).bind fun t599 => (some t599)) else (none)) else (none))))))
set_option maxHeartbeats 8000000 in
set_option maxRecDepth 100000 in
theorem qQy.calls (k : Nat) (A0 : Option Addr) (c0 : Nat) (l0 : List Int) (a1_0 : Int) (A1_1 : Option Addr) (c1_1 : Nat) (l1_1 : List (S48)) (a1_2 : Int) (a1_3 : Int) (a1_4 : Int) (a1_5 : Int) (A1_6 : Option Addr) (c1_6 : Nat) (l1_6 : List (S54)) (a1_7 : Int) (a1_8 : Int) (a1_9 : Int) (a1_10 : Int) (a1_11 : Int) (a1_12 : Int) (a2 : Int) (r : Bool) (w : World) (hr0 : Kd.C (Kd.int .i64) w A0 l0.length l0) (hc0 : l0.length ≤ c0) (hr1_1 : Kd.C k48 w A1_1 l1_1.length l1_1) (hc1_1 : l1_1.length ≤ c1_1) (hr1_6 : Kd.C k54 w A1_6 l1_6.length l1_6) (hc1_6 : l1_6.length ≤ c1_6) (h : qQy.f k l0 a1_0 l1_1 a1_2 a1_3 a1_4 a1_5 l1_6 a1_7 a1_8 a1_9 a1_10 a1_11 a1_12 a2 = some r) :
  Calls Tryz.prog 4 #[.slice A0 l0.length c0, .agg #[.int .i64 a1_0, .slice A1_1 l1_1.length c1_1, .int .i64 a1_2, .int .i64 a1_3, .int .i64 a1_4, .int .i64 a1_5, .slice A1_6 l1_6.length c1_6, .int .i64 a1_7, .int .i64 a1_8, .int .i64 a1_9, .int .i64 a1_10, .int .i64 a1_11, .int .i64 a1_12], .int .i64 a2] w fun e w' => e = .returned (.bool r) ∧ Below w.heap.size w w' := by
 have hu28 := Tryz.underlying28
 have hu37 := Tryz.underlying37
 have hu48 := Tryz.underlying48
 have HR0 := am hr0
 have HC0 := am hc0
 clear hr0 hc0
 have HR1_1 := am hr1_1
 have HC1_1 := am hc1_1
 clear hr1_1 hc1_1
 have HR1_6 := am hr1_6
 have HC1_6 := am hc1_6
 clear hr1_6 hc1_6
 have HB := am (Below.refl w.heap.size w)
 have H : ((qQ5.f k a1_0 l1_1 a1_2 a1_3 a1_4 a1_5 l1_6 a1_7 a1_8 a1_9 a1_10 a1_11 a1_12).bind fun t589 => (if t589 = true then ((qQp.f k).bind fun t590 => (some t590)) else (if (l0.length : Int) > 100 then ((qQp.f k).bind fun t591 => (some t591)) else ((qQz.f k 0 l0 a1_0 l1_1 a1_2 a1_3 a1_4 a1_5 l1_6 a1_7 a1_8 a1_9 a1_10 a1_11 a1_12 a2).bind fun bt592 => (if bt592.2.2 = 0 then (if (bt592.1.length : Int) = (bt592.2.1.length : Int) then (qQy.l0 k l0 a2 bt592.1 bt592.2.1 0 0 0 a1_0 l1_1 a1_2 a1_3 a1_4 a1_5 l1_6 a1_7 a1_8 a1_9 a1_10 a1_11 a1_12) else (none)) else (if (bt592.1.length : Int) = 0 then (if (bt592.2.1.length : Int) = 0 then ((qQp.f k).bind fun t599 => (some t599)) else (none)) else (none))))))) = some r := h
 clear h
 replace H := Option.bind_eq_some_iff.mp H
 obtain ⟨t589, A40, H⟩ := H
 replace H : (if t589 = true then ((qQp.f k).bind fun t590 => (some t590)) else (if (l0.length : Int) > 100 then ((qQp.f k).bind fun t591 => (some t591)) else ((qQz.f k 0 l0 a1_0 l1_1 a1_2 a1_3 a1_4 a1_5 l1_6 a1_7 a1_8 a1_9 a1_10 a1_11 a1_12 a2).bind fun bt592 => (if bt592.2.2 = 0 then (if (bt592.1.length : Int) = (bt592.2.1.length : Int) then (qQy.l0 k l0 a2 bt592.1 bt592.2.1 0 0 0 a1_0 l1_1 a1_2 a1_3 a1_4 a1_5 l1_6 a1_7 a1_8 a1_9 a1_10 a1_11 a1_12) else (none)) else (if (bt592.1.length : Int) = 0 then (if (bt592.2.1.length : Int) = 0 then ((qQp.f k).bind fun t599 => (some t599)) else (none)) else (none)))))) = some r := H
 have A4 := am A40
 clear A40
 by_cases c5 : t589 = true
 ·subst c5
  have H1 : ((qQp.f k).bind fun t590 => (some t590)) = some r := by rw [if_pos rfl] at H; exact H
  clear H
  have H := H1
  clear H1
  replace H := Option.bind_eq_some_iff.mp H
  obtain ⟨t590, A60, H⟩ := H
  replace H : (some t590) = some r := H
  have A6 := am A60
  clear A60
  obtain rfl := Option.some.inj H
  go_enter Tryz.func4, Tryz.ntmps4
  go_wp2_with (first | ((with_reducible refine qQ0 (N := 4) rfl ?_); (try (refine qYz (by rfl) ?_; dsimp only)); refine qQs ?hg (N := 4) ?hd (cs := #[.int .i64 a1_0, .slice A1_1 l1_1.length c1_1, .int .i64 a1_2, .int .i64 a1_3, .int .i64 a1_4, .int .i64 a1_5, .slice A1_6 l1_6.length c1_6, .int .i64 a1_7, .int .i64 a1_8, .int .i64 a1_9, .int .i64 a1_10, .int .i64 a1_11, .int .i64 a1_12]) (t := 28) ?hr ?_; (case hd => rfl); (case hg => rfl); (case hr => first | (go_simp; done) | (go_simp; rfl)); intro gb588 hg w7 hbox hb; have n0_ := am (qQb (by exact h0q HB.out) hb); have n1_ := am (hbox); have n2_ := am ((by rw [hg]; exact (qQd (by exact h0q HB.out)) : w.heap.size ≤ gb588)); have n3_ := am ((by rw [hg]; exact (qQd (by exact h0q HB.out)) : w.heap.size ≤ gb588)); clear HB; have HB := n0_; have BK588 := n1_; have GW588 := n2_; have GE588 := n3_; clear n0_ n1_ n2_ n3_; clear hb hbox hg; have hz8 := lc13 BK588.out) | (go_at_call 5; (with_reducible refine (qQ5.calls k a1_0 _ _ l1_1 a1_2 a1_3 a1_4 a1_5 _ _ l1_6 a1_7 a1_8 a1_9 a1_10 a1_11 a1_12 true _ ?side1 ?side2 ?side3 ?side4 A4.out).mono ?_); (case side1 => exact cq ((Kd.qZq HR1_1.out HB.out))); (case side2 => exact HC1_1.out); (case side3 => exact cq ((Kd.qZq HR1_6.out HB.out))); (case side4 => exact HC1_6.out); rintro e w9 ⟨rfl, hb⟩; have n0_ := am (qQg (g := gb588) (Up.up BK588.out) hb); have n1_ := am (qQb (by exact h1q HB.out GE588.out) hb); clear BK588; clear HB; have BK588 := n0_; have HB := n1_; clear n0_ n1_; (try clear hb); (try clear hb2); (try clear hk); (try clear hi)) | (go_at_call 6; (with_reducible refine (qQp.calls k  t590 _ A6.out).mono ?_); rintro e w10 ⟨rfl, hb⟩; have n0_ := am (qQg (g := gb588) (Up.up BK588.out) hb); have n1_ := am (qQb (by exact h1q HB.out GE588.out) hb); clear BK588; clear HB; have BK588 := n0_; have HB := n1_; clear n0_ n1_; (try clear hb); (try clear hb2); (try clear hk); (try clear hi)))
  try (go_quiet (fail); try go_wp2)
  go_ret
  exact ⟨by first | rfl | (simp [i64_w, i32_w, qQq, qQr]; done) | (simp [qQq, qQr] <;> rfl) | (simp [*, qQq, qQr] <;> rfl), by exact h1q HB.out GE588.out⟩
 ·replace c5 := Bool.eq_false_iff.mpr c5
  subst c5
  have H1 : (if (l0.length : Int) > 100 then ((qQp.f k).bind fun t591 => (some t591)) else ((qQz.f k 0 l0 a1_0 l1_1 a1_2 a1_3 a1_4 a1_5 l1_6 a1_7 a1_8 a1_9 a1_10 a1_11 a1_12 a2).bind fun bt592 => (if bt592.2.2 = 0 then (if (bt592.1.length : Int) = (bt592.2.1.length : Int) then (qQy.l0 k l0 a2 bt592.1 bt592.2.1 0 0 0 a1_0 l1_1 a1_2 a1_3 a1_4 a1_5 l1_6 a1_7 a1_8 a1_9 a1_10 a1_11 a1_12) else (none)) else (if (bt592.1.length : Int) = 0 then (if (bt592.2.1.length : Int) = 0 then ((qQp.f k).bind fun t599 => (some t599)) else (none)) else (none))))) = some r := by rw [if_neg (show ¬ (false = true) by decide)] at H; exact H
  clear H
  have H := H1
  clear H1
  by_cases c11 : (l0.length : Int) > 100
  ·rw [if_pos c11] at H
   have c11b0 : decide (100 < (l0.length : Int)) = true := decide_eq_true c11
   have c11b1 : decide (100 < l0.length) = true := decide_eq_true (by omega)
   clear c11
   replace H := Option.bind_eq_some_iff.mp H
   obtain ⟨t591, A120, H⟩ := H
   replace H : (some t591) = some r := H
   have A12 := am A120
   clear A120
   obtain rfl := Option.some.inj H
   go_enter Tryz.func4, Tryz.ntmps4
   go_wp2_with (first | ((with_reducible refine qQ0 (N := 4) rfl ?_); (try (refine qYz (by rfl) ?_; dsimp only)); refine qQs ?hg (N := 4) ?hd (cs := #[.int .i64 a1_0, .slice A1_1 l1_1.length c1_1, .int .i64 a1_2, .int .i64 a1_3, .int .i64 a1_4, .int .i64 a1_5, .slice A1_6 l1_6.length c1_6, .int .i64 a1_7, .int .i64 a1_8, .int .i64 a1_9, .int .i64 a1_10, .int .i64 a1_11, .int .i64 a1_12]) (t := 28) ?hr ?_; (case hd => rfl); (case hg => rfl); (case hr => first | (go_simp; done) | (go_simp; rfl)); intro gb588 hg w13 hbox hb; have n0_ := am (qQb (by exact h0q HB.out) hb); have n1_ := am (hbox); have n2_ := am ((by rw [hg]; exact (qQd (by exact h0q HB.out)) : w.heap.size ≤ gb588)); have n3_ := am ((by rw [hg]; exact (qQd (by exact h0q HB.out)) : w.heap.size ≤ gb588)); clear HB; have HB := n0_; have BK588 := n1_; have GW588 := n2_; have GE588 := n3_; clear n0_ n1_ n2_ n3_; clear hb hbox hg; have hz14 := lc13 BK588.out) | (go_at_call 5; (with_reducible refine (qQ5.calls k a1_0 _ _ l1_1 a1_2 a1_3 a1_4 a1_5 _ _ l1_6 a1_7 a1_8 a1_9 a1_10 a1_11 a1_12 false _ ?side1 ?side2 ?side3 ?side4 A4.out).mono ?_); (case side1 => exact cq ((Kd.qZq HR1_1.out HB.out))); (case side2 => exact HC1_1.out); (case side3 => exact cq ((Kd.qZq HR1_6.out HB.out))); (case side4 => exact HC1_6.out); rintro e w15 ⟨rfl, hb⟩; have n0_ := am (qQg (g := gb588) (Up.up BK588.out) hb); have n1_ := am (qQb (by exact h1q HB.out GE588.out) hb); clear BK588; clear HB; have BK588 := n0_; have HB := n1_; clear n0_ n1_; (try clear hb); (try clear hb2); (try clear hk); (try clear hi)) | (go_at_call 6; (with_reducible refine (qQp.calls k  t591 _ A12.out).mono ?_); rintro e w16 ⟨rfl, hb⟩; have n0_ := am (qQg (g := gb588) (Up.up BK588.out) hb); have n1_ := am (qQb (by exact h1q HB.out GE588.out) hb); clear BK588; clear HB; have BK588 := n0_; have HB := n1_; clear n0_ n1_; (try clear hb); (try clear hb2); (try clear hk); (try clear hi)))
   try (go_quiet (fail); try go_wp2)
   go_ret
   exact ⟨by first | rfl | (simp [i64_w, i32_w, qQq, qQr]; done) | (simp [qQq, qQr] <;> rfl) | (simp [*, qQq, qQr] <;> rfl), by exact h1q HB.out GE588.out⟩
  ·rw [if_neg c11] at H
   have c11b0 : decide (100 < (l0.length : Int)) = false := decide_eq_false c11
   have c11b1 : decide (100 < l0.length) = false := decide_eq_false (by omega)
   clear c11
   replace H := Option.bind_eq_some_iff.mp H
   obtain ⟨⟨t592, t595, t598⟩, A170, H⟩ := H
   replace H : (if t598 = 0 then (if (t592.length : Int) = (t595.length : Int) then (qQy.l0 k l0 a2 t592 t595 0 0 0 a1_0 l1_1 a1_2 a1_3 a1_4 a1_5 l1_6 a1_7 a1_8 a1_9 a1_10 a1_11 a1_12) else (none)) else (if (t592.length : Int) = 0 then (if (t595.length : Int) = 0 then ((qQp.f k).bind fun t599 => (some t599)) else (none)) else (none))) = some r := H
   have A17 := am A170
   clear A170
   by_cases c18 : t598 = 0
   ·rw [if_pos c18] at H
    have c18b0 : (t598 == 0) = true := beq_iff_eq.mpr c18
    have c18b1 : (t598 != 0) = false := bne_eq_false_iff_eq.mpr c18
    clear c18
    by_cases c19 : (t592.length : Int) = (t595.length : Int)
    ·rw [if_pos c19] at H
     have c19b0 : ((t592.length : Int) == (t595.length : Int)) = true := beq_iff_eq.mpr c19
     have c19b1 : ((t592.length : Int) != (t595.length : Int)) = false := bne_eq_false_iff_eq.mpr c19
     have c19b2 : (t592.length == t595.length) = true := by first | simpa using c19 | (simp at c19 ⊢; omega)
     clear c19
     have H' := am H
     clear H
     go_enter Tryz.func4, Tryz.ntmps4
     go_wp2_with (first | ((with_reducible refine qQ0 (N := 4) rfl ?_); (try (refine qYz (by rfl) ?_; dsimp only)); refine qQs ?hg (N := 4) ?hd (cs := #[.int .i64 a1_0, .slice A1_1 l1_1.length c1_1, .int .i64 a1_2, .int .i64 a1_3, .int .i64 a1_4, .int .i64 a1_5, .slice A1_6 l1_6.length c1_6, .int .i64 a1_7, .int .i64 a1_8, .int .i64 a1_9, .int .i64 a1_10, .int .i64 a1_11, .int .i64 a1_12]) (t := 28) ?hr ?_; (case hd => rfl); (case hg => rfl); (case hr => first | (go_simp; done) | (go_simp; rfl)); intro gb588 hg w20 hbox hb; have n0_ := am (qQb (by exact h0q HB.out) hb); have n1_ := am (hbox); have n2_ := am ((by rw [hg]; exact (qQd (by exact h0q HB.out)) : w.heap.size ≤ gb588)); have n3_ := am ((by rw [hg]; exact (qQd (by exact h0q HB.out)) : w.heap.size ≤ gb588)); clear HB; have HB := n0_; have BK588 := n1_; have GW588 := n2_; have GE588 := n3_; clear n0_ n1_ n2_ n3_; clear hb hbox hg; have hz21 := lc13 BK588.out) | (go_at_call 5; (with_reducible refine (qQ5.calls k a1_0 _ _ l1_1 a1_2 a1_3 a1_4 a1_5 _ _ l1_6 a1_7 a1_8 a1_9 a1_10 a1_11 a1_12 false _ ?side1 ?side2 ?side3 ?side4 A4.out).mono ?_); (case side1 => exact cq ((Kd.qZq HR1_1.out HB.out))); (case side2 => exact HC1_1.out); (case side3 => exact cq ((Kd.qZq HR1_6.out HB.out))); (case side4 => exact HC1_6.out); rintro e w22 ⟨rfl, hb⟩; have n0_ := am (qQg (g := gb588) (Up.up BK588.out) hb); have n1_ := am (qQb (by exact h1q HB.out GE588.out) hb); clear BK588; clear HB; have BK588 := n0_; have HB := n1_; clear n0_ n1_; (try clear hb); (try clear hb2); (try clear hk); (try clear hi); have hz23 := lc13 BK588.out) | (go_at_call 8; (with_reducible refine (qQz.calls k 0 _ _ l0 a1_0 _ _ l1_1 a1_2 a1_3 a1_4 a1_5 _ _ l1_6 a1_7 a1_8 a1_9 a1_10 a1_11 a1_12 a2 t592 t595 t598 _ ?side1 ?side2 ?side3 ?side4 ?side5 ?side6 A17.out).mono ?_); (case side1 => exact cq ((Kd.qZq HR0.out HB.out))); (case side2 => exact HC0.out); (case side3 => exact cq ((Kd.qZq HR1_1.out HB.out))); (case side4 => exact HC1_1.out); (case side5 => exact cq ((Kd.qZq HR1_6.out HB.out))); (case side6 => exact HC1_6.out); rintro e w24 ⟨v593, v596, rfl, ho0, ho1, hb⟩; have n0_ := am (Kd.qYx ho0 (qQd (by exact h1q HB.out GE588.out))); have n1_ := am (Kd.qYx ho1 (qQd (by exact h1q HB.out GE588.out))); have n2_ := am (qQg (g := gb588) (Up.up BK588.out) hb); have n3_ := am (qQb (by exact h1q HB.out GE588.out) hb); clear BK588; clear HB; have HO594 := n0_; have HO597 := n1_; have BK588 := n2_; have HB := n3_; clear n0_ n1_ n2_ n3_; (try clear hb); (try clear hb2); (try clear hk); (try clear hi); (try clear ho0); (try clear ho1); obtain ⟨Ao25, co25, eo25⟩ := Kd.qYy HO594.out; subst eo25; obtain ⟨Ao26, co26, eo26⟩ := Kd.qYy HO597.out; subst eo26))
     try (go_quiet (fail); try go_wp2)
     go_loopg [10, 11, 12] k (fun kq v10 v11 v12 w' => ∃ (x10_1 : Int) (x11_1 : Int) (x12_1 : Int), v10 = .int .i64 x10_1 ∧ v11 = .int .i64 x11_1 ∧ v12 = .int .i64 x12_1 ∧ Aside0 (qQy.l0 kq l0 a2 t592 t595 x10_1 x11_1 x12_1 a1_0 l1_1 a1_2 a1_3 a1_4 a1_5 l1_6 a1_7 a1_8 a1_9 a1_10 a1_11 a1_12 = some r) ∧ Aside0 (kq ≤ k) ∧ Aside0 (Kd.R (Kd.int .i64) 3 w' w.heap.size (fun _ => True) (.slice Ao25 t592.length co25) t592) ∧ Aside0 (Kd.R (Kd.int .i64) 2 w' w.heap.size (fun _ => True) (.slice Ao26 t595.length co26) t595) ∧ Aside0 (w'.heap[gb588]? = some (.cells #[.int .i64 a1_0, (.slice A1_1 l1_1.length c1_1), .int .i64 a1_2, .int .i64 a1_3, .int .i64 a1_4, .int .i64 a1_5, (.slice A1_6 l1_6.length c1_6), .int .i64 a1_7, .int .i64 a1_8, .int .i64 a1_9, .int .i64 a1_10, .int .i64 a1_11, .int .i64 a1_12] 28 (0, 0))) ∧ Aside0 (Below w.heap.size w w'))
     case atStart => exact ⟨(0), (0), (0), (by first | rfl | (simp [i64_w, i32_w, qQq, qQr]; done) | (simp; done) | (simp [*]; done)), (by first | rfl | (simp [i64_w, i32_w, qQq, qQr]; done) | (simp; done) | (simp [*]; done)), (by first | rfl | (simp [i64_w, i32_w, qQq, qQr]; done) | (simp; done) | (simp [*]; done)), H', ⟨Nat.le_refl _⟩, ⟨by exact rq HO594.out⟩, ⟨by exact rq HO597.out⟩, ⟨by exact bb BK588.out⟩, ⟨by exact h1q HB.out GE588.out⟩⟩
     case round =>
      clear H'
      try clear c5
      try clear c11
      try clear c11b0 c11b1
      try clear c18
      try clear c18b0 c18b1
      try clear c19
      try clear c19b0 c19b1
      try clear c19b2
      try clear hz14
      try clear hz21
      try clear hz23
      try clear hz8
      obtain ⟨x10_1, x11_1, x12_1, rfl, rfl, rfl, HA, HK1, HO_7, HO_8, BK588, HB⟩ := hrel
      rcases gk with _ | k1
      ·exact absurd HA.out (by simp [qQy.l0])
      have H := HA.out
      clear HA
      simp only [qQy.l0] at H
      by_cases c27 : x12_1 < (l1_1.length : Int)
      ·rw [if_pos c27] at H
       have c27b0 : decide (x12_1 < (l1_1.length : Int)) = true := decide_eq_true c27
       clear c27
       by_cases c28 : 0 ≤ x12_1
       ·rw [if_pos c28] at H
        have c28b0 : decide (0 ≤ x12_1) = true := decide_eq_true c28
        clear c28
        replace H := Option.bind_eq_some_iff.mp H
        obtain ⟨t601, A290, H⟩ := H
        replace H : (if t601 = true then ((qZk.f ((qQa l1_1 x12_1).f0) ((qQa l1_1 x12_1).f1) ((qQa l1_1 x12_1).f2) ((qQa l1_1 x12_1).f3) ((qQa l1_1 x12_1).f4) ((qQa l1_1 x12_1).f5) ((qQa l1_1 x12_1).f6) ((qQa l1_1 x12_1).f7) ((qQa l1_1 x12_1).f8) ((qQa l1_1 x12_1).f9) ((qQa l1_1 x12_1).f10) ((qQa l1_1 x12_1).f11) ((qQa l1_1 x12_1).f12)).bind fun bt603 => (if x10_1 ≥ (t592.length : Int) then (none) else (if 0 ≤ x10_1 then (if x10_1 < (t592.length : Int) then (if (rd t592 x10_1) = ((qQa l1_1 x12_1).f0) then (if bt603.2 = 0 then (if x10_1 < (t595.length : Int) then (if (rd t595 x10_1) < 0 then (none) else (if (rd t595 x10_1) > bt603.1 then (none) else (qQy.l0 k1 l0 a2 t592 t595 (wrap64 (x10_1 + 1)) (wrap64 (x11_1 + (rd t595 x10_1))) (wrap64 (x12_1 + 1)) a1_0 l1_1 a1_2 a1_3 a1_4 a1_5 l1_6 a1_7 a1_8 a1_9 a1_10 a1_11 a1_12))) else (none)) else (if x10_1 < (t595.length : Int) then (qQy.l0 k1 l0 a2 t592 t595 (wrap64 (x10_1 + 1)) (wrap64 (x11_1 + (rd t595 x10_1))) (wrap64 (x12_1 + 1)) a1_0 l1_1 a1_2 a1_3 a1_4 a1_5 l1_6 a1_7 a1_8 a1_9 a1_10 a1_11 a1_12) else (none))) else (none)) else (none)) else (none)))) else (qQy.l0 k1 l0 a2 t592 t595 x10_1 x11_1 (wrap64 (x12_1 + 1)) a1_0 l1_1 a1_2 a1_3 a1_4 a1_5 l1_6 a1_7 a1_8 a1_9 a1_10 a1_11 a1_12)) = some r := H
        have A29 := am A290
        clear A290
        by_cases c30 : t601 = true
        ·subst c30
         have H1 : ((qZk.f ((qQa l1_1 x12_1).f0) ((qQa l1_1 x12_1).f1) ((qQa l1_1 x12_1).f2) ((qQa l1_1 x12_1).f3) ((qQa l1_1 x12_1).f4) ((qQa l1_1 x12_1).f5) ((qQa l1_1 x12_1).f6) ((qQa l1_1 x12_1).f7) ((qQa l1_1 x12_1).f8) ((qQa l1_1 x12_1).f9) ((qQa l1_1 x12_1).f10) ((qQa l1_1 x12_1).f11) ((qQa l1_1 x12_1).f12)).bind fun bt603 => (if x10_1 ≥ (t592.length : Int) then (none) else (if 0 ≤ x10_1 then (if x10_1 < (t592.length : Int) then (if (rd t592 x10_1) = ((qQa l1_1 x12_1).f0) then (if bt603.2 = 0 then (if x10_1 < (t595.length : Int) then (if (rd t595 x10_1) < 0 then (none) else (if (rd t595 x10_1) > bt603.1 then (none) else (qQy.l0 k1 l0 a2 t592 t595 (wrap64 (x10_1 + 1)) (wrap64 (x11_1 + (rd t595 x10_1))) (wrap64 (x12_1 + 1)) a1_0 l1_1 a1_2 a1_3 a1_4 a1_5 l1_6 a1_7 a1_8 a1_9 a1_10 a1_11 a1_12))) else (none)) else (if x10_1 < (t595.length : Int) then (qQy.l0 k1 l0 a2 t592 t595 (wrap64 (x10_1 + 1)) (wrap64 (x11_1 + (rd t595 x10_1))) (wrap64 (x12_1 + 1)) a1_0 l1_1 a1_2 a1_3 a1_4 a1_5 l1_6 a1_7 a1_8 a1_9 a1_10 a1_11 a1_12) else (none))) else (none)) else (none)) else (none)))) = some r := by rw [if_pos rfl] at H; exact H
         clear H
         have H := H1
         clear H1
         replace H := Option.bind_eq_some_iff.mp H
         obtain ⟨⟨t603, t604⟩, A310, H⟩ := H
         replace H : (if x10_1 ≥ (t592.length : Int) then (none) else (if 0 ≤ x10_1 then (if x10_1 < (t592.length : Int) then (if (rd t592 x10_1) = ((qQa l1_1 x12_1).f0) then (if t604 = 0 then (if x10_1 < (t595.length : Int) then (if (rd t595 x10_1) < 0 then (none) else (if (rd t595 x10_1) > t603 then (none) else (qQy.l0 k1 l0 a2 t592 t595 (wrap64 (x10_1 + 1)) (wrap64 (x11_1 + (rd t595 x10_1))) (wrap64 (x12_1 + 1)) a1_0 l1_1 a1_2 a1_3 a1_4 a1_5 l1_6 a1_7 a1_8 a1_9 a1_10 a1_11 a1_12))) else (none)) else (if x10_1 < (t595.length : Int) then (qQy.l0 k1 l0 a2 t592 t595 (wrap64 (x10_1 + 1)) (wrap64 (x11_1 + (rd t595 x10_1))) (wrap64 (x12_1 + 1)) a1_0 l1_1 a1_2 a1_3 a1_4 a1_5 l1_6 a1_7 a1_8 a1_9 a1_10 a1_11 a1_12) else (none))) else (none)) else (none)) else (none))) = some r := H
         have A31 := am A310
         clear A310
         by_cases c32 : x10_1 ≥ (t592.length : Int)
         ·rw [if_pos c32] at H
          exact absurd H (by simp)
         ·rw [if_neg c32] at H
          have c32b0 : decide ((t592.length : Int) ≤ x10_1) = false := decide_eq_false c32
          clear c32
          by_cases c33 : 0 ≤ x10_1
          ·rw [if_pos c33] at H
           have c33b0 : decide (0 ≤ x10_1) = true := decide_eq_true c33
           clear c33
           by_cases c34 : x10_1 < (t592.length : Int)
           ·rw [if_pos c34] at H
            have c34b0 : decide (x10_1 < (t592.length : Int)) = true := decide_eq_true c34
            clear c34
            by_cases c35 : (rd t592 x10_1) = ((qQa l1_1 x12_1).f0)
            ·rw [if_pos c35] at H
             have c35b0 : ((rd t592 x10_1) == ((qQa l1_1 x12_1).f0)) = true := beq_iff_eq.mpr c35
             have c35b1 : ((rd t592 x10_1) != ((qQa l1_1 x12_1).f0)) = false := bne_eq_false_iff_eq.mpr c35
             clear c35
             by_cases c36 : t604 = 0
             ·rw [if_pos c36] at H
              have c36b0 : (t604 == 0) = true := beq_iff_eq.mpr c36
              have c36b1 : (t604 != 0) = false := bne_eq_false_iff_eq.mpr c36
              clear c36
              by_cases c37 : x10_1 < (t595.length : Int)
              ·rw [if_pos c37] at H
               have c37b0 : decide (x10_1 < (t595.length : Int)) = true := decide_eq_true c37
               clear c37
               by_cases c38 : (rd t595 x10_1) < 0
               ·rw [if_pos c38] at H
                exact absurd H (by simp)
               ·rw [if_neg c38] at H
                have c38b0 : decide ((rd t595 x10_1) < 0) = false := decide_eq_false c38
                clear c38
                by_cases c39 : (rd t595 x10_1) > t603
                ·rw [if_pos c39] at H
                 exact absurd H (by simp)
                ·rw [if_neg c39] at H
                 have c39b0 : decide (t603 < (rd t595 x10_1)) = false := decide_eq_false c39
                 clear c39
                 have H' := am H
                 clear H
                 have hz40 := lc13 BK588.out
                 have p600 : 0 ≤ (x12_1 : Int) := yd
                 have q600 : x12_1 < (l1_1.length : Int) := yd
                 obtain ⟨ad600, e600, hx600_0, hx600_1, hx600_2, hx600_3, hx600_4, hx600_5, hx600_6, hx600_7, hx600_8, hx600_9, hx600_10, hx600_11, hx600_12⟩ := qY8 HR1_1.out x12_1 p600 q600
                 cases e600
                 replace hx600_0 := hxb HB.out hx600_0
                 replace hx600_1 := hxb HB.out hx600_1
                 replace hx600_2 := hxb HB.out hx600_2
                 replace hx600_3 := hxb HB.out hx600_3
                 replace hx600_4 := hxb HB.out hx600_4
                 replace hx600_5 := hxb HB.out hx600_5
                 replace hx600_6 := hxb HB.out hx600_6
                 replace hx600_7 := hxb HB.out hx600_7
                 replace hx600_8 := hxb HB.out hx600_8
                 replace hx600_9 := hxb HB.out hx600_9
                 replace hx600_10 := hxb HB.out hx600_10
                 replace hx600_11 := hxb HB.out hx600_11
                 replace hx600_12 := hxb HB.out hx600_12
                 replace p600 := eq_true p600
                 replace q600 := eq_true q600
                 go_wp2_with (first | (go_at_call 13; (with_reducible refine (qZf.calls ((qQa l1_1 x12_1).f0) ((qQa l1_1 x12_1).f1) ((qQa l1_1 x12_1).f2) ((qQa l1_1 x12_1).f3) ((qQa l1_1 x12_1).f4) ((qQa l1_1 x12_1).f5) ((qQa l1_1 x12_1).f6) ((qQa l1_1 x12_1).f7) ((qQa l1_1 x12_1).f8) ((qQa l1_1 x12_1).f9) ((qQa l1_1 x12_1).f10) ((qQa l1_1 x12_1).f11) ((qQa l1_1 x12_1).f12) true _ A29.out).mono ?_); rintro e w41 ⟨rfl, hb⟩; have n0_ := am (Kd.qQt (by exact rq HO_7.out) hb); have n1_ := am (Kd.qQt (by exact rq HO_8.out) hb); have n2_ := am (qQg (g := gb588) (Up.up BK588.out) hb); have n3_ := am (qQb (by exact h1q HB.out GE588.out) hb); clear HO_7; clear HO_8; clear BK588; clear HB; have HO_7 := n0_; have HO_8 := n1_; have BK588 := n2_; have HB := n3_; clear n0_ n1_ n2_ n3_; (try clear hb); (try clear hb2); (try clear hk); (try clear hi); have hz42 := lc13 BK588.out; have p602 : 0 ≤ (x12_1 : Int) := yd; have q602 : x12_1 < (l1_1.length : Int) := yd; obtain ⟨ad602, e602, hx602_0, hx602_1, hx602_2, hx602_3, hx602_4, hx602_5, hx602_6, hx602_7, hx602_8, hx602_9, hx602_10, hx602_11, hx602_12⟩ := qY8 HR1_1.out x12_1 p602 q602; obtain rfl : ad600 = ad602 := (by injection e602); replace hx602_0 := hxb HB.out hx602_0; replace hx602_1 := hxb HB.out hx602_1; replace hx602_2 := hxb HB.out hx602_2; replace hx602_3 := hxb HB.out hx602_3; replace hx602_4 := hxb HB.out hx602_4; replace hx602_5 := hxb HB.out hx602_5; replace hx602_6 := hxb HB.out hx602_6; replace hx602_7 := hxb HB.out hx602_7; replace hx602_8 := hxb HB.out hx602_8; replace hx602_9 := hxb HB.out hx602_9; replace hx602_10 := hxb HB.out hx602_10; replace hx602_11 := hxb HB.out hx602_11; replace hx602_12 := hxb HB.out hx602_12; replace p602 := eq_true p602; replace q602 := eq_true q602) | (go_at_call 14; (with_reducible refine (qZk.calls ((qQa l1_1 x12_1).f0) ((qQa l1_1 x12_1).f1) ((qQa l1_1 x12_1).f2) ((qQa l1_1 x12_1).f3) ((qQa l1_1 x12_1).f4) ((qQa l1_1 x12_1).f5) ((qQa l1_1 x12_1).f6) ((qQa l1_1 x12_1).f7) ((qQa l1_1 x12_1).f8) ((qQa l1_1 x12_1).f9) ((qQa l1_1 x12_1).f10) ((qQa l1_1 x12_1).f11) ((qQa l1_1 x12_1).f12) t603 t604 _ A31.out).mono ?_); rintro e w43 ⟨rfl, hb⟩; have n0_ := am (Kd.qQt (by exact rq HO_7.out) hb); have n1_ := am (Kd.qQt (by exact rq HO_8.out) hb); have n2_ := am (qQg (g := gb588) (Up.up BK588.out) hb); have n3_ := am (qQb (by exact h1q HB.out GE588.out) hb); clear HO_7; clear HO_8; clear BK588; clear HB; have HO_7 := n0_; have HO_8 := n1_; have BK588 := n2_; have HB := n3_; clear n0_ n1_ n2_ n3_; (try clear hb); (try clear hb2); (try clear hk); (try clear hi); have p605 : 0 ≤ (x10_1 : Int) := yd; have q605 : x10_1 < (t592.length : Int) := yd; obtain ⟨ad605, e605, hx605_0⟩ := Kd.qZx (Kd.qZe HO_7.out).2.2 x10_1 p605 q605; cases e605; replace p605 := eq_true p605; replace q605 := eq_true q605; have hz44 := lc13 BK588.out; have p606 : 0 ≤ (x12_1 : Int) := yd; have q606 : x12_1 < (l1_1.length : Int) := yd; obtain ⟨ad606, e606, hx606_0, hx606_1, hx606_2, hx606_3, hx606_4, hx606_5, hx606_6, hx606_7, hx606_8, hx606_9, hx606_10, hx606_11, hx606_12⟩ := qY8 HR1_1.out x12_1 p606 q606; obtain rfl : ad600 = ad606 := (by injection e606); replace hx606_0 := hxb HB.out hx606_0; replace hx606_1 := hxb HB.out hx606_1; replace hx606_2 := hxb HB.out hx606_2; replace hx606_3 := hxb HB.out hx606_3; replace hx606_4 := hxb HB.out hx606_4; replace hx606_5 := hxb HB.out hx606_5; replace hx606_6 := hxb HB.out hx606_6; replace hx606_7 := hxb HB.out hx606_7; replace hx606_8 := hxb HB.out hx606_8; replace hx606_9 := hxb HB.out hx606_9; replace hx606_10 := hxb HB.out hx606_10; replace hx606_11 := hxb HB.out hx606_11; replace hx606_12 := hxb HB.out hx606_12; replace p606 := eq_true p606; replace q606 := eq_true q606; have p607 : 0 ≤ (x10_1 : Int) := yd; have q607 : x10_1 < (t595.length : Int) := yd; obtain ⟨ad607, e607, hx607_0⟩ := Kd.qZx (Kd.qZe HO_8.out).2.2 x10_1 p607 q607; cases e607; replace p607 := eq_true p607; replace q607 := eq_true q607; have p608 : 0 ≤ (x10_1 : Int) := yd; have q608 : x10_1 < (t595.length : Int) := yd; obtain ⟨ad608, e608, hx608_0⟩ := Kd.qZx (Kd.qZe HO_8.out).2.2 x10_1 p608 q608; obtain rfl : ad607 = ad608 := (by injection e608); replace p608 := eq_true p608; replace q608 := eq_true q608; have p609 : 0 ≤ (x10_1 : Int) := yd; have q609 : x10_1 < (t595.length : Int) := yd; obtain ⟨ad609, e609, hx609_0⟩ := Kd.qZx (Kd.qZe HO_8.out).2.2 x10_1 p609 q609; obtain rfl : ad607 = ad609 := (by injection e609); replace p609 := eq_true p609; replace q609 := eq_true q609))
                 repeat (go_quiet (first | (go_at_call 13; (first | (with_reducible refine (qZf.calls ((qQa l1_1 x12_1).f0) ((qQa l1_1 x12_1).f1) ((qQa l1_1 x12_1).f2) ((qQa l1_1 x12_1).f3) ((qQa l1_1 x12_1).f4) ((qQa l1_1 x12_1).f5) ((qQa l1_1 x12_1).f6) ((qQa l1_1 x12_1).f7) ((qQa l1_1 x12_1).f8) ((qQa l1_1 x12_1).f9) ((qQa l1_1 x12_1).f10) ((qQa l1_1 x12_1).f11) ((qQa l1_1 x12_1).f12) true _ A29.out).mono ?_) | (simp only [i64_w, i32_w]; with_reducible refine (qZf.calls ((qQa l1_1 x12_1).f0) ((qQa l1_1 x12_1).f1) ((qQa l1_1 x12_1).f2) ((qQa l1_1 x12_1).f3) ((qQa l1_1 x12_1).f4) ((qQa l1_1 x12_1).f5) ((qQa l1_1 x12_1).f6) ((qQa l1_1 x12_1).f7) ((qQa l1_1 x12_1).f8) ((qQa l1_1 x12_1).f9) ((qQa l1_1 x12_1).f10) ((qQa l1_1 x12_1).f11) ((qQa l1_1 x12_1).f12) true _ A29.out).mono ?_)); rintro e w41 ⟨rfl, hb⟩; have n0_ := am (Kd.qQt (by exact rq HO_7.out) hb); have n1_ := am (Kd.qQt (by exact rq HO_8.out) hb); have n2_ := am (qQg (g := gb588) (Up.up BK588.out) hb); have n3_ := am (qQb (by exact h1q HB.out GE588.out) hb); clear HO_7; clear HO_8; clear BK588; clear HB; have HO_7 := n0_; have HO_8 := n1_; have BK588 := n2_; have HB := n3_; clear n0_ n1_ n2_ n3_; (try clear hb); (try clear hb2); (try clear hk); (try clear hi); have hz42 := lc13 BK588.out; have p602 : 0 ≤ (x12_1 : Int) := yd; have q602 : x12_1 < (l1_1.length : Int) := yd; obtain ⟨ad602, e602, hx602_0, hx602_1, hx602_2, hx602_3, hx602_4, hx602_5, hx602_6, hx602_7, hx602_8, hx602_9, hx602_10, hx602_11, hx602_12⟩ := qY8 HR1_1.out x12_1 p602 q602; obtain rfl : ad600 = ad602 := (by injection e602); replace hx602_0 := hxb HB.out hx602_0; replace hx602_1 := hxb HB.out hx602_1; replace hx602_2 := hxb HB.out hx602_2; replace hx602_3 := hxb HB.out hx602_3; replace hx602_4 := hxb HB.out hx602_4; replace hx602_5 := hxb HB.out hx602_5; replace hx602_6 := hxb HB.out hx602_6; replace hx602_7 := hxb HB.out hx602_7; replace hx602_8 := hxb HB.out hx602_8; replace hx602_9 := hxb HB.out hx602_9; replace hx602_10 := hxb HB.out hx602_10; replace hx602_11 := hxb HB.out hx602_11; replace hx602_12 := hxb HB.out hx602_12; replace p602 := eq_true p602; replace q602 := eq_true q602) | (go_at_call 14; (first | (with_reducible refine (qZk.calls ((qQa l1_1 x12_1).f0) ((qQa l1_1 x12_1).f1) ((qQa l1_1 x12_1).f2) ((qQa l1_1 x12_1).f3) ((qQa l1_1 x12_1).f4) ((qQa l1_1 x12_1).f5) ((qQa l1_1 x12_1).f6) ((qQa l1_1 x12_1).f7) ((qQa l1_1 x12_1).f8) ((qQa l1_1 x12_1).f9) ((qQa l1_1 x12_1).f10) ((qQa l1_1 x12_1).f11) ((qQa l1_1 x12_1).f12) t603 t604 _ A31.out).mono ?_) | (simp only [i64_w, i32_w]; with_reducible refine (qZk.calls ((qQa l1_1 x12_1).f0) ((qQa l1_1 x12_1).f1) ((qQa l1_1 x12_1).f2) ((qQa l1_1 x12_1).f3) ((qQa l1_1 x12_1).f4) ((qQa l1_1 x12_1).f5) ((qQa l1_1 x12_1).f6) ((qQa l1_1 x12_1).f7) ((qQa l1_1 x12_1).f8) ((qQa l1_1 x12_1).f9) ((qQa l1_1 x12_1).f10) ((qQa l1_1 x12_1).f11) ((qQa l1_1 x12_1).f12) t603 t604 _ A31.out).mono ?_)); rintro e w43 ⟨rfl, hb⟩; have n0_ := am (Kd.qQt (by exact rq HO_7.out) hb); have n1_ := am (Kd.qQt (by exact rq HO_8.out) hb); have n2_ := am (qQg (g := gb588) (Up.up BK588.out) hb); have n3_ := am (qQb (by exact h1q HB.out GE588.out) hb); clear HO_7; clear HO_8; clear BK588; clear HB; have HO_7 := n0_; have HO_8 := n1_; have BK588 := n2_; have HB := n3_; clear n0_ n1_ n2_ n3_; (try clear hb); (try clear hb2); (try clear hk); (try clear hi); have p605 : 0 ≤ (x10_1 : Int) := yd; have q605 : x10_1 < (t592.length : Int) := yd; obtain ⟨ad605, e605, hx605_0⟩ := Kd.qZx (Kd.qZe HO_7.out).2.2 x10_1 p605 q605; cases e605; replace p605 := eq_true p605; replace q605 := eq_true q605; have hz44 := lc13 BK588.out; have p606 : 0 ≤ (x12_1 : Int) := yd; have q606 : x12_1 < (l1_1.length : Int) := yd; obtain ⟨ad606, e606, hx606_0, hx606_1, hx606_2, hx606_3, hx606_4, hx606_5, hx606_6, hx606_7, hx606_8, hx606_9, hx606_10, hx606_11, hx606_12⟩ := qY8 HR1_1.out x12_1 p606 q606; obtain rfl : ad600 = ad606 := (by injection e606); replace hx606_0 := hxb HB.out hx606_0; replace hx606_1 := hxb HB.out hx606_1; replace hx606_2 := hxb HB.out hx606_2; replace hx606_3 := hxb HB.out hx606_3; replace hx606_4 := hxb HB.out hx606_4; replace hx606_5 := hxb HB.out hx606_5; replace hx606_6 := hxb HB.out hx606_6; replace hx606_7 := hxb HB.out hx606_7; replace hx606_8 := hxb HB.out hx606_8; replace hx606_9 := hxb HB.out hx606_9; replace hx606_10 := hxb HB.out hx606_10; replace hx606_11 := hxb HB.out hx606_11; replace hx606_12 := hxb HB.out hx606_12; replace p606 := eq_true p606; replace q606 := eq_true q606; have p607 : 0 ≤ (x10_1 : Int) := yd; have q607 : x10_1 < (t595.length : Int) := yd; obtain ⟨ad607, e607, hx607_0⟩ := Kd.qZx (Kd.qZe HO_8.out).2.2 x10_1 p607 q607; cases e607; replace p607 := eq_true p607; replace q607 := eq_true q607; have p608 : 0 ≤ (x10_1 : Int) := yd; have q608 : x10_1 < (t595.length : Int) := yd; obtain ⟨ad608, e608, hx608_0⟩ := Kd.qZx (Kd.qZe HO_8.out).2.2 x10_1 p608 q608; obtain rfl : ad607 = ad608 := (by injection e608); replace p608 := eq_true p608; replace q608 := eq_true q608; have p609 : 0 ≤ (x10_1 : Int) := yd; have q609 : x10_1 < (t595.length : Int) := yd; obtain ⟨ad609, e609, hx609_0⟩ := Kd.qZx (Kd.qZe HO_8.out).2.2 x10_1 p609 q609; obtain rfl : ad607 = ad609 := (by injection e609); replace p609 := eq_true p609; replace q609 := eq_true q609)); try go_wp2_with (first | (go_at_call 13; (first | (with_reducible refine (qZf.calls ((qQa l1_1 x12_1).f0) ((qQa l1_1 x12_1).f1) ((qQa l1_1 x12_1).f2) ((qQa l1_1 x12_1).f3) ((qQa l1_1 x12_1).f4) ((qQa l1_1 x12_1).f5) ((qQa l1_1 x12_1).f6) ((qQa l1_1 x12_1).f7) ((qQa l1_1 x12_1).f8) ((qQa l1_1 x12_1).f9) ((qQa l1_1 x12_1).f10) ((qQa l1_1 x12_1).f11) ((qQa l1_1 x12_1).f12) true _ A29.out).mono ?_) | (simp only [i64_w, i32_w]; with_reducible refine (qZf.calls ((qQa l1_1 x12_1).f0) ((qQa l1_1 x12_1).f1) ((qQa l1_1 x12_1).f2) ((qQa l1_1 x12_1).f3) ((qQa l1_1 x12_1).f4) ((qQa l1_1 x12_1).f5) ((qQa l1_1 x12_1).f6) ((qQa l1_1 x12_1).f7) ((qQa l1_1 x12_1).f8) ((qQa l1_1 x12_1).f9) ((qQa l1_1 x12_1).f10) ((qQa l1_1 x12_1).f11) ((qQa l1_1 x12_1).f12) true _ A29.out).mono ?_)); rintro e w41 ⟨rfl, hb⟩; have n0_ := am (Kd.qQt (by exact rq HO_7.out) hb); have n1_ := am (Kd.qQt (by exact rq HO_8.out) hb); have n2_ := am (qQg (g := gb588) (Up.up BK588.out) hb); have n3_ := am (qQb (by exact h1q HB.out GE588.out) hb); clear HO_7; clear HO_8; clear BK588; clear HB; have HO_7 := n0_; have HO_8 := n1_; have BK588 := n2_; have HB := n3_; clear n0_ n1_ n2_ n3_; (try clear hb); (try clear hb2); (try clear hk); (try clear hi); have hz42 := lc13 BK588.out; have p602 : 0 ≤ (x12_1 : Int) := yd; have q602 : x12_1 < (l1_1.length : Int) := yd; obtain ⟨ad602, e602, hx602_0, hx602_1, hx602_2, hx602_3, hx602_4, hx602_5, hx602_6, hx602_7, hx602_8, hx602_9, hx602_10, hx602_11, hx602_12⟩ := qY8 HR1_1.out x12_1 p602 q602; obtain rfl : ad600 = ad602 := (by injection e602); replace hx602_0 := hxb HB.out hx602_0; replace hx602_1 := hxb HB.out hx602_1; replace hx602_2 := hxb HB.out hx602_2; replace hx602_3 := hxb HB.out hx602_3; replace hx602_4 := hxb HB.out hx602_4; replace hx602_5 := hxb HB.out hx602_5; replace hx602_6 := hxb HB.out hx602_6; replace hx602_7 := hxb HB.out hx602_7; replace hx602_8 := hxb HB.out hx602_8; replace hx602_9 := hxb HB.out hx602_9; replace hx602_10 := hxb HB.out hx602_10; replace hx602_11 := hxb HB.out hx602_11; replace hx602_12 := hxb HB.out hx602_12; replace p602 := eq_true p602; replace q602 := eq_true q602) | (go_at_call 14; (first | (with_reducible refine (qZk.calls ((qQa l1_1 x12_1).f0) ((qQa l1_1 x12_1).f1) ((qQa l1_1 x12_1).f2) ((qQa l1_1 x12_1).f3) ((qQa l1_1 x12_1).f4) ((qQa l1_1 x12_1).f5) ((qQa l1_1 x12_1).f6) ((qQa l1_1 x12_1).f7) ((qQa l1_1 x12_1).f8) ((qQa l1_1 x12_1).f9) ((qQa l1_1 x12_1).f10) ((qQa l1_1 x12_1).f11) ((qQa l1_1 x12_1).f12) t603 t604 _ A31.out).mono ?_) | (simp only [i64_w, i32_w]; with_reducible refine (qZk.calls ((qQa l1_1 x12_1).f0) ((qQa l1_1 x12_1).f1) ((qQa l1_1 x12_1).f2) ((qQa l1_1 x12_1).f3) ((qQa l1_1 x12_1).f4) ((qQa l1_1 x12_1).f5) ((qQa l1_1 x12_1).f6) ((qQa l1_1 x12_1).f7) ((qQa l1_1 x12_1).f8) ((qQa l1_1 x12_1).f9) ((qQa l1_1 x12_1).f10) ((qQa l1_1 x12_1).f11) ((qQa l1_1 x12_1).f12) t603 t604 _ A31.out).mono ?_)); rintro e w43 ⟨rfl, hb⟩; have n0_ := am (Kd.qQt (by exact rq HO_7.out) hb); have n1_ := am (Kd.qQt (by exact rq HO_8.out) hb); have n2_ := am (qQg (g := gb588) (Up.up BK588.out) hb); have n3_ := am (qQb (by exact h1q HB.out GE588.out) hb); clear HO_7; clear HO_8; clear BK588; clear HB; have HO_7 := n0_; have HO_8 := n1_; have BK588 := n2_; have HB := n3_; clear n0_ n1_ n2_ n3_; (try clear hb); (try clear hb2); (try clear hk); (try clear hi); have p605 : 0 ≤ (x10_1 : Int) := yd; have q605 : x10_1 < (t592.length : Int) := yd; obtain ⟨ad605, e605, hx605_0⟩ := Kd.qZx (Kd.qZe HO_7.out).2.2 x10_1 p605 q605; cases e605; replace p605 := eq_true p605; replace q605 := eq_true q605; have hz44 := lc13 BK588.out; have p606 : 0 ≤ (x12_1 : Int) := yd; have q606 : x12_1 < (l1_1.length : Int) := yd; obtain ⟨ad606, e606, hx606_0, hx606_1, hx606_2, hx606_3, hx606_4, hx606_5, hx606_6, hx606_7, hx606_8, hx606_9, hx606_10, hx606_11, hx606_12⟩ := qY8 HR1_1.out x12_1 p606 q606; obtain rfl : ad600 = ad606 := (by injection e606); replace hx606_0 := hxb HB.out hx606_0; replace hx606_1 := hxb HB.out hx606_1; replace hx606_2 := hxb HB.out hx606_2; replace hx606_3 := hxb HB.out hx606_3; replace hx606_4 := hxb HB.out hx606_4; replace hx606_5 := hxb HB.out hx606_5; replace hx606_6 := hxb HB.out hx606_6; replace hx606_7 := hxb HB.out hx606_7; replace hx606_8 := hxb HB.out hx606_8; replace hx606_9 := hxb HB.out hx606_9; replace hx606_10 := hxb HB.out hx606_10; replace hx606_11 := hxb HB.out hx606_11; replace hx606_12 := hxb HB.out hx606_12; replace p606 := eq_true p606; replace q606 := eq_true q606; have p607 : 0 ≤ (x10_1 : Int) := yd; have q607 : x10_1 < (t595.length : Int) := yd; obtain ⟨ad607, e607, hx607_0⟩ := Kd.qZx (Kd.qZe HO_8.out).2.2 x10_1 p607 q607; cases e607; replace p607 := eq_true p607; replace q607 := eq_true q607; have p608 : 0 ≤ (x10_1 : Int) := yd; have q608 : x10_1 < (t595.length : Int) := yd; obtain ⟨ad608, e608, hx608_0⟩ := Kd.qZx (Kd.qZe HO_8.out).2.2 x10_1 p608 q608; obtain rfl : ad607 = ad608 := (by injection e608); replace p608 := eq_true p608; replace q608 := eq_true q608; have p609 : 0 ≤ (x10_1 : Int) := yd; have q609 : x10_1 < (t595.length : Int) := yd; obtain ⟨ad609, e609, hx609_0⟩ := Kd.qZx (Kd.qZe HO_8.out).2.2 x10_1 p609 q609; obtain rfl : ad607 = ad609 := (by injection e609); replace p609 := eq_true p609; replace q609 := eq_true q609)))
                 go_roundg k1
                 case measure => have := HK1.out; omega
                 case rel => exact ⟨(wrap64 (x10_1 + 1)), (wrap64 (x11_1 + (rd t595 x10_1))), (wrap64 (x12_1 + 1)), (by first | rfl | (simp [i64_w, i32_w, qQq, qQr]; done) | (simp; done) | (simp [*]; done)), (by first | rfl | (simp [i64_w, i32_w, qQq, qQr]; done) | (simp; done) | (simp [*]; done)), (by first | rfl | (simp [i64_w, i32_w, qQq, qQr]; done) | (simp; done) | (simp [*]; done)), H', ⟨by have := HK1.out; omega⟩, ⟨by exact rq HO_7.out⟩, ⟨by exact rq HO_8.out⟩, ⟨by exact bb BK588.out⟩, ⟨by exact h1q HB.out GE588.out⟩⟩
              ·rw [if_neg c37] at H
               exact absurd H (by simp)
             ·rw [if_neg c36] at H
              have c36b0 : (t604 == 0) = false := beq_eq_false_iff_ne.mpr c36
              have c36b1 : (t604 != 0) = true := bne_iff_ne.mpr c36
              by_cases c45 : x10_1 < (t595.length : Int)
              ·rw [if_pos c45] at H
               have c45b0 : decide (x10_1 < (t595.length : Int)) = true := decide_eq_true c45
               clear c45
               have H' := am H
               clear H
               have hz46 := lc13 BK588.out
               have p600 : 0 ≤ (x12_1 : Int) := yd
               have q600 : x12_1 < (l1_1.length : Int) := yd
               obtain ⟨ad600, e600, hx600_0, hx600_1, hx600_2, hx600_3, hx600_4, hx600_5, hx600_6, hx600_7, hx600_8, hx600_9, hx600_10, hx600_11, hx600_12⟩ := qY8 HR1_1.out x12_1 p600 q600
               cases e600
               replace hx600_0 := hxb HB.out hx600_0
               replace hx600_1 := hxb HB.out hx600_1
               replace hx600_2 := hxb HB.out hx600_2
               replace hx600_3 := hxb HB.out hx600_3
               replace hx600_4 := hxb HB.out hx600_4
               replace hx600_5 := hxb HB.out hx600_5
               replace hx600_6 := hxb HB.out hx600_6
               replace hx600_7 := hxb HB.out hx600_7
               replace hx600_8 := hxb HB.out hx600_8
               replace hx600_9 := hxb HB.out hx600_9
               replace hx600_10 := hxb HB.out hx600_10
               replace hx600_11 := hxb HB.out hx600_11
               replace hx600_12 := hxb HB.out hx600_12
               replace p600 := eq_true p600
               replace q600 := eq_true q600
               go_wp2_with (first | (go_at_call 13; (with_reducible refine (qZf.calls ((qQa l1_1 x12_1).f0) ((qQa l1_1 x12_1).f1) ((qQa l1_1 x12_1).f2) ((qQa l1_1 x12_1).f3) ((qQa l1_1 x12_1).f4) ((qQa l1_1 x12_1).f5) ((qQa l1_1 x12_1).f6) ((qQa l1_1 x12_1).f7) ((qQa l1_1 x12_1).f8) ((qQa l1_1 x12_1).f9) ((qQa l1_1 x12_1).f10) ((qQa l1_1 x12_1).f11) ((qQa l1_1 x12_1).f12) true _ A29.out).mono ?_); rintro e w47 ⟨rfl, hb⟩; have n0_ := am (Kd.qQt (by exact rq HO_7.out) hb); have n1_ := am (Kd.qQt (by exact rq HO_8.out) hb); have n2_ := am (qQg (g := gb588) (Up.up BK588.out) hb); have n3_ := am (qQb (by exact h1q HB.out GE588.out) hb); clear HO_7; clear HO_8; clear BK588; clear HB; have HO_7 := n0_; have HO_8 := n1_; have BK588 := n2_; have HB := n3_; clear n0_ n1_ n2_ n3_; (try clear hb); (try clear hb2); (try clear hk); (try clear hi); have hz48 := lc13 BK588.out; have p602 : 0 ≤ (x12_1 : Int) := yd; have q602 : x12_1 < (l1_1.length : Int) := yd; obtain ⟨ad602, e602, hx602_0, hx602_1, hx602_2, hx602_3, hx602_4, hx602_5, hx602_6, hx602_7, hx602_8, hx602_9, hx602_10, hx602_11, hx602_12⟩ := qY8 HR1_1.out x12_1 p602 q602; obtain rfl : ad600 = ad602 := (by injection e602); replace hx602_0 := hxb HB.out hx602_0; replace hx602_1 := hxb HB.out hx602_1; replace hx602_2 := hxb HB.out hx602_2; replace hx602_3 := hxb HB.out hx602_3; replace hx602_4 := hxb HB.out hx602_4; replace hx602_5 := hxb HB.out hx602_5; replace hx602_6 := hxb HB.out hx602_6; replace hx602_7 := hxb HB.out hx602_7; replace hx602_8 := hxb HB.out hx602_8; replace hx602_9 := hxb HB.out hx602_9; replace hx602_10 := hxb HB.out hx602_10; replace hx602_11 := hxb HB.out hx602_11; replace hx602_12 := hxb HB.out hx602_12; replace p602 := eq_true p602; replace q602 := eq_true q602) | (go_at_call 14; (with_reducible refine (qZk.calls ((qQa l1_1 x12_1).f0) ((qQa l1_1 x12_1).f1) ((qQa l1_1 x12_1).f2) ((qQa l1_1 x12_1).f3) ((qQa l1_1 x12_1).f4) ((qQa l1_1 x12_1).f5) ((qQa l1_1 x12_1).f6) ((qQa l1_1 x12_1).f7) ((qQa l1_1 x12_1).f8) ((qQa l1_1 x12_1).f9) ((qQa l1_1 x12_1).f10) ((qQa l1_1 x12_1).f11) ((qQa l1_1 x12_1).f12) t603 t604 _ A31.out).mono ?_); rintro e w49 ⟨rfl, hb⟩; have n0_ := am (Kd.qQt (by exact rq HO_7.out) hb); have n1_ := am (Kd.qQt (by exact rq HO_8.out) hb); have n2_ := am (qQg (g := gb588) (Up.up BK588.out) hb); have n3_ := am (qQb (by exact h1q HB.out GE588.out) hb); clear HO_7; clear HO_8; clear BK588; clear HB; have HO_7 := n0_; have HO_8 := n1_; have BK588 := n2_; have HB := n3_; clear n0_ n1_ n2_ n3_; (try clear hb); (try clear hb2); (try clear hk); (try clear hi); have p605 : 0 ≤ (x10_1 : Int) := yd; have q605 : x10_1 < (t592.length : Int) := yd; obtain ⟨ad605, e605, hx605_0⟩ := Kd.qZx (Kd.qZe HO_7.out).2.2 x10_1 p605 q605; cases e605; replace p605 := eq_true p605; replace q605 := eq_true q605; have hz50 := lc13 BK588.out; have p606 : 0 ≤ (x12_1 : Int) := yd; have q606 : x12_1 < (l1_1.length : Int) := yd; obtain ⟨ad606, e606, hx606_0, hx606_1, hx606_2, hx606_3, hx606_4, hx606_5, hx606_6, hx606_7, hx606_8, hx606_9, hx606_10, hx606_11, hx606_12⟩ := qY8 HR1_1.out x12_1 p606 q606; obtain rfl : ad600 = ad606 := (by injection e606); replace hx606_0 := hxb HB.out hx606_0; replace hx606_1 := hxb HB.out hx606_1; replace hx606_2 := hxb HB.out hx606_2; replace hx606_3 := hxb HB.out hx606_3; replace hx606_4 := hxb HB.out hx606_4; replace hx606_5 := hxb HB.out hx606_5; replace hx606_6 := hxb HB.out hx606_6; replace hx606_7 := hxb HB.out hx606_7; replace hx606_8 := hxb HB.out hx606_8; replace hx606_9 := hxb HB.out hx606_9; replace hx606_10 := hxb HB.out hx606_10; replace hx606_11 := hxb HB.out hx606_11; replace hx606_12 := hxb HB.out hx606_12; replace p606 := eq_true p606; replace q606 := eq_true q606; have p610 : 0 ≤ (x10_1 : Int) := yd; have q610 : x10_1 < (t595.length : Int) := yd; obtain ⟨ad610, e610, hx610_0⟩ := Kd.qZx (Kd.qZe HO_8.out).2.2 x10_1 p610 q610; cases e610; replace p610 := eq_true p610; replace q610 := eq_true q610))
               repeat (go_quiet (first | (go_at_call 13; (first | (with_reducible refine (qZf.calls ((qQa l1_1 x12_1).f0) ((qQa l1_1 x12_1).f1) ((qQa l1_1 x12_1).f2) ((qQa l1_1 x12_1).f3) ((qQa l1_1 x12_1).f4) ((qQa l1_1 x12_1).f5) ((qQa l1_1 x12_1).f6) ((qQa l1_1 x12_1).f7) ((qQa l1_1 x12_1).f8) ((qQa l1_1 x12_1).f9) ((qQa l1_1 x12_1).f10) ((qQa l1_1 x12_1).f11) ((qQa l1_1 x12_1).f12) true _ A29.out).mono ?_) | (simp only [i64_w, i32_w]; with_reducible refine (qZf.calls ((qQa l1_1 x12_1).f0) ((qQa l1_1 x12_1).f1) ((qQa l1_1 x12_1).f2) ((qQa l1_1 x12_1).f3) ((qQa l1_1 x12_1).f4) ((qQa l1_1 x12_1).f5) ((qQa l1_1 x12_1).f6) ((qQa l1_1 x12_1).f7) ((qQa l1_1 x12_1).f8) ((qQa l1_1 x12_1).f9) ((qQa l1_1 x12_1).f10) ((qQa l1_1 x12_1).f11) ((qQa l1_1 x12_1).f12) true _ A29.out).mono ?_)); rintro e w47 ⟨rfl, hb⟩; have n0_ := am (Kd.qQt (by exact rq HO_7.out) hb); have n1_ := am (Kd.qQt (by exact rq HO_8.out) hb); have n2_ := am (qQg (g := gb588) (Up.up BK588.out) hb); have n3_ := am (qQb (by exact h1q HB.out GE588.out) hb); clear HO_7; clear HO_8; clear BK588; clear HB; have HO_7 := n0_; have HO_8 := n1_; have BK588 := n2_; have HB := n3_; clear n0_ n1_ n2_ n3_; (try clear hb); (try clear hb2); (try clear hk); (try clear hi); have hz48 := lc13 BK588.out; have p602 : 0 ≤ (x12_1 : Int) := yd; have q602 : x12_1 < (l1_1.length : Int) := yd; obtain ⟨ad602, e602, hx602_0, hx602_1, hx602_2, hx602_3, hx602_4, hx602_5, hx602_6, hx602_7, hx602_8, hx602_9, hx602_10, hx602_11, hx602_12⟩ := qY8 HR1_1.out x12_1 p602 q602; obtain rfl : ad600 = ad602 := (by injection e602); replace hx602_0 := hxb HB.out hx602_0; replace hx602_1 := hxb HB.out hx602_1; replace hx602_2 := hxb HB.out hx602_2; replace hx602_3 := hxb HB.out hx602_3; replace hx602_4 := hxb HB.out hx602_4; replace hx602_5 := hxb HB.out hx602_5; replace hx602_6 := hxb HB.out hx602_6; replace hx602_7 := hxb HB.out hx602_7; replace hx602_8 := hxb HB.out hx602_8; replace hx602_9 := hxb HB.out hx602_9; replace hx602_10 := hxb HB.out hx602_10; replace hx602_11 := hxb HB.out hx602_11; replace hx602_12 := hxb HB.out hx602_12; replace p602 := eq_true p602; replace q602 := eq_true q602) | (go_at_call 14; (first | (with_reducible refine (qZk.calls ((qQa l1_1 x12_1).f0) ((qQa l1_1 x12_1).f1) ((qQa l1_1 x12_1).f2) ((qQa l1_1 x12_1).f3) ((qQa l1_1 x12_1).f4) ((qQa l1_1 x12_1).f5) ((qQa l1_1 x12_1).f6) ((qQa l1_1 x12_1).f7) ((qQa l1_1 x12_1).f8) ((qQa l1_1 x12_1).f9) ((qQa l1_1 x12_1).f10) ((qQa l1_1 x12_1).f11) ((qQa l1_1 x12_1).f12) t603 t604 _ A31.out).mono ?_) | (simp only [i64_w, i32_w]; with_reducible refine (qZk.calls ((qQa l1_1 x12_1).f0) ((qQa l1_1 x12_1).f1) ((qQa l1_1 x12_1).f2) ((qQa l1_1 x12_1).f3) ((qQa l1_1 x12_1).f4) ((qQa l1_1 x12_1).f5) ((qQa l1_1 x12_1).f6) ((qQa l1_1 x12_1).f7) ((qQa l1_1 x12_1).f8) ((qQa l1_1 x12_1).f9) ((qQa l1_1 x12_1).f10) ((qQa l1_1 x12_1).f11) ((qQa l1_1 x12_1).f12) t603 t604 _ A31.out).mono ?_)); rintro e w49 ⟨rfl, hb⟩; have n0_ := am (Kd.qQt (by exact rq HO_7.out) hb); have n1_ := am (Kd.qQt (by exact rq HO_8.out) hb); have n2_ := am (qQg (g := gb588) (Up.up BK588.out) hb); have n3_ := am (qQb (by exact h1q HB.out GE588.out) hb); clear HO_7; clear HO_8; clear BK588; clear HB; have HO_7 := n0_; have HO_8 := n1_; have BK588 := n2_; have HB := n3_; clear n0_ n1_ n2_ n3_; (try clear hb); (try clear hb2); (try clear hk); (try clear hi); have p605 : 0 ≤ (x10_1 : Int) := yd; have q605 : x10_1 < (t592.length : Int) := yd; obtain ⟨ad605, e605, hx605_0⟩ := Kd.qZx (Kd.qZe HO_7.out).2.2 x10_1 p605 q605; cases e605; replace p605 := eq_true p605; replace q605 := eq_true q605; have hz50 := lc13 BK588.out; have p606 : 0 ≤ (x12_1 : Int) := yd; have q606 : x12_1 < (l1_1.length : Int) := yd; obtain ⟨ad606, e606, hx606_0, hx606_1, hx606_2, hx606_3, hx606_4, hx606_5, hx606_6, hx606_7, hx606_8, hx606_9, hx606_10, hx606_11, hx606_12⟩ := qY8 HR1_1.out x12_1 p606 q606; obtain rfl : ad600 = ad606 := (by injection e606); replace hx606_0 := hxb HB.out hx606_0; replace hx606_1 := hxb HB.out hx606_1; replace hx606_2 := hxb HB.out hx606_2; replace hx606_3 := hxb HB.out hx606_3; replace hx606_4 := hxb HB.out hx606_4; replace hx606_5 := hxb HB.out hx606_5; replace hx606_6 := hxb HB.out hx606_6; replace hx606_7 := hxb HB.out hx606_7; replace hx606_8 := hxb HB.out hx606_8; replace hx606_9 := hxb HB.out hx606_9; replace hx606_10 := hxb HB.out hx606_10; replace hx606_11 := hxb HB.out hx606_11; replace hx606_12 := hxb HB.out hx606_12; replace p606 := eq_true p606; replace q606 := eq_true q606; have p610 : 0 ≤ (x10_1 : Int) := yd; have q610 : x10_1 < (t595.length : Int) := yd; obtain ⟨ad610, e610, hx610_0⟩ := Kd.qZx (Kd.qZe HO_8.out).2.2 x10_1 p610 q610; cases e610; replace p610 := eq_true p610; replace q610 := eq_true q610)); try go_wp2_with (first | (go_at_call 13; (first | (with_reducible refine (qZf.calls ((qQa l1_1 x12_1).f0) ((qQa l1_1 x12_1).f1) ((qQa l1_1 x12_1).f2) ((qQa l1_1 x12_1).f3) ((qQa l1_1 x12_1).f4) ((qQa l1_1 x12_1).f5) ((qQa l1_1 x12_1).f6) ((qQa l1_1 x12_1).f7) ((qQa l1_1 x12_1).f8) ((qQa l1_1 x12_1).f9) ((qQa l1_1 x12_1).f10) ((qQa l1_1 x12_1).f11) ((qQa l1_1 x12_1).f12) true _ A29.out).mono ?_) | (simp only [i64_w, i32_w]; with_reducible refine (qZf.calls ((qQa l1_1 x12_1).f0) ((qQa l1_1 x12_1).f1) ((qQa l1_1 x12_1).f2) ((qQa l1_1 x12_1).f3) ((qQa l1_1 x12_1).f4) ((qQa l1_1 x12_1).f5) ((qQa l1_1 x12_1).f6) ((qQa l1_1 x12_1).f7) ((qQa l1_1 x12_1).f8) ((qQa l1_1 x12_1).f9) ((qQa l1_1 x12_1).f10) ((qQa l1_1 x12_1).f11) ((qQa l1_1 x12_1).f12) true _ A29.out).mono ?_)); rintro e w47 ⟨rfl, hb⟩; have n0_ := am (Kd.qQt (by exact rq HO_7.out) hb); have n1_ := am (Kd.qQt (by exact rq HO_8.out) hb); have n2_ := am (qQg (g := gb588) (Up.up BK588.out) hb); have n3_ := am (qQb (by exact h1q HB.out GE588.out) hb); clear HO_7; clear HO_8; clear BK588; clear HB; have HO_7 := n0_; have HO_8 := n1_; have BK588 := n2_; have HB := n3_; clear n0_ n1_ n2_ n3_; (try clear hb); (try clear hb2); (try clear hk); (try clear hi); have hz48 := lc13 BK588.out; have p602 : 0 ≤ (x12_1 : Int) := yd; have q602 : x12_1 < (l1_1.length : Int) := yd; obtain ⟨ad602, e602, hx602_0, hx602_1, hx602_2, hx602_3, hx602_4, hx602_5, hx602_6, hx602_7, hx602_8, hx602_9, hx602_10, hx602_11, hx602_12⟩ := qY8 HR1_1.out x12_1 p602 q602; obtain rfl : ad600 = ad602 := (by injection e602); replace hx602_0 := hxb HB.out hx602_0; replace hx602_1 := hxb HB.out hx602_1; replace hx602_2 := hxb HB.out hx602_2; replace hx602_3 := hxb HB.out hx602_3; replace hx602_4 := hxb HB.out hx602_4; replace hx602_5 := hxb HB.out hx602_5; replace hx602_6 := hxb HB.out hx602_6; replace hx602_7 := hxb HB.out hx602_7; replace hx602_8 := hxb HB.out hx602_8; replace hx602_9 := hxb HB.out hx602_9; replace hx602_10 := hxb HB.out hx602_10; replace hx602_11 := hxb HB.out hx602_11; replace hx602_12 := hxb HB.out hx602_12; replace p602 := eq_true p602; replace q602 := eq_true q602) | (go_at_call 14; (first | (with_reducible refine (qZk.calls ((qQa l1_1 x12_1).f0) ((qQa l1_1 x12_1).f1) ((qQa l1_1 x12_1).f2) ((qQa l1_1 x12_1).f3) ((qQa l1_1 x12_1).f4) ((qQa l1_1 x12_1).f5) ((qQa l1_1 x12_1).f6) ((qQa l1_1 x12_1).f7) ((qQa l1_1 x12_1).f8) ((qQa l1_1 x12_1).f9) ((qQa l1_1 x12_1).f10) ((qQa l1_1 x12_1).f11) ((qQa l1_1 x12_1).f12) t603 t604 _ A31.out).mono ?_) | (simp only [i64_w, i32_w]; with_reducible refine (qZk.calls ((qQa l1_1 x12_1).f0) ((qQa l1_1 x12_1).f1) ((qQa l1_1 x12_1).f2) ((qQa l1_1 x12_1).f3) ((qQa l1_1 x12_1).f4) ((qQa l1_1 x12_1).f5) ((qQa l1_1 x12_1).f6) ((qQa l1_1 x12_1).f7) ((qQa l1_1 x12_1).f8) ((qQa l1_1 x12_1).f9) ((qQa l1_1 x12_1).f10) ((qQa l1_1 x12_1).f11) ((qQa l1_1 x12_1).f12) t603 t604 _ A31.out).mono ?_)); rintro e w49 ⟨rfl, hb⟩; have n0_ := am (Kd.qQt (by exact rq HO_7.out) hb); have n1_ := am (Kd.qQt (by exact rq HO_8.out) hb); have n2_ := am (qQg (g := gb588) (Up.up BK588.out) hb); have n3_ := am (qQb (by exact h1q HB.out GE588.out) hb); clear HO_7; clear HO_8; clear BK588; clear HB; have HO_7 := n0_; have HO_8 := n1_; have BK588 := n2_; have HB := n3_; clear n0_ n1_ n2_ n3_; (try clear hb); (try clear hb2); (try clear hk); (try clear hi); have p605 : 0 ≤ (x10_1 : Int) := yd; have q605 : x10_1 < (t592.length : Int) := yd; obtain ⟨ad605, e605, hx605_0⟩ := Kd.qZx (Kd.qZe HO_7.out).2.2 x10_1 p605 q605; cases e605; replace p605 := eq_true p605; replace q605 := eq_true q605; have hz50 := lc13 BK588.out; have p606 : 0 ≤ (x12_1 : Int) := yd; have q606 : x12_1 < (l1_1.length : Int) := yd; obtain ⟨ad606, e606, hx606_0, hx606_1, hx606_2, hx606_3, hx606_4, hx606_5, hx606_6, hx606_7, hx606_8, hx606_9, hx606_10, hx606_11, hx606_12⟩ := qY8 HR1_1.out x12_1 p606 q606; obtain rfl : ad600 = ad606 := (by injection e606); replace hx606_0 := hxb HB.out hx606_0; replace hx606_1 := hxb HB.out hx606_1; replace hx606_2 := hxb HB.out hx606_2; replace hx606_3 := hxb HB.out hx606_3; replace hx606_4 := hxb HB.out hx606_4; replace hx606_5 := hxb HB.out hx606_5; replace hx606_6 := hxb HB.out hx606_6; replace hx606_7 := hxb HB.out hx606_7; replace hx606_8 := hxb HB.out hx606_8; replace hx606_9 := hxb HB.out hx606_9; replace hx606_10 := hxb HB.out hx606_10; replace hx606_11 := hxb HB.out hx606_11; replace hx606_12 := hxb HB.out hx606_12; replace p606 := eq_true p606; replace q606 := eq_true q606; have p610 : 0 ≤ (x10_1 : Int) := yd; have q610 : x10_1 < (t595.length : Int) := yd; obtain ⟨ad610, e610, hx610_0⟩ := Kd.qZx (Kd.qZe HO_8.out).2.2 x10_1 p610 q610; cases e610; replace p610 := eq_true p610; replace q610 := eq_true q610)))
               go_roundg k1
               case measure => have := HK1.out; omega
               case rel => exact ⟨(wrap64 (x10_1 + 1)), (wrap64 (x11_1 + (rd t595 x10_1))), (wrap64 (x12_1 + 1)), (by first | rfl | (simp [i64_w, i32_w, qQq, qQr]; done) | (simp; done) | (simp [*]; done)), (by first | rfl | (simp [i64_w, i32_w, qQq, qQr]; done) | (simp; done) | (simp [*]; done)), (by first | rfl | (simp [i64_w, i32_w, qQq, qQr]; done) | (simp; done) | (simp [*]; done)), H', ⟨by have := HK1.out; omega⟩, ⟨by exact rq HO_7.out⟩, ⟨by exact rq HO_8.out⟩, ⟨by exact bb BK588.out⟩, ⟨by exact h1q HB.out GE588.out⟩⟩
              ·rw [if_neg c45] at H
               exact absurd H (by simp)
            ·rw [if_neg c35] at H
             exact absurd H (by simp)
           ·rw [if_neg c34] at H
            exact absurd H (by simp)
          ·rw [if_neg c33] at H
           exact absurd H (by simp)
        ·replace c30 := Bool.eq_false_iff.mpr c30
         subst c30
         have H1 : (qQy.l0 k1 l0 a2 t592 t595 x10_1 x11_1 (wrap64 (x12_1 + 1)) a1_0 l1_1 a1_2 a1_3 a1_4 a1_5 l1_6 a1_7 a1_8 a1_9 a1_10 a1_11 a1_12) = some r := by rw [if_neg (show ¬ (false = true) by decide)] at H; exact H
         clear H
         have H := H1
         clear H1
         have H' := am H
         clear H
         have hz51 := lc13 BK588.out
         have p600 : 0 ≤ (x12_1 : Int) := yd
         have q600 : x12_1 < (l1_1.length : Int) := yd
         obtain ⟨ad600, e600, hx600_0, hx600_1, hx600_2, hx600_3, hx600_4, hx600_5, hx600_6, hx600_7, hx600_8, hx600_9, hx600_10, hx600_11, hx600_12⟩ := qY8 HR1_1.out x12_1 p600 q600
         cases e600
         replace hx600_0 := hxb HB.out hx600_0
         replace hx600_1 := hxb HB.out hx600_1
         replace hx600_2 := hxb HB.out hx600_2
         replace hx600_3 := hxb HB.out hx600_3
         replace hx600_4 := hxb HB.out hx600_4
         replace hx600_5 := hxb HB.out hx600_5
         replace hx600_6 := hxb HB.out hx600_6
         replace hx600_7 := hxb HB.out hx600_7
         replace hx600_8 := hxb HB.out hx600_8
         replace hx600_9 := hxb HB.out hx600_9
         replace hx600_10 := hxb HB.out hx600_10
         replace hx600_11 := hxb HB.out hx600_11
         replace hx600_12 := hxb HB.out hx600_12
         replace p600 := eq_true p600
         replace q600 := eq_true q600
         go_wp2_with (first | (go_at_call 13; (with_reducible refine (qZf.calls ((qQa l1_1 x12_1).f0) ((qQa l1_1 x12_1).f1) ((qQa l1_1 x12_1).f2) ((qQa l1_1 x12_1).f3) ((qQa l1_1 x12_1).f4) ((qQa l1_1 x12_1).f5) ((qQa l1_1 x12_1).f6) ((qQa l1_1 x12_1).f7) ((qQa l1_1 x12_1).f8) ((qQa l1_1 x12_1).f9) ((qQa l1_1 x12_1).f10) ((qQa l1_1 x12_1).f11) ((qQa l1_1 x12_1).f12) false _ A29.out).mono ?_); rintro e w52 ⟨rfl, hb⟩; have n0_ := am (Kd.qQt (by exact rq HO_7.out) hb); have n1_ := am (Kd.qQt (by exact rq HO_8.out) hb); have n2_ := am (qQg (g := gb588) (Up.up BK588.out) hb); have n3_ := am (qQb (by exact h1q HB.out GE588.out) hb); clear HO_7; clear HO_8; clear BK588; clear HB; have HO_7 := n0_; have HO_8 := n1_; have BK588 := n2_; have HB := n3_; clear n0_ n1_ n2_ n3_; (try clear hb); (try clear hb2); (try clear hk); (try clear hi)))
         repeat (go_quiet (first | (go_at_call 13; (first | (with_reducible refine (qZf.calls ((qQa l1_1 x12_1).f0) ((qQa l1_1 x12_1).f1) ((qQa l1_1 x12_1).f2) ((qQa l1_1 x12_1).f3) ((qQa l1_1 x12_1).f4) ((qQa l1_1 x12_1).f5) ((qQa l1_1 x12_1).f6) ((qQa l1_1 x12_1).f7) ((qQa l1_1 x12_1).f8) ((qQa l1_1 x12_1).f9) ((qQa l1_1 x12_1).f10) ((qQa l1_1 x12_1).f11) ((qQa l1_1 x12_1).f12) false _ A29.out).mono ?_) | (simp only [i64_w, i32_w]; with_reducible refine (qZf.calls ((qQa l1_1 x12_1).f0) ((qQa l1_1 x12_1).f1) ((qQa l1_1 x12_1).f2) ((qQa l1_1 x12_1).f3) ((qQa l1_1 x12_1).f4) ((qQa l1_1 x12_1).f5) ((qQa l1_1 x12_1).f6) ((qQa l1_1 x12_1).f7) ((qQa l1_1 x12_1).f8) ((qQa l1_1 x12_1).f9) ((qQa l1_1 x12_1).f10) ((qQa l1_1 x12_1).f11) ((qQa l1_1 x12_1).f12) false _ A29.out).mono ?_)); rintro e w52 ⟨rfl, hb⟩; have n0_ := am (Kd.qQt (by exact rq HO_7.out) hb); have n1_ := am (Kd.qQt (by exact rq HO_8.out) hb); have n2_ := am (qQg (g := gb588) (Up.up BK588.out) hb); have n3_ := am (qQb (by exact h1q HB.out GE588.out) hb); clear HO_7; clear HO_8; clear BK588; clear HB; have HO_7 := n0_; have HO_8 := n1_; have BK588 := n2_; have HB := n3_; clear n0_ n1_ n2_ n3_; (try clear hb); (try clear hb2); (try clear hk); (try clear hi))); try go_wp2_with (first | (go_at_call 13; (first | (with_reducible refine (qZf.calls ((qQa l1_1 x12_1).f0) ((qQa l1_1 x12_1).f1) ((qQa l1_1 x12_1).f2) ((qQa l1_1 x12_1).f3) ((qQa l1_1 x12_1).f4) ((qQa l1_1 x12_1).f5) ((qQa l1_1 x12_1).f6) ((qQa l1_1 x12_1).f7) ((qQa l1_1 x12_1).f8) ((qQa l1_1 x12_1).f9) ((qQa l1_1 x12_1).f10) ((qQa l1_1 x12_1).f11) ((qQa l1_1 x12_1).f12) false _ A29.out).mono ?_) | (simp only [i64_w, i32_w]; with_reducible refine (qZf.calls ((qQa l1_1 x12_1).f0) ((qQa l1_1 x12_1).f1) ((qQa l1_1 x12_1).f2) ((qQa l1_1 x12_1).f3) ((qQa l1_1 x12_1).f4) ((qQa l1_1 x12_1).f5) ((qQa l1_1 x12_1).f6) ((qQa l1_1 x12_1).f7) ((qQa l1_1 x12_1).f8) ((qQa l1_1 x12_1).f9) ((qQa l1_1 x12_1).f10) ((qQa l1_1 x12_1).f11) ((qQa l1_1 x12_1).f12) false _ A29.out).mono ?_)); rintro e w52 ⟨rfl, hb⟩; have n0_ := am (Kd.qQt (by exact rq HO_7.out) hb); have n1_ := am (Kd.qQt (by exact rq HO_8.out) hb); have n2_ := am (qQg (g := gb588) (Up.up BK588.out) hb); have n3_ := am (qQb (by exact h1q HB.out GE588.out) hb); clear HO_7; clear HO_8; clear BK588; clear HB; have HO_7 := n0_; have HO_8 := n1_; have BK588 := n2_; have HB := n3_; clear n0_ n1_ n2_ n3_; (try clear hb); (try clear hb2); (try clear hk); (try clear hi))))
         go_roundg k1
         case measure => have := HK1.out; omega
         case rel => exact ⟨(x10_1), (x11_1), (wrap64 (x12_1 + 1)), (by first | rfl | (simp [i64_w, i32_w, qQq, qQr]; done) | (simp; done) | (simp [*]; done)), (by first | rfl | (simp [i64_w, i32_w, qQq, qQr]; done) | (simp; done) | (simp [*]; done)), (by first | rfl | (simp [i64_w, i32_w, qQq, qQr]; done) | (simp; done) | (simp [*]; done)), H', ⟨by have := HK1.out; omega⟩, ⟨by exact rq HO_7.out⟩, ⟨by exact rq HO_8.out⟩, ⟨by exact bb BK588.out⟩, ⟨by exact h1q HB.out GE588.out⟩⟩
       ·rw [if_neg c28] at H
        exact absurd H (by simp)
      ·rw [if_neg c27] at H
       have c27b0 : decide (x12_1 < (l1_1.length : Int)) = false := decide_eq_false c27
       clear c27
       by_cases c53 : x10_1 = (t592.length : Int)
       ·rw [if_pos c53] at H
        have c53b0 : (x10_1 == (t592.length : Int)) = true := beq_iff_eq.mpr c53
        have c53b1 : (x10_1 != (t592.length : Int)) = false := bne_eq_false_iff_eq.mpr c53
        clear c53
        by_cases c54 : x10_1 = 0
        ·rw [if_pos c54] at H
         have c54b0 : (x10_1 == 0) = true := beq_iff_eq.mpr c54
         have c54b1 : (x10_1 != 0) = false := bne_eq_false_iff_eq.mpr c54
         clear c54
         replace H := Option.bind_eq_some_iff.mp H
         obtain ⟨t611, A550, H⟩ := H
         replace H : (some t611) = some r := H
         have A55 := am A550
         clear A550
         obtain rfl := Option.some.inj H
         have hz56 := lc13 BK588.out
         go_wp2_with (first | (go_at_call 6; (with_reducible refine (qQp.calls k1  t611 _ A55.out).mono ?_); rintro e w57 ⟨rfl, hb⟩; have n0_ := am (Kd.qQt (by exact rq HO_7.out) hb); have n1_ := am (Kd.qQt (by exact rq HO_8.out) hb); have n2_ := am (qQg (g := gb588) (Up.up BK588.out) hb); have n3_ := am (qQb (by exact h1q HB.out GE588.out) hb); clear HO_7; clear HO_8; clear BK588; clear HB; have HO_7 := n0_; have HO_8 := n1_; have BK588 := n2_; have HB := n3_; clear n0_ n1_ n2_ n3_; (try clear hb); (try clear hb2); (try clear hk); (try clear hi)))
         repeat (go_quiet (first | (go_at_call 6; (first | (with_reducible refine (qQp.calls k1  t611 _ A55.out).mono ?_) | (simp only [i64_w, i32_w]; with_reducible refine (qQp.calls k1  t611 _ A55.out).mono ?_)); rintro e w57 ⟨rfl, hb⟩; have n0_ := am (Kd.qQt (by exact rq HO_7.out) hb); have n1_ := am (Kd.qQt (by exact rq HO_8.out) hb); have n2_ := am (qQg (g := gb588) (Up.up BK588.out) hb); have n3_ := am (qQb (by exact h1q HB.out GE588.out) hb); clear HO_7; clear HO_8; clear BK588; clear HB; have HO_7 := n0_; have HO_8 := n1_; have BK588 := n2_; have HB := n3_; clear n0_ n1_ n2_ n3_; (try clear hb); (try clear hb2); (try clear hk); (try clear hi))); try go_wp2_with (first | (go_at_call 6; (first | (with_reducible refine (qQp.calls k1  t611 _ A55.out).mono ?_) | (simp only [i64_w, i32_w]; with_reducible refine (qQp.calls k1  t611 _ A55.out).mono ?_)); rintro e w57 ⟨rfl, hb⟩; have n0_ := am (Kd.qQt (by exact rq HO_7.out) hb); have n1_ := am (Kd.qQt (by exact rq HO_8.out) hb); have n2_ := am (qQg (g := gb588) (Up.up BK588.out) hb); have n3_ := am (qQb (by exact h1q HB.out GE588.out) hb); clear HO_7; clear HO_8; clear BK588; clear HB; have HO_7 := n0_; have HO_8 := n1_; have BK588 := n2_; have HB := n3_; clear n0_ n1_ n2_ n3_; (try clear hb); (try clear hb2); (try clear hk); (try clear hi))))
         go_ret
         exact ⟨by first | rfl | (simp [i64_w, i32_w, qQq, qQr]; done) | (simp [qQq, qQr] <;> rfl) | (simp [*, qQq, qQr] <;> rfl), by exact h1q HB.out GE588.out⟩
        ·rw [if_neg c54] at H
         have c54b0 : (x10_1 == 0) = false := beq_eq_false_iff_ne.mpr c54
         have c54b1 : (x10_1 != 0) = true := bne_iff_ne.mpr c54
         replace H := Option.bind_eq_some_iff.mp H
         obtain ⟨t612, A580, H⟩ := H
         replace H : (if t612 = 4 then ((qZ7.f k1 l0 a1_5 a1_4).bind fun bt614 => (if bt614.2 = 0 then (if x11_1 ≤ bt614.1 then ((qQp.f k1).bind fun t616 => (some t616)) else (none)) else (none))) else ((qQp.f k1).bind fun t613 => (some t613))) = some r := H
         have A58 := am A580
         clear A580
         by_cases c59 : t612 = 4
         ·rw [if_pos c59] at H
          have c59b0 : (t612 == 4) = true := beq_iff_eq.mpr c59
          have c59b1 : (t612 != 4) = false := bne_eq_false_iff_eq.mpr c59
          clear c59
          replace H := Option.bind_eq_some_iff.mp H
          obtain ⟨⟨t614, t615⟩, A600, H⟩ := H
          replace H : (if t615 = 0 then (if x11_1 ≤ t614 then ((qQp.f k1).bind fun t616 => (some t616)) else (none)) else (none)) = some r := H
          have A60 := am A600
          clear A600
          by_cases c61 : t615 = 0
          ·rw [if_pos c61] at H
           have c61b0 : (t615 == 0) = true := beq_iff_eq.mpr c61
           have c61b1 : (t615 != 0) = false := bne_eq_false_iff_eq.mpr c61
           clear c61
           by_cases c62 : x11_1 ≤ t614
           ·rw [if_pos c62] at H
            have c62b0 : decide (x11_1 ≤ t614) = true := decide_eq_true c62
            clear c62
            replace H := Option.bind_eq_some_iff.mp H
            obtain ⟨t616, A630, H⟩ := H
            replace H : (some t616) = some r := H
            have A63 := am A630
            clear A630
            obtain rfl := Option.some.inj H
            have hz64 := lc13 BK588.out
            go_wp2_with (first | (go_at_call 15; (with_reducible refine (qZp.calls k1 a1_0 _ _ l1_1 a1_2 a1_3 a1_4 a1_5 _ _ l1_6 a1_7 a1_8 a1_9 a1_10 a1_11 a1_12 a2 t612 _ ?side1 ?side2 ?side3 ?side4 A58.out).mono ?_); (case side1 => exact cq ((Kd.qZq HR1_1.out HB.out))); (case side2 => exact HC1_1.out); (case side3 => exact cq ((Kd.qZq HR1_6.out HB.out))); (case side4 => exact HC1_6.out); rintro e w65 ⟨rfl, hb⟩; have n0_ := am (Kd.qQt (by exact rq HO_7.out) hb); have n1_ := am (Kd.qQt (by exact rq HO_8.out) hb); have n2_ := am (qQg (g := gb588) (Up.up BK588.out) hb); have n3_ := am (qQb (by exact h1q HB.out GE588.out) hb); clear HO_7; clear HO_8; clear BK588; clear HB; have HO_7 := n0_; have HO_8 := n1_; have BK588 := n2_; have HB := n3_; clear n0_ n1_ n2_ n3_; (try clear hb); (try clear hb2); (try clear hk); (try clear hi); have hz66 := lc13 BK588.out) | (go_at_call 16; (with_reducible refine (qZ7.calls k1 _ _ l0 a1_5 a1_4 t614 t615 _ ?side1 ?side2 A60.out).mono ?_); (case side1 => exact cq ((Kd.qZq HR0.out HB.out))); (case side2 => exact HC0.out); rintro e w67 ⟨rfl, hb⟩; have n0_ := am (Kd.qQt (by exact rq HO_7.out) hb); have n1_ := am (Kd.qQt (by exact rq HO_8.out) hb); have n2_ := am (qQg (g := gb588) (Up.up BK588.out) hb); have n3_ := am (qQb (by exact h1q HB.out GE588.out) hb); clear HO_7; clear HO_8; clear BK588; clear HB; have HO_7 := n0_; have HO_8 := n1_; have BK588 := n2_; have HB := n3_; clear n0_ n1_ n2_ n3_; (try clear hb); (try clear hb2); (try clear hk); (try clear hi)) | (go_at_call 6; (with_reducible refine (qQp.calls k1  t616 _ A63.out).mono ?_); rintro e w68 ⟨rfl, hb⟩; have n0_ := am (Kd.qQt (by exact rq HO_7.out) hb); have n1_ := am (Kd.qQt (by exact rq HO_8.out) hb); have n2_ := am (qQg (g := gb588) (Up.up BK588.out) hb); have n3_ := am (qQb (by exact h1q HB.out GE588.out) hb); clear HO_7; clear HO_8; clear BK588; clear HB; have HO_7 := n0_; have HO_8 := n1_; have BK588 := n2_; have HB := n3_; clear n0_ n1_ n2_ n3_; (try clear hb); (try clear hb2); (try clear hk); (try clear hi)))
            repeat (go_quiet (first | (go_at_call 15; (first | (with_reducible refine (qZp.calls k1 a1_0 _ _ l1_1 a1_2 a1_3 a1_4 a1_5 _ _ l1_6 a1_7 a1_8 a1_9 a1_10 a1_11 a1_12 a2 t612 _ ?side1 ?side2 ?side3 ?side4 A58.out).mono ?_) | (simp only [i64_w, i32_w]; with_reducible refine (qZp.calls k1 a1_0 _ _ l1_1 a1_2 a1_3 a1_4 a1_5 _ _ l1_6 a1_7 a1_8 a1_9 a1_10 a1_11 a1_12 a2 t612 _ ?side1 ?side2 ?side3 ?side4 A58.out).mono ?_)); (case side1 => exact cq ((Kd.qZq HR1_1.out HB.out))); (case side2 => exact HC1_1.out); (case side3 => exact cq ((Kd.qZq HR1_6.out HB.out))); (case side4 => exact HC1_6.out); rintro e w65 ⟨rfl, hb⟩; have n0_ := am (Kd.qQt (by exact rq HO_7.out) hb); have n1_ := am (Kd.qQt (by exact rq HO_8.out) hb); have n2_ := am (qQg (g := gb588) (Up.up BK588.out) hb); have n3_ := am (qQb (by exact h1q HB.out GE588.out) hb); clear HO_7; clear HO_8; clear BK588; clear HB; have HO_7 := n0_; have HO_8 := n1_; have BK588 := n2_; have HB := n3_; clear n0_ n1_ n2_ n3_; (try clear hb); (try clear hb2); (try clear hk); (try clear hi); have hz66 := lc13 BK588.out) | (go_at_call 16; (first | (with_reducible refine (qZ7.calls k1 _ _ l0 a1_5 a1_4 t614 t615 _ ?side1 ?side2 A60.out).mono ?_) | (simp only [i64_w, i32_w]; with_reducible refine (qZ7.calls k1 _ _ l0 a1_5 a1_4 t614 t615 _ ?side1 ?side2 A60.out).mono ?_)); (case side1 => exact cq ((Kd.qZq HR0.out HB.out))); (case side2 => exact HC0.out); rintro e w67 ⟨rfl, hb⟩; have n0_ := am (Kd.qQt (by exact rq HO_7.out) hb); have n1_ := am (Kd.qQt (by exact rq HO_8.out) hb); have n2_ := am (qQg (g := gb588) (Up.up BK588.out) hb); have n3_ := am (qQb (by exact h1q HB.out GE588.out) hb); clear HO_7; clear HO_8; clear BK588; clear HB; have HO_7 := n0_; have HO_8 := n1_; have BK588 := n2_; have HB := n3_; clear n0_ n1_ n2_ n3_; (try clear hb); (try clear hb2); (try clear hk); (try clear hi)) | (go_at_call 6; (first | (with_reducible refine (qQp.calls k1  t616 _ A63.out).mono ?_) | (simp only [i64_w, i32_w]; with_reducible refine (qQp.calls k1  t616 _ A63.out).mono ?_)); rintro e w68 ⟨rfl, hb⟩; have n0_ := am (Kd.qQt (by exact rq HO_7.out) hb); have n1_ := am (Kd.qQt (by exact rq HO_8.out) hb); have n2_ := am (qQg (g := gb588) (Up.up BK588.out) hb); have n3_ := am (qQb (by exact h1q HB.out GE588.out) hb); clear HO_7; clear HO_8; clear BK588; clear HB; have HO_7 := n0_; have HO_8 := n1_; have BK588 := n2_; have HB := n3_; clear n0_ n1_ n2_ n3_; (try clear hb); (try clear hb2); (try clear hk); (try clear hi))); try go_wp2_with (first | (go_at_call 15; (first | (with_reducible refine (qZp.calls k1 a1_0 _ _ l1_1 a1_2 a1_3 a1_4 a1_5 _ _ l1_6 a1_7 a1_8 a1_9 a1_10 a1_11 a1_12 a2 t612 _ ?side1 ?side2 ?side3 ?side4 A58.out).mono ?_) | (simp only [i64_w, i32_w]; with_reducible refine (qZp.calls k1 a1_0 _ _ l1_1 a1_2 a1_3 a1_4 a1_5 _ _ l1_6 a1_7 a1_8 a1_9 a1_10 a1_11 a1_12 a2 t612 _ ?side1 ?side2 ?side3 ?side4 A58.out).mono ?_)); (case side1 => exact cq ((Kd.qZq HR1_1.out HB.out))); (case side2 => exact HC1_1.out); (case side3 => exact cq ((Kd.qZq HR1_6.out HB.out))); (case side4 => exact HC1_6.out); rintro e w65 ⟨rfl, hb⟩; have n0_ := am (Kd.qQt (by exact rq HO_7.out) hb); have n1_ := am (Kd.qQt (by exact rq HO_8.out) hb); have n2_ := am (qQg (g := gb588) (Up.up BK588.out) hb); have n3_ := am (qQb (by exact h1q HB.out GE588.out) hb); clear HO_7; clear HO_8; clear BK588; clear HB; have HO_7 := n0_; have HO_8 := n1_; have BK588 := n2_; have HB := n3_; clear n0_ n1_ n2_ n3_; (try clear hb); (try clear hb2); (try clear hk); (try clear hi); have hz66 := lc13 BK588.out) | (go_at_call 16; (first | (with_reducible refine (qZ7.calls k1 _ _ l0 a1_5 a1_4 t614 t615 _ ?side1 ?side2 A60.out).mono ?_) | (simp only [i64_w, i32_w]; with_reducible refine (qZ7.calls k1 _ _ l0 a1_5 a1_4 t614 t615 _ ?side1 ?side2 A60.out).mono ?_)); (case side1 => exact cq ((Kd.qZq HR0.out HB.out))); (case side2 => exact HC0.out); rintro e w67 ⟨rfl, hb⟩; have n0_ := am (Kd.qQt (by exact rq HO_7.out) hb); have n1_ := am (Kd.qQt (by exact rq HO_8.out) hb); have n2_ := am (qQg (g := gb588) (Up.up BK588.out) hb); have n3_ := am (qQb (by exact h1q HB.out GE588.out) hb); clear HO_7; clear HO_8; clear BK588; clear HB; have HO_7 := n0_; have HO_8 := n1_; have BK588 := n2_; have HB := n3_; clear n0_ n1_ n2_ n3_; (try clear hb); (try clear hb2); (try clear hk); (try clear hi)) | (go_at_call 6; (first | (with_reducible refine (qQp.calls k1  t616 _ A63.out).mono ?_) | (simp only [i64_w, i32_w]; with_reducible refine (qQp.calls k1  t616 _ A63.out).mono ?_)); rintro e w68 ⟨rfl, hb⟩; have n0_ := am (Kd.qQt (by exact rq HO_7.out) hb); have n1_ := am (Kd.qQt (by exact rq HO_8.out) hb); have n2_ := am (qQg (g := gb588) (Up.up BK588.out) hb); have n3_ := am (qQb (by exact h1q HB.out GE588.out) hb); clear HO_7; clear HO_8; clear BK588; clear HB; have HO_7 := n0_; have HO_8 := n1_; have BK588 := n2_; have HB := n3_; clear n0_ n1_ n2_ n3_; (try clear hb); (try clear hb2); (try clear hk); (try clear hi))))
            go_ret
            exact ⟨by first | rfl | (simp [i64_w, i32_w, qQq, qQr]; done) | (simp [qQq, qQr] <;> rfl) | (simp [*, qQq, qQr] <;> rfl), by exact h1q HB.out GE588.out⟩
           ·rw [if_neg c62] at H
            exact absurd H (by simp)
          ·rw [if_neg c61] at H
           exact absurd H (by simp)
         ·rw [if_neg c59] at H
          have c59b0 : (t612 == 4) = false := beq_eq_false_iff_ne.mpr c59
          have c59b1 : (t612 != 4) = true := bne_iff_ne.mpr c59
          replace H := Option.bind_eq_some_iff.mp H
          obtain ⟨t613, A690, H⟩ := H
          replace H : (some t613) = some r := H
          have A69 := am A690
          clear A690
          obtain rfl := Option.some.inj H
          have hz70 := lc13 BK588.out
          go_wp2_with (first | (go_at_call 15; (with_reducible refine (qZp.calls k1 a1_0 _ _ l1_1 a1_2 a1_3 a1_4 a1_5 _ _ l1_6 a1_7 a1_8 a1_9 a1_10 a1_11 a1_12 a2 t612 _ ?side1 ?side2 ?side3 ?side4 A58.out).mono ?_); (case side1 => exact cq ((Kd.qZq HR1_1.out HB.out))); (case side2 => exact HC1_1.out); (case side3 => exact cq ((Kd.qZq HR1_6.out HB.out))); (case side4 => exact HC1_6.out); rintro e w71 ⟨rfl, hb⟩; have n0_ := am (Kd.qQt (by exact rq HO_7.out) hb); have n1_ := am (Kd.qQt (by exact rq HO_8.out) hb); have n2_ := am (qQg (g := gb588) (Up.up BK588.out) hb); have n3_ := am (qQb (by exact h1q HB.out GE588.out) hb); clear HO_7; clear HO_8; clear BK588; clear HB; have HO_7 := n0_; have HO_8 := n1_; have BK588 := n2_; have HB := n3_; clear n0_ n1_ n2_ n3_; (try clear hb); (try clear hb2); (try clear hk); (try clear hi)) | (go_at_call 6; (with_reducible refine (qQp.calls k1  t613 _ A69.out).mono ?_); rintro e w72 ⟨rfl, hb⟩; have n0_ := am (Kd.qQt (by exact rq HO_7.out) hb); have n1_ := am (Kd.qQt (by exact rq HO_8.out) hb); have n2_ := am (qQg (g := gb588) (Up.up BK588.out) hb); have n3_ := am (qQb (by exact h1q HB.out GE588.out) hb); clear HO_7; clear HO_8; clear BK588; clear HB; have HO_7 := n0_; have HO_8 := n1_; have BK588 := n2_; have HB := n3_; clear n0_ n1_ n2_ n3_; (try clear hb); (try clear hb2); (try clear hk); (try clear hi)))
          repeat (go_quiet (first | (go_at_call 15; (first | (with_reducible refine (qZp.calls k1 a1_0 _ _ l1_1 a1_2 a1_3 a1_4 a1_5 _ _ l1_6 a1_7 a1_8 a1_9 a1_10 a1_11 a1_12 a2 t612 _ ?side1 ?side2 ?side3 ?side4 A58.out).mono ?_) | (simp only [i64_w, i32_w]; with_reducible refine (qZp.calls k1 a1_0 _ _ l1_1 a1_2 a1_3 a1_4 a1_5 _ _ l1_6 a1_7 a1_8 a1_9 a1_10 a1_11 a1_12 a2 t612 _ ?side1 ?side2 ?side3 ?side4 A58.out).mono ?_)); (case side1 => exact cq ((Kd.qZq HR1_1.out HB.out))); (case side2 => exact HC1_1.out); (case side3 => exact cq ((Kd.qZq HR1_6.out HB.out))); (case side4 => exact HC1_6.out); rintro e w71 ⟨rfl, hb⟩; have n0_ := am (Kd.qQt (by exact rq HO_7.out) hb); have n1_ := am (Kd.qQt (by exact rq HO_8.out) hb); have n2_ := am (qQg (g := gb588) (Up.up BK588.out) hb); have n3_ := am (qQb (by exact h1q HB.out GE588.out) hb); clear HO_7; clear HO_8; clear BK588; clear HB; have HO_7 := n0_; have HO_8 := n1_; have BK588 := n2_; have HB := n3_; clear n0_ n1_ n2_ n3_; (try clear hb); (try clear hb2); (try clear hk); (try clear hi)) | (go_at_call 6; (first | (with_reducible refine (qQp.calls k1  t613 _ A69.out).mono ?_) | (simp only [i64_w, i32_w]; with_reducible refine (qQp.calls k1  t613 _ A69.out).mono ?_)); rintro e w72 ⟨rfl, hb⟩; have n0_ := am (Kd.qQt (by exact rq HO_7.out) hb); have n1_ := am (Kd.qQt (by exact rq HO_8.out) hb); have n2_ := am (qQg (g := gb588) (Up.up BK588.out) hb); have n3_ := am (qQb (by exact h1q HB.out GE588.out) hb); clear HO_7; clear HO_8; clear BK588; clear HB; have HO_7 := n0_; have HO_8 := n1_; have BK588 := n2_; have HB := n3_; clear n0_ n1_ n2_ n3_; (try clear hb); (try clear hb2); (try clear hk); (try clear hi))); try go_wp2_with (first | (go_at_call 15; (first | (with_reducible refine (qZp.calls k1 a1_0 _ _ l1_1 a1_2 a1_3 a1_4 a1_5 _ _ l1_6 a1_7 a1_8 a1_9 a1_10 a1_11 a1_12 a2 t612 _ ?side1 ?side2 ?side3 ?side4 A58.out).mono ?_) | (simp only [i64_w, i32_w]; with_reducible refine (qZp.calls k1 a1_0 _ _ l1_1 a1_2 a1_3 a1_4 a1_5 _ _ l1_6 a1_7 a1_8 a1_9 a1_10 a1_11 a1_12 a2 t612 _ ?side1 ?side2 ?side3 ?side4 A58.out).mono ?_)); (case side1 => exact cq ((Kd.qZq HR1_1.out HB.out))); (case side2 => exact HC1_1.out); (case side3 => exact cq ((Kd.qZq HR1_6.out HB.out))); (case side4 => exact HC1_6.out); rintro e w71 ⟨rfl, hb⟩; have n0_ := am (Kd.qQt (by exact rq HO_7.out) hb); have n1_ := am (Kd.qQt (by exact rq HO_8.out) hb); have n2_ := am (qQg (g := gb588) (Up.up BK588.out) hb); have n3_ := am (qQb (by exact h1q HB.out GE588.out) hb); clear HO_7; clear HO_8; clear BK588; clear HB; have HO_7 := n0_; have HO_8 := n1_; have BK588 := n2_; have HB := n3_; clear n0_ n1_ n2_ n3_; (try clear hb); (try clear hb2); (try clear hk); (try clear hi)) | (go_at_call 6; (first | (with_reducible refine (qQp.calls k1  t613 _ A69.out).mono ?_) | (simp only [i64_w, i32_w]; with_reducible refine (qQp.calls k1  t613 _ A69.out).mono ?_)); rintro e w72 ⟨rfl, hb⟩; have n0_ := am (Kd.qQt (by exact rq HO_7.out) hb); have n1_ := am (Kd.qQt (by exact rq HO_8.out) hb); have n2_ := am (qQg (g := gb588) (Up.up BK588.out) hb); have n3_ := am (qQb (by exact h1q HB.out GE588.out) hb); clear HO_7; clear HO_8; clear BK588; clear HB; have HO_7 := n0_; have HO_8 := n1_; have BK588 := n2_; have HB := n3_; clear n0_ n1_ n2_ n3_; (try clear hb); (try clear hb2); (try clear hk); (try clear hi))))
          go_ret
          exact ⟨by first | rfl | (simp [i64_w, i32_w, qQq, qQr]; done) | (simp [qQq, qQr] <;> rfl) | (simp [*, qQq, qQr] <;> rfl), by exact h1q HB.out GE588.out⟩
       ·rw [if_neg c53] at H
        exact absurd H (by simp)
    ·rw [if_neg c19] at H
     exact absurd H (by simp)
   ·rw [if_neg c18] at H
    have c18b0 : (t598 == 0) = false := beq_eq_false_iff_ne.mpr c18
    have c18b1 : (t598 != 0) = true := bne_iff_ne.mpr c18
    by_cases c73 : (t592.length : Int) = 0
    ·rw [if_pos c73] at H
     have c73b0 : ((t592.length : Int) == 0) = true := beq_iff_eq.mpr c73
     have c73b1 : ((t592.length : Int) != 0) = false := bne_eq_false_iff_eq.mpr c73
     clear c73
     by_cases c74 : (t595.length : Int) = 0
     ·rw [if_pos c74] at H
      have c74b0 : ((t595.length : Int) == 0) = true := beq_iff_eq.mpr c74
      have c74b1 : ((t595.length : Int) != 0) = false := bne_eq_false_iff_eq.mpr c74
      clear c74
      replace H := Option.bind_eq_some_iff.mp H
      obtain ⟨t599, A750, H⟩ := H
      replace H : (some t599) = some r := H
      have A75 := am A750
      clear A750
      obtain rfl := Option.some.inj H
      go_enter Tryz.func4, Tryz.ntmps4
      go_wp2_with (first | ((with_reducible refine qQ0 (N := 4) rfl ?_); (try (refine qYz (by rfl) ?_; dsimp only)); refine qQs ?hg (N := 4) ?hd (cs := #[.int .i64 a1_0, .slice A1_1 l1_1.length c1_1, .int .i64 a1_2, .int .i64 a1_3, .int .i64 a1_4, .int .i64 a1_5, .slice A1_6 l1_6.length c1_6, .int .i64 a1_7, .int .i64 a1_8, .int .i64 a1_9, .int .i64 a1_10, .int .i64 a1_11, .int .i64 a1_12]) (t := 28) ?hr ?_; (case hd => rfl); (case hg => rfl); (case hr => first | (go_simp; done) | (go_simp; rfl)); intro gb588 hg w76 hbox hb; have n0_ := am (qQb (by exact h0q HB.out) hb); have n1_ := am (hbox); have n2_ := am ((by rw [hg]; exact (qQd (by exact h0q HB.out)) : w.heap.size ≤ gb588)); have n3_ := am ((by rw [hg]; exact (qQd (by exact h0q HB.out)) : w.heap.size ≤ gb588)); clear HB; have HB := n0_; have BK588 := n1_; have GW588 := n2_; have GE588 := n3_; clear n0_ n1_ n2_ n3_; clear hb hbox hg; have hz77 := lc13 BK588.out) | (go_at_call 5; (with_reducible refine (qQ5.calls k a1_0 _ _ l1_1 a1_2 a1_3 a1_4 a1_5 _ _ l1_6 a1_7 a1_8 a1_9 a1_10 a1_11 a1_12 false _ ?side1 ?side2 ?side3 ?side4 A4.out).mono ?_); (case side1 => exact cq ((Kd.qZq HR1_1.out HB.out))); (case side2 => exact HC1_1.out); (case side3 => exact cq ((Kd.qZq HR1_6.out HB.out))); (case side4 => exact HC1_6.out); rintro e w78 ⟨rfl, hb⟩; have n0_ := am (qQg (g := gb588) (Up.up BK588.out) hb); have n1_ := am (qQb (by exact h1q HB.out GE588.out) hb); clear BK588; clear HB; have BK588 := n0_; have HB := n1_; clear n0_ n1_; (try clear hb); (try clear hb2); (try clear hk); (try clear hi); have hz79 := lc13 BK588.out) | (go_at_call 8; (with_reducible refine (qQz.calls k 0 _ _ l0 a1_0 _ _ l1_1 a1_2 a1_3 a1_4 a1_5 _ _ l1_6 a1_7 a1_8 a1_9 a1_10 a1_11 a1_12 a2 t592 t595 t598 _ ?side1 ?side2 ?side3 ?side4 ?side5 ?side6 A17.out).mono ?_); (case side1 => exact cq ((Kd.qZq HR0.out HB.out))); (case side2 => exact HC0.out); (case side3 => exact cq ((Kd.qZq HR1_1.out HB.out))); (case side4 => exact HC1_1.out); (case side5 => exact cq ((Kd.qZq HR1_6.out HB.out))); (case side6 => exact HC1_6.out); rintro e w80 ⟨v593, v596, rfl, ho0, ho1, hb⟩; have n0_ := am (Kd.qYx ho0 (qQd (by exact h1q HB.out GE588.out))); have n1_ := am (Kd.qYx ho1 (qQd (by exact h1q HB.out GE588.out))); have n2_ := am (qQg (g := gb588) (Up.up BK588.out) hb); have n3_ := am (qQb (by exact h1q HB.out GE588.out) hb); clear BK588; clear HB; have HO594 := n0_; have HO597 := n1_; have BK588 := n2_; have HB := n3_; clear n0_ n1_ n2_ n3_; (try clear hb); (try clear hb2); (try clear hk); (try clear hi); (try clear ho0); (try clear ho1); obtain ⟨Ao81, co81, eo81⟩ := Kd.qYy HO594.out; subst eo81; obtain ⟨Ao82, co82, eo82⟩ := Kd.qYy HO597.out; subst eo82) | (go_at_call 6; (with_reducible refine (qQp.calls k  t599 _ A75.out).mono ?_); rintro e w83 ⟨rfl, hb⟩; have n0_ := am (Kd.qQt (by exact rq HO594.out) hb); have n1_ := am (Kd.qQt (by exact rq HO597.out) hb); have n2_ := am (qQg (g := gb588) (Up.up BK588.out) hb); have n3_ := am (qQb (by exact h1q HB.out GE588.out) hb); clear HO594; clear HO597; clear BK588; clear HB; have HO594 := n0_; have HO597 := n1_; have BK588 := n2_; have HB := n3_; clear n0_ n1_ n2_ n3_; (try clear hb); (try clear hb2); (try clear hk); (try clear hi)))
      try (go_quiet (fail); try go_wp2)
      go_ret
      exact ⟨by first | rfl | (simp [i64_w, i32_w, qQq, qQr]; done) | (simp [qQq, qQr] <;> rfl) | (simp [*, qQq, qQr] <;> rfl), by exact h1q HB.out GE588.out⟩
     ·rw [if_neg c74] at H
      exact absurd H (by simp)
    ·rw [if_neg c73] at H
     exact absurd H (by simp)
end Go.Proofs.YtlhcohipnieidaaGreat.P
namespace Go.Proofs.YtlhcohipnieidaaGreat.Reads
open Go.ChangeShapes Go.WideShapes Go.ChangeAt Go.RowKit
open Go.ChangeMaps (open_string shut_string)
open W.PrintWords
set_option linter.unusedVariables false
set_option linter.unusedSimpArgs false
set_option linter.constructorNameAsVariable false
def IsRow (k : IntKind) (w : World) (a : Option Addr) (len cap : Nat) (zs : List Int) : Prop :=
  (a = none ∧ len = 0 ∧ cap = 0 ∧ zs = []) ∨
  ∃ x, a = some x ∧ len ≤ cap ∧ cap ≤ maxLen ∧ zs.length = cap ∧ (∀ i, i < zs.length → w.cell? (x.add i) = some (.int k (zs.getD i 0))) ∧ ∀ n ∈ zs, (Lit.int k n).wf = true
theorem zXf {w : World} {base : Nat} {a : Addr} {n : Nat} {cs : List Value} (h : w.cells? base a n = some cs) : cs.length = n ∧ ∀ (i : Nat) (u : Value), cs[i]? = some u → w.cell? (a.add i) = some u := by
  unfold World.cells? at h
  split at h
  · have hl : cs.length = n := by simpa using mapM_some_length h
    refine ⟨hl, fun i u hu => ?_⟩
    have hi : i < n := by rw [← hl]; exact (List.getElem?_eq_some_iff.1 hu).1
    have := mapM_some_get h i i (by simp [hi])
    rw [this]; exact hu
  · cases h
theorem zYa {α H : Type} {enc : TypeId × Value → H} {P : Program} {W : World} {base : Nat} {spare : Nat → Bool} {held : Bool} {t e : TypeId}
    {d : Kd α} (hu : P.underlying t = some (.slice e)) (hc : P.cellsOf e = d.sz)
    (hel : ∀ (n : Nat) (cs : List Value) (y : DataW H × List MemPlace), DataW.trod enc P W base spare held n e cs = some y → ∃ x : α, d.K W x cs)
    {fuel : Nat} {cs : List Value} {y : DataW H × List MemPlace} (hf : DataW.trod enc P W base spare held fuel t cs = some y) :
    ∃ (a : Option Addr) (cap : Nat) (l : List α), cs = [.slice a l.length cap] ∧ l.length ≤ cap ∧ l.length ≤ maxLen ∧ Kd.C d W a l.length l := by
  rcases Go.Deep.open_slice hu hf with ⟨hcs, hx⟩ | ⟨ad, l0, c0, m, n, D, Pl, hcs, hb, hl, hm, hm2, hx, hel2⟩
  · exact ⟨none, 0, [], hcs, Nat.le_refl _, Nat.zero_le _, ⟨rfl, by simp, fun h => absurd h (by simp)⟩⟩
  · have hml : l0 ≤ m := by rw [hm2]; split <;> omega
    have hmx : maxLen ≤ 9223372036854775807 := by decide
    have ex : ∀ i : Fin l0, ∃ x : α, ∃ cs', W.cells? base (ad.add (i.val * P.cellsOf e)) (P.cellsOf e) = some cs' ∧ d.K W x cs' := fun i => by
      obtain ⟨cs', h1, h2⟩ := hel2 i.val (by have := i.isLt; omega)
      obtain ⟨x, h3⟩ := hel _ _ _ h2
      exact ⟨x, cs', h1, h3⟩
    refine ⟨some ad, c0, List.ofFn (fun i => Classical.choose (ex i)), by simpa using hcs, by simpa using hl, by simp; omega, ⟨by simp, by simp; omega, fun _ => ⟨ad, rfl, fun j p hp => ?_⟩⟩⟩
    have hj : j < l0 := by have := (List.getElem?_eq_some_iff.1 hp).1; simpa using this
    have hp2 : Classical.choose (ex ⟨j, hj⟩) = p := by
      have := (List.getElem?_eq_some_iff.1 hp).2
      simpa using this
    obtain ⟨cs', h1, h2⟩ := Classical.choose_spec (ex ⟨j, hj⟩)
    rw [hp2] at h2
    obtain ⟨g1, g2⟩ := zXf h1
    refine ⟨cs', g1.trans hc, h2, fun i u hi => ?_⟩
    have := g2 i u hi
    rw [Addr.add_add, hc] at this
    exact this
theorem listE4 {α : Type} {cs : List α} (h : cs.length = 4) : ∃ c0 c1 c2 c3, cs = [c0, c1, c2, c3] := by
  match cs, h with
  | [c0, c1, c2, c3], _ => exact ⟨c0, c1, c2, c3, rfl⟩
theorem listE6 {α : Type} {cs : List α} (h : cs.length = 6) : ∃ c0 c1 c2 c3 c4 c5, cs = [c0, c1, c2, c3, c4, c5] := by
  match cs, h with
  | [c0, c1, c2, c3, c4, c5], _ => exact ⟨c0, c1, c2, c3, c4, c5, rfl⟩
theorem listE10 {α : Type} {cs : List α} (h : cs.length = 10) : ∃ c0 c1 c2 c3 c4 c5 c6 c7 c8 c9, cs = [c0, c1, c2, c3, c4, c5, c6, c7, c8, c9] := by
  match cs, h with
  | [c0, c1, c2, c3, c4, c5, c6, c7, c8, c9], _ => exact ⟨c0, c1, c2, c3, c4, c5, c6, c7, c8, c9, rfl⟩
theorem listE13 {α : Type} {cs : List α} (h : cs.length = 13) : ∃ c0 c1 c2 c3 c4 c5 c6 c7 c8 c9 c10 c11 c12, cs = [c0, c1, c2, c3, c4, c5, c6, c7, c8, c9, c10, c11, c12] := by
  match cs, h with
  | [c0, c1, c2, c3, c4, c5, c6, c7, c8, c9, c10, c11, c12], _ => exact ⟨c0, c1, c2, c3, c4, c5, c6, c7, c8, c9, c10, c11, c12, rfl⟩
theorem elL {H : Type} {enc : TypeId × Value → H} {W : World} {held : Bool} (n : Nat) (cs : List Value) (y : DataW H × List MemPlace) (hy : DataW.trod enc Tryz.prog W 0 (fun _ => true) held n 48 cs = some y) : ∃ x : P.S48, P.k48.K W x cs := by
  have hci : Tryz.prog.cellsOf 3 = 1 := by kernel_rfl
  have hcw : Tryz.prog.cellsOf 2 = 1 := by kernel_rfl
  have hcb : Tryz.prog.cellsOf 4 = 1 := by kernel_rfl
  have hcs : Tryz.prog.cellsOf 48 = 13 := by kernel_rfl
  obtain ⟨ys, m, _, hx, hcl, hl, hf⟩ := Go.DataW.trod_struct Tryz.underlying48 hy
  obtain ⟨y0, y1, y2, y3, y4, y5, y6, y7, y8, y9, y10, y11, y12, rfl⟩ := listE13 hl
  obtain ⟨c0, c1, c2, c3, c4, c5, c6, c7, c8, c9, c10, c11, c12, rfl⟩ := listE13 (hcl.trans hcs)
  have h0 := hf 0 _ rfl
  simp [hci] at h0
  obtain ⟨x0, e0, _, _⟩ := Go.DataW.trod_int Tryz.underlying3 h0
  simp at e0
  subst e0
  have h1 := hf 1 _ rfl
  simp [hcw] at h1
  obtain ⟨x1, e1, _, _⟩ := Go.DataW.trod_int Tryz.underlying2 h1
  simp at e1
  subst e1
  have h2 := hf 2 _ rfl
  simp [hcw] at h2
  obtain ⟨x2, e2, _, _⟩ := Go.DataW.trod_int Tryz.underlying2 h2
  simp at e2
  subst e2
  have h3 := hf 3 _ rfl
  simp [hcw] at h3
  obtain ⟨x3, e3, _, _⟩ := Go.DataW.trod_int Tryz.underlying2 h3
  simp at e3
  subst e3
  have h4 := hf 4 _ rfl
  simp [hcw] at h4
  obtain ⟨x4, e4, _, _⟩ := Go.DataW.trod_int Tryz.underlying2 h4
  simp at e4
  subst e4
  have h5 := hf 5 _ rfl
  simp [hci] at h5
  obtain ⟨x5, e5, _, _⟩ := Go.DataW.trod_int Tryz.underlying3 h5
  simp at e5
  subst e5
  have h6 := hf 6 _ rfl
  simp [hcb] at h6
  obtain ⟨x6, e6, _⟩ := Go.DataW.trod_bool Tryz.underlying4 h6
  simp at e6
  subst e6
  have h7 := hf 7 _ rfl
  simp [hci] at h7
  obtain ⟨x7, e7, _, _⟩ := Go.DataW.trod_int Tryz.underlying3 h7
  simp at e7
  subst e7
  have h8 := hf 8 _ rfl
  simp [hci] at h8
  obtain ⟨x8, e8, _, _⟩ := Go.DataW.trod_int Tryz.underlying3 h8
  simp at e8
  subst e8
  have h9 := hf 9 _ rfl
  simp [hci] at h9
  obtain ⟨x9, e9, _, _⟩ := Go.DataW.trod_int Tryz.underlying3 h9
  simp at e9
  subst e9
  have h10 := hf 10 _ rfl
  simp [hcw] at h10
  obtain ⟨x10, e10, _, _⟩ := Go.DataW.trod_int Tryz.underlying2 h10
  simp at e10
  subst e10
  have h11 := hf 11 _ rfl
  simp [hcw] at h11
  obtain ⟨x11, e11, _, _⟩ := Go.DataW.trod_int Tryz.underlying2 h11
  simp at e11
  subst e11
  have h12 := hf 12 _ rfl
  simp [hci] at h12
  obtain ⟨x12, e12, _, _⟩ := Go.DataW.trod_int Tryz.underlying3 h12
  simp at e12
  subst e12
  exact ⟨⟨x0, x1, x2, x3, x4, x5, x6, x7, x8, x9, x10, x11, x12⟩, P.k48_mk W ⟨x0, x1, x2, x3, x4, x5, x6, x7, x8, x9, x10, x11, x12⟩⟩
theorem elB {H : Type} {enc : TypeId × Value → H} {W : World} {held : Bool} (n : Nat) (cs : List Value) (y : DataW H × List MemPlace) (hy : DataW.trod enc Tryz.prog W 0 (fun _ => true) held n 54 cs = some y) : ∃ x : P.S54, P.k54.K W x cs := by
  have hci : Tryz.prog.cellsOf 3 = 1 := by kernel_rfl
  have hcw : Tryz.prog.cellsOf 2 = 1 := by kernel_rfl
  have hcr : Tryz.prog.cellsOf 32 = 1 := by kernel_rfl
  have hcs : Tryz.prog.cellsOf 54 = 6 := by kernel_rfl
  obtain ⟨ys, m, _, hx, hcl, hl, hf⟩ := Go.DataW.trod_struct Tryz.underlying54 hy
  obtain ⟨y0, y1, y2, y3, y4, y5, rfl⟩ := listE6 hl
  obtain ⟨c0, c1, c2, c3, c4, c5, rfl⟩ := listE6 (hcl.trans hcs)
  have h0 := hf 0 _ rfl
  simp [hci] at h0
  obtain ⟨x0, e0, _, _⟩ := Go.DataW.trod_int Tryz.underlying3 h0
  simp at e0
  subst e0
  have h1 := hf 1 _ rfl
  simp [hcw] at h1
  obtain ⟨x1, e1, _, _⟩ := Go.DataW.trod_int Tryz.underlying2 h1
  simp at e1
  subst e1
  have h2 := hf 2 _ rfl
  simp [hcw] at h2
  obtain ⟨x2, e2, _, _⟩ := Go.DataW.trod_int Tryz.underlying2 h2
  simp at e2
  subst e2
  have h3 := hf 3 _ rfl
  simp [hci] at h3
  obtain ⟨x3, e3, _, _⟩ := Go.DataW.trod_int Tryz.underlying3 h3
  simp at e3
  subst e3
  have h4 := hf 4 _ rfl
  simp [hci] at h4
  obtain ⟨x4, e4, _, _⟩ := Go.DataW.trod_int Tryz.underlying3 h4
  simp at e4
  subst e4
  have h5 := hf 5 _ rfl
  simp [hcr] at h5
  obtain ⟨A5, n5, q5, e5, zs5, w5⟩ : ∃ (A_ : Option Addr) (n_ q_ : Nat), c5 = .slice A_ n_ q_ ∧ ∃ zs, IsRow .i64 W A_ n_ q_ zs := by
    rcases open_ints Tryz.underlying32 Tryz.underlying3 (by kernel_rfl) h5 with ⟨hcs, _⟩ | ⟨x, l, c, zs, hcs, _, hl, hm, hz, _, hcell, hwz⟩
    · simp at hcs; exact ⟨none, 0, 0, hcs, [], .inl ⟨rfl, rfl, rfl, rfl⟩⟩
    · simp at hcs; exact ⟨some x, l, c, hcs, zs, .inr ⟨_, rfl, hl, hm, by simpa using hz, hcell, hwz⟩⟩
  subst e5
  obtain ⟨x5, rfl, hr5, hm5, hw5, hq5⟩ := ReadsInt.ofRowC w5
  exact ⟨⟨x0, x1, x2, x3, x4, x5⟩, P.k54_mk W ⟨x0, x1, x2, x3, x4, x5⟩ hq5 (Kd.qKf (d := (0 : Int)) (h1 := fun _ => rfl) hr5)⟩
theorem elP {H : Type} {enc : TypeId × Value → H} {W : World} {held : Bool} (n : Nat) (cs : List Value) (y : DataW H × List MemPlace) (hy : DataW.trod enc Tryz.prog W 0 (fun _ => true) held n 26 cs = some y) : ∃ x0 x1 x2 x3 : Int, cs = [.int .i64 x0, .int .i64 x1, .int .i64 x2, .int .i64 x3] := by
  have hcw : Tryz.prog.cellsOf 2 = 1 := by kernel_rfl
  have hcs : Tryz.prog.cellsOf 26 = 4 := by kernel_rfl
  obtain ⟨ys, m, _, hx, hcl, hl, hf⟩ := Go.DataW.trod_struct Tryz.underlying26 hy
  obtain ⟨y0, y1, y2, y3, rfl⟩ := listE4 hl
  obtain ⟨c0, c1, c2, c3, rfl⟩ := listE4 (hcl.trans hcs)
  have h0 := hf 0 _ rfl
  simp [hcw] at h0
  obtain ⟨x0, e0, _, _⟩ := Go.DataW.trod_int Tryz.underlying2 h0
  simp at e0
  subst e0
  have h1 := hf 1 _ rfl
  simp [hcw] at h1
  obtain ⟨x1, e1, _, _⟩ := Go.DataW.trod_int Tryz.underlying2 h1
  simp at e1
  subst e1
  have h2 := hf 2 _ rfl
  simp [hcw] at h2
  obtain ⟨x2, e2, _, _⟩ := Go.DataW.trod_int Tryz.underlying2 h2
  simp at e2
  subst e2
  have h3 := hf 3 _ rfl
  simp [hcw] at h3
  obtain ⟨x3, e3, _, _⟩ := Go.DataW.trod_int Tryz.underlying2 h3
  simp at e3
  subst e3
  exact ⟨x0, x1, x2, x3, rfl⟩
theorem elS {H : Type} {enc : TypeId × Value → H} {W : World} {held : Bool} (n : Nat) (cs : List Value) (y : DataW H × List MemPlace) (hy : DataW.trod enc Tryz.prog W 0 (fun _ => true) held n 28 cs = some y) : ∃ (a0 : Int) (A1 : Option Addr) (q1 : Nat) (l1 : List P.S48) (a2 a3 a4 a5 : Int) (A6 : Option Addr) (q6 : Nat) (l6 : List P.S54) (a7 a8 a9 a10 a11 a12 : Int),
    cs = [.int .i64 a0, .slice A1 l1.length q1, .int .i64 a2, .int .i64 a3, .int .i64 a4, .int .i64 a5, .slice A6 l6.length q6, .int .i64 a7, .int .i64 a8, .int .i64 a9, .int .i64 a10, .int .i64 a11, .int .i64 a12] ∧ (Kd.C P.k48 W A1 l1.length l1 ∧ l1.length ≤ q1 ∧ l1.length ≤ maxLen) ∧ (Kd.C P.k54 W A6 l6.length l6 ∧ l6.length ≤ q6 ∧ l6.length ≤ maxLen) := by
  have hci : Tryz.prog.cellsOf 3 = 1 := by kernel_rfl
  have hcw : Tryz.prog.cellsOf 2 = 1 := by kernel_rfl
  have hcu : Tryz.prog.cellsOf 23 = 1 := by kernel_rfl
  have hcv : Tryz.prog.cellsOf 24 = 1 := by kernel_rfl
  have hcp : Tryz.prog.cellsOf 26 = 4 := by kernel_rfl
  have hcs : Tryz.prog.cellsOf 28 = 13 := by kernel_rfl
  obtain ⟨ys, m, _, hx, hcl, hl, hf⟩ := Go.DataW.trod_struct Tryz.underlying28 hy
  obtain ⟨y0, y1, y2, y3, y4, y5, y6, y7, y8, y9, rfl⟩ := listE10 hl
  obtain ⟨c0, c1, c2, c3, c4, c5, c6, c7, c8, c9, c10, c11, c12, rfl⟩ := listE13 (hcl.trans hcs)
  have h0 := hf 0 _ rfl
  simp [hci] at h0
  obtain ⟨a0, e0, _, _⟩ := Go.DataW.trod_int Tryz.underlying3 h0
  simp at e0
  subst e0
  have h1 := hf 1 _ rfl
  simp [hcu] at h1
  obtain ⟨A1, q1, l1, e1, g1a, g1b, g1c⟩ := zYa Tryz.underlying23 (d := P.k48) (by kernel_rfl) elL h1
  simp at e1
  subst e1
  have h2 := hf 2 _ rfl
  simp [hci] at h2
  obtain ⟨a2, e2, _, _⟩ := Go.DataW.trod_int Tryz.underlying3 h2
  simp at e2
  subst e2
  have h3 := hf 3 _ rfl
  simp [hci] at h3
  obtain ⟨a3, e3, _, _⟩ := Go.DataW.trod_int Tryz.underlying3 h3
  simp at e3
  subst e3
  have h4 := hf 4 _ rfl
  simp [hcw] at h4
  obtain ⟨a4, e4, _, _⟩ := Go.DataW.trod_int Tryz.underlying2 h4
  simp at e4
  subst e4
  have h5 := hf 5 _ rfl
  simp [hci] at h5
  obtain ⟨a5, e5, _, _⟩ := Go.DataW.trod_int Tryz.underlying3 h5
  simp at e5
  subst e5
  have h6 := hf 6 _ rfl
  simp [hcv] at h6
  obtain ⟨A6, q6, l6, e6, g6a, g6b, g6c⟩ := zYa Tryz.underlying24 (d := P.k54) (by kernel_rfl) elB h6
  simp at e6
  subst e6
  have h7 := hf 7 _ rfl
  simp [hcw] at h7
  obtain ⟨a7, e7, _, _⟩ := Go.DataW.trod_int Tryz.underlying2 h7
  simp at e7
  subst e7
  have h8 := hf 8 _ rfl
  simp [hcp] at h8
  obtain ⟨a8, a9, a10, a11, e8⟩ := elP _ _ _ h8
  simp at e8
  obtain ⟨rfl, rfl, rfl, rfl⟩ := e8
  have h9 := hf 9 _ rfl
  simp [hcw] at h9
  obtain ⟨a12, e9, _, _⟩ := Go.DataW.trod_int Tryz.underlying2 h9
  simp at e9
  subst e9
  exact ⟨a0, A1, q1, l1, a2, a3, a4, a5, A6, q6, l6, a7, a8, a9, a10, a11, a12, rfl, ⟨g1c, g1a, g1b⟩, ⟨g6c, g6a, g6b⟩⟩
theorem openS {H : Type} {enc : TypeId × Value → H} {w : World} {held : Bool} {r : Reach} {b0 : Nat} {v : Value} {d : DataW H} {p : List MemPlace}
    (hval : Value.okWide Tryz.prog w r b0 28 v) (hd : DataW.Trod enc Tryz.prog w 0 (fun _ => true) held 28 v d p) :
    ∃ (a0 : Int) (A1 : Option Addr) (q1 : Nat) (l1 : List P.S48) (a2 a3 a4 a5 : Int) (A6 : Option Addr) (q6 : Nat) (l6 : List P.S54) (a7 a8 a9 a10 a11 a12 : Int),
    v = .agg #[.int .i64 a0, .slice A1 l1.length q1, .int .i64 a2, .int .i64 a3, .int .i64 a4, .int .i64 a5, .slice A6 l6.length q6, .int .i64 a7, .int .i64 a8, .int .i64 a9, .int .i64 a10, .int .i64 a11, .int .i64 a12] ∧ (Kd.C P.k48 w A1 l1.length l1 ∧ l1.length ≤ q1 ∧ l1.length ≤ maxLen) ∧ (Kd.C P.k54 w A6 l6.length l6 ∧ l6.length ≤ q6 ∧ l6.length ≤ maxLen) := by
  obtain ⟨cs, rfl, _⟩ : ∃ cs, v = .agg cs ∧ cs.size = Tryz.prog.cellsOf 28 := by
    simp only [Value.okWide, Tryz.underlying28] at hval
    obtain ⟨cs, h1, h2, _⟩ := hval
    exact ⟨cs, h1, h2⟩
  obtain ⟨fuel, hy⟩ := hd
  obtain ⟨a0, A1, q1, l1, a2, a3, a4, a5, A6, q6, l6, a7, a8, a9, a10, a11, a12, e, h1, h2⟩ := elS _ _ _ hy
  refine ⟨a0, A1, q1, l1, a2, a3, a4, a5, A6, q6, l6, a7, a8, a9, a10, a11, a12, ?_, h1, h2⟩
  obtain ⟨cl⟩ := cs
  have e2 : cl = _ := e
  rw [e2]
end Go.Proofs.YtlhcohipnieidaaGreat.Reads
namespace Go.Proofs.YtlhcohipnieidaaGreat.PlainM
open Go Go.RowKit
theorem w64 {e : Int} (h : -9223372036854775808 ≤ e) (h' : e ≤ 9223372036854775807) : wrap64 e = e := by unfold wrap64; omega
theorem obind {α β : Type} (a : α) (f : α → Option β) : (some a).bind f = f a := (Option.bind_some a f).trans (Eq.refl (f a))
theorem qXs {x n : Int} (h : 0 ≤ x) : Int.tdiv x n = x / n := Int.tdiv_eq_ediv_of_nonneg h
theorem qWl {x n : Int} (h : 0 ≤ x) : Int.tmod x n = x % n := Int.tmod_eq_emod_of_nonneg h
theorem wu (n : Int) : IntKind.u64.wrap n = n % 18446744073709551616 := IntKind.wrap_u64 n
theorem wu_id {n : Int} (h : 0 ≤ n) (h' : n < 18446744073709551616) : IntKind.u64.wrap n = n := by rw [wu]; omega
theorem wraps_u64 (n : Int) (h₀ : 0 ≤ n) (h₁ : n < 2 ^ 64) : IntKind.u64.wrap n = n := wu_id h₀ (by simpa using h₁)
theorem qWq {x : Int} (h : 0 ≤ x) (h' : x < 18446744073709551616) : Go.bits .and .u64 x 4294967295 = x % 4294967296 :=
  bits_mask .u64 64 (by decide) wraps_u64 32 (by decide) x h (by simpa using h')
theorem and_one {x : Int} (h : 0 ≤ x) (h' : x < 18446744073709551616) : Go.bits .and .u64 x 1 = x % 2 :=
  bits_mask .u64 64 (by decide) wraps_u64 1 (by decide) x h (by simpa using h')
theorem zZ2 (a1 a0 b1 b0 : Int) (ha1 : 0 ≤ a1) (ha1' : a1 < 4294967296) (ha0 : 0 ≤ a0) (ha0' : a0 < 4294967296) (hb1 : 0 ≤ b1) (hb1' : b1 < 4294967296) (hb0 : 0 ≤ b0) (hb0' : b0 < 4294967296) :
    ∃ x11 x10 x01 x00 : Int, x11 = a1 * b1 ∧ x10 = a1 * b0 ∧ x01 = a0 * b1 ∧ x00 = a0 * b0 ∧ 0 ≤ x11 ∧ x11 ≤ 18446744065119617025 ∧ 0 ≤ x10 ∧ x10 ≤ 18446744065119617025 ∧ 0 ≤ x01 ∧ x01 ≤ 18446744065119617025 ∧ 0 ≤ x00 ∧ x00 ≤ 18446744065119617025 ∧
      (a1 * 4294967296 + a0) * (b1 * 4294967296 + b0) = x11 * 18446744073709551616 + (x10 + x01) * 4294967296 + x00 := by
  have bd : ∀ x y : Int, 0 ≤ x → x < 4294967296 → 0 ≤ y → y < 4294967296 → 0 ≤ x * y ∧ x * y ≤ 18446744065119617025 := fun x y h1 h2 h3 h4 =>
    ⟨Int.mul_nonneg h1 h3, by
      have : x * y ≤ 4294967295 * 4294967295 := Int.mul_le_mul (by omega) (by omega) h3 (by omega)
      omega⟩
  refine ⟨_, _, _, _, rfl, rfl, rfl, rfl, (bd _ _ ha1 ha1' hb1 hb1').1, (bd _ _ ha1 ha1' hb1 hb1').2, (bd _ _ ha1 ha1' hb0 hb0').1, (bd _ _ ha1 ha1' hb0 hb0').2, (bd _ _ ha0 ha0' hb1 hb1').1, (bd _ _ ha0 ha0' hb1 hb1').2, (bd _ _ ha0 ha0' hb0 hb0').1, (bd _ _ ha0 ha0' hb0 hb0').2, ?_⟩
  rw [Int.add_mul, Int.mul_add, Int.mul_add]
  have e1 : a1 * 4294967296 * (b1 * 4294967296) = a1 * b1 * 18446744073709551616 := by
    rw [Int.mul_assoc, Int.mul_left_comm 4294967296, ← Int.mul_assoc]; rfl
  have e2 : a1 * 4294967296 * b0 = a1 * b0 * 4294967296 := by rw [Int.mul_assoc, Int.mul_comm 4294967296, ← Int.mul_assoc]
  have e3 : a0 * (b1 * 4294967296) = a0 * b1 * 4294967296 := by rw [← Int.mul_assoc]
  rw [e1, e2, e3]; omega
theorem zXl {u y1 y0 : Int} (h1 : 2147483648 ≤ y1) (h1' : y1 < 4294967296) (h0 : 0 ≤ y0) (h0' : y0 < 4294967296) (hu : 0 ≤ u) (huy : u < y1 * 4294967296 + y0) :
    0 ≤ u / y1 ∧ u / y1 ≤ 4294967297 ∧ 0 ≤ u - u / y1 * y1 ∧ u - u / y1 * y1 < y1 := by
  have e := Int.emod_add_mul_ediv u y1
  have m1 := Int.emod_nonneg u (show y1 ≠ 0 by omega)
  have m2 := Int.emod_lt_of_pos u (show 0 < y1 by omega)
  rw [Int.mul_comm] at e
  refine ⟨Int.ediv_nonneg hu (by omega), ?_, by omega, by omega⟩
  apply Int.le_of_lt_add_one
  apply (Int.ediv_lt_iff_lt_mul (by omega)).2
  show u < (4294967297 + 1) * y1
  omega
theorem qKq {N y q : Int} (hy : 0 < y) : q ≤ N / y ↔ q * y ≤ N := Int.le_ediv_iff_mul_le hy
theorem zWy {N y q : Int} (hy : 0 < y) (h1 : q * y ≤ N) (h2 : N < (q + 1) * y) : N / y = q := by
  have a := (qKq hy).2 h1
  have b := (Int.ediv_lt_iff_lt_mul hy (a := N) (b := q + 1)).2 h2
  omega
end Go.Proofs.YtlhcohipnieidaaGreat.PlainM
namespace Go.Proofs.YtlhcohipnieidaaGreat.PureL
set_option linter.unusedVariables false
open Go.RowKit Go.Proofs.YtlhcohipnieidaaGreat.P W.PrintWords W.PrintLast W.PrintMore Go.Proofs.YtlhcohipnieidaaGreat.PlainM
theorem qXz (a : Int) : qQ4.f a = some (decide (-10000000000000 ≤ a ∧ a ≤ 10000000000000)) := by
  unfold qQ4.f
  by_cases h : a ≥ -10000000000000
  · rw [if_pos h]; simp [h]
  · rw [if_neg h]; simp; omega
theorem qX7 (a : Int) : qQ3.f a = some (decide (-10000000000000 ≤ a ∧ a ≤ 10000000000000)) := by
  unfold qQ3.f
  by_cases h : a ≥ -10000000000000
  · rw [if_pos h]; simp [h]
  · rw [if_neg h]; simp; omega
theorem qX1 (a : Int) : isMoney a = decide (-10000000000000 ≤ a ∧ a ≤ 10000000000000) := rfl
def addS (a b : Int) : Int × Int := if (isMoney a && (isMoney b && isMoney (a + b))) = true then (a + b, 0) else (0, 14)
theorem qWb {a : Int} (h : isMoney a = true) : -10000000000000 ≤ a ∧ a ≤ 10000000000000 := by simpa [isMoney] using h
theorem qWm (a b : Int) : qZ1.f a b = some (addS a b) := by
  unfold qZ1.f qZv.f
  rw [if_pos (by simp)]
  simp only [obind]
  congr 1
  show qZv.go [a, b] 0 = addS a b
  unfold addS
  simp only [qZv.go]
  rw [show isMoney 0 = true by decide, Bool.true_and, Int.zero_add]
  cases h1 : isMoney a
  · simp
  · cases h2 : isMoney b
    · simp
    · simp
theorem qVz (a b : Int) : qZh.f a b = some (addS a b) := by
  unfold qZh.f addS
  simp only [qX7, ← qX1, obind]
  cases h1 : isMoney a
  · simp
  · cases h2 : isMoney b
    · simp
    · have b1 := qWb h1; have b2 := qWb h2
      rw [w64 (by omega) (by omega)]
      cases h3 : isMoney (a + b) <;> simp
theorem qJ0 (a : Int) (h : a ≤ 9223372036854775807) : qZy.f a = some (if a < 0 then 0 else a / 1000000) := by
  unfold qZy.f
  by_cases c : a < 0
  · rw [if_pos c, if_pos c]
  · rw [if_neg c, if_neg c, qXs (by omega), w64 (by omega) (by omega)]
end Go.Proofs.YtlhcohipnieidaaGreat.PureL
