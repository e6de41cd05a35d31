/- Several texts as one (written by a program): what the walks and the plain laws come to, one behind the other. -/
import Derived.Test.YtlhcohipnieidaaGreatQa
import Derived.MapKept
import Derived.ChangeMaps5
import Derived.Carry
namespace Go.Proofs.YtlhcohipnieidaaGreat.P
open Go.RowKit W.PrintWords W.PrintLast W.PrintMore
attribute [local go_sem] qXg qXd qXq qXr qY2 qY1 qXe qXf
set_option linter.unusedVariables false
set_option linter.unusedSimpArgs false
mutual
def qQ2.j2 : Nat → Int → Int → Int → Int → Int → Int → Int → Int → Option (Int × Int)
 | 0, _, _, _, _, _, _, _, _ => none
 | k + 1, x2, x8, x9, x10, x11, x13, x14, x15 => if x9 = 0 then (none) else (qQ2.l1 k x2 x8 x9 x10 x14 x15 (IntKind.u64.wrap ((IntKind.u64.wrap ((IntKind.u64.wrap ((IntKind.u64.wrap (x11 * 4294967296)) + x13)) - (IntKind.u64.wrap (x15 * x2)))) - (IntKind.u64.wrap ((IntKind.u64.wrap (Int.tdiv (IntKind.u64.wrap ((IntKind.u64.wrap ((IntKind.u64.wrap (x11 * 4294967296)) + x13)) - (IntKind.u64.wrap (x15 * x2)))) x9)) * x9)))) (IntKind.u64.wrap ((IntKind.u64.wrap ((IntKind.u64.wrap (x11 * 4294967296)) + x13)) - (IntKind.u64.wrap (x15 * x2)))) (IntKind.u64.wrap (Int.tdiv (IntKind.u64.wrap ((IntKind.u64.wrap ((IntKind.u64.wrap (x11 * 4294967296)) + x13)) - (IntKind.u64.wrap (x15 * x2)))) x9)))
def qQ2.l1 : Nat → Int → Int → Int → Int → Int → Int → Int → Int → Int → Option (Int × Int)
 | 0, _, _, _, _, _, _, _, _, _ => none
 | k + 1, x2, x8, x9, x10, x14, x15, x16, x17, x18 => if x18 ≥ 4294967296 then (qQ2.j4 k x2 x8 x9 x10 x14 x15 x16 x17 x18 true) else (qQ2.j4 k x2 x8 x9 x10 x14 x15 x16 x17 x18 (decide ((IntKind.u64.wrap (x18 * x10)) > (IntKind.u64.wrap ((IntKind.u64.wrap (4294967296 * x16)) + x14)))))
def qQ2.j4 : Nat → Int → Int → Int → Int → Int → Int → Int → Int → Int → Bool → Option (Int × Int)
 | 0, _, _, _, _, _, _, _, _, _, _ => none
 | k + 1, x2, x8, x9, x10, x14, x15, x16, x17, x18, x113 => if x113 = true then (if (IntKind.u64.wrap (x16 + x9)) ≥ 4294967296 then (if 0 ≤ x8 then (some (IntKind.u64.wrap ((IntKind.u64.wrap (x15 * 4294967296)) + (IntKind.u64.wrap (x18 - 1))), shr .u64 (IntKind.u64.wrap ((IntKind.u64.wrap ((IntKind.u64.wrap (x17 * 4294967296)) + x14)) - (IntKind.u64.wrap ((IntKind.u64.wrap (x18 - 1)) * x2)))) x8)) else (none)) else (qQ2.l1 k x2 x8 x9 x10 x14 x15 (IntKind.u64.wrap (x16 + x9)) x17 (IntKind.u64.wrap (x18 - 1)))) else (if 0 ≤ x8 then (some (IntKind.u64.wrap ((IntKind.u64.wrap (x15 * 4294967296)) + x18), shr .u64 (IntKind.u64.wrap ((IntKind.u64.wrap ((IntKind.u64.wrap (x17 * 4294967296)) + x14)) - (IntKind.u64.wrap (x18 * x2)))) x8)) else (none))
def qQ2.l0 : Nat → Int → Int → Int → Int → Int → Int → Int → Int → Int → Option (Int × Int)
 | 0, _, _, _, _, _, _, _, _, _ => none
 | k + 1, x2, x8, x9, x10, x11, x13, x14, x15, x16 => if x15 ≥ 4294967296 then (qQ2.j1 k x2 x8 x9 x10 x11 x13 x14 x15 x16 true) else (qQ2.j1 k x2 x8 x9 x10 x11 x13 x14 x15 x16 (decide ((IntKind.u64.wrap (x15 * x10)) > (IntKind.u64.wrap ((IntKind.u64.wrap (4294967296 * x16)) + x13)))))
def qQ2.j1 : Nat → Int → Int → Int → Int → Int → Int → Int → Int → Int → Bool → Option (Int × Int)
 | 0, _, _, _, _, _, _, _, _, _, _ => none
 | k + 1, x2, x8, x9, x10, x11, x13, x14, x15, x16, x78 => if x78 = true then (if (IntKind.u64.wrap (x16 + x9)) ≥ 4294967296 then (qQ2.j2 k x2 x8 x9 x10 x11 x13 x14 (IntKind.u64.wrap (x15 - 1))) else (qQ2.l0 k x2 x8 x9 x10 x11 x13 x14 (IntKind.u64.wrap (x15 - 1)) (IntKind.u64.wrap (x16 + x9)))) else (qQ2.j2 k x2 x8 x9 x10 x11 x13 x14 x15)
end
def qQ2.f (k : Nat) (a0 : Int) (a1 : Int) (a2 : Int) : Option (Int × Int) := if a2 = 0 then (none) else (if a2 ≤ a0 then (none) else (if a0 = 0 then (some (IntKind.u64.wrap (Int.tdiv a1 a2), Int.tmod a1 a2)) else ((bits_LeadingZeros64.f a2).bind fun t128 => (if 0 ≤ (IntKind.u64.wrap (t128)) then (if 0 ≤ (IntKind.u64.wrap (64 - (IntKind.u64.wrap (t128)))) then (if ((shl .u64 a2 (IntKind.u64.wrap (t128))) / 4294967296) = 0 then (none) else (qQ2.l0 k (shl .u64 a2 (IntKind.u64.wrap (t128))) (IntKind.u64.wrap (t128)) ((shl .u64 a2 (IntKind.u64.wrap (t128))) / 4294967296) (Go.bits .and .u64 (shl .u64 a2 (IntKind.u64.wrap (t128))) 4294967295) (Go.bits .or .u64 (shl .u64 a0 (IntKind.u64.wrap (t128))) (shr .u64 a1 (IntKind.u64.wrap (64 - (IntKind.u64.wrap (t128)))))) ((shl .u64 a1 (IntKind.u64.wrap (t128))) / 4294967296) (Go.bits .and .u64 (shl .u64 a1 (IntKind.u64.wrap (t128))) 4294967295) (IntKind.u64.wrap (Int.tdiv (Go.bits .or .u64 (shl .u64 a0 (IntKind.u64.wrap (t128))) (shr .u64 a1 (IntKind.u64.wrap (64 - (IntKind.u64.wrap (t128)))))) ((shl .u64 a2 (IntKind.u64.wrap (t128))) / 4294967296))) (IntKind.u64.wrap ((Go.bits .or .u64 (shl .u64 a0 (IntKind.u64.wrap (t128))) (shr .u64 a1 (IntKind.u64.wrap (64 - (IntKind.u64.wrap (t128)))))) - (IntKind.u64.wrap ((IntKind.u64.wrap (Int.tdiv (Go.bits .or .u64 (shl .u64 a0 (IntKind.u64.wrap (t128))) (shr .u64 a1 (IntKind.u64.wrap (64 - (IntKind.u64.wrap (t128)))))) ((shl .u64 a2 (IntKind.u64.wrap (t128))) / 4294967296))) * ((shl .u64 a2 (IntKind.u64.wrap (t128))) / 4294967296))))))) else (none)) else (none)))))
set_option maxHeartbeats 8000000 in
set_option maxRecDepth 100000 in
theorem qQ2.calls (k : Nat) (a0 : Int) (a1 : Int) (a2 : Int) (r1 : Int) (r2 : Int) (w : World) (h : qQ2.f k a0 a1 a2 = some (r1, r2)) :
  Calls Tryz.prog 102 #[.int .u64 a0, .int .u64 a1, .int .u64 a2] w fun e w' => e = .returned (.tuple #[.int .u64 r1, .int .u64 r2]) ∧ Drawn0 w w' := by
 have H : (if a2 = 0 then (none) else (if a2 ≤ a0 then (none) else (if a0 = 0 then (some (IntKind.u64.wrap (Int.tdiv a1 a2), Int.tmod a1 a2)) else ((bits_LeadingZeros64.f a2).bind fun t128 => (if 0 ≤ (IntKind.u64.wrap (t128)) then (if 0 ≤ (IntKind.u64.wrap (64 - (IntKind.u64.wrap (t128)))) then (if ((shl .u64 a2 (IntKind.u64.wrap (t128))) / 4294967296) = 0 then (none) else (qQ2.l0 k (shl .u64 a2 (IntKind.u64.wrap (t128))) (IntKind.u64.wrap (t128)) ((shl .u64 a2 (IntKind.u64.wrap (t128))) / 4294967296) (Go.bits .and .u64 (shl .u64 a2 (IntKind.u64.wrap (t128))) 4294967295) (Go.bits .or .u64 (shl .u64 a0 (IntKind.u64.wrap (t128))) (shr .u64 a1 (IntKind.u64.wrap (64 - (IntKind.u64.wrap (t128)))))) ((shl .u64 a1 (IntKind.u64.wrap (t128))) / 4294967296) (Go.bits .and .u64 (shl .u64 a1 (IntKind.u64.wrap (t128))) 4294967295) (IntKind.u64.wrap (Int.tdiv (Go.bits .or .u64 (shl .u64 a0 (IntKind.u64.wrap (t128))) (shr .u64 a1 (IntKind.u64.wrap (64 - (IntKind.u64.wrap (t128)))))) ((shl .u64 a2 (IntKind.u64.wrap (t128))) / 4294967296))) (IntKind.u64.wrap ((Go.bits .or .u64 (shl .u64 a0 (IntKind.u64.wrap (t128))) (shr .u64 a1 (IntKind.u64.wrap (64 - (IntKind.u64.wrap (t128)))))) - (IntKind.u64.wrap ((IntKind.u64.wrap (Int.tdiv (Go.bits .or .u64 (shl .u64 a0 (IntKind.u64.wrap (t128))) (shr .u64 a1 (IntKind.u64.wrap (64 - (IntKind.u64.wrap (t128)))))) ((shl .u64 a2 (IntKind.u64.wrap (t128))) / 4294967296))) * ((shl .u64 a2 (IntKind.u64.wrap (t128))) / 4294967296))))))) else (none)) else (none)))))) = some (r1, r2) := h
 clear h
 by_cases c4 : a2 = 0
 ·rw [if_pos c4] at H
  exact absurd H (by simp)
 ·rw [if_neg c4] at H
  have c4b0 : (a2 == 0) = false := beq_eq_false_iff_ne.mpr c4
  have c4b1 : (a2 != 0) = true := bne_iff_ne.mpr c4
  by_cases c5 : a2 ≤ a0
  ·rw [if_pos c5] at H
   exact absurd H (by simp)
  ·rw [if_neg c5] at H
   have c5b0 : decide (a2 ≤ a0) = false := decide_eq_false c5
   clear c5
   by_cases c6 : a0 = 0
   ·rw [if_pos c6] at H
    have c6b0 : (a0 == 0) = true := beq_iff_eq.mpr c6
    have c6b1 : (a0 != 0) = false := bne_eq_false_iff_eq.mpr c6
    clear c6
    simp only [Option.some.injEq, Prod.mk.injEq] at H
    obtain ⟨rfl, rfl⟩ := H
    go_enter Tryz.func102, Tryz.ntmps102
    go_wp2
    repeat (go_quiet (fail); try go_wp2)
    go_ret2
    exact ⟨by first | rfl | (simp [i64_w, i32_w, qQq, qQr]; done) | (simp; done) | (simp [*]; done), by repeat (first | exact Drawn0.refl _ | apply Drawn0.step)⟩
   ·rw [if_neg c6] at H
    have c6b0 : (a0 == 0) = false := beq_eq_false_iff_ne.mpr c6
    have c6b1 : (a0 != 0) = true := bne_iff_ne.mpr c6
    replace H := Option.bind_eq_some_iff.mp H
    obtain ⟨t128, A70, H⟩ := H
    replace H : (if 0 ≤ (IntKind.u64.wrap (t128)) then (if 0 ≤ (IntKind.u64.wrap (64 - (IntKind.u64.wrap (t128)))) then (if ((shl .u64 a2 (IntKind.u64.wrap (t128))) / 4294967296) = 0 then (none) else (qQ2.l0 k (shl .u64 a2 (IntKind.u64.wrap (t128))) (IntKind.u64.wrap (t128)) ((shl .u64 a2 (IntKind.u64.wrap (t128))) / 4294967296) (Go.bits .and .u64 (shl .u64 a2 (IntKind.u64.wrap (t128))) 4294967295) (Go.bits .or .u64 (shl .u64 a0 (IntKind.u64.wrap (t128))) (shr .u64 a1 (IntKind.u64.wrap (64 - (IntKind.u64.wrap (t128)))))) ((shl .u64 a1 (IntKind.u64.wrap (t128))) / 4294967296) (Go.bits .and .u64 (shl .u64 a1 (IntKind.u64.wrap (t128))) 4294967295) (IntKind.u64.wrap (Int.tdiv (Go.bits .or .u64 (shl .u64 a0 (IntKind.u64.wrap (t128))) (shr .u64 a1 (IntKind.u64.wrap (64 - (IntKind.u64.wrap (t128)))))) ((shl .u64 a2 (IntKind.u64.wrap (t128))) / 4294967296))) (IntKind.u64.wrap ((Go.bits .or .u64 (shl .u64 a0 (IntKind.u64.wrap (t128))) (shr .u64 a1 (IntKind.u64.wrap (64 - (IntKind.u64.wrap (t128)))))) - (IntKind.u64.wrap ((IntKind.u64.wrap (Int.tdiv (Go.bits .or .u64 (shl .u64 a0 (IntKind.u64.wrap (t128))) (shr .u64 a1 (IntKind.u64.wrap (64 - (IntKind.u64.wrap (t128)))))) ((shl .u64 a2 (IntKind.u64.wrap (t128))) / 4294967296))) * ((shl .u64 a2 (IntKind.u64.wrap (t128))) / 4294967296))))))) else (none)) else (none)) = some (r1, r2) := H
    have A7 := am A70
    clear A70
    obtain ⟨ji8, hji8⟩ : ∃ j_ : Int, (IntKind.u64.wrap (t128)) = j_ := ⟨_, rfl⟩
    replace H : (if 0 ≤ (ji8) then (if 0 ≤ (IntKind.u64.wrap (64 - (ji8))) then (if ((shl .u64 a2 (ji8)) / 4294967296) = 0 then (none) else (qQ2.l0 k (shl .u64 a2 (ji8)) ji8 ((shl .u64 a2 (ji8)) / 4294967296) (Go.bits .and .u64 (shl .u64 a2 (ji8)) 4294967295) (Go.bits .or .u64 (shl .u64 a0 (ji8)) (shr .u64 a1 (IntKind.u64.wrap (64 - (ji8))))) ((shl .u64 a1 (ji8)) / 4294967296) (Go.bits .and .u64 (shl .u64 a1 (ji8)) 4294967295) (IntKind.u64.wrap (Int.tdiv (Go.bits .or .u64 (shl .u64 a0 (ji8)) (shr .u64 a1 (IntKind.u64.wrap (64 - (ji8))))) ((shl .u64 a2 (ji8)) / 4294967296))) (IntKind.u64.wrap ((Go.bits .or .u64 (shl .u64 a0 (ji8)) (shr .u64 a1 (IntKind.u64.wrap (64 - (ji8))))) - (IntKind.u64.wrap ((IntKind.u64.wrap (Int.tdiv (Go.bits .or .u64 (shl .u64 a0 (ji8)) (shr .u64 a1 (IntKind.u64.wrap (64 - (ji8))))) ((shl .u64 a2 (ji8)) / 4294967296))) * ((shl .u64 a2 (ji8)) / 4294967296))))))) else (none)) else (none)) = some (r1, r2) := by first | (rw [hji8] at H; exact H) | (simp only [hji8] at H ⊢; exact H)
    (try rw [hji8] at A7)
    by_cases c9 : 0 ≤ (ji8)
    ·rw [if_pos c9] at H
     have c9b0 := eq_true c9
     have c9b1 : decide (0 ≤ (ji8)) = true := decide_eq_true c9
     clear c9
     obtain ⟨ji10, hji10⟩ : ∃ j_ : Int, (shl .u64 a2 (ji8)) = j_ := ⟨_, rfl⟩
     replace H : (if 0 ≤ (IntKind.u64.wrap (64 - (ji8))) then (if ((ji10) / 4294967296) = 0 then (none) else (qQ2.l0 k ji10 ji8 ((ji10) / 4294967296) (Go.bits .and .u64 (ji10) 4294967295) (Go.bits .or .u64 (shl .u64 a0 (ji8)) (shr .u64 a1 (IntKind.u64.wrap (64 - (ji8))))) ((shl .u64 a1 (ji8)) / 4294967296) (Go.bits .and .u64 (shl .u64 a1 (ji8)) 4294967295) (IntKind.u64.wrap (Int.tdiv (Go.bits .or .u64 (shl .u64 a0 (ji8)) (shr .u64 a1 (IntKind.u64.wrap (64 - (ji8))))) ((ji10) / 4294967296))) (IntKind.u64.wrap ((Go.bits .or .u64 (shl .u64 a0 (ji8)) (shr .u64 a1 (IntKind.u64.wrap (64 - (ji8))))) - (IntKind.u64.wrap ((IntKind.u64.wrap (Int.tdiv (Go.bits .or .u64 (shl .u64 a0 (ji8)) (shr .u64 a1 (IntKind.u64.wrap (64 - (ji8))))) ((ji10) / 4294967296))) * ((ji10) / 4294967296))))))) else (none)) = some (r1, r2) := by first | (rw [hji10] at H; exact H) | (simp only [hji10] at H ⊢; exact H)
     (try rw [hji10] at A7)
     have hji10_ : (IntKind.u64.wrap (a2 * 2 ^ min (ji8).toNat 64)) = ji10 := hji10
     have hji10z : (ji8) ≤ 64 → (IntKind.u64.wrap (a2 * 2 ^ (ji8).toNat)) = ji10 := qVx hji10
     have c11b0 := eq_true (yd : 0 ≤ (ji8))
     obtain ⟨ji12, hji12⟩ : ∃ j_ : Int, (shl .u64 a0 (ji8)) = j_ := ⟨_, rfl⟩
     replace H : (if 0 ≤ (IntKind.u64.wrap (64 - (ji8))) then (if ((ji10) / 4294967296) = 0 then (none) else (qQ2.l0 k ji10 ji8 ((ji10) / 4294967296) (Go.bits .and .u64 (ji10) 4294967295) (Go.bits .or .u64 (ji12) (shr .u64 a1 (IntKind.u64.wrap (64 - (ji8))))) ((shl .u64 a1 (ji8)) / 4294967296) (Go.bits .and .u64 (shl .u64 a1 (ji8)) 4294967295) (IntKind.u64.wrap (Int.tdiv (Go.bits .or .u64 (ji12) (shr .u64 a1 (IntKind.u64.wrap (64 - (ji8))))) ((ji10) / 4294967296))) (IntKind.u64.wrap ((Go.bits .or .u64 (ji12) (shr .u64 a1 (IntKind.u64.wrap (64 - (ji8))))) - (IntKind.u64.wrap ((IntKind.u64.wrap (Int.tdiv (Go.bits .or .u64 (ji12) (shr .u64 a1 (IntKind.u64.wrap (64 - (ji8))))) ((ji10) / 4294967296))) * ((ji10) / 4294967296))))))) else (none)) = some (r1, r2) := by first | (rw [hji12] at H; exact H) | (simp only [hji12] at H ⊢; exact H)
     (try rw [hji12] at A7)
     have hji12_ : (IntKind.u64.wrap (a0 * 2 ^ min (ji8).toNat 64)) = ji12 := hji12
     have hji12z : (ji8) ≤ 64 → (IntKind.u64.wrap (a0 * 2 ^ (ji8).toNat)) = ji12 := qVx hji12
     obtain ⟨ji13, hji13⟩ : ∃ j_ : Int, (IntKind.u64.wrap (64 - (ji8))) = j_ := ⟨_, rfl⟩
     replace H : (if 0 ≤ (ji13) then (if ((ji10) / 4294967296) = 0 then (none) else (qQ2.l0 k ji10 ji8 ((ji10) / 4294967296) (Go.bits .and .u64 (ji10) 4294967295) (Go.bits .or .u64 (ji12) (shr .u64 a1 (ji13))) ((shl .u64 a1 (ji8)) / 4294967296) (Go.bits .and .u64 (shl .u64 a1 (ji8)) 4294967295) (IntKind.u64.wrap (Int.tdiv (Go.bits .or .u64 (ji12) (shr .u64 a1 (ji13))) ((ji10) / 4294967296))) (IntKind.u64.wrap ((Go.bits .or .u64 (ji12) (shr .u64 a1 (ji13))) - (IntKind.u64.wrap ((IntKind.u64.wrap (Int.tdiv (Go.bits .or .u64 (ji12) (shr .u64 a1 (ji13))) ((ji10) / 4294967296))) * ((ji10) / 4294967296))))))) else (none)) = some (r1, r2) := by first | (rw [hji13] at H; exact H) | (simp only [hji13] at H ⊢; exact H)
     (try rw [hji13] at A7)
     by_cases c14 : 0 ≤ (ji13)
     ·rw [if_pos c14] at H
      have c14b0 := eq_true c14
      have c14b1 : decide (0 ≤ (ji13)) = true := decide_eq_true c14
      clear c14
      obtain ⟨ji15, hji15⟩ : ∃ j_ : Int, (shr .u64 a1 (ji13)) = j_ := ⟨_, rfl⟩
      replace H : (if ((ji10) / 4294967296) = 0 then (none) else (qQ2.l0 k ji10 ji8 ((ji10) / 4294967296) (Go.bits .and .u64 (ji10) 4294967295) (Go.bits .or .u64 (ji12) (ji15)) ((shl .u64 a1 (ji8)) / 4294967296) (Go.bits .and .u64 (shl .u64 a1 (ji8)) 4294967295) (IntKind.u64.wrap (Int.tdiv (Go.bits .or .u64 (ji12) (ji15)) ((ji10) / 4294967296))) (IntKind.u64.wrap ((Go.bits .or .u64 (ji12) (ji15)) - (IntKind.u64.wrap ((IntKind.u64.wrap (Int.tdiv (Go.bits .or .u64 (ji12) (ji15)) ((ji10) / 4294967296))) * ((ji10) / 4294967296))))))) = some (r1, r2) := by first | (rw [hji15] at H; exact H) | (simp only [hji15] at H ⊢; exact H)
      (try rw [hji15] at A7)
      have hji15_ : (a1 / 2 ^ min (ji13).toNat 64) = ji15 := hji15
      have hji15z : (ji13) ≤ 64 → (a1 / 2 ^ (ji13).toNat) = ji15 := qW7 hji15
      have c16b0 := eq_true (yd : 0 ≤ (ji8))
      obtain ⟨ji17, hji17⟩ : ∃ j_ : Int, (shl .u64 a1 (ji8)) = j_ := ⟨_, rfl⟩
      replace H : (if ((ji10) / 4294967296) = 0 then (none) else (qQ2.l0 k ji10 ji8 ((ji10) / 4294967296) (Go.bits .and .u64 (ji10) 4294967295) (Go.bits .or .u64 (ji12) (ji15)) ((ji17) / 4294967296) (Go.bits .and .u64 (ji17) 4294967295) (IntKind.u64.wrap (Int.tdiv (Go.bits .or .u64 (ji12) (ji15)) ((ji10) / 4294967296))) (IntKind.u64.wrap ((Go.bits .or .u64 (ji12) (ji15)) - (IntKind.u64.wrap ((IntKind.u64.wrap (Int.tdiv (Go.bits .or .u64 (ji12) (ji15)) ((ji10) / 4294967296))) * ((ji10) / 4294967296))))))) = some (r1, r2) := by first | (rw [hji17] at H; exact H) | (simp only [hji17] at H ⊢; exact H)
      (try rw [hji17] at A7)
      have hji17_ : (IntKind.u64.wrap (a1 * 2 ^ min (ji8).toNat 64)) = ji17 := hji17
      have hji17z : (ji8) ≤ 64 → (IntKind.u64.wrap (a1 * 2 ^ (ji8).toNat)) = ji17 := qVx hji17
      by_cases c18 : ((ji10) / 4294967296) = 0
      ·rw [if_pos c18] at H
       exact absurd H (by simp)
      ·rw [if_neg c18] at H
       have c18b0 : (((ji10) / 4294967296) == 0) = false := beq_eq_false_iff_ne.mpr c18
       have c18b1 : (((ji10) / 4294967296) != 0) = true := bne_iff_ne.mpr c18
       have HC19 := am H
       clear H
       go_enter Tryz.func102, Tryz.ntmps102
       go_upto_block 0 with (first | (go_at_call 114; (with_reducible refine (bits_LeadingZeros64.calls a2 t128 _ A7.out).mono ?_); rintro e w' ⟨rfl, ⟨nd, rfl⟩⟩; (try first | exact ⟨rfl, _, World.drewN_drewN _ _ _⟩ | exact ⟨rfl, _, Eq.trans (World.drewN_drewN _ _ _) (congrArg (World.drewN _) (Nat.add_assoc _ _ _))⟩)))
       repeat (go_quiet (first | (go_at_call 114; (first | (with_reducible refine (bits_LeadingZeros64.calls a2 t128 _ A7.out).mono ?_) | (simp only [i64_w, i32_w]; with_reducible refine (bits_LeadingZeros64.calls a2 t128 _ A7.out).mono ?_)); rintro e w' ⟨rfl, ⟨nd, rfl⟩⟩; (try first | exact ⟨rfl, _, World.drewN_drewN _ _ _⟩ | exact ⟨rfl, _, Eq.trans (World.drewN_drewN _ _ _) (congrArg (World.drewN _) (Nat.add_assoc _ _ _))⟩))); go_upto_block 0 with (first | (go_at_call 114; (first | (with_reducible refine (bits_LeadingZeros64.calls a2 t128 _ A7.out).mono ?_) | (simp only [i64_w, i32_w]; with_reducible refine (bits_LeadingZeros64.calls a2 t128 _ A7.out).mono ?_)); rintro e w' ⟨rfl, ⟨nd, rfl⟩⟩; (try first | exact ⟨rfl, _, World.drewN_drewN _ _ _⟩ | exact ⟨rfl, _, Eq.trans (World.drewN_drewN _ _ _) (congrArg (World.drewN _) (Nat.add_assoc _ _ _))⟩))))
       (try simp only [Act.put, List.setIfInBounds_toArray, List.set_cons_zero, List.set_cons_succ])
       go_cut [15] (fun v15 wc => ∃ (kq : Nat) (x15_18 : Int), v15 = .int .u64 x15_18 ∧ Aside0 (qQ2.j2 kq ji10 ji8 ((ji10) / 4294967296) (Go.bits .and .u64 (ji10) 4294967295) (Go.bits .or .u64 (ji12) (ji15)) ((ji17) / 4294967296) (Go.bits .and .u64 (ji17) 4294967295) x15_18 = some (r1, r2)) ∧ Aside0 (kq ≤ k) ∧ Drawn0 w wc)
       case first =>
        have H := HC19.out
        clear HC19
        have H' := am H
        clear H
        go_wp2
        repeat (go_quiet (fail); try go_wp2)
        go_loopg [15, 16] k (fun kq v15 v16 w' => ∃ (x15_1 : Int) (x16_1 : Int), v15 = .int .u64 x15_1 ∧ v16 = .int .u64 x16_1 ∧ Aside0 (qQ2.l0 kq ji10 ji8 ((ji10) / 4294967296) (Go.bits .and .u64 (ji10) 4294967295) (Go.bits .or .u64 (ji12) (ji15)) ((ji17) / 4294967296) (Go.bits .and .u64 (ji17) 4294967295) x15_1 x16_1 = some (r1, r2)) ∧ Aside0 (kq ≤ k) ∧ Drawn0 w w')
        case atStart => exact ⟨(IntKind.u64.wrap (Int.tdiv (Go.bits .or .u64 (ji12) (ji15)) ((ji10) / 4294967296))), (IntKind.u64.wrap ((Go.bits .or .u64 (ji12) (ji15)) - (IntKind.u64.wrap ((IntKind.u64.wrap (Int.tdiv (Go.bits .or .u64 (ji12) (ji15)) ((ji10) / 4294967296))) * ((ji10) / 4294967296))))), (by first | rfl | (simp [i64_w, i32_w, qQq, qQr]; done) | (simp; done) | (simp only [← hji10, ← hji12, ← hji15] <;> (first | rfl | simp)) | (simp [*]; done)), (by first | rfl | (simp [i64_w, i32_w, qQq, qQr]; done) | (simp; done) | (simp only [← hji10, ← hji12, ← hji15] <;> (first | rfl | simp)) | (simp [*]; done)), H', ⟨Nat.le_refl _⟩, by repeat (first | exact Drawn0.refl _ | apply Drawn0.step)⟩
        case round =>
         clear H'
         try clear c4
         try clear c4b0 c4b1
         try clear c5
         try clear c5b0
         try clear c6
         try clear c6b0 c6b1
         try clear c9
         try clear c9b0 c9b1
         try clear c11b0
         try clear c14
         try clear c14b0 c14b1
         try clear c16b0
         try clear c18
         try clear c18b0 c18b1
         obtain ⟨x15_1, x16_1, rfl, rfl, HA, HK1, ⟨m1, rfl⟩⟩ := hrel
         rcases gk with _ | k1
         ·exact absurd HA.out (by simp [qQ2.l0])
         have H := HA.out
         clear HA
         simp only [qQ2.l0] at H
         have HC20 := am H
         clear H
         go_upto_region 17 with (fail)
         repeat (go_quiet (fail); go_upto_region 17 with (fail))
         go_cut [78] (fun v78 wc => ∃ (kq : Nat) (x78_19 : Bool), v78 = .bool x78_19 ∧ Aside0 (qQ2.j1 kq ji10 ji8 ((ji10) / 4294967296) (Go.bits .and .u64 (ji10) 4294967295) (Go.bits .or .u64 (ji12) (ji15)) ((ji17) / 4294967296) (Go.bits .and .u64 (ji17) 4294967295) x15_1 x16_1 x78_19 = some (r1, r2)) ∧ Aside0 (kq ≤ k1) ∧ Drawn0 w wc)
         case first =>
          have H := HC20.out
          clear HC20
          by_cases c21 : x15_1 ≥ 4294967296
          ·rw [if_pos c21] at H
           have c21b0 : decide (4294967296 ≤ x15_1) = true := decide_eq_true c21
           clear c21
           (first | rw [c21b0] | (simp only [i64_w, i32_w]; rw [c21b0]) | skip)
           have H' := am H
           clear H
           go_wp2
           repeat (go_quiet (fail); try go_wp2)
           go_meet
           case rel => exact ⟨_, (true), (by first | rfl | (simp [i64_w, i32_w, qQq, qQr]; done) | (simp; done) | (simp [*]; done)), H', ⟨by have := HK1.out; first | omega | exact Nat.le_refl _⟩, by repeat (first | exact Drawn0.refl _ | apply Drawn0.step)⟩
          ·rw [if_neg c21] at H
           have c21b0 : decide (4294967296 ≤ x15_1) = false := decide_eq_false c21
           clear c21
           (first | rw [c21b0] | (simp only [i64_w, i32_w]; rw [c21b0]) | skip)
           have H' := am H
           clear H
           go_wp2
           repeat (go_quiet (fail); try go_wp2)
           go_meet
           case rel => exact ⟨_, (decide ((IntKind.u64.wrap (x15_1 * (Go.bits .and .u64 (ji10) 4294967295))) > (IntKind.u64.wrap ((IntKind.u64.wrap (4294967296 * x16_1)) + ((ji17) / 4294967296))))), (by first | rfl | (simp [i64_w, i32_w, qQq, qQr]; done) | (simp; done) | (simp only [← hji10, ← hji17] <;> (first | rfl | simp)) | (simp [*]; done)), H', ⟨by have := HK1.out; first | omega | exact Nat.le_refl _⟩, by repeat (first | exact Drawn0.refl _ | apply Drawn0.step)⟩
         case rest =>
          clear HC20
          try clear c4
          try clear c4b0 c4b1
          try clear c5
          try clear c5b0
          try clear c6
          try clear c6b0 c6b1
          try clear c9
          try clear c9b0 c9b1
          try clear c11b0
          try clear c14
          try clear c14b0 c14b1
          try clear c16b0
          try clear c18
          try clear c18b0 c18b1
          try clear c21
          try clear c21b0
          obtain ⟨kq, x78_19, rfl, HA, HJ19, ⟨mc19, rfl⟩⟩ := hcut
          rcases kq with _ | kj19
          ·exact absurd HA.out (by simp [qQ2.j1])
          have H := HA.out
          clear HA
          simp only [qQ2.j1] at H
          by_cases c22 : x78_19 = true
          ·subst c22
           have H1 : (if (IntKind.u64.wrap (x16_1 + ((ji10) / 4294967296))) ≥ 4294967296 then (qQ2.j2 kj19 ji10 ji8 ((ji10) / 4294967296) (Go.bits .and .u64 (ji10) 4294967295) (Go.bits .or .u64 (ji12) (ji15)) ((ji17) / 4294967296) (Go.bits .and .u64 (ji17) 4294967295) (IntKind.u64.wrap (x15_1 - 1))) else (qQ2.l0 kj19 ji10 ji8 ((ji10) / 4294967296) (Go.bits .and .u64 (ji10) 4294967295) (Go.bits .or .u64 (ji12) (ji15)) ((ji17) / 4294967296) (Go.bits .and .u64 (ji17) 4294967295) (IntKind.u64.wrap (x15_1 - 1)) (IntKind.u64.wrap (x16_1 + ((ji10) / 4294967296))))) = some (r1, r2) := by rw [if_pos rfl] at H; exact H
           clear H
           have H := H1
           clear H1
           by_cases c23 : (IntKind.u64.wrap (x16_1 + ((ji10) / 4294967296))) ≥ 4294967296
           ·rw [if_pos c23] at H
            have c23b0 : decide (4294967296 ≤ (IntKind.u64.wrap (x16_1 + ((ji10) / 4294967296)))) = true := decide_eq_true c23
            clear c23
            have H' := am H
            clear H
            go_wp2
            repeat (go_quiet (fail); try go_wp2)
            go_meet
            case rel => exact ⟨_, (IntKind.u64.wrap (x15_1 - 1)), (by first | rfl | (simp [i64_w, i32_w, qQq, qQr]; done) | (simp; done) | (simp [*]; done)), H', ⟨by have := HK1.out; have := HJ19.out; first | omega | exact Nat.le_refl _⟩, by repeat (first | exact Drawn0.refl _ | apply Drawn0.step)⟩
           ·rw [if_neg c23] at H
            have c23b0 : decide (4294967296 ≤ (IntKind.u64.wrap (x16_1 + ((ji10) / 4294967296)))) = false := decide_eq_false c23
            clear c23
            have H' := am H
            clear H
            go_wp2
            repeat (go_quiet (fail); try go_wp2)
            go_roundg kj19
            case measure => have := HK1.out; have := HJ19.out; omega
            case rel => exact ⟨(IntKind.u64.wrap (x15_1 - 1)), (IntKind.u64.wrap (x16_1 + ((ji10) / 4294967296))), (by first | rfl | (simp [i64_w, i32_w, qQq, qQr]; done) | (simp; done) | (simp [*]; done)), (by first | rfl | (simp [i64_w, i32_w, qQq, qQr]; done) | (simp; done) | (simp only [← hji10] <;> (first | rfl | simp)) | (simp [*]; done)), H', ⟨by have := HK1.out; have := HJ19.out; omega⟩, by repeat (first | exact Drawn0.refl _ | apply Drawn0.step)⟩
          ·replace c22 := Bool.eq_false_iff.mpr c22
           subst c22
           have H1 : (qQ2.j2 kj19 ji10 ji8 ((ji10) / 4294967296) (Go.bits .and .u64 (ji10) 4294967295) (Go.bits .or .u64 (ji12) (ji15)) ((ji17) / 4294967296) (Go.bits .and .u64 (ji17) 4294967295) x15_1) = some (r1, r2) := by rw [if_neg (show ¬ (false = true) by decide)] at H; exact H
           clear H
           have H := H1
           clear H1
           have H' := am H
           clear H
           go_wp2
           repeat (go_quiet (fail); try go_wp2)
           go_meet
           case rel => exact ⟨_, (x15_1), (by first | rfl | (simp [i64_w, i32_w, qQq, qQr]; done) | (simp; done) | (simp [*]; done)), H', ⟨by have := HK1.out; have := HJ19.out; first | omega | exact Nat.le_refl _⟩, by repeat (first | exact Drawn0.refl _ | apply Drawn0.step)⟩
       case rest =>
        clear HC19
        try clear c4
        try clear c4b0 c4b1
        try clear c5
        try clear c5b0
        try clear c6
        try clear c6b0 c6b1
        try clear c9
        try clear c9b0 c9b1
        try clear c11b0
        try clear c14
        try clear c14b0 c14b1
        try clear c16b0
        try clear c18
        try clear c18b0 c18b1
        try clear c21
        try clear c21b0
        try clear c22
        try clear c23
        try clear c23b0
        obtain ⟨kq, x15_18, rfl, HA, HJ18, ⟨mc18, rfl⟩⟩ := hcut
        rcases kq with _ | kj18
        ·exact absurd HA.out (by simp [qQ2.j2])
        have H := HA.out
        clear HA
        simp only [qQ2.j2] at H
        by_cases c24 : ((ji10) / 4294967296) = 0
        ·rw [if_pos c24] at H
         exact absurd H (by simp)
        ·rw [if_neg c24] at H
         have c24b0 : (((ji10) / 4294967296) == 0) = false := beq_eq_false_iff_ne.mpr c24
         have c24b1 : (((ji10) / 4294967296) != 0) = true := bne_iff_ne.mpr c24
         have H' := am H
         clear H
         go_wp2
         repeat (go_quiet (fail); try go_wp2)
         go_loopg [16, 18] kj18 (fun kq v16 v18 w' => ∃ (x16_2 : Int) (x18_2 : Int), v16 = .int .u64 x16_2 ∧ v18 = .int .u64 x18_2 ∧ Aside0 (qQ2.l1 kq ji10 ji8 ((ji10) / 4294967296) (Go.bits .and .u64 (ji10) 4294967295) (Go.bits .and .u64 (ji17) 4294967295) x15_18 x16_2 (IntKind.u64.wrap ((IntKind.u64.wrap ((IntKind.u64.wrap ((Go.bits .or .u64 (ji12) (ji15)) * 4294967296)) + ((ji17) / 4294967296))) - (IntKind.u64.wrap (x15_18 * ji10)))) x18_2 = some (r1, r2)) ∧ Aside0 (kq ≤ kj18) ∧ Drawn0 w w')
         case atStart => exact ⟨(IntKind.u64.wrap ((IntKind.u64.wrap ((IntKind.u64.wrap ((IntKind.u64.wrap ((Go.bits .or .u64 (ji12) (ji15)) * 4294967296)) + ((ji17) / 4294967296))) - (IntKind.u64.wrap (x15_18 * ji10)))) - (IntKind.u64.wrap ((IntKind.u64.wrap (Int.tdiv (IntKind.u64.wrap ((IntKind.u64.wrap ((IntKind.u64.wrap ((Go.bits .or .u64 (ji12) (ji15)) * 4294967296)) + ((ji17) / 4294967296))) - (IntKind.u64.wrap (x15_18 * ji10)))) ((ji10) / 4294967296))) * ((ji10) / 4294967296))))), (IntKind.u64.wrap (Int.tdiv (IntKind.u64.wrap ((IntKind.u64.wrap ((IntKind.u64.wrap ((Go.bits .or .u64 (ji12) (ji15)) * 4294967296)) + ((ji17) / 4294967296))) - (IntKind.u64.wrap (x15_18 * ji10)))) ((ji10) / 4294967296))), (by first | rfl | (simp [i64_w, i32_w, qQq, qQr]; done) | (simp; done) | (simp only [← hji10, ← hji12, ← hji15, ← hji17] <;> (first | rfl | simp)) | (simp [*]; done)), (by first | rfl | (simp [i64_w, i32_w, qQq, qQr]; done) | (simp; done) | (simp only [← hji10, ← hji12, ← hji15, ← hji17] <;> (first | rfl | simp)) | (simp [*]; done)), H', ⟨Nat.le_refl _⟩, by repeat (first | exact Drawn0.refl _ | apply Drawn0.step)⟩
         case round =>
          clear H'
          try clear c4
          try clear c4b0 c4b1
          try clear c5
          try clear c5b0
          try clear c6
          try clear c6b0 c6b1
          try clear c9
          try clear c9b0 c9b1
          try clear c11b0
          try clear c14
          try clear c14b0 c14b1
          try clear c16b0
          try clear c18
          try clear c18b0 c18b1
          try clear c21
          try clear c21b0
          try clear c22
          try clear c23
          try clear c23b0
          try clear c24
          try clear c24b0 c24b1
          obtain ⟨x16_2, x18_2, rfl, rfl, HA, HK2, ⟨m2, rfl⟩⟩ := hrel
          rcases gk with _ | k2
          ·exact absurd HA.out (by simp [qQ2.l1])
          have H := HA.out
          clear HA
          simp only [qQ2.l1] at H
          have HC25 := am H
          clear H
          go_upto_region 24 with (fail)
          repeat (go_quiet (fail); go_upto_region 24 with (fail))
          go_cut [113] (fun v113 wc => ∃ (kq : Nat) (x113_24 : Bool), v113 = .bool x113_24 ∧ Aside0 (qQ2.j4 kq ji10 ji8 ((ji10) / 4294967296) (Go.bits .and .u64 (ji10) 4294967295) (Go.bits .and .u64 (ji17) 4294967295) x15_18 x16_2 (IntKind.u64.wrap ((IntKind.u64.wrap ((IntKind.u64.wrap ((Go.bits .or .u64 (ji12) (ji15)) * 4294967296)) + ((ji17) / 4294967296))) - (IntKind.u64.wrap (x15_18 * ji10)))) x18_2 x113_24 = some (r1, r2)) ∧ Aside0 (kq ≤ k2) ∧ Drawn0 w wc)
          case first =>
           have H := HC25.out
           clear HC25
           by_cases c26 : x18_2 ≥ 4294967296
           ·rw [if_pos c26] at H
            have c26b0 : decide (4294967296 ≤ x18_2) = true := decide_eq_true c26
            clear c26
            (first | rw [c26b0] | (simp only [i64_w, i32_w]; rw [c26b0]) | skip)
            have H' := am H
            clear H
            go_wp2
            repeat (go_quiet (fail); try go_wp2)
            go_meet
            case rel => exact ⟨_, (true), (by first | rfl | (simp [i64_w, i32_w, qQq, qQr]; done) | (simp; done) | (simp [*]; done)), H', ⟨by have := HJ18.out; have := HK2.out; first | omega | exact Nat.le_refl _⟩, by repeat (first | exact Drawn0.refl _ | apply Drawn0.step)⟩
           ·rw [if_neg c26] at H
            have c26b0 : decide (4294967296 ≤ x18_2) = false := decide_eq_false c26
            clear c26
            (first | rw [c26b0] | (simp only [i64_w, i32_w]; rw [c26b0]) | skip)
            have H' := am H
            clear H
            go_wp2
            repeat (go_quiet (fail); try go_wp2)
            go_meet
            case rel => exact ⟨_, (decide ((IntKind.u64.wrap (x18_2 * (Go.bits .and .u64 (ji10) 4294967295))) > (IntKind.u64.wrap ((IntKind.u64.wrap (4294967296 * x16_2)) + (Go.bits .and .u64 (ji17) 4294967295))))), (by first | rfl | (simp [i64_w, i32_w, qQq, qQr]; done) | (simp; done) | (simp only [← hji10, ← hji17] <;> (first | rfl | simp)) | (simp [*]; done)), H', ⟨by have := HJ18.out; have := HK2.out; first | omega | exact Nat.le_refl _⟩, by repeat (first | exact Drawn0.refl _ | apply Drawn0.step)⟩
          case rest =>
           clear HC25
           try clear c4
           try clear c4b0 c4b1
           try clear c5
           try clear c5b0
           try clear c6
           try clear c6b0 c6b1
           try clear c9
           try clear c9b0 c9b1
           try clear c11b0
           try clear c14
           try clear c14b0 c14b1
           try clear c16b0
           try clear c18
           try clear c18b0 c18b1
           try clear c21
           try clear c21b0
           try clear c22
           try clear c23
           try clear c23b0
           try clear c24
           try clear c24b0 c24b1
           try clear c26
           try clear c26b0
           obtain ⟨kq, x113_24, rfl, HA, HJ24, ⟨mc24, rfl⟩⟩ := hcut
           rcases kq with _ | kj24
           ·exact absurd HA.out (by simp [qQ2.j4])
           have H := HA.out
           clear HA
           simp only [qQ2.j4] at H
           by_cases c27 : x113_24 = true
           ·subst c27
            have H1 : (if (IntKind.u64.wrap (x16_2 + ((ji10) / 4294967296))) ≥ 4294967296 then (if 0 ≤ ji8 then (some (IntKind.u64.wrap ((IntKind.u64.wrap (x15_18 * 4294967296)) + (IntKind.u64.wrap (x18_2 - 1))), shr .u64 (IntKind.u64.wrap ((IntKind.u64.wrap ((IntKind.u64.wrap ((IntKind.u64.wrap ((IntKind.u64.wrap ((IntKind.u64.wrap ((Go.bits .or .u64 (ji12) (ji15)) * 4294967296)) + ((ji17) / 4294967296))) - (IntKind.u64.wrap (x15_18 * ji10)))) * 4294967296)) + (Go.bits .and .u64 (ji17) 4294967295))) - (IntKind.u64.wrap ((IntKind.u64.wrap (x18_2 - 1)) * ji10)))) ji8)) else (none)) else (qQ2.l1 kj24 ji10 ji8 ((ji10) / 4294967296) (Go.bits .and .u64 (ji10) 4294967295) (Go.bits .and .u64 (ji17) 4294967295) x15_18 (IntKind.u64.wrap (x16_2 + ((ji10) / 4294967296))) (IntKind.u64.wrap ((IntKind.u64.wrap ((IntKind.u64.wrap ((Go.bits .or .u64 (ji12) (ji15)) * 4294967296)) + ((ji17) / 4294967296))) - (IntKind.u64.wrap (x15_18 * ji10)))) (IntKind.u64.wrap (x18_2 - 1)))) = some (r1, r2) := by rw [if_pos rfl] at H; exact H
            clear H
            have H := H1
            clear H1
            by_cases c28 : (IntKind.u64.wrap (x16_2 + ((ji10) / 4294967296))) ≥ 4294967296
            ·rw [if_pos c28] at H
             have c28b0 : decide (4294967296 ≤ (IntKind.u64.wrap (x16_2 + ((ji10) / 4294967296)))) = true := decide_eq_true c28
             clear c28
             by_cases c29 : 0 ≤ ji8
             ·rw [if_pos c29] at H
              have c29b0 := eq_true c29
              have c29b1 : decide (0 ≤ ji8) = true := decide_eq_true c29
              clear c29
              obtain ⟨ji30, hji30⟩ : ∃ j_ : Int, (shr .u64 (IntKind.u64.wrap ((IntKind.u64.wrap ((IntKind.u64.wrap ((IntKind.u64.wrap ((IntKind.u64.wrap ((IntKind.u64.wrap ((Go.bits .or .u64 (ji12) (ji15)) * 4294967296)) + ((ji17) / 4294967296))) - (IntKind.u64.wrap (x15_18 * ji10)))) * 4294967296)) + (Go.bits .and .u64 (ji17) 4294967295))) - (IntKind.u64.wrap ((IntKind.u64.wrap (x18_2 - 1)) * ji10)))) ji8) = j_ := ⟨_, rfl⟩
              replace H : (some (IntKind.u64.wrap ((IntKind.u64.wrap (x15_18 * 4294967296)) + (IntKind.u64.wrap (x18_2 - 1))), ji30)) = some (r1, r2) := by first | (rw [hji30] at H; exact H) | (simp only [hji30] at H ⊢; exact H)
              have hji30_ : ((IntKind.u64.wrap ((IntKind.u64.wrap ((IntKind.u64.wrap ((IntKind.u64.wrap ((IntKind.u64.wrap ((IntKind.u64.wrap ((Go.bits .or .u64 (ji12) (ji15)) * 4294967296)) + ((ji17) / 4294967296))) - (IntKind.u64.wrap (x15_18 * ji10)))) * 4294967296)) + (Go.bits .and .u64 (ji17) 4294967295))) - (IntKind.u64.wrap ((IntKind.u64.wrap (x18_2 - 1)) * ji10)))) / 2 ^ min ji8.toNat 64) = ji30 := hji30
              have hji30z : ji8 ≤ 64 → ((IntKind.u64.wrap ((IntKind.u64.wrap ((IntKind.u64.wrap ((IntKind.u64.wrap ((IntKind.u64.wrap ((IntKind.u64.wrap ((Go.bits .or .u64 (ji12) (ji15)) * 4294967296)) + ((ji17) / 4294967296))) - (IntKind.u64.wrap (x15_18 * ji10)))) * 4294967296)) + (Go.bits .and .u64 (ji17) 4294967295))) - (IntKind.u64.wrap ((IntKind.u64.wrap (x18_2 - 1)) * ji10)))) / 2 ^ ji8.toNat) = ji30 := qW7 hji30
              simp only [Option.some.injEq, Prod.mk.injEq] at H
              obtain ⟨rfl, rfl⟩ := H
              go_wp2
              repeat (go_quiet (fail); try go_wp2)
              go_ret2
              exact ⟨by first | rfl | (simp [i64_w, i32_w, qQq, qQr]; done) | (simp; done) | (simp only [← hji8, ← hji10, ← hji12, ← hji13, ← hji15, ← hji17, ← hji30] <;> (first | rfl | simp)) | (simp [*]; done), by repeat (first | exact Drawn0.refl _ | apply Drawn0.step)⟩
             ·rw [if_neg c29] at H
              exact absurd H (by simp)
            ·rw [if_neg c28] at H
             have c28b0 : decide (4294967296 ≤ (IntKind.u64.wrap (x16_2 + ((ji10) / 4294967296)))) = false := decide_eq_false c28
             clear c28
             have H' := am H
             clear H
             go_wp2
             repeat (go_quiet (fail); try go_wp2)
             go_roundg kj24
             case measure => have := HJ18.out; have := HK2.out; have := HJ24.out; omega
             case rel => exact ⟨(IntKind.u64.wrap (x16_2 + ((ji10) / 4294967296))), (IntKind.u64.wrap (x18_2 - 1)), (by first | rfl | (simp [i64_w, i32_w, qQq, qQr]; done) | (simp; done) | (simp only [← hji10] <;> (first | rfl | simp)) | (simp [*]; done)), (by first | rfl | (simp [i64_w, i32_w, qQq, qQr]; done) | (simp; done) | (simp [*]; done)), H', ⟨by have := HJ18.out; have := HK2.out; have := HJ24.out; omega⟩, by repeat (first | exact Drawn0.refl _ | apply Drawn0.step)⟩
           ·replace c27 := Bool.eq_false_iff.mpr c27
            subst c27
            have H1 : (if 0 ≤ ji8 then (some (IntKind.u64.wrap ((IntKind.u64.wrap (x15_18 * 4294967296)) + x18_2), shr .u64 (IntKind.u64.wrap ((IntKind.u64.wrap ((IntKind.u64.wrap ((IntKind.u64.wrap ((IntKind.u64.wrap ((IntKind.u64.wrap ((Go.bits .or .u64 (ji12) (ji15)) * 4294967296)) + ((ji17) / 4294967296))) - (IntKind.u64.wrap (x15_18 * ji10)))) * 4294967296)) + (Go.bits .and .u64 (ji17) 4294967295))) - (IntKind.u64.wrap (x18_2 * ji10)))) ji8)) else (none)) = some (r1, r2) := by rw [if_neg (show ¬ (false = true) by decide)] at H; exact H
            clear H
            have H := H1
            clear H1
            by_cases c31 : 0 ≤ ji8
            ·rw [if_pos c31] at H
             have c31b0 := eq_true c31
             have c31b1 : decide (0 ≤ ji8) = true := decide_eq_true c31
             clear c31
             obtain ⟨ji32, hji32⟩ : ∃ j_ : Int, (shr .u64 (IntKind.u64.wrap ((IntKind.u64.wrap ((IntKind.u64.wrap ((IntKind.u64.wrap ((IntKind.u64.wrap ((IntKind.u64.wrap ((Go.bits .or .u64 (ji12) (ji15)) * 4294967296)) + ((ji17) / 4294967296))) - (IntKind.u64.wrap (x15_18 * ji10)))) * 4294967296)) + (Go.bits .and .u64 (ji17) 4294967295))) - (IntKind.u64.wrap (x18_2 * ji10)))) ji8) = j_ := ⟨_, rfl⟩
             replace H : (some (IntKind.u64.wrap ((IntKind.u64.wrap (x15_18 * 4294967296)) + x18_2), ji32)) = some (r1, r2) := by first | (rw [hji32] at H; exact H) | (simp only [hji32] at H ⊢; exact H)
             have hji32_ : ((IntKind.u64.wrap ((IntKind.u64.wrap ((IntKind.u64.wrap ((IntKind.u64.wrap ((IntKind.u64.wrap ((IntKind.u64.wrap ((Go.bits .or .u64 (ji12) (ji15)) * 4294967296)) + ((ji17) / 4294967296))) - (IntKind.u64.wrap (x15_18 * ji10)))) * 4294967296)) + (Go.bits .and .u64 (ji17) 4294967295))) - (IntKind.u64.wrap (x18_2 * ji10)))) / 2 ^ min ji8.toNat 64) = ji32 := hji32
             have hji32z : ji8 ≤ 64 → ((IntKind.u64.wrap ((IntKind.u64.wrap ((IntKind.u64.wrap ((IntKind.u64.wrap ((IntKind.u64.wrap ((IntKind.u64.wrap ((Go.bits .or .u64 (ji12) (ji15)) * 4294967296)) + ((ji17) / 4294967296))) - (IntKind.u64.wrap (x15_18 * ji10)))) * 4294967296)) + (Go.bits .and .u64 (ji17) 4294967295))) - (IntKind.u64.wrap (x18_2 * ji10)))) / 2 ^ ji8.toNat) = ji32 := qW7 hji32
             simp only [Option.some.injEq, Prod.mk.injEq] at H
             obtain ⟨rfl, rfl⟩ := H
             go_wp2
             repeat (go_quiet (fail); try go_wp2)
             go_ret2
             exact ⟨by first | rfl | (simp [i64_w, i32_w, qQq, qQr]; done) | (simp; done) | (simp only [← hji8, ← hji10, ← hji12, ← hji13, ← hji15, ← hji17, ← hji32] <;> (first | rfl | simp)) | (simp [*]; done), by repeat (first | exact Drawn0.refl _ | apply Drawn0.step)⟩
            ·rw [if_neg c31] at H
             exact absurd H (by simp)
     ·rw [if_neg c14] at H
      exact absurd H (by simp)
    ·rw [if_neg c9] at H
     exact absurd H (by simp)
def qY6.f (k : Nat) (a0 : Int) (a1 : Int) (a2 : Int) : Option (Int × Int × Bool) := if a2 = 0 then (some (0, 0, false)) else (if a0 ≥ a2 then (some (0, 0, false)) else ((qQ2.f k a0 a1 a2).bind fun bt129 => (some (bt129.1, bt129.2, true))))
set_option maxHeartbeats 8000000 in
set_option maxRecDepth 100000 in
theorem qY6.calls (k : Nat) (a0 : Int) (a1 : Int) (a2 : Int) (r1 : Int) (r2 : Int) (r3 : Bool) (w : World) (h : qY6.f k a0 a1 a2 = some (r1, r2, r3)) :
    Calls Tryz.prog 83 #[.int .u64 a0, .int .u64 a1, .int .u64 a2] w fun e w' => e = .returned (.tuple #[.int .u64 r1, .int .u64 r2, .bool r3]) ∧ Drawn0 w w' := by
  have H : (if a2 = 0 then (some (0, 0, false)) else (if a0 ≥ a2 then (some (0, 0, false)) else ((qQ2.f k a0 a1 a2).bind fun bt129 => (some (bt129.1, bt129.2, true))))) = some (r1, r2, r3) := h
  clear h
  by_cases c4 : a2 = 0
  · rw [if_pos c4] at H
    have c4b0 : (a2 == 0) = true := beq_iff_eq.mpr c4
    have c4b1 : (a2 != 0) = false := bne_eq_false_iff_eq.mpr c4
    clear c4
    simp only [Option.some.injEq, Prod.mk.injEq] at H
    obtain ⟨rfl, rfl, rfl⟩ := H
    go_enter Tryz.func83, Tryz.ntmps83
    go_wp2
    go_ret3
    exact ⟨by first | rfl | (simp; done) | (simp [*]; done), by repeat (first | exact Drawn0.refl _ | apply Drawn0.step)⟩
  · rw [if_neg c4] at H
    have c4b0 : (a2 == 0) = false := beq_eq_false_iff_ne.mpr c4
    have c4b1 : (a2 != 0) = true := bne_iff_ne.mpr c4
    by_cases c5 : a0 ≥ a2
    · rw [if_pos c5] at H
      have c5b0 : decide (a2 ≤ a0) = true := decide_eq_true c5
      clear c5
      simp only [Option.some.injEq, Prod.mk.injEq] at H
      obtain ⟨rfl, rfl, rfl⟩ := H
      go_enter Tryz.func83, Tryz.ntmps83
      go_wp2
      go_ret3
      exact ⟨by first | rfl | (simp; done) | (simp [*]; done), by repeat (first | exact Drawn0.refl _ | apply Drawn0.step)⟩
    · rw [if_neg c5] at H
      have c5b0 : decide (a2 ≤ a0) = false := decide_eq_false c5
      clear c5
      replace H := Option.bind_eq_some_iff.mp H
      obtain ⟨⟨t129, t130⟩, A60, H⟩ := H
      replace H : (some (t129, t130, true)) = some (r1, r2, r3) := H
      have A6 := am A60
      clear A60
      simp only [Option.some.injEq, Prod.mk.injEq] at H
      obtain ⟨rfl, rfl, rfl⟩ := H
      go_enter Tryz.func83, Tryz.ntmps83
      go_wp2_with (first | ((with_reducible refine qQh (f := 102) rfl ?_); refine goesL_ (some 20) rfl rfl Tryz.func102 (by kernel_rfl) rfl #[.int .u64 a0, .int .u64 a1, .int .u64 a2] rfl ml ?_; (with_reducible refine (qQ2.calls k a0 a1 a2 t129 t130 _ A6.out).mono ?_); rintro e w' ⟨rfl, ⟨nd, rfl⟩⟩; refine ⟨_, rfl, ?_⟩))
      go_ret3
      exact ⟨by first | rfl | (simp; done) | (simp [*]; done), by repeat (first | exact Drawn0.refl _ | apply Drawn0.step)⟩
mutual
def qQo.j0 : Nat → Int → Int → Int → Int → Bool → Option (Int × Int)
 | 0, _, _, _, _, _ => none
 | k + 1, x0, x1, x2, x3, x34 => if x34 = true then (some (0, 1)) else ((qXl.f (IntKind.u64.wrap (x0)) (IntKind.u64.wrap (x1))).bind fun bt131 => ((qY6.f k bt131.1 bt131.2 (IntKind.u64.wrap (x2))).bind fun bt133 => (if bt133.2.2 = true then (qQo.j1 k x2 x3 bt133.1 bt133.2.1 (decide (bt133.1 > 10000000000000))) else (qQo.j1 k x2 x3 bt133.1 bt133.2.1 true))))
def qQo.j1 : Nat → Int → Int → Int → Int → Bool → Option (Int × Int)
 | 0, _, _, _, _, _ => none
 | k + 1, x2, x3, x12, x13, x57 => if x57 = true then (some (0, 14)) else (if x3 = 1 then (qQo.j2 k x12 (decide (x13 > 0))) else (if x3 = 2 then (if x13 > (IntKind.u64.wrap ((IntKind.u64.wrap (x2)) - x13)) then (qQo.j2 k x12 true) else (if x13 = (IntKind.u64.wrap ((IntKind.u64.wrap (x2)) - x13)) then (qQo.j2 k x12 ((Go.bits .and .u64 x12 1) == 1)) else (qQo.j2 k x12 false))) else (qQo.j2 k x12 false)))
def qQo.j2 : Nat → Int → Bool → Option (Int × Int)
 | 0, _, _ => none
 | k + 1, x12, x15 => if x15 = true then (if (IntKind.u64.wrap (x12 + 1)) > 10000000000000 then (some (0, 14)) else (some (wrap64 (IntKind.u64.wrap (x12 + 1)), 0))) else (if x12 > 10000000000000 then (some (0, 14)) else (some (wrap64 (x12), 0)))
end
def qQo.f (k : Nat) (a0 : Int) (a1 : Int) (a2 : Int) (a3 : Int) : Option (Int × Int) := if a0 < 0 then (qQo.j0 k a0 a1 a2 a3 true) else (if a1 < 0 then (qQo.j0 k a0 a1 a2 a3 true) else (if a2 ≤ 0 then (qQo.j0 k a0 a1 a2 a3 true) else (if a3 < 0 then (qQo.j0 k a0 a1 a2 a3 true) else (qQo.j0 k a0 a1 a2 a3 (decide (a3 > 2))))))
set_option maxHeartbeats 8000000 in
set_option maxRecDepth 100000 in
theorem qQo.calls (k : Nat) (a0 : Int) (a1 : Int) (a2 : Int) (a3 : Int) (r1 : Int) (r2 : Int) (w : World) (h : qQo.f k a0 a1 a2 a3 = some (r1, r2)) :
  Calls Tryz.prog 79 #[.int .i64 a0, .int .i64 a1, .int .i64 a2, .int .i64 a3] w fun e w' => e = .returned (.tuple #[.int .i64 r1, .int .i64 r2]) ∧ Drawn0 w w' := by
 have H : (if a0 < 0 then (qQo.j0 k a0 a1 a2 a3 true) else (if a1 < 0 then (qQo.j0 k a0 a1 a2 a3 true) else (if a2 ≤ 0 then (qQo.j0 k a0 a1 a2 a3 true) else (if a3 < 0 then (qQo.j0 k a0 a1 a2 a3 true) else (qQo.j0 k a0 a1 a2 a3 (decide (a3 > 2))))))) = some (r1, r2) := h
 clear h
 have HC5 := am H
 clear H
 go_enter Tryz.func79, Tryz.ntmps79
 go_upto_region 1 with (fail)
 go_cut [34] (fun v34 wc => ∃ (kq : Nat) (x34_4 : Bool), v34 = .bool x34_4 ∧ Aside0 (qQo.j0 kq a0 a1 a2 a3 x34_4 = some (r1, r2)) ∧ Aside0 (kq ≤ k) ∧ Drawn0 w wc)
 case first =>
  have H := HC5.out
  clear HC5
  by_cases c6 : a0 < 0
  ·rw [if_pos c6] at H
   have c6b0 : decide (a0 < 0) = true := decide_eq_true c6
   clear c6
   (first | rw [c6b0] | (simp only [i64_w, i32_w]; rw [c6b0]) | skip)
   have H' := am H
   clear H
   go_wp2
   go_meet
   case rel => exact ⟨_, (true), (by first | rfl | (simp; done) | (simp [*]; done)), H', ⟨by first | omega | exact Nat.le_refl _⟩, by repeat (first | exact Drawn0.refl _ | apply Drawn0.step)⟩
  ·rw [if_neg c6] at H
   have c6b0 : decide (a0 < 0) = false := decide_eq_false c6
   clear c6
   (first | rw [c6b0] | (simp only [i64_w, i32_w]; rw [c6b0]) | skip)
   by_cases c7 : a1 < 0
   ·rw [if_pos c7] at H
    have c7b0 : decide (a1 < 0) = true := decide_eq_true c7
    clear c7
    have H' := am H
    clear H
    go_wp2
    go_meet
    case rel => exact ⟨_, (true), (by first | rfl | (simp; done) | (simp [*]; done)), H', ⟨by first | omega | exact Nat.le_refl _⟩, by repeat (first | exact Drawn0.refl _ | apply Drawn0.step)⟩
   ·rw [if_neg c7] at H
    have c7b0 : decide (a1 < 0) = false := decide_eq_false c7
    clear c7
    by_cases c8 : a2 ≤ 0
    ·rw [if_pos c8] at H
     have c8b0 : decide (a2 ≤ 0) = true := decide_eq_true c8
     clear c8
     have H' := am H
     clear H
     go_wp2
     go_meet
     case rel => exact ⟨_, (true), (by first | rfl | (simp; done) | (simp [*]; done)), H', ⟨by first | omega | exact Nat.le_refl _⟩, by repeat (first | exact Drawn0.refl _ | apply Drawn0.step)⟩
    ·rw [if_neg c8] at H
     have c8b0 : decide (a2 ≤ 0) = false := decide_eq_false c8
     clear c8
     by_cases c9 : a3 < 0
     ·rw [if_pos c9] at H
      have c9b0 : decide (a3 < 0) = true := decide_eq_true c9
      clear c9
      have H' := am H
      clear H
      go_wp2
      go_meet
      case rel => exact ⟨_, (true), (by first | rfl | (simp; done) | (simp [*]; done)), H', ⟨by first | omega | exact Nat.le_refl _⟩, by repeat (first | exact Drawn0.refl _ | apply Drawn0.step)⟩
     ·rw [if_neg c9] at H
      have c9b0 : decide (a3 < 0) = false := decide_eq_false c9
      clear c9
      have H' := am H
      clear H
      go_wp2
      go_meet
      case rel => exact ⟨_, (decide (a3 > 2)), (by first | rfl | (simp; done) | (simp [*]; done)), H', ⟨by first | omega | exact Nat.le_refl _⟩, by repeat (first | exact Drawn0.refl _ | apply Drawn0.step)⟩
 case rest =>
  clear HC5
  try clear c6
  try clear c6b0
  try clear c7
  try clear c7b0
  try clear c8
  try clear c8b0
  try clear c9
  try clear c9b0
  obtain ⟨kq, x34_4, rfl, HA, HJ4, ⟨mc4, rfl⟩⟩ := hcut
  rcases kq with _ | kj4
  ·exact absurd HA.out (by simp [qQo.j0])
  have H := HA.out
  clear HA
  simp only [qQo.j0] at H
  by_cases c10 : x34_4 = true
  ·subst c10
   have H1 : (some (0, 1)) = some (r1, r2) := by rw [if_pos rfl] at H; exact H
   clear H
   have H := H1
   clear H1
   simp only [Option.some.injEq, Prod.mk.injEq] at H
   obtain ⟨rfl, rfl⟩ := H
   go_wp2
   go_ret2
   exact ⟨by first | rfl | (simp; done) | (simp [*]; done), by repeat (first | exact Drawn0.refl _ | apply Drawn0.step)⟩
  ·replace c10 := Bool.eq_false_iff.mpr c10
   subst c10
   have H1 : ((qXl.f (IntKind.u64.wrap (a0)) (IntKind.u64.wrap (a1))).bind fun bt131 => ((qY6.f kj4 bt131.1 bt131.2 (IntKind.u64.wrap (a2))).bind fun bt133 => (if bt133.2.2 = true then (qQo.j1 kj4 a2 a3 bt133.1 bt133.2.1 (decide (bt133.1 > 10000000000000))) else (qQo.j1 kj4 a2 a3 bt133.1 bt133.2.1 true)))) = some (r1, r2) := by rw [if_neg (show ¬ (false = true) by decide)] at H; exact H
   clear H
   have H := H1
   clear H1
   replace H := Option.bind_eq_some_iff.mp H
   obtain ⟨⟨t131, t132⟩, A110, H⟩ := H
   replace H : ((qY6.f kj4 t131 t132 (IntKind.u64.wrap (a2))).bind fun bt133 => (if bt133.2.2 = true then (qQo.j1 kj4 a2 a3 bt133.1 bt133.2.1 (decide (bt133.1 > 10000000000000))) else (qQo.j1 kj4 a2 a3 bt133.1 bt133.2.1 true))) = some (r1, r2) := H
   have A11 := am A110
   clear A110
   replace H := Option.bind_eq_some_iff.mp H
   obtain ⟨⟨t133, t134, t135⟩, A120, H⟩ := H
   replace H : (if t135 = true then (qQo.j1 kj4 a2 a3 t133 t134 (decide (t133 > 10000000000000))) else (qQo.j1 kj4 a2 a3 t133 t134 true)) = some (r1, r2) := H
   have A12 := am A120
   clear A120
   have HC13 := am H
   clear H
   go_upto_region 5 with (first | ((with_reducible refine qQh (f := 82) rfl ?_); refine goesL_ (some 40) rfl rfl Tryz.func82 (by kernel_rfl) rfl #[.int .u64 (IntKind.u64.wrap (a0)), .int .u64 (IntKind.u64.wrap (a1))] rfl ml ?_; (with_reducible refine (qXl.calls (IntKind.u64.wrap (a0)) (IntKind.u64.wrap (a1)) t131 t132 _ A11.out).mono ?_); rintro e w' ⟨rfl, ⟨nd, rfl⟩⟩; refine ⟨_, rfl, ?_⟩) | ((with_reducible refine qQh (f := 83) rfl ?_); refine goesL_ (some 48) rfl rfl Tryz.func83 (by kernel_rfl) rfl #[.int .u64 t131, .int .u64 t132, .int .u64 (IntKind.u64.wrap (a2))] rfl ml ?_; (with_reducible refine (qY6.calls kj4 t131 t132 (IntKind.u64.wrap (a2)) t133 t134 t135 _ A12.out).mono ?_); rintro e w' ⟨rfl, ⟨nd, rfl⟩⟩; refine ⟨_, rfl, ?_⟩))
   (try simp only [Act.put, List.setIfInBounds_toArray, List.set_cons_zero, List.set_cons_succ])
   go_cut [57] (fun v57 wc => ∃ (kq : Nat) (x57_12 : Bool), v57 = .bool x57_12 ∧ Aside0 (qQo.j1 kq a2 a3 t133 t134 x57_12 = some (r1, r2)) ∧ Aside0 (kq ≤ kj4) ∧ Drawn0 w wc)
   case first =>
    have H := HC13.out
    clear HC13
    by_cases c14 : t135 = true
    ·subst c14
     have H1 : (qQo.j1 kj4 a2 a3 t133 t134 (decide (t133 > 10000000000000))) = some (r1, r2) := by rw [if_pos rfl] at H; exact H
     clear H
     have H := H1
     clear H1
     have H' := am H
     clear H
     go_wp2
     go_meet
     case rel => exact ⟨_, (decide (t133 > 10000000000000)), (by first | rfl | (simp; done) | (simp [*]; done)), H', ⟨by have := HJ4.out; first | omega | exact Nat.le_refl _⟩, by repeat (first | exact Drawn0.refl _ | apply Drawn0.step)⟩
    ·replace c14 := Bool.eq_false_iff.mpr c14
     subst c14
     have H1 : (qQo.j1 kj4 a2 a3 t133 t134 true) = some (r1, r2) := by rw [if_neg (show ¬ (false = true) by decide)] at H; exact H
     clear H
     have H := H1
     clear H1
     have H' := am H
     clear H
     go_wp2
     go_meet
     case rel => exact ⟨_, (true), (by first | rfl | (simp; done) | (simp [*]; done)), H', ⟨by have := HJ4.out; first | omega | exact Nat.le_refl _⟩, by repeat (first | exact Drawn0.refl _ | apply Drawn0.step)⟩
   case rest =>
    clear HC13
    try clear c6
    try clear c6b0
    try clear c7
    try clear c7b0
    try clear c8
    try clear c8b0
    try clear c9
    try clear c9b0
    try clear c10
    try clear c14
    obtain ⟨kq, x57_12, rfl, HA, HJ12, ⟨mc12, rfl⟩⟩ := hcut
    rcases kq with _ | kj12
    ·exact absurd HA.out (by simp [qQo.j1])
    have H := HA.out
    clear HA
    simp only [qQo.j1] at H
    by_cases c15 : x57_12 = true
    ·subst c15
     have H1 : (some (0, 14)) = some (r1, r2) := by rw [if_pos rfl] at H; exact H
     clear H
     have H := H1
     clear H1
     simp only [Option.some.injEq, Prod.mk.injEq] at H
     obtain ⟨rfl, rfl⟩ := H
     go_wp2
     go_ret2
     exact ⟨by first | rfl | (simp; done) | (simp [*]; done), by repeat (first | exact Drawn0.refl _ | apply Drawn0.step)⟩
    ·replace c15 := Bool.eq_false_iff.mpr c15
     subst c15
     have H1 : (if a3 = 1 then (qQo.j2 kj12 t133 (decide (t134 > 0))) else (if a3 = 2 then (if t134 > (IntKind.u64.wrap ((IntKind.u64.wrap (a2)) - t134)) then (qQo.j2 kj12 t133 true) else (if t134 = (IntKind.u64.wrap ((IntKind.u64.wrap (a2)) - t134)) then (qQo.j2 kj12 t133 ((Go.bits .and .u64 t133 1) == 1)) else (qQo.j2 kj12 t133 false))) else (qQo.j2 kj12 t133 false))) = some (r1, r2) := by rw [if_neg (show ¬ (false = true) by decide)] at H; exact H
     clear H
     have H := H1
     clear H1
     have HC16 := am H
     clear H
     go_upto_block 0 with (fail)
     go_cut [15] (fun v15 wc => ∃ (kq : Nat) (x15_15 : Bool), v15 = .bool x15_15 ∧ Aside0 (qQo.j2 kq t133 x15_15 = some (r1, r2)) ∧ Aside0 (kq ≤ kj12) ∧ Drawn0 w wc)
     case first =>
      have H := HC16.out
      clear HC16
      by_cases c17 : a3 = 1
      ·rw [if_pos c17] at H
       have c17b0 : (a3 == 1) = true := beq_iff_eq.mpr c17
       have c17b1 : (a3 != 1) = false := bne_eq_false_iff_eq.mpr c17
       clear c17
       (first | rw [c17b0] | (simp only [i64_w, i32_w]; rw [c17b0]) | skip)
       have H' := am H
       clear H
       go_wp2
       go_meet
       case rel => exact ⟨_, (decide (t134 > 0)), (by first | rfl | (simp; done) | (simp [*]; done)), H', ⟨by have := HJ4.out; have := HJ12.out; first | omega | exact Nat.le_refl _⟩, by repeat (first | exact Drawn0.refl _ | apply Drawn0.step)⟩
      ·rw [if_neg c17] at H
       have c17b0 : (a3 == 1) = false := beq_eq_false_iff_ne.mpr c17
       have c17b1 : (a3 != 1) = true := bne_iff_ne.mpr c17
       (first | rw [c17b0] | (simp only [i64_w, i32_w]; rw [c17b0]) | skip)
       by_cases c18 : a3 = 2
       ·rw [if_pos c18] at H
        have c18b0 : (a3 == 2) = true := beq_iff_eq.mpr c18
        have c18b1 : (a3 != 2) = false := bne_eq_false_iff_eq.mpr c18
        clear c18
        by_cases c19 : t134 > (IntKind.u64.wrap ((IntKind.u64.wrap (a2)) - t134))
        ·rw [if_pos c19] at H
         have c19b0 : decide ((IntKind.u64.wrap ((IntKind.u64.wrap (a2)) - t134)) < t134) = true := decide_eq_true c19
         clear c19
         have H' := am H
         clear H
         go_wp2
         go_meet
         case rel => exact ⟨_, (true), (by first | rfl | (simp; done) | (simp [*]; done)), H', ⟨by have := HJ4.out; have := HJ12.out; first | omega | exact Nat.le_refl _⟩, by repeat (first | exact Drawn0.refl _ | apply Drawn0.step)⟩
        ·rw [if_neg c19] at H
         have c19b0 : decide ((IntKind.u64.wrap ((IntKind.u64.wrap (a2)) - t134)) < t134) = false := decide_eq_false c19
         clear c19
         by_cases c20 : t134 = (IntKind.u64.wrap ((IntKind.u64.wrap (a2)) - t134))
         ·rw [if_pos c20] at H
          have c20b0 : (t134 == (IntKind.u64.wrap ((IntKind.u64.wrap (a2)) - t134))) = true := beq_iff_eq.mpr c20
          have c20b1 : (t134 != (IntKind.u64.wrap ((IntKind.u64.wrap (a2)) - t134))) = false := bne_eq_false_iff_eq.mpr c20
          clear c20
          have H' := am H
          clear H
          go_wp2
          go_meet
          case rel => exact ⟨_, (((Go.bits .and .u64 t133 1) == 1)), (by first | rfl | (simp; done) | (simp [*]; done)), H', ⟨by have := HJ4.out; have := HJ12.out; first | omega | exact Nat.le_refl _⟩, by repeat (first | exact Drawn0.refl _ | apply Drawn0.step)⟩
         ·rw [if_neg c20] at H
          have c20b0 : (t134 == (IntKind.u64.wrap ((IntKind.u64.wrap (a2)) - t134))) = false := beq_eq_false_iff_ne.mpr c20
          have c20b1 : (t134 != (IntKind.u64.wrap ((IntKind.u64.wrap (a2)) - t134))) = true := bne_iff_ne.mpr c20
          have H' := am H
          clear H
          go_wp2
          go_meet
          case rel => exact ⟨_, (false), (by first | rfl | (simp; done) | (simp [*]; done)), H', ⟨by have := HJ4.out; have := HJ12.out; first | omega | exact Nat.le_refl _⟩, by repeat (first | exact Drawn0.refl _ | apply Drawn0.step)⟩
       ·rw [if_neg c18] at H
        have c18b0 : (a3 == 2) = false := beq_eq_false_iff_ne.mpr c18
        have c18b1 : (a3 != 2) = true := bne_iff_ne.mpr c18
        have H' := am H
        clear H
        go_wp2
        go_meet
        case rel => exact ⟨_, (false), (by first | rfl | (simp; done) | (simp [*]; done)), H', ⟨by have := HJ4.out; have := HJ12.out; first | omega | exact Nat.le_refl _⟩, by repeat (first | exact Drawn0.refl _ | apply Drawn0.step)⟩
     case rest =>
      clear HC16
      try clear c6
      try clear c6b0
      try clear c7
      try clear c7b0
      try clear c8
      try clear c8b0
      try clear c9
      try clear c9b0
      try clear c10
      try clear c14
      try clear c15
      try clear c17
      try clear c17b0 c17b1
      try clear c18
      try clear c18b0 c18b1
      try clear c19
      try clear c19b0
      try clear c20
      try clear c20b0 c20b1
      obtain ⟨kq, x15_15, rfl, HA, HJ15, ⟨mc15, rfl⟩⟩ := hcut
      rcases kq with _ | kj15
      ·exact absurd HA.out (by simp [qQo.j2])
      have H := HA.out
      clear HA
      simp only [qQo.j2] at H
      by_cases c21 : x15_15 = true
      ·subst c21
       have H1 : (if (IntKind.u64.wrap (t133 + 1)) > 10000000000000 then (some (0, 14)) else (some (wrap64 (IntKind.u64.wrap (t133 + 1)), 0))) = some (r1, r2) := by rw [if_pos rfl] at H; exact H
       clear H
       have H := H1
       clear H1
       by_cases c22 : (IntKind.u64.wrap (t133 + 1)) > 10000000000000
       ·rw [if_pos c22] at H
        have c22b0 : decide (10000000000000 < (IntKind.u64.wrap (t133 + 1))) = true := decide_eq_true c22
        clear c22
        simp only [Option.some.injEq, Prod.mk.injEq] at H
        obtain ⟨rfl, rfl⟩ := H
        go_wp2
        go_ret2
        exact ⟨by first | rfl | (simp; done) | (simp [*]; done), by repeat (first | exact Drawn0.refl _ | apply Drawn0.step)⟩
       ·rw [if_neg c22] at H
        have c22b0 : decide (10000000000000 < (IntKind.u64.wrap (t133 + 1))) = false := decide_eq_false c22
        clear c22
        simp only [Option.some.injEq, Prod.mk.injEq] at H
        obtain ⟨rfl, rfl⟩ := H
        go_wp2
        go_ret2
        exact ⟨by first | rfl | (simp; done) | (simp [*]; done), by repeat (first | exact Drawn0.refl _ | apply Drawn0.step)⟩
      ·replace c21 := Bool.eq_false_iff.mpr c21
       subst c21
       have H1 : (if t133 > 10000000000000 then (some (0, 14)) else (some (wrap64 (t133), 0))) = some (r1, r2) := by rw [if_neg (show ¬ (false = true) by decide)] at H; exact H
       clear H
       have H := H1
       clear H1
       by_cases c23 : t133 > 10000000000000
       ·rw [if_pos c23] at H
        have c23b0 : decide (10000000000000 < t133) = true := decide_eq_true c23
        clear c23
        simp only [Option.some.injEq, Prod.mk.injEq] at H
        obtain ⟨rfl, rfl⟩ := H
        go_wp2
        go_ret2
        exact ⟨by first | rfl | (simp; done) | (simp [*]; done), by repeat (first | exact Drawn0.refl _ | apply Drawn0.step)⟩
       ·rw [if_neg c23] at H
        have c23b0 : decide (10000000000000 < t133) = false := decide_eq_false c23
        clear c23
        simp only [Option.some.injEq, Prod.mk.injEq] at H
        obtain ⟨rfl, rfl⟩ := H
        go_wp2
        go_ret2
        exact ⟨by first | rfl | (simp; done) | (simp [*]; done), by repeat (first | exact Drawn0.refl _ | apply Drawn0.step)⟩
def qXj.f (a0 : Int) : Option (Int) := some (if a0 < 0 then 0 else if a0 = 0 then 60 else if a0 = 1 then 80 else if a0 = 2 then 100 else if a0 = 3 then 125 else 150)
set_option maxHeartbeats 8000000 in
set_option maxRecDepth 100000 in
theorem qXj.calls (a0 : Int) (r : Int) (w : World) (h : qXj.f a0 = some r) :
  Calls Tryz.prog 92 #[.int .i64 a0] w fun e w' => e = .returned (.int .i64 r) ∧ Below w.heap.size w w' := by
 have hu := Tryz.underlying143
 by_cases c : a0 < 0
 ·obtain rfl : (0 : Int) = r := by simpa [qXj.f, c] using h
  have c1 : decide (a0 < 0) = true := decide_eq_true c
  clear h c
  go_enter Tryz.func92, Tryz.ntmps92
  go_wp2
  go_ret
  exact ⟨rfl, (Below.refl _ _).alloc (Nat.le_refl _) _⟩
 ·have c1 : decide (a0 < 0) = false := decide_eq_false c
  by_cases c4 : 4 < a0
  case neg =>
   have hh : a0 = 0 ∨ a0 = 1 ∨ a0 = 2 ∨ a0 = 3 ∨ a0 = 4 := by omega
   clear c1 c4
   rcases hh with rfl | rfl | rfl | rfl | rfl
   all_goals
    obtain rfl := Option.some.inj h
    clear h
    go_enter Tryz.func92, Tryz.ntmps92
    go_wp2
    go_ret
    exact ⟨rfl, (Below.refl _ _).alloc (Nat.le_refl _) _⟩
  obtain rfl : (150 : Int) = r := by
   rw [qXj.f, if_neg c, if_neg (by omega), if_neg (by omega), if_neg (by omega), if_neg (by omega)] at h; exact Option.some.inj h
  have c2 : decide (4 < a0) = true := decide_eq_true c4
  clear h
  go_enter Tryz.func92, Tryz.ntmps92
  go_wp2
  go_ret
  exact ⟨rfl, (Below.refl _ _).alloc (Nat.le_refl _) _⟩
def qYw.j0 : Nat → Int → Int → Bool → Option (Int × Int)
 | 0, _, _, _ => none
 | k + 1, x0, x1, x16 => if x16 = true then (some (0, 1)) else ((qXj.f (wrap64 (Int.tdiv x1 24))).bind fun t137 => ((qQo.f k x0 t137 100 1).bind fun bt138 => (some (bt138.1, bt138.2))))
def qYw.f (k : Nat) (a0 : Int) (a1 : Int) : Option (Int × Int) := if a0 < 0 then (qYw.j0 k a0 a1 true) else ((qQ4.f a0).bind fun t136 => (if t136 = true then (qYw.j0 k a0 a1 (decide (a1 < 0))) else (qYw.j0 k a0 a1 true)))
set_option maxHeartbeats 8000000 in
set_option maxRecDepth 100000 in
theorem qYw.calls (k : Nat) (a0 : Int) (a1 : Int) (r1 : Int) (r2 : Int) (w : World) (h : qYw.f k a0 a1 = some (r1, r2)) :
  Calls Tryz.prog 72 #[.int .i64 a0, .int .i64 a1] w fun e w' => e = .returned (.tuple #[.int .i64 r1, .int .i64 r2]) ∧ Below w.heap.size w w' := by
 have HB := am (Below.refl w.heap.size w)
 have H : (if a0 < 0 then (qYw.j0 k a0 a1 true) else ((qQ4.f a0).bind fun t136 => (if t136 = true then (qYw.j0 k a0 a1 (decide (a1 < 0))) else (qYw.j0 k a0 a1 true)))) = some (r1, r2) := h
 clear h
 have HC3 := am H
 clear H
 go_enter Tryz.func72, Tryz.ntmps72
 go_upto_region 1 with (fail)
 go_cut [16] (fun v16 wc => ∃ (kq : Nat) (x16_2 : Bool), v16 = .bool x16_2 ∧ Aside0 (qYw.j0 kq a0 a1 x16_2 = some (r1, r2)) ∧ Aside0 (kq ≤ k) ∧ Aside0 (Below w.heap.size w wc))
 case first =>
  have H := HC3.out
  clear HC3
  by_cases c4 : a0 < 0
  ·rw [if_pos c4] at H
   have c4b0 : decide (a0 < 0) = true := decide_eq_true c4
   clear c4
   (first | rw [c4b0] | (simp only [i64_w, i32_w]; rw [c4b0]) | skip)
   have H' := am H
   clear H
   go_wp2
   go_meet
   case rel => exact ⟨_, (true), (by first | rfl | (simp; done) | (simp [*]; done)), H', ⟨by first | omega | exact Nat.le_refl _⟩, ⟨by exact h0q HB.out⟩⟩
  rw [if_neg c4] at H
  have c4b0 : decide (a0 < 0) = false := decide_eq_false c4
  clear c4
  (first | rw [c4b0] | (simp only [i64_w, i32_w]; rw [c4b0]) | skip)
  replace H := Option.bind_eq_some_iff.mp H
  obtain ⟨t136, A50, H⟩ := H
  replace H : (if t136 = true then (qYw.j0 k a0 a1 (decide (a1 < 0))) else (qYw.j0 k a0 a1 true)) = some (r1, r2) := H
  have A5 := am A50
  clear A50
  by_cases c6 : t136 = true
  ·subst c6
   have H1 : (qYw.j0 k a0 a1 (decide (a1 < 0))) = some (r1, r2) := by rw [if_pos rfl] at H; exact H
   clear H
   have H := H1
   clear H1
   have H' := am H
   clear H
   go_wp2_with (first | (go_at_call 74; (with_reducible refine (qQ4.calls a0 true _ A5.out).mono ?_); rintro e w' ⟨rfl, ⟨nd, rfl⟩⟩))
   go_meet
   case rel => exact ⟨_, (decide (a1 < 0)), (by first | rfl | (simp; done) | (simp [*]; done)), H', ⟨by first | omega | exact Nat.le_refl _⟩, ⟨by exact h0q HB.out⟩⟩
  replace c6 := Bool.eq_false_iff.mpr c6
  subst c6
  have H1 : (qYw.j0 k a0 a1 true) = some (r1, r2) := by rw [if_neg (show ¬ (false = true) by decide)] at H; exact H
  clear H
  have H := H1
  clear H1
  have H' := am H
  clear H
  go_wp2_with (first | (go_at_call 74; (with_reducible refine (qQ4.calls a0 false _ A5.out).mono ?_); rintro e w' ⟨rfl, ⟨nd, rfl⟩⟩))
  go_meet
  case rel => exact ⟨_, (true), (by first | rfl | (simp; done) | (simp [*]; done)), H', ⟨by first | omega | exact Nat.le_refl _⟩, ⟨by exact h0q HB.out⟩⟩
 case rest =>
  clear HC3
  try clear c4
  try clear c4b0
  try clear c6
  obtain ⟨kq, x16_2, rfl, HA, HJ2, HB⟩ := hcut
  rcases kq with _ | kj2
  ·exact absurd HA.out (by simp [qYw.j0])
  have H := HA.out
  clear HA
  simp only [qYw.j0] at H
  by_cases c7 : x16_2 = true
  ·subst c7
   have H1 : (some (0, 1)) = some (r1, r2) := by rw [if_pos rfl] at H; exact H
   clear H
   have H := H1
   clear H1
   simp only [Option.some.injEq, Prod.mk.injEq] at H
   obtain ⟨rfl, rfl⟩ := H
   go_wp2
   go_ret2
   exact ⟨er, by exact h0q HB.out⟩
  replace c7 := Bool.eq_false_iff.mpr c7
  subst c7
  have H1 : ((qXj.f (wrap64 (Int.tdiv a1 24))).bind fun t137 => ((qQo.f kj2 a0 t137 100 1).bind fun bt138 => (some (bt138.1, bt138.2)))) = some (r1, r2) := by rw [if_neg (show ¬ (false = true) by decide)] at H; exact H
  clear H
  have H := H1
  clear H1
  replace H := Option.bind_eq_some_iff.mp H
  obtain ⟨t137, A80, H⟩ := H
  replace H : ((qQo.f kj2 a0 t137 100 1).bind fun bt138 => (some (bt138.1, bt138.2))) = some (r1, r2) := H
  have A8 := am A80
  clear A80
  replace H := Option.bind_eq_some_iff.mp H
  obtain ⟨⟨t138, t139⟩, A90, H⟩ := H
  replace H : (some (t138, t139)) = some (r1, r2) := H
  have A9 := am A90
  clear A90
  simp only [Option.some.injEq, Prod.mk.injEq] at H
  obtain ⟨rfl, rfl⟩ := H
  go_wp2_with (first | ((with_reducible refine qQh (f := 92) rfl ?_); refine goesL_ (some 20) rfl rfl Tryz.func92 (by kernel_rfl) rfl #[.int .i64 (wrap64 (Int.tdiv a1 24))] rfl ml ?_; (with_reducible refine (qXj.calls (wrap64 (Int.tdiv a1 24)) t137 _ A8.out).mono ?_); rintro e w10 ⟨rfl, hb⟩; refine ⟨_, rfl, ?_⟩; have n0_ := am (qQb (by exact h0q HB.out) hb); clear HB; have HB := n0_; clear n0_; (try clear hb); (try clear hb2); (try clear hk); (try clear hi)) | ((with_reducible refine qQh (f := 79) rfl ?_); refine goesL_ (some 21) rfl rfl Tryz.func79 (by kernel_rfl) rfl #[.int .i64 a0, .int .i64 t137, .int .i64 100, .int .i64 1] rfl ml ?_; (with_reducible refine (qQo.calls kj2 a0 t137 100 1 t138 t139 _ A9.out).mono ?_); rintro e w' ⟨rfl, ⟨nd, rfl⟩⟩; refine ⟨_, rfl, ?_⟩))
  go_ret2
  exact ⟨er, by exact h0q HB.out⟩
def qXx.f (a0 : Int) : Option (Bool) := if (Int.tmod a0 4) = 0 then (if (Int.tmod a0 100) = 0 then (some ((Int.tmod a0 400) == 0)) else (some true)) else (some false)
set_option maxHeartbeats 8000000 in
set_option maxRecDepth 100000 in
theorem qXx.calls (a0 : Int) (r : Bool) (w : World) (h : qXx.f a0 = some r) :
  Calls Tryz.prog 95 #[.int .i64 a0] w fun e w' => e = .returned (.bool r) ∧ Drawn0 w w' := by
 have H : (if (Int.tmod a0 4) = 0 then (if (Int.tmod a0 100) = 0 then (some ((Int.tmod a0 400) == 0)) else (some true)) else (some false)) = some r := h
 clear h
 by_cases c2 : (Int.tmod a0 4) = 0
 case neg =>
  rw [if_neg c2] at H
  have c2b0 : ((Int.tmod a0 4) == 0) = false := beq_eq_false_iff_ne.mpr c2
  have c2b1 : ((Int.tmod a0 4) != 0) = true := bne_iff_ne.mpr c2
  obtain rfl := Option.some.inj H
  go_enter Tryz.func95, Tryz.ntmps95
  go_wp2
  go_ret
  exact ⟨by first | rfl | (simp; done) | (simp [*]; done), by repeat (first | exact Drawn0.refl _ | apply Drawn0.step)⟩
 rw [if_pos c2] at H
 have c2b0 : ((Int.tmod a0 4) == 0) = true := beq_iff_eq.mpr c2
 have c2b1 : ((Int.tmod a0 4) != 0) = false := bne_eq_false_iff_eq.mpr c2
 clear c2
 by_cases c3 : (Int.tmod a0 100) = 0
 case neg =>
  rw [if_neg c3] at H
  have c3b0 : ((Int.tmod a0 100) == 0) = false := beq_eq_false_iff_ne.mpr c3
  have c3b1 : ((Int.tmod a0 100) != 0) = true := bne_iff_ne.mpr c3
  obtain rfl := Option.some.inj H
  go_enter Tryz.func95, Tryz.ntmps95
  go_wp2
  go_ret
  exact ⟨by first | rfl | (simp; done) | (simp [*]; done), by repeat (first | exact Drawn0.refl _ | apply Drawn0.step)⟩
 rw [if_pos c3] at H
 have c3b0 : ((Int.tmod a0 100) == 0) = true := beq_iff_eq.mpr c3
 have c3b1 : ((Int.tmod a0 100) != 0) = false := bne_eq_false_iff_eq.mpr c3
 clear c3
 obtain rfl := Option.some.inj H
 go_enter Tryz.func95, Tryz.ntmps95
 go_wp2
 go_ret
 exact ⟨by first | rfl | (simp; done) | (simp [*]; done), by repeat (first | exact Drawn0.refl _ | apply Drawn0.step)⟩
def qYc.f (a0 : Int) (a1 : Int) : Option (Int) :=
 if a1 < 1 then some 0 else if a1 > 12 then some 0 else if a1 = 2 then ((qXx.f a0).bind fun t => if t = true then some 29 else some 28)
 else if a1 = 4 then some 30 else if a1 = 6 then some 30 else if a1 = 9 then some 30 else if a1 = 11 then some 30 else some 31
abbrev dayRow : Array Value := #[.int .i64 0, .int .i64 31, .int .i64 28, .int .i64 31, .int .i64 30, .int .i64 31, .int .i64 30, .int .i64 31, .int .i64 31, .int .i64 30, .int .i64 31, .int .i64 30, .int .i64 31]
set_option maxHeartbeats 8000000 in
set_option maxRecDepth 100000 in
theorem qYc.row (a0 a1 x : Int) (w : World) (b1 : decide (a1 < 1) = false) (b2 : decide (12 < a1) = false) (b3 : (a1 == 2) = false)
  (i0 : ∀ w : World, (Instr.index 132 (.agg dayRow) (.int .i64 a1)).run Tryz.prog w = .ok (.int .i64 x) w) :
  Calls Tryz.prog 77 #[.int .i64 a0, .int .i64 a1] w fun e w' => e = .returned (.int .i64 x) ∧ Drawn0 w w' := by
 unfold dayRow at i0
 go_enter Tryz.func77, Tryz.ntmps77
 go_wp2
 go_ret
 exact ⟨rfl, Drawn0.refl _⟩
set_option maxHeartbeats 8000000 in
set_option maxRecDepth 100000 in
theorem qYc.calls (a0 : Int) (a1 : Int) (r : Int) (w : World) (h : qYc.f a0 a1 = some r) :
  Calls Tryz.prog 77 #[.int .i64 a0, .int .i64 a1] w fun e w' => e = .returned (.int .i64 r) ∧ Drawn0 w w' := by
 by_cases c1 : a1 < 1
 ·obtain rfl : (0 : Int) = r := by simpa [qYc.f, c1] using h
  have b1 : decide (a1 < 1) = true := decide_eq_true c1
  clear h c1
  go_enter Tryz.func77, Tryz.ntmps77
  go_wp2
  go_ret
  exact ⟨rfl, Drawn0.refl _⟩
 by_cases c2 : a1 > 12
 ·obtain rfl : (0 : Int) = r := by simpa [qYc.f, c1, c2] using h
  have b1 : decide (a1 < 1) = false := decide_eq_false c1
  have b2 : decide (12 < a1) = true := decide_eq_true c2
  clear h c1 c2
  go_enter Tryz.func77, Tryz.ntmps77
  go_wp2
  go_ret
  exact ⟨rfl, Drawn0.refl _⟩
 by_cases c3 : a1 = 2
 case neg =>
  have hh : a1 = 1 ∨ a1 = 3 ∨ a1 = 4 ∨ a1 = 5 ∨ a1 = 6 ∨ a1 = 7 ∨ a1 = 8 ∨ a1 = 9 ∨ a1 = 10 ∨ a1 = 11 ∨ a1 = 12 := by omega
  rcases hh with rfl | rfl | rfl | rfl | rfl | rfl | rfl | rfl | rfl | rfl | rfl <;>
   (obtain rfl := Option.some.inj h; exact qYc.row a0 _ _ w (by decide) (by decide) (by decide) (fun _ => by kernel_rfl))
 subst c3
 have H : ((qXx.f a0).bind fun t => if t = true then some 29 else some 28) = some r := by simpa [qYc.f] using h
 obtain ⟨t, A0, H⟩ := Option.bind_eq_some_iff.mp H
 have A1 := am A0
 clear A0 h c1 c2
 have i0 : ∀ w : World, (Instr.index 132 (.agg dayRow) (.int .i64 2)).run Tryz.prog w = .ok (.int .i64 28) w := fun _ => by kernel_rfl
 cases t
 ·obtain rfl : (28 : Int) = r := by simpa using H
  clear H
  go_enter Tryz.func77, Tryz.ntmps77
  go_wp2_with (first | (go_at_call 95; (with_reducible refine (qXx.calls a0 false _ A1.out).mono ?_); rintro e w' ⟨rfl, ⟨nd, rfl⟩⟩))
  go_ret
  exact ⟨rfl, by repeat (first | exact Drawn0.refl _ | apply Drawn0.step)⟩
 ·obtain rfl : (29 : Int) = r := by simpa using H
  clear H
  go_enter Tryz.func77, Tryz.ntmps77
  go_wp2_with (first | (go_at_call 95; (with_reducible refine (qXx.calls a0 true _ A1.out).mono ?_); rintro e w' ⟨rfl, ⟨nd, rfl⟩⟩))
  go_ret
  exact ⟨rfl, by repeat (first | exact Drawn0.refl _ | apply Drawn0.step)⟩
def qYb.longs (y : Int) : Int := wrap64 ((wrap64 ((wrap64 (Int.tdiv y 4)) - (wrap64 (Int.tdiv y 100)))) + (wrap64 (Int.tdiv y 400)))
def qYb.f (a0 : Int) : Option (Int) := some (wrap64 ((wrap64 ((wrap64 ((wrap64 (a0 - 1960)) * 365)) + qYb.longs (wrap64 (a0 - 1)))) - qYb.longs 1959))
set_option maxHeartbeats 8000000 in
set_option maxRecDepth 100000 in
theorem qYb.inner (y : Int) (w : World) :
  Calls Tryz.prog 111 #[.int .i64 y] w fun e w' => e = .returned (.int .i64 (qYb.longs y)) ∧ Drawn0 w w' := by
 go_enter Tryz.func111, Tryz.ntmps111
 go_wp2
 go_ret
 exact ⟨rfl, Drawn0.refl _⟩
set_option maxHeartbeats 8000000 in
set_option maxRecDepth 100000 in
theorem qYb.calls (a0 : Int) (r : Int) (w : World) (h : qYb.f a0 = some r) :
  Calls Tryz.prog 94 #[.int .i64 a0] w fun e w' => e = .returned (.int .i64 r) ∧ Drawn0 w w' := by
 obtain rfl := Option.some.inj h
 clear h
 go_enter Tryz.func94, Tryz.ntmps94
 go_wp2_with fail
 refine (qYb.inner _ _).mono ?_
 rintro e w' ⟨rfl, ⟨nd, rfl⟩⟩
 go_wp2_with fail
 refine (qYb.inner _ _).mono ?_
 rintro e w' ⟨rfl, ⟨nd, rfl⟩⟩
 go_wp2
 go_ret
 exact ⟨rfl, by repeat (first | exact Drawn0.refl _ | apply Drawn0.step)⟩
mutual
def qZa.j1 : Nat → Int → Int → Option (Int × Int × Int × Int)
 | 0, _, _ => none
 | k + 1, x0, x2 => (qYb.f x2).bind fun t142 => (qZa.l1 k (wrap64 (x0 - t142)) x2 1)
def qZa.l1 : Nat → Int → Int → Int → Option (Int × Int × Int × Int)
 | 0, _, _, _ => none
 | k + 1, x0, x2, x3 => (qYc.f x2 x3).bind fun t143 => (if x0 ≥ t143 then ((qYc.f x2 x3).bind fun t144 => (qZa.l1 k (wrap64 (x0 - t144)) x2 (wrap64 (x3 + 1)))) else (some (x2, x3, wrap64 (x0 + 1), 0)))
def qZa.l0 : Nat → Int → Int → Option (Int × Int × Int × Int)
 | 0, _, _ => none
 | k + 1, x0, x2 => if x2 < 2199 then ((qYb.f (wrap64 (x2 + 1))).bind fun t141 => (if t141 ≤ x0 then (qZa.l0 k x0 (wrap64 (x2 + 1))) else (qZa.j1 k x0 x2))) else (qZa.j1 k x0 x2)
end
def qZa.f (k : Nat) (a0 : Int) : Option (Int × Int × Int × Int) := (qZm.f a0).bind fun t140 => (if t140 = true then (qZa.l0 k a0 (wrap64 (1960 + (wrap64 (Int.tdiv a0 366))))) else (some (0, 0, 0, 15)))
set_option maxHeartbeats 8000000 in
set_option maxRecDepth 100000 in
theorem qZa.calls (k : Nat) (a0 : Int) (r1 : Int) (r2 : Int) (r3 : Int) (r4 : Int) (w : World) (h : qZa.f k a0 = some (r1, r2, r3, r4)) :
  Calls Tryz.prog 75 #[.int .i64 a0] w fun e w' => e = .returned (.tuple #[.int .i64 r1, .int .i64 r2, .int .i64 r3, .int .i64 r4]) ∧ Drawn0 w w' := by
 have H : ((qZm.f a0).bind fun t140 => (if t140 = true then (qZa.l0 k a0 (wrap64 (1960 + (wrap64 (Int.tdiv a0 366))))) else (some (0, 0, 0, 15)))) = some (r1, r2, r3, r4) := h
 clear h
 replace H := Option.bind_eq_some_iff.mp H
 obtain ⟨t140, A20, H⟩ := H
 replace H : (if t140 = true then (qZa.l0 k a0 (wrap64 (1960 + (wrap64 (Int.tdiv a0 366))))) else (some (0, 0, 0, 15))) = some (r1, r2, r3, r4) := H
 have A2 := am A20
 clear A20
 by_cases c3 : t140 = true
 ·subst c3
  have H1 : (qZa.l0 k a0 (wrap64 (1960 + (wrap64 (Int.tdiv a0 366))))) = some (r1, r2, r3, r4) := by rw [if_pos rfl] at H; exact H
  clear H
  have H := H1
  clear H1
  have HC4 := am H
  clear H
  go_enter Tryz.func75, Tryz.ntmps75
  go_upto_block 0 with (first | ((with_reducible refine qQh (f := 23) rfl ?_); refine goesL_ (some 7) rfl rfl Tryz.func23 (by kernel_rfl) rfl #[.int .i64 a0] rfl ml ?_; (with_reducible refine (qZm.calls a0 true _ A2.out).mono ?_); rintro e w' ⟨rfl, ⟨nd, rfl⟩⟩; refine ⟨_, rfl, ?_⟩))
  (try simp only [Act.put, List.setIfInBounds_toArray, List.set_cons_zero, List.set_cons_succ])
  go_cut [2] (fun v2 wc => ∃ (kq : Nat) (x2_3 : Int), v2 = .int .i64 x2_3 ∧ Aside0 (qZa.j1 kq a0 x2_3 = some (r1, r2, r3, r4)) ∧ Aside0 (kq ≤ k) ∧ Drawn0 w wc)
  case first =>
   have H := HC4.out
   clear HC4
   have H' := am H
   clear H
   go_wp2
   go_loopg [2] k (fun kq v2 w' => ∃ (x2_1 : Int), v2 = .int .i64 x2_1 ∧ Aside0 (qZa.l0 kq a0 x2_1 = some (r1, r2, r3, r4)) ∧ Aside0 (kq ≤ k) ∧ Drawn0 w w')
   case atStart => exact ⟨(wrap64 (1960 + (wrap64 (Int.tdiv a0 366)))), (by first | rfl | (simp; done) | (simp [*]; done)), H', ⟨Nat.le_refl _⟩, by repeat (first | exact Drawn0.refl _ | apply Drawn0.step)⟩
   case round =>
    clear H'
    try clear c3
    obtain ⟨x2_1, rfl, HA, HK1, ⟨m1, rfl⟩⟩ := hrel
    rcases gk with _ | k1
    ·exact absurd HA.out (by simp [qZa.l0])
    have H := HA.out
    clear HA
    simp only [qZa.l0] at H
    by_cases c5 : x2_1 < 2199
    ·rw [if_pos c5] at H
     have c5b0 : decide (x2_1 < 2199) = true := decide_eq_true c5
     clear c5
     (first | rw [c5b0] | (simp only [i64_w, i32_w]; rw [c5b0]) | skip)
     replace H := Option.bind_eq_some_iff.mp H
     obtain ⟨t141, A60, H⟩ := H
     replace H : (if t141 ≤ a0 then (qZa.l0 k1 a0 (wrap64 (x2_1 + 1))) else (qZa.j1 k1 a0 x2_1)) = some (r1, r2, r3, r4) := H
     have A6 := am A60
     clear A60
     by_cases c7 : t141 ≤ a0
     ·rw [if_pos c7] at H
      have c7b0 : decide (t141 ≤ a0) = true := decide_eq_true c7
      clear c7
      have H' := am H
      clear H
      go_wp2_with (first | (go_at_call 94; (with_reducible refine (qYb.calls (wrap64 (x2_1 + 1)) t141 _ A6.out).mono ?_); rintro e w' ⟨rfl, ⟨nd, rfl⟩⟩))
      go_roundg k1
      case measure => have := HK1.out; omega
      case rel => exact ⟨(wrap64 (x2_1 + 1)), (by first | rfl | (simp; done) | (simp [*]; done)), H', ⟨by have := HK1.out; omega⟩, by repeat (first | exact Drawn0.refl _ | apply Drawn0.step)⟩
     ·rw [if_neg c7] at H
      have c7b0 : decide (t141 ≤ a0) = false := decide_eq_false c7
      clear c7
      have H' := am H
      clear H
      go_wp2_with (first | (go_at_call 94; (with_reducible refine (qYb.calls (wrap64 (x2_1 + 1)) t141 _ A6.out).mono ?_); rintro e w' ⟨rfl, ⟨nd, rfl⟩⟩))
      go_meet
      case rel => exact ⟨_, (x2_1), (by first | rfl | (simp; done) | (simp [*]; done)), H', ⟨by have := HK1.out; first | omega | exact Nat.le_refl _⟩, by repeat (first | exact Drawn0.refl _ | apply Drawn0.step)⟩
    ·rw [if_neg c5] at H
     have c5b0 : decide (x2_1 < 2199) = false := decide_eq_false c5
     clear c5
     (first | rw [c5b0] | (simp only [i64_w, i32_w]; rw [c5b0]) | skip)
     have H' := am H
     clear H
     go_wp2
     go_meet
     case rel => exact ⟨_, (x2_1), (by first | rfl | (simp; done) | (simp [*]; done)), H', ⟨by have := HK1.out; first | omega | exact Nat.le_refl _⟩, by repeat (first | exact Drawn0.refl _ | apply Drawn0.step)⟩
  case rest =>
   clear HC4
   try clear c3
   try clear c5
   try clear c5b0
   try clear c7
   try clear c7b0
   obtain ⟨kq, x2_3, rfl, HA, HJ3, ⟨mc3, rfl⟩⟩ := hcut
   rcases kq with _ | kj3
   ·exact absurd HA.out (by simp [qZa.j1])
   have H := HA.out
   clear HA
   simp only [qZa.j1] at H
   replace H := Option.bind_eq_some_iff.mp H
   obtain ⟨t142, A80, H⟩ := H
   replace H : (qZa.l1 kj3 (wrap64 (a0 - t142)) x2_3 1) = some (r1, r2, r3, r4) := H
   have A8 := am A80
   clear A80
   have H' := am H
   clear H
   go_wp2_with (first | ((with_reducible refine qQh (f := 94) rfl ?_); refine goesL_ (some 25) rfl rfl Tryz.func94 (by kernel_rfl) rfl #[.int .i64 x2_3] rfl ml ?_; (with_reducible refine (qYb.calls x2_3 t142 _ A8.out).mono ?_); rintro e w' ⟨rfl, ⟨nd, rfl⟩⟩; refine ⟨_, rfl, ?_⟩))
   go_loopg [0, 3] kj3 (fun kq v0 v3 w' => ∃ (x0_2 : Int) (x3_2 : Int), v0 = .int .i64 x0_2 ∧ v3 = .int .i64 x3_2 ∧ Aside0 (qZa.l1 kq x0_2 x2_3 x3_2 = some (r1, r2, r3, r4)) ∧ Aside0 (kq ≤ kj3) ∧ Drawn0 w w')
   case atStart => exact ⟨(wrap64 (a0 - t142)), (1), (by first | rfl | (simp; done) | (simp [*]; done)), (by first | rfl | (simp; done) | (simp [*]; done)), H', ⟨Nat.le_refl _⟩, by repeat (first | exact Drawn0.refl _ | apply Drawn0.step)⟩
   case round =>
    clear H'
    try clear c3
    try clear c5
    try clear c5b0
    try clear c7
    try clear c7b0
    obtain ⟨x0_2, x3_2, rfl, rfl, HA, HK2, ⟨m2, rfl⟩⟩ := hrel
    rcases gk with _ | k2
    ·exact absurd HA.out (by simp [qZa.l1])
    have H := HA.out
    clear HA
    simp only [qZa.l1] at H
    replace H := Option.bind_eq_some_iff.mp H
    obtain ⟨t143, A90, H⟩ := H
    replace H : (if x0_2 ≥ t143 then ((qYc.f x2_3 x3_2).bind fun t144 => (qZa.l1 k2 (wrap64 (x0_2 - t144)) x2_3 (wrap64 (x3_2 + 1)))) else (some (x2_3, x3_2, wrap64 (x0_2 + 1), 0))) = some (r1, r2, r3, r4) := H
    have A9 := am A90
    clear A90
    by_cases c10 : x0_2 ≥ t143
    ·rw [if_pos c10] at H
     have c10b0 : decide (t143 ≤ x0_2) = true := decide_eq_true c10
     clear c10
     replace H := Option.bind_eq_some_iff.mp H
     obtain ⟨t144, A110, H⟩ := H
     replace H : (qZa.l1 k2 (wrap64 (x0_2 - t144)) x2_3 (wrap64 (x3_2 + 1))) = some (r1, r2, r3, r4) := H
     have A11 := am A110
     clear A110
     have H' := am H
     clear H
     go_wp2_with (first | ((with_reducible refine qQh (f := 77) rfl ?_); refine goesL_ (some 30) rfl rfl Tryz.func77 (by kernel_rfl) rfl #[.int .i64 x2_3, .int .i64 x3_2] rfl ml ?_; (with_reducible refine (qYc.calls x2_3 x3_2 t143 _ A9.out).mono ?_); rintro e w' ⟨rfl, ⟨nd, rfl⟩⟩; refine ⟨_, rfl, ?_⟩) | ((with_reducible refine qQh (f := 77) rfl ?_); refine goesL_ (some 35) rfl rfl Tryz.func77 (by kernel_rfl) rfl #[.int .i64 x2_3, .int .i64 x3_2] rfl ml ?_; (with_reducible refine (qYc.calls x2_3 x3_2 t144 _ A11.out).mono ?_); rintro e w' ⟨rfl, ⟨nd, rfl⟩⟩; refine ⟨_, rfl, ?_⟩))
     go_roundg k2
     case measure => have := HJ3.out; have := HK2.out; omega
     case rel => exact ⟨(wrap64 (x0_2 - t144)), (wrap64 (x3_2 + 1)), (by first | rfl | (simp; done) | (simp [*]; done)), (by first | rfl | (simp; done) | (simp [*]; done)), H', ⟨by have := HJ3.out; have := HK2.out; omega⟩, by repeat (first | exact Drawn0.refl _ | apply Drawn0.step)⟩
    ·rw [if_neg c10] at H
     have c10b0 : decide (t143 ≤ x0_2) = false := decide_eq_false c10
     clear c10
     simp only [Option.some.injEq, Prod.mk.injEq] at H
     obtain ⟨rfl, rfl, rfl, rfl⟩ := H
     go_wp2_with (first | ((with_reducible refine qQh (f := 77) rfl ?_); refine goesL_ (some 30) rfl rfl Tryz.func77 (by kernel_rfl) rfl #[.int .i64 x2_3, .int .i64 x3_2] rfl ml ?_; (with_reducible refine (qYc.calls x2_3 x3_2 t143 _ A9.out).mono ?_); rintro e w' ⟨rfl, ⟨nd, rfl⟩⟩; refine ⟨_, rfl, ?_⟩))
     refine bodyPost_ret (qVe (rs := [.tmp 2, .tmp 3, .tmp 4, .tmp 5]) rfl (by simp) (.tmp (.tmp (.tmp (.tmp .nil))))) rfl ?_
     exact ⟨by first | rfl | (simp; done) | (simp [*]; done), by repeat (first | exact Drawn0.refl _ | apply Drawn0.step)⟩
 ·replace c3 := Bool.eq_false_iff.mpr c3
  subst c3
  have H1 : (some (0, 0, 0, 15)) = some (r1, r2, r3, r4) := by rw [if_neg (show ¬ (false = true) by decide)] at H; exact H
  clear H
  have H := H1
  clear H1
  simp only [Option.some.injEq, Prod.mk.injEq] at H
  obtain ⟨rfl, rfl, rfl, rfl⟩ := H
  go_enter Tryz.func75, Tryz.ntmps75
  go_wp2_with (first | ((with_reducible refine qQh (f := 23) rfl ?_); refine goesL_ (some 7) rfl rfl Tryz.func23 (by kernel_rfl) rfl #[.int .i64 a0] rfl ml ?_; (with_reducible refine (qZm.calls a0 false _ A2.out).mono ?_); rintro e w' ⟨rfl, ⟨nd, rfl⟩⟩; refine ⟨_, rfl, ?_⟩))
  refine bodyPost_ret (qVe (rs := [.tmp 2, .tmp 3, .tmp 4, .tmp 5]) rfl (by simp) (.tmp (.tmp (.tmp (.tmp .nil))))) rfl ?_
  exact ⟨by first | rfl | (simp; done) | (simp [*]; done), by repeat (first | exact Drawn0.refl _ | apply Drawn0.step)⟩
mutual
def qYd.j0 : Nat → Int → Int → Int → Bool → Option (Int × Int)
 | 0, _, _, _, _ => none
 | k + 1, x0, x1, x2, x26 => if x26 = true then (some (0, 15)) else ((qYb.f x0).bind fun t146 => (qYd.l0 k x0 x1 x2 t146 1))
def qYd.l0 : Nat → Int → Int → Int → Int → Int → Option (Int × Int)
 | 0, _, _, _, _, _ => none
 | k + 1, x0, x1, x2, x8, x9 => if x9 < x1 then ((qYc.f x0 x9).bind fun t147 => (qYd.l0 k x0 x1 x2 (wrap64 (x8 + t147)) (wrap64 (x9 + 1)))) else (some (wrap64 ((wrap64 (x8 + x2)) - 1), 0))
end
def qYd.f (k : Nat) (a0 : Int) (a1 : Int) (a2 : Int) : Option (Int × Int) := if a0 < 1960 then (qYd.j0 k a0 a1 a2 true) else (if a0 > 2199 then (qYd.j0 k a0 a1 a2 true) else (if a2 < 1 then (qYd.j0 k a0 a1 a2 true) else ((qYc.f a0 a1).bind fun t145 => (qYd.j0 k a0 a1 a2 (decide (a2 > t145))))))
set_option maxHeartbeats 8000000 in
set_option maxRecDepth 100000 in
theorem qYd.calls (k : Nat) (a0 : Int) (a1 : Int) (a2 : Int) (r1 : Int) (r2 : Int) (w : World) (h : qYd.f k a0 a1 a2 = some (r1, r2)) :
  Calls Tryz.prog 76 #[.int .i64 a0, .int .i64 a1, .int .i64 a2] w fun e w' => e = .returned (.tuple #[.int .i64 r1, .int .i64 r2]) ∧ Drawn0 w w' := by
 have H : (if a0 < 1960 then (qYd.j0 k a0 a1 a2 true) else (if a0 > 2199 then (qYd.j0 k a0 a1 a2 true) else (if a2 < 1 then (qYd.j0 k a0 a1 a2 true) else ((qYc.f a0 a1).bind fun t145 => (qYd.j0 k a0 a1 a2 (decide (a2 > t145))))))) = some (r1, r2) := h
 clear h
 have HC4 := am H
 clear H
 go_enter Tryz.func76, Tryz.ntmps76
 go_upto_region 1 with (fail)
 go_cut [26] (fun v26 wc => ∃ (kq : Nat) (x26_3 : Bool), v26 = .bool x26_3 ∧ Aside0 (qYd.j0 kq a0 a1 a2 x26_3 = some (r1, r2)) ∧ Aside0 (kq ≤ k) ∧ Drawn0 w wc)
 case first =>
  have H := HC4.out
  clear HC4
  by_cases c5 : a0 < 1960
  ·rw [if_pos c5] at H
   have c5b0 : decide (a0 < 1960) = true := decide_eq_true c5
   clear c5
   (first | rw [c5b0] | (simp only [i64_w, i32_w]; rw [c5b0]) | skip)
   have H' := am H
   clear H
   go_wp2
   go_meet
   case rel => exact ⟨_, (true), (by first | rfl | (simp; done) | (simp [*]; done)), H', ⟨by first | omega | exact Nat.le_refl _⟩, by repeat (first | exact Drawn0.refl _ | apply Drawn0.step)⟩
  rw [if_neg c5] at H
  have c5b0 : decide (a0 < 1960) = false := decide_eq_false c5
  clear c5
  (first | rw [c5b0] | (simp only [i64_w, i32_w]; rw [c5b0]) | skip)
  by_cases c6 : a0 > 2199
  ·rw [if_pos c6] at H
   have c6b0 : decide (2199 < a0) = true := decide_eq_true c6
   clear c6
   have H' := am H
   clear H
   go_wp2
   go_meet
   case rel => exact ⟨_, (true), (by first | rfl | (simp; done) | (simp [*]; done)), H', ⟨by first | omega | exact Nat.le_refl _⟩, by repeat (first | exact Drawn0.refl _ | apply Drawn0.step)⟩
  rw [if_neg c6] at H
  have c6b0 : decide (2199 < a0) = false := decide_eq_false c6
  clear c6
  by_cases c7 : a2 < 1
  ·rw [if_pos c7] at H
   have c7b0 : decide (a2 < 1) = true := decide_eq_true c7
   clear c7
   have H' := am H
   clear H
   go_wp2
   go_meet
   case rel => exact ⟨_, (true), (by first | rfl | (simp; done) | (simp [*]; done)), H', ⟨by first | omega | exact Nat.le_refl _⟩, by repeat (first | exact Drawn0.refl _ | apply Drawn0.step)⟩
  rw [if_neg c7] at H
  have c7b0 : decide (a2 < 1) = false := decide_eq_false c7
  clear c7
  replace H := Option.bind_eq_some_iff.mp H
  obtain ⟨t145, A80, H⟩ := H
  replace H : (qYd.j0 k a0 a1 a2 (decide (a2 > t145))) = some (r1, r2) := H
  have A8 := am A80
  clear A80
  have H' := am H
  clear H
  go_wp2_with (first | (go_at_call 77; (with_reducible refine (qYc.calls a0 a1 t145 _ A8.out).mono ?_); rintro e w' ⟨rfl, ⟨nd, rfl⟩⟩))
  go_meet
  case rel => exact ⟨_, (decide (a2 > t145)), (by first | rfl | (simp; done) | (simp [*]; done)), H', ⟨by first | omega | exact Nat.le_refl _⟩, by repeat (first | exact Drawn0.refl _ | apply Drawn0.step)⟩
 case rest =>
  clear HC4
  try clear c5
  try clear c5b0
  try clear c6
  try clear c6b0
  try clear c7
  try clear c7b0
  obtain ⟨kq, x26_3, rfl, HA, HJ3, ⟨mc3, rfl⟩⟩ := hcut
  rcases kq with _ | kj3
  ·exact absurd HA.out (by simp [qYd.j0])
  have H := HA.out
  clear HA
  simp only [qYd.j0] at H
  by_cases c9 : x26_3 = true
  ·subst c9
   have H1 : (some (0, 15)) = some (r1, r2) := by rw [if_pos rfl] at H; exact H
   clear H
   have H := H1
   clear H1
   simp only [Option.some.injEq, Prod.mk.injEq] at H
   obtain ⟨rfl, rfl⟩ := H
   go_wp2
   go_ret2
   exact ⟨by first | rfl | (simp; done) | (simp [*]; done), by repeat (first | exact Drawn0.refl _ | apply Drawn0.step)⟩
  replace c9 := Bool.eq_false_iff.mpr c9
  subst c9
  have H1 : ((qYb.f a0).bind fun t146 => (qYd.l0 kj3 a0 a1 a2 t146 1)) = some (r1, r2) := by rw [if_neg (show ¬ (false = true) by decide)] at H; exact H
  clear H
  have H := H1
  clear H1
  replace H := Option.bind_eq_some_iff.mp H
  obtain ⟨t146, A100, H⟩ := H
  replace H : (qYd.l0 kj3 a0 a1 a2 t146 1) = some (r1, r2) := H
  have A10 := am A100
  clear A100
  have H' := am H
  clear H
  go_wp2_with (first | ((with_reducible refine qQh (f := 94) rfl ?_); refine goesL_ (some 28) rfl rfl Tryz.func94 (by kernel_rfl) rfl #[.int .i64 a0] rfl ml ?_; (with_reducible refine (qYb.calls a0 t146 _ A10.out).mono ?_); rintro e w' ⟨rfl, ⟨nd, rfl⟩⟩; refine ⟨_, rfl, ?_⟩))
  go_loopg [8, 9] kj3 (fun kq v8 v9 w' => ∃ (x8_2 : Int) (x9_2 : Int), v8 = .int .i64 x8_2 ∧ v9 = .int .i64 x9_2 ∧ Aside0 (qYd.l0 kq a0 a1 a2 x8_2 x9_2 = some (r1, r2)) ∧ Aside0 (kq ≤ kj3) ∧ Drawn0 w w')
  case atStart => exact ⟨(t146), (1), (by first | rfl | (simp; done) | (simp [*]; done)), (by first | rfl | (simp; done) | (simp [*]; done)), H', ⟨Nat.le_refl _⟩, by repeat (first | exact Drawn0.refl _ | apply Drawn0.step)⟩
  case round =>
   clear H'
   try clear c5
   try clear c5b0
   try clear c6
   try clear c6b0
   try clear c7
   try clear c7b0
   try clear c9
   obtain ⟨x8_2, x9_2, rfl, rfl, HA, HK2, ⟨m2, rfl⟩⟩ := hrel
   rcases gk with _ | k2
   ·exact absurd HA.out (by simp [qYd.l0])
   have H := HA.out
   clear HA
   simp only [qYd.l0] at H
   by_cases c11 : x9_2 < a1
   case neg =>
    rw [if_neg c11] at H
    have c11b0 : decide (x9_2 < a1) = false := decide_eq_false c11
    clear c11
    simp only [Option.some.injEq, Prod.mk.injEq] at H
    obtain ⟨rfl, rfl⟩ := H
    go_wp2
    go_ret2
    exact ⟨by first | rfl | (simp; done) | (simp [*]; done), by repeat (first | exact Drawn0.refl _ | apply Drawn0.step)⟩
   rw [if_pos c11] at H
   have c11b0 : decide (x9_2 < a1) = true := decide_eq_true c11
   clear c11
   replace H := Option.bind_eq_some_iff.mp H
   obtain ⟨t147, A120, H⟩ := H
   replace H : (qYd.l0 k2 a0 a1 a2 (wrap64 (x8_2 + t147)) (wrap64 (x9_2 + 1))) = some (r1, r2) := H
   have A12 := am A120
   clear A120
   have H' := am H
   clear H
   go_wp2_with (first | ((with_reducible refine qQh (f := 77) rfl ?_); refine goesL_ (some 37) rfl rfl Tryz.func77 (by kernel_rfl) rfl #[.int .i64 a0, .int .i64 x9_2] rfl ml ?_; (with_reducible refine (qYc.calls a0 x9_2 t147 _ A12.out).mono ?_); rintro e w' ⟨rfl, ⟨nd, rfl⟩⟩; refine ⟨_, rfl, ?_⟩))
   go_roundg k2
   case measure => have := HJ3.out; have := HK2.out; omega
   case rel => exact ⟨(wrap64 (x8_2 + t147)), (wrap64 (x9_2 + 1)), (by first | rfl | (simp; done) | (simp [*]; done)), (by first | rfl | (simp; done) | (simp [*]; done)), H', ⟨by have := HJ3.out; have := HK2.out; omega⟩, by repeat (first | exact Drawn0.refl _ | apply Drawn0.step)⟩
mutual
def qZn.j0 : Nat → Int → Int → Int → Int → Bool → Option (Int × Int)
 | 0, _, _, _, _, _ => none
 | k + 1, x1, x6, x7, x8, x27 => if x27 = true then (some (0, 15)) else (if (wrap64 ((wrap64 ((wrap64 ((wrap64 ((wrap64 (x6 - 1960)) * 12)) + x7)) - 1)) + x1)) < 0 then (qZn.j1 k x8 (wrap64 ((wrap64 ((wrap64 ((wrap64 ((wrap64 (x6 - 1960)) * 12)) + x7)) - 1)) + x1)) true) else (qZn.j1 k x8 (wrap64 ((wrap64 ((wrap64 ((wrap64 ((wrap64 (x6 - 1960)) * 12)) + x7)) - 1)) + x1)) (decide ((wrap64 ((wrap64 ((wrap64 ((wrap64 ((wrap64 (x6 - 1960)) * 12)) + x7)) - 1)) + x1)) ≥ 2880))))
def qZn.j1 : Nat → Int → Int → Bool → Option (Int × Int)
 | 0, _, _, _ => none
 | k + 1, x8, x10, x41 => if x41 = true then (some (0, 15)) else ((qYc.f (wrap64 (1960 + (wrap64 (Int.tdiv x10 12)))) (wrap64 ((Int.tmod x10 12) + 1))).bind fun t152 => ((qYd.f k (wrap64 (1960 + (wrap64 (Int.tdiv x10 12)))) (wrap64 ((Int.tmod x10 12) + 1)) (mn x8 t152)).bind fun bt153 => (some (bt153.1, bt153.2))))
end
def qZn.f (k : Nat) (a0 : Int) (a1 : Int) : Option (Int × Int) := (qZa.f k a0).bind fun bt148 => (if bt148.2.2.2 = 0 then (if a1 < (-2880) then (qZn.j0 k a1 bt148.1 bt148.2.1 bt148.2.2.1 true) else (qZn.j0 k a1 bt148.1 bt148.2.1 bt148.2.2.1 (decide (a1 > 2880)))) else (qZn.j0 k a1 bt148.1 bt148.2.1 bt148.2.2.1 true))
set_option maxHeartbeats 8000000 in
set_option maxRecDepth 100000 in
theorem qZn.calls (k : Nat) (a0 : Int) (a1 : Int) (r1 : Int) (r2 : Int) (w : World) (h : qZn.f k a0 a1 = some (r1, r2)) :
  Calls Tryz.prog 48 #[.int .i64 a0, .int .i64 a1] w fun e w' => e = .returned (.tuple #[.int .i64 r1, .int .i64 r2]) ∧ Below w.heap.size w w' := by
 have HB := am (Below.refl w.heap.size w)
 have H : ((qZa.f k a0).bind fun bt148 => (if bt148.2.2.2 = 0 then (if a1 < (-2880) then (qZn.j0 k a1 bt148.1 bt148.2.1 bt148.2.2.1 true) else (qZn.j0 k a1 bt148.1 bt148.2.1 bt148.2.2.1 (decide (a1 > 2880)))) else (qZn.j0 k a1 bt148.1 bt148.2.1 bt148.2.2.1 true))) = some (r1, r2) := h
 clear h
 replace H := Option.bind_eq_some_iff.mp H
 obtain ⟨⟨t148, t149, t150, t151⟩, A30, H⟩ := H
 replace H : (if t151 = 0 then (if a1 < (-2880) then (qZn.j0 k a1 t148 t149 t150 true) else (qZn.j0 k a1 t148 t149 t150 (decide (a1 > 2880)))) else (qZn.j0 k a1 t148 t149 t150 true)) = some (r1, r2) := H
 have A3 := am A30
 clear A30
 have HC4 := am H
 clear H
 go_enter Tryz.func48, Tryz.ntmps48
 go_upto_region 2 with (first | ((with_reducible refine qQh (f := 75) rfl ?_); refine goesL_ (some 13) rfl rfl Tryz.func75 (by kernel_rfl) rfl #[.int .i64 a0] rfl ml ?_; (with_reducible refine (qZa.calls k a0 t148 t149 t150 t151 _ A3.out).mono ?_); rintro e w' ⟨rfl, ⟨nd, rfl⟩⟩; refine ⟨_, rfl, ?_⟩))
 (try simp only [Act.put, List.setIfInBounds_toArray, List.set_cons_zero, List.set_cons_succ])
 go_cut [27] (fun v27 wc => ∃ (kq : Nat) (x27_3 : Bool), v27 = .bool x27_3 ∧ Aside0 (qZn.j0 kq a1 t148 t149 t150 x27_3 = some (r1, r2)) ∧ Aside0 (kq ≤ k) ∧ Aside0 (Below w.heap.size w wc))
 case first =>
  have H := HC4.out
  clear HC4
  by_cases c5 : t151 = 0
  ·rw [if_pos c5] at H
   have c5b0 : (t151 == 0) = true := beq_iff_eq.mpr c5
   have c5b1 : (t151 != 0) = false := bne_eq_false_iff_eq.mpr c5
   clear c5
   (first | rw [c5b0] | (simp only [i64_w, i32_w]; rw [c5b0]) | skip)
   by_cases c6 : a1 < (-2880)
   ·rw [if_pos c6] at H
    have c6b0 : decide (a1 < (-2880)) = true := decide_eq_true c6
    clear c6
    have H' := am H
    clear H
    go_wp2
    go_meet
    case rel => exact ⟨_, (true), (by first | rfl | (simp; done) | (simp [*]; done)), H', ⟨by first | omega | exact Nat.le_refl _⟩, ⟨by exact h0q HB.out⟩⟩
   ·rw [if_neg c6] at H
    have c6b0 : decide (a1 < (-2880)) = false := decide_eq_false c6
    clear c6
    have H' := am H
    clear H
    go_wp2
    go_meet
    case rel => exact ⟨_, (decide (a1 > 2880)), (by first | rfl | (simp; done) | (simp [*]; done)), H', ⟨by first | omega | exact Nat.le_refl _⟩, ⟨by exact h0q HB.out⟩⟩
  ·rw [if_neg c5] at H
   have c5b0 : (t151 == 0) = false := beq_eq_false_iff_ne.mpr c5
   have c5b1 : (t151 != 0) = true := bne_iff_ne.mpr c5
   (first | rw [c5b0] | (simp only [i64_w, i32_w]; rw [c5b0]) | skip)
   have H' := am H
   clear H
   go_wp2
   go_meet
   case rel => exact ⟨_, (true), (by first | rfl | (simp; done) | (simp [*]; done)), H', ⟨by first | omega | exact Nat.le_refl _⟩, ⟨by exact h0q HB.out⟩⟩
 case rest =>
  clear HC4
  try clear c5
  try clear c5b0 c5b1
  try clear c6
  try clear c6b0
  obtain ⟨kq, x27_3, rfl, HA, HJ3, HB⟩ := hcut
  rcases kq with _ | kj3
  ·exact absurd HA.out (by simp [qZn.j0])
  have H := HA.out
  clear HA
  simp only [qZn.j0] at H
  by_cases c7 : x27_3 = true
  ·subst c7
   have H1 : (some (0, 15)) = some (r1, r2) := by rw [if_pos rfl] at H; exact H
   clear H
   have H := H1
   clear H1
   simp only [Option.some.injEq, Prod.mk.injEq] at H
   obtain ⟨rfl, rfl⟩ := H
   go_wp2
   go_ret2
   exact ⟨er, by exact h0q HB.out⟩
  ·replace c7 := Bool.eq_false_iff.mpr c7
   subst c7
   have H1 : (if (wrap64 ((wrap64 ((wrap64 ((wrap64 ((wrap64 (t148 - 1960)) * 12)) + t149)) - 1)) + a1)) < 0 then (qZn.j1 kj3 t150 (wrap64 ((wrap64 ((wrap64 ((wrap64 ((wrap64 (t148 - 1960)) * 12)) + t149)) - 1)) + a1)) true) else (qZn.j1 kj3 t150 (wrap64 ((wrap64 ((wrap64 ((wrap64 ((wrap64 (t148 - 1960)) * 12)) + t149)) - 1)) + a1)) (decide ((wrap64 ((wrap64 ((wrap64 ((wrap64 ((wrap64 (t148 - 1960)) * 12)) + t149)) - 1)) + a1)) ≥ 2880)))) = some (r1, r2) := by rw [if_neg (show ¬ (false = true) by decide)] at H; exact H
   clear H
   have H := H1
   clear H1
   have HC8 := am H
   clear H
   go_upto_region 5 with (fail)
   go_cut [41] (fun v41 wc => ∃ (kq : Nat) (x41_7 : Bool), v41 = .bool x41_7 ∧ Aside0 (qZn.j1 kq t150 (wrap64 ((wrap64 ((wrap64 ((wrap64 ((wrap64 (t148 - 1960)) * 12)) + t149)) - 1)) + a1)) x41_7 = some (r1, r2)) ∧ Aside0 (kq ≤ kj3) ∧ Aside0 (Below w.heap.size w wc))
   case first =>
    have H := HC8.out
    clear HC8
    by_cases c9 : (wrap64 ((wrap64 ((wrap64 ((wrap64 ((wrap64 (t148 - 1960)) * 12)) + t149)) - 1)) + a1)) < 0
    ·rw [if_pos c9] at H
     have c9b0 : decide ((wrap64 ((wrap64 ((wrap64 ((wrap64 ((wrap64 (t148 - 1960)) * 12)) + t149)) - 1)) + a1)) < 0) = true := decide_eq_true c9
     clear c9
     (first | rw [c9b0] | (simp only [i64_w, i32_w]; rw [c9b0]) | skip)
     have H' := am H
     clear H
     go_wp2
     go_meet
     case rel => exact ⟨_, (true), (by first | rfl | (simp; done) | (simp [*]; done)), H', ⟨by have := HJ3.out; first | omega | exact Nat.le_refl _⟩, ⟨by exact h0q HB.out⟩⟩
    ·rw [if_neg c9] at H
     have c9b0 : decide ((wrap64 ((wrap64 ((wrap64 ((wrap64 ((wrap64 (t148 - 1960)) * 12)) + t149)) - 1)) + a1)) < 0) = false := decide_eq_false c9
     clear c9
     (first | rw [c9b0] | (simp only [i64_w, i32_w]; rw [c9b0]) | skip)
     have H' := am H
     clear H
     go_wp2
     go_meet
     case rel => exact ⟨_, (decide ((wrap64 ((wrap64 ((wrap64 ((wrap64 ((wrap64 (t148 - 1960)) * 12)) + t149)) - 1)) + a1)) ≥ 2880)), (by first | rfl | (simp; done) | (simp [*]; done)), H', ⟨by have := HJ3.out; first | omega | exact Nat.le_refl _⟩, ⟨by exact h0q HB.out⟩⟩
   case rest =>
    clear HC8
    try clear c5
    try clear c5b0 c5b1
    try clear c6
    try clear c6b0
    try clear c7
    try clear c9
    try clear c9b0
    obtain ⟨kq, x41_7, rfl, HA, HJ7, HB⟩ := hcut
    rcases kq with _ | kj7
    ·exact absurd HA.out (by simp [qZn.j1])
    have H := HA.out
    clear HA
    simp only [qZn.j1] at H
    by_cases c10 : x41_7 = true
    ·subst c10
     have H1 : (some (0, 15)) = some (r1, r2) := by rw [if_pos rfl] at H; exact H
     clear H
     have H := H1
     clear H1
     simp only [Option.some.injEq, Prod.mk.injEq] at H
     obtain ⟨rfl, rfl⟩ := H
     go_wp2
     go_ret2
     exact ⟨er, by exact h0q HB.out⟩
    ·replace c10 := Bool.eq_false_iff.mpr c10
     subst c10
     have H1 : ((qYc.f (wrap64 (1960 + (wrap64 (Int.tdiv (wrap64 ((wrap64 ((wrap64 ((wrap64 ((wrap64 (t148 - 1960)) * 12)) + t149)) - 1)) + a1)) 12)))) (wrap64 ((Int.tmod (wrap64 ((wrap64 ((wrap64 ((wrap64 ((wrap64 (t148 - 1960)) * 12)) + t149)) - 1)) + a1)) 12) + 1))).bind fun t152 => ((qYd.f kj7 (wrap64 (1960 + (wrap64 (Int.tdiv (wrap64 ((wrap64 ((wrap64 ((wrap64 ((wrap64 (t148 - 1960)) * 12)) + t149)) - 1)) + a1)) 12)))) (wrap64 ((Int.tmod (wrap64 ((wrap64 ((wrap64 ((wrap64 ((wrap64 (t148 - 1960)) * 12)) + t149)) - 1)) + a1)) 12) + 1)) (mn t150 t152)).bind fun bt153 => (some (bt153.1, bt153.2)))) = some (r1, r2) := by rw [if_neg (show ¬ (false = true) by decide)] at H; exact H
     clear H
     have H := H1
     clear H1
     replace H := Option.bind_eq_some_iff.mp H
     obtain ⟨t152, A110, H⟩ := H
     replace H : ((qYd.f kj7 (wrap64 (1960 + (wrap64 (Int.tdiv (wrap64 ((wrap64 ((wrap64 ((wrap64 ((wrap64 (t148 - 1960)) * 12)) + t149)) - 1)) + a1)) 12)))) (wrap64 ((Int.tmod (wrap64 ((wrap64 ((wrap64 ((wrap64 ((wrap64 (t148 - 1960)) * 12)) + t149)) - 1)) + a1)) 12) + 1)) (mn t150 t152)).bind fun bt153 => (some (bt153.1, bt153.2))) = some (r1, r2) := H
     have A11 := am A110
     clear A110
     obtain ⟨ji12, hji12⟩ : ∃ j_ : Int, (mn t150 t152) = j_ := ⟨_, rfl⟩
     replace H : ((qYd.f kj7 (wrap64 (1960 + (wrap64 (Int.tdiv (wrap64 ((wrap64 ((wrap64 ((wrap64 ((wrap64 (t148 - 1960)) * 12)) + t149)) - 1)) + a1)) 12)))) (wrap64 ((Int.tmod (wrap64 ((wrap64 ((wrap64 ((wrap64 ((wrap64 (t148 - 1960)) * 12)) + t149)) - 1)) + a1)) 12) + 1)) (ji12)).bind fun bt153 => (some (bt153.1, bt153.2))) = some (r1, r2) := by first | (rw [hji12] at H; exact H) | (simp only [hji12] at H ⊢; exact H)
     (try rw [hji12] at A11)
     have hji12_ : (if t152 < t150 then t152 else t150) = ji12 := hji12
     replace H := Option.bind_eq_some_iff.mp H
     obtain ⟨⟨t153, t154⟩, A130, H⟩ := H
     replace H : (some (t153, t154)) = some (r1, r2) := H
     have A13 := am A130
     clear A130
     simp only [Option.some.injEq, Prod.mk.injEq] at H
     obtain ⟨rfl, rfl⟩ := H
     go_wp2_with (first | ((with_reducible refine qQh (f := 77) rfl ?_); refine goesL_ (some 53) rfl rfl Tryz.func77 (by kernel_rfl) rfl #[.int .i64 (wrap64 (1960 + (wrap64 (Int.tdiv (wrap64 ((wrap64 ((wrap64 ((wrap64 ((wrap64 (t148 - 1960)) * 12)) + t149)) - 1)) + a1)) 12)))), .int .i64 (wrap64 ((Int.tmod (wrap64 ((wrap64 ((wrap64 ((wrap64 ((wrap64 (t148 - 1960)) * 12)) + t149)) - 1)) + a1)) 12) + 1))] rfl ml ?_; (with_reducible refine (qYc.calls (wrap64 (1960 + (wrap64 (Int.tdiv (wrap64 ((wrap64 ((wrap64 ((wrap64 ((wrap64 (t148 - 1960)) * 12)) + t149)) - 1)) + a1)) 12)))) (wrap64 ((Int.tmod (wrap64 ((wrap64 ((wrap64 ((wrap64 ((wrap64 (t148 - 1960)) * 12)) + t149)) - 1)) + a1)) 12) + 1)) t152 _ A11.out).mono ?_); rintro e w' ⟨rfl, ⟨nd, rfl⟩⟩; refine ⟨_, rfl, ?_⟩) | ((with_reducible refine qQh (f := 76) rfl ?_); refine goesL_ (some 55) rfl rfl Tryz.func76 (by kernel_rfl) rfl #[.int .i64 (wrap64 (1960 + (wrap64 (Int.tdiv (wrap64 ((wrap64 ((wrap64 ((wrap64 ((wrap64 (t148 - 1960)) * 12)) + t149)) - 1)) + a1)) 12)))), .int .i64 (wrap64 ((Int.tmod (wrap64 ((wrap64 ((wrap64 ((wrap64 ((wrap64 (t148 - 1960)) * 12)) + t149)) - 1)) + a1)) 12) + 1)), .int .i64 ji12] rfl (by (try simp only [List.map_toArray, List.map_cons, List.map_nil]); first | done | (simp only [hji12]; rfl) | rfl | (simp only [List.length_drop, List.length_take]; rfl)) ?_; (with_reducible refine (qYd.calls kj7 (wrap64 (1960 + (wrap64 (Int.tdiv (wrap64 ((wrap64 ((wrap64 ((wrap64 ((wrap64 (t148 - 1960)) * 12)) + t149)) - 1)) + a1)) 12)))) (wrap64 ((Int.tmod (wrap64 ((wrap64 ((wrap64 ((wrap64 ((wrap64 (t148 - 1960)) * 12)) + t149)) - 1)) + a1)) 12) + 1)) ji12 t153 t154 _ A13.out).mono ?_); rintro e w' ⟨rfl, ⟨nd, rfl⟩⟩; refine ⟨_, rfl, ?_⟩))
     go_ret2
     exact ⟨by first | rfl | (simp [qQq, qQr] <;> rfl) | (simp only [← hji12]; first | rfl | (simp [qQq, qQr] <;> rfl)) | (simp [*, qQq, qQr] <;> rfl), by exact h0q HB.out⟩
def qYt.f (k : Nat) (a0 : Int) : Option (Int × Int) := (qZa.f k a0).bind fun bt155 => (if bt155.2.2.2 = 0 then (some (wrap64 ((wrap64 ((wrap64 ((wrap64 (bt155.1 - 1960)) * 12)) + bt155.2.1)) - 1), 0)) else (some (0, bt155.2.2.2)))
set_option maxHeartbeats 8000000 in
set_option maxRecDepth 100000 in
theorem qYt.calls (k : Nat) (a0 : Int) (r1 : Int) (r2 : Int) (w : World) (h : qYt.f k a0 = some (r1, r2)) :
  Calls Tryz.prog 93 #[.int .i64 a0] w fun e w' => e = .returned (.tuple #[.int .i64 r1, .int .i64 r2]) ∧ Drawn0 w w' := by
 have H : ((qZa.f k a0).bind fun bt155 => (if bt155.2.2.2 = 0 then (some (wrap64 ((wrap64 ((wrap64 ((wrap64 (bt155.1 - 1960)) * 12)) + bt155.2.1)) - 1), 0)) else (some (0, bt155.2.2.2)))) = some (r1, r2) := h
 clear h
 replace H := Option.bind_eq_some_iff.mp H
 obtain ⟨⟨t155, t156, t157, t158⟩, A20, H⟩ := H
 replace H : (if t158 = 0 then (some (wrap64 ((wrap64 ((wrap64 ((wrap64 (t155 - 1960)) * 12)) + t156)) - 1), 0)) else (some (0, t158))) = some (r1, r2) := H
 have A2 := am A20
 clear A20
 by_cases c3 : t158 = 0
 ·rw [if_pos c3] at H
  have c3b0 : (t158 == 0) = true := beq_iff_eq.mpr c3
  have c3b1 : (t158 != 0) = false := bne_eq_false_iff_eq.mpr c3
  clear c3
  simp only [Option.some.injEq, Prod.mk.injEq] at H
  obtain ⟨rfl, rfl⟩ := H
  go_enter Tryz.func93, Tryz.ntmps93
  go_wp2_with (first | ((with_reducible refine qQh (f := 75) rfl ?_); refine goesL_ (some 10) rfl rfl Tryz.func75 (by kernel_rfl) rfl #[.int .i64 a0] rfl ml ?_; (with_reducible refine (qZa.calls k a0 t155 t156 t157 t158 _ A2.out).mono ?_); rintro e w' ⟨rfl, ⟨nd, rfl⟩⟩; refine ⟨_, rfl, ?_⟩))
  go_ret2
  exact ⟨by first | rfl | (simp; done) | (simp [*]; done), by repeat (first | exact Drawn0.refl _ | apply Drawn0.step)⟩
 ·rw [if_neg c3] at H
  have c3b0 : (t158 == 0) = false := beq_eq_false_iff_ne.mpr c3
  have c3b1 : (t158 != 0) = true := bne_iff_ne.mpr c3
  simp only [Option.some.injEq, Prod.mk.injEq] at H
  obtain ⟨rfl, rfl⟩ := H
  go_enter Tryz.func93, Tryz.ntmps93
  go_wp2_with (first | ((with_reducible refine qQh (f := 75) rfl ?_); refine goesL_ (some 10) rfl rfl Tryz.func75 (by kernel_rfl) rfl #[.int .i64 a0] rfl ml ?_; (with_reducible refine (qZa.calls k a0 t155 t156 t157 t158 _ A2.out).mono ?_); rintro e w' ⟨rfl, ⟨nd, rfl⟩⟩; refine ⟨_, rfl, ?_⟩))
  go_ret2
  exact ⟨by first | rfl | (simp; done) | (simp [*]; done), by repeat (first | exact Drawn0.refl _ | apply Drawn0.step)⟩
def qZw.j0 : Nat → Int → Int → Bool → Option (Int)
 | 0, _, _, _ => none
 | k + 1, x0, x1, x23 => if x23 = true then (some 0) else ((qYt.f k x0).bind fun bt161 => ((qYt.f k x1).bind fun bt163 => ((qZn.f k x0 (wrap64 (bt163.1 - bt161.1))).bind fun bt165 => (if bt165.2 = 0 then (if bt165.1 ≤ x1 then (some (wrap64 (bt163.1 - bt161.1))) else (some (wrap64 ((wrap64 (bt163.1 - bt161.1)) - 1)))) else (some (wrap64 ((wrap64 (bt163.1 - bt161.1)) - 1)))))))
def qZw.f (k : Nat) (a0 : Int) (a1 : Int) : Option (Int) := (qZm.f a0).bind fun t159 => (if t159 = true then ((qZm.f a1).bind fun t160 => (if t160 = true then (qZw.j0 k a0 a1 (decide (a0 > a1))) else (qZw.j0 k a0 a1 true))) else (qZw.j0 k a0 a1 true))
set_option maxHeartbeats 8000000 in
set_option maxRecDepth 100000 in
theorem qZw.calls (k : Nat) (a0 : Int) (a1 : Int) (r : Int) (w : World) (h : qZw.f k a0 a1 = some r) :
  Calls Tryz.prog 73 #[.int .i64 a0, .int .i64 a1] w fun e w' => e = .returned (.int .i64 r) ∧ Below w.heap.size w w' := by
 have HB := am (Below.refl w.heap.size w)
 have H : ((qZm.f a0).bind fun t159 => (if t159 = true then ((qZm.f a1).bind fun t160 => (if t160 = true then (qZw.j0 k a0 a1 (decide (a0 > a1))) else (qZw.j0 k a0 a1 true))) else (qZw.j0 k a0 a1 true))) = some r := h
 clear h
 have HC3 := am H
 clear H
 go_enter Tryz.func73, Tryz.ntmps73
 go_upto_region 1 with (fail)
 go_cut [23] (fun v23 wc => ∃ (kq : Nat) (x23_2 : Bool), v23 = .bool x23_2 ∧ Aside0 (qZw.j0 kq a0 a1 x23_2 = some r) ∧ Aside0 (kq ≤ k) ∧ Aside0 (Below w.heap.size w wc))
 case first =>
  have H := HC3.out
  clear HC3
  replace H := Option.bind_eq_some_iff.mp H
  obtain ⟨t159, A40, H⟩ := H
  replace H : (if t159 = true then ((qZm.f a1).bind fun t160 => (if t160 = true then (qZw.j0 k a0 a1 (decide (a0 > a1))) else (qZw.j0 k a0 a1 true))) else (qZw.j0 k a0 a1 true)) = some r := H
  have A4 := am A40
  clear A40
  by_cases c5 : t159 = true
  case neg =>
   replace c5 := Bool.eq_false_iff.mpr c5
   subst c5
   have H1 : (qZw.j0 k a0 a1 true) = some r := by rw [if_neg (show ¬ (false = true) by decide)] at H; exact H
   clear H
   have H := H1
   clear H1
   have H' := am H
   clear H
   go_wp2_with (first | ((with_reducible refine qQh (f := 23) rfl ?_); refine goesL_ (some 12) rfl rfl Tryz.func23 (by kernel_rfl) rfl #[.int .i64 a0] rfl ml ?_; (with_reducible refine (qZm.calls a0 false _ A4.out).mono ?_); rintro e w' ⟨rfl, ⟨nd, rfl⟩⟩; refine ⟨_, rfl, ?_⟩))
   go_meet
   case rel => exact ⟨_, (true), (by first | rfl | (simp; done) | (simp [*]; done)), H', ⟨by first | omega | exact Nat.le_refl _⟩, ⟨by exact h0q HB.out⟩⟩
  subst c5
  have H1 : ((qZm.f a1).bind fun t160 => (if t160 = true then (qZw.j0 k a0 a1 (decide (a0 > a1))) else (qZw.j0 k a0 a1 true))) = some r := by rw [if_pos rfl] at H; exact H
  clear H
  have H := H1
  clear H1
  replace H := Option.bind_eq_some_iff.mp H
  obtain ⟨t160, A60, H⟩ := H
  replace H : (if t160 = true then (qZw.j0 k a0 a1 (decide (a0 > a1))) else (qZw.j0 k a0 a1 true)) = some r := H
  have A6 := am A60
  clear A60
  by_cases c7 : t160 = true
  ·subst c7
   have H1 : (qZw.j0 k a0 a1 (decide (a0 > a1))) = some r := by rw [if_pos rfl] at H; exact H
   clear H
   have H := H1
   clear H1
   have H' := am H
   clear H
   go_wp2_with (first | ((with_reducible refine qQh (f := 23) rfl ?_); refine goesL_ (some 12) rfl rfl Tryz.func23 (by kernel_rfl) rfl #[.int .i64 a0] rfl ml ?_; (with_reducible refine (qZm.calls a0 true _ A4.out).mono ?_); rintro e w' ⟨rfl, ⟨nd, rfl⟩⟩; refine ⟨_, rfl, ?_⟩) | (go_at_call 23; (with_reducible refine (qZm.calls a1 true _ A6.out).mono ?_); rintro e w' ⟨rfl, ⟨nd, rfl⟩⟩))
   go_meet
   case rel => exact ⟨_, (decide (a0 > a1)), (by first | rfl | (simp; done) | (simp [*]; done)), H', ⟨by first | omega | exact Nat.le_refl _⟩, ⟨by exact h0q HB.out⟩⟩
  replace c7 := Bool.eq_false_iff.mpr c7
  subst c7
  have H1 : (qZw.j0 k a0 a1 true) = some r := by rw [if_neg (show ¬ (false = true) by decide)] at H; exact H
  clear H
  have H := H1
  clear H1
  have H' := am H
  clear H
  go_wp2_with (first | ((with_reducible refine qQh (f := 23) rfl ?_); refine goesL_ (some 12) rfl rfl Tryz.func23 (by kernel_rfl) rfl #[.int .i64 a0] rfl ml ?_; (with_reducible refine (qZm.calls a0 true _ A4.out).mono ?_); rintro e w' ⟨rfl, ⟨nd, rfl⟩⟩; refine ⟨_, rfl, ?_⟩) | (go_at_call 23; (with_reducible refine (qZm.calls a1 false _ A6.out).mono ?_); rintro e w' ⟨rfl, ⟨nd, rfl⟩⟩))
  go_meet
  case rel => exact ⟨_, (true), (by first | rfl | (simp; done) | (simp [*]; done)), H', ⟨by first | omega | exact Nat.le_refl _⟩, ⟨by exact h0q HB.out⟩⟩
 case rest =>
  clear HC3
  try clear c5
  try clear c7
  obtain ⟨kq, x23_2, rfl, HA, HJ2, HB⟩ := hcut
  rcases kq with _ | kj2
  ·exact absurd HA.out (by simp [qZw.j0])
  have H := HA.out
  clear HA
  simp only [qZw.j0] at H
  by_cases c8 : x23_2 = true
  ·subst c8
   have H1 : (some 0) = some r := by rw [if_pos rfl] at H; exact H
   clear H
   have H := H1
   clear H1
   obtain rfl := Option.some.inj H
   go_wp2
   go_ret
   exact ⟨er, by exact h0q HB.out⟩
  replace c8 := Bool.eq_false_iff.mpr c8
  subst c8
  have H1 : ((qYt.f kj2 a0).bind fun bt161 => ((qYt.f kj2 a1).bind fun bt163 => ((qZn.f kj2 a0 (wrap64 (bt163.1 - bt161.1))).bind fun bt165 => (if bt165.2 = 0 then (if bt165.1 ≤ a1 then (some (wrap64 (bt163.1 - bt161.1))) else (some (wrap64 ((wrap64 (bt163.1 - bt161.1)) - 1)))) else (some (wrap64 ((wrap64 (bt163.1 - bt161.1)) - 1))))))) = some r := by rw [if_neg (show ¬ (false = true) by decide)] at H; exact H
  clear H
  have H := H1
  clear H1
  replace H := Option.bind_eq_some_iff.mp H
  obtain ⟨⟨t161, t162⟩, A90, H⟩ := H
  replace H : ((qYt.f kj2 a1).bind fun bt163 => ((qZn.f kj2 a0 (wrap64 (bt163.1 - t161))).bind fun bt165 => (if bt165.2 = 0 then (if bt165.1 ≤ a1 then (some (wrap64 (bt163.1 - t161))) else (some (wrap64 ((wrap64 (bt163.1 - t161)) - 1)))) else (some (wrap64 ((wrap64 (bt163.1 - t161)) - 1)))))) = some r := H
  have A9 := am A90
  clear A90
  replace H := Option.bind_eq_some_iff.mp H
  obtain ⟨⟨t163, t164⟩, A100, H⟩ := H
  replace H : ((qZn.f kj2 a0 (wrap64 (t163 - t161))).bind fun bt165 => (if bt165.2 = 0 then (if bt165.1 ≤ a1 then (some (wrap64 (t163 - t161))) else (some (wrap64 ((wrap64 (t163 - t161)) - 1)))) else (some (wrap64 ((wrap64 (t163 - t161)) - 1))))) = some r := H
  have A10 := am A100
  clear A100
  replace H := Option.bind_eq_some_iff.mp H
  obtain ⟨⟨t165, t166⟩, A110, H⟩ := H
  replace H : (if t166 = 0 then (if t165 ≤ a1 then (some (wrap64 (t163 - t161))) else (some (wrap64 ((wrap64 (t163 - t161)) - 1)))) else (some (wrap64 ((wrap64 (t163 - t161)) - 1)))) = some r := H
  have A11 := am A110
  clear A110
  by_cases c12 : t166 = 0
  case neg =>
   rw [if_neg c12] at H
   have c12b0 : (t166 == 0) = false := beq_eq_false_iff_ne.mpr c12
   have c12b1 : (t166 != 0) = true := bne_iff_ne.mpr c12
   obtain rfl := Option.some.inj H
   go_wp2_with (first | ((with_reducible refine qQh (f := 93) rfl ?_); refine goesL_ (some 26) rfl rfl Tryz.func93 (by kernel_rfl) rfl #[.int .i64 a0] rfl ml ?_; (with_reducible refine (qYt.calls kj2 a0 t161 t162 _ A9.out).mono ?_); rintro e w' ⟨rfl, ⟨nd, rfl⟩⟩; refine ⟨_, rfl, ?_⟩) | ((with_reducible refine qQh (f := 93) rfl ?_); refine goesL_ (some 31) rfl rfl Tryz.func93 (by kernel_rfl) rfl #[.int .i64 a1] rfl ml ?_; (with_reducible refine (qYt.calls kj2 a1 t163 t164 _ A10.out).mono ?_); rintro e w' ⟨rfl, ⟨nd, rfl⟩⟩; refine ⟨_, rfl, ?_⟩) | ((with_reducible refine qQh (f := 48) rfl ?_); refine goesL_ (some 39) rfl rfl Tryz.func48 (by kernel_rfl) rfl #[.int .i64 a0, .int .i64 (wrap64 (t163 - t161))] rfl ml ?_; (with_reducible refine (qZn.calls kj2 a0 (wrap64 (t163 - t161)) t165 t166 _ A11.out).mono ?_); rintro e w16 ⟨rfl, hb⟩; refine ⟨_, rfl, ?_⟩; have n0_ := am (qQb (by exact h0q HB.out) hb); clear HB; have HB := n0_; clear n0_; (try clear hb); (try clear hb2); (try clear hk); (try clear hi)))
   go_ret
   exact ⟨er, by exact h0q HB.out⟩
  rw [if_pos c12] at H
  have c12b0 : (t166 == 0) = true := beq_iff_eq.mpr c12
  have c12b1 : (t166 != 0) = false := bne_eq_false_iff_eq.mpr c12
  clear c12
  by_cases c13 : t165 ≤ a1
  ·rw [if_pos c13] at H
   have c13b0 : decide (t165 ≤ a1) = true := decide_eq_true c13
   clear c13
   obtain rfl := Option.some.inj H
   go_wp2_with (first | ((with_reducible refine qQh (f := 93) rfl ?_); refine goesL_ (some 26) rfl rfl Tryz.func93 (by kernel_rfl) rfl #[.int .i64 a0] rfl ml ?_; (with_reducible refine (qYt.calls kj2 a0 t161 t162 _ A9.out).mono ?_); rintro e w' ⟨rfl, ⟨nd, rfl⟩⟩; refine ⟨_, rfl, ?_⟩) | ((with_reducible refine qQh (f := 93) rfl ?_); refine goesL_ (some 31) rfl rfl Tryz.func93 (by kernel_rfl) rfl #[.int .i64 a1] rfl ml ?_; (with_reducible refine (qYt.calls kj2 a1 t163 t164 _ A10.out).mono ?_); rintro e w' ⟨rfl, ⟨nd, rfl⟩⟩; refine ⟨_, rfl, ?_⟩) | ((with_reducible refine qQh (f := 48) rfl ?_); refine goesL_ (some 39) rfl rfl Tryz.func48 (by kernel_rfl) rfl #[.int .i64 a0, .int .i64 (wrap64 (t163 - t161))] rfl ml ?_; (with_reducible refine (qZn.calls kj2 a0 (wrap64 (t163 - t161)) t165 t166 _ A11.out).mono ?_); rintro e w14 ⟨rfl, hb⟩; refine ⟨_, rfl, ?_⟩; have n0_ := am (qQb (by exact h0q HB.out) hb); clear HB; have HB := n0_; clear n0_; (try clear hb); (try clear hb2); (try clear hk); (try clear hi)))
   go_ret
   exact ⟨er, by exact h0q HB.out⟩
  rw [if_neg c13] at H
  have c13b0 : decide (t165 ≤ a1) = false := decide_eq_false c13
  clear c13
  obtain rfl := Option.some.inj H
  go_wp2_with (first | ((with_reducible refine qQh (f := 93) rfl ?_); refine goesL_ (some 26) rfl rfl Tryz.func93 (by kernel_rfl) rfl #[.int .i64 a0] rfl ml ?_; (with_reducible refine (qYt.calls kj2 a0 t161 t162 _ A9.out).mono ?_); rintro e w' ⟨rfl, ⟨nd, rfl⟩⟩; refine ⟨_, rfl, ?_⟩) | ((with_reducible refine qQh (f := 93) rfl ?_); refine goesL_ (some 31) rfl rfl Tryz.func93 (by kernel_rfl) rfl #[.int .i64 a1] rfl ml ?_; (with_reducible refine (qYt.calls kj2 a1 t163 t164 _ A10.out).mono ?_); rintro e w' ⟨rfl, ⟨nd, rfl⟩⟩; refine ⟨_, rfl, ?_⟩) | ((with_reducible refine qQh (f := 48) rfl ?_); refine goesL_ (some 39) rfl rfl Tryz.func48 (by kernel_rfl) rfl #[.int .i64 a0, .int .i64 (wrap64 (t163 - t161))] rfl ml ?_; (with_reducible refine (qZn.calls kj2 a0 (wrap64 (t163 - t161)) t165 t166 _ A11.out).mono ?_); rintro e w15 ⟨rfl, hb⟩; refine ⟨_, rfl, ?_⟩; have n0_ := am (qQb (by exact h0q HB.out) hb); clear HB; have HB := n0_; clear n0_; (try clear hb); (try clear hb2); (try clear hk); (try clear hi)))
  go_ret
  exact ⟨er, by exact h0q HB.out⟩
def qYa.f (k : Nat) (a0_0 : Int) (a0_1 : Int) (a0_2 : Int) (a0_3 : Int) (a0_4 : Int) (a0_5 : Int) (a0_6 : Bool) (a0_7 : Int) (a0_8 : Int) (a0_9 : Int) (a0_10 : Int) (a0_11 : Int) (a0_12 : Int) (a1 : Int) : Option (Int × Int) := (qZw.f k a0_9 a1).bind fun t168 => ((qYw.f k a0_10 t168).bind fun bt169 => (some (bt169.1, bt169.2)))
def qYa.T1 : Bool × List (List Nat × List Nat) := (true, [([], []), ([0], [0]), ([], []), ([2], [2]), ([], []), ([3, 4], [3, 4]), ([1, 5, 5], [1, 5]), ([6], [6]), ([6], [6]), ([7, 6, 0, 1, 2, 3, 4, 5, 6, 7, 8], [7]), ([8, 9, 0, 1, 2, 3, 4, 5, 6, 7, 8, 9], [8])])
def qYa.B1 : List Nat := [0, 1, 0, 4, 0, 28, 63, 127, 127, 511, 1023]
theorem qYa.tab1 : rtab .any (opsOf Tryz.f71 1) = qYa.T1 := by kernel_rfl
theorem qYa.bits1 : waitsOk qYa.T1.2 qYa.B1 = true := by kernel_rfl
set_option maxHeartbeats 8000000 in
set_option maxRecDepth 100000 in
theorem qYa.calls (k : Nat) (a0_0 : Int) (a0_1 : Int) (a0_2 : Int) (a0_3 : Int) (a0_4 : Int) (a0_5 : Int) (a0_6 : Bool) (a0_7 : Int) (a0_8 : Int) (a0_9 : Int) (a0_10 : Int) (a0_11 : Int) (a0_12 : Int) (a1 : Int) (r1 : Int) (r2 : Int) (w : World) (h : qYa.f k a0_0 a0_1 a0_2 a0_3 a0_4 a0_5 a0_6 a0_7 a0_8 a0_9 a0_10 a0_11 a0_12 a1 = some (r1, r2)) :
  Calls Tryz.prog 71 #[.agg #[.int .i64 a0_0, .int .i64 a0_1, .int .i64 a0_2, .int .i64 a0_3, .int .i64 a0_4, .int .i64 a0_5, .bool a0_6, .int .i64 a0_7, .int .i64 a0_8, .int .i64 a0_9, .int .i64 a0_10, .int .i64 a0_11, .int .i64 a0_12], .int .i64 a1] w fun e w' => e = .returned (.tuple #[.int .i64 r1, .int .i64 r2]) ∧ Below w.heap.size w w' := by
 have hu48 := Tryz.underlying48
 have HB := am (Below.refl w.heap.size w)
 have H : ((qZw.f k a0_9 a1).bind fun t168 => ((qYw.f k a0_10 t168).bind fun bt169 => (some (bt169.1, bt169.2)))) = some (r1, r2) := h
 clear h
 replace H := Option.bind_eq_some_iff.mp H
 obtain ⟨t168, A30, H⟩ := H
 replace H : ((qYw.f k a0_10 t168).bind fun bt169 => (some (bt169.1, bt169.2))) = some (r1, r2) := H
 have A3 := am A30
 clear A30
 replace H := Option.bind_eq_some_iff.mp H
 obtain ⟨⟨t169, t170⟩, A40, H⟩ := H
 replace H : (some (t169, t170)) = some (r1, r2) := H
 have A4 := am A40
 clear A40
 simp only [Option.some.injEq, Prod.mk.injEq] at H
 obtain ⟨rfl, rfl⟩ := H
 go_enter Tryz.func71, Tryz.ntmps71
 try go_wp2_with (first | ((with_reducible refine qQ0 (N := 2) rfl ?_); refine qQs ?hg (N := 2) ?hd (cs := #[.int .i64 a0_0, .int .i64 a0_1, .int .i64 a0_2, .int .i64 a0_3, .int .i64 a0_4, .int .i64 a0_5, .bool a0_6, .int .i64 a0_7, .int .i64 a0_8, .int .i64 a0_9, .int .i64 a0_10, .int .i64 a0_11, .int .i64 a0_12]) (t := 48) ?hr ?_; (case hd => rfl); (case hg => rfl); (case hr => first | (go_simp; done) | (go_simp; rfl)); intro gb167 hg w5 hbox hb; have n0_ := am (qQb (by exact h0q HB.out) hb); have n1_ := am (hbox); have n2_ := am ((by rw [hg]; exact (qQd (by exact h0q HB.out)) : w.heap.size ≤ gb167)); have n3_ := am ((by rw [hg]; exact (qQd (by exact h0q HB.out)) : w.heap.size ≤ gb167)); clear HB; have HB := n0_; have BK167 := n1_; have GW167 := n2_; have GE167 := n3_; clear n0_ n1_ n2_ n3_; clear hb hbox hg))
 have n0_ := am (qQv BK167.out)
 have n1_ := am (qXb HB.out)
 clear BK167
 clear HB
 have BK167 := n0_
 have HB := n1_
 clear n0_ n1_
 refine start_ (n := 11) (S := fun w' => w'.cell? ⟨gb167, 0, none⟩ = some (.int .i64 a0_0) ∧ w'.cell? ⟨gb167, 1, none⟩ = some (.int .i64 a0_1) ∧ w'.cell? ⟨gb167, 2, none⟩ = some (.int .i64 a0_2) ∧ w'.cell? ⟨gb167, 3, none⟩ = some (.int .i64 a0_3) ∧ w'.cell? ⟨gb167, 4, none⟩ = some (.int .i64 a0_4) ∧ w'.cell? ⟨gb167, 5, none⟩ = some (.int .i64 a0_5) ∧ w'.cell? ⟨gb167, 6, none⟩ = some (.bool a0_6) ∧ w'.cell? ⟨gb167, 7, none⟩ = some (.int .i64 a0_7) ∧ w'.cell? ⟨gb167, 8, none⟩ = some (.int .i64 a0_8) ∧ w'.cell? ⟨gb167, 9, none⟩ = some (.int .i64 a0_9) ∧ w'.cell? ⟨gb167, 10, none⟩ = some (.int .i64 a0_10) ∧ w'.cell? ⟨gb167, 11, none⟩ = some (.int .i64 a0_11) ∧ w'.cell? ⟨gb167, 12, none⟩ = some (.int .i64 a0_12)) (ds := []) #[false, false, false, false, false, false, false, false, false, false, false] (by kernel_rfl) rfl rfl ⟨(qQc BK167.out 0).trans rfl, (qQc BK167.out 1).trans rfl, (qQc BK167.out 2).trans rfl, (qQc BK167.out 3).trans rfl, (qQc BK167.out 4).trans rfl, (qQc BK167.out 5).trans rfl, (qQc BK167.out 6).trans rfl, (qQc BK167.out 7).trans rfl, (qQc BK167.out 8).trans rfl, (qQc BK167.out 9).trans rfl, (qQc BK167.out 10).trans rfl, (qQc BK167.out 11).trans rfl, (qQc BK167.out 12).trans rfl⟩ (fun hHeld => ?_); refine qJz qYa.tab1 qYa.bits1 (fun HT_ HW_ => ?_)
 generalize w5.drew = w6 at BK167 HB hHeld ⊢
 refine pure_ (i := 0) (N := some 6) (v := ?_) (a' := ?_) #[true, false, false, false, false, false, false, false, false, false, false] rfl rfl (qX6 HT_.out (by kernel_rfl)) (fun _ _ _ h => h) (Or.inl ⟨by rfl, ?_⟩) ?_ ?_
 rotate_left
 ·intro w'
  go_simp
  with_reducible rfl
 rotate_left
 ·exact pu
 refine pure_ (i := 2) (N := some 8) (v := ?_) (a' := ?_) #[true, false, true, false, false, false, false, false, false, false, false] rfl rfl (qX6 HT_.out (by kernel_rfl)) (fun _ _ _ h => h) (Or.inl ⟨by rfl, ?_⟩) ?_ ?_
 rotate_left
 ·intro w'
  go_simp
  with_reducible rfl
 rotate_left
 ·exact pu
 refine pure_ (i := 4) (N := some 10) (v := ?_) (a' := ?_) #[true, false, true, false, true, false, false, false, false, false, false] rfl rfl (qX6 HT_.out (by kernel_rfl)) (fun _ _ _ h => h) (Or.inl ⟨by rfl, ?_⟩) ?_ ?_
 rotate_left
 ·intro w'
  go_simp
  with_reducible rfl
 rotate_left
 ·exact pu
 refine take_ (i := 1) (N := some 7) (v := ?_) (a' := ?_) #[true, true, true, false, true, false, false, false, false, false, false] rfl rfl (zQ8 HT_.out HW_.out (by kernel_rfl)) (fun _ _ _ h => h) (Or.inl ⟨by rfl, ?_⟩) hHeld ?_ ?_
 rotate_left
 ·rintro w' ⟨s0, s1, s2, s3, s4, s5, s6, s7, s8, s9, s10, s11, s12⟩
  go_simp
  with_reducible rfl
 rotate_left
 ·exact pu
 refine take_ (i := 3) (N := some 9) (v := ?_) (a' := ?_) #[true, true, true, true, true, false, false, false, false, false, false] rfl rfl (zQ8 HT_.out HW_.out (by kernel_rfl)) (fun _ _ _ h => h) (Or.inl ⟨by rfl, ?_⟩) hHeld ?_ ?_
 rotate_left
 ·rintro w' ⟨s0, s1, s2, s3, s4, s5, s6, s7, s8, s9, s10, s11, s12⟩
  go_simp
  with_reducible rfl
 rotate_left
 ·exact pu
 refine one_ (i := 5) (N := some 11) #[true, true, true, true, true, true, false, false, false, false, false] rfl rfl (zQz HT_.out (by kernel_rfl)) (by decide) (fun K hK => ?_)
 refine goes_ Tryz.func73 (by kernel_rfl) rfl #[.int .i64 a0_9, .int .i64 a1] (by rfl) rfl rfl ml ?_
 with_reducible refine (qZw.calls k a0_9 a1 t168 _ A3.out).mono ?_
 rintro e w7 ⟨rfl, hb⟩
 refine ⟨_, rfl, ?_⟩
 have n0_ := am (qQg (g := gb167) (Up.up BK167.out) hb)
 have n1_ := am (qQb (by exact h1q HB.out GE167.out) hb)
 clear BK167
 clear HB
 have BK167 := n0_
 have HB := n1_
 clear n0_ n1_
 (try clear hb)
 (try clear hb2)
 (try clear hk)
 (try clear hi)
 refine hK.out _ _ ⟨(qQc BK167.out 0).trans rfl, (qQc BK167.out 1).trans rfl, (qQc BK167.out 2).trans rfl, (qQc BK167.out 3).trans rfl, (qQc BK167.out 4).trans rfl, (qQc BK167.out 5).trans rfl, (qQc BK167.out 6).trans rfl, (qQc BK167.out 7).trans rfl, (qQc BK167.out 8).trans rfl, (qQc BK167.out 9).trans rfl, (qQc BK167.out 10).trans rfl, (qQc BK167.out 11).trans rfl, (qQc BK167.out 12).trans rfl⟩ (fun hHeld => ?_)
 clear hK K
 refine norm_ (a' := ?_) ?_ ?_
 rotate_left
 ·show Act.put _ (some 11) _ = _
  exact pu
 refine one_ (i := 6) (N := some 12) #[true, true, true, true, true, true, true, false, false, false, false] rfl rfl (zQz HT_.out (by kernel_rfl)) (by decide) (fun K hK => ?_)
 refine goes_ Tryz.func72 (by kernel_rfl) rfl #[.int .i64 a0_10, .int .i64 t168] (by rfl) rfl rfl ml ?_
 with_reducible refine (qYw.calls k a0_10 t168 t169 t170 _ A4.out).mono ?_
 rintro e w8 ⟨rfl, hb⟩
 refine ⟨_, rfl, ?_⟩
 have n0_ := am (qQg (g := gb167) (Up.up BK167.out) hb)
 have n1_ := am (qQb (by exact h1q HB.out GE167.out) hb)
 clear BK167
 clear HB
 have BK167 := n0_
 have HB := n1_
 clear n0_ n1_
 (try clear hb)
 (try clear hb2)
 (try clear hk)
 (try clear hi)
 refine hK.out _ _ ⟨(qQc BK167.out 0).trans rfl, (qQc BK167.out 1).trans rfl, (qQc BK167.out 2).trans rfl, (qQc BK167.out 3).trans rfl, (qQc BK167.out 4).trans rfl, (qQc BK167.out 5).trans rfl, (qQc BK167.out 6).trans rfl, (qQc BK167.out 7).trans rfl, (qQc BK167.out 8).trans rfl, (qQc BK167.out 9).trans rfl, (qQc BK167.out 10).trans rfl, (qQc BK167.out 11).trans rfl, (qQc BK167.out 12).trans rfl⟩ (fun hHeld => ?_)
 clear hK K
 refine norm_ (a' := ?_) ?_ ?_
 rotate_left
 ·show Act.put _ (some 12) _ = _
  exact pu
 refine pure_ (i := 7) (N := some 13) (v := ?_) (a' := ?_) #[true, true, true, true, true, true, true, true, false, false, false] rfl rfl (qX6 HT_.out (by kernel_rfl)) (fun _ _ _ h => h) (Or.inl ⟨by rfl, ?_⟩) ?_ ?_
 rotate_left
 ·intro w'
  go_simp
  with_reducible rfl
 rotate_left
 ·exact pu
 refine pure_ (i := 8) (N := some 14) (v := ?_) (a' := ?_) #[true, true, true, true, true, true, true, true, true, false, false] rfl rfl (qX6 HT_.out (by kernel_rfl)) (fun _ _ _ h => h) (Or.inl ⟨by rfl, ?_⟩) ?_ ?_
 rotate_left
 ·intro w'
  go_simp
  with_reducible rfl
 rotate_left
 ·exact pu
 refine pure_ (i := 9) (N := some 4) (v := ?_) (a' := ?_) #[true, true, true, true, true, true, true, true, true, true, false] rfl rfl (qX6 HT_.out (by kernel_rfl)) (fun _ _ _ h => h) (Or.inl ⟨by rfl, ?_⟩) ?_ ?_
 rotate_left
 ·intro w'
  go_simp
  with_reducible rfl
 rotate_left
 ·exact pu
 refine pure_ (i := 10) (N := some 5) (v := ?_) (a' := ?_) #[true, true, true, true, true, true, true, true, true, true, true] rfl rfl (qX6 HT_.out (by kernel_rfl)) (fun _ _ _ h => h) (Or.inl ⟨by rfl, ?_⟩) ?_ ?_
 rotate_left
 ·intro w'
  go_simp
  with_reducible rfl
 rotate_left
 ·exact pu
 refine done_ (zYf HT_.out (by kernel_rfl)) ?_
 try go_wp2
 go_ret2
 exact ⟨er, by exact h1q HB.out GE167.out⟩
-- NOT PRINTED: function 45 (qQ9)
-- NOT PRINTED: function 18 (qZ8)
def qQ9.es : Array MapEntry := #[{ key := .int .i64 1, val := .func (.func 69) #[] #[], born := 0 }, { key := .int .i64 2, val := .func (.func 70) #[] #[], born := 1 }, { key := .int .i64 3, val := .func (.func 71) #[] #[], born := 2 }]
theorem qQ9.put {w : World} {r clock B : Nat} {es : Array MapEntry} {a : Int} {val : Value} (hb : w.heap[r]? = some (.map es clock)) (hf : Instr.findNow (.int .i64) (.int .i64 a) es.toList 0 = some none) (hB : B ≤ r) :
  ∃ w', Sem.run Tryz.prog (Instr.mapUpdate 80 (.map (some r)) (.int .i64 a) val) w = .ok () w' ∧ w'.heap[r]? = some (.map (es.push { key := .int .i64 a, val := val, born := clock }) (clock + 1)) ∧ Below B w w' := by
 have hu := Tryz.underlying80
 have hk := Tryz.underlying3
 have hc : (Instr.checkKey false 10000 3 (.int .i64 a)).run Tryz.prog w = .ok () w := MapKept.run_checkKey hk (by simp [MapKept.IsKey]) false 9999
 refine ⟨ChangeMaps.setBlock w r (.map (es.push { key := .int .i64 a, val := val, born := clock }) (clock + 1)), ?_, ChangeMaps.heap_setBlock_same hb _, ⟨rfl, rfl, rfl, by simp [ChangeMaps.setBlock], fun i hi => ChangeMaps.heap_setBlock_other hb _ (by omega)⟩⟩
 simp [Instr.mapUpdate, run_underlying hu, MapKept.run_getObj_map hb, hc, MapKept.run_findKey hk hf, MapKept.run_setObj_map _ hb, Result.andThen, ChangeMaps.setBlock]
set_option maxHeartbeats 8000000 in
set_option maxRecDepth 100000 in
theorem qQ9.calls (w : World) :
  Calls Tryz.prog 45 #[] w fun e w' => ∃ g, e = .returned (.map (some g)) ∧ w'.heap[g]? = some (.map qQ9.es 3) ∧ w.heap.size ≤ g ∧ Below w.heap.size w w' := by
 have hm : ∀ w1, Sem.run Tryz.prog (Instr.makeMap 80 none) w1 = .ok (.map (some w1.heap.size)) (w1.alloc (.map #[] 0)) := fun w1 => run_makeMap _ w1
 have e0 : (w.alloc (.map #[] 0)).heap[w.heap.size]? = some (.map #[] 0) := (MapKept.heap_alloc w _).1
 have b0 : Below w.heap.size w (w.alloc (.map #[] 0)) := qYp (Below.refl _ _) _
 obtain ⟨w1, h1, e1, b1⟩ := qQ9.put (B := w.heap.size) (a := 1) (val := .func (.func 69) #[] #[]) e0 rfl (Nat.le_refl _)
 obtain ⟨w2, h2, e2, b2⟩ := qQ9.put (B := w.heap.size) (a := 2) (val := .func (.func 70) #[] #[]) e1 rfl (Nat.le_refl _)
 obtain ⟨w3, h3, e3, b3⟩ := qQ9.put (B := w.heap.size) (a := 3) (val := .func (.func 71) #[] #[]) e2 rfl (Nat.le_refl _)
 have HE : Aside0 (w3.heap[w.heap.size]? = some (.map qQ9.es 3)) := ⟨e3⟩
 have HB : Aside0 (Below w.heap.size w w3) := ⟨((b0.trans b1).trans b2).trans b3⟩
 clear e0 e1 e2 e3 b0 b1 b2 b3
 go_enter Tryz.func45, Tryz.ntmps45
 go_wp2
 go_ret
 exact ⟨w.heap.size, rfl, HE.out, Nat.le_refl _, HB.out⟩
-- OF
theorem qQ9.look1 {w : World} {g : Nat} (hb : w.heap[g]? = some (.map qQ9.es 3)) : Sem.run Tryz.prog (Instr.lookup 80 (.map (some g)) (.int .i64 1) false) w = .ok (.func (.func 69) #[] #[]) w := by
 have hu := Tryz.underlying80
 have hk := Tryz.underlying3
 have hc : (Instr.checkKey false 10000 3 (.int .i64 1)).run Tryz.prog w = .ok () w := MapKept.run_checkKey hk (by simp [MapKept.IsKey]) false 9999
 have hf : Instr.findNow (.int .i64) (.int .i64 1) qQ9.es.toList 0 = some (some (0, .func (.func 69) #[] #[])) := rfl
 have he : qQ9.es.isEmpty = false := rfl
 simp [Instr.lookup, run_underlying hu, MapKept.run_getObj_map hb, he, hc, MapKept.run_findKey hk hf, Result.andThen]
theorem qQ9.look2 {w : World} {g : Nat} (hb : w.heap[g]? = some (.map qQ9.es 3)) : Sem.run Tryz.prog (Instr.lookup 80 (.map (some g)) (.int .i64 2) false) w = .ok (.func (.func 70) #[] #[]) w := by
 have hu := Tryz.underlying80
 have hk := Tryz.underlying3
 have hc : (Instr.checkKey false 10000 3 (.int .i64 2)).run Tryz.prog w = .ok () w := MapKept.run_checkKey hk (by simp [MapKept.IsKey]) false 9999
 have hf : Instr.findNow (.int .i64) (.int .i64 2) qQ9.es.toList 0 = some (some (1, .func (.func 70) #[] #[])) := rfl
 have he : qQ9.es.isEmpty = false := rfl
 simp [Instr.lookup, run_underlying hu, MapKept.run_getObj_map hb, he, hc, MapKept.run_findKey hk hf, Result.andThen]
theorem qQ9.look3 {w : World} {g : Nat} (hb : w.heap[g]? = some (.map qQ9.es 3)) : Sem.run Tryz.prog (Instr.lookup 80 (.map (some g)) (.int .i64 3) false) w = .ok (.func (.func 71) #[] #[]) w := by
 have hu := Tryz.underlying80
 have hk := Tryz.underlying3
 have hc : (Instr.checkKey false 10000 3 (.int .i64 3)).run Tryz.prog w = .ok () w := MapKept.run_checkKey hk (by simp [MapKept.IsKey]) false 9999
 have hf : Instr.findNow (.int .i64) (.int .i64 3) qQ9.es.toList 0 = some (some (2, .func (.func 71) #[] #[])) := rfl
 have he : qQ9.es.isEmpty = false := rfl
 simp [Instr.lookup, run_underlying hu, MapKept.run_getObj_map hb, he, hc, MapKept.run_findKey hk hf, Result.andThen]
theorem qQ9.find0 (a : Int) (h : ¬ (1 ≤ a ∧ a ≤ 3)) : Instr.findNow (.int .i64) (.int .i64 a) qQ9.es.toList 0 = some none := by
 have h1 : (a == 1) = false := beq_eq_false_iff_ne.mpr (by omega)
 have h2 : (a == 2) = false := beq_eq_false_iff_ne.mpr (by omega)
 have h3 : (a == 3) = false := beq_eq_false_iff_ne.mpr (by omega)
 simp [qQ9.es, Instr.findNow, Instr.sameNow, h1, h2, h3]
theorem qQ9.look0 {w : World} {g : Nat} (a : Int) (h : ¬ (1 ≤ a ∧ a ≤ 3)) (hb : w.heap[g]? = some (.map qQ9.es 3)) : Sem.run Tryz.prog (Instr.lookup 80 (.map (some g)) (.int .i64 a) false) w = .ok .nilFunc w := by
 have hu := Tryz.underlying80
 have hk := Tryz.underlying3
 have hc : (Instr.checkKey false 10000 3 (.int .i64 a)).run Tryz.prog w = .ok () w := MapKept.run_checkKey hk (by simp [MapKept.IsKey]) false 9999
 have hf := qQ9.find0 a h
 have he : qQ9.es.isEmpty = false := rfl
 have hz : (zeroValue 79).run Tryz.prog w = .ok .nilFunc w := by kernel_rfl
 simp [Instr.lookup, run_underlying hu, MapKept.run_getObj_map hb, he, hc, MapKept.run_findKey hk hf, hz, Result.andThen]
theorem qQ9.zQk {w : World} {g : Nat} (a : Int) (h : 1 ≤ a ∧ a ≤ 3) (hb : w.heap[g]? = some (.map qQ9.es 3)) : ∃ fid, Sem.run Tryz.prog (Instr.lookup 80 (.map (some g)) (.int .i64 a) false) w = .ok (.func (.func fid) #[] #[]) w := by
 rcases (by omega : a = 1 ∨ a = 2 ∨ a = 3) with rfl | rfl | rfl
 ·exact ⟨_, qQ9.look1 hb⟩
 ·exact ⟨_, qQ9.look2 hb⟩
 ·exact ⟨_, qQ9.look3 hb⟩
theorem qQ9.zX0 {w : World} {g : Nat} (a : Int) (hb : w.heap[g]? = some (.map qQ9.es 3)) : ∃ v, Sem.run Tryz.prog (Instr.lookup 80 (.map (some g)) (.int .i64 a) false) w = .ok v w := by
 by_cases h : 1 ≤ a ∧ a ≤ 3
 ·obtain ⟨fid, e⟩ := qQ9.zQk a h hb; exact ⟨_, e⟩
 ·exact ⟨_, qQ9.look0 a h hb⟩
def qZ8.val (k : Nat) (a0_0 : Int) (a0_1 : Int) (a0_2 : Int) (a0_3 : Int) (a0_4 : Int) (a0_5 : Int) (a0_6 : Bool) (a0_7 : Int) (a0_8 : Int) (a0_9 : Int) (a0_10 : Int) (a0_11 : Int) (a0_12 : Int) (a1 : Int) (a2 : Int) : Option (Int × Int) := if a1 = 1 then qY4.f a0_0 a0_1 a0_2 a0_3 a0_4 a0_5 a0_6 a0_7 a0_8 a0_9 a0_10 a0_11 a0_12 a2 else if a1 = 2 then qY5.f a0_0 a0_1 a0_2 a0_3 a0_4 a0_5 a0_6 a0_7 a0_8 a0_9 a0_10 a0_11 a0_12 a2 else qYa.f k a0_0 a0_1 a0_2 a0_3 a0_4 a0_5 a0_6 a0_7 a0_8 a0_9 a0_10 a0_11 a0_12 a2
def qZ8.f (k : Nat) (a0_0 : Int) (a0_1 : Int) (a0_2 : Int) (a0_3 : Int) (a0_4 : Int) (a0_5 : Int) (a0_6 : Bool) (a0_7 : Int) (a0_8 : Int) (a0_9 : Int) (a0_10 : Int) (a0_11 : Int) (a0_12 : Int) (a1 : Int) (a2 : Int) : Option (Int × Int) := (qQu.f k a0_0 a0_1 a0_2 a0_3 a0_4 a0_5 a0_6 a0_7 a0_8 a0_9 a0_10 a0_11 a0_12).bind fun g => if g = true then (if 1 ≤ a1 ∧ a1 ≤ 3 then ((qZm.f a2).bind fun d => if d = true then ((qYf.f a0_0 a0_1 a0_2 a0_3 a0_4 a0_5 a0_6 a0_7 a0_8 a0_9 a0_10 a0_11 a0_12).bind fun p => if p = true then ((qZ8.val k a0_0 a0_1 a0_2 a0_3 a0_4 a0_5 a0_6 a0_7 a0_8 a0_9 a0_10 a0_11 a0_12 a1 a2).bind fun v => if v.2 = 0 then qYk.f k a0_0 a0_1 a0_2 a0_3 a0_4 a0_5 a0_6 a0_7 a0_8 a0_9 a0_10 a0_11 a0_12 v.1 else some (0, v.2)) else some (0, 0)) else some (0, 1)) else some (0, 1)) else some (0, 1)
set_option maxHeartbeats 8000000 in
set_option maxRecDepth 100000 in
theorem qZ8.bad (k : Nat) (a0_0 : Int) (a0_1 : Int) (a0_2 : Int) (a0_3 : Int) (a0_4 : Int) (a0_5 : Int) (a0_6 : Bool) (a0_7 : Int) (a0_8 : Int) (a0_9 : Int) (a0_10 : Int) (a0_11 : Int) (a0_12 : Int) (a1 : Int) (a2 : Int) (w : World) (hg : qQu.f k a0_0 a0_1 a0_2 a0_3 a0_4 a0_5 a0_6 a0_7 a0_8 a0_9 a0_10 a0_11 a0_12 = some false) :
  Calls Tryz.prog 18 #[.agg #[.int .i64 a0_0, .int .i64 a0_1, .int .i64 a0_2, .int .i64 a0_3, .int .i64 a0_4, .int .i64 a0_5, .bool a0_6, .int .i64 a0_7, .int .i64 a0_8, .int .i64 a0_9, .int .i64 a0_10, .int .i64 a0_11, .int .i64 a0_12], .int .i64 a1, .int .i64 a2] w fun e w' => e = .returned (.tuple #[.int .i64 0, .int .i64 1]) ∧ Below w.heap.size w w' := by
 have hu := Tryz.underlying48
 have hnil : ∀ w1, Sem.run Tryz.prog (binOp .eql 79 .nilFunc .nilFunc) w1 = .ok (.bool true) w1 := fun _ => by kernel_rfl
 have hfun : ∀ (f : Fn) w1, Sem.run Tryz.prog (binOp .eql 79 (.func f #[] #[]) .nilFunc) w1 = .ok (.bool false) w1 := fun _ _ => by kernel_rfl
 have HB := am (Below.refl w.heap.size w)
 have A1 := am hg
 clear hg
 go_enter Tryz.func18, Tryz.ntmps18
 go_wp2_with (first | ((with_reducible refine qQ0 (N := 3) rfl ?_); refine qQs ?hg (N := 3) ?hd (cs := #[.int .i64 a0_0, .int .i64 a0_1, .int .i64 a0_2, .int .i64 a0_3, .int .i64 a0_4, .int .i64 a0_5, .bool a0_6, .int .i64 a0_7, .int .i64 a0_8, .int .i64 a0_9, .int .i64 a0_10, .int .i64 a0_11, .int .i64 a0_12]) (t := 48) ?hr ?_; (case hd => rfl); (case hg => rfl); (case hr => first | (go_simp; done) | (go_simp; rfl)); intro gb hg w6 hbox hb; have n0_ := am (qQb HB.out hb); have BK := am (hbox); clear HB; have HB := n0_; clear n0_ hb hbox hg; have hz := lc13 BK.out) | (go_at_call 45; refine (qQ9.calls _).mono ?_; rintro e w1 ⟨g, rfl, hmap, hgg, hb⟩; obtain ⟨fv, hl⟩ := qQ9.zX0 a1 hmap; clear hmap hgg; have n0_ := am (qQg (g := gb) BK.out hb); have n1_ := am (qQb HB.out hb); clear BK HB; have BK := n0_; have HB := n1_; clear n0_ n1_ hb hz; have hz := lc13 BK.out) | (go_at_call 26; (with_reducible refine (qQu.calls k a0_0 a0_1 a0_2 a0_3 a0_4 a0_5 a0_6 a0_7 a0_8 a0_9 a0_10 a0_11 a0_12 false _ A1.out).mono ?_); rintro e w1 ⟨rfl, hb⟩; have n0_ := am (qQg (g := gb) BK.out hb); have n1_ := am (qQb HB.out hb); clear BK HB; have BK := n0_; have HB := n1_; clear n0_ n1_ hb hz; have hz := lc13 BK.out))
 go_ret2
 exact ⟨by first | rfl | (simp [*]; done), HB.out⟩
set_option maxHeartbeats 8000000 in
set_option maxRecDepth 100000 in
theorem qZ8.none (k : Nat) (a0_0 : Int) (a0_1 : Int) (a0_2 : Int) (a0_3 : Int) (a0_4 : Int) (a0_5 : Int) (a0_6 : Bool) (a0_7 : Int) (a0_8 : Int) (a0_9 : Int) (a0_10 : Int) (a0_11 : Int) (a0_12 : Int) (a1 : Int) (a2 : Int) (w : World) (hg : qQu.f k a0_0 a0_1 a0_2 a0_3 a0_4 a0_5 a0_6 a0_7 a0_8 a0_9 a0_10 a0_11 a0_12 = some true) (hh : ¬ (1 ≤ a1 ∧ a1 ≤ 3)) :
  Calls Tryz.prog 18 #[.agg #[.int .i64 a0_0, .int .i64 a0_1, .int .i64 a0_2, .int .i64 a0_3, .int .i64 a0_4, .int .i64 a0_5, .bool a0_6, .int .i64 a0_7, .int .i64 a0_8, .int .i64 a0_9, .int .i64 a0_10, .int .i64 a0_11, .int .i64 a0_12], .int .i64 a1, .int .i64 a2] w fun e w' => e = .returned (.tuple #[.int .i64 0, .int .i64 1]) ∧ Below w.heap.size w w' := by
 have hu := Tryz.underlying48
 have hnil : ∀ w1, Sem.run Tryz.prog (binOp .eql 79 .nilFunc .nilFunc) w1 = .ok (.bool true) w1 := fun _ => by kernel_rfl
 have hfun : ∀ (f : Fn) w1, Sem.run Tryz.prog (binOp .eql 79 (.func f #[] #[]) .nilFunc) w1 = .ok (.bool false) w1 := fun _ _ => by kernel_rfl
 have HB := am (Below.refl w.heap.size w)
 have A1 := am hg
 have HH := am hh
 clear hg hh
 go_enter Tryz.func18, Tryz.ntmps18
 go_wp2_with (first | ((with_reducible refine qQ0 (N := 3) rfl ?_); refine qQs ?hg (N := 3) ?hd (cs := #[.int .i64 a0_0, .int .i64 a0_1, .int .i64 a0_2, .int .i64 a0_3, .int .i64 a0_4, .int .i64 a0_5, .bool a0_6, .int .i64 a0_7, .int .i64 a0_8, .int .i64 a0_9, .int .i64 a0_10, .int .i64 a0_11, .int .i64 a0_12]) (t := 48) ?hr ?_; (case hd => rfl); (case hg => rfl); (case hr => first | (go_simp; done) | (go_simp; rfl)); intro gb hg w6 hbox hb; have n0_ := am (qQb HB.out hb); have BK := am (hbox); clear HB; have HB := n0_; clear n0_ hb hbox hg; have hz := lc13 BK.out) | (go_at_call 45; refine (qQ9.calls _).mono ?_; rintro e w1 ⟨g, rfl, hmap, hgg, hb⟩; have hl := qQ9.look0 a1 HH.out hmap; clear hmap hgg; have n0_ := am (qQg (g := gb) BK.out hb); have n1_ := am (qQb HB.out hb); clear BK HB; have BK := n0_; have HB := n1_; clear n0_ n1_ hb hz; have hz := lc13 BK.out) | (go_at_call 26; (with_reducible refine (qQu.calls k a0_0 a0_1 a0_2 a0_3 a0_4 a0_5 a0_6 a0_7 a0_8 a0_9 a0_10 a0_11 a0_12 true _ A1.out).mono ?_); rintro e w1 ⟨rfl, hb⟩; have n0_ := am (qQg (g := gb) BK.out hb); have n1_ := am (qQb HB.out hb); clear BK HB; have BK := n0_; have HB := n1_; clear n0_ n1_ hb hz; have hz := lc13 BK.out))
 go_ret2
 exact ⟨by first | rfl | (simp [*]; done), HB.out⟩
set_option maxHeartbeats 8000000 in
set_option maxRecDepth 100000 in
theorem qZ8.late (k : Nat) (a0_0 : Int) (a0_1 : Int) (a0_2 : Int) (a0_3 : Int) (a0_4 : Int) (a0_5 : Int) (a0_6 : Bool) (a0_7 : Int) (a0_8 : Int) (a0_9 : Int) (a0_10 : Int) (a0_11 : Int) (a0_12 : Int) (a1 : Int) (a2 : Int) (w : World) (hg : qQu.f k a0_0 a0_1 a0_2 a0_3 a0_4 a0_5 a0_6 a0_7 a0_8 a0_9 a0_10 a0_11 a0_12 = some true) (hh : 1 ≤ a1 ∧ a1 ≤ 3) (hd : qZm.f a2 = some false) :
  Calls Tryz.prog 18 #[.agg #[.int .i64 a0_0, .int .i64 a0_1, .int .i64 a0_2, .int .i64 a0_3, .int .i64 a0_4, .int .i64 a0_5, .bool a0_6, .int .i64 a0_7, .int .i64 a0_8, .int .i64 a0_9, .int .i64 a0_10, .int .i64 a0_11, .int .i64 a0_12], .int .i64 a1, .int .i64 a2] w fun e w' => e = .returned (.tuple #[.int .i64 0, .int .i64 1]) ∧ Below w.heap.size w w' := by
 have hu := Tryz.underlying48
 have hnil : ∀ w1, Sem.run Tryz.prog (binOp .eql 79 .nilFunc .nilFunc) w1 = .ok (.bool true) w1 := fun _ => by kernel_rfl
 have hfun : ∀ (f : Fn) w1, Sem.run Tryz.prog (binOp .eql 79 (.func f #[] #[]) .nilFunc) w1 = .ok (.bool false) w1 := fun _ _ => by kernel_rfl
 have HB := am (Below.refl w.heap.size w)
 have A1 := am hg
 have HH := am hh
 have A2 := am hd
 clear hg hh hd
 go_enter Tryz.func18, Tryz.ntmps18
 go_wp2_with (first | ((with_reducible refine qQ0 (N := 3) rfl ?_); refine qQs ?hg (N := 3) ?hd (cs := #[.int .i64 a0_0, .int .i64 a0_1, .int .i64 a0_2, .int .i64 a0_3, .int .i64 a0_4, .int .i64 a0_5, .bool a0_6, .int .i64 a0_7, .int .i64 a0_8, .int .i64 a0_9, .int .i64 a0_10, .int .i64 a0_11, .int .i64 a0_12]) (t := 48) ?hr ?_; (case hd => rfl); (case hg => rfl); (case hr => first | (go_simp; done) | (go_simp; rfl)); intro gb hg w6 hbox hb; have n0_ := am (qQb HB.out hb); have BK := am (hbox); clear HB; have HB := n0_; clear n0_ hb hbox hg; have hz := lc13 BK.out) | (go_at_call 45; refine (qQ9.calls _).mono ?_; rintro e w1 ⟨g, rfl, hmap, hgg, hb⟩; obtain ⟨fid, hl⟩ := qQ9.zQk a1 HH.out hmap; clear hmap hgg; have n0_ := am (qQg (g := gb) BK.out hb); have n1_ := am (qQb HB.out hb); clear BK HB; have BK := n0_; have HB := n1_; clear n0_ n1_ hb hz; have hz := lc13 BK.out) | (go_at_call 26; (with_reducible refine (qQu.calls k a0_0 a0_1 a0_2 a0_3 a0_4 a0_5 a0_6 a0_7 a0_8 a0_9 a0_10 a0_11 a0_12 true _ A1.out).mono ?_); rintro e w1 ⟨rfl, hb⟩; have n0_ := am (qQg (g := gb) BK.out hb); have n1_ := am (qQb HB.out hb); clear BK HB; have BK := n0_; have HB := n1_; clear n0_ n1_ hb hz; have hz := lc13 BK.out) | (go_at_call 23; (with_reducible refine (qZm.calls a2 false _ A2.out).mono ?_); rintro e w1 ⟨rfl, hd_⟩; have hb := hd_.below; clear hd_; have n0_ := am (qQg (g := gb) BK.out hb); have n1_ := am (qQb HB.out hb); clear BK HB; have BK := n0_; have HB := n1_; clear n0_ n1_ hb hz; have hz := lc13 BK.out))
 go_ret2
 exact ⟨by first | rfl | (simp [*]; done), HB.out⟩
set_option maxHeartbeats 8000000 in
set_option maxRecDepth 100000 in
theorem qZ8.out (k : Nat) (a0_0 : Int) (a0_1 : Int) (a0_2 : Int) (a0_3 : Int) (a0_4 : Int) (a0_5 : Int) (a0_6 : Bool) (a0_7 : Int) (a0_8 : Int) (a0_9 : Int) (a0_10 : Int) (a0_11 : Int) (a0_12 : Int) (a1 : Int) (a2 : Int) (w : World) (hg : qQu.f k a0_0 a0_1 a0_2 a0_3 a0_4 a0_5 a0_6 a0_7 a0_8 a0_9 a0_10 a0_11 a0_12 = some true) (hh : 1 ≤ a1 ∧ a1 ≤ 3) (hd : qZm.f a2 = some true) (hp : qYf.f a0_0 a0_1 a0_2 a0_3 a0_4 a0_5 a0_6 a0_7 a0_8 a0_9 a0_10 a0_11 a0_12 = some false) :
  Calls Tryz.prog 18 #[.agg #[.int .i64 a0_0, .int .i64 a0_1, .int .i64 a0_2, .int .i64 a0_3, .int .i64 a0_4, .int .i64 a0_5, .bool a0_6, .int .i64 a0_7, .int .i64 a0_8, .int .i64 a0_9, .int .i64 a0_10, .int .i64 a0_11, .int .i64 a0_12], .int .i64 a1, .int .i64 a2] w fun e w' => e = .returned (.tuple #[.int .i64 0, .int .i64 0]) ∧ Below w.heap.size w w' := by
 have hu := Tryz.underlying48
 have hnil : ∀ w1, Sem.run Tryz.prog (binOp .eql 79 .nilFunc .nilFunc) w1 = .ok (.bool true) w1 := fun _ => by kernel_rfl
 have hfun : ∀ (f : Fn) w1, Sem.run Tryz.prog (binOp .eql 79 (.func f #[] #[]) .nilFunc) w1 = .ok (.bool false) w1 := fun _ _ => by kernel_rfl
 have HB := am (Below.refl w.heap.size w)
 have A1 := am hg
 have HH := am hh
 have A2 := am hd
 have A3 := am hp
 clear hg hh hd hp
 go_enter Tryz.func18, Tryz.ntmps18
 go_wp2_with (first | ((with_reducible refine qQ0 (N := 3) rfl ?_); refine qQs ?hg (N := 3) ?hd (cs := #[.int .i64 a0_0, .int .i64 a0_1, .int .i64 a0_2, .int .i64 a0_3, .int .i64 a0_4, .int .i64 a0_5, .bool a0_6, .int .i64 a0_7, .int .i64 a0_8, .int .i64 a0_9, .int .i64 a0_10, .int .i64 a0_11, .int .i64 a0_12]) (t := 48) ?hr ?_; (case hd => rfl); (case hg => rfl); (case hr => first | (go_simp; done) | (go_simp; rfl)); intro gb hg w6 hbox hb; have n0_ := am (qQb HB.out hb); have BK := am (hbox); clear HB; have HB := n0_; clear n0_ hb hbox hg; have hz := lc13 BK.out) | (go_at_call 45; refine (qQ9.calls _).mono ?_; rintro e w1 ⟨g, rfl, hmap, hgg, hb⟩; obtain ⟨fid, hl⟩ := qQ9.zQk a1 HH.out hmap; clear hmap hgg; have n0_ := am (qQg (g := gb) BK.out hb); have n1_ := am (qQb HB.out hb); clear BK HB; have BK := n0_; have HB := n1_; clear n0_ n1_ hb hz; have hz := lc13 BK.out) | (go_at_call 26; (with_reducible refine (qQu.calls k a0_0 a0_1 a0_2 a0_3 a0_4 a0_5 a0_6 a0_7 a0_8 a0_9 a0_10 a0_11 a0_12 true _ A1.out).mono ?_); rintro e w1 ⟨rfl, hb⟩; have n0_ := am (qQg (g := gb) BK.out hb); have n1_ := am (qQb HB.out hb); clear BK HB; have BK := n0_; have HB := n1_; clear n0_ n1_ hb hz; have hz := lc13 BK.out) | (go_at_call 23; (with_reducible refine (qZm.calls a2 true _ A2.out).mono ?_); rintro e w1 ⟨rfl, hd_⟩; have hb := hd_.below; clear hd_; have n0_ := am (qQg (g := gb) BK.out hb); have n1_ := am (qQb HB.out hb); clear BK HB; have BK := n0_; have HB := n1_; clear n0_ n1_ hb hz; have hz := lc13 BK.out) | (go_at_call 27; (with_reducible refine (qYf.calls a0_0 a0_1 a0_2 a0_3 a0_4 a0_5 a0_6 a0_7 a0_8 a0_9 a0_10 a0_11 a0_12 false _ A3.out).mono ?_); rintro e w1 ⟨rfl, hb⟩; have n0_ := am (qQg (g := gb) BK.out hb); have n1_ := am (qQb HB.out hb); clear BK HB; have BK := n0_; have HB := n1_; clear n0_ n1_ hb hz; have hz := lc13 BK.out))
 go_ret2
 exact ⟨by first | rfl | (simp [*]; done), HB.out⟩
set_option maxHeartbeats 8000000 in
set_option maxRecDepth 100000 in
theorem qZ8.err1 (k : Nat) (a0_0 : Int) (a0_1 : Int) (a0_2 : Int) (a0_3 : Int) (a0_4 : Int) (a0_5 : Int) (a0_6 : Bool) (a0_7 : Int) (a0_8 : Int) (a0_9 : Int) (a0_10 : Int) (a0_11 : Int) (a0_12 : Int) (a2 : Int) (w : World) (hg : qQu.f k a0_0 a0_1 a0_2 a0_3 a0_4 a0_5 a0_6 a0_7 a0_8 a0_9 a0_10 a0_11 a0_12 = some true) (hd : qZm.f a2 = some true) (hp : qYf.f a0_0 a0_1 a0_2 a0_3 a0_4 a0_5 a0_6 a0_7 a0_8 a0_9 a0_10 a0_11 a0_12 = some true) (v1 v2 : Int) (hv : qY4.f a0_0 a0_1 a0_2 a0_3 a0_4 a0_5 a0_6 a0_7 a0_8 a0_9 a0_10 a0_11 a0_12 a2 = some (v1, v2)) (he : v2 ≠ 0) :
  Calls Tryz.prog 18 #[.agg #[.int .i64 a0_0, .int .i64 a0_1, .int .i64 a0_2, .int .i64 a0_3, .int .i64 a0_4, .int .i64 a0_5, .bool a0_6, .int .i64 a0_7, .int .i64 a0_8, .int .i64 a0_9, .int .i64 a0_10, .int .i64 a0_11, .int .i64 a0_12], .int .i64 1, .int .i64 a2] w fun e w' => e = .returned (.tuple #[.int .i64 0, .int .i64 v2]) ∧ Below w.heap.size w w' := by
 have hu := Tryz.underlying48
 have hnil : ∀ w1, Sem.run Tryz.prog (binOp .eql 79 .nilFunc .nilFunc) w1 = .ok (.bool true) w1 := fun _ => by kernel_rfl
 have hfun : ∀ (f : Fn) w1, Sem.run Tryz.prog (binOp .eql 79 (.func f #[] #[]) .nilFunc) w1 = .ok (.bool false) w1 := fun _ _ => by kernel_rfl
 have HB := am (Below.refl w.heap.size w)
 have A1 := am hg
 have A2 := am hd
 have A3 := am hp
 have A4 := am hv
 clear hg hd hp hv
 have e1 : (v2 == 0) = false := beq_eq_false_iff_ne.mpr he
 have e2 : (v2 != 0) = true := bne_iff_ne.mpr he
 clear he
 go_enter Tryz.func18, Tryz.ntmps18
 go_wp2_with (first | ((with_reducible refine qQ0 (N := 3) rfl ?_); refine qQs ?hg (N := 3) ?hd (cs := #[.int .i64 a0_0, .int .i64 a0_1, .int .i64 a0_2, .int .i64 a0_3, .int .i64 a0_4, .int .i64 a0_5, .bool a0_6, .int .i64 a0_7, .int .i64 a0_8, .int .i64 a0_9, .int .i64 a0_10, .int .i64 a0_11, .int .i64 a0_12]) (t := 48) ?hr ?_; (case hd => rfl); (case hg => rfl); (case hr => first | (go_simp; done) | (go_simp; rfl)); intro gb hg w6 hbox hb; have n0_ := am (qQb HB.out hb); have BK := am (hbox); clear HB; have HB := n0_; clear n0_ hb hbox hg; have hz := lc13 BK.out) | (go_at_call 45; refine (qQ9.calls _).mono ?_; rintro e w1 ⟨g, rfl, hmap, hgg, hb⟩; have hl := qQ9.look1 hmap; clear hmap hgg; have n0_ := am (qQg (g := gb) BK.out hb); have n1_ := am (qQb HB.out hb); clear BK HB; have BK := n0_; have HB := n1_; clear n0_ n1_ hb hz; have hz := lc13 BK.out) | (go_at_call 26; (with_reducible refine (qQu.calls k a0_0 a0_1 a0_2 a0_3 a0_4 a0_5 a0_6 a0_7 a0_8 a0_9 a0_10 a0_11 a0_12 true _ A1.out).mono ?_); rintro e w1 ⟨rfl, hb⟩; have n0_ := am (qQg (g := gb) BK.out hb); have n1_ := am (qQb HB.out hb); clear BK HB; have BK := n0_; have HB := n1_; clear n0_ n1_ hb hz; have hz := lc13 BK.out) | (go_at_call 23; (with_reducible refine (qZm.calls a2 true _ A2.out).mono ?_); rintro e w1 ⟨rfl, hd_⟩; have hb := hd_.below; clear hd_; have n0_ := am (qQg (g := gb) BK.out hb); have n1_ := am (qQb HB.out hb); clear BK HB; have BK := n0_; have HB := n1_; clear n0_ n1_ hb hz; have hz := lc13 BK.out) | (go_at_call 27; (with_reducible refine (qYf.calls a0_0 a0_1 a0_2 a0_3 a0_4 a0_5 a0_6 a0_7 a0_8 a0_9 a0_10 a0_11 a0_12 true _ A3.out).mono ?_); rintro e w1 ⟨rfl, hb⟩; have n0_ := am (qQg (g := gb) BK.out hb); have n1_ := am (qQb HB.out hb); clear BK HB; have BK := n0_; have HB := n1_; clear n0_ n1_ hb hz; have hz := lc13 BK.out) | (go_at_call 69; (with_reducible refine (qY4.calls a0_0 a0_1 a0_2 a0_3 a0_4 a0_5 a0_6 a0_7 a0_8 a0_9 a0_10 a0_11 a0_12 a2 v1 v2 _ A4.out).mono ?_); rintro e w1 ⟨rfl, hb⟩; have n0_ := am (qQg (g := gb) BK.out hb); have n1_ := am (qQb HB.out hb); clear BK HB; have BK := n0_; have HB := n1_; clear n0_ n1_ hb hz; have hz := lc13 BK.out))
 go_ret2
 exact ⟨by first | rfl | (simp [*]; done), HB.out⟩
set_option maxHeartbeats 8000000 in
set_option maxRecDepth 100000 in
theorem qZ8.ok1 (k : Nat) (a0_0 : Int) (a0_1 : Int) (a0_2 : Int) (a0_3 : Int) (a0_4 : Int) (a0_5 : Int) (a0_6 : Bool) (a0_7 : Int) (a0_8 : Int) (a0_9 : Int) (a0_10 : Int) (a0_11 : Int) (a0_12 : Int) (a2 : Int) (w : World) (hg : qQu.f k a0_0 a0_1 a0_2 a0_3 a0_4 a0_5 a0_6 a0_7 a0_8 a0_9 a0_10 a0_11 a0_12 = some true) (hd : qZm.f a2 = some true) (hp : qYf.f a0_0 a0_1 a0_2 a0_3 a0_4 a0_5 a0_6 a0_7 a0_8 a0_9 a0_10 a0_11 a0_12 = some true) (v1 v2 : Int) (hv : qY4.f a0_0 a0_1 a0_2 a0_3 a0_4 a0_5 a0_6 a0_7 a0_8 a0_9 a0_10 a0_11 a0_12 a2 = some (v1, v2)) (he : v2 = 0) (r1 r2 : Int) (hc : qYk.f k a0_0 a0_1 a0_2 a0_3 a0_4 a0_5 a0_6 a0_7 a0_8 a0_9 a0_10 a0_11 a0_12 v1 = some (r1, r2)) :
  Calls Tryz.prog 18 #[.agg #[.int .i64 a0_0, .int .i64 a0_1, .int .i64 a0_2, .int .i64 a0_3, .int .i64 a0_4, .int .i64 a0_5, .bool a0_6, .int .i64 a0_7, .int .i64 a0_8, .int .i64 a0_9, .int .i64 a0_10, .int .i64 a0_11, .int .i64 a0_12], .int .i64 1, .int .i64 a2] w fun e w' => e = .returned (.tuple #[.int .i64 r1, .int .i64 r2]) ∧ Below w.heap.size w w' := by
 have hu := Tryz.underlying48
 have hnil : ∀ w1, Sem.run Tryz.prog (binOp .eql 79 .nilFunc .nilFunc) w1 = .ok (.bool true) w1 := fun _ => by kernel_rfl
 have hfun : ∀ (f : Fn) w1, Sem.run Tryz.prog (binOp .eql 79 (.func f #[] #[]) .nilFunc) w1 = .ok (.bool false) w1 := fun _ _ => by kernel_rfl
 have HB := am (Below.refl w.heap.size w)
 have A1 := am hg
 have A2 := am hd
 have A3 := am hp
 have A4 := am hv
 clear hg hd hp hv
 subst he
 have A5 := am hc
 clear hc
 go_enter Tryz.func18, Tryz.ntmps18
 go_wp2_with (first | ((with_reducible refine qQ0 (N := 3) rfl ?_); refine qQs ?hg (N := 3) ?hd (cs := #[.int .i64 a0_0, .int .i64 a0_1, .int .i64 a0_2, .int .i64 a0_3, .int .i64 a0_4, .int .i64 a0_5, .bool a0_6, .int .i64 a0_7, .int .i64 a0_8, .int .i64 a0_9, .int .i64 a0_10, .int .i64 a0_11, .int .i64 a0_12]) (t := 48) ?hr ?_; (case hd => rfl); (case hg => rfl); (case hr => first | (go_simp; done) | (go_simp; rfl)); intro gb hg w6 hbox hb; have n0_ := am (qQb HB.out hb); have BK := am (hbox); clear HB; have HB := n0_; clear n0_ hb hbox hg; have hz := lc13 BK.out) | (go_at_call 45; refine (qQ9.calls _).mono ?_; rintro e w1 ⟨g, rfl, hmap, hgg, hb⟩; have hl := qQ9.look1 hmap; clear hmap hgg; have n0_ := am (qQg (g := gb) BK.out hb); have n1_ := am (qQb HB.out hb); clear BK HB; have BK := n0_; have HB := n1_; clear n0_ n1_ hb hz; have hz := lc13 BK.out) | (go_at_call 26; (with_reducible refine (qQu.calls k a0_0 a0_1 a0_2 a0_3 a0_4 a0_5 a0_6 a0_7 a0_8 a0_9 a0_10 a0_11 a0_12 true _ A1.out).mono ?_); rintro e w1 ⟨rfl, hb⟩; have n0_ := am (qQg (g := gb) BK.out hb); have n1_ := am (qQb HB.out hb); clear BK HB; have BK := n0_; have HB := n1_; clear n0_ n1_ hb hz; have hz := lc13 BK.out) | (go_at_call 23; (with_reducible refine (qZm.calls a2 true _ A2.out).mono ?_); rintro e w1 ⟨rfl, hd_⟩; have hb := hd_.below; clear hd_; have n0_ := am (qQg (g := gb) BK.out hb); have n1_ := am (qQb HB.out hb); clear BK HB; have BK := n0_; have HB := n1_; clear n0_ n1_ hb hz; have hz := lc13 BK.out) | (go_at_call 27; (with_reducible refine (qYf.calls a0_0 a0_1 a0_2 a0_3 a0_4 a0_5 a0_6 a0_7 a0_8 a0_9 a0_10 a0_11 a0_12 true _ A3.out).mono ?_); rintro e w1 ⟨rfl, hb⟩; have n0_ := am (qQg (g := gb) BK.out hb); have n1_ := am (qQb HB.out hb); clear BK HB; have BK := n0_; have HB := n1_; clear n0_ n1_ hb hz; have hz := lc13 BK.out) | (go_at_call 69; (with_reducible refine (qY4.calls a0_0 a0_1 a0_2 a0_3 a0_4 a0_5 a0_6 a0_7 a0_8 a0_9 a0_10 a0_11 a0_12 a2 v1 0 _ A4.out).mono ?_); rintro e w1 ⟨rfl, hb⟩; have n0_ := am (qQg (g := gb) BK.out hb); have n1_ := am (qQb HB.out hb); clear BK HB; have BK := n0_; have HB := n1_; clear n0_ n1_ hb hz; have hz := lc13 BK.out) | (go_at_call 30; (with_reducible refine (qYk.calls k a0_0 a0_1 a0_2 a0_3 a0_4 a0_5 a0_6 a0_7 a0_8 a0_9 a0_10 a0_11 a0_12 v1 r1 r2 _ A5.out).mono ?_); rintro e w1 ⟨rfl, hb⟩; have n0_ := am (qQg (g := gb) BK.out hb); have n1_ := am (qQb HB.out hb); clear BK HB; have BK := n0_; have HB := n1_; clear n0_ n1_ hb hz; have hz := lc13 BK.out))
 go_ret2
 exact ⟨by first | rfl | (simp [*]; done), HB.out⟩
set_option maxHeartbeats 8000000 in
set_option maxRecDepth 100000 in
theorem qZ8.err2 (k : Nat) (a0_0 : Int) (a0_1 : Int) (a0_2 : Int) (a0_3 : Int) (a0_4 : Int) (a0_5 : Int) (a0_6 : Bool) (a0_7 : Int) (a0_8 : Int) (a0_9 : Int) (a0_10 : Int) (a0_11 : Int) (a0_12 : Int) (a2 : Int) (w : World) (hg : qQu.f k a0_0 a0_1 a0_2 a0_3 a0_4 a0_5 a0_6 a0_7 a0_8 a0_9 a0_10 a0_11 a0_12 = some true) (hd : qZm.f a2 = some true) (hp : qYf.f a0_0 a0_1 a0_2 a0_3 a0_4 a0_5 a0_6 a0_7 a0_8 a0_9 a0_10 a0_11 a0_12 = some true) (v1 v2 : Int) (hv : qY5.f a0_0 a0_1 a0_2 a0_3 a0_4 a0_5 a0_6 a0_7 a0_8 a0_9 a0_10 a0_11 a0_12 a2 = some (v1, v2)) (he : v2 ≠ 0) :
  Calls Tryz.prog 18 #[.agg #[.int .i64 a0_0, .int .i64 a0_1, .int .i64 a0_2, .int .i64 a0_3, .int .i64 a0_4, .int .i64 a0_5, .bool a0_6, .int .i64 a0_7, .int .i64 a0_8, .int .i64 a0_9, .int .i64 a0_10, .int .i64 a0_11, .int .i64 a0_12], .int .i64 2, .int .i64 a2] w fun e w' => e = .returned (.tuple #[.int .i64 0, .int .i64 v2]) ∧ Below w.heap.size w w' := by
 have hu := Tryz.underlying48
 have hnil : ∀ w1, Sem.run Tryz.prog (binOp .eql 79 .nilFunc .nilFunc) w1 = .ok (.bool true) w1 := fun _ => by kernel_rfl
 have hfun : ∀ (f : Fn) w1, Sem.run Tryz.prog (binOp .eql 79 (.func f #[] #[]) .nilFunc) w1 = .ok (.bool false) w1 := fun _ _ => by kernel_rfl
 have HB := am (Below.refl w.heap.size w)
 have A1 := am hg
 have A2 := am hd
 have A3 := am hp
 have A4 := am hv
 clear hg hd hp hv
 have e1 : (v2 == 0) = false := beq_eq_false_iff_ne.mpr he
 have e2 : (v2 != 0) = true := bne_iff_ne.mpr he
 clear he
 go_enter Tryz.func18, Tryz.ntmps18
 go_wp2_with (first | ((with_reducible refine qQ0 (N := 3) rfl ?_); refine qQs ?hg (N := 3) ?hd (cs := #[.int .i64 a0_0, .int .i64 a0_1, .int .i64 a0_2, .int .i64 a0_3, .int .i64 a0_4, .int .i64 a0_5, .bool a0_6, .int .i64 a0_7, .int .i64 a0_8, .int .i64 a0_9, .int .i64 a0_10, .int .i64 a0_11, .int .i64 a0_12]) (t := 48) ?hr ?_; (case hd => rfl); (case hg => rfl); (case hr => first | (go_simp; done) | (go_simp; rfl)); intro gb hg w6 hbox hb; have n0_ := am (qQb HB.out hb); have BK := am (hbox); clear HB; have HB := n0_; clear n0_ hb hbox hg; have hz := lc13 BK.out) | (go_at_call 45; refine (qQ9.calls _).mono ?_; rintro e w1 ⟨g, rfl, hmap, hgg, hb⟩; have hl := qQ9.look2 hmap; clear hmap hgg; have n0_ := am (qQg (g := gb) BK.out hb); have n1_ := am (qQb HB.out hb); clear BK HB; have BK := n0_; have HB := n1_; clear n0_ n1_ hb hz; have hz := lc13 BK.out) | (go_at_call 26; (with_reducible refine (qQu.calls k a0_0 a0_1 a0_2 a0_3 a0_4 a0_5 a0_6 a0_7 a0_8 a0_9 a0_10 a0_11 a0_12 true _ A1.out).mono ?_); rintro e w1 ⟨rfl, hb⟩; have n0_ := am (qQg (g := gb) BK.out hb); have n1_ := am (qQb HB.out hb); clear BK HB; have BK := n0_; have HB := n1_; clear n0_ n1_ hb hz; have hz := lc13 BK.out) | (go_at_call 23; (with_reducible refine (qZm.calls a2 true _ A2.out).mono ?_); rintro e w1 ⟨rfl, hd_⟩; have hb := hd_.below; clear hd_; have n0_ := am (qQg (g := gb) BK.out hb); have n1_ := am (qQb HB.out hb); clear BK HB; have BK := n0_; have HB := n1_; clear n0_ n1_ hb hz; have hz := lc13 BK.out) | (go_at_call 27; (with_reducible refine (qYf.calls a0_0 a0_1 a0_2 a0_3 a0_4 a0_5 a0_6 a0_7 a0_8 a0_9 a0_10 a0_11 a0_12 true _ A3.out).mono ?_); rintro e w1 ⟨rfl, hb⟩; have n0_ := am (qQg (g := gb) BK.out hb); have n1_ := am (qQb HB.out hb); clear BK HB; have BK := n0_; have HB := n1_; clear n0_ n1_ hb hz; have hz := lc13 BK.out) | (go_at_call 70; (with_reducible refine (qY5.calls a0_0 a0_1 a0_2 a0_3 a0_4 a0_5 a0_6 a0_7 a0_8 a0_9 a0_10 a0_11 a0_12 a2 v1 v2 _ A4.out).mono ?_); rintro e w1 ⟨rfl, hb⟩; have n0_ := am (qQg (g := gb) BK.out hb); have n1_ := am (qQb HB.out hb); clear BK HB; have BK := n0_; have HB := n1_; clear n0_ n1_ hb hz; have hz := lc13 BK.out))
 go_ret2
 exact ⟨by first | rfl | (simp [*]; done), HB.out⟩
set_option maxHeartbeats 8000000 in
set_option maxRecDepth 100000 in
theorem qZ8.ok2 (k : Nat) (a0_0 : Int) (a0_1 : Int) (a0_2 : Int) (a0_3 : Int) (a0_4 : Int) (a0_5 : Int) (a0_6 : Bool) (a0_7 : Int) (a0_8 : Int) (a0_9 : Int) (a0_10 : Int) (a0_11 : Int) (a0_12 : Int) (a2 : Int) (w : World) (hg : qQu.f k a0_0 a0_1 a0_2 a0_3 a0_4 a0_5 a0_6 a0_7 a0_8 a0_9 a0_10 a0_11 a0_12 = some true) (hd : qZm.f a2 = some true) (hp : qYf.f a0_0 a0_1 a0_2 a0_3 a0_4 a0_5 a0_6 a0_7 a0_8 a0_9 a0_10 a0_11 a0_12 = some true) (v1 v2 : Int) (hv : qY5.f a0_0 a0_1 a0_2 a0_3 a0_4 a0_5 a0_6 a0_7 a0_8 a0_9 a0_10 a0_11 a0_12 a2 = some (v1, v2)) (he : v2 = 0) (r1 r2 : Int) (hc : qYk.f k a0_0 a0_1 a0_2 a0_3 a0_4 a0_5 a0_6 a0_7 a0_8 a0_9 a0_10 a0_11 a0_12 v1 = some (r1, r2)) :
  Calls Tryz.prog 18 #[.agg #[.int .i64 a0_0, .int .i64 a0_1, .int .i64 a0_2, .int .i64 a0_3, .int .i64 a0_4, .int .i64 a0_5, .bool a0_6, .int .i64 a0_7, .int .i64 a0_8, .int .i64 a0_9, .int .i64 a0_10, .int .i64 a0_11, .int .i64 a0_12], .int .i64 2, .int .i64 a2] w fun e w' => e = .returned (.tuple #[.int .i64 r1, .int .i64 r2]) ∧ Below w.heap.size w w' := by
 have hu := Tryz.underlying48
 have hnil : ∀ w1, Sem.run Tryz.prog (binOp .eql 79 .nilFunc .nilFunc) w1 = .ok (.bool true) w1 := fun _ => by kernel_rfl
 have hfun : ∀ (f : Fn) w1, Sem.run Tryz.prog (binOp .eql 79 (.func f #[] #[]) .nilFunc) w1 = .ok (.bool false) w1 := fun _ _ => by kernel_rfl
 have HB := am (Below.refl w.heap.size w)
 have A1 := am hg
 have A2 := am hd
 have A3 := am hp
 have A4 := am hv
 clear hg hd hp hv
 subst he
 have A5 := am hc
 clear hc
 go_enter Tryz.func18, Tryz.ntmps18
 go_wp2_with (first | ((with_reducible refine qQ0 (N := 3) rfl ?_); refine qQs ?hg (N := 3) ?hd (cs := #[.int .i64 a0_0, .int .i64 a0_1, .int .i64 a0_2, .int .i64 a0_3, .int .i64 a0_4, .int .i64 a0_5, .bool a0_6, .int .i64 a0_7, .int .i64 a0_8, .int .i64 a0_9, .int .i64 a0_10, .int .i64 a0_11, .int .i64 a0_12]) (t := 48) ?hr ?_; (case hd => rfl); (case hg => rfl); (case hr => first | (go_simp; done) | (go_simp; rfl)); intro gb hg w6 hbox hb; have n0_ := am (qQb HB.out hb); have BK := am (hbox); clear HB; have HB := n0_; clear n0_ hb hbox hg; have hz := lc13 BK.out) | (go_at_call 45; refine (qQ9.calls _).mono ?_; rintro e w1 ⟨g, rfl, hmap, hgg, hb⟩; have hl := qQ9.look2 hmap; clear hmap hgg; have n0_ := am (qQg (g := gb) BK.out hb); have n1_ := am (qQb HB.out hb); clear BK HB; have BK := n0_; have HB := n1_; clear n0_ n1_ hb hz; have hz := lc13 BK.out) | (go_at_call 26; (with_reducible refine (qQu.calls k a0_0 a0_1 a0_2 a0_3 a0_4 a0_5 a0_6 a0_7 a0_8 a0_9 a0_10 a0_11 a0_12 true _ A1.out).mono ?_); rintro e w1 ⟨rfl, hb⟩; have n0_ := am (qQg (g := gb) BK.out hb); have n1_ := am (qQb HB.out hb); clear BK HB; have BK := n0_; have HB := n1_; clear n0_ n1_ hb hz; have hz := lc13 BK.out) | (go_at_call 23; (with_reducible refine (qZm.calls a2 true _ A2.out).mono ?_); rintro e w1 ⟨rfl, hd_⟩; have hb := hd_.below; clear hd_; have n0_ := am (qQg (g := gb) BK.out hb); have n1_ := am (qQb HB.out hb); clear BK HB; have BK := n0_; have HB := n1_; clear n0_ n1_ hb hz; have hz := lc13 BK.out) | (go_at_call 27; (with_reducible refine (qYf.calls a0_0 a0_1 a0_2 a0_3 a0_4 a0_5 a0_6 a0_7 a0_8 a0_9 a0_10 a0_11 a0_12 true _ A3.out).mono ?_); rintro e w1 ⟨rfl, hb⟩; have n0_ := am (qQg (g := gb) BK.out hb); have n1_ := am (qQb HB.out hb); clear BK HB; have BK := n0_; have HB := n1_; clear n0_ n1_ hb hz; have hz := lc13 BK.out) | (go_at_call 70; (with_reducible refine (qY5.calls a0_0 a0_1 a0_2 a0_3 a0_4 a0_5 a0_6 a0_7 a0_8 a0_9 a0_10 a0_11 a0_12 a2 v1 0 _ A4.out).mono ?_); rintro e w1 ⟨rfl, hb⟩; have n0_ := am (qQg (g := gb) BK.out hb); have n1_ := am (qQb HB.out hb); clear BK HB; have BK := n0_; have HB := n1_; clear n0_ n1_ hb hz; have hz := lc13 BK.out) | (go_at_call 30; (with_reducible refine (qYk.calls k a0_0 a0_1 a0_2 a0_3 a0_4 a0_5 a0_6 a0_7 a0_8 a0_9 a0_10 a0_11 a0_12 v1 r1 r2 _ A5.out).mono ?_); rintro e w1 ⟨rfl, hb⟩; have n0_ := am (qQg (g := gb) BK.out hb); have n1_ := am (qQb HB.out hb); clear BK HB; have BK := n0_; have HB := n1_; clear n0_ n1_ hb hz; have hz := lc13 BK.out))
 go_ret2
 exact ⟨by first | rfl | (simp [*]; done), HB.out⟩
set_option maxHeartbeats 8000000 in
set_option maxRecDepth 100000 in
theorem qZ8.err3 (k : Nat) (a0_0 : Int) (a0_1 : Int) (a0_2 : Int) (a0_3 : Int) (a0_4 : Int) (a0_5 : Int) (a0_6 : Bool) (a0_7 : Int) (a0_8 : Int) (a0_9 : Int) (a0_10 : Int) (a0_11 : Int) (a0_12 : Int) (a2 : Int) (w : World) (hg : qQu.f k a0_0 a0_1 a0_2 a0_3 a0_4 a0_5 a0_6 a0_7 a0_8 a0_9 a0_10 a0_11 a0_12 = some true) (hd : qZm.f a2 = some true) (hp : qYf.f a0_0 a0_1 a0_2 a0_3 a0_4 a0_5 a0_6 a0_7 a0_8 a0_9 a0_10 a0_11 a0_12 = some true) (v1 v2 : Int) (hv : qYa.f k a0_0 a0_1 a0_2 a0_3 a0_4 a0_5 a0_6 a0_7 a0_8 a0_9 a0_10 a0_11 a0_12 a2 = some (v1, v2)) (he : v2 ≠ 0) :
  Calls Tryz.prog 18 #[.agg #[.int .i64 a0_0, .int .i64 a0_1, .int .i64 a0_2, .int .i64 a0_3, .int .i64 a0_4, .int .i64 a0_5, .bool a0_6, .int .i64 a0_7, .int .i64 a0_8, .int .i64 a0_9, .int .i64 a0_10, .int .i64 a0_11, .int .i64 a0_12], .int .i64 3, .int .i64 a2] w fun e w' => e = .returned (.tuple #[.int .i64 0, .int .i64 v2]) ∧ Below w.heap.size w w' := by
 have hu := Tryz.underlying48
 have hnil : ∀ w1, Sem.run Tryz.prog (binOp .eql 79 .nilFunc .nilFunc) w1 = .ok (.bool true) w1 := fun _ => by kernel_rfl
 have hfun : ∀ (f : Fn) w1, Sem.run Tryz.prog (binOp .eql 79 (.func f #[] #[]) .nilFunc) w1 = .ok (.bool false) w1 := fun _ _ => by kernel_rfl
 have HB := am (Below.refl w.heap.size w)
 have A1 := am hg
 have A2 := am hd
 have A3 := am hp
 have A4 := am hv
 clear hg hd hp hv
 have e1 : (v2 == 0) = false := beq_eq_false_iff_ne.mpr he
 have e2 : (v2 != 0) = true := bne_iff_ne.mpr he
 clear he
 go_enter Tryz.func18, Tryz.ntmps18
 go_wp2_with (first | ((with_reducible refine qQ0 (N := 3) rfl ?_); refine qQs ?hg (N := 3) ?hd (cs := #[.int .i64 a0_0, .int .i64 a0_1, .int .i64 a0_2, .int .i64 a0_3, .int .i64 a0_4, .int .i64 a0_5, .bool a0_6, .int .i64 a0_7, .int .i64 a0_8, .int .i64 a0_9, .int .i64 a0_10, .int .i64 a0_11, .int .i64 a0_12]) (t := 48) ?hr ?_; (case hd => rfl); (case hg => rfl); (case hr => first | (go_simp; done) | (go_simp; rfl)); intro gb hg w6 hbox hb; have n0_ := am (qQb HB.out hb); have BK := am (hbox); clear HB; have HB := n0_; clear n0_ hb hbox hg; have hz := lc13 BK.out) | (go_at_call 45; refine (qQ9.calls _).mono ?_; rintro e w1 ⟨g, rfl, hmap, hgg, hb⟩; have hl := qQ9.look3 hmap; clear hmap hgg; have n0_ := am (qQg (g := gb) BK.out hb); have n1_ := am (qQb HB.out hb); clear BK HB; have BK := n0_; have HB := n1_; clear n0_ n1_ hb hz; have hz := lc13 BK.out) | (go_at_call 26; (with_reducible refine (qQu.calls k a0_0 a0_1 a0_2 a0_3 a0_4 a0_5 a0_6 a0_7 a0_8 a0_9 a0_10 a0_11 a0_12 true _ A1.out).mono ?_); rintro e w1 ⟨rfl, hb⟩; have n0_ := am (qQg (g := gb) BK.out hb); have n1_ := am (qQb HB.out hb); clear BK HB; have BK := n0_; have HB := n1_; clear n0_ n1_ hb hz; have hz := lc13 BK.out) | (go_at_call 23; (with_reducible refine (qZm.calls a2 true _ A2.out).mono ?_); rintro e w1 ⟨rfl, hd_⟩; have hb := hd_.below; clear hd_; have n0_ := am (qQg (g := gb) BK.out hb); have n1_ := am (qQb HB.out hb); clear BK HB; have BK := n0_; have HB := n1_; clear n0_ n1_ hb hz; have hz := lc13 BK.out) | (go_at_call 27; (with_reducible refine (qYf.calls a0_0 a0_1 a0_2 a0_3 a0_4 a0_5 a0_6 a0_7 a0_8 a0_9 a0_10 a0_11 a0_12 true _ A3.out).mono ?_); rintro e w1 ⟨rfl, hb⟩; have n0_ := am (qQg (g := gb) BK.out hb); have n1_ := am (qQb HB.out hb); clear BK HB; have BK := n0_; have HB := n1_; clear n0_ n1_ hb hz; have hz := lc13 BK.out) | (go_at_call 71; (with_reducible refine (qYa.calls k a0_0 a0_1 a0_2 a0_3 a0_4 a0_5 a0_6 a0_7 a0_8 a0_9 a0_10 a0_11 a0_12 a2 v1 v2 _ A4.out).mono ?_); rintro e w1 ⟨rfl, hb⟩; have n0_ := am (qQg (g := gb) BK.out hb); have n1_ := am (qQb HB.out hb); clear BK HB; have BK := n0_; have HB := n1_; clear n0_ n1_ hb hz; have hz := lc13 BK.out))
 go_ret2
 exact ⟨by first | rfl | (simp [*]; done), HB.out⟩
set_option maxHeartbeats 8000000 in
set_option maxRecDepth 100000 in
theorem qZ8.ok3 (k : Nat) (a0_0 : Int) (a0_1 : Int) (a0_2 : Int) (a0_3 : Int) (a0_4 : Int) (a0_5 : Int) (a0_6 : Bool) (a0_7 : Int) (a0_8 : Int) (a0_9 : Int) (a0_10 : Int) (a0_11 : Int) (a0_12 : Int) (a2 : Int) (w : World) (hg : qQu.f k a0_0 a0_1 a0_2 a0_3 a0_4 a0_5 a0_6 a0_7 a0_8 a0_9 a0_10 a0_11 a0_12 = some true) (hd : qZm.f a2 = some true) (hp : qYf.f a0_0 a0_1 a0_2 a0_3 a0_4 a0_5 a0_6 a0_7 a0_8 a0_9 a0_10 a0_11 a0_12 = some true) (v1 v2 : Int) (hv : qYa.f k a0_0 a0_1 a0_2 a0_3 a0_4 a0_5 a0_6 a0_7 a0_8 a0_9 a0_10 a0_11 a0_12 a2 = some (v1, v2)) (he : v2 = 0) (r1 r2 : Int) (hc : qYk.f k a0_0 a0_1 a0_2 a0_3 a0_4 a0_5 a0_6 a0_7 a0_8 a0_9 a0_10 a0_11 a0_12 v1 = some (r1, r2)) :
  Calls Tryz.prog 18 #[.agg #[.int .i64 a0_0, .int .i64 a0_1, .int .i64 a0_2, .int .i64 a0_3, .int .i64 a0_4, .int .i64 a0_5, .bool a0_6, .int .i64 a0_7, .int .i64 a0_8, .int .i64 a0_9, .int .i64 a0_10, .int .i64 a0_11, .int .i64 a0_12], .int .i64 3, .int .i64 a2] w fun e w' => e = .returned (.tuple #[.int .i64 r1, .int .i64 r2]) ∧ Below w.heap.size w w' := by
 have hu := Tryz.underlying48
 have hnil : ∀ w1, Sem.run Tryz.prog (binOp .eql 79 .nilFunc .nilFunc) w1 = .ok (.bool true) w1 := fun _ => by kernel_rfl
 have hfun : ∀ (f : Fn) w1, Sem.run Tryz.prog (binOp .eql 79 (.func f #[] #[]) .nilFunc) w1 = .ok (.bool false) w1 := fun _ _ => by kernel_rfl
 have HB := am (Below.refl w.heap.size w)
 have A1 := am hg
 have A2 := am hd
 have A3 := am hp
 have A4 := am hv
 clear hg hd hp hv
 subst he
 have A5 := am hc
 clear hc
 go_enter Tryz.func18, Tryz.ntmps18
 go_wp2_with (first | ((with_reducible refine qQ0 (N := 3) rfl ?_); refine qQs ?hg (N := 3) ?hd (cs := #[.int .i64 a0_0, .int .i64 a0_1, .int .i64 a0_2, .int .i64 a0_3, .int .i64 a0_4, .int .i64 a0_5, .bool a0_6, .int .i64 a0_7, .int .i64 a0_8, .int .i64 a0_9, .int .i64 a0_10, .int .i64 a0_11, .int .i64 a0_12]) (t := 48) ?hr ?_; (case hd => rfl); (case hg => rfl); (case hr => first | (go_simp; done) | (go_simp; rfl)); intro gb hg w6 hbox hb; have n0_ := am (qQb HB.out hb); have BK := am (hbox); clear HB; have HB := n0_; clear n0_ hb hbox hg; have hz := lc13 BK.out) | (go_at_call 45; refine (qQ9.calls _).mono ?_; rintro e w1 ⟨g, rfl, hmap, hgg, hb⟩; have hl := qQ9.look3 hmap; clear hmap hgg; have n0_ := am (qQg (g := gb) BK.out hb); have n1_ := am (qQb HB.out hb); clear BK HB; have BK := n0_; have HB := n1_; clear n0_ n1_ hb hz; have hz := lc13 BK.out) | (go_at_call 26; (with_reducible refine (qQu.calls k a0_0 a0_1 a0_2 a0_3 a0_4 a0_5 a0_6 a0_7 a0_8 a0_9 a0_10 a0_11 a0_12 true _ A1.out).mono ?_); rintro e w1 ⟨rfl, hb⟩; have n0_ := am (qQg (g := gb) BK.out hb); have n1_ := am (qQb HB.out hb); clear BK HB; have BK := n0_; have HB := n1_; clear n0_ n1_ hb hz; have hz := lc13 BK.out) | (go_at_call 23; (with_reducible refine (qZm.calls a2 true _ A2.out).mono ?_); rintro e w1 ⟨rfl, hd_⟩; have hb := hd_.below; clear hd_; have n0_ := am (qQg (g := gb) BK.out hb); have n1_ := am (qQb HB.out hb); clear BK HB; have BK := n0_; have HB := n1_; clear n0_ n1_ hb hz; have hz := lc13 BK.out) | (go_at_call 27; (with_reducible refine (qYf.calls a0_0 a0_1 a0_2 a0_3 a0_4 a0_5 a0_6 a0_7 a0_8 a0_9 a0_10 a0_11 a0_12 true _ A3.out).mono ?_); rintro e w1 ⟨rfl, hb⟩; have n0_ := am (qQg (g := gb) BK.out hb); have n1_ := am (qQb HB.out hb); clear BK HB; have BK := n0_; have HB := n1_; clear n0_ n1_ hb hz; have hz := lc13 BK.out) | (go_at_call 71; (with_reducible refine (qYa.calls k a0_0 a0_1 a0_2 a0_3 a0_4 a0_5 a0_6 a0_7 a0_8 a0_9 a0_10 a0_11 a0_12 a2 v1 0 _ A4.out).mono ?_); rintro e w1 ⟨rfl, hb⟩; have n0_ := am (qQg (g := gb) BK.out hb); have n1_ := am (qQb HB.out hb); clear BK HB; have BK := n0_; have HB := n1_; clear n0_ n1_ hb hz; have hz := lc13 BK.out) | (go_at_call 30; (with_reducible refine (qYk.calls k a0_0 a0_1 a0_2 a0_3 a0_4 a0_5 a0_6 a0_7 a0_8 a0_9 a0_10 a0_11 a0_12 v1 r1 r2 _ A5.out).mono ?_); rintro e w1 ⟨rfl, hb⟩; have n0_ := am (qQg (g := gb) BK.out hb); have n1_ := am (qQb HB.out hb); clear BK HB; have BK := n0_; have HB := n1_; clear n0_ n1_ hb hz; have hz := lc13 BK.out))
 go_ret2
 exact ⟨by first | rfl | (simp [*]; done), HB.out⟩
theorem qZ8.calls (k : Nat) (a0_0 : Int) (a0_1 : Int) (a0_2 : Int) (a0_3 : Int) (a0_4 : Int) (a0_5 : Int) (a0_6 : Bool) (a0_7 : Int) (a0_8 : Int) (a0_9 : Int) (a0_10 : Int) (a0_11 : Int) (a0_12 : Int) (a1 : Int) (a2 : Int) (r1 : Int) (r2 : Int) (w : World) (h : qZ8.f k a0_0 a0_1 a0_2 a0_3 a0_4 a0_5 a0_6 a0_7 a0_8 a0_9 a0_10 a0_11 a0_12 a1 a2 = some (r1, r2)) :
  Calls Tryz.prog 18 #[.agg #[.int .i64 a0_0, .int .i64 a0_1, .int .i64 a0_2, .int .i64 a0_3, .int .i64 a0_4, .int .i64 a0_5, .bool a0_6, .int .i64 a0_7, .int .i64 a0_8, .int .i64 a0_9, .int .i64 a0_10, .int .i64 a0_11, .int .i64 a0_12], .int .i64 a1, .int .i64 a2] w fun e w' => e = .returned (.tuple #[.int .i64 r1, .int .i64 r2]) ∧ Below w.heap.size w w' := by
 rw [qZ8.f] at h
 obtain ⟨g, hg, h⟩ := Option.bind_eq_some_iff.mp h
 cases g with
 | false =>
  rw [if_neg (by simp)] at h
  simp only [Option.some.injEq, Prod.mk.injEq] at h
  obtain ⟨rfl, rfl⟩ := h
  exact qZ8.bad k a0_0 a0_1 a0_2 a0_3 a0_4 a0_5 a0_6 a0_7 a0_8 a0_9 a0_10 a0_11 a0_12 a1 a2 w hg
 | true =>
  rw [if_pos rfl] at h
  by_cases hh : 1 ≤ a1 ∧ a1 ≤ 3
  case neg =>
   rw [if_neg hh] at h
   simp only [Option.some.injEq, Prod.mk.injEq] at h
   obtain ⟨rfl, rfl⟩ := h
   exact qZ8.none k a0_0 a0_1 a0_2 a0_3 a0_4 a0_5 a0_6 a0_7 a0_8 a0_9 a0_10 a0_11 a0_12 a1 a2 w hg hh
  rw [if_pos hh] at h
  obtain ⟨d, hd, h⟩ := Option.bind_eq_some_iff.mp h
  cases d with
  | false =>
   rw [if_neg (by simp)] at h
   simp only [Option.some.injEq, Prod.mk.injEq] at h
   obtain ⟨rfl, rfl⟩ := h
   exact qZ8.late k a0_0 a0_1 a0_2 a0_3 a0_4 a0_5 a0_6 a0_7 a0_8 a0_9 a0_10 a0_11 a0_12 a1 a2 w hg hh hd
  | true =>
   rw [if_pos rfl] at h
   obtain ⟨p, hp, h⟩ := Option.bind_eq_some_iff.mp h
   cases p with
   | false =>
    rw [if_neg (by simp)] at h
    simp only [Option.some.injEq, Prod.mk.injEq] at h
    obtain ⟨rfl, rfl⟩ := h
    exact qZ8.out k a0_0 a0_1 a0_2 a0_3 a0_4 a0_5 a0_6 a0_7 a0_8 a0_9 a0_10 a0_11 a0_12 a1 a2 w hg hh hd hp
   | true =>
    rw [if_pos rfl] at h
    obtain ⟨⟨v1, v2⟩, hv, h2⟩ := Option.bind_eq_some_iff.mp h
    have H9 : (if v2 = 0 then qYk.f k a0_0 a0_1 a0_2 a0_3 a0_4 a0_5 a0_6 a0_7 a0_8 a0_9 a0_10 a0_11 a0_12 v1 else some (0, v2)) = some (r1, r2) := h2
    rcases (by omega : a1 = 1 ∨ a1 = 2 ∨ a1 = 3) with rfl | rfl | rfl
    ·have hv : qY4.f a0_0 a0_1 a0_2 a0_3 a0_4 a0_5 a0_6 a0_7 a0_8 a0_9 a0_10 a0_11 a0_12 a2 = some (v1, v2) := hv
     by_cases he : v2 = 0
     ·rw [if_pos he] at H9
      exact qZ8.ok1 k a0_0 a0_1 a0_2 a0_3 a0_4 a0_5 a0_6 a0_7 a0_8 a0_9 a0_10 a0_11 a0_12 a2 w hg hd hp v1 v2 hv he r1 r2 H9
     ·rw [if_neg he] at H9
      simp only [Option.some.injEq, Prod.mk.injEq] at H9
      obtain ⟨rfl, rfl⟩ := H9
      exact qZ8.err1 k a0_0 a0_1 a0_2 a0_3 a0_4 a0_5 a0_6 a0_7 a0_8 a0_9 a0_10 a0_11 a0_12 a2 w hg hd hp v1 v2 hv he
    ·have hv : qY5.f a0_0 a0_1 a0_2 a0_3 a0_4 a0_5 a0_6 a0_7 a0_8 a0_9 a0_10 a0_11 a0_12 a2 = some (v1, v2) := hv
     by_cases he : v2 = 0
     ·rw [if_pos he] at H9
      exact qZ8.ok2 k a0_0 a0_1 a0_2 a0_3 a0_4 a0_5 a0_6 a0_7 a0_8 a0_9 a0_10 a0_11 a0_12 a2 w hg hd hp v1 v2 hv he r1 r2 H9
     ·rw [if_neg he] at H9
      simp only [Option.some.injEq, Prod.mk.injEq] at H9
      obtain ⟨rfl, rfl⟩ := H9
      exact qZ8.err2 k a0_0 a0_1 a0_2 a0_3 a0_4 a0_5 a0_6 a0_7 a0_8 a0_9 a0_10 a0_11 a0_12 a2 w hg hd hp v1 v2 hv he
    ·have hv : qYa.f k a0_0 a0_1 a0_2 a0_3 a0_4 a0_5 a0_6 a0_7 a0_8 a0_9 a0_10 a0_11 a0_12 a2 = some (v1, v2) := hv
     by_cases he : v2 = 0
     ·rw [if_pos he] at H9
      exact qZ8.ok3 k a0_0 a0_1 a0_2 a0_3 a0_4 a0_5 a0_6 a0_7 a0_8 a0_9 a0_10 a0_11 a0_12 a2 w hg hd hp v1 v2 hv he r1 r2 H9
     ·rw [if_neg he] at H9
      simp only [Option.some.injEq, Prod.mk.injEq] at H9
      obtain ⟨rfl, rfl⟩ := H9
      exact qZ8.err3 k a0_0 a0_1 a0_2 a0_3 a0_4 a0_5 a0_6 a0_7 a0_8 a0_9 a0_10 a0_11 a0_12 a2 w hg hd hp v1 v2 hv he
end Go.Proofs.YtlhcohipnieidaaGreat.P
