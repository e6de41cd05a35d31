/- Several texts as one (written by a program): what the walks and the plain laws come to, one behind the other. -/
import Derived.Test.YtlhcohipnieidaaGreatQa
import Derived.Test.YtlhcohipnieidaaGreatShelf
import Derived.MapKept
import Derived.ChangeMaps5
import Derived.Carry
namespace Go.Proofs.YtlhcohipnieidaaGreat.P
open Go.RowKit W.PrintWords W.PrintLast W.PrintMore
attribute [local go_sem] qX8 qWa qWu qWv qXt qXu qX9 qWb
set_option linter.unusedVariables false
set_option linter.unusedSimpArgs false
def qYs.f (k : Nat) (aI aQ aE aH aJ aK : Int) (aT : Bool) (aM aN aG aA aC aD a1 : Int) : Option (Int × Int) := (qY3.f k aI aQ aE aH aJ aK aT aM aN aG aA aC aD).bind fun eB => (if eB.2 = 0 then (some (mn a1 eB.1, 0)) else (some (0, eB.2)))
set_option maxHeartbeats 8000000 in
set_option maxRecDepth 100000 in
theorem qYs.calls (k : Nat) (aI aQ aE aH aJ aK : Int) (aT : Bool) (aM aN aG aA aC aD a1 r1 r2 : Int) (w : World) (h : qYs.f k aI aQ aE aH aJ aK aT aM aN aG aA aC aD a1 = some (r1, r2)) :
  Calls Tryz.prog 30 #[.agg #[.int .i64 aI, .int .i64 aQ, .int .i64 aE, .int .i64 aH, .int .i64 aJ, .int .i64 aK, .bool aT, .int .i64 aM, .int .i64 aN, .int .i64 aG, .int .i64 aA, .int .i64 aC, .int .i64 aD], .int .i64 a1] w fun e w' => e = .returned (.tuple #[.int .i64 r1, .int .i64 r2]) /\ Below w.heap.size w w' := by
 have gZ := Tryz.underlying48
 have HB := am (Below.refl w.heap.size w)
 have H := h
 unfold qYs.f at H
 clear h
 obtain ⟨⟨eJ, g7⟩, A3, H⟩ := bd H
 by_cases c4 : g7 = 0
 case neg =>
  rw [if_neg c4] at H
  have bH := beq_eq_false_iff_ne.mpr c4
  have cK := bne_iff_ne.mpr c4
  simp only [Option.some.injEq, Prod.mk.injEq] at H
  obtain ⟨rfl, rfl⟩ := H
  go_enter Tryz.func30, Tryz.ntmps30
  go_wp2_with (first | ((with_reducible refine gd 2 ?_); refine bE 2 _ 48 ?_; intro iC hg w9 hbox hb; have b4 := am hbox; have hX := e0 HB hg; have cS := e0 HB hg; replace HB := s0 HB hb; clear hb hbox hg; have kB := lc13 b4.out) | ((with_reducible refine gf 51 ?_); refine gC (some 10) Tryz.func51 (qY3.calls _ _ _ _ _ _ _ _ _ _ _ _ _ _ eJ g7 _ A3.out) ?_; rintro e lB ⟨rfl, hb⟩; refine ⟨_, rfl, ?_⟩; replace b4 := bB b4 hb; replace HB := s1 HB cS hb; (try clear hb); (try clear hb2); (try clear hk); (try clear hi)))
  go_ret2
  exact ⟨er, by exact h1q HB.out cS.out⟩
 rw [if_pos c4] at H
 have bH := beq_iff_eq.mpr c4
 have cK := bne_eq_false_iff_eq.mpr c4
 clear c4
 obtain ⟨jZ, eF⟩ : ∃ j_ : Int, (mn a1 eJ) = j_ := ⟨_, rfl⟩
 replace H : (some (jZ, 0)) = some (r1, r2) := by first | (rw [eF] at H; exact H) | (simp only [eF] at H ⊢; exact H)
 (try rw [eF] at A3)
 have hji5_ : (if eJ < a1 then eJ else a1) = jZ := eF
 simp only [Option.some.injEq, Prod.mk.injEq] at H
 obtain ⟨rfl, rfl⟩ := H
 go_enter Tryz.func30, Tryz.ntmps30
 go_wp2_with (first | ((with_reducible refine gd 2 ?_); refine bE 2 _ 48 ?_; intro iC hg w6 hbox hb; have b4 := am hbox; have hX := e0 HB hg; have cS := e0 HB hg; replace HB := s0 HB hb; clear hb hbox hg; have lA := lc13 b4.out) | ((with_reducible refine gf 51 ?_); refine gC (some 10) Tryz.func51 (qY3.calls _ _ _ _ _ _ _ _ _ _ _ _ _ _ eJ g7 _ A3.out) ?_; rintro e w8 ⟨rfl, hb⟩; refine ⟨_, rfl, ?_⟩; replace b4 := bB b4 hb; replace HB := s1 HB cS hb; (try clear hb); (try clear hb2); (try clear hk); (try clear hi)))
 go_ret2
 exact ⟨by first | rfl | (simp [qQj, qQk] <;> rfl) | (simp only [<- eF]; first | rfl | (simp [qQj, qQk] <;> rfl)) | (simp [*, qQj, qQk] <;> rfl), by exact h1q HB.out cS.out⟩
def qXn.f (aI aQ aE aH aJ aK : Int) (aT : Bool) (aM aN aG aA aC aD a1 : Int) : Option (Int × Int) := some (aA, 0)
set_option maxHeartbeats 8000000 in
set_option maxRecDepth 100000 in
theorem qXn.calls (aI aQ aE aH aJ aK : Int) (aT : Bool) (aM aN aG aA aC aD a1 r1 r2 : Int) (w : World) (h : qXn.f aI aQ aE aH aJ aK aT aM aN aG aA aC aD a1 = some (r1, r2)) :
  Calls Tryz.prog 69 #[.agg #[.int .i64 aI, .int .i64 aQ, .int .i64 aE, .int .i64 aH, .int .i64 aJ, .int .i64 aK, .bool aT, .int .i64 aM, .int .i64 aN, .int .i64 aG, .int .i64 aA, .int .i64 aC, .int .i64 aD], .int .i64 a1] w fun e w' => e = .returned (.tuple #[.int .i64 r1, .int .i64 r2]) /\ Below w.heap.size w w' := by
 have gZ := Tryz.underlying48
 have HB := am (Below.refl w.heap.size w)
 have H := h
 unfold qXn.f at H
 clear h
 simp only [Option.some.injEq, Prod.mk.injEq] at H
 obtain ⟨rfl, rfl⟩ := H
 go_enter Tryz.func69, Tryz.ntmps69
 go_wp2_with (first | ((with_reducible refine gd 2 ?_); refine bE 2 _ 48 ?_; intro jX hg w3 hbox hb; have hT := am hbox; have jI := e0 HB hg; have hV := e0 HB hg; replace HB := s0 HB hb; clear hb hbox hg; obtain ⟨gF, gG, gH, gI, gJ, gK, gL, gM, gN, gO, eT, eU, eV, gP, gQ, gR, gS, gT, gU, gV, gW, gX, gY, eW, eX, eY⟩ := lc13 hT.out))
 go_ret2
 exact ⟨er, by exact h1q HB.out hV.out⟩
def qXo.f (aI aQ aE aH aJ aK : Int) (aT : Bool) (aM aN aG aA aC aD a1 : Int) : Option (Int × Int) := some (aC, 0)
set_option maxHeartbeats 8000000 in
set_option maxRecDepth 100000 in
theorem qXo.calls (aI aQ aE aH aJ aK : Int) (aT : Bool) (aM aN aG aA aC aD a1 r1 r2 : Int) (w : World) (h : qXo.f aI aQ aE aH aJ aK aT aM aN aG aA aC aD a1 = some (r1, r2)) :
  Calls Tryz.prog 70 #[.agg #[.int .i64 aI, .int .i64 aQ, .int .i64 aE, .int .i64 aH, .int .i64 aJ, .int .i64 aK, .bool aT, .int .i64 aM, .int .i64 aN, .int .i64 aG, .int .i64 aA, .int .i64 aC, .int .i64 aD], .int .i64 a1] w fun e w' => e = .returned (.tuple #[.int .i64 r1, .int .i64 r2]) /\ Below w.heap.size w w' := by
 have gZ := Tryz.underlying48
 have HB := am (Below.refl w.heap.size w)
 have H := h
 unfold qXo.f at H
 clear h
 simp only [Option.some.injEq, Prod.mk.injEq] at H
 obtain ⟨rfl, rfl⟩ := H
 go_enter Tryz.func70, Tryz.ntmps70
 go_wp2_with (first | ((with_reducible refine gd 2 ?_); refine bE 2 _ 48 ?_; intro jY hg w3 hbox hb; have hU := am hbox; have jJ := e0 HB hg; have hW := e0 HB hg; replace HB := s0 HB hb; clear hb hbox hg; obtain ⟨gF, gG, gH, gI, gJ, gK, gL, gM, gN, gO, eT, eU, eV, gP, gQ, gR, gS, gT, gU, gV, gW, gX, gY, eW, eX, eY⟩ := lc13 hU.out))
 go_ret2
 exact ⟨er, by exact h1q HB.out hW.out⟩
def bits_Mul64.f (a0 a1 : Int) : Option (Int × Int) := if 0 <= a0 /\ a0 < 18446744073709551616 /\ 0 <= a1 /\ a1 < 18446744073709551616 then some (a0 * a1 / 18446744073709551616, a0 * a1 % 18446744073709551616) else none
theorem bits_Mul64.calls (a0 a1 r1 r2 : Int) (w : World) (h : bits_Mul64.f a0 a1 = some (r1, r2)) :
  Calls Tryz.prog 101 #[.int .u64 a0, .int .u64 a1] w fun e w' => e = .returned (.tuple #[.int .u64 r1, .int .u64 r2]) /\ Drawn0 w w' := by
 unfold bits_Mul64.f at h
 by_cases c : 0 <= a0 /\ a0 < 18446744073709551616 /\ 0 <= a1 /\ a1 < 18446744073709551616
 ·rw [if_pos c] at h
  simp only [Option.some.injEq, Prod.mk.injEq] at h
  obtain ⟨rfl, rfl⟩ := h
  obtain ⟨x, rfl⟩ : ∃ x : Nat, a0 = x := ⟨a0.toNat, by omega⟩
  obtain ⟨y, rfl⟩ : ∃ y : Nat, a1 = y := ⟨a1.toNat, by omega⟩
  refine (Tryz.bits_Mul64 x y (by omega) (by omega) w).mono ?_
  rintro e w' ⟨rfl, rfl⟩
  refine ⟨?_, Drawn0.refl _⟩
  simp only [Int.natCast_ediv, Int.natCast_emod, Int.natCast_mul]
  rfl
 ·rw [if_neg c] at h; cases h
def qWk.f (a0 a1 : Int) : Option (Int × Int) := (bits_Mul64.f a0 a1).bind fun fK => (some (fK.1, fK.2))
set_option maxHeartbeats 8000000 in
set_option maxRecDepth 100000 in
theorem qWk.calls (a0 a1 r1 r2 : Int) (w : World) (h : qWk.f a0 a1 = some (r1, r2)) :
  Calls Tryz.prog 82 #[.int .u64 a0, .int .u64 a1] w fun e w' => e = .returned (.tuple #[.int .u64 r1, .int .u64 r2]) /\ Drawn0 w w' := by
 have H := h
 unfold qWk.f at H
 clear h
 obtain ⟨⟨i1, i2⟩, A3, H⟩ := bd H
 simp only [Option.some.injEq, Prod.mk.injEq] at H
 obtain ⟨rfl, rfl⟩ := H
 go_enter Tryz.func82, Tryz.ntmps82
 go_wp2_with (first | ((with_reducible refine gf 101 ?_); refine gC (some 8) Tryz.func101 (bits_Mul64.calls _ _ i1 i2 _ A3.out) ?_; rintro e w' ⟨rfl, ⟨nd, rfl⟩⟩; refine ⟨_, rfl, ?_⟩))
 go_ret2
 exact ⟨fr, dr⟩
def bits_LeadingZeros64.f (a0 : Int) : Option (Int) := if 0 <= a0 /\ a0 <= 18446744073709551615 then some (64 - (Lib.bitLen a0.toNat : Int)) else none
theorem bits_LeadingZeros64.calls (a0 r : Int) (w : World) (h : bits_LeadingZeros64.f a0 = some r) :
  Calls Tryz.prog 114 #[.int .u64 a0] w fun e w' => e = .returned (.int .i64 r) /\ Drawn0 w w' := by
 unfold bits_LeadingZeros64.f at h
 by_cases c : 0 <= a0 /\ a0 <= 18446744073709551615
 ·rw [if_pos c] at h
  obtain rfl := Option.some.inj h
  refine (Tryz.bits_LeadingZeros64 a0 w c.1 c.2).mono ?_
  rintro e w' ⟨rfl, rfl⟩
  exact ⟨rfl, Drawn0.refl _⟩
 ·rw [if_neg c] at h; cases h
mutual
def qQ2.j2 : Nat -> Int -> Int -> Int -> Int -> Int -> Int -> Int -> Int -> Option (Int × Int)
 | 0, _, _, _, _, _, _, _, _ => none
 | k + 1, x2, x8, x9, cH, eL, cI, cB, bX => if x9 = 0 then (none) else (qQ2.l1 k x2 x8 x9 cH cB bX (IntKind.u64.wrap ((IntKind.u64.wrap ((IntKind.u64.wrap ((IntKind.u64.wrap (eL * 4294967296)) + cI)) - (IntKind.u64.wrap (bX * x2)))) - (IntKind.u64.wrap ((IntKind.u64.wrap (Int.tdiv (IntKind.u64.wrap ((IntKind.u64.wrap ((IntKind.u64.wrap (eL * 4294967296)) + cI)) - (IntKind.u64.wrap (bX * x2)))) x9)) * x9)))) (IntKind.u64.wrap ((IntKind.u64.wrap ((IntKind.u64.wrap (eL * 4294967296)) + cI)) - (IntKind.u64.wrap (bX * x2)))) (IntKind.u64.wrap (Int.tdiv (IntKind.u64.wrap ((IntKind.u64.wrap ((IntKind.u64.wrap (eL * 4294967296)) + cI)) - (IntKind.u64.wrap (bX * x2)))) x9)))
def qQ2.l1 : Nat -> Int -> Int -> Int -> Int -> Int -> Int -> Int -> Int -> Int -> Option (Int × Int)
 | 0, _, _, _, _, _, _, _, _, _ => none
 | k + 1, x2, x8, x9, cH, cB, bX, bY, hO, eQ => if eQ ≥ 4294967296 then (qQ2.j4 k x2 x8 x9 cH cB bX bY hO eQ true) else (qQ2.j4 k x2 x8 x9 cH cB bX bY hO eQ (decide ((IntKind.u64.wrap (eQ * cH)) > (IntKind.u64.wrap ((IntKind.u64.wrap (4294967296 * bY)) + cB)))))
def qQ2.j4 : Nat -> Int -> Int -> Int -> Int -> Int -> Int -> Int -> Int -> Int -> Bool -> Option (Int × Int)
 | 0, _, _, _, _, _, _, _, _, _, _ => none
 | k + 1, x2, x8, x9, cH, cB, bX, bY, hO, eQ, jG => if jG = true then (if (IntKind.u64.wrap (bY + x9)) ≥ 4294967296 then (if 0 <= x8 then (some (IntKind.u64.wrap ((IntKind.u64.wrap (bX * 4294967296)) + (IntKind.u64.wrap (eQ - 1))), shr .u64 (IntKind.u64.wrap ((IntKind.u64.wrap ((IntKind.u64.wrap (hO * 4294967296)) + cB)) - (IntKind.u64.wrap ((IntKind.u64.wrap (eQ - 1)) * x2)))) x8)) else (none)) else (qQ2.l1 k x2 x8 x9 cH cB bX (IntKind.u64.wrap (bY + x9)) hO (IntKind.u64.wrap (eQ - 1)))) else (if 0 <= x8 then (some (IntKind.u64.wrap ((IntKind.u64.wrap (bX * 4294967296)) + eQ), shr .u64 (IntKind.u64.wrap ((IntKind.u64.wrap ((IntKind.u64.wrap (hO * 4294967296)) + cB)) - (IntKind.u64.wrap (eQ * x2)))) x8)) else (none))
def qQ2.l0 : Nat -> Int -> Int -> Int -> Int -> Int -> Int -> Int -> Int -> Int -> Option (Int × Int)
 | 0, _, _, _, _, _, _, _, _, _ => none
 | k + 1, x2, x8, x9, cH, eL, cI, cB, bX, bY => if bX ≥ 4294967296 then (qQ2.j1 k x2 x8 x9 cH eL cI cB bX bY true) else (qQ2.j1 k x2 x8 x9 cH eL cI cB bX bY (decide ((IntKind.u64.wrap (bX * cH)) > (IntKind.u64.wrap ((IntKind.u64.wrap (4294967296 * bY)) + cI)))))
def qQ2.j1 : Nat -> Int -> Int -> Int -> Int -> Int -> Int -> Int -> Int -> Int -> Bool -> Option (Int × Int)
 | 0, _, _, _, _, _, _, _, _, _, _ => none
 | k + 1, x2, x8, x9, cH, eL, cI, cB, bX, bY, k6 => if k6 = true then (if (IntKind.u64.wrap (bY + x9)) ≥ 4294967296 then (qQ2.j2 k x2 x8 x9 cH eL cI cB (IntKind.u64.wrap (bX - 1))) else (qQ2.l0 k x2 x8 x9 cH eL cI cB (IntKind.u64.wrap (bX - 1)) (IntKind.u64.wrap (bY + x9)))) else (qQ2.j2 k x2 x8 x9 cH eL cI cB bX)
end
def qQ2.f (k : Nat) (a0 a1 a2 : Int) : Option (Int × Int) := if a2 = 0 then (none) else (if a2 <= a0 then (none) else (if a0 = 0 then (some (IntKind.u64.wrap (Int.tdiv a1 a2), Int.tmod a1 a2)) else ((bits_LeadingZeros64.f a2).bind fun a8 => (if 0 <= (IntKind.u64.wrap (a8)) then (if 0 <= (IntKind.u64.wrap (64 - (IntKind.u64.wrap (a8)))) then (if ((shl .u64 a2 (IntKind.u64.wrap (a8))) / 4294967296) = 0 then (none) else (qQ2.l0 k (shl .u64 a2 (IntKind.u64.wrap (a8))) (IntKind.u64.wrap (a8)) ((shl .u64 a2 (IntKind.u64.wrap (a8))) / 4294967296) (Go.bits .and .u64 (shl .u64 a2 (IntKind.u64.wrap (a8))) 4294967295) (Go.bits .or .u64 (shl .u64 a0 (IntKind.u64.wrap (a8))) (shr .u64 a1 (IntKind.u64.wrap (64 - (IntKind.u64.wrap (a8)))))) ((shl .u64 a1 (IntKind.u64.wrap (a8))) / 4294967296) (Go.bits .and .u64 (shl .u64 a1 (IntKind.u64.wrap (a8))) 4294967295) (IntKind.u64.wrap (Int.tdiv (Go.bits .or .u64 (shl .u64 a0 (IntKind.u64.wrap (a8))) (shr .u64 a1 (IntKind.u64.wrap (64 - (IntKind.u64.wrap (a8)))))) ((shl .u64 a2 (IntKind.u64.wrap (a8))) / 4294967296))) (IntKind.u64.wrap ((Go.bits .or .u64 (shl .u64 a0 (IntKind.u64.wrap (a8))) (shr .u64 a1 (IntKind.u64.wrap (64 - (IntKind.u64.wrap (a8)))))) - (IntKind.u64.wrap ((IntKind.u64.wrap (Int.tdiv (Go.bits .or .u64 (shl .u64 a0 (IntKind.u64.wrap (a8))) (shr .u64 a1 (IntKind.u64.wrap (64 - (IntKind.u64.wrap (a8)))))) ((shl .u64 a2 (IntKind.u64.wrap (a8))) / 4294967296))) * ((shl .u64 a2 (IntKind.u64.wrap (a8))) / 4294967296))))))) else (none)) else (none)))))
set_option maxHeartbeats 8000000 in
set_option maxRecDepth 100000 in
theorem qQ2.calls (k : Nat) (a0 a1 a2 r1 r2 : Int) (w : World) (h : qQ2.f k a0 a1 a2 = some (r1, r2)) :
  Calls Tryz.prog 102 #[.int .u64 a0, .int .u64 a1, .int .u64 a2] w fun e w' => e = .returned (.tuple #[.int .u64 r1, .int .u64 r2]) /\ Drawn0 w w' := by
 have H := h
 unfold qQ2.f at H
 clear h
 by_cases c4 : a2 = 0
 ·rw [if_pos c4] at H
  exact absurd H (by simp)
 rw [if_neg c4] at H
 have bH := beq_eq_false_iff_ne.mpr c4
 have cK := bne_iff_ne.mpr c4
 by_cases c5 : a2 <= a0
 ·rw [if_pos c5] at H
  exact absurd H (by simp)
 rw [if_neg c5] at H
 have aZ := decide_eq_false c5
 clear c5
 by_cases c6 : a0 = 0
 ·rw [if_pos c6] at H
  have a4 := beq_iff_eq.mpr c6
  have cZ := bne_eq_false_iff_eq.mpr c6
  clear c6
  simp only [Option.some.injEq, Prod.mk.injEq] at H
  obtain ⟨rfl, rfl⟩ := H
  go_enter Tryz.func102, Tryz.ntmps102
  go_wp2
  repeat (go_quiet (fail); try go_wp2)
  go_ret2
  exact ⟨by first | rfl | (simp [i64_w, i32_w, qQj, qQk]; done) | (simp; done) | (simp [*]; done), dr⟩
 rw [if_neg c6] at H
 have a4 := beq_eq_false_iff_ne.mpr c6
 have cZ := bne_iff_ne.mpr c6
 obtain ⟨a8, A7, H⟩ := bd H
 obtain ⟨aX, eG⟩ : ∃ j_ : Int, (IntKind.u64.wrap (a8)) = j_ := ⟨_, rfl⟩
 replace H : (if 0 <= (aX) then (if 0 <= (IntKind.u64.wrap (64 - (aX))) then (if ((shl .u64 a2 (aX)) / 4294967296) = 0 then (none) else (qQ2.l0 k (shl .u64 a2 (aX)) aX ((shl .u64 a2 (aX)) / 4294967296) (Go.bits .and .u64 (shl .u64 a2 (aX)) 4294967295) (Go.bits .or .u64 (shl .u64 a0 (aX)) (shr .u64 a1 (IntKind.u64.wrap (64 - (aX))))) ((shl .u64 a1 (aX)) / 4294967296) (Go.bits .and .u64 (shl .u64 a1 (aX)) 4294967295) (IntKind.u64.wrap (Int.tdiv (Go.bits .or .u64 (shl .u64 a0 (aX)) (shr .u64 a1 (IntKind.u64.wrap (64 - (aX))))) ((shl .u64 a2 (aX)) / 4294967296))) (IntKind.u64.wrap ((Go.bits .or .u64 (shl .u64 a0 (aX)) (shr .u64 a1 (IntKind.u64.wrap (64 - (aX))))) - (IntKind.u64.wrap ((IntKind.u64.wrap (Int.tdiv (Go.bits .or .u64 (shl .u64 a0 (aX)) (shr .u64 a1 (IntKind.u64.wrap (64 - (aX))))) ((shl .u64 a2 (aX)) / 4294967296))) * ((shl .u64 a2 (aX)) / 4294967296))))))) else (none)) else (none)) = some (r1, r2) := by first | (rw [eG] at H; exact H) | (simp only [eG] at H ⊢; exact H)
 (try rw [eG] at A7)
 by_cases c9 : 0 <= (aX)
 case neg =>
  rw [if_neg c9] at H
  exact absurd H (by simp)
 rw [if_pos c9] at H
 have bD := eq_true c9
 have eD := decide_eq_true c9
 clear c9
 obtain ⟨aU, bC⟩ : ∃ j_ : Int, (shl .u64 a2 (aX)) = j_ := ⟨_, rfl⟩
 replace H : (if 0 <= (IntKind.u64.wrap (64 - (aX))) then (if ((aU) / 4294967296) = 0 then (none) else (qQ2.l0 k aU aX ((aU) / 4294967296) (Go.bits .and .u64 (aU) 4294967295) (Go.bits .or .u64 (shl .u64 a0 (aX)) (shr .u64 a1 (IntKind.u64.wrap (64 - (aX))))) ((shl .u64 a1 (aX)) / 4294967296) (Go.bits .and .u64 (shl .u64 a1 (aX)) 4294967295) (IntKind.u64.wrap (Int.tdiv (Go.bits .or .u64 (shl .u64 a0 (aX)) (shr .u64 a1 (IntKind.u64.wrap (64 - (aX))))) ((aU) / 4294967296))) (IntKind.u64.wrap ((Go.bits .or .u64 (shl .u64 a0 (aX)) (shr .u64 a1 (IntKind.u64.wrap (64 - (aX))))) - (IntKind.u64.wrap ((IntKind.u64.wrap (Int.tdiv (Go.bits .or .u64 (shl .u64 a0 (aX)) (shr .u64 a1 (IntKind.u64.wrap (64 - (aX))))) ((aU) / 4294967296))) * ((aU) / 4294967296))))))) else (none)) = some (r1, r2) := by first | (rw [bC] at H; exact H) | (simp only [bC] at H ⊢; exact H)
 (try rw [bC] at A7)
 have hji10_ : (IntKind.u64.wrap (a2 * 2 ^ min (aX).toNat 64)) = aU := bC
 have hji10z : (aX) <= 64 -> (IntKind.u64.wrap (a2 * 2 ^ (aX).toNat)) = aU := qJd bC
 have bU := eq_true (yd : 0 <= (aX))
 obtain ⟨aW, a6⟩ : ∃ j_ : Int, (shl .u64 a0 (aX)) = j_ := ⟨_, rfl⟩
 replace H : (if 0 <= (IntKind.u64.wrap (64 - (aX))) then (if ((aU) / 4294967296) = 0 then (none) else (qQ2.l0 k aU aX ((aU) / 4294967296) (Go.bits .and .u64 (aU) 4294967295) (Go.bits .or .u64 (aW) (shr .u64 a1 (IntKind.u64.wrap (64 - (aX))))) ((shl .u64 a1 (aX)) / 4294967296) (Go.bits .and .u64 (shl .u64 a1 (aX)) 4294967295) (IntKind.u64.wrap (Int.tdiv (Go.bits .or .u64 (aW) (shr .u64 a1 (IntKind.u64.wrap (64 - (aX))))) ((aU) / 4294967296))) (IntKind.u64.wrap ((Go.bits .or .u64 (aW) (shr .u64 a1 (IntKind.u64.wrap (64 - (aX))))) - (IntKind.u64.wrap ((IntKind.u64.wrap (Int.tdiv (Go.bits .or .u64 (aW) (shr .u64 a1 (IntKind.u64.wrap (64 - (aX))))) ((aU) / 4294967296))) * ((aU) / 4294967296))))))) else (none)) = some (r1, r2) := by first | (rw [a6] at H; exact H) | (simp only [a6] at H ⊢; exact H)
 (try rw [a6] at A7)
 have hji12_ : (IntKind.u64.wrap (a0 * 2 ^ min (aX).toNat 64)) = aW := a6
 have hji12z : (aX) <= 64 -> (IntKind.u64.wrap (a0 * 2 ^ (aX).toNat)) = aW := qJd a6
 obtain ⟨cC, dB⟩ : ∃ j_ : Int, (IntKind.u64.wrap (64 - (aX))) = j_ := ⟨_, rfl⟩
 replace H : (if 0 <= (cC) then (if ((aU) / 4294967296) = 0 then (none) else (qQ2.l0 k aU aX ((aU) / 4294967296) (Go.bits .and .u64 (aU) 4294967295) (Go.bits .or .u64 (aW) (shr .u64 a1 (cC))) ((shl .u64 a1 (aX)) / 4294967296) (Go.bits .and .u64 (shl .u64 a1 (aX)) 4294967295) (IntKind.u64.wrap (Int.tdiv (Go.bits .or .u64 (aW) (shr .u64 a1 (cC))) ((aU) / 4294967296))) (IntKind.u64.wrap ((Go.bits .or .u64 (aW) (shr .u64 a1 (cC))) - (IntKind.u64.wrap ((IntKind.u64.wrap (Int.tdiv (Go.bits .or .u64 (aW) (shr .u64 a1 (cC))) ((aU) / 4294967296))) * ((aU) / 4294967296))))))) else (none)) = some (r1, r2) := by first | (rw [dB] at H; exact H) | (simp only [dB] at H ⊢; exact H)
 (try rw [dB] at A7)
 by_cases cV : 0 <= (cC)
 case neg =>
  rw [if_neg cV] at H
  exact absurd H (by simp)
 rw [if_pos cV] at H
 have cW := eq_true cV
 have cX := decide_eq_true cV
 clear cV
 obtain ⟨a7, bI⟩ : ∃ j_ : Int, (shr .u64 a1 (cC)) = j_ := ⟨_, rfl⟩
 replace H : (if ((aU) / 4294967296) = 0 then (none) else (qQ2.l0 k aU aX ((aU) / 4294967296) (Go.bits .and .u64 (aU) 4294967295) (Go.bits .or .u64 (aW) (a7)) ((shl .u64 a1 (aX)) / 4294967296) (Go.bits .and .u64 (shl .u64 a1 (aX)) 4294967295) (IntKind.u64.wrap (Int.tdiv (Go.bits .or .u64 (aW) (a7)) ((aU) / 4294967296))) (IntKind.u64.wrap ((Go.bits .or .u64 (aW) (a7)) - (IntKind.u64.wrap ((IntKind.u64.wrap (Int.tdiv (Go.bits .or .u64 (aW) (a7)) ((aU) / 4294967296))) * ((aU) / 4294967296))))))) = some (r1, r2) := by first | (rw [bI] at H; exact H) | (simp only [bI] at H ⊢; exact H)
 (try rw [bI] at A7)
 have hji15_ : (a1 / 2 ^ min (cC).toNat 64) = a7 := bI
 have hji15z : (cC) <= 64 -> (a1 / 2 ^ (cC).toNat) = a7 := qV5 bI
 have cY := eq_true (yd : 0 <= (aX))
 obtain ⟨a5, bJ⟩ : ∃ j_ : Int, (shl .u64 a1 (aX)) = j_ := ⟨_, rfl⟩
 replace H : (if ((aU) / 4294967296) = 0 then (none) else (qQ2.l0 k aU aX ((aU) / 4294967296) (Go.bits .and .u64 (aU) 4294967295) (Go.bits .or .u64 (aW) (a7)) ((a5) / 4294967296) (Go.bits .and .u64 (a5) 4294967295) (IntKind.u64.wrap (Int.tdiv (Go.bits .or .u64 (aW) (a7)) ((aU) / 4294967296))) (IntKind.u64.wrap ((Go.bits .or .u64 (aW) (a7)) - (IntKind.u64.wrap ((IntKind.u64.wrap (Int.tdiv (Go.bits .or .u64 (aW) (a7)) ((aU) / 4294967296))) * ((aU) / 4294967296))))))) = some (r1, r2) := by first | (rw [bJ] at H; exact H) | (simp only [bJ] at H ⊢; exact H)
 (try rw [bJ] at A7)
 have hji17_ : (IntKind.u64.wrap (a1 * 2 ^ min (aX).toNat 64)) = a5 := bJ
 have hji17z : (aX) <= 64 -> (IntKind.u64.wrap (a1 * 2 ^ (aX).toNat)) = a5 := qJd bJ
 by_cases cR : ((aU) / 4294967296) = 0
 ·rw [if_pos cR] at H
  exact absurd H (by simp)
 rw [if_neg cR] at H
 have bV := beq_eq_false_iff_ne.mpr cR
 have bW := bne_iff_ne.mpr cR
 have f6 := am H
 clear H
 go_enter Tryz.func102, Tryz.ntmps102
 go_upto_block 0 with (first | (go_at_call 114; (with_reducible refine (bits_LeadingZeros64.calls _ a8 _ A7.out).mono ?_); rintro e w' ⟨rfl, ⟨nd, rfl⟩⟩; (try first | exact ⟨rfl, _, World.drewN_drewN _ _ _⟩ | exact ⟨rfl, _, Eq.trans (World.drewN_drewN _ _ _) (congrArg (World.drewN _) (Nat.add_assoc _ _ _))⟩)))
 repeat (go_quiet (first | (go_at_call 114; (first | (with_reducible refine (bits_LeadingZeros64.calls _ a8 _ A7.out).mono ?_) | (simp only [i64_w, i32_w]; with_reducible refine (bits_LeadingZeros64.calls _ a8 _ A7.out).mono ?_)); rintro e w' ⟨rfl, ⟨nd, rfl⟩⟩; (try first | exact ⟨rfl, _, World.drewN_drewN _ _ _⟩ | exact ⟨rfl, _, Eq.trans (World.drewN_drewN _ _ _) (congrArg (World.drewN _) (Nat.add_assoc _ _ _))⟩))); go_upto_block 0 with (first | (go_at_call 114; (first | (with_reducible refine (bits_LeadingZeros64.calls _ a8 _ A7.out).mono ?_) | (simp only [i64_w, i32_w]; with_reducible refine (bits_LeadingZeros64.calls _ a8 _ A7.out).mono ?_)); rintro e w' ⟨rfl, ⟨nd, rfl⟩⟩; (try first | exact ⟨rfl, _, World.drewN_drewN _ _ _⟩ | exact ⟨rfl, _, Eq.trans (World.drewN_drewN _ _ _) (congrArg (World.drewN _) (Nat.add_assoc _ _ _))⟩))))
 (try simp only [Act.put, List.setIfInBounds_toArray, List.set_cons_zero, List.set_cons_succ])
 go_cut [15] (fun iK wc => ∃ (kq : Nat) (aY : Int), iK = .int .u64 aY /\ Aside0 (qQ2.j2 kq aU aX ((aU) / 4294967296) (Go.bits .and .u64 (aU) 4294967295) (Go.bits .or .u64 (aW) (a7)) ((a5) / 4294967296) (Go.bits .and .u64 (a5) 4294967295) aY = some (r1, r2)) /\ Aside0 (kq <= k) /\ Drawn0 w wc)
 case first =>
  have H := f6.out
  clear f6
  have H' := am H
  clear H
  go_wp2
  repeat (go_quiet (fail); try go_wp2)
  go_loopg [15, 16] k (fun kq iK fD w' => ∃ (bK : Int) (bQ : Int), iK = .int .u64 bK /\ fD = .int .u64 bQ /\ Aside0 (qQ2.l0 kq aU aX ((aU) / 4294967296) (Go.bits .and .u64 (aU) 4294967295) (Go.bits .or .u64 (aW) (a7)) ((a5) / 4294967296) (Go.bits .and .u64 (a5) 4294967295) bK bQ = some (r1, r2)) /\ Aside0 (kq <= k) /\ Drawn0 w w')
  case atStart => exact ⟨(IntKind.u64.wrap (Int.tdiv (Go.bits .or .u64 (aW) (a7)) ((aU) / 4294967296))), (IntKind.u64.wrap ((Go.bits .or .u64 (aW) (a7)) - (IntKind.u64.wrap ((IntKind.u64.wrap (Int.tdiv (Go.bits .or .u64 (aW) (a7)) ((aU) / 4294967296))) * ((aU) / 4294967296))))), (by first | rfl | (simp [i64_w, i32_w, qQj, qQk]; done) | (simp; done) | (simp only [<- bC, <- a6, <- bI] <;> (first | rfl | simp)) | (simp [*]; done)), (by first | rfl | (simp [i64_w, i32_w, qQj, qQk]; done) | (simp; done) | (simp only [<- bC, <- a6, <- bI] <;> (first | rfl | simp)) | (simp [*]; done)), H', ⟨Nat.le_refl _⟩, dr⟩
  case round =>
   clear H'
   try clear c4
   try clear bH cK
   try clear c5
   try clear aZ
   try clear c6
   try clear a4 cZ
   try clear c9
   try clear bD eD
   try clear bU
   try clear cV
   try clear cW cX
   try clear cY
   try clear cR
   try clear bV bW
   obtain ⟨bK, bQ, rfl, rfl, HA, dK, ⟨m1, rfl⟩⟩ := hrel
   rcases gk with _ | k1
   ·exact absurd HA.out (by simp [qQ2.l0])
   have H := HA.out
   clear HA
   simp only [qQ2.l0] at H
   have f7 := am H
   clear H
   go_upto_region 17 with (fail)
   repeat (go_quiet (fail); go_upto_region 17 with (fail))
   go_cut [78] (fun kT wc => ∃ (kq : Nat) (cQ : Bool), kT = .bool cQ /\ Aside0 (qQ2.j1 kq aU aX ((aU) / 4294967296) (Go.bits .and .u64 (aU) 4294967295) (Go.bits .or .u64 (aW) (a7)) ((a5) / 4294967296) (Go.bits .and .u64 (a5) 4294967295) bK bQ cQ = some (r1, r2)) /\ Aside0 (kq <= k1) /\ Drawn0 w wc)
   case first =>
    have H := f7.out
    clear f7
    by_cases dF : bK ≥ 4294967296
    ·rw [if_pos dF] at H
     have bO : decide (4294967296 <= bK) = true := decide_eq_true dF
     clear dF
     (first | rw [bO] | (simp only [i64_w, i32_w]; rw [bO]) | skip)
     have H' := am H
     clear H
     go_wp2
     repeat (go_quiet (fail); try go_wp2)
     go_meet
     case rel => exact ⟨_, (true), (by first | rfl | (simp [i64_w, i32_w, qQj, qQk]; done) | (simp; done) | (simp [*]; done)), H', o1 dK, dr⟩
    rw [if_neg dF] at H
    have bO : decide (4294967296 <= bK) = false := decide_eq_false dF
    clear dF
    (first | rw [bO] | (simp only [i64_w, i32_w]; rw [bO]) | skip)
    have H' := am H
    clear H
    go_wp2
    repeat (go_quiet (fail); try go_wp2)
    go_meet
    case rel => exact ⟨_, (decide ((IntKind.u64.wrap (bK * (Go.bits .and .u64 (aU) 4294967295))) > (IntKind.u64.wrap ((IntKind.u64.wrap (4294967296 * bQ)) + ((a5) / 4294967296))))), (by first | rfl | (simp [i64_w, i32_w, qQj, qQk]; done) | (simp; done) | (simp only [<- bC, <- bJ] <;> (first | rfl | simp)) | (simp [*]; done)), H', o1 dK, dr⟩
   case rest =>
    clear f7
    try clear c4
    try clear bH cK
    try clear c5
    try clear aZ
    try clear c6
    try clear a4 cZ
    try clear c9
    try clear bD eD
    try clear bU
    try clear cV
    try clear cW cX
    try clear cY
    try clear cR
    try clear bV bW
    try clear dF
    try clear bO
    obtain ⟨kq, cQ, rfl, HA, eS, ⟨mc19, rfl⟩⟩ := hcut
    rcases kq with _ | iY
    ·exact absurd HA.out (by simp [qQ2.j1])
    have H := HA.out
    clear HA
    simp only [qQ2.j1] at H
    by_cases dO : cQ = true
    case neg =>
     replace dO := Bool.eq_false_iff.mpr dO
     subst dO
     rw [if_neg (show ¬ (false = true) by decide)] at H
     have H' := am H
     clear H
     go_wp2
     repeat (go_quiet (fail); try go_wp2)
     go_meet
     case rel => exact ⟨_, (bK), (by first | rfl | (simp [i64_w, i32_w, qQj, qQk]; done) | (simp; done) | (simp [*]; done)), H', o2 dK eS, dr⟩
    subst dO
    rw [if_pos rfl] at H
    by_cases dE : (IntKind.u64.wrap (bQ + ((aU) / 4294967296))) ≥ 4294967296
    ·rw [if_pos dE] at H
     have cF : decide (4294967296 <= (IntKind.u64.wrap (bQ + ((aU) / 4294967296)))) = true := decide_eq_true dE
     clear dE
     have H' := am H
     clear H
     go_wp2
     repeat (go_quiet (fail); try go_wp2)
     go_meet
     case rel => exact ⟨_, (IntKind.u64.wrap (bK - 1)), (by first | rfl | (simp [i64_w, i32_w, qQj, qQk]; done) | (simp; done) | (simp [*]; done)), H', o2 dK eS, dr⟩
    rw [if_neg dE] at H
    have cF : decide (4294967296 <= (IntKind.u64.wrap (bQ + ((aU) / 4294967296)))) = false := decide_eq_false dE
    clear dE
    have H' := am H
    clear H
    go_wp2
    repeat (go_quiet (fail); try go_wp2)
    go_roundg iY
    case measure => have := dK.out; have := eS.out; omega
    case rel => exact ⟨(IntKind.u64.wrap (bK - 1)), (IntKind.u64.wrap (bQ + ((aU) / 4294967296))), (by first | rfl | (simp [i64_w, i32_w, qQj, qQk]; done) | (simp; done) | (simp [*]; done)), (by first | rfl | (simp [i64_w, i32_w, qQj, qQk]; done) | (simp; done) | (simp only [<- bC] <;> (first | rfl | simp)) | (simp [*]; done)), H', o2 dK eS, dr⟩
 case rest =>
  clear f6
  try clear c4
  try clear bH cK
  try clear c5
  try clear aZ
  try clear c6
  try clear a4 cZ
  try clear c9
  try clear bD eD
  try clear bU
  try clear cV
  try clear cW cX
  try clear cY
  try clear cR
  try clear bV bW
  try clear dF
  try clear bO
  try clear dO
  try clear dE
  try clear cF
  obtain ⟨kq, aY, rfl, HA, eR, ⟨mc18, rfl⟩⟩ := hcut
  rcases kq with _ | iD
  ·exact absurd HA.out (by simp [qQ2.j2])
  have H := HA.out
  clear HA
  simp only [qQ2.j2] at H
  by_cases hM : ((aU) / 4294967296) = 0
  ·rw [if_pos hM] at H
   exact absurd H (by simp)
  rw [if_neg hM] at H
  have fY := beq_eq_false_iff_ne.mpr hM
  have fZ := bne_iff_ne.mpr hM
  have H' := am H
  clear H
  go_wp2
  repeat (go_quiet (fail); try go_wp2)
  go_loopg [16, 18] iD (fun kq fD kL w' => ∃ (aV : Int) (a9 : Int), fD = .int .u64 aV /\ kL = .int .u64 a9 /\ Aside0 (qQ2.l1 kq aU aX ((aU) / 4294967296) (Go.bits .and .u64 (aU) 4294967295) (Go.bits .and .u64 (a5) 4294967295) aY aV (IntKind.u64.wrap ((IntKind.u64.wrap ((IntKind.u64.wrap ((Go.bits .or .u64 (aW) (a7)) * 4294967296)) + ((a5) / 4294967296))) - (IntKind.u64.wrap (aY * aU)))) a9 = some (r1, r2)) /\ Aside0 (kq <= iD) /\ Drawn0 w w')
  case atStart => exact ⟨(IntKind.u64.wrap ((IntKind.u64.wrap ((IntKind.u64.wrap ((IntKind.u64.wrap ((Go.bits .or .u64 (aW) (a7)) * 4294967296)) + ((a5) / 4294967296))) - (IntKind.u64.wrap (aY * aU)))) - (IntKind.u64.wrap ((IntKind.u64.wrap (Int.tdiv (IntKind.u64.wrap ((IntKind.u64.wrap ((IntKind.u64.wrap ((Go.bits .or .u64 (aW) (a7)) * 4294967296)) + ((a5) / 4294967296))) - (IntKind.u64.wrap (aY * aU)))) ((aU) / 4294967296))) * ((aU) / 4294967296))))), (IntKind.u64.wrap (Int.tdiv (IntKind.u64.wrap ((IntKind.u64.wrap ((IntKind.u64.wrap ((Go.bits .or .u64 (aW) (a7)) * 4294967296)) + ((a5) / 4294967296))) - (IntKind.u64.wrap (aY * aU)))) ((aU) / 4294967296))), (by first | rfl | (simp [i64_w, i32_w, qQj, qQk]; done) | (simp; done) | (simp only [<- bC, <- a6, <- bI, <- bJ] <;> (first | rfl | simp)) | (simp [*]; done)), (by first | rfl | (simp [i64_w, i32_w, qQj, qQk]; done) | (simp; done) | (simp only [<- bC, <- a6, <- bI, <- bJ] <;> (first | rfl | simp)) | (simp [*]; done)), H', ⟨Nat.le_refl _⟩, dr⟩
  case round =>
   clear H'
   try clear c4
   try clear bH cK
   try clear c5
   try clear aZ
   try clear c6
   try clear a4 cZ
   try clear c9
   try clear bD eD
   try clear bU
   try clear cV
   try clear cW cX
   try clear cY
   try clear cR
   try clear bV bW
   try clear dF
   try clear bO
   try clear dO
   try clear dE
   try clear cF
   try clear hM
   try clear fY fZ
   obtain ⟨aV, a9, rfl, rfl, HA, dZ, ⟨m2, rfl⟩⟩ := hrel
   rcases gk with _ | k2
   ·exact absurd HA.out (by simp [qQ2.l1])
   have H := HA.out
   clear HA
   simp only [qQ2.l1] at H
   have f8 := am H
   clear H
   go_upto_region 24 with (fail)
   repeat (go_quiet (fail); go_upto_region 24 with (fail))
   go_cut [113] (fun jF wc => ∃ (kq : Nat) (bZ : Bool), jF = .bool bZ /\ Aside0 (qQ2.j4 kq aU aX ((aU) / 4294967296) (Go.bits .and .u64 (aU) 4294967295) (Go.bits .and .u64 (a5) 4294967295) aY aV (IntKind.u64.wrap ((IntKind.u64.wrap ((IntKind.u64.wrap ((Go.bits .or .u64 (aW) (a7)) * 4294967296)) + ((a5) / 4294967296))) - (IntKind.u64.wrap (aY * aU)))) a9 bZ = some (r1, r2)) /\ Aside0 (kq <= k2) /\ Drawn0 w wc)
   case first =>
    have H := f8.out
    clear f8
    by_cases gD : a9 ≥ 4294967296
    ·rw [if_pos gD] at H
     have cG : decide (4294967296 <= a9) = true := decide_eq_true gD
     clear gD
     (first | rw [cG] | (simp only [i64_w, i32_w]; rw [cG]) | skip)
     have H' := am H
     clear H
     go_wp2
     repeat (go_quiet (fail); try go_wp2)
     go_meet
     case rel => exact ⟨_, (true), (by first | rfl | (simp [i64_w, i32_w, qQj, qQk]; done) | (simp; done) | (simp [*]; done)), H', o2 eR dZ, dr⟩
    rw [if_neg gD] at H
    have cG : decide (4294967296 <= a9) = false := decide_eq_false gD
    clear gD
    (first | rw [cG] | (simp only [i64_w, i32_w]; rw [cG]) | skip)
    have H' := am H
    clear H
    go_wp2
    repeat (go_quiet (fail); try go_wp2)
    go_meet
    case rel => exact ⟨_, (decide ((IntKind.u64.wrap (a9 * (Go.bits .and .u64 (aU) 4294967295))) > (IntKind.u64.wrap ((IntKind.u64.wrap (4294967296 * aV)) + (Go.bits .and .u64 (a5) 4294967295))))), (by first | rfl | (simp [i64_w, i32_w, qQj, qQk]; done) | (simp; done) | (simp only [<- bC, <- bJ] <;> (first | rfl | simp)) | (simp [*]; done)), H', o2 eR dZ, dr⟩
   case rest =>
    clear f8
    try clear c4
    try clear bH cK
    try clear c5
    try clear aZ
    try clear c6
    try clear a4 cZ
    try clear c9
    try clear bD eD
    try clear bU
    try clear cV
    try clear cW cX
    try clear cY
    try clear cR
    try clear bV bW
    try clear dF
    try clear bO
    try clear dO
    try clear dE
    try clear cF
    try clear hM
    try clear fY fZ
    try clear gD
    try clear cG
    obtain ⟨kq, bZ, rfl, HA, hY, ⟨mc24, rfl⟩⟩ := hcut
    rcases kq with _ | iZ
    ·exact absurd HA.out (by simp [qQ2.j4])
    have H := HA.out
    clear HA
    simp only [qQ2.j4] at H
    by_cases iM : bZ = true
    case neg =>
     replace iM := Bool.eq_false_iff.mpr iM
     subst iM
     rw [if_neg (show ¬ (false = true) by decide)] at H
     by_cases iB : 0 <= aX
     case neg =>
      rw [if_neg iB] at H
      exact absurd H (by simp)
     rw [if_pos iB] at H
     have jV := eq_true iB
     have jW := decide_eq_true iB
     clear iB
     obtain ⟨g1, dD⟩ : ∃ j_ : Int, (shr .u64 (IntKind.u64.wrap ((IntKind.u64.wrap ((IntKind.u64.wrap ((IntKind.u64.wrap ((IntKind.u64.wrap ((IntKind.u64.wrap ((Go.bits .or .u64 (aW) (a7)) * 4294967296)) + ((a5) / 4294967296))) - (IntKind.u64.wrap (aY * aU)))) * 4294967296)) + (Go.bits .and .u64 (a5) 4294967295))) - (IntKind.u64.wrap (a9 * aU)))) aX) = j_ := ⟨_, rfl⟩
     replace H : (some (IntKind.u64.wrap ((IntKind.u64.wrap (aY * 4294967296)) + a9), g1)) = some (r1, r2) := by first | (rw [dD] at H; exact H) | (simp only [dD] at H ⊢; exact H)
     have hji32_ : ((IntKind.u64.wrap ((IntKind.u64.wrap ((IntKind.u64.wrap ((IntKind.u64.wrap ((IntKind.u64.wrap ((IntKind.u64.wrap ((Go.bits .or .u64 (aW) (a7)) * 4294967296)) + ((a5) / 4294967296))) - (IntKind.u64.wrap (aY * aU)))) * 4294967296)) + (Go.bits .and .u64 (a5) 4294967295))) - (IntKind.u64.wrap (a9 * aU)))) / 2 ^ min aX.toNat 64) = g1 := dD
     have hji32z : aX <= 64 -> ((IntKind.u64.wrap ((IntKind.u64.wrap ((IntKind.u64.wrap ((IntKind.u64.wrap ((IntKind.u64.wrap ((IntKind.u64.wrap ((Go.bits .or .u64 (aW) (a7)) * 4294967296)) + ((a5) / 4294967296))) - (IntKind.u64.wrap (aY * aU)))) * 4294967296)) + (Go.bits .and .u64 (a5) 4294967295))) - (IntKind.u64.wrap (a9 * aU)))) / 2 ^ aX.toNat) = g1 := qV5 dD
     simp only [Option.some.injEq, Prod.mk.injEq] at H
     obtain ⟨rfl, rfl⟩ := H
     go_wp2
     repeat (go_quiet (fail); try go_wp2)
     go_ret2
     exact ⟨by first | rfl | (simp [i64_w, i32_w, qQj, qQk]; done) | (simp; done) | (simp only [<- eG, <- bC, <- a6, <- dB, <- bI, <- bJ, <- dD] <;> (first | rfl | simp)) | (simp [*]; done), dr⟩
    subst iM
    rw [if_pos rfl] at H
    by_cases hN : (IntKind.u64.wrap (aV + ((aU) / 4294967296))) ≥ 4294967296
    case neg =>
     rw [if_neg hN] at H
     have h9 : decide (4294967296 <= (IntKind.u64.wrap (aV + ((aU) / 4294967296)))) = false := decide_eq_false hN
     clear hN
     have H' := am H
     clear H
     go_wp2
     repeat (go_quiet (fail); try go_wp2)
     go_roundg iZ
     case measure => have := eR.out; have := dZ.out; have := hY.out; omega
     case rel => exact ⟨(IntKind.u64.wrap (aV + ((aU) / 4294967296))), (IntKind.u64.wrap (a9 - 1)), (by first | rfl | (simp [i64_w, i32_w, qQj, qQk]; done) | (simp; done) | (simp only [<- bC] <;> (first | rfl | simp)) | (simp [*]; done)), (by first | rfl | (simp [i64_w, i32_w, qQj, qQk]; done) | (simp; done) | (simp [*]; done)), H', ⟨by have := eR.out; have := dZ.out; have := hY.out; omega⟩, dr⟩
    rw [if_pos hN] at H
    have h9 : decide (4294967296 <= (IntKind.u64.wrap (aV + ((aU) / 4294967296)))) = true := decide_eq_true hN
    clear hN
    by_cases iA : 0 <= aX
    case neg =>
     rw [if_neg iA] at H
     exact absurd H (by simp)
    rw [if_pos iA] at H
    have jT := eq_true iA
    have jU := decide_eq_true iA
    clear iA
    obtain ⟨g0, dC⟩ : ∃ j_ : Int, (shr .u64 (IntKind.u64.wrap ((IntKind.u64.wrap ((IntKind.u64.wrap ((IntKind.u64.wrap ((IntKind.u64.wrap ((IntKind.u64.wrap ((Go.bits .or .u64 (aW) (a7)) * 4294967296)) + ((a5) / 4294967296))) - (IntKind.u64.wrap (aY * aU)))) * 4294967296)) + (Go.bits .and .u64 (a5) 4294967295))) - (IntKind.u64.wrap ((IntKind.u64.wrap (a9 - 1)) * aU)))) aX) = j_ := ⟨_, rfl⟩
    replace H : (some (IntKind.u64.wrap ((IntKind.u64.wrap (aY * 4294967296)) + (IntKind.u64.wrap (a9 - 1))), g0)) = some (r1, r2) := by first | (rw [dC] at H; exact H) | (simp only [dC] at H ⊢; exact H)
    have hji30_ : ((IntKind.u64.wrap ((IntKind.u64.wrap ((IntKind.u64.wrap ((IntKind.u64.wrap ((IntKind.u64.wrap ((IntKind.u64.wrap ((Go.bits .or .u64 (aW) (a7)) * 4294967296)) + ((a5) / 4294967296))) - (IntKind.u64.wrap (aY * aU)))) * 4294967296)) + (Go.bits .and .u64 (a5) 4294967295))) - (IntKind.u64.wrap ((IntKind.u64.wrap (a9 - 1)) * aU)))) / 2 ^ min aX.toNat 64) = g0 := dC
    have hji30z : aX <= 64 -> ((IntKind.u64.wrap ((IntKind.u64.wrap ((IntKind.u64.wrap ((IntKind.u64.wrap ((IntKind.u64.wrap ((IntKind.u64.wrap ((Go.bits .or .u64 (aW) (a7)) * 4294967296)) + ((a5) / 4294967296))) - (IntKind.u64.wrap (aY * aU)))) * 4294967296)) + (Go.bits .and .u64 (a5) 4294967295))) - (IntKind.u64.wrap ((IntKind.u64.wrap (a9 - 1)) * aU)))) / 2 ^ aX.toNat) = g0 := qV5 dC
    simp only [Option.some.injEq, Prod.mk.injEq] at H
    obtain ⟨rfl, rfl⟩ := H
    go_wp2
    repeat (go_quiet (fail); try go_wp2)
    go_ret2
    exact ⟨by first | rfl | (simp [i64_w, i32_w, qQj, qQk]; done) | (simp; done) | (simp only [<- eG, <- bC, <- a6, <- dB, <- bI, <- bJ, <- dC] <;> (first | rfl | simp)) | (simp [*]; done), dr⟩
def qX7.f (k : Nat) (a0 a1 a2 : Int) : Option (Int × Int × Bool) := if a2 = 0 then (some (0, 0, false)) else (if a0 ≥ a2 then (some (0, 0, false)) else ((qQ2.f k a0 a1 a2).bind fun fL => (some (fL.1, fL.2, true))))
set_option maxHeartbeats 8000000 in
set_option maxRecDepth 100000 in
theorem qX7.calls (k : Nat) (a0 a1 a2 r1 r2 : Int) (r3 : Bool) (w : World) (h : qX7.f k a0 a1 a2 = some (r1, r2, r3)) :
  Calls Tryz.prog 83 #[.int .u64 a0, .int .u64 a1, .int .u64 a2] w fun e w' => e = .returned (.tuple #[.int .u64 r1, .int .u64 r2, .bool r3]) /\ Drawn0 w w' := by
 have H := h
 unfold qX7.f at H
 clear h
 by_cases c4 : a2 = 0
 ·rw [if_pos c4] at H
  have bH := beq_iff_eq.mpr c4
  have cK := bne_eq_false_iff_eq.mpr c4
  clear c4
  simp only [Option.some.injEq, Prod.mk.injEq] at H
  obtain ⟨rfl, rfl, rfl⟩ := H
  go_enter Tryz.func83, Tryz.ntmps83
  go_wp2
  go_ret3
  exact ⟨fr, dr⟩
 rw [if_neg c4] at H
 have bH := beq_eq_false_iff_ne.mpr c4
 have cK := bne_iff_ne.mpr c4
 by_cases c5 : a0 ≥ a2
 ·rw [if_pos c5] at H
  have aZ : decide (a2 <= a0) = true := decide_eq_true c5
  clear c5
  simp only [Option.some.injEq, Prod.mk.injEq] at H
  obtain ⟨rfl, rfl, rfl⟩ := H
  go_enter Tryz.func83, Tryz.ntmps83
  go_wp2
  go_ret3
  exact ⟨fr, dr⟩
 rw [if_neg c5] at H
 have aZ : decide (a2 <= a0) = false := decide_eq_false c5
 clear c5
 obtain ⟨⟨i3, i4⟩, A6, H⟩ := bd H
 simp only [Option.some.injEq, Prod.mk.injEq] at H
 obtain ⟨rfl, rfl, rfl⟩ := H
 go_enter Tryz.func83, Tryz.ntmps83
 go_wp2_with (first | ((with_reducible refine gf 102 ?_); refine gC (some 20) Tryz.func102 (qQ2.calls _ _ _ _ i3 i4 _ A6.out) ?_; rintro e w' ⟨rfl, ⟨nd, rfl⟩⟩; refine ⟨_, rfl, ?_⟩))
 go_ret3
 exact ⟨fr, dr⟩
mutual
def qQx.j0 : Nat -> Int -> Int -> Int -> Int -> Bool -> Option (Int × Int)
 | 0, _, _, _, _, _ => none
 | k + 1, x0, x1, x2, x3, k3 => if k3 = true then (some (0, 1)) else ((qWk.f (IntKind.u64.wrap (x0)) (IntKind.u64.wrap (x1))).bind fun fM => ((qX7.f k fM.1 fM.2 (IntKind.u64.wrap (x2))).bind fun cD => (if cD.2.2 = true then (qQx.j1 k x2 x3 cD.1 cD.2.1 (decide (cD.1 > 10000000000000))) else (qQx.j1 k x2 x3 cD.1 cD.2.1 true))))
def qQx.j1 : Nat -> Int -> Int -> Int -> Int -> Bool -> Option (Int × Int)
 | 0, _, _, _, _, _ => none
 | k + 1, x2, x3, eM, cI, k5 => if k5 = true then (some (0, 14)) else (if x3 = 1 then (qQx.j2 k eM (decide (cI > 0))) else (if x3 = 2 then (if cI > (IntKind.u64.wrap ((IntKind.u64.wrap (x2)) - cI)) then (qQx.j2 k eM true) else (if cI = (IntKind.u64.wrap ((IntKind.u64.wrap (x2)) - cI)) then (qQx.j2 k eM ((Go.bits .and .u64 eM 1) == 1)) else (qQx.j2 k eM false))) else (qQx.j2 k eM false)))
def qQx.j2 : Nat -> Int -> Bool -> Option (Int × Int)
 | 0, _, _ => none
 | k + 1, eM, bX => if bX = true then (if (IntKind.u64.wrap (eM + 1)) > 10000000000000 then (some (0, 14)) else (some (wrap64 (IntKind.u64.wrap (eM + 1)), 0))) else (if eM > 10000000000000 then (some (0, 14)) else (some (wrap64 (eM), 0)))
end
def qQx.f (k : Nat) (a0 a1 a2 a3 : Int) : Option (Int × Int) := if a0 < 0 then (qQx.j0 k a0 a1 a2 a3 true) else (if a1 < 0 then (qQx.j0 k a0 a1 a2 a3 true) else (if a2 <= 0 then (qQx.j0 k a0 a1 a2 a3 true) else (if a3 < 0 then (qQx.j0 k a0 a1 a2 a3 true) else (qQx.j0 k a0 a1 a2 a3 (decide (a3 > 2))))))
set_option maxHeartbeats 8000000 in
set_option maxRecDepth 100000 in
theorem qQx.calls (k : Nat) (a0 a1 a2 a3 r1 r2 : Int) (w : World) (h : qQx.f k a0 a1 a2 a3 = some (r1, r2)) :
  Calls Tryz.prog 79 #[.int .i64 a0, .int .i64 a1, .int .i64 a2, .int .i64 a3] w fun e w' => e = .returned (.tuple #[.int .i64 r1, .int .i64 r2]) /\ Drawn0 w w' := by
 have H := h
 unfold qQx.f at H
 clear h
 have iO := am H
 clear H
 go_enter Tryz.func79, Tryz.ntmps79
 go_upto_region 1 with (fail)
 go_cut [34] (fun kQ wc => ∃ (kq : Nat) (dX : Bool), kQ = .bool dX /\ Aside0 (qQx.j0 kq a0 a1 a2 a3 dX = some (r1, r2)) /\ Aside0 (kq <= k) /\ Drawn0 w wc)
 case first =>
  have H := iO.out
  clear iO
  by_cases c6 : a0 < 0
  ·rw [if_pos c6] at H
   have a4 := decide_eq_true c6
   clear c6
   (first | rw [a4] | (simp only [i64_w, i32_w]; rw [a4]) | skip)
   have H' := am H
   clear H
   go_wp2
   go_meet
   case rel => exact ⟨_, (true), fr, H', o0, dr⟩
  rw [if_neg c6] at H
  have a4 := decide_eq_false c6
  clear c6
  (first | rw [a4] | (simp only [i64_w, i32_w]; rw [a4]) | skip)
  by_cases c7 : a1 < 0
  ·rw [if_pos c7] at H
   have bS := decide_eq_true c7
   clear c7
   have H' := am H
   clear H
   go_wp2
   go_meet
   case rel => exact ⟨_, (true), fr, H', o0, dr⟩
  rw [if_neg c7] at H
  have bS := decide_eq_false c7
  clear c7
  by_cases c8 : a2 <= 0
  ·rw [if_pos c8] at H
   have dA := decide_eq_true c8
   clear c8
   have H' := am H
   clear H
   go_wp2
   go_meet
   case rel => exact ⟨_, (true), fr, H', o0, dr⟩
  rw [if_neg c8] at H
  have dA := decide_eq_false c8
  clear c8
  by_cases c9 : a3 < 0
  ·rw [if_pos c9] at H
   have bD := decide_eq_true c9
   clear c9
   have H' := am H
   clear H
   go_wp2
   go_meet
   case rel => exact ⟨_, (true), fr, H', o0, dr⟩
  rw [if_neg c9] at H
  have bD := decide_eq_false c9
  clear c9
  have H' := am H
  clear H
  go_wp2
  go_meet
  case rel => exact ⟨_, (decide (a3 > 2)), fr, H', o0, dr⟩
 case rest =>
  clear iO
  try clear c6
  try clear a4
  try clear c7
  try clear bS
  try clear c8
  try clear dA
  try clear c9
  try clear bD
  obtain ⟨kq, dX, rfl, HA, f9, ⟨mc4, rfl⟩⟩ := hcut
  rcases kq with _ | kI
  ·exact absurd HA.out (by simp [qQx.j0])
  have H := HA.out
  clear HA
  simp only [qQx.j0] at H
  by_cases b5 : dX = true
  ·subst b5
   rw [if_pos rfl] at H
   simp only [Option.some.injEq, Prod.mk.injEq] at H
   obtain ⟨rfl, rfl⟩ := H
   go_wp2
   go_ret2
   exact ⟨fr, dr⟩
  replace b5 := Bool.eq_false_iff.mpr b5
  subst b5
  rw [if_neg (show ¬ (false = true) by decide)] at H
  obtain ⟨⟨i5, i6⟩, eO, H⟩ := bd H
  obtain ⟨⟨b8, b9, iF⟩, hS, H⟩ := bd H
  have f4 := am H
  clear H
  go_upto_region 5 with (first | ((with_reducible refine gf 82 ?_); refine gC (some 40) Tryz.func82 (qWk.calls _ _ i5 i6 _ eO.out) ?_; rintro e w' ⟨rfl, ⟨nd, rfl⟩⟩; refine ⟨_, rfl, ?_⟩) | ((with_reducible refine gf 83 ?_); refine gC (some 48) Tryz.func83 (qX7.calls _ _ _ _ b8 b9 iF _ hS.out) ?_; rintro e w' ⟨rfl, ⟨nd, rfl⟩⟩; refine ⟨_, rfl, ?_⟩))
  (try simp only [Act.put, List.setIfInBounds_toArray, List.set_cons_zero, List.set_cons_succ])
  go_cut [57] (fun kS wc => ∃ (kq : Nat) (cP : Bool), kS = .bool cP /\ Aside0 (qQx.j1 kq a2 a3 b8 b9 cP = some (r1, r2)) /\ Aside0 (kq <= kI) /\ Drawn0 w wc)
  case first =>
   have H := f4.out
   clear f4
   by_cases cV : iF = true
   ·subst cV
    rw [if_pos rfl] at H
    have H' := am H
    clear H
    go_wp2
    go_meet
    case rel => exact ⟨_, (decide (b8 > 10000000000000)), fr, H', o1 f9, dr⟩
   replace cV := Bool.eq_false_iff.mpr cV
   subst cV
   rw [if_neg (show ¬ (false = true) by decide)] at H
   have H' := am H
   clear H
   go_wp2
   go_meet
   case rel => exact ⟨_, (true), fr, H', o1 f9, dr⟩
  case rest =>
   clear f4
   try clear c6
   try clear a4
   try clear c7
   try clear bS
   try clear c8
   try clear dA
   try clear c9
   try clear bD
   try clear b5
   try clear cV
   obtain ⟨kq, cP, rfl, HA, eA, ⟨mc12, rfl⟩⟩ := hcut
   rcases kq with _ | iX
   ·exact absurd HA.out (by simp [qQx.j1])
   have H := HA.out
   clear HA
   simp only [qQx.j1] at H
   by_cases h7 : cP = true
   ·subst h7
    rw [if_pos rfl] at H
    simp only [Option.some.injEq, Prod.mk.injEq] at H
    obtain ⟨rfl, rfl⟩ := H
    go_wp2
    go_ret2
    exact ⟨fr, dr⟩
   replace h7 := Bool.eq_false_iff.mpr h7
   subst h7
   rw [if_neg (show ¬ (false = true) by decide)] at H
   have f5 := am H
   clear H
   go_upto_block 0 with (fail)
   go_cut [15] (fun iK wc => ∃ (kq : Nat) (cN : Bool), iK = .bool cN /\ Aside0 (qQx.j2 kq b8 cN = some (r1, r2)) /\ Aside0 (kq <= iX) /\ Drawn0 w wc)
   case first =>
    have H := f5.out
    clear f5
    by_cases fS : a3 = 1
    ·rw [if_pos fS] at H
     have cE := beq_iff_eq.mpr fS
     have fT := bne_eq_false_iff_eq.mpr fS
     clear fS
     (first | rw [cE] | (simp only [i64_w, i32_w]; rw [cE]) | skip)
     have H' := am H
     clear H
     go_wp2
     go_meet
     case rel => exact ⟨_, (decide (b9 > 0)), fr, H', o2 f9 eA, dr⟩
    rw [if_neg fS] at H
    have cE := beq_eq_false_iff_ne.mpr fS
    have fT := bne_iff_ne.mpr fS
    (first | rw [cE] | (simp only [i64_w, i32_w]; rw [cE]) | skip)
    by_cases cR : a3 = 2
    case neg =>
     rw [if_neg cR] at H
     have bV := beq_eq_false_iff_ne.mpr cR
     have bW := bne_iff_ne.mpr cR
     have H' := am H
     clear H
     go_wp2
     go_meet
     case rel => exact ⟨_, (false), fr, H', o2 f9 eA, dr⟩
    rw [if_pos cR] at H
    have bV := beq_iff_eq.mpr cR
    have bW := bne_eq_false_iff_eq.mpr cR
    clear cR
    by_cases gB : b9 > (IntKind.u64.wrap ((IntKind.u64.wrap (a2)) - b9))
    ·rw [if_pos gB] at H
     have fU : decide ((IntKind.u64.wrap ((IntKind.u64.wrap (a2)) - b9)) < b9) = true := decide_eq_true gB
     clear gB
     have H' := am H
     clear H
     go_wp2
     go_meet
     case rel => exact ⟨_, (true), fr, H', o2 f9 eA, dr⟩
    rw [if_neg gB] at H
    have fU : decide ((IntKind.u64.wrap ((IntKind.u64.wrap (a2)) - b9)) < b9) = false := decide_eq_false gB
    clear gB
    by_cases fV : b9 = (IntKind.u64.wrap ((IntKind.u64.wrap (a2)) - b9))
    case neg =>
     rw [if_neg fV] at H
     have fW := beq_eq_false_iff_ne.mpr fV
     have fX := bne_iff_ne.mpr fV
     have H' := am H
     clear H
     go_wp2
     go_meet
     case rel => exact ⟨_, (false), fr, H', o2 f9 eA, dr⟩
    rw [if_pos fV] at H
    have fW := beq_iff_eq.mpr fV
    have fX := bne_eq_false_iff_eq.mpr fV
    clear fV
    have H' := am H
    clear H
    go_wp2
    go_meet
    case rel => exact ⟨_, (((Go.bits .and .u64 b8 1) == 1)), fr, H', o2 f9 eA, dr⟩
   case rest =>
    clear f5
    try clear c6
    try clear a4
    try clear c7
    try clear bS
    try clear c8
    try clear dA
    try clear c9
    try clear bD
    try clear b5
    try clear cV
    try clear h7
    try clear fS
    try clear cE fT
    try clear cR
    try clear bV bW
    try clear gB
    try clear fU
    try clear fV
    try clear fW fX
    obtain ⟨kq, cN, rfl, HA, j7, ⟨mc15, rfl⟩⟩ := hcut
    rcases kq with _ | kH
    ·exact absurd HA.out (by simp [qQx.j2])
    have H := HA.out
    clear HA
    simp only [qQx.j2] at H
    by_cases dF : cN = true
    case neg =>
     replace dF := Bool.eq_false_iff.mpr dF
     subst dF
     rw [if_neg (show ¬ (false = true) by decide)] at H
     by_cases dE : b8 > 10000000000000
     ·rw [if_pos dE] at H
      have cF : decide (10000000000000 < b8) = true := decide_eq_true dE
      clear dE
      simp only [Option.some.injEq, Prod.mk.injEq] at H
      obtain ⟨rfl, rfl⟩ := H
      go_wp2
      go_ret2
      exact ⟨fr, dr⟩
     rw [if_neg dE] at H
     have cF : decide (10000000000000 < b8) = false := decide_eq_false dE
     clear dE
     simp only [Option.some.injEq, Prod.mk.injEq] at H
     obtain ⟨rfl, rfl⟩ := H
     go_wp2
     go_ret2
     exact ⟨fr, dr⟩
    subst dF
    rw [if_pos rfl] at H
    by_cases dO : (IntKind.u64.wrap (b8 + 1)) > 10000000000000
    ·rw [if_pos dO] at H
     have h8 : decide (10000000000000 < (IntKind.u64.wrap (b8 + 1))) = true := decide_eq_true dO
     clear dO
     simp only [Option.some.injEq, Prod.mk.injEq] at H
     obtain ⟨rfl, rfl⟩ := H
     go_wp2
     go_ret2
     exact ⟨fr, dr⟩
    rw [if_neg dO] at H
    have h8 : decide (10000000000000 < (IntKind.u64.wrap (b8 + 1))) = false := decide_eq_false dO
    clear dO
    simp only [Option.some.injEq, Prod.mk.injEq] at H
    obtain ⟨rfl, rfl⟩ := H
    go_wp2
    go_ret2
    exact ⟨fr, dr⟩
def qWq.f (a0 : Int) : Option (Int) := some (if a0 < 0 then 0 else if a0 = 0 then 60 else if a0 = 1 then 80 else if a0 = 2 then 100 else if a0 = 3 then 125 else 150)
set_option maxHeartbeats 8000000 in
set_option maxRecDepth 100000 in
theorem qWq.calls (a0 r : Int) (w : World) (h : qWq.f a0 = some r) :
  Calls Tryz.prog 92 #[.int .i64 a0] w fun e w' => e = .returned (.int .i64 r) /\ Below w.heap.size w w' := by
 have hu := Tryz.underlying143
 by_cases c : a0 < 0
 ·obtain rfl : (0 : Int) = r := by simpa [qWq.f, c] using h
  have c1 : decide (a0 < 0) = true := decide_eq_true c
  clear h c
  go_enter Tryz.func92, Tryz.ntmps92
  go_wp2
  go_ret
  exact ⟨rfl, (Below.refl _ _).alloc (Nat.le_refl _) _⟩
 ·have c1 : decide (a0 < 0) = false := decide_eq_false c
  by_cases c4 : 4 < a0
  case neg =>
   have hh : a0 = 0 \/ a0 = 1 \/ a0 = 2 \/ a0 = 3 \/ a0 = 4 := by omega
   clear c1 c4
   rcases hh with rfl | rfl | rfl | rfl | rfl
   all_goals
    obtain rfl := Option.some.inj h
    clear h
    go_enter Tryz.func92, Tryz.ntmps92
    go_wp2
    go_ret
    exact ⟨rfl, (Below.refl _ _).alloc (Nat.le_refl _) _⟩
  obtain rfl : (150 : Int) = r := by
   rw [qWq.f, if_neg c, if_neg (by omega), if_neg (by omega), if_neg (by omega), if_neg (by omega)] at h; exact Option.some.inj h
  have c2 : decide (4 < a0) = true := decide_eq_true c4
  clear h
  go_enter Tryz.func92, Tryz.ntmps92
  go_wp2
  go_ret
  exact ⟨rfl, (Below.refl _ _).alloc (Nat.le_refl _) _⟩
def qX2.j0 : Nat -> Int -> Int -> Bool -> Option (Int × Int)
 | 0, _, _, _ => none
 | k + 1, x0, x1, bY => if bY = true then (some (0, 1)) else ((qWq.f (wrap64 (Int.tdiv x1 24))).bind fun g9 => ((qQx.f k x0 g9 100 1).bind fun fN => (some (fN.1, fN.2))))
def qX2.f (k : Nat) (a0 a1 : Int) : Option (Int × Int) := if a0 < 0 then (qX2.j0 k a0 a1 true) else ((qQ3.f a0).bind fun g8 => (if g8 = true then (qX2.j0 k a0 a1 (decide (a1 < 0))) else (qX2.j0 k a0 a1 true)))
set_option maxHeartbeats 8000000 in
set_option maxRecDepth 100000 in
theorem qX2.calls (k : Nat) (a0 a1 r1 r2 : Int) (w : World) (h : qX2.f k a0 a1 = some (r1, r2)) :
  Calls Tryz.prog 72 #[.int .i64 a0, .int .i64 a1] w fun e w' => e = .returned (.tuple #[.int .i64 r1, .int .i64 r2]) /\ Below w.heap.size w w' := by
 have HB := am (Below.refl w.heap.size w)
 have H := h
 unfold qX2.f at H
 clear h
 have d8 := am H
 clear H
 go_enter Tryz.func72, Tryz.ntmps72
 go_upto_region 1 with (fail)
 go_cut [16] (fun fD wc => ∃ (kq : Nat) (aV : Bool), fD = .bool aV /\ Aside0 (qX2.j0 kq a0 a1 aV = some (r1, r2)) /\ Aside0 (kq <= k) /\ Aside0 (Below w.heap.size w wc))
 case first =>
  have H := d8.out
  clear d8
  by_cases c4 : a0 < 0
  ·rw [if_pos c4] at H
   have bH := decide_eq_true c4
   clear c4
   (first | rw [bH] | (simp only [i64_w, i32_w]; rw [bH]) | skip)
   have H' := am H
   clear H
   go_wp2
   go_meet
   case rel => exact ⟨_, (true), fr, H', o0, a0_ HB⟩
  rw [if_neg c4] at H
  have bH := decide_eq_false c4
  clear c4
  (first | rw [bH] | (simp only [i64_w, i32_w]; rw [bH]) | skip)
  obtain ⟨g8, A5, H⟩ := bd H
  by_cases c6 : g8 = true
  ·subst c6
   rw [if_pos rfl] at H
   have H' := am H
   clear H
   go_wp2_with (first | (go_at_call 74; (with_reducible refine (qQ3.calls _ true _ A5.out).mono ?_); rintro e w' ⟨rfl, ⟨nd, rfl⟩⟩))
   go_meet
   case rel => exact ⟨_, (decide (a1 < 0)), fr, H', o0, a0_ HB⟩
  replace c6 := Bool.eq_false_iff.mpr c6
  subst c6
  rw [if_neg (show ¬ (false = true) by decide)] at H
  have H' := am H
  clear H
  go_wp2_with (first | (go_at_call 74; (with_reducible refine (qQ3.calls _ false _ A5.out).mono ?_); rintro e w' ⟨rfl, ⟨nd, rfl⟩⟩))
  go_meet
  case rel => exact ⟨_, (true), fr, H', o0, a0_ HB⟩
 case rest =>
  clear d8
  try clear c4
  try clear bH
  try clear c6
  obtain ⟨kq, aV, rfl, HA, jO, HB⟩ := hcut
  rcases kq with _ | iE
  ·exact absurd HA.out (by simp [qX2.j0])
  have H := HA.out
  clear HA
  simp only [qX2.j0] at H
  by_cases c7 : aV = true
  ·subst c7
   rw [if_pos rfl] at H
   simp only [Option.some.injEq, Prod.mk.injEq] at H
   obtain ⟨rfl, rfl⟩ := H
   go_wp2
   go_ret2
   exact ⟨er, by exact h0q HB.out⟩
  replace c7 := Bool.eq_false_iff.mpr c7
  subst c7
  rw [if_neg (show ¬ (false = true) by decide)] at H
  obtain ⟨g9, A8, H⟩ := bd H
  obtain ⟨⟨i7, i8⟩, A9, H⟩ := bd H
  simp only [Option.some.injEq, Prod.mk.injEq] at H
  obtain ⟨rfl, rfl⟩ := H
  go_wp2_with (first | ((with_reducible refine gf 92 ?_); refine gC (some 20) Tryz.func92 (qWq.calls _ g9 _ A8.out) ?_; rintro e kU ⟨rfl, hb⟩; refine ⟨_, rfl, ?_⟩; replace HB := s0 HB hb; (try clear hb); (try clear hb2); (try clear hk); (try clear hi)) | ((with_reducible refine gf 79 ?_); refine gC (some 21) Tryz.func79 (qQx.calls _ _ _ _ _ i7 i8 _ A9.out) ?_; rintro e w' ⟨rfl, ⟨nd, rfl⟩⟩; refine ⟨_, rfl, ?_⟩))
  go_ret2
  exact ⟨er, by exact h0q HB.out⟩
def qWj.f (a0 : Int) : Option (Bool) := if (Int.tmod a0 4) = 0 then (if (Int.tmod a0 100) = 0 then (some ((Int.tmod a0 400) == 0)) else (some true)) else (some false)
set_option maxHeartbeats 8000000 in
set_option maxRecDepth 100000 in
theorem qWj.calls (a0 : Int) (r : Bool) (w : World) (h : qWj.f a0 = some r) :
  Calls Tryz.prog 95 #[.int .i64 a0] w fun e w' => e = .returned (.bool r) /\ Drawn0 w w' := by
 have H := h
 unfold qWj.f at H
 clear h
 by_cases c2 : (Int.tmod a0 4) = 0
 case neg =>
  rw [if_neg c2] at H
  have iQ := beq_eq_false_iff_ne.mpr c2
  have iR := bne_iff_ne.mpr c2
  obtain rfl := Option.some.inj H
  go_enter Tryz.func95, Tryz.ntmps95
  go_wp2
  go_ret
  exact ⟨fr, dr⟩
 rw [if_pos c2] at H
 have iQ := beq_iff_eq.mpr c2
 have iR := bne_eq_false_iff_eq.mpr c2
 clear c2
 by_cases c3 : (Int.tmod a0 100) = 0
 case neg =>
  rw [if_neg c3] at H
  have bN := beq_eq_false_iff_ne.mpr c3
  have cJ := bne_iff_ne.mpr c3
  obtain rfl := Option.some.inj H
  go_enter Tryz.func95, Tryz.ntmps95
  go_wp2
  go_ret
  exact ⟨fr, dr⟩
 rw [if_pos c3] at H
 have bN := beq_iff_eq.mpr c3
 have cJ := bne_eq_false_iff_eq.mpr c3
 clear c3
 obtain rfl := Option.some.inj H
 go_enter Tryz.func95, Tryz.ntmps95
 go_wp2
 go_ret
 exact ⟨fr, dr⟩
def qY1.f (a0 a1 : Int) : Option (Int) :=
 if a1 < 1 then some 0 else if a1 > 12 then some 0 else if a1 = 2 then ((qWj.f a0).bind fun t => if t = true then some 29 else some 28)
 else if a1 = 4 then some 30 else if a1 = 6 then some 30 else if a1 = 9 then some 30 else if a1 = 11 then some 30 else some 31
abbrev dayRow : Array Value := #[.int .i64 0, .int .i64 31, .int .i64 28, .int .i64 31, .int .i64 30, .int .i64 31, .int .i64 30, .int .i64 31, .int .i64 31, .int .i64 30, .int .i64 31, .int .i64 30, .int .i64 31]
set_option maxHeartbeats 8000000 in
set_option maxRecDepth 100000 in
theorem qY1.row (a0 a1 x : Int) (w : World) (b1 : decide (a1 < 1) = false) (b2 : decide (12 < a1) = false) (b3 : (a1 == 2) = false)
  (i0 : ∀ w : World, (Instr.index 132 (.agg dayRow) (.int .i64 a1)).run Tryz.prog w = .ok (.int .i64 x) w) :
  Calls Tryz.prog 77 #[.int .i64 a0, .int .i64 a1] w fun e w' => e = .returned (.int .i64 x) /\ Drawn0 w w' := by
 unfold dayRow at i0
 go_enter Tryz.func77, Tryz.ntmps77
 go_wp2
 go_ret
 exact ⟨rfl, Drawn0.refl _⟩
set_option maxHeartbeats 8000000 in
set_option maxRecDepth 100000 in
theorem qY1.calls (a0 a1 r : Int) (w : World) (h : qY1.f a0 a1 = some r) :
  Calls Tryz.prog 77 #[.int .i64 a0, .int .i64 a1] w fun e w' => e = .returned (.int .i64 r) /\ Drawn0 w w' := by
 by_cases c1 : a1 < 1
 ·obtain rfl : (0 : Int) = r := by simpa [qY1.f, c1] using h
  have b1 : decide (a1 < 1) = true := decide_eq_true c1
  clear h c1
  go_enter Tryz.func77, Tryz.ntmps77
  go_wp2
  go_ret
  exact ⟨rfl, Drawn0.refl _⟩
 by_cases c2 : a1 > 12
 ·obtain rfl : (0 : Int) = r := by simpa [qY1.f, c1, c2] using h
  have b1 : decide (a1 < 1) = false := decide_eq_false c1
  have b2 : decide (12 < a1) = true := decide_eq_true c2
  clear h c1 c2
  go_enter Tryz.func77, Tryz.ntmps77
  go_wp2
  go_ret
  exact ⟨rfl, Drawn0.refl _⟩
 by_cases c3 : a1 = 2
 case neg =>
  have hh : a1 = 1 \/ a1 = 3 \/ a1 = 4 \/ a1 = 5 \/ a1 = 6 \/ a1 = 7 \/ a1 = 8 \/ a1 = 9 \/ a1 = 10 \/ a1 = 11 \/ a1 = 12 := by omega
  rcases hh with rfl | rfl | rfl | rfl | rfl | rfl | rfl | rfl | rfl | rfl | rfl <;>
   (obtain rfl := Option.some.inj h; exact qY1.row a0 _ _ w (by decide) (by decide) (by decide) (fun _ => by kernel_rfl))
 subst c3
 have H : ((qWj.f a0).bind fun t => if t = true then some 29 else some 28) = some r := by simpa [qY1.f] using h
 obtain ⟨t, A0, H⟩ := Option.bind_eq_some_iff.mp H
 have A1 := am A0
 clear A0 h c1 c2
 have i0 : ∀ w : World, (Instr.index 132 (.agg dayRow) (.int .i64 2)).run Tryz.prog w = .ok (.int .i64 28) w := fun _ => by kernel_rfl
 cases t
 ·obtain rfl : (28 : Int) = r := by simpa using H
  clear H
  go_enter Tryz.func77, Tryz.ntmps77
  go_wp2_with (first | (go_at_call 95; (with_reducible refine (qWj.calls _ false _ A1.out).mono ?_); rintro e w' ⟨rfl, ⟨nd, rfl⟩⟩))
  go_ret
  exact ⟨rfl, dr⟩
 ·obtain rfl : (29 : Int) = r := by simpa using H
  clear H
  go_enter Tryz.func77, Tryz.ntmps77
  go_wp2_with (first | (go_at_call 95; (with_reducible refine (qWj.calls _ true _ A1.out).mono ?_); rintro e w' ⟨rfl, ⟨nd, rfl⟩⟩))
  go_ret
  exact ⟨rfl, dr⟩
def qYo.longs (y : Int) : Int := wrap64 ((wrap64 ((wrap64 (Int.tdiv y 4)) - (wrap64 (Int.tdiv y 100)))) + (wrap64 (Int.tdiv y 400)))
def qYo.f (a0 : Int) : Option (Int) := some (wrap64 ((wrap64 ((wrap64 ((wrap64 (a0 - 1960)) * 365)) + qYo.longs (wrap64 (a0 - 1)))) - qYo.longs 1959))
set_option maxHeartbeats 8000000 in
set_option maxRecDepth 100000 in
theorem qYo.inner (y : Int) (w : World) :
  Calls Tryz.prog 111 #[.int .i64 y] w fun e w' => e = .returned (.int .i64 (qYo.longs y)) /\ Drawn0 w w' := by
 go_enter Tryz.func111, Tryz.ntmps111
 go_wp2
 go_ret
 exact ⟨rfl, Drawn0.refl _⟩
set_option maxHeartbeats 8000000 in
set_option maxRecDepth 100000 in
theorem qYo.calls (a0 r : Int) (w : World) (h : qYo.f a0 = some r) :
  Calls Tryz.prog 94 #[.int .i64 a0] w fun e w' => e = .returned (.int .i64 r) /\ Drawn0 w w' := by
 obtain rfl := Option.some.inj h
 clear h
 go_enter Tryz.func94, Tryz.ntmps94
 go_wp2_with fail
 refine (qYo.inner _ _).mono ?_
 rintro e w' ⟨rfl, ⟨nd, rfl⟩⟩
 go_wp2_with fail
 refine (qYo.inner _ _).mono ?_
 rintro e w' ⟨rfl, ⟨nd, rfl⟩⟩
 go_wp2
 go_ret
 exact ⟨rfl, dr⟩
mutual
def qZn.j1 : Nat -> Int -> Int -> Option (Int × Int × Int × Int)
 | 0, _, _ => none
 | k + 1, x0, x2 => (qYo.f x2).bind fun e4 => (qZn.l1 k (wrap64 (x0 - e4)) x2 1)
def qZn.l1 : Nat -> Int -> Int -> Int -> Option (Int × Int × Int × Int)
 | 0, _, _, _ => none
 | k + 1, x0, x2, x3 => (qY1.f x2 x3).bind fun dG => (if x0 ≥ dG then ((qY1.f x2 x3).bind fun e5 => (qZn.l1 k (wrap64 (x0 - e5)) x2 (wrap64 (x3 + 1)))) else (some (x2, x3, wrap64 (x0 + 1), 0)))
def qZn.l0 : Nat -> Int -> Int -> Option (Int × Int × Int × Int)
 | 0, _, _ => none
 | k + 1, x0, x2 => if x2 < 2199 then ((qYo.f (wrap64 (x2 + 1))).bind fun eK => (if eK <= x0 then (qZn.l0 k x0 (wrap64 (x2 + 1))) else (qZn.j1 k x0 x2))) else (qZn.j1 k x0 x2)
end
def qZn.f (k : Nat) (a0 : Int) : Option (Int × Int × Int × Int) := (qZz.f a0).bind fun hA => (if hA = true then (qZn.l0 k a0 (wrap64 (1960 + (wrap64 (Int.tdiv a0 366))))) else (some (0, 0, 0, 15)))
set_option maxHeartbeats 8000000 in
set_option maxRecDepth 100000 in
theorem qZn.calls (k : Nat) (a0 r1 r2 r3 r4 : Int) (w : World) (h : qZn.f k a0 = some (r1, r2, r3, r4)) :
  Calls Tryz.prog 75 #[.int .i64 a0] w fun e w' => e = .returned (.tuple #[.int .i64 r1, .int .i64 r2, .int .i64 r3, .int .i64 r4]) /\ Drawn0 w w' := by
 have H := h
 unfold qZn.f at H
 clear h
 obtain ⟨hA, A2, H⟩ := bd H
 by_cases c3 : hA = true
 case neg =>
  replace c3 := Bool.eq_false_iff.mpr c3
  subst c3
  rw [if_neg (show ¬ (false = true) by decide)] at H
  simp only [Option.some.injEq, Prod.mk.injEq] at H
  obtain ⟨rfl, rfl, rfl, rfl⟩ := H
  go_enter Tryz.func75, Tryz.ntmps75
  go_wp2_with (first | ((with_reducible refine gf 23 ?_); refine gC (some 7) Tryz.func23 (qZz.calls _ false _ A2.out) ?_; rintro e w' ⟨rfl, ⟨nd, rfl⟩⟩; refine ⟨_, rfl, ?_⟩))
  refine bodyPost_ret (qKj (rs := [.tmp 2, .tmp 3, .tmp 4, .tmp 5]) rfl (by simp) (.tmp (.tmp (.tmp (.tmp .nil))))) rfl ?_
  exact ⟨fr, dr⟩
 subst c3
 rw [if_pos rfl] at H
 have d9 := am H
 clear H
 go_enter Tryz.func75, Tryz.ntmps75
 go_upto_block 0 with (first | ((with_reducible refine gf 23 ?_); refine gC (some 7) Tryz.func23 (qZz.calls _ true _ A2.out) ?_; rintro e w' ⟨rfl, ⟨nd, rfl⟩⟩; refine ⟨_, rfl, ?_⟩))
 (try simp only [Act.put, List.setIfInBounds_toArray, List.set_cons_zero, List.set_cons_succ])
 go_cut [2] (fun v2 wc => ∃ (kq : Nat) (fE : Int), v2 = .int .i64 fE /\ Aside0 (qZn.j1 kq a0 fE = some (r1, r2, r3, r4)) /\ Aside0 (kq <= k) /\ Drawn0 w wc)
 case first =>
  have H := d9.out
  clear d9
  have H' := am H
  clear H
  go_wp2
  go_loopg [2] k (fun kq v2 w' => ∃ (dI : Int), v2 = .int .i64 dI /\ Aside0 (qZn.l0 kq a0 dI = some (r1, r2, r3, r4)) /\ Aside0 (kq <= k) /\ Drawn0 w w')
  case atStart => exact ⟨(wrap64 (1960 + (wrap64 (Int.tdiv a0 366)))), fr, H', ⟨Nat.le_refl _⟩, dr⟩
  case round =>
   clear H'
   try clear c3
   obtain ⟨dI, rfl, HA, dK, ⟨m1, rfl⟩⟩ := hrel
   rcases gk with _ | k1
   ·exact absurd HA.out (by simp [qZn.l0])
   have H := HA.out
   clear HA
   simp only [qZn.l0] at H
   by_cases c5 : dI < 2199
   case neg =>
    rw [if_neg c5] at H
    have aZ := decide_eq_false c5
    clear c5
    (first | rw [aZ] | (simp only [i64_w, i32_w]; rw [aZ]) | skip)
    have H' := am H
    clear H
    go_wp2
    go_meet
    case rel => exact ⟨_, (dI), fr, H', o1 dK, dr⟩
   rw [if_pos c5] at H
   have aZ := decide_eq_true c5
   clear c5
   (first | rw [aZ] | (simp only [i64_w, i32_w]; rw [aZ]) | skip)
   obtain ⟨eK, A6, H⟩ := bd H
   by_cases c7 : eK <= a0
   case neg =>
    rw [if_neg c7] at H
    have bS := decide_eq_false c7
    clear c7
    have H' := am H
    clear H
    go_wp2_with (first | (go_at_call 94; (with_reducible refine (qYo.calls _ eK _ A6.out).mono ?_); rintro e w' ⟨rfl, ⟨nd, rfl⟩⟩))
    go_meet
    case rel => exact ⟨_, (dI), fr, H', o1 dK, dr⟩
   rw [if_pos c7] at H
   have bS := decide_eq_true c7
   clear c7
   have H' := am H
   clear H
   go_wp2_with (first | (go_at_call 94; (with_reducible refine (qYo.calls _ eK _ A6.out).mono ?_); rintro e w' ⟨rfl, ⟨nd, rfl⟩⟩))
   go_roundg k1
   case measure => have := dK.out; omega
   case rel => exact ⟨(wrap64 (dI + 1)), fr, H', o1 dK, dr⟩
 case rest =>
  clear d9
  try clear c3
  try clear c5
  try clear aZ
  try clear c7
  try clear bS
  obtain ⟨kq, fE, rfl, HA, fG, ⟨mc3, rfl⟩⟩ := hcut
  rcases kq with _ | g2
  ·exact absurd HA.out (by simp [qZn.j1])
  have H := HA.out
  clear HA
  simp only [qZn.j1] at H
  obtain ⟨e4, A8, H⟩ := bd H
  have H' := am H
  clear H
  go_wp2_with (first | ((with_reducible refine gf 94 ?_); refine gC (some 25) Tryz.func94 (qYo.calls _ e4 _ A8.out) ?_; rintro e w' ⟨rfl, ⟨nd, rfl⟩⟩; refine ⟨_, rfl, ?_⟩))
  go_loopg [0, 3] g2 (fun kq v0 v3 w' => ∃ (dH : Int) (cO : Int), v0 = .int .i64 dH /\ v3 = .int .i64 cO /\ Aside0 (qZn.l1 kq dH fE cO = some (r1, r2, r3, r4)) /\ Aside0 (kq <= g2) /\ Drawn0 w w')
  case atStart => exact ⟨(wrap64 (a0 - e4)), (1), fr, fr, H', ⟨Nat.le_refl _⟩, dr⟩
  case round =>
   clear H'
   try clear c3
   try clear c5
   try clear aZ
   try clear c7
   try clear bS
   obtain ⟨dH, cO, rfl, rfl, HA, dZ, ⟨m2, rfl⟩⟩ := hrel
   rcases gk with _ | k2
   ·exact absurd HA.out (by simp [qZn.l1])
   have H := HA.out
   clear HA
   simp only [qZn.l1] at H
   obtain ⟨dG, A9, H⟩ := bd H
   by_cases b5 : dH ≥ dG
   case neg =>
    rw [if_neg b5] at H
    have fR : decide (dG <= dH) = false := decide_eq_false b5
    clear b5
    simp only [Option.some.injEq, Prod.mk.injEq] at H
    obtain ⟨rfl, rfl, rfl, rfl⟩ := H
    go_wp2_with (first | ((with_reducible refine gf 77 ?_); refine gC (some 30) Tryz.func77 (qY1.calls _ _ dG _ A9.out) ?_; rintro e w' ⟨rfl, ⟨nd, rfl⟩⟩; refine ⟨_, rfl, ?_⟩))
    refine bodyPost_ret (qKj (rs := [.tmp 2, .tmp 3, .tmp 4, .tmp 5]) rfl (by simp) (.tmp (.tmp (.tmp (.tmp .nil))))) rfl ?_
    exact ⟨fr, dr⟩
   rw [if_pos b5] at H
   have fR : decide (dG <= dH) = true := decide_eq_true b5
   clear b5
   obtain ⟨e5, eO, H⟩ := bd H
   have H' := am H
   clear H
   go_wp2_with (first | ((with_reducible refine gf 77 ?_); refine gC (some 30) Tryz.func77 (qY1.calls _ _ dG _ A9.out) ?_; rintro e w' ⟨rfl, ⟨nd, rfl⟩⟩; refine ⟨_, rfl, ?_⟩) | ((with_reducible refine gf 77 ?_); refine gC (some 35) Tryz.func77 (qY1.calls _ _ e5 _ eO.out) ?_; rintro e w' ⟨rfl, ⟨nd, rfl⟩⟩; refine ⟨_, rfl, ?_⟩))
   go_roundg k2
   case measure => have := fG.out; have := dZ.out; omega
   case rel => exact ⟨(wrap64 (dH - e5)), (wrap64 (cO + 1)), fr, fr, H', o2 fG dZ, dr⟩
mutual
def qXe.j0 : Nat -> Int -> Int -> Int -> Bool -> Option (Int × Int)
 | 0, _, _, _, _ => none
 | k + 1, x0, x1, x2, kZ => if kZ = true then (some (0, 15)) else ((qYo.f x0).bind fun e7 => (qXe.l0 k x0 x1 x2 e7 1))
def qXe.l0 : Nat -> Int -> Int -> Int -> Int -> Int -> Option (Int × Int)
 | 0, _, _, _, _, _ => none
 | k + 1, x0, x1, x2, x8, x9 => if x9 < x1 then ((qY1.f x0 x9).bind fun e8 => (qXe.l0 k x0 x1 x2 (wrap64 (x8 + e8)) (wrap64 (x9 + 1)))) else (some (wrap64 ((wrap64 (x8 + x2)) - 1), 0))
end
def qXe.f (k : Nat) (a0 a1 a2 : Int) : Option (Int × Int) := if a0 < 1960 then (qXe.j0 k a0 a1 a2 true) else (if a0 > 2199 then (qXe.j0 k a0 a1 a2 true) else (if a2 < 1 then (qXe.j0 k a0 a1 a2 true) else ((qY1.f a0 a1).bind fun e6 => (qXe.j0 k a0 a1 a2 (decide (a2 > e6))))))
set_option maxHeartbeats 8000000 in
set_option maxRecDepth 100000 in
theorem qXe.calls (k : Nat) (a0 a1 a2 r1 r2 : Int) (w : World) (h : qXe.f k a0 a1 a2 = some (r1, r2)) :
  Calls Tryz.prog 76 #[.int .i64 a0, .int .i64 a1, .int .i64 a2] w fun e w' => e = .returned (.tuple #[.int .i64 r1, .int .i64 r2]) /\ Drawn0 w w' := by
 have H := h
 unfold qXe.f at H
 clear h
 have d9 := am H
 clear H
 go_enter Tryz.func76, Tryz.ntmps76
 go_upto_region 1 with (fail)
 go_cut [26] (fun kO wc => ∃ (kq : Nat) (dV : Bool), kO = .bool dV /\ Aside0 (qXe.j0 kq a0 a1 a2 dV = some (r1, r2)) /\ Aside0 (kq <= k) /\ Drawn0 w wc)
 case first =>
  have H := d9.out
  clear d9
  by_cases c5 : a0 < 1960
  ·rw [if_pos c5] at H
   have aZ := decide_eq_true c5
   clear c5
   (first | rw [aZ] | (simp only [i64_w, i32_w]; rw [aZ]) | skip)
   have H' := am H
   clear H
   go_wp2
   go_meet
   case rel => exact ⟨_, (true), fr, H', o0, dr⟩
  rw [if_neg c5] at H
  have aZ := decide_eq_false c5
  clear c5
  (first | rw [aZ] | (simp only [i64_w, i32_w]; rw [aZ]) | skip)
  by_cases c6 : a0 > 2199
  ·rw [if_pos c6] at H
   have a4 : decide (2199 < a0) = true := decide_eq_true c6
   clear c6
   have H' := am H
   clear H
   go_wp2
   go_meet
   case rel => exact ⟨_, (true), fr, H', o0, dr⟩
  rw [if_neg c6] at H
  have a4 : decide (2199 < a0) = false := decide_eq_false c6
  clear c6
  by_cases c7 : a2 < 1
  ·rw [if_pos c7] at H
   have bS := decide_eq_true c7
   clear c7
   have H' := am H
   clear H
   go_wp2
   go_meet
   case rel => exact ⟨_, (true), fr, H', o0, dr⟩
  rw [if_neg c7] at H
  have bS := decide_eq_false c7
  clear c7
  obtain ⟨e6, A8, H⟩ := bd H
  have H' := am H
  clear H
  go_wp2_with (first | (go_at_call 77; (with_reducible refine (qY1.calls _ _ e6 _ A8.out).mono ?_); rintro e w' ⟨rfl, ⟨nd, rfl⟩⟩))
  go_meet
  case rel => exact ⟨_, (decide (a2 > e6)), fr, H', o0, dr⟩
 case rest =>
  clear d9
  try clear c5
  try clear aZ
  try clear c6
  try clear a4
  try clear c7
  try clear bS
  obtain ⟨kq, dV, rfl, HA, fG, ⟨mc3, rfl⟩⟩ := hcut
  rcases kq with _ | g2
  ·exact absurd HA.out (by simp [qXe.j0])
  have H := HA.out
  clear HA
  simp only [qXe.j0] at H
  by_cases c9 : dV = true
  ·subst c9
   rw [if_pos rfl] at H
   simp only [Option.some.injEq, Prod.mk.injEq] at H
   obtain ⟨rfl, rfl⟩ := H
   go_wp2
   go_ret2
   exact ⟨fr, dr⟩
  replace c9 := Bool.eq_false_iff.mpr c9
  subst c9
  rw [if_neg (show ¬ (false = true) by decide)] at H
  obtain ⟨e7, hR, H⟩ := bd H
  have H' := am H
  clear H
  go_wp2_with (first | ((with_reducible refine gf 94 ?_); refine gC (some 28) Tryz.func94 (qYo.calls _ e7 _ hR.out) ?_; rintro e w' ⟨rfl, ⟨nd, rfl⟩⟩; refine ⟨_, rfl, ?_⟩))
  go_loopg [8, 9] g2 (fun kq v8 v9 w' => ∃ (fF : Int) (eN : Int), v8 = .int .i64 fF /\ v9 = .int .i64 eN /\ Aside0 (qXe.l0 kq a0 a1 a2 fF eN = some (r1, r2)) /\ Aside0 (kq <= g2) /\ Drawn0 w w')
  case atStart => exact ⟨(e7), (1), fr, fr, H', ⟨Nat.le_refl _⟩, dr⟩
  case round =>
   clear H'
   try clear c5
   try clear aZ
   try clear c6
   try clear a4
   try clear c7
   try clear bS
   try clear c9
   obtain ⟨fF, eN, rfl, rfl, HA, dZ, ⟨m2, rfl⟩⟩ := hrel
   rcases gk with _ | k2
   ·exact absurd HA.out (by simp [qXe.l0])
   have H := HA.out
   clear HA
   simp only [qXe.l0] at H
   by_cases eC : eN < a1
   case neg =>
    rw [if_neg eC] at H
    have bU := decide_eq_false eC
    clear eC
    simp only [Option.some.injEq, Prod.mk.injEq] at H
    obtain ⟨rfl, rfl⟩ := H
    go_wp2
    go_ret2
    exact ⟨fr, dr⟩
   rw [if_pos eC] at H
   have bU := decide_eq_true eC
   clear eC
   obtain ⟨e8, hS, H⟩ := bd H
   have H' := am H
   clear H
   go_wp2_with (first | ((with_reducible refine gf 77 ?_); refine gC (some 37) Tryz.func77 (qY1.calls _ _ e8 _ hS.out) ?_; rintro e w' ⟨rfl, ⟨nd, rfl⟩⟩; refine ⟨_, rfl, ?_⟩))
   go_roundg k2
   case measure => have := fG.out; have := dZ.out; omega
   case rel => exact ⟨(wrap64 (fF + e8)), (wrap64 (eN + 1)), fr, fr, H', o2 fG dZ, dr⟩
mutual
def qZ2.j0 : Nat -> Int -> Int -> Int -> Int -> Bool -> Option (Int × Int)
 | 0, _, _, _, _, _ => none
 | k + 1, x1, x6, x7, x8, k0 => if k0 = true then (some (0, 15)) else (if (wrap64 ((wrap64 ((wrap64 ((wrap64 ((wrap64 (x6 - 1960)) * 12)) + x7)) - 1)) + x1)) < 0 then (qZ2.j1 k x8 (wrap64 ((wrap64 ((wrap64 ((wrap64 ((wrap64 (x6 - 1960)) * 12)) + x7)) - 1)) + x1)) true) else (qZ2.j1 k x8 (wrap64 ((wrap64 ((wrap64 ((wrap64 ((wrap64 (x6 - 1960)) * 12)) + x7)) - 1)) + x1)) (decide ((wrap64 ((wrap64 ((wrap64 ((wrap64 ((wrap64 (x6 - 1960)) * 12)) + x7)) - 1)) + x1)) ≥ 2880))))
def qZ2.j1 : Nat -> Int -> Int -> Bool -> Option (Int × Int)
 | 0, _, _, _ => none
 | k + 1, x8, cH, k4 => if k4 = true then (some (0, 15)) else ((qY1.f (wrap64 (1960 + (wrap64 (Int.tdiv cH 12)))) (wrap64 ((Int.tmod cH 12) + 1))).bind fun d4 => ((qXe.f k (wrap64 (1960 + (wrap64 (Int.tdiv cH 12)))) (wrap64 ((Int.tmod cH 12) + 1)) (mn x8 d4)).bind fun cU => (some (cU.1, cU.2))))
end
def qZ2.f (k : Nat) (a0 a1 : Int) : Option (Int × Int) := (qZn.f k a0).bind fun bM => (if bM.2.2.2 = 0 then (if a1 < (-2880) then (qZ2.j0 k a1 bM.1 bM.2.1 bM.2.2.1 true) else (qZ2.j0 k a1 bM.1 bM.2.1 bM.2.2.1 (decide (a1 > 2880)))) else (qZ2.j0 k a1 bM.1 bM.2.1 bM.2.2.1 true))
set_option maxHeartbeats 8000000 in
set_option maxRecDepth 100000 in
theorem qZ2.calls (k : Nat) (a0 a1 r1 r2 : Int) (w : World) (h : qZ2.f k a0 a1 = some (r1, r2)) :
  Calls Tryz.prog 48 #[.int .i64 a0, .int .i64 a1] w fun e w' => e = .returned (.tuple #[.int .i64 r1, .int .i64 r2]) /\ Below w.heap.size w w' := by
 have HB := am (Below.refl w.heap.size w)
 have H := h
 unfold qZ2.f at H
 clear h
 obtain ⟨⟨cL, cM, d3, iG⟩, A3, H⟩ := bd H
 have d9 := am H
 clear H
 go_enter Tryz.func48, Tryz.ntmps48
 go_upto_region 2 with (first | ((with_reducible refine gf 75 ?_); refine gC (some 13) Tryz.func75 (qZn.calls _ _ cL cM d3 iG _ A3.out) ?_; rintro e w' ⟨rfl, ⟨nd, rfl⟩⟩; refine ⟨_, rfl, ?_⟩))
 (try simp only [Act.put, List.setIfInBounds_toArray, List.set_cons_zero, List.set_cons_succ])
 go_cut [27] (fun kP wc => ∃ (kq : Nat) (dW : Bool), kP = .bool dW /\ Aside0 (qZ2.j0 kq a1 cL cM d3 dW = some (r1, r2)) /\ Aside0 (kq <= k) /\ Aside0 (Below w.heap.size w wc))
 case first =>
  have H := d9.out
  clear d9
  by_cases c5 : iG = 0
  case neg =>
   rw [if_neg c5] at H
   have aZ := beq_eq_false_iff_ne.mpr c5
   have gE := bne_iff_ne.mpr c5
   (first | rw [aZ] | (simp only [i64_w, i32_w]; rw [aZ]) | skip)
   have H' := am H
   clear H
   go_wp2
   go_meet
   case rel => exact ⟨_, (true), fr, H', o0, a0_ HB⟩
  rw [if_pos c5] at H
  have aZ := beq_iff_eq.mpr c5
  have gE := bne_eq_false_iff_eq.mpr c5
  clear c5
  (first | rw [aZ] | (simp only [i64_w, i32_w]; rw [aZ]) | skip)
  by_cases c6 : a1 < (-2880)
  ·rw [if_pos c6] at H
   have a4 := decide_eq_true c6
   clear c6
   have H' := am H
   clear H
   go_wp2
   go_meet
   case rel => exact ⟨_, (true), fr, H', o0, a0_ HB⟩
  rw [if_neg c6] at H
  have a4 := decide_eq_false c6
  clear c6
  have H' := am H
  clear H
  go_wp2
  go_meet
  case rel => exact ⟨_, (decide (a1 > 2880)), fr, H', o0, a0_ HB⟩
 case rest =>
  clear d9
  try clear c5
  try clear aZ gE
  try clear c6
  try clear a4
  obtain ⟨kq, dW, rfl, HA, fG, HB⟩ := hcut
  rcases kq with _ | g2
  ·exact absurd HA.out (by simp [qZ2.j0])
  have H := HA.out
  clear HA
  simp only [qZ2.j0] at H
  by_cases c7 : dW = true
  ·subst c7
   rw [if_pos rfl] at H
   simp only [Option.some.injEq, Prod.mk.injEq] at H
   obtain ⟨rfl, rfl⟩ := H
   go_wp2
   go_ret2
   exact ⟨er, by exact h0q HB.out⟩
  replace c7 := Bool.eq_false_iff.mpr c7
  subst c7
  rw [if_neg (show ¬ (false = true) by decide)] at H
  have iP := am H
  clear H
  go_upto_region 5 with (fail)
  go_cut [41] (fun kR wc => ∃ (kq : Nat) (dY : Bool), kR = .bool dY /\ Aside0 (qZ2.j1 kq d3 (wrap64 ((wrap64 ((wrap64 ((wrap64 ((wrap64 (cL - 1960)) * 12)) + cM)) - 1)) + a1)) dY = some (r1, r2)) /\ Aside0 (kq <= g2) /\ Aside0 (Below w.heap.size w wc))
  case first =>
   have H := iP.out
   clear iP
   by_cases c9 : (wrap64 ((wrap64 ((wrap64 ((wrap64 ((wrap64 (cL - 1960)) * 12)) + cM)) - 1)) + a1)) < 0
   ·rw [if_pos c9] at H
    have bD := decide_eq_true c9
    clear c9
    (first | rw [bD] | (simp only [i64_w, i32_w]; rw [bD]) | skip)
    have H' := am H
    clear H
    go_wp2
    go_meet
    case rel => exact ⟨_, (true), fr, H', o1 fG, a0_ HB⟩
   rw [if_neg c9] at H
   have bD := decide_eq_false c9
   clear c9
   (first | rw [bD] | (simp only [i64_w, i32_w]; rw [bD]) | skip)
   have H' := am H
   clear H
   go_wp2
   go_meet
   case rel => exact ⟨_, (decide ((wrap64 ((wrap64 ((wrap64 ((wrap64 ((wrap64 (cL - 1960)) * 12)) + cM)) - 1)) + a1)) ≥ 2880)), fr, H', o1 fG, a0_ HB⟩
  case rest =>
   clear iP
   try clear c5
   try clear aZ gE
   try clear c6
   try clear a4
   try clear c7
   try clear c9
   try clear bD
   obtain ⟨kq, dY, rfl, HA, k8, HB⟩ := hcut
   rcases kq with _ | kJ
   ·exact absurd HA.out (by simp [qZ2.j1])
   have H := HA.out
   clear HA
   simp only [qZ2.j1] at H
   by_cases b5 : dY = true
   ·subst b5
    rw [if_pos rfl] at H
    simp only [Option.some.injEq, Prod.mk.injEq] at H
    obtain ⟨rfl, rfl⟩ := H
    go_wp2
    go_ret2
    exact ⟨er, by exact h0q HB.out⟩
   replace b5 := Bool.eq_false_iff.mpr b5
   subst b5
   rw [if_neg (show ¬ (false = true) by decide)] at H
   obtain ⟨d4, eO, H⟩ := bd H
   obtain ⟨aW, a6⟩ : ∃ j_ : Int, (mn d3 d4) = j_ := ⟨_, rfl⟩
   replace H : ((qXe.f kJ (wrap64 (1960 + (wrap64 (Int.tdiv (wrap64 ((wrap64 ((wrap64 ((wrap64 ((wrap64 (cL - 1960)) * 12)) + cM)) - 1)) + a1)) 12)))) (wrap64 ((Int.tmod (wrap64 ((wrap64 ((wrap64 ((wrap64 ((wrap64 (cL - 1960)) * 12)) + cM)) - 1)) + a1)) 12) + 1)) (aW)).bind fun cU => (some (cU.1, cU.2))) = some (r1, r2) := by first | (rw [a6] at H; exact H) | (simp only [a6] at H ⊢; exact H)
   (try rw [a6] at eO)
   have hji12_ : (if d4 < d3 then d4 else d3) = aW := a6
   obtain ⟨⟨i9, jA⟩, j5, H⟩ := bd H
   simp only [Option.some.injEq, Prod.mk.injEq] at H
   obtain ⟨rfl, rfl⟩ := H
   go_wp2_with (first | ((with_reducible refine gf 77 ?_); refine gC (some 53) Tryz.func77 (qY1.calls _ _ d4 _ eO.out) ?_; rintro e w' ⟨rfl, ⟨nd, rfl⟩⟩; refine ⟨_, rfl, ?_⟩) | ((with_reducible refine gf 76 ?_); refine goesL_ (some 55) rfl rfl Tryz.func76 (by kernel_rfl) rfl #[.int .i64 (wrap64 (1960 + (wrap64 (Int.tdiv (wrap64 ((wrap64 ((wrap64 ((wrap64 ((wrap64 (cL - 1960)) * 12)) + cM)) - 1)) + a1)) 12)))), .int .i64 (wrap64 ((Int.tmod (wrap64 ((wrap64 ((wrap64 ((wrap64 ((wrap64 (cL - 1960)) * 12)) + cM)) - 1)) + a1)) 12) + 1)), .int .i64 aW] rfl (by (try simp only [List.map_toArray, List.map_cons, List.map_nil]); first | done | (simp only [a6]; rfl) | rfl | (simp only [List.length_drop, List.length_take]; rfl)) ?_; (with_reducible refine (qXe.calls _ _ _ _ i9 jA _ j5.out).mono ?_); rintro e w' ⟨rfl, ⟨nd, rfl⟩⟩; refine ⟨_, rfl, ?_⟩))
   go_ret2
   exact ⟨by first | rfl | (simp [qQj, qQk] <;> rfl) | (simp only [<- a6]; first | rfl | (simp [qQj, qQk] <;> rfl)) | (simp [*, qQj, qQk] <;> rfl), by exact h0q HB.out⟩
def qXk.f (k : Nat) (a0 : Int) : Option (Int × Int) := (qZn.f k a0).bind fun dL => (if dL.2.2.2 = 0 then (some (wrap64 ((wrap64 ((wrap64 ((wrap64 (dL.1 - 1960)) * 12)) + dL.2.1)) - 1), 0)) else (some (0, dL.2.2.2)))
set_option maxHeartbeats 8000000 in
set_option maxRecDepth 100000 in
theorem qXk.calls (k : Nat) (a0 r1 r2 : Int) (w : World) (h : qXk.f k a0 = some (r1, r2)) :
  Calls Tryz.prog 93 #[.int .i64 a0] w fun e w' => e = .returned (.tuple #[.int .i64 r1, .int .i64 r2]) /\ Drawn0 w w' := by
 have H := h
 unfold qXk.f at H
 clear h
 obtain ⟨⟨iH, iI, iJ, hC⟩, A2, H⟩ := bd H
 by_cases c3 : hC = 0
 case neg =>
  rw [if_neg c3] at H
  have bN := beq_eq_false_iff_ne.mpr c3
  have cJ := bne_iff_ne.mpr c3
  simp only [Option.some.injEq, Prod.mk.injEq] at H
  obtain ⟨rfl, rfl⟩ := H
  go_enter Tryz.func93, Tryz.ntmps93
  go_wp2_with (first | ((with_reducible refine gf 75 ?_); refine gC (some 10) Tryz.func75 (qZn.calls _ _ iH iI iJ hC _ A2.out) ?_; rintro e w' ⟨rfl, ⟨nd, rfl⟩⟩; refine ⟨_, rfl, ?_⟩))
  go_ret2
  exact ⟨fr, dr⟩
 rw [if_pos c3] at H
 have bN := beq_iff_eq.mpr c3
 have cJ := bne_eq_false_iff_eq.mpr c3
 clear c3
 simp only [Option.some.injEq, Prod.mk.injEq] at H
 obtain ⟨rfl, rfl⟩ := H
 go_enter Tryz.func93, Tryz.ntmps93
 go_wp2_with (first | ((with_reducible refine gf 75 ?_); refine gC (some 10) Tryz.func75 (qZn.calls _ _ iH iI iJ hC _ A2.out) ?_; rintro e w' ⟨rfl, ⟨nd, rfl⟩⟩; refine ⟨_, rfl, ?_⟩))
 go_ret2
 exact ⟨fr, dr⟩
def qYr.j0 : Nat -> Int -> Int -> Bool -> Option (Int)
 | 0, _, _, _ => none
 | k + 1, x0, x1, kY => if kY = true then (some 0) else ((qXk.f k x0).bind fun dM => ((qXk.f k x1).bind fun dN => ((qZ2.f k x0 (wrap64 (dN.1 - dM.1))).bind fun fO => (if fO.2 = 0 then (if fO.1 <= x1 then (some (wrap64 (dN.1 - dM.1))) else (some (wrap64 ((wrap64 (dN.1 - dM.1)) - 1)))) else (some (wrap64 ((wrap64 (dN.1 - dM.1)) - 1)))))))
def qYr.f (k : Nat) (a0 a1 : Int) : Option (Int) := (qZz.f a0).bind fun hD => (if hD = true then ((qZz.f a1).bind fun hE => (if hE = true then (qYr.j0 k a0 a1 (decide (a0 > a1))) else (qYr.j0 k a0 a1 true))) else (qYr.j0 k a0 a1 true))
set_option maxHeartbeats 8000000 in
set_option maxRecDepth 100000 in
theorem qYr.calls (k : Nat) (a0 a1 r : Int) (w : World) (h : qYr.f k a0 a1 = some r) :
  Calls Tryz.prog 73 #[.int .i64 a0, .int .i64 a1] w fun e w' => e = .returned (.int .i64 r) /\ Below w.heap.size w w' := by
 have HB := am (Below.refl w.heap.size w)
 have H := h
 unfold qYr.f at H
 clear h
 have d8 := am H
 clear H
 go_enter Tryz.func73, Tryz.ntmps73
 go_upto_region 1 with (fail)
 go_cut [23] (fun kN wc => ∃ (kq : Nat) (dU : Bool), kN = .bool dU /\ Aside0 (qYr.j0 kq a0 a1 dU = some r) /\ Aside0 (kq <= k) /\ Aside0 (Below w.heap.size w wc))
 case first =>
  have H := d8.out
  clear d8
  obtain ⟨hD, A4, H⟩ := bd H
  by_cases c5 : hD = true
  case neg =>
   replace c5 := Bool.eq_false_iff.mpr c5
   subst c5
   rw [if_neg (show ¬ (false = true) by decide)] at H
   have H' := am H
   clear H
   go_wp2_with (first | ((with_reducible refine gf 23 ?_); refine gC (some 12) Tryz.func23 (qZz.calls _ false _ A4.out) ?_; rintro e w' ⟨rfl, ⟨nd, rfl⟩⟩; refine ⟨_, rfl, ?_⟩))
   go_meet
   case rel => exact ⟨_, (true), fr, H', o0, a0_ HB⟩
  subst c5
  rw [if_pos rfl] at H
  obtain ⟨hE, A6, H⟩ := bd H
  by_cases c7 : hE = true
  ·subst c7
   rw [if_pos rfl] at H
   have H' := am H
   clear H
   go_wp2_with (first | ((with_reducible refine gf 23 ?_); refine gC (some 12) Tryz.func23 (qZz.calls _ true _ A4.out) ?_; rintro e w' ⟨rfl, ⟨nd, rfl⟩⟩; refine ⟨_, rfl, ?_⟩) | (go_at_call 23; (with_reducible refine (qZz.calls _ true _ A6.out).mono ?_); rintro e w' ⟨rfl, ⟨nd, rfl⟩⟩))
   go_meet
   case rel => exact ⟨_, (decide (a0 > a1)), fr, H', o0, a0_ HB⟩
  replace c7 := Bool.eq_false_iff.mpr c7
  subst c7
  rw [if_neg (show ¬ (false = true) by decide)] at H
  have H' := am H
  clear H
  go_wp2_with (first | ((with_reducible refine gf 23 ?_); refine gC (some 12) Tryz.func23 (qZz.calls _ true _ A4.out) ?_; rintro e w' ⟨rfl, ⟨nd, rfl⟩⟩; refine ⟨_, rfl, ?_⟩) | (go_at_call 23; (with_reducible refine (qZz.calls _ false _ A6.out).mono ?_); rintro e w' ⟨rfl, ⟨nd, rfl⟩⟩))
  go_meet
  case rel => exact ⟨_, (true), fr, H', o0, a0_ HB⟩
 case rest =>
  clear d8
  try clear c5
  try clear c7
  obtain ⟨kq, dU, rfl, HA, jO, HB⟩ := hcut
  rcases kq with _ | iE
  ·exact absurd HA.out (by simp [qYr.j0])
  have H := HA.out
  clear HA
  simp only [qYr.j0] at H
  by_cases c8 : dU = true
  ·subst c8
   rw [if_pos rfl] at H
   obtain rfl := Option.some.inj H
   go_wp2
   go_ret
   exact ⟨er, by exact h0q HB.out⟩
  replace c8 := Bool.eq_false_iff.mpr c8
  subst c8
  rw [if_neg (show ¬ (false = true) by decide)] at H
  obtain ⟨⟨hF, hG⟩, A9, H⟩ := bd H
  obtain ⟨⟨hH, hI⟩, hR, H⟩ := bd H
  obtain ⟨⟨e9, fA⟩, eO, H⟩ := bd H
  by_cases gA : fA = 0
  case neg =>
   rw [if_neg gA] at H
   have h4 := beq_eq_false_iff_ne.mpr gA
   have h5 := bne_iff_ne.mpr gA
   obtain rfl := Option.some.inj H
   go_wp2_with (first | ((with_reducible refine gf 93 ?_); refine gC (some 26) Tryz.func93 (qXk.calls _ _ hF hG _ A9.out) ?_; rintro e w' ⟨rfl, ⟨nd, rfl⟩⟩; refine ⟨_, rfl, ?_⟩) | ((with_reducible refine gf 93 ?_); refine gC (some 31) Tryz.func93 (qXk.calls _ _ hH hI _ hR.out) ?_; rintro e w' ⟨rfl, ⟨nd, rfl⟩⟩; refine ⟨_, rfl, ?_⟩) | ((with_reducible refine gf 48 ?_); refine gC (some 39) Tryz.func48 (qZ2.calls _ _ _ e9 fA _ eO.out) ?_; rintro e kX ⟨rfl, hb⟩; refine ⟨_, rfl, ?_⟩; replace HB := s0 HB hb; (try clear hb); (try clear hb2); (try clear hk); (try clear hi)))
   go_ret
   exact ⟨er, by exact h0q HB.out⟩
  rw [if_pos gA] at H
  have h4 := beq_iff_eq.mpr gA
  have h5 := bne_eq_false_iff_eq.mpr gA
  clear gA
  by_cases hL : e9 <= a1
  ·rw [if_pos hL] at H
   have h6 := decide_eq_true hL
   clear hL
   obtain rfl := Option.some.inj H
   go_wp2_with (first | ((with_reducible refine gf 93 ?_); refine gC (some 26) Tryz.func93 (qXk.calls _ _ hF hG _ A9.out) ?_; rintro e w' ⟨rfl, ⟨nd, rfl⟩⟩; refine ⟨_, rfl, ?_⟩) | ((with_reducible refine gf 93 ?_); refine gC (some 31) Tryz.func93 (qXk.calls _ _ hH hI _ hR.out) ?_; rintro e w' ⟨rfl, ⟨nd, rfl⟩⟩; refine ⟨_, rfl, ?_⟩) | ((with_reducible refine gf 48 ?_); refine gC (some 39) Tryz.func48 (qZ2.calls _ _ _ e9 fA _ eO.out) ?_; rintro e lD ⟨rfl, hb⟩; refine ⟨_, rfl, ?_⟩; replace HB := s0 HB hb; (try clear hb); (try clear hb2); (try clear hk); (try clear hi)))
   go_ret
   exact ⟨er, by exact h0q HB.out⟩
  rw [if_neg hL] at H
  have h6 := decide_eq_false hL
  clear hL
  obtain rfl := Option.some.inj H
  go_wp2_with (first | ((with_reducible refine gf 93 ?_); refine gC (some 26) Tryz.func93 (qXk.calls _ _ hF hG _ A9.out) ?_; rintro e w' ⟨rfl, ⟨nd, rfl⟩⟩; refine ⟨_, rfl, ?_⟩) | ((with_reducible refine gf 93 ?_); refine gC (some 31) Tryz.func93 (qXk.calls _ _ hH hI _ hR.out) ?_; rintro e w' ⟨rfl, ⟨nd, rfl⟩⟩; refine ⟨_, rfl, ?_⟩) | ((with_reducible refine gf 48 ?_); refine gC (some 39) Tryz.func48 (qZ2.calls _ _ _ e9 fA _ eO.out) ?_; rintro e kW ⟨rfl, hb⟩; refine ⟨_, rfl, ?_⟩; replace HB := s0 HB hb; (try clear hb); (try clear hb2); (try clear hk); (try clear hi)))
  go_ret
  exact ⟨er, by exact h0q HB.out⟩
def qYd.f (k : Nat) (aI aQ aE aH aJ aK : Int) (aT : Bool) (aM aN aG aA aC aD a1 : Int) : Option (Int × Int) := (qYr.f k aG a1).bind fun fB => ((qX2.f k aA fB).bind fun fP => (some (fP.1, fP.2)))
def qYd.T1 : Bool × List (List Nat × List Nat) := (true, [([], []), ([0], [0]), ([], []), ([2], [2]), ([], []), ([3, 4], [3, 4]), ([1, 5, 5], [1, 5]), ([6], [6]), ([6], [6]), ([7, 6, 0, 1, 2, 3, 4, 5, 6, 7, 8], [7]), ([8, 9, 0, 1, 2, 3, 4, 5, 6, 7, 8, 9], [8])])
def qYd.B1 : List Nat := [0, 1, 0, 4, 0, 28, 63, 127, 127, 511, 1023]
theorem qYd.tab1 : rtab .any (opsOf Tryz.f71 1) = qYd.T1 := by kernel_rfl
theorem qYd.bits1 : waitsOk qYd.T1.2 qYd.B1 = true := by kernel_rfl
set_option maxHeartbeats 8000000 in
set_option maxRecDepth 100000 in
theorem qYd.calls (k : Nat) (aI aQ aE aH aJ aK : Int) (aT : Bool) (aM aN aG aA aC aD a1 r1 r2 : Int) (w : World) (h : qYd.f k aI aQ aE aH aJ aK aT aM aN aG aA aC aD a1 = some (r1, r2)) :
  Calls Tryz.prog 71 #[.agg #[.int .i64 aI, .int .i64 aQ, .int .i64 aE, .int .i64 aH, .int .i64 aJ, .int .i64 aK, .bool aT, .int .i64 aM, .int .i64 aN, .int .i64 aG, .int .i64 aA, .int .i64 aC, .int .i64 aD], .int .i64 a1] w fun e w' => e = .returned (.tuple #[.int .i64 r1, .int .i64 r2]) /\ Below w.heap.size w w' := by
 have gZ := Tryz.underlying48
 have HB := am (Below.refl w.heap.size w)
 have H := h
 unfold qYd.f at H
 clear h
 obtain ⟨fB, A3, H⟩ := bd H
 obtain ⟨⟨jB, jC⟩, A4, H⟩ := bd H
 simp only [Option.some.injEq, Prod.mk.injEq] at H
 obtain ⟨rfl, rfl⟩ := H
 go_enter Tryz.func71, Tryz.ntmps71
 try go_wp2_with (first | ((with_reducible refine gd 2 ?_); refine bE 2 _ 48 ?_; intro bF hg w5 hbox hb; have bL := am hbox; have jK := e0 HB hg; have d7 := e0 HB hg; replace HB := s0 HB hb; clear hb hbox hg))
 replace bL := am (qXf bL.out)
 replace HB := am (qZk HB.out)
 refine start_ (n := 11) (S := fun w' => w'.cell? ⟨bF, 0, none⟩ = some (.int .i64 aI) /\ w'.cell? ⟨bF, 1, none⟩ = some (.int .i64 aQ) /\ w'.cell? ⟨bF, 2, none⟩ = some (.int .i64 aE) /\ w'.cell? ⟨bF, 3, none⟩ = some (.int .i64 aH) /\ w'.cell? ⟨bF, 4, none⟩ = some (.int .i64 aJ) /\ w'.cell? ⟨bF, 5, none⟩ = some (.int .i64 aK) /\ w'.cell? ⟨bF, 6, none⟩ = some (.bool aT) /\ w'.cell? ⟨bF, 7, none⟩ = some (.int .i64 aM) /\ w'.cell? ⟨bF, 8, none⟩ = some (.int .i64 aN) /\ w'.cell? ⟨bF, 9, none⟩ = some (.int .i64 aG) /\ w'.cell? ⟨bF, 10, none⟩ = some (.int .i64 aA) /\ w'.cell? ⟨bF, 11, none⟩ = some (.int .i64 aC) /\ w'.cell? ⟨bF, 12, none⟩ = some (.int .i64 aD)) (ds := []) #[false, false, false, false, false, false, false, false, false, false, false] (by kernel_rfl) rfl rfl (bcs bL) (fun hHeld => ?_); refine qX5 qYd.tab1 qYd.bits1 (fun HT_ HW_ => ?_)
 generalize w5.drew = w6 at bL HB hHeld ⊢
 refine pure_ (i := 0) (N := some 6) (v := ?_) (a' := ?_) #[true, false, false, false, false, false, false, false, false, false, false] rfl rfl (qZ0 HT_.out (by kernel_rfl)) (fun _ _ _ h => h) (Or.inl ⟨by rfl, ?_⟩) ?_ ?_
 rotate_left
 ·intro w'
  go_simp
  with_reducible rfl
 rotate_left
 ·exact pu
 refine pure_ (i := 2) (N := some 8) (v := ?_) (a' := ?_) #[true, false, true, false, false, false, false, false, false, false, false] rfl rfl (qZ0 HT_.out (by kernel_rfl)) (fun _ _ _ h => h) (Or.inl ⟨by rfl, ?_⟩) ?_ ?_
 rotate_left
 ·intro w'
  go_simp
  with_reducible rfl
 rotate_left
 ·exact pu
 refine pure_ (i := 4) (N := some 10) (v := ?_) (a' := ?_) #[true, false, true, false, true, false, false, false, false, false, false] rfl rfl (qZ0 HT_.out (by kernel_rfl)) (fun _ _ _ h => h) (Or.inl ⟨by rfl, ?_⟩) ?_ ?_
 rotate_left
 ·intro w'
  go_simp
  with_reducible rfl
 rotate_left
 ·exact pu
 refine take_ (i := 1) (N := some 7) (v := ?_) (a' := ?_) #[true, true, true, false, true, false, false, false, false, false, false] rfl rfl (qXm HT_.out HW_.out (by kernel_rfl)) (fun _ _ _ h => h) (Or.inl ⟨by rfl, ?_⟩) hHeld ?_ ?_
 rotate_left
 ·rintro w' ⟨s0, s1, s2, s3, s4, s5, s6, s7, s8, s9, s10, s11, s12⟩
  go_simp
  with_reducible rfl
 rotate_left
 ·exact pu
 refine take_ (i := 3) (N := some 9) (v := ?_) (a' := ?_) #[true, true, true, true, true, false, false, false, false, false, false] rfl rfl (qXm HT_.out HW_.out (by kernel_rfl)) (fun _ _ _ h => h) (Or.inl ⟨by rfl, ?_⟩) hHeld ?_ ?_
 rotate_left
 ·rintro w' ⟨s0, s1, s2, s3, s4, s5, s6, s7, s8, s9, s10, s11, s12⟩
  go_simp
  with_reducible rfl
 rotate_left
 ·exact pu
 refine one_ (i := 5) (N := some 11) #[true, true, true, true, true, true, false, false, false, false, false] rfl rfl (qXj HT_.out (by kernel_rfl)) (by decide) (fun K hK => ?_)
 refine goes_ Tryz.func73 (by kernel_rfl) rfl #[.int .i64 aG, .int .i64 a1] (by rfl) rfl rfl ml ?_
 with_reducible refine (qYr.calls _ _ _ fB _ A3.out).mono ?_
 rintro e w7 ⟨rfl, hb⟩
 refine ⟨_, rfl, ?_⟩
 replace bL := bB bL hb
 replace HB := s1 HB d7 hb
 (try clear hb)
 (try clear hb2)
 (try clear hk)
 (try clear hi)
 refine hK.out _ _ (bcs bL) (fun hHeld => ?_)
 clear hK K
 refine norm_ (a' := ?_) ?_ ?_
 rotate_left
 ·show Act.put _ (some 11) _ = _
  exact pu
 refine one_ (i := 6) (N := some 12) #[true, true, true, true, true, true, true, false, false, false, false] rfl rfl (qXj HT_.out (by kernel_rfl)) (by decide) (fun K hK => ?_)
 refine goes_ Tryz.func72 (by kernel_rfl) rfl #[.int .i64 aA, .int .i64 fB] (by rfl) rfl rfl ml ?_
 with_reducible refine (qX2.calls _ _ _ jB jC _ A4.out).mono ?_
 rintro e w8 ⟨rfl, hb⟩
 refine ⟨_, rfl, ?_⟩
 replace bL := bB bL hb
 replace HB := s1 HB d7 hb
 (try clear hb)
 (try clear hb2)
 (try clear hk)
 (try clear hi)
 refine hK.out _ _ (bcs bL) (fun hHeld => ?_)
 clear hK K
 refine norm_ (a' := ?_) ?_ ?_
 rotate_left
 ·show Act.put _ (some 12) _ = _
  exact pu
 refine pure_ (i := 7) (N := some 13) (v := ?_) (a' := ?_) #[true, true, true, true, true, true, true, true, false, false, false] rfl rfl (qZ0 HT_.out (by kernel_rfl)) (fun _ _ _ h => h) (Or.inl ⟨by rfl, ?_⟩) ?_ ?_
 rotate_left
 ·intro w'
  go_simp
  with_reducible rfl
 rotate_left
 ·exact pu
 refine pure_ (i := 8) (N := some 14) (v := ?_) (a' := ?_) #[true, true, true, true, true, true, true, true, true, false, false] rfl rfl (qZ0 HT_.out (by kernel_rfl)) (fun _ _ _ h => h) (Or.inl ⟨by rfl, ?_⟩) ?_ ?_
 rotate_left
 ·intro w'
  go_simp
  with_reducible rfl
 rotate_left
 ·exact pu
 refine pure_ (i := 9) (N := some 4) (v := ?_) (a' := ?_) #[true, true, true, true, true, true, true, true, true, true, false] rfl rfl (qZ0 HT_.out (by kernel_rfl)) (fun _ _ _ h => h) (Or.inl ⟨by rfl, ?_⟩) ?_ ?_
 rotate_left
 ·intro w'
  go_simp
  with_reducible rfl
 rotate_left
 ·exact pu
 refine pure_ (i := 10) (N := some 5) (v := ?_) (a' := ?_) #[true, true, true, true, true, true, true, true, true, true, true] rfl rfl (qZ0 HT_.out (by kernel_rfl)) (fun _ _ _ h => h) (Or.inl ⟨by rfl, ?_⟩) ?_ ?_
 rotate_left
 ·intro w'
  go_simp
  with_reducible rfl
 rotate_left
 ·exact pu
 refine done_ (qW0 HT_.out (by kernel_rfl)) ?_
 try go_wp2
 go_ret2
 exact ⟨er, by exact h1q HB.out d7.out⟩
-- NOT PRINTED: function 45 (qZe)
-- NOT PRINTED: function 18 (qYk)
def qZe.es : Array MapEntry := #[{ key := .int .i64 1, val := .func (.func 69) #[] #[], born := 0 }, { key := .int .i64 2, val := .func (.func 70) #[] #[], born := 1 }, { key := .int .i64 3, val := .func (.func 71) #[] #[], born := 2 }]
theorem qZe.put {w : World} {r clock B : Nat} {es : Array MapEntry} {a : Int} {val : Value} (hb : w.heap[r]? = some (.map es clock)) (hf : Instr.findNow (.int .i64) (.int .i64 a) es.toList 0 = some none) (hB : B <= r) :
  ∃ w', Sem.run Tryz.prog (Instr.mapUpdate 80 (.map (some r)) (.int .i64 a) val) w = .ok () w' /\ w'.heap[r]? = some (.map (es.push { key := .int .i64 a, val := val, born := clock }) (clock + 1)) /\ Below B w w' := by
 have hu := Tryz.underlying80
 have hk := Tryz.underlying3
 have hc : (Instr.checkKey false 10000 3 (.int .i64 a)).run Tryz.prog w = .ok () w := MapKept.run_checkKey hk (by simp [MapKept.IsKey]) false 9999
 refine ⟨ChangeMaps.setBlock w r (.map (es.push { key := .int .i64 a, val := val, born := clock }) (clock + 1)), ?_, ChangeMaps.heap_setBlock_same hb _, ⟨rfl, rfl, rfl, by simp [ChangeMaps.setBlock], fun i hi => ChangeMaps.heap_setBlock_other hb _ (by omega)⟩⟩
 simp [Instr.mapUpdate, run_underlying hu, MapKept.run_getObj_map hb, hc, MapKept.run_findKey hk hf, MapKept.run_setObj_map _ hb, Result.andThen, ChangeMaps.setBlock]
set_option maxHeartbeats 8000000 in
set_option maxRecDepth 100000 in
theorem qZe.calls (w : World) :
  Calls Tryz.prog 45 #[] w fun e w' => ∃ g, e = .returned (.map (some g)) /\ w'.heap[g]? = some (.map qZe.es 3) /\ w.heap.size <= g /\ Below w.heap.size w w' := by
 have hm : ∀ w1, Sem.run Tryz.prog (Instr.makeMap 80 none) w1 = .ok (.map (some w1.heap.size)) (w1.alloc (.map #[] 0)) := fun w1 => run_makeMap _ w1
 have e0 : (w.alloc (.map #[] 0)).heap[w.heap.size]? = some (.map #[] 0) := (MapKept.heap_alloc w _).1
 have b0 : Below w.heap.size w (w.alloc (.map #[] 0)) := qZo (Below.refl _ _) _
 obtain ⟨w1, h1, e1, b1⟩ := qZe.put (B := w.heap.size) (a := 1) (val := .func (.func 69) #[] #[]) e0 rfl (Nat.le_refl _)
 obtain ⟨w2, h2, e2, b2⟩ := qZe.put (B := w.heap.size) (a := 2) (val := .func (.func 70) #[] #[]) e1 rfl (Nat.le_refl _)
 obtain ⟨w3, h3, e3, b3⟩ := qZe.put (B := w.heap.size) (a := 3) (val := .func (.func 71) #[] #[]) e2 rfl (Nat.le_refl _)
 have HE : Aside0 (w3.heap[w.heap.size]? = some (.map qZe.es 3)) := ⟨e3⟩
 have HB : Aside0 (Below w.heap.size w w3) := ⟨((b0.trans b1).trans b2).trans b3⟩
 clear e0 e1 e2 e3 b0 b1 b2 b3
 go_enter Tryz.func45, Tryz.ntmps45
 go_wp2
 go_ret
 exact ⟨w.heap.size, rfl, HE.out, Nat.le_refl _, HB.out⟩
-- OF
theorem qZe.look1 {w : World} {g : Nat} (hb : w.heap[g]? = some (.map qZe.es 3)) : Sem.run Tryz.prog (Instr.lookup 80 (.map (some g)) (.int .i64 1) false) w = .ok (.func (.func 69) #[] #[]) w := by
 have hu := Tryz.underlying80
 have hk := Tryz.underlying3
 have hc : (Instr.checkKey false 10000 3 (.int .i64 1)).run Tryz.prog w = .ok () w := MapKept.run_checkKey hk (by simp [MapKept.IsKey]) false 9999
 have hf : Instr.findNow (.int .i64) (.int .i64 1) qZe.es.toList 0 = some (some (0, .func (.func 69) #[] #[])) := rfl
 have he : qZe.es.isEmpty = false := rfl
 simp [Instr.lookup, run_underlying hu, MapKept.run_getObj_map hb, he, hc, MapKept.run_findKey hk hf, Result.andThen]
theorem qZe.look2 {w : World} {g : Nat} (hb : w.heap[g]? = some (.map qZe.es 3)) : Sem.run Tryz.prog (Instr.lookup 80 (.map (some g)) (.int .i64 2) false) w = .ok (.func (.func 70) #[] #[]) w := by
 have hu := Tryz.underlying80
 have hk := Tryz.underlying3
 have hc : (Instr.checkKey false 10000 3 (.int .i64 2)).run Tryz.prog w = .ok () w := MapKept.run_checkKey hk (by simp [MapKept.IsKey]) false 9999
 have hf : Instr.findNow (.int .i64) (.int .i64 2) qZe.es.toList 0 = some (some (1, .func (.func 70) #[] #[])) := rfl
 have he : qZe.es.isEmpty = false := rfl
 simp [Instr.lookup, run_underlying hu, MapKept.run_getObj_map hb, he, hc, MapKept.run_findKey hk hf, Result.andThen]
theorem qZe.look3 {w : World} {g : Nat} (hb : w.heap[g]? = some (.map qZe.es 3)) : Sem.run Tryz.prog (Instr.lookup 80 (.map (some g)) (.int .i64 3) false) w = .ok (.func (.func 71) #[] #[]) w := by
 have hu := Tryz.underlying80
 have hk := Tryz.underlying3
 have hc : (Instr.checkKey false 10000 3 (.int .i64 3)).run Tryz.prog w = .ok () w := MapKept.run_checkKey hk (by simp [MapKept.IsKey]) false 9999
 have hf : Instr.findNow (.int .i64) (.int .i64 3) qZe.es.toList 0 = some (some (2, .func (.func 71) #[] #[])) := rfl
 have he : qZe.es.isEmpty = false := rfl
 simp [Instr.lookup, run_underlying hu, MapKept.run_getObj_map hb, he, hc, MapKept.run_findKey hk hf, Result.andThen]
theorem qZe.find0 (a : Int) (h : ¬ (1 <= a /\ a <= 3)) : Instr.findNow (.int .i64) (.int .i64 a) qZe.es.toList 0 = some none := by
 have h1 : (a == 1) = false := beq_eq_false_iff_ne.mpr (by omega)
 have h2 : (a == 2) = false := beq_eq_false_iff_ne.mpr (by omega)
 have h3 : (a == 3) = false := beq_eq_false_iff_ne.mpr (by omega)
 simp [qZe.es, Instr.findNow, Instr.sameNow, h1, h2, h3]
theorem qZe.look0 {w : World} {g : Nat} (a : Int) (h : ¬ (1 <= a /\ a <= 3)) (hb : w.heap[g]? = some (.map qZe.es 3)) : Sem.run Tryz.prog (Instr.lookup 80 (.map (some g)) (.int .i64 a) false) w = .ok .nilFunc w := by
 have hu := Tryz.underlying80
 have hk := Tryz.underlying3
 have hc : (Instr.checkKey false 10000 3 (.int .i64 a)).run Tryz.prog w = .ok () w := MapKept.run_checkKey hk (by simp [MapKept.IsKey]) false 9999
 have hf := qZe.find0 a h
 have he : qZe.es.isEmpty = false := rfl
 have hz : (zeroValue 79).run Tryz.prog w = .ok .nilFunc w := by kernel_rfl
 simp [Instr.lookup, run_underlying hu, MapKept.run_getObj_map hb, he, hc, MapKept.run_findKey hk hf, hz, Result.andThen]
theorem qZe.zZw {w : World} {g : Nat} (a : Int) (h : 1 <= a /\ a <= 3) (hb : w.heap[g]? = some (.map qZe.es 3)) : ∃ fid, Sem.run Tryz.prog (Instr.lookup 80 (.map (some g)) (.int .i64 a) false) w = .ok (.func (.func fid) #[] #[]) w := by
 rcases (by omega : a = 1 \/ a = 2 \/ a = 3) with rfl | rfl | rfl
 ·exact ⟨_, qZe.look1 hb⟩
 ·exact ⟨_, qZe.look2 hb⟩
 ·exact ⟨_, qZe.look3 hb⟩
theorem qZe.zV7 {w : World} {g : Nat} (a : Int) (hb : w.heap[g]? = some (.map qZe.es 3)) : ∃ v, Sem.run Tryz.prog (Instr.lookup 80 (.map (some g)) (.int .i64 a) false) w = .ok v w := by
 by_cases h : 1 <= a /\ a <= 3
 ·obtain ⟨fid, e⟩ := qZe.zZw a h hb; exact ⟨_, e⟩
 ·exact ⟨_, qZe.look0 a h hb⟩
def qYk.val (k : Nat) (aI aQ aE aH aJ aK : Int) (aT : Bool) (aM aN aG aA aC aD a1 a2 : Int) : Option (Int × Int) := if a1 = 1 then qXn.f aI aQ aE aH aJ aK aT aM aN aG aA aC aD a2 else if a1 = 2 then qXo.f aI aQ aE aH aJ aK aT aM aN aG aA aC aD a2 else qYd.f k aI aQ aE aH aJ aK aT aM aN aG aA aC aD a2
def qYk.f (k : Nat) (aI aQ aE aH aJ aK : Int) (aT : Bool) (aM aN aG aA aC aD a1 a2 : Int) : Option (Int × Int) := (qQt.f k aI aQ aE aH aJ aK aT aM aN aG aA aC aD).bind fun g => if g = true then (if 1 <= a1 /\ a1 <= 3 then ((qZz.f a2).bind fun d => if d = true then ((qYm.f aI aQ aE aH aJ aK aT aM aN aG aA aC aD).bind fun p => if p = true then ((qYk.val k aI aQ aE aH aJ aK aT aM aN aG aA aC aD a1 a2).bind fun v => if v.2 = 0 then qYs.f k aI aQ aE aH aJ aK aT aM aN aG aA aC aD v.1 else some (0, v.2)) else some (0, 0)) else some (0, 1)) else some (0, 1)) else some (0, 1)
set_option maxHeartbeats 8000000 in
set_option maxRecDepth 100000 in
theorem qYk.bad (k : Nat) (aI aQ aE aH aJ aK : Int) (aT : Bool) (aM aN aG aA aC aD a1 a2 : Int) (w : World) (hg : qQt.f k aI aQ aE aH aJ aK aT aM aN aG aA aC aD = some false) :
  Calls Tryz.prog 18 #[.agg #[.int .i64 aI, .int .i64 aQ, .int .i64 aE, .int .i64 aH, .int .i64 aJ, .int .i64 aK, .bool aT, .int .i64 aM, .int .i64 aN, .int .i64 aG, .int .i64 aA, .int .i64 aC, .int .i64 aD], .int .i64 a1, .int .i64 a2] w fun e w' => e = .returned (.tuple #[.int .i64 0, .int .i64 1]) /\ Below w.heap.size w w' := by
 have hu := Tryz.underlying48
 have hnil : ∀ w1, Sem.run Tryz.prog (binOp .eql 79 .nilFunc .nilFunc) w1 = .ok (.bool true) w1 := fun _ => by kernel_rfl
 have hfun : ∀ (f : Fn) w1, Sem.run Tryz.prog (binOp .eql 79 (.func f #[] #[]) .nilFunc) w1 = .ok (.bool false) w1 := fun _ _ => by kernel_rfl
 have HB := am (Below.refl w.heap.size w)
 have A1 := am hg
 clear hg
 go_enter Tryz.func18, Tryz.ntmps18
 go_wp2_with (first | ((with_reducible refine gd 3 ?_); refine bE 3 _ 48 ?_; intro gb hg w6 hbox hb; have bP := am (qQo HB.out hb); have BK := am (hbox); clear HB; have HB := bP; clear bP hb hbox hg; have hz := lc13 BK.out) | (go_at_call 45; refine (qZe.calls _).mono ?_; rintro e w1 ⟨g, rfl, hmap, hgg, hb⟩; obtain ⟨fv, hl⟩ := qZe.zV7 a1 hmap; clear hmap hgg; replace BK := am (qQv (g := gb) BK.out hb); replace HB := am (qQo HB.out hb); clear hb hz; have hz := lc13 BK.out) | (go_at_call 26; (with_reducible refine (qQt.calls _ _ _ _ _ _ _ _ _ _ _ _ _ _ false _ A1.out).mono ?_); rintro e w1 ⟨rfl, hb⟩; replace BK := am (qQv (g := gb) BK.out hb); replace HB := am (qQo HB.out hb); clear hb hz; have hz := lc13 BK.out))
 go_ret2
 exact ⟨by first | rfl | (simp [*]; done), HB.out⟩
set_option maxHeartbeats 8000000 in
set_option maxRecDepth 100000 in
theorem qYk.none (k : Nat) (aI aQ aE aH aJ aK : Int) (aT : Bool) (aM aN aG aA aC aD a1 a2 : Int) (w : World) (hg : qQt.f k aI aQ aE aH aJ aK aT aM aN aG aA aC aD = some true) (hh : ¬ (1 <= a1 /\ a1 <= 3)) :
  Calls Tryz.prog 18 #[.agg #[.int .i64 aI, .int .i64 aQ, .int .i64 aE, .int .i64 aH, .int .i64 aJ, .int .i64 aK, .bool aT, .int .i64 aM, .int .i64 aN, .int .i64 aG, .int .i64 aA, .int .i64 aC, .int .i64 aD], .int .i64 a1, .int .i64 a2] w fun e w' => e = .returned (.tuple #[.int .i64 0, .int .i64 1]) /\ Below w.heap.size w w' := by
 have hu := Tryz.underlying48
 have hnil : ∀ w1, Sem.run Tryz.prog (binOp .eql 79 .nilFunc .nilFunc) w1 = .ok (.bool true) w1 := fun _ => by kernel_rfl
 have hfun : ∀ (f : Fn) w1, Sem.run Tryz.prog (binOp .eql 79 (.func f #[] #[]) .nilFunc) w1 = .ok (.bool false) w1 := fun _ _ => by kernel_rfl
 have HB := am (Below.refl w.heap.size w)
 have A1 := am hg
 have HH := am hh
 clear hg hh
 go_enter Tryz.func18, Tryz.ntmps18
 go_wp2_with (first | ((with_reducible refine gd 3 ?_); refine bE 3 _ 48 ?_; intro gb hg w6 hbox hb; have bP := am (qQo HB.out hb); have BK := am (hbox); clear HB; have HB := bP; clear bP hb hbox hg; have hz := lc13 BK.out) | (go_at_call 45; refine (qZe.calls _).mono ?_; rintro e w1 ⟨g, rfl, hmap, hgg, hb⟩; have hl := qZe.look0 a1 HH.out hmap; clear hmap hgg; replace BK := am (qQv (g := gb) BK.out hb); replace HB := am (qQo HB.out hb); clear hb hz; have hz := lc13 BK.out) | (go_at_call 26; (with_reducible refine (qQt.calls _ _ _ _ _ _ _ _ _ _ _ _ _ _ true _ A1.out).mono ?_); rintro e w1 ⟨rfl, hb⟩; replace BK := am (qQv (g := gb) BK.out hb); replace HB := am (qQo HB.out hb); clear hb hz; have hz := lc13 BK.out))
 go_ret2
 exact ⟨by first | rfl | (simp [*]; done), HB.out⟩
set_option maxHeartbeats 8000000 in
set_option maxRecDepth 100000 in
theorem qYk.late (k : Nat) (aI aQ aE aH aJ aK : Int) (aT : Bool) (aM aN aG aA aC aD a1 a2 : Int) (w : World) (hg : qQt.f k aI aQ aE aH aJ aK aT aM aN aG aA aC aD = some true) (hh : 1 <= a1 /\ a1 <= 3) (hd : qZz.f a2 = some false) :
  Calls Tryz.prog 18 #[.agg #[.int .i64 aI, .int .i64 aQ, .int .i64 aE, .int .i64 aH, .int .i64 aJ, .int .i64 aK, .bool aT, .int .i64 aM, .int .i64 aN, .int .i64 aG, .int .i64 aA, .int .i64 aC, .int .i64 aD], .int .i64 a1, .int .i64 a2] w fun e w' => e = .returned (.tuple #[.int .i64 0, .int .i64 1]) /\ Below w.heap.size w w' := by
 have hu := Tryz.underlying48
 have hnil : ∀ w1, Sem.run Tryz.prog (binOp .eql 79 .nilFunc .nilFunc) w1 = .ok (.bool true) w1 := fun _ => by kernel_rfl
 have hfun : ∀ (f : Fn) w1, Sem.run Tryz.prog (binOp .eql 79 (.func f #[] #[]) .nilFunc) w1 = .ok (.bool false) w1 := fun _ _ => by kernel_rfl
 have HB := am (Below.refl w.heap.size w)
 have A1 := am hg
 have HH := am hh
 have A2 := am hd
 clear hg hh hd
 go_enter Tryz.func18, Tryz.ntmps18
 go_wp2_with (first | ((with_reducible refine gd 3 ?_); refine bE 3 _ 48 ?_; intro gb hg w6 hbox hb; have bP := am (qQo HB.out hb); have BK := am (hbox); clear HB; have HB := bP; clear bP hb hbox hg; have hz := lc13 BK.out) | (go_at_call 45; refine (qZe.calls _).mono ?_; rintro e w1 ⟨g, rfl, hmap, hgg, hb⟩; obtain ⟨fid, hl⟩ := qZe.zZw a1 HH.out hmap; clear hmap hgg; replace BK := am (qQv (g := gb) BK.out hb); replace HB := am (qQo HB.out hb); clear hb hz; have hz := lc13 BK.out) | (go_at_call 26; (with_reducible refine (qQt.calls _ _ _ _ _ _ _ _ _ _ _ _ _ _ true _ A1.out).mono ?_); rintro e w1 ⟨rfl, hb⟩; replace BK := am (qQv (g := gb) BK.out hb); replace HB := am (qQo HB.out hb); clear hb hz; have hz := lc13 BK.out) | (go_at_call 23; (with_reducible refine (qZz.calls _ false _ A2.out).mono ?_); rintro e w1 ⟨rfl, hd_⟩; have hb := hd_.below; clear hd_; replace BK := am (qQv (g := gb) BK.out hb); replace HB := am (qQo HB.out hb); clear hb hz; have hz := lc13 BK.out))
 go_ret2
 exact ⟨by first | rfl | (simp [*]; done), HB.out⟩
set_option maxHeartbeats 8000000 in
set_option maxRecDepth 100000 in
theorem qYk.out (k : Nat) (aI aQ aE aH aJ aK : Int) (aT : Bool) (aM aN aG aA aC aD a1 a2 : Int) (w : World) (hg : qQt.f k aI aQ aE aH aJ aK aT aM aN aG aA aC aD = some true) (hh : 1 <= a1 /\ a1 <= 3) (hd : qZz.f a2 = some true) (hp : qYm.f aI aQ aE aH aJ aK aT aM aN aG aA aC aD = some false) :
  Calls Tryz.prog 18 #[.agg #[.int .i64 aI, .int .i64 aQ, .int .i64 aE, .int .i64 aH, .int .i64 aJ, .int .i64 aK, .bool aT, .int .i64 aM, .int .i64 aN, .int .i64 aG, .int .i64 aA, .int .i64 aC, .int .i64 aD], .int .i64 a1, .int .i64 a2] w fun e w' => e = .returned (.tuple #[.int .i64 0, .int .i64 0]) /\ Below w.heap.size w w' := by
 have hu := Tryz.underlying48
 have hnil : ∀ w1, Sem.run Tryz.prog (binOp .eql 79 .nilFunc .nilFunc) w1 = .ok (.bool true) w1 := fun _ => by kernel_rfl
 have hfun : ∀ (f : Fn) w1, Sem.run Tryz.prog (binOp .eql 79 (.func f #[] #[]) .nilFunc) w1 = .ok (.bool false) w1 := fun _ _ => by kernel_rfl
 have HB := am (Below.refl w.heap.size w)
 have A1 := am hg
 have HH := am hh
 have A2 := am hd
 have A3 := am hp
 clear hg hh hd hp
 go_enter Tryz.func18, Tryz.ntmps18
 go_wp2_with (first | ((with_reducible refine gd 3 ?_); refine bE 3 _ 48 ?_; intro gb hg w6 hbox hb; have bP := am (qQo HB.out hb); have BK := am (hbox); clear HB; have HB := bP; clear bP hb hbox hg; have hz := lc13 BK.out) | (go_at_call 45; refine (qZe.calls _).mono ?_; rintro e w1 ⟨g, rfl, hmap, hgg, hb⟩; obtain ⟨fid, hl⟩ := qZe.zZw a1 HH.out hmap; clear hmap hgg; replace BK := am (qQv (g := gb) BK.out hb); replace HB := am (qQo HB.out hb); clear hb hz; have hz := lc13 BK.out) | (go_at_call 26; (with_reducible refine (qQt.calls _ _ _ _ _ _ _ _ _ _ _ _ _ _ true _ A1.out).mono ?_); rintro e w1 ⟨rfl, hb⟩; replace BK := am (qQv (g := gb) BK.out hb); replace HB := am (qQo HB.out hb); clear hb hz; have hz := lc13 BK.out) | (go_at_call 23; (with_reducible refine (qZz.calls _ true _ A2.out).mono ?_); rintro e w1 ⟨rfl, hd_⟩; have hb := hd_.below; clear hd_; replace BK := am (qQv (g := gb) BK.out hb); replace HB := am (qQo HB.out hb); clear hb hz; have hz := lc13 BK.out) | (go_at_call 27; (with_reducible refine (qYm.calls _ _ _ _ _ _ _ _ _ _ _ _ _ false _ A3.out).mono ?_); rintro e w1 ⟨rfl, hb⟩; replace BK := am (qQv (g := gb) BK.out hb); replace HB := am (qQo HB.out hb); clear hb hz; have hz := lc13 BK.out))
 go_ret2
 exact ⟨by first | rfl | (simp [*]; done), HB.out⟩
set_option maxHeartbeats 8000000 in
set_option maxRecDepth 100000 in
theorem qYk.err1 (k : Nat) (aI aQ aE aH aJ aK : Int) (aT : Bool) (aM aN aG aA aC aD a2 : Int) (w : World) (hg : qQt.f k aI aQ aE aH aJ aK aT aM aN aG aA aC aD = some true) (hd : qZz.f a2 = some true) (hp : qYm.f aI aQ aE aH aJ aK aT aM aN aG aA aC aD = some true) (v1 v2 : Int) (hv : qXn.f aI aQ aE aH aJ aK aT aM aN aG aA aC aD a2 = some (v1, v2)) (he : v2 ≠ 0) :
  Calls Tryz.prog 18 #[.agg #[.int .i64 aI, .int .i64 aQ, .int .i64 aE, .int .i64 aH, .int .i64 aJ, .int .i64 aK, .bool aT, .int .i64 aM, .int .i64 aN, .int .i64 aG, .int .i64 aA, .int .i64 aC, .int .i64 aD], .int .i64 1, .int .i64 a2] w fun e w' => e = .returned (.tuple #[.int .i64 0, .int .i64 v2]) /\ Below w.heap.size w w' := by
 have hu := Tryz.underlying48
 have hnil : ∀ w1, Sem.run Tryz.prog (binOp .eql 79 .nilFunc .nilFunc) w1 = .ok (.bool true) w1 := fun _ => by kernel_rfl
 have hfun : ∀ (f : Fn) w1, Sem.run Tryz.prog (binOp .eql 79 (.func f #[] #[]) .nilFunc) w1 = .ok (.bool false) w1 := fun _ _ => by kernel_rfl
 have HB := am (Below.refl w.heap.size w)
 have A1 := am hg
 have A2 := am hd
 have A3 := am hp
 have A4 := am hv
 clear hg hd hp hv
 have e1 : (v2 == 0) = false := beq_eq_false_iff_ne.mpr he
 have e2 : (v2 != 0) = true := bne_iff_ne.mpr he
 clear he
 go_enter Tryz.func18, Tryz.ntmps18
 go_wp2_with (first | ((with_reducible refine gd 3 ?_); refine bE 3 _ 48 ?_; intro gb hg w6 hbox hb; have bP := am (qQo HB.out hb); have BK := am (hbox); clear HB; have HB := bP; clear bP hb hbox hg; have hz := lc13 BK.out) | (go_at_call 45; refine (qZe.calls _).mono ?_; rintro e w1 ⟨g, rfl, hmap, hgg, hb⟩; have hl := qZe.look1 hmap; clear hmap hgg; replace BK := am (qQv (g := gb) BK.out hb); replace HB := am (qQo HB.out hb); clear hb hz; have hz := lc13 BK.out) | (go_at_call 26; (with_reducible refine (qQt.calls _ _ _ _ _ _ _ _ _ _ _ _ _ _ true _ A1.out).mono ?_); rintro e w1 ⟨rfl, hb⟩; replace BK := am (qQv (g := gb) BK.out hb); replace HB := am (qQo HB.out hb); clear hb hz; have hz := lc13 BK.out) | (go_at_call 23; (with_reducible refine (qZz.calls _ true _ A2.out).mono ?_); rintro e w1 ⟨rfl, hd_⟩; have hb := hd_.below; clear hd_; replace BK := am (qQv (g := gb) BK.out hb); replace HB := am (qQo HB.out hb); clear hb hz; have hz := lc13 BK.out) | (go_at_call 27; (with_reducible refine (qYm.calls _ _ _ _ _ _ _ _ _ _ _ _ _ true _ A3.out).mono ?_); rintro e w1 ⟨rfl, hb⟩; replace BK := am (qQv (g := gb) BK.out hb); replace HB := am (qQo HB.out hb); clear hb hz; have hz := lc13 BK.out) | (go_at_call 69; (with_reducible refine (qXn.calls _ _ _ _ _ _ _ _ _ _ _ _ _ _ v1 v2 _ A4.out).mono ?_); rintro e w1 ⟨rfl, hb⟩; replace BK := am (qQv (g := gb) BK.out hb); replace HB := am (qQo HB.out hb); clear hb hz; have hz := lc13 BK.out))
 go_ret2
 exact ⟨by first | rfl | (simp [*]; done), HB.out⟩
set_option maxHeartbeats 8000000 in
set_option maxRecDepth 100000 in
theorem qYk.ok1 (k : Nat) (aI aQ aE aH aJ aK : Int) (aT : Bool) (aM aN aG aA aC aD a2 : Int) (w : World) (hg : qQt.f k aI aQ aE aH aJ aK aT aM aN aG aA aC aD = some true) (hd : qZz.f a2 = some true) (hp : qYm.f aI aQ aE aH aJ aK aT aM aN aG aA aC aD = some true) (v1 v2 : Int) (hv : qXn.f aI aQ aE aH aJ aK aT aM aN aG aA aC aD a2 = some (v1, v2)) (he : v2 = 0) (r1 r2 : Int) (hc : qYs.f k aI aQ aE aH aJ aK aT aM aN aG aA aC aD v1 = some (r1, r2)) :
  Calls Tryz.prog 18 #[.agg #[.int .i64 aI, .int .i64 aQ, .int .i64 aE, .int .i64 aH, .int .i64 aJ, .int .i64 aK, .bool aT, .int .i64 aM, .int .i64 aN, .int .i64 aG, .int .i64 aA, .int .i64 aC, .int .i64 aD], .int .i64 1, .int .i64 a2] w fun e w' => e = .returned (.tuple #[.int .i64 r1, .int .i64 r2]) /\ Below w.heap.size w w' := by
 have hu := Tryz.underlying48
 have hnil : ∀ w1, Sem.run Tryz.prog (binOp .eql 79 .nilFunc .nilFunc) w1 = .ok (.bool true) w1 := fun _ => by kernel_rfl
 have hfun : ∀ (f : Fn) w1, Sem.run Tryz.prog (binOp .eql 79 (.func f #[] #[]) .nilFunc) w1 = .ok (.bool false) w1 := fun _ _ => by kernel_rfl
 have HB := am (Below.refl w.heap.size w)
 have A1 := am hg
 have A2 := am hd
 have A3 := am hp
 have A4 := am hv
 clear hg hd hp hv
 subst he
 have A5 := am hc
 clear hc
 go_enter Tryz.func18, Tryz.ntmps18
 go_wp2_with (first | ((with_reducible refine gd 3 ?_); refine bE 3 _ 48 ?_; intro gb hg w6 hbox hb; have bP := am (qQo HB.out hb); have BK := am (hbox); clear HB; have HB := bP; clear bP hb hbox hg; have hz := lc13 BK.out) | (go_at_call 45; refine (qZe.calls _).mono ?_; rintro e w1 ⟨g, rfl, hmap, hgg, hb⟩; have hl := qZe.look1 hmap; clear hmap hgg; replace BK := am (qQv (g := gb) BK.out hb); replace HB := am (qQo HB.out hb); clear hb hz; have hz := lc13 BK.out) | (go_at_call 26; (with_reducible refine (qQt.calls _ _ _ _ _ _ _ _ _ _ _ _ _ _ true _ A1.out).mono ?_); rintro e w1 ⟨rfl, hb⟩; replace BK := am (qQv (g := gb) BK.out hb); replace HB := am (qQo HB.out hb); clear hb hz; have hz := lc13 BK.out) | (go_at_call 23; (with_reducible refine (qZz.calls _ true _ A2.out).mono ?_); rintro e w1 ⟨rfl, hd_⟩; have hb := hd_.below; clear hd_; replace BK := am (qQv (g := gb) BK.out hb); replace HB := am (qQo HB.out hb); clear hb hz; have hz := lc13 BK.out) | (go_at_call 27; (with_reducible refine (qYm.calls _ _ _ _ _ _ _ _ _ _ _ _ _ true _ A3.out).mono ?_); rintro e w1 ⟨rfl, hb⟩; replace BK := am (qQv (g := gb) BK.out hb); replace HB := am (qQo HB.out hb); clear hb hz; have hz := lc13 BK.out) | (go_at_call 69; (with_reducible refine (qXn.calls _ _ _ _ _ _ _ _ _ _ _ _ _ _ v1 0 _ A4.out).mono ?_); rintro e w1 ⟨rfl, hb⟩; replace BK := am (qQv (g := gb) BK.out hb); replace HB := am (qQo HB.out hb); clear hb hz; have hz := lc13 BK.out) | (go_at_call 30; (with_reducible refine (qYs.calls _ _ _ _ _ _ _ _ _ _ _ _ _ _ _ r1 r2 _ A5.out).mono ?_); rintro e w1 ⟨rfl, hb⟩; replace BK := am (qQv (g := gb) BK.out hb); replace HB := am (qQo HB.out hb); clear hb hz; have hz := lc13 BK.out))
 go_ret2
 exact ⟨by first | rfl | (simp [*]; done), HB.out⟩
set_option maxHeartbeats 8000000 in
set_option maxRecDepth 100000 in
theorem qYk.err2 (k : Nat) (aI aQ aE aH aJ aK : Int) (aT : Bool) (aM aN aG aA aC aD a2 : Int) (w : World) (hg : qQt.f k aI aQ aE aH aJ aK aT aM aN aG aA aC aD = some true) (hd : qZz.f a2 = some true) (hp : qYm.f aI aQ aE aH aJ aK aT aM aN aG aA aC aD = some true) (v1 v2 : Int) (hv : qXo.f aI aQ aE aH aJ aK aT aM aN aG aA aC aD a2 = some (v1, v2)) (he : v2 ≠ 0) :
  Calls Tryz.prog 18 #[.agg #[.int .i64 aI, .int .i64 aQ, .int .i64 aE, .int .i64 aH, .int .i64 aJ, .int .i64 aK, .bool aT, .int .i64 aM, .int .i64 aN, .int .i64 aG, .int .i64 aA, .int .i64 aC, .int .i64 aD], .int .i64 2, .int .i64 a2] w fun e w' => e = .returned (.tuple #[.int .i64 0, .int .i64 v2]) /\ Below w.heap.size w w' := by
 have hu := Tryz.underlying48
 have hnil : ∀ w1, Sem.run Tryz.prog (binOp .eql 79 .nilFunc .nilFunc) w1 = .ok (.bool true) w1 := fun _ => by kernel_rfl
 have hfun : ∀ (f : Fn) w1, Sem.run Tryz.prog (binOp .eql 79 (.func f #[] #[]) .nilFunc) w1 = .ok (.bool false) w1 := fun _ _ => by kernel_rfl
 have HB := am (Below.refl w.heap.size w)
 have A1 := am hg
 have A2 := am hd
 have A3 := am hp
 have A4 := am hv
 clear hg hd hp hv
 have e1 : (v2 == 0) = false := beq_eq_false_iff_ne.mpr he
 have e2 : (v2 != 0) = true := bne_iff_ne.mpr he
 clear he
 go_enter Tryz.func18, Tryz.ntmps18
 go_wp2_with (first | ((with_reducible refine gd 3 ?_); refine bE 3 _ 48 ?_; intro gb hg w6 hbox hb; have bP := am (qQo HB.out hb); have BK := am (hbox); clear HB; have HB := bP; clear bP hb hbox hg; have hz := lc13 BK.out) | (go_at_call 45; refine (qZe.calls _).mono ?_; rintro e w1 ⟨g, rfl, hmap, hgg, hb⟩; have hl := qZe.look2 hmap; clear hmap hgg; replace BK := am (qQv (g := gb) BK.out hb); replace HB := am (qQo HB.out hb); clear hb hz; have hz := lc13 BK.out) | (go_at_call 26; (with_reducible refine (qQt.calls _ _ _ _ _ _ _ _ _ _ _ _ _ _ true _ A1.out).mono ?_); rintro e w1 ⟨rfl, hb⟩; replace BK := am (qQv (g := gb) BK.out hb); replace HB := am (qQo HB.out hb); clear hb hz; have hz := lc13 BK.out) | (go_at_call 23; (with_reducible refine (qZz.calls _ true _ A2.out).mono ?_); rintro e w1 ⟨rfl, hd_⟩; have hb := hd_.below; clear hd_; replace BK := am (qQv (g := gb) BK.out hb); replace HB := am (qQo HB.out hb); clear hb hz; have hz := lc13 BK.out) | (go_at_call 27; (with_reducible refine (qYm.calls _ _ _ _ _ _ _ _ _ _ _ _ _ true _ A3.out).mono ?_); rintro e w1 ⟨rfl, hb⟩; replace BK := am (qQv (g := gb) BK.out hb); replace HB := am (qQo HB.out hb); clear hb hz; have hz := lc13 BK.out) | (go_at_call 70; (with_reducible refine (qXo.calls _ _ _ _ _ _ _ _ _ _ _ _ _ _ v1 v2 _ A4.out).mono ?_); rintro e w1 ⟨rfl, hb⟩; replace BK := am (qQv (g := gb) BK.out hb); replace HB := am (qQo HB.out hb); clear hb hz; have hz := lc13 BK.out))
 go_ret2
 exact ⟨by first | rfl | (simp [*]; done), HB.out⟩
set_option maxHeartbeats 8000000 in
set_option maxRecDepth 100000 in
theorem qYk.ok2 (k : Nat) (aI aQ aE aH aJ aK : Int) (aT : Bool) (aM aN aG aA aC aD a2 : Int) (w : World) (hg : qQt.f k aI aQ aE aH aJ aK aT aM aN aG aA aC aD = some true) (hd : qZz.f a2 = some true) (hp : qYm.f aI aQ aE aH aJ aK aT aM aN aG aA aC aD = some true) (v1 v2 : Int) (hv : qXo.f aI aQ aE aH aJ aK aT aM aN aG aA aC aD a2 = some (v1, v2)) (he : v2 = 0) (r1 r2 : Int) (hc : qYs.f k aI aQ aE aH aJ aK aT aM aN aG aA aC aD v1 = some (r1, r2)) :
  Calls Tryz.prog 18 #[.agg #[.int .i64 aI, .int .i64 aQ, .int .i64 aE, .int .i64 aH, .int .i64 aJ, .int .i64 aK, .bool aT, .int .i64 aM, .int .i64 aN, .int .i64 aG, .int .i64 aA, .int .i64 aC, .int .i64 aD], .int .i64 2, .int .i64 a2] w fun e w' => e = .returned (.tuple #[.int .i64 r1, .int .i64 r2]) /\ Below w.heap.size w w' := by
 have hu := Tryz.underlying48
 have hnil : ∀ w1, Sem.run Tryz.prog (binOp .eql 79 .nilFunc .nilFunc) w1 = .ok (.bool true) w1 := fun _ => by kernel_rfl
 have hfun : ∀ (f : Fn) w1, Sem.run Tryz.prog (binOp .eql 79 (.func f #[] #[]) .nilFunc) w1 = .ok (.bool false) w1 := fun _ _ => by kernel_rfl
 have HB := am (Below.refl w.heap.size w)
 have A1 := am hg
 have A2 := am hd
 have A3 := am hp
 have A4 := am hv
 clear hg hd hp hv
 subst he
 have A5 := am hc
 clear hc
 go_enter Tryz.func18, Tryz.ntmps18
 go_wp2_with (first | ((with_reducible refine gd 3 ?_); refine bE 3 _ 48 ?_; intro gb hg w6 hbox hb; have bP := am (qQo HB.out hb); have BK := am (hbox); clear HB; have HB := bP; clear bP hb hbox hg; have hz := lc13 BK.out) | (go_at_call 45; refine (qZe.calls _).mono ?_; rintro e w1 ⟨g, rfl, hmap, hgg, hb⟩; have hl := qZe.look2 hmap; clear hmap hgg; replace BK := am (qQv (g := gb) BK.out hb); replace HB := am (qQo HB.out hb); clear hb hz; have hz := lc13 BK.out) | (go_at_call 26; (with_reducible refine (qQt.calls _ _ _ _ _ _ _ _ _ _ _ _ _ _ true _ A1.out).mono ?_); rintro e w1 ⟨rfl, hb⟩; replace BK := am (qQv (g := gb) BK.out hb); replace HB := am (qQo HB.out hb); clear hb hz; have hz := lc13 BK.out) | (go_at_call 23; (with_reducible refine (qZz.calls _ true _ A2.out).mono ?_); rintro e w1 ⟨rfl, hd_⟩; have hb := hd_.below; clear hd_; replace BK := am (qQv (g := gb) BK.out hb); replace HB := am (qQo HB.out hb); clear hb hz; have hz := lc13 BK.out) | (go_at_call 27; (with_reducible refine (qYm.calls _ _ _ _ _ _ _ _ _ _ _ _ _ true _ A3.out).mono ?_); rintro e w1 ⟨rfl, hb⟩; replace BK := am (qQv (g := gb) BK.out hb); replace HB := am (qQo HB.out hb); clear hb hz; have hz := lc13 BK.out) | (go_at_call 70; (with_reducible refine (qXo.calls _ _ _ _ _ _ _ _ _ _ _ _ _ _ v1 0 _ A4.out).mono ?_); rintro e w1 ⟨rfl, hb⟩; replace BK := am (qQv (g := gb) BK.out hb); replace HB := am (qQo HB.out hb); clear hb hz; have hz := lc13 BK.out) | (go_at_call 30; (with_reducible refine (qYs.calls _ _ _ _ _ _ _ _ _ _ _ _ _ _ _ r1 r2 _ A5.out).mono ?_); rintro e w1 ⟨rfl, hb⟩; replace BK := am (qQv (g := gb) BK.out hb); replace HB := am (qQo HB.out hb); clear hb hz; have hz := lc13 BK.out))
 go_ret2
 exact ⟨by first | rfl | (simp [*]; done), HB.out⟩
set_option maxHeartbeats 8000000 in
set_option maxRecDepth 100000 in
theorem qYk.err3 (k : Nat) (aI aQ aE aH aJ aK : Int) (aT : Bool) (aM aN aG aA aC aD a2 : Int) (w : World) (hg : qQt.f k aI aQ aE aH aJ aK aT aM aN aG aA aC aD = some true) (hd : qZz.f a2 = some true) (hp : qYm.f aI aQ aE aH aJ aK aT aM aN aG aA aC aD = some true) (v1 v2 : Int) (hv : qYd.f k aI aQ aE aH aJ aK aT aM aN aG aA aC aD a2 = some (v1, v2)) (he : v2 ≠ 0) :
  Calls Tryz.prog 18 #[.agg #[.int .i64 aI, .int .i64 aQ, .int .i64 aE, .int .i64 aH, .int .i64 aJ, .int .i64 aK, .bool aT, .int .i64 aM, .int .i64 aN, .int .i64 aG, .int .i64 aA, .int .i64 aC, .int .i64 aD], .int .i64 3, .int .i64 a2] w fun e w' => e = .returned (.tuple #[.int .i64 0, .int .i64 v2]) /\ Below w.heap.size w w' := by
 have hu := Tryz.underlying48
 have hnil : ∀ w1, Sem.run Tryz.prog (binOp .eql 79 .nilFunc .nilFunc) w1 = .ok (.bool true) w1 := fun _ => by kernel_rfl
 have hfun : ∀ (f : Fn) w1, Sem.run Tryz.prog (binOp .eql 79 (.func f #[] #[]) .nilFunc) w1 = .ok (.bool false) w1 := fun _ _ => by kernel_rfl
 have HB := am (Below.refl w.heap.size w)
 have A1 := am hg
 have A2 := am hd
 have A3 := am hp
 have A4 := am hv
 clear hg hd hp hv
 have e1 : (v2 == 0) = false := beq_eq_false_iff_ne.mpr he
 have e2 : (v2 != 0) = true := bne_iff_ne.mpr he
 clear he
 go_enter Tryz.func18, Tryz.ntmps18
 go_wp2_with (first | ((with_reducible refine gd 3 ?_); refine bE 3 _ 48 ?_; intro gb hg w6 hbox hb; have bP := am (qQo HB.out hb); have BK := am (hbox); clear HB; have HB := bP; clear bP hb hbox hg; have hz := lc13 BK.out) | (go_at_call 45; refine (qZe.calls _).mono ?_; rintro e w1 ⟨g, rfl, hmap, hgg, hb⟩; have hl := qZe.look3 hmap; clear hmap hgg; replace BK := am (qQv (g := gb) BK.out hb); replace HB := am (qQo HB.out hb); clear hb hz; have hz := lc13 BK.out) | (go_at_call 26; (with_reducible refine (qQt.calls _ _ _ _ _ _ _ _ _ _ _ _ _ _ true _ A1.out).mono ?_); rintro e w1 ⟨rfl, hb⟩; replace BK := am (qQv (g := gb) BK.out hb); replace HB := am (qQo HB.out hb); clear hb hz; have hz := lc13 BK.out) | (go_at_call 23; (with_reducible refine (qZz.calls _ true _ A2.out).mono ?_); rintro e w1 ⟨rfl, hd_⟩; have hb := hd_.below; clear hd_; replace BK := am (qQv (g := gb) BK.out hb); replace HB := am (qQo HB.out hb); clear hb hz; have hz := lc13 BK.out) | (go_at_call 27; (with_reducible refine (qYm.calls _ _ _ _ _ _ _ _ _ _ _ _ _ true _ A3.out).mono ?_); rintro e w1 ⟨rfl, hb⟩; replace BK := am (qQv (g := gb) BK.out hb); replace HB := am (qQo HB.out hb); clear hb hz; have hz := lc13 BK.out) | (go_at_call 71; (with_reducible refine (qYd.calls _ _ _ _ _ _ _ _ _ _ _ _ _ _ _ v1 v2 _ A4.out).mono ?_); rintro e w1 ⟨rfl, hb⟩; replace BK := am (qQv (g := gb) BK.out hb); replace HB := am (qQo HB.out hb); clear hb hz; have hz := lc13 BK.out))
 go_ret2
 exact ⟨by first | rfl | (simp [*]; done), HB.out⟩
set_option maxHeartbeats 8000000 in
set_option maxRecDepth 100000 in
theorem qYk.ok3 (k : Nat) (aI aQ aE aH aJ aK : Int) (aT : Bool) (aM aN aG aA aC aD a2 : Int) (w : World) (hg : qQt.f k aI aQ aE aH aJ aK aT aM aN aG aA aC aD = some true) (hd : qZz.f a2 = some true) (hp : qYm.f aI aQ aE aH aJ aK aT aM aN aG aA aC aD = some true) (v1 v2 : Int) (hv : qYd.f k aI aQ aE aH aJ aK aT aM aN aG aA aC aD a2 = some (v1, v2)) (he : v2 = 0) (r1 r2 : Int) (hc : qYs.f k aI aQ aE aH aJ aK aT aM aN aG aA aC aD v1 = some (r1, r2)) :
  Calls Tryz.prog 18 #[.agg #[.int .i64 aI, .int .i64 aQ, .int .i64 aE, .int .i64 aH, .int .i64 aJ, .int .i64 aK, .bool aT, .int .i64 aM, .int .i64 aN, .int .i64 aG, .int .i64 aA, .int .i64 aC, .int .i64 aD], .int .i64 3, .int .i64 a2] w fun e w' => e = .returned (.tuple #[.int .i64 r1, .int .i64 r2]) /\ Below w.heap.size w w' := by
 have hu := Tryz.underlying48
 have hnil : ∀ w1, Sem.run Tryz.prog (binOp .eql 79 .nilFunc .nilFunc) w1 = .ok (.bool true) w1 := fun _ => by kernel_rfl
 have hfun : ∀ (f : Fn) w1, Sem.run Tryz.prog (binOp .eql 79 (.func f #[] #[]) .nilFunc) w1 = .ok (.bool false) w1 := fun _ _ => by kernel_rfl
 have HB := am (Below.refl w.heap.size w)
 have A1 := am hg
 have A2 := am hd
 have A3 := am hp
 have A4 := am hv
 clear hg hd hp hv
 subst he
 have A5 := am hc
 clear hc
 go_enter Tryz.func18, Tryz.ntmps18
 go_wp2_with (first | ((with_reducible refine gd 3 ?_); refine bE 3 _ 48 ?_; intro gb hg w6 hbox hb; have bP := am (qQo HB.out hb); have BK := am (hbox); clear HB; have HB := bP; clear bP hb hbox hg; have hz := lc13 BK.out) | (go_at_call 45; refine (qZe.calls _).mono ?_; rintro e w1 ⟨g, rfl, hmap, hgg, hb⟩; have hl := qZe.look3 hmap; clear hmap hgg; replace BK := am (qQv (g := gb) BK.out hb); replace HB := am (qQo HB.out hb); clear hb hz; have hz := lc13 BK.out) | (go_at_call 26; (with_reducible refine (qQt.calls _ _ _ _ _ _ _ _ _ _ _ _ _ _ true _ A1.out).mono ?_); rintro e w1 ⟨rfl, hb⟩; replace BK := am (qQv (g := gb) BK.out hb); replace HB := am (qQo HB.out hb); clear hb hz; have hz := lc13 BK.out) | (go_at_call 23; (with_reducible refine (qZz.calls _ true _ A2.out).mono ?_); rintro e w1 ⟨rfl, hd_⟩; have hb := hd_.below; clear hd_; replace BK := am (qQv (g := gb) BK.out hb); replace HB := am (qQo HB.out hb); clear hb hz; have hz := lc13 BK.out) | (go_at_call 27; (with_reducible refine (qYm.calls _ _ _ _ _ _ _ _ _ _ _ _ _ true _ A3.out).mono ?_); rintro e w1 ⟨rfl, hb⟩; replace BK := am (qQv (g := gb) BK.out hb); replace HB := am (qQo HB.out hb); clear hb hz; have hz := lc13 BK.out) | (go_at_call 71; (with_reducible refine (qYd.calls _ _ _ _ _ _ _ _ _ _ _ _ _ _ _ v1 0 _ A4.out).mono ?_); rintro e w1 ⟨rfl, hb⟩; replace BK := am (qQv (g := gb) BK.out hb); replace HB := am (qQo HB.out hb); clear hb hz; have hz := lc13 BK.out) | (go_at_call 30; (with_reducible refine (qYs.calls _ _ _ _ _ _ _ _ _ _ _ _ _ _ _ r1 r2 _ A5.out).mono ?_); rintro e w1 ⟨rfl, hb⟩; replace BK := am (qQv (g := gb) BK.out hb); replace HB := am (qQo HB.out hb); clear hb hz; have hz := lc13 BK.out))
 go_ret2
 exact ⟨by first | rfl | (simp [*]; done), HB.out⟩
theorem qYk.calls (k : Nat) (aI aQ aE aH aJ aK : Int) (aT : Bool) (aM aN aG aA aC aD a1 a2 r1 r2 : Int) (w : World) (h : qYk.f k aI aQ aE aH aJ aK aT aM aN aG aA aC aD a1 a2 = some (r1, r2)) :
  Calls Tryz.prog 18 #[.agg #[.int .i64 aI, .int .i64 aQ, .int .i64 aE, .int .i64 aH, .int .i64 aJ, .int .i64 aK, .bool aT, .int .i64 aM, .int .i64 aN, .int .i64 aG, .int .i64 aA, .int .i64 aC, .int .i64 aD], .int .i64 a1, .int .i64 a2] w fun e w' => e = .returned (.tuple #[.int .i64 r1, .int .i64 r2]) /\ Below w.heap.size w w' := by
 rw [qYk.f] at h
 obtain ⟨g, hg, h⟩ := Option.bind_eq_some_iff.mp h
 cases g with
 | false =>
  rw [if_neg (by simp)] at h
  simp only [Option.some.injEq, Prod.mk.injEq] at h
  obtain ⟨rfl, rfl⟩ := h
  exact qYk.bad k aI aQ aE aH aJ aK aT aM aN aG aA aC aD a1 a2 w hg
 | true =>
  rw [if_pos rfl] at h
  by_cases hh : 1 <= a1 /\ a1 <= 3
  case neg =>
   rw [if_neg hh] at h
   simp only [Option.some.injEq, Prod.mk.injEq] at h
   obtain ⟨rfl, rfl⟩ := h
   exact qYk.none k aI aQ aE aH aJ aK aT aM aN aG aA aC aD a1 a2 w hg hh
  rw [if_pos hh] at h
  obtain ⟨d, hd, h⟩ := Option.bind_eq_some_iff.mp h
  cases d with
  | false =>
   rw [if_neg (by simp)] at h
   simp only [Option.some.injEq, Prod.mk.injEq] at h
   obtain ⟨rfl, rfl⟩ := h
   exact qYk.late k aI aQ aE aH aJ aK aT aM aN aG aA aC aD a1 a2 w hg hh hd
  | true =>
   rw [if_pos rfl] at h
   obtain ⟨p, hp, h⟩ := Option.bind_eq_some_iff.mp h
   cases p with
   | false =>
    rw [if_neg (by simp)] at h
    simp only [Option.some.injEq, Prod.mk.injEq] at h
    obtain ⟨rfl, rfl⟩ := h
    exact qYk.out k aI aQ aE aH aJ aK aT aM aN aG aA aC aD a1 a2 w hg hh hd hp
   | true =>
    rw [if_pos rfl] at h
    obtain ⟨⟨v1, v2⟩, hv, h2⟩ := Option.bind_eq_some_iff.mp h
    have H9 : (if v2 = 0 then qYs.f k aI aQ aE aH aJ aK aT aM aN aG aA aC aD v1 else some (0, v2)) = some (r1, r2) := h2
    rcases (by omega : a1 = 1 \/ a1 = 2 \/ a1 = 3) with rfl | rfl | rfl
    ·have hv : qXn.f aI aQ aE aH aJ aK aT aM aN aG aA aC aD a2 = some (v1, v2) := hv
     by_cases he : v2 = 0
     ·rw [if_pos he] at H9
      exact qYk.ok1 k aI aQ aE aH aJ aK aT aM aN aG aA aC aD a2 w hg hd hp v1 v2 hv he r1 r2 H9
     ·rw [if_neg he] at H9
      simp only [Option.some.injEq, Prod.mk.injEq] at H9
      obtain ⟨rfl, rfl⟩ := H9
      exact qYk.err1 k aI aQ aE aH aJ aK aT aM aN aG aA aC aD a2 w hg hd hp v1 v2 hv he
    ·have hv : qXo.f aI aQ aE aH aJ aK aT aM aN aG aA aC aD a2 = some (v1, v2) := hv
     by_cases he : v2 = 0
     ·rw [if_pos he] at H9
      exact qYk.ok2 k aI aQ aE aH aJ aK aT aM aN aG aA aC aD a2 w hg hd hp v1 v2 hv he r1 r2 H9
     ·rw [if_neg he] at H9
      simp only [Option.some.injEq, Prod.mk.injEq] at H9
      obtain ⟨rfl, rfl⟩ := H9
      exact qYk.err2 k aI aQ aE aH aJ aK aT aM aN aG aA aC aD a2 w hg hd hp v1 v2 hv he
    ·have hv : qYd.f k aI aQ aE aH aJ aK aT aM aN aG aA aC aD a2 = some (v1, v2) := hv
     by_cases he : v2 = 0
     ·rw [if_pos he] at H9
      exact qYk.ok3 k aI aQ aE aH aJ aK aT aM aN aG aA aC aD a2 w hg hd hp v1 v2 hv he r1 r2 H9
     ·rw [if_neg he] at H9
      simp only [Option.some.injEq, Prod.mk.injEq] at H9
      obtain ⟨rfl, rfl⟩ := H9
      exact qYk.err3 k aI aQ aE aH aJ aK aT aM aN aG aA aC aD a2 w hg hd hp v1 v2 hv he
mutual
def qZt.j0 : Nat -> List Int -> Bool -> Option (Bool)
 | 0, _, _ => none
 | k + 1, x0, cI => if cI = true then (some false) else (qZt.l0 k 0 x0 (x0.length : Int) 0)
def qZt.l0 : Nat -> Int -> List Int -> Int -> Int -> Option (Bool)
 | 0, _, _, _, _ => none
 | k + 1, x3, cB, bX, bY => if bY < bX then (if 0 <= bY then (if bY < (cB.length : Int) then (if (rd cB bY) < x3 then (some false) else (if (rd cB bY) > 1000000000 then (some false) else (qZt.l0 k (rd cB bY) cB bX (wrap64 (bY + 1))))) else (none)) else (none)) else (some true)
end
def qZt.f (k : Nat) (l0 : List Int) : Option (Bool) := if (l0.length : Int) < 1 then (qZt.j0 k l0 true) else (qZt.j0 k l0 (decide ((l0.length : Int) > 30)))
set_option maxHeartbeats 8000000 in
set_option maxRecDepth 100000 in
theorem qZt.calls (k : Nat) (A0 : Option Addr) (c0 : Nat) (l0 : List Int) (r : Bool) (w : World) (hr0 : Kd.C (Kd.int .i64) w A0 l0.length l0) (hc0 : l0.length <= c0) (h : qZt.f k l0 = some r) :
  Calls Tryz.prog 22 #[.slice A0 l0.length c0] w fun e w' => e = .returned (.bool r) /\ Drawn0 w w' := by
 have fH := am hr0
 have iL := am hc0
 clear hr0 hc0
 have H := h
 unfold qZt.f at H
 clear h
 have iN := am H
 clear H
 go_enter Tryz.func22, Tryz.ntmps22
 go_upto_region 1 with (fail)
 go_cut [13] (fun kK wc => ∃ (kq : Nat) (dT : Bool), kK = .bool dT /\ Aside0 (qZt.j0 kq l0 dT = some r) /\ Aside0 (kq <= k) /\ Drawn0 w wc)
 case first =>
  have H := iN.out
  clear iN
  by_cases c3 : (l0.length : Int) < 1
  ·rw [if_pos c3] at H
   have bN := decide_eq_true c3
   have cJ : decide (l0.length < 1) = true := decide_eq_true (by omega)
   clear c3
   (first | rw [bN] | (simp only [i64_w, i32_w]; rw [bN]) | skip)
   have H' := am H
   clear H
   go_wp2
   go_meet
   case rel => exact ⟨_, (true), fr, H', o0, dr⟩
  rw [if_neg c3] at H
  have bN := decide_eq_false c3
  have cJ : decide (l0.length < 1) = false := decide_eq_false (by omega)
  clear c3
  (first | rw [bN] | (simp only [i64_w, i32_w]; rw [bN]) | skip)
  have H' := am H
  clear H
  go_wp2
  go_meet
  case rel => exact ⟨_, (decide ((l0.length : Int) > 30)), fr, H', o0, dr⟩
 case rest =>
  clear iN
  try clear c3
  try clear bN cJ
  obtain ⟨kq, dT, rfl, HA, jN, ⟨mc1, rfl⟩⟩ := hcut
  rcases kq with _ | j3
  ·exact absurd HA.out (by simp [qZt.j0])
  have H := HA.out
  clear HA
  simp only [qZt.j0] at H
  by_cases c4 : dT = true
  ·subst c4
   rw [if_pos rfl] at H
   obtain rfl := Option.some.inj H
   go_wp2
   go_ret
   exact ⟨fr, dr⟩
  replace c4 := Bool.eq_false_iff.mpr c4
  subst c4
  rw [if_neg (show ¬ (false = true) by decide)] at H
  have H' := am H
  clear H
  go_wp2
  go_loopg [3, 16] j3 (fun kq v3 fD w' => ∃ (cO : Int) (aV : Int), v3 = .int .i64 cO /\ fD = .int .i64 aV /\ Aside0 (qZt.l0 kq cO l0 (l0.length : Int) aV = some r) /\ Aside0 (kq <= j3) /\ Drawn0 w w')
  case atStart => exact ⟨(0), (0), fr, fr, H', ⟨Nat.le_refl _⟩, dr⟩
  case round =>
   clear H'
   try clear c3
   try clear bN cJ
   try clear c4
   obtain ⟨cO, aV, rfl, rfl, HA, dZ, ⟨m2, rfl⟩⟩ := hrel
   rcases gk with _ | k2
   ·exact absurd HA.out (by simp [qZt.l0])
   have H := HA.out
   clear HA
   simp only [qZt.l0] at H
   by_cases c5 : aV < (l0.length : Int)
   case neg =>
    rw [if_neg c5] at H
    have aZ := decide_eq_false c5
    clear c5
    obtain rfl := Option.some.inj H
    go_wp2
    go_ret
    exact ⟨fr, dr⟩
   rw [if_pos c5] at H
   have aZ := decide_eq_true c5
   clear c5
   by_cases c6 : 0 <= aV
   case neg =>
    rw [if_neg c6] at H
    exact absurd H (by simp)
   rw [if_pos c6] at H
   have a4 := decide_eq_true c6
   clear c6
   by_cases c7 : aV < (l0.length : Int)
   case neg =>
    rw [if_neg c7] at H
    exact absurd H (by simp)
   rw [if_pos c7] at H
   have bS := decide_eq_true c7
   clear c7
   by_cases c8 : (rd l0 aV) < cO
   ·rw [if_pos c8] at H
    have dA := decide_eq_true c8
    clear c8
    obtain rfl := Option.some.inj H
    have b6 : 0 <= (aV : Int) := yd
    have b7 : aV < (l0.length : Int) := yd
    obtain ⟨fJ, eE, dQ⟩ := Kd.qZ7 fH.out aV b6 b7
    cases eE
    replace b6 := eq_true b6
    replace b7 := eq_true b7
    go_wp2
    go_ret
    exact ⟨fr, dr⟩
   rw [if_neg c8] at H
   have dA := decide_eq_false c8
   clear c8
   by_cases c9 : (rd l0 aV) > 1000000000
   ·rw [if_pos c9] at H
    have bD : decide (1000000000 < (rd l0 aV)) = true := decide_eq_true c9
    clear c9
    obtain rfl := Option.some.inj H
    have b6 : 0 <= (aV : Int) := yd
    have b7 : aV < (l0.length : Int) := yd
    obtain ⟨fJ, eE, dQ⟩ := Kd.qZ7 fH.out aV b6 b7
    cases eE
    replace b6 := eq_true b6
    replace b7 := eq_true b7
    go_wp2
    go_ret
    exact ⟨fr, dr⟩
   rw [if_neg c9] at H
   have bD : decide (1000000000 < (rd l0 aV)) = false := decide_eq_false c9
   clear c9
   have H' := am H
   clear H
   have b6 : 0 <= (aV : Int) := yd
   have b7 : aV < (l0.length : Int) := yd
   obtain ⟨fJ, eE, dQ⟩ := Kd.qZ7 fH.out aV b6 b7
   cases eE
   replace b6 := eq_true b6
   replace b7 := eq_true b7
   go_wp2
   go_roundg k2
   case measure => have := jN.out; have := dZ.out; omega
   case rel => exact ⟨(rd l0 aV), (wrap64 (aV + 1)), fr, fr, H', o2 jN dZ, dr⟩
-- NOT PRINTED: function 46 (api_Loan_46)
-- NOT PRINTED: function 24 (api_Loan_24)
def qWp.f (k : Nat) (aI : Int) (d1 : List (S48)) (aE aH aJ aK : Int) (d2 : List (S54)) (aM aN aG aA aC aD a1 : Int) : Option (Int) := if aE = 0 then (some 1) else (if aE = 4 then ((qZ2.f k aH 12).bind fun fQ => (if fQ.2 = 0 then (if a1 ≥ fQ.1 then (some 1) else (some aE)) else (some 1))) else (some aE))
set_option maxHeartbeats 8000000 in
set_option maxRecDepth 100000 in
theorem qWp.calls (k : Nat) (aI : Int) (hP : Option Addr) (hZ : Nat) (d1 : List (S48)) (aE aH aJ aK : Int) (hQ : Option Addr) (h0 : Nat) (d2 : List (S54)) (aM aN aG aA aC aD a1 r : Int) (w : World) (f2 : Kd.C k48 w hP d1.length d1) (f0 : d1.length <= hZ) (f3 : Kd.C k54 w hQ d2.length d2) (f1 : d2.length <= h0) (h : qWp.f k aI d1 aE aH aJ aK d2 aM aN aG aA aC aD a1 = some r) :
  Calls Tryz.prog 28 #[.agg #[.int .i64 aI, .slice hP d1.length hZ, .int .i64 aE, .int .i64 aH, .int .i64 aJ, .int .i64 aK, .slice hQ d2.length h0, .int .i64 aM, .int .i64 aN, .int .i64 aG, .int .i64 aA, .int .i64 aC, .int .i64 aD], .int .i64 a1] w fun e w' => e = .returned (.int .i64 r) /\ Below w.heap.size w w' := by
 have kA := Tryz.underlying28
 have jP := am f2
 have jL := am f0
 clear f2 f0
 have jQ := am f3
 have jM := am f1
 clear f3 f1
 have HB := am (Below.refl w.heap.size w)
 have H := h
 unfold qWp.f at H
 clear h
 by_cases c3 : aE = 0
 ·rw [if_pos c3] at H
  have bN := beq_iff_eq.mpr c3
  have cJ := bne_eq_false_iff_eq.mpr c3
  clear c3
  obtain rfl := Option.some.inj H
  go_enter Tryz.func28, Tryz.ntmps28
  go_wp2_with (first | ((with_reducible refine gd 2 ?_); refine bE 2 _ 28 ?_; intro dP hg w4 hbox hb; have bA := am hbox; have dJ := e0 HB hg; have bG := e0 HB hg; replace HB := s0 HB hb; clear hb hbox hg; have k9 := lc13 bA.out))
  go_ret
  exact ⟨er, by exact h1q HB.out bG.out⟩
 rw [if_neg c3] at H
 have bN := beq_eq_false_iff_ne.mpr c3
 have cJ := bne_iff_ne.mpr c3
 by_cases c6 : aE = 4
 case neg =>
  rw [if_neg c6] at H
  have a4 := beq_eq_false_iff_ne.mpr c6
  have cZ := bne_iff_ne.mpr c6
  obtain rfl := Option.some.inj H
  go_enter Tryz.func28, Tryz.ntmps28
  go_wp2_with (first | ((with_reducible refine gd 2 ?_); refine bE 2 _ 28 ?_; intro dP hg lG hbox hb; have bA := am hbox; have dJ := e0 HB hg; have bG := e0 HB hg; replace HB := s0 HB hb; clear hb hbox hg; have kG := lc13 bA.out))
  go_ret
  exact ⟨er, by exact h1q HB.out bG.out⟩
 rw [if_pos c6] at H
 have a4 := beq_iff_eq.mpr c6
 have cZ := bne_eq_false_iff_eq.mpr c6
 clear c6
 obtain ⟨⟨d5, fC⟩, A7, H⟩ := bd H
 by_cases c8 : fC = 0
 case neg =>
  rw [if_neg c8] at H
  have dA := beq_eq_false_iff_ne.mpr c8
  have iS := bne_iff_ne.mpr c8
  obtain rfl := Option.some.inj H
  go_enter Tryz.func28, Tryz.ntmps28
  go_wp2_with (first | ((with_reducible refine gd 2 ?_); refine bE 2 _ 28 ?_; intro dP hg lE hbox hb; have bA := am hbox; have dJ := e0 HB hg; have bG := e0 HB hg; replace HB := s0 HB hb; clear hb hbox hg; have kF := lc13 bA.out) | ((with_reducible refine gf 48 ?_); refine gC (some 16) Tryz.func48 (qZ2.calls _ _ _ d5 fC _ A7.out) ?_; rintro e lF ⟨rfl, hb⟩; refine ⟨_, rfl, ?_⟩; replace bA := bB bA hb; replace HB := s1 HB bG hb; (try clear hb); (try clear hb2); (try clear hk); (try clear hi)))
  go_ret
  exact ⟨er, by exact h1q HB.out bG.out⟩
 rw [if_pos c8] at H
 have dA := beq_iff_eq.mpr c8
 have iS := bne_eq_false_iff_eq.mpr c8
 clear c8
 by_cases c9 : a1 ≥ d5
 ·rw [if_pos c9] at H
  have bD : decide (d5 <= a1) = true := decide_eq_true c9
  clear c9
  obtain rfl := Option.some.inj H
  go_enter Tryz.func28, Tryz.ntmps28
  go_wp2_with (first | ((with_reducible refine gd 2 ?_); refine bE 2 _ 28 ?_; intro dP hg kU hbox hb; have bA := am hbox; have dJ := e0 HB hg; have bG := e0 HB hg; replace HB := s0 HB hb; clear hb hbox hg; have kC := lc13 bA.out) | ((with_reducible refine gf 48 ?_); refine gC (some 16) Tryz.func48 (qZ2.calls _ _ _ d5 fC _ A7.out) ?_; rintro e lC ⟨rfl, hb⟩; refine ⟨_, rfl, ?_⟩; replace bA := bB bA hb; replace HB := s1 HB bG hb; (try clear hb); (try clear hb2); (try clear hk); (try clear hi)))
  go_ret
  exact ⟨er, by exact h1q HB.out bG.out⟩
 rw [if_neg c9] at H
 have bD : decide (d5 <= a1) = false := decide_eq_false c9
 clear c9
 obtain rfl := Option.some.inj H
 go_enter Tryz.func28, Tryz.ntmps28
 go_wp2_with (first | ((with_reducible refine gd 2 ?_); refine bE 2 _ 28 ?_; intro dP hg kV hbox hb; have bA := am hbox; have dJ := e0 HB hg; have bG := e0 HB hg; replace HB := s0 HB hb; clear hb hbox hg; have kD := lc13 bA.out) | ((with_reducible refine gf 48 ?_); refine gC (some 16) Tryz.func48 (qZ2.calls _ _ _ d5 fC _ A7.out) ?_; rintro e kW ⟨rfl, hb⟩; refine ⟨_, rfl, ?_⟩; replace bA := bB bA hb; replace HB := s1 HB bG hb; (try clear hb); (try clear hb2); (try clear hk); (try clear hi); have kE := lc13 bA.out))
 go_ret
 exact ⟨er, by exact h1q HB.out bG.out⟩
def qYh.l0 : Nat -> Int -> List Int -> Int -> Int -> Option (Int)
 | 0, _, _, _, _ => none
 | k + 1, x0, x7, x8, x9 => if x9 < x8 then (if 0 <= x9 then (if x9 < (x7.length : Int) then (qYh.l0 k (mn x0 (rd x7 x9)) x7 x8 (wrap64 (x9 + 1))) else (none)) else (none)) else (some x0)
def qYh.f (k : Nat) (a0 : Int) (l1 : List Int) : Option (Int) := qYh.l0 k a0 l1 (l1.length : Int) 0
set_option maxHeartbeats 8000000 in
set_option maxRecDepth 100000 in
theorem qYh.calls (k : Nat) (a0 : Int) (A1 : Option Addr) (c1 : Nat) (l1 : List Int) (r : Int) (w : World) (hr1 : Kd.C (Kd.int .i64) w A1 l1.length l1) (hc1 : l1.length <= c1) (h : qYh.f k a0 l1 = some r) :
  Calls Tryz.prog 112 #[.int .i64 a0, .slice A1 l1.length c1] w fun e w' => e = .returned (.int .i64 r) /\ Below w.heap.size w w' := by
 have j8 := am hr1
 have k7 := am hc1
 clear hr1 hc1
 have HB := am (Below.refl w.heap.size w)
 have H := h
 unfold qYh.f at H
 clear h
 have H' := am H
 clear H
 go_enter Tryz.func112, Tryz.ntmps112
 go_wp2
 go_loopg [0, 9] k (fun kq v0 v9 w' => ∃ (d6 : Int) (bR : Int), v0 = .int .i64 d6 /\ v9 = .int .i64 bR /\ Aside0 (qYh.l0 kq d6 l1 (l1.length : Int) bR = some r) /\ Aside0 (kq <= k) /\ Aside0 (Below w.heap.size w w'))
 case atStart => exact ⟨(a0), (0), fr, fr, H', ⟨Nat.le_refl _⟩, a0_ HB⟩
 case round =>
  clear H'
  try clear c1
  obtain ⟨d6, bR, rfl, rfl, HA, dK, HB⟩ := hrel
  rcases gk with _ | k1
  ·exact absurd HA.out (by simp [qYh.l0])
  have H := HA.out
  clear HA
  simp only [qYh.l0] at H
  by_cases c3 : bR < (l1.length : Int)
  case neg =>
   rw [if_neg c3] at H
   have bN := decide_eq_false c3
   clear c3
   obtain rfl := Option.some.inj H
   go_wp2
   go_ret
   exact ⟨er, by exact h0q HB.out⟩
  rw [if_pos c3] at H
  have bN := decide_eq_true c3
  clear c3
  by_cases c4 : 0 <= bR
  case neg =>
   rw [if_neg c4] at H
   exact absurd H (by simp)
  rw [if_pos c4] at H
  have bH := decide_eq_true c4
  clear c4
  by_cases c5 : bR < (l1.length : Int)
  case neg =>
   rw [if_neg c5] at H
   exact absurd H (by simp)
  rw [if_pos c5] at H
  have aZ := decide_eq_true c5
  clear c5
  obtain ⟨iW, eZ⟩ : ∃ j_ : Int, (mn d6 (rd l1 bR)) = j_ := ⟨_, rfl⟩
  replace H : (qYh.l0 k1 iW l1 (l1.length : Int) (wrap64 (bR + 1))) = some r := by first | (rw [eZ] at H; exact H) | (simp only [eZ] at H ⊢; exact H)
  have hji6_ : (if (rd l1 bR) < d6 then (rd l1 bR) else d6) = iW := eZ
  have H' := am H
  clear H
  have g3 : 0 <= (bR : Int) := yd
  have g5 : bR < (l1.length : Int) := yd
  obtain ⟨jR, iT, dR⟩ := Kd.qZ7 j8.out bR g3 g5
  cases iT
  replace dR := hxb HB.out dR
  replace g3 := eq_true g3
  replace g5 := eq_true g5
  go_wp2
  go_roundg k1
  case measure => have := dK.out; omega
  case rel => exact ⟨(iW), (wrap64 (bR + 1)), (by first | rfl | (simp; done) | (simp only [<- eZ] <;> (first | rfl | simp)) | (simp [*]; done)), fr, H', o1 dK, a0_ HB⟩
def qYi.j0 : Nat -> List Int -> Int -> Bool -> Option (Int × Int)
 | 0, _, _, _ => none
 | k + 1, x0, x1, bY => if bY = true then (some (0, 1)) else ((qYh.f k x1 (([(x0.length : Int)] : List Int))).bind fun cA => (if 0 <= (wrap64 (cA - 1)) then (if (wrap64 (cA - 1)) < (x0.length : Int) then ((qQx.f k (rd x0 (wrap64 (cA - 1))) 3 2 1).bind fun bT => (some (bT.1, bT.2))) else (none)) else (none)))
def qYi.f (k : Nat) (l0 : List Int) (a1 : Int) : Option (Int × Int) := (qZt.f k l0).bind fun hJ => (if hJ = true then (if a1 < 1 then (qYi.j0 k l0 a1 true) else (qYi.j0 k l0 a1 (decide (a1 > 30)))) else (qYi.j0 k l0 a1 true))
set_option maxHeartbeats 8000000 in
set_option maxRecDepth 100000 in
theorem qYi.calls (k : Nat) (A0 : Option Addr) (c0 : Nat) (l0 : List Int) (a1 r1 r2 : Int) (w : World) (hr0 : Kd.C (Kd.int .i64) w A0 l0.length l0) (hc0 : l0.length <= c0) (h : qYi.f k l0 a1 = some (r1, r2)) :
  Calls Tryz.prog 96 #[.slice A0 l0.length c0, .int .i64 a1] w fun e w' => e = .returned (.tuple #[.int .i64 r1, .int .i64 r2]) /\ Below w.heap.size w w' := by
 have fH := am hr0
 have iL := am hc0
 clear hr0 hc0
 have HB := am (Below.refl w.heap.size w)
 have H := h
 unfold qYi.f at H
 clear h
 have d8 := am H
 clear H
 go_enter Tryz.func96, Tryz.ntmps96
 go_upto_region 1 with (fail)
 go_cut [16] (fun fD wc => ∃ (kq : Nat) (aV : Bool), fD = .bool aV /\ Aside0 (qYi.j0 kq l0 a1 aV = some (r1, r2)) /\ Aside0 (kq <= k) /\ Aside0 (Below w.heap.size w wc))
 case first =>
  have H := d8.out
  clear d8
  obtain ⟨hJ, A4, H⟩ := bd H
  by_cases c5 : hJ = true
  case neg =>
   replace c5 := Bool.eq_false_iff.mpr c5
   subst c5
   rw [if_neg (show ¬ (false = true) by decide)] at H
   have H' := am H
   clear H
   go_wp2_with (first | ((with_reducible refine gf 22 ?_); refine gC (some 7) Tryz.func22 (qZt.calls _ _ _ _ false _ ?side1 ?side2 A4.out) ?_; (case side1 => exact cq ((Kd.qZp fH.out HB.out))); (case side2 => exact iL.out); rintro e w' ⟨rfl, ⟨nd, rfl⟩⟩; refine ⟨_, rfl, ?_⟩))
   go_meet
   case rel => exact ⟨_, (true), fr, H', o0, a0_ HB⟩
  subst c5
  rw [if_pos rfl] at H
  by_cases c6 : a1 < 1
  ·rw [if_pos c6] at H
   have a4 := decide_eq_true c6
   clear c6
   (first | rw [a4] | (simp only [i64_w, i32_w]; rw [a4]) | skip)
   have H' := am H
   clear H
   go_wp2_with (first | ((with_reducible refine gf 22 ?_); refine gC (some 7) Tryz.func22 (qZt.calls _ _ _ _ true _ ?side1 ?side2 A4.out) ?_; (case side1 => exact cq ((Kd.qZp fH.out HB.out))); (case side2 => exact iL.out); rintro e w' ⟨rfl, ⟨nd, rfl⟩⟩; refine ⟨_, rfl, ?_⟩))
   go_meet
   case rel => exact ⟨_, (true), fr, H', o0, a0_ HB⟩
  rw [if_neg c6] at H
  have a4 := decide_eq_false c6
  clear c6
  (first | rw [a4] | (simp only [i64_w, i32_w]; rw [a4]) | skip)
  have H' := am H
  clear H
  go_wp2_with (first | ((with_reducible refine gf 22 ?_); refine gC (some 7) Tryz.func22 (qZt.calls _ _ _ _ true _ ?side1 ?side2 A4.out) ?_; (case side1 => exact cq ((Kd.qZp fH.out HB.out))); (case side2 => exact iL.out); rintro e w' ⟨rfl, ⟨nd, rfl⟩⟩; refine ⟨_, rfl, ?_⟩))
  go_meet
  case rel => exact ⟨_, (decide (a1 > 30)), fr, H', o0, a0_ HB⟩
 case rest =>
  clear d8
  try clear c5
  try clear c6
  try clear a4
  obtain ⟨kq, aV, rfl, HA, jO, HB⟩ := hcut
  rcases kq with _ | iE
  ·exact absurd HA.out (by simp [qYi.j0])
  have H := HA.out
  clear HA
  simp only [qYi.j0] at H
  by_cases c7 : aV = true
  ·subst c7
   rw [if_pos rfl] at H
   simp only [Option.some.injEq, Prod.mk.injEq] at H
   obtain ⟨rfl, rfl⟩ := H
   go_wp2
   go_ret2
   exact ⟨er, by exact h0q HB.out⟩
  replace c7 := Bool.eq_false_iff.mpr c7
  subst c7
  rw [if_neg (show ¬ (false = true) by decide)] at H
  obtain ⟨jH, eI⟩ : ∃ y_ : List Int, y_ = (([(l0.length : Int)] : List Int)) := ⟨_, rfl⟩
  replace H : ((qYh.f iE a1 jH).bind fun cA => (if 0 <= (wrap64 (cA - 1)) then (if (wrap64 (cA - 1)) < (l0.length : Int) then ((qQx.f iE (rd l0 (wrap64 (cA - 1))) 3 2 1).bind fun bT => (some (bT.1, bT.2))) else (none)) else (none))) = some (r1, r2) := by exact hyq H eI
  have fI := am eI
  clear eI
  obtain ⟨cA, A8, H⟩ := bd H
  obtain ⟨eP, d0⟩ : ∃ j_ : Int, (wrap64 (cA - 1)) = j_ := ⟨_, rfl⟩
  replace H : (if 0 <= (eP) then (if (eP) < (l0.length : Int) then ((qQx.f iE (rd l0 (eP)) 3 2 1).bind fun bT => (some (bT.1, bT.2))) else (none)) else (none)) = some (r1, r2) := by first | (rw [d0] at H; exact H) | (simp only [d0] at H ⊢; exact H)
  (try rw [d0] at A8)
  have hji9w : (IntKind.i64.wrap (cA - 1)) = eP := (i64_w _).trans d0
  by_cases b5 : 0 <= (eP)
  case neg =>
   rw [if_neg b5] at H
   exact absurd H (by simp)
  rw [if_pos b5] at H
  have fR := decide_eq_true b5
  clear b5
  by_cases eC : (eP) < (l0.length : Int)
  case neg =>
   rw [if_neg eC] at H
   exact absurd H (by simp)
  rw [if_pos eC] at H
  have bU := decide_eq_true eC
  clear eC
  obtain ⟨⟨jD, jE⟩, hS, H⟩ := bd H
  simp only [Option.some.injEq, Prod.mk.injEq] at H
  obtain ⟨rfl, rfl⟩ := H
  go_wp2_with (first | ((with_reducible refine gd 21 ?_); refine Kd.R_lit (Kd.int .i64) _ 3 ?hg (N := 21) ?hd (xs := ([(l0.length : Int)] : List Int)) (inner := [.int .i64 (l0.length : Int)]) (ok := fun _ => True) (okp := fun _ => True) ?hr ?hp (fun _ hk => hk) trivial (Below.refl _ _) (Nat.le_refl _) (by simp) ?_; (case hd => rfl); (case hg => rfl); (case hr => first | (go_simp; done) | (go_simp; rfl)); (case hp => exact (Reps.one (show Kd.M (Kd.int .i64) _ _ _ (l0.length : Int) [.int .i64 (l0.length : Int)] from rfl) (Reps.none _ _))); intro kM kV eH hb hg_ hnew_; clear hg_ hnew_; (first | rw [<- fI.out] at eH | (simp only [Int.reduceToNat] at eH; rw [<- fI.out] at eH)); have cT := am (Kd.qZ1 eH (qQn (by exact h0q HB.out))); replace HB := s0 HB hb; clear hb eH; obtain ⟨j6, j9, iV⟩ := Kd.qZq cT.out; subst iV) | ((with_reducible refine gf 112 ?_); refine gC (some 22) Tryz.func112 (qYh.calls _ _ _ _ _ cA _ ?side1 ?side2 A8.out) ?_; (case side1 => exact cq ((Kd.qQq cT.out).2.2)); (case side2 => exact (Kd.qQq cT.out).2.1); rintro e kX ⟨rfl, hb⟩; refine ⟨_, rfl, ?_⟩; replace cT := Rb cT hb; replace HB := s0 HB hb; (try clear hb); (try clear hb2); (try clear hk); (try clear hi); have g4 : 0 <= ((eP) : Int) := yd; have g6 : (eP) < (l0.length : Int) := yd; obtain ⟨jS, iU, dS⟩ := Kd.qZ7 fH.out (eP) g4 g6; cases iU; replace dS := hxb HB.out dS; replace g4 := eq_true g4; replace g6 := eq_true g6) | ((with_reducible refine gf 79 ?_); refine goesL_ (some 26) rfl rfl Tryz.func79 (by kernel_rfl) rfl #[.int .i64 (rd l0 (eP)), .int .i64 3, .int .i64 2, .int .i64 1] rfl (by (try simp only [List.map_toArray, List.map_cons, List.map_nil]); first | done | (simp only [d0]; rfl) | rfl | (simp only [List.length_drop, List.length_take]; rfl)) ?_; (with_reducible refine (qQx.calls _ _ _ _ _ jD jE _ hS.out).mono ?_); rintro e w' ⟨rfl, ⟨nd, rfl⟩⟩; refine ⟨_, rfl, ?_⟩))
  go_ret2
  exact ⟨by first | rfl | (simp [qQj, qQk] <;> rfl) | (simp only [<- d0]; first | rfl | (simp [qQj, qQk] <;> rfl)) | (simp [*, qQj, qQk] <;> rfl), by exact h0q HB.out⟩
end Go.Proofs.YtlhcohipnieidaaGreat.P
