/- Functions of the program as plain Lean functions, and proofs that its calls come to just their answers, where they tell one (written by a program of this session). -/
import Derived.Test.YtjdhhbjnihhncaaZaa
import Derived.Test.YtjdhhbjnihhncaaPx0
import Derived.Test.YtjdhhbjnihhncaaZst
import Derived.Test.YtjdhhbjnihhncaaPx2
import Derived.Test.YtjdhhbjnihhncaaPx9
import Derived.Test.YtjdhhbjnihhncaaPx10
import Derived.Test.YtjdhhbjnihhncaaPx11
import Derived.Test.YtjdhhbjnihhncaaPx12
import Derived.Test.YtjdhhbjnihhncaaZp
import Derived.Test.YtjdhhbjnihhncaaZs
namespace Go.Proofs.Ytjdhhbjnihhncaa.P
open Go.RowKit Go.Proofs.YtjdhhbjnihhncaaW.PrintWords Go.Proofs.YtjdhhbjnihhncaaW.PrintLast Go.Proofs.YtjdhhbjnihhncaaW.PrintMore
attribute [local go_sem] run_store_float max2_int min2_int max_two min_two max_three min_three max_four min_four   -- for this text's walks alone
set_option linter.unusedVariables false
set_option linter.unusedSimpArgs false

/-! ### annuitylaw23_OrderOne: function 4 -/
mutual
def annuitylaw23_OrderOne.l0 : Nat → List (S26) → List Int → List (S26) → Int → Option (Bool)
 | 0, _, _, _, _ => none
 | k + 1, x0, x1, x5, x6 => if x6 < (x0.length : Int) then (if 0 ≤ x6 then ((annuityref23_Find.f k x5 ((rd_T26 x0 x6).f2)).bind fun t276 => (if t276 < 0 then (if x5.length < 1599289640401 then (annuitylaw23_OrderOne.l0 k x0 x1 (x5 ++ [(⟨(rd_T26 x0 x6).f0, (rd_T26 x0 x6).f1, (rd_T26 x0 x6).f2, (rd_T26 x0 x6).f3, (rd_T26 x0 x6).f4, (rd_T26 x0 x6).f5, (rd_T26 x0 x6).f6, (rd_T26 x0 x6).f7, (rd_T26 x0 x6).f8, (rd_T26 x0 x6).f9, (rd_T26 x0 x6).f10⟩ : S26)]) (wrap64 (x6 + 1))) else (none)) else (annuitylaw23_OrderOne.l0 k x0 x1 x5 (wrap64 (x6 + 1))))) else (none)) else ((some (([] : List (S26)) : List (S26))).bind fun y281 => (if y281.length + x5.length < 1599289640401 then ((order_Sort.f k (y281 ++ x5)).bind fun t287 => (annuitylaw23_OrderOne.l1 k x1 x5 t287 0)) else (none)))
def annuitylaw23_OrderOne.j2 : Nat → List (S26) → List (S26) → Option (Bool)
 | 0, _, _ => none
 | k + 1, x5, x7 => annuitylaw23_OrderOne.l2 k x5 x7 ([] : List (S26)) 0
def annuitylaw23_OrderOne.l2 : Nat → List (S26) → List (S26) → List (S26) → Int → Option (Bool)
 | 0, _, _, _, _ => none
 | k + 1, x5, x7, x11, x12 => if x12 < (x5.length : Int) then (if 0 ≤ x12 then ((order_Put.f k x11 ((rd_T26 x5 x12).f0) ((rd_T26 x5 x12).f1) ((rd_T26 x5 x12).f2) ((rd_T26 x5 x12).f3) ((rd_T26 x5 x12).f4) ((rd_T26 x5 x12).f5) ((rd_T26 x5 x12).f6) ((rd_T26 x5 x12).f7) ((rd_T26 x5 x12).f8) ((rd_T26 x5 x12).f9) ((rd_T26 x5 x12).f10)).bind fun bt297 => (if (bt297.1.length : Int) = (wrap64 ((x11.length : Int) + 1)) then (if bt297.2 < 0 then (none) else (if bt297.2 ≥ (bt297.1.length : Int) then (none) else (if 0 ≤ bt297.2 then (if bt297.2 < (bt297.1.length : Int) then ((annuitykeep_Event.f k ((rd_T26 bt297.1 bt297.2).f0) ((rd_T26 bt297.1 bt297.2).f1) ((rd_T26 bt297.1 bt297.2).f2) ((rd_T26 bt297.1 bt297.2).f3) ((rd_T26 bt297.1 bt297.2).f4) ((rd_T26 bt297.1 bt297.2).f5) ((rd_T26 bt297.1 bt297.2).f6) ((rd_T26 bt297.1 bt297.2).f7) ((rd_T26 bt297.1 bt297.2).f8) ((rd_T26 bt297.1 bt297.2).f9) ((rd_T26 bt297.1 bt297.2).f10) ((rd_T26 x5 x12).f0) ((rd_T26 x5 x12).f1) ((rd_T26 x5 x12).f2) ((rd_T26 x5 x12).f3) ((rd_T26 x5 x12).f4) ((rd_T26 x5 x12).f5) ((rd_T26 x5 x12).f6) ((rd_T26 x5 x12).f7) ((rd_T26 x5 x12).f8) ((rd_T26 x5 x12).f9) ((rd_T26 x5 x12).f10)).bind fun t303 => (if t303 = true then (annuitylaw23_OrderOne.l2 k x5 x7 bt297.1 (wrap64 (x12 + 1))) else (none))) else (none)) else (none)))) else (none))) else (none)) else (annuitylaw23_OrderOne.l3 k x5 x7 x11 1)
def annuitylaw23_OrderOne.l3 : Nat → List (S26) → List (S26) → List (S26) → Int → Option (Bool)
 | 0, _, _, _, _ => none
 | k + 1, x5, x7, x11, x15 => if x15 < (x7.length : Int) then (if 0 ≤ (wrap64 (x15 - 1)) then (if (wrap64 (x15 - 1)) < (x7.length : Int) then (if 0 ≤ x15 then ((order_Compare.f k ((rd_T26 x7 (wrap64 (x15 - 1))).f0) ((rd_T26 x7 (wrap64 (x15 - 1))).f1) ((rd_T26 x7 (wrap64 (x15 - 1))).f2) ((rd_T26 x7 (wrap64 (x15 - 1))).f3) ((rd_T26 x7 (wrap64 (x15 - 1))).f4) ((rd_T26 x7 (wrap64 (x15 - 1))).f5) ((rd_T26 x7 (wrap64 (x15 - 1))).f6) ((rd_T26 x7 (wrap64 (x15 - 1))).f7) ((rd_T26 x7 (wrap64 (x15 - 1))).f8) ((rd_T26 x7 (wrap64 (x15 - 1))).f9) ((rd_T26 x7 (wrap64 (x15 - 1))).f10) ((rd_T26 x7 x15).f0) ((rd_T26 x7 x15).f1) ((rd_T26 x7 x15).f2) ((rd_T26 x7 x15).f3) ((rd_T26 x7 x15).f4) ((rd_T26 x7 x15).f5) ((rd_T26 x7 x15).f6) ((rd_T26 x7 x15).f7) ((rd_T26 x7 x15).f8) ((rd_T26 x7 x15).f9) ((rd_T26 x7 x15).f10)).bind fun t306 => (if t306 = (-1) then ((order_Compare.f k ((rd_T26 x7 x15).f0) ((rd_T26 x7 x15).f1) ((rd_T26 x7 x15).f2) ((rd_T26 x7 x15).f3) ((rd_T26 x7 x15).f4) ((rd_T26 x7 x15).f5) ((rd_T26 x7 x15).f6) ((rd_T26 x7 x15).f7) ((rd_T26 x7 x15).f8) ((rd_T26 x7 x15).f9) ((rd_T26 x7 x15).f10) ((rd_T26 x7 (wrap64 (x15 - 1))).f0) ((rd_T26 x7 (wrap64 (x15 - 1))).f1) ((rd_T26 x7 (wrap64 (x15 - 1))).f2) ((rd_T26 x7 (wrap64 (x15 - 1))).f3) ((rd_T26 x7 (wrap64 (x15 - 1))).f4) ((rd_T26 x7 (wrap64 (x15 - 1))).f5) ((rd_T26 x7 (wrap64 (x15 - 1))).f6) ((rd_T26 x7 (wrap64 (x15 - 1))).f7) ((rd_T26 x7 (wrap64 (x15 - 1))).f8) ((rd_T26 x7 (wrap64 (x15 - 1))).f9) ((rd_T26 x7 (wrap64 (x15 - 1))).f10)).bind fun t309 => (if t309 = 1 then (annuitylaw23_OrderOne.l3 k x5 x7 x11 (wrap64 (x15 + 1))) else (none))) else (none))) else (none)) else (none)) else (none)) else ((order_Sort.f k x5).bind fun t310 => ((annuitykeep_Events.f k t310 x7).bind fun t313 => (if t313 = true then ((annuitykeep_Events.f k x11 x7).bind fun t314 => (if t314 = true then ((annuitylaw23_wakes.f k).bind fun t315 => (some t315)) else (none))) else (none))))
def annuitylaw23_OrderOne.l1 : Nat → List Int → List (S26) → List (S26) → Int → Option (Bool)
 | 0, _, _, _, _ => none
 | k + 1, x1, x5, x7, x8 => if x8 < (x1.length : Int) then (if (x5.length : Int) > 0 then (if (x5.length : Int) = 0 then (none) else (if 0 ≤ x8 then ((annuitykeep_Mod.f (rd x1 x8) (x5.length : Int)).bind fun t291 => (if 0 ≤ t291 then (if t291 < (x5.length : Int) then (if 0 ≤ (Int.tmod x8 (x5.length : Int)) then (if (Int.tmod x8 (x5.length : Int)) < (x5.length : Int) then (annuitylaw23_OrderOne.l1 k x1 ((x5.set ((Int.tmod x8 (x5.length : Int)) : Int).toNat (⟨(rd_T26 x5 t291).f0, (rd_T26 x5 t291).f1, (rd_T26 x5 t291).f2, (rd_T26 x5 t291).f3, (rd_T26 x5 t291).f4, (rd_T26 x5 t291).f5, (rd_T26 x5 t291).f6, (rd_T26 x5 t291).f7, (rd_T26 x5 t291).f8, (rd_T26 x5 t291).f9, (rd_T26 x5 t291).f10⟩ : S26)).set (t291 : Int).toNat (⟨(rd_T26 x5 (Int.tmod x8 (x5.length : Int))).f0, (rd_T26 x5 (Int.tmod x8 (x5.length : Int))).f1, (rd_T26 x5 (Int.tmod x8 (x5.length : Int))).f2, (rd_T26 x5 (Int.tmod x8 (x5.length : Int))).f3, (rd_T26 x5 (Int.tmod x8 (x5.length : Int))).f4, (rd_T26 x5 (Int.tmod x8 (x5.length : Int))).f5, (rd_T26 x5 (Int.tmod x8 (x5.length : Int))).f6, (rd_T26 x5 (Int.tmod x8 (x5.length : Int))).f7, (rd_T26 x5 (Int.tmod x8 (x5.length : Int))).f8, (rd_T26 x5 (Int.tmod x8 (x5.length : Int))).f9, (rd_T26 x5 (Int.tmod x8 (x5.length : Int))).f10⟩ : S26)) x7 (wrap64 (x8 + 1))) else (none)) else (none)) else (none)) else (none))) else (none))) else (annuitylaw23_OrderOne.j2 k x5 x7)) else (annuitylaw23_OrderOne.j2 k x5 x7)
end
def annuitylaw23_OrderOne.f (k : Nat) (l0 : List (S26)) (l1 : List Int) : Option (Bool) := if (l0.length : Int) > 60 then ((annuitylaw23_wakes.f k).bind fun t273 => (some t273)) else (if (l1.length : Int) > 100 then ((annuitylaw23_wakes.f k).bind fun t274 => (some t274)) else (annuitylaw23_OrderOne.l0 k l0 l1 ([] : List (S26)) 0))
def annuitylaw23_OrderOne.T13 : Bool × List (List Nat × List Nat) := (true, [([], []), ([], []), ([1], [1]), ([0, 2], [0, 2]), ([], []), ([], []), ([4, 5], [4, 5]), ([6], [6]), ([], []), ([8], [8]), ([7, 9], [7, 9]), ([3, 10, 0, 1, 2, 3], [3]), ([10, 11, 0, 1, 2, 3, 4, 5, 6, 7, 8, 9, 10, 11], [10])])
def annuitylaw23_OrderOne.B13 : List Nat := [0, 0, 2, 7, 0, 0, 48, 112, 0, 256, 1008, 2047, 4095]
theorem annuitylaw23_OrderOne.tab13 : rtab .any (opsOf Try.f4 13) = annuitylaw23_OrderOne.T13 := by kernel_rfl
theorem annuitylaw23_OrderOne.bits13 : waitsOk annuitylaw23_OrderOne.T13.2 annuitylaw23_OrderOne.B13 = true := by kernel_rfl
def annuitylaw23_OrderOne.T14 : Bool × List (List Nat × List Nat) := (true, [([], []), ([], []), ([], []), ([], []), ([], []), ([], []), ([4, 5], [4, 5]), ([6], [6]), ([], []), ([], []), ([8, 9], [8, 9]), ([10], [10]), ([0, 1, 0, 1, 4, 5, 6, 7, 11], [0, 1]), ([12, 7, 0, 1, 4, 5, 6, 7, 11], [7, 12]), ([2, 3, 0, 1, 2, 3, 4, 5, 6, 7, 8, 9, 10, 11, 12, 13], [2, 3]), ([14, 11, 13, 0, 1, 2, 3, 4, 5, 6, 7, 8, 9, 10, 11, 12, 13], [11, 14])])
def annuitylaw23_OrderOne.B14 : List Nat := [0, 0, 0, 0, 0, 0, 48, 112, 0, 0, 768, 1792, 4083, 8179, 16383, 32767]
theorem annuitylaw23_OrderOne.tab14 : rtab .any (opsOf Try.f4 14) = annuitylaw23_OrderOne.T14 := by kernel_rfl
theorem annuitylaw23_OrderOne.bits14 : waitsOk annuitylaw23_OrderOne.T14.2 annuitylaw23_OrderOne.B14 = true := by kernel_rfl
def annuitylaw23_OrderOne.T20 : Bool × List (List Nat × List Nat) := (true, [([], []), ([0], [0]), ([], []), ([2], [2]), ([3], [3]), ([1, 4], [1, 4]), ([5], [5]), ([6], [6]), ([7, 6], [6, 7]), ([6, 8], [6, 8]), ([9, 6], [9]), ([10], [10]), ([10], [10]), ([12, 10], [10, 12]), ([11, 13, 10], [10, 11, 13]), ([10, 14], [10, 14]), ([15, 10], [15]), ([16], [16]), ([16], [16]), ([17, 18, 16], [16, 17, 18]), ([19, 16], [16, 19]), ([16], [16]), ([16], [16]), ([21, 22, 16], [16, 21, 22]), ([23, 16], [16, 23]), ([20, 24, 16, 16], [16, 20, 24]), ([25, 16], [16, 25]), ([16, 26], [16, 26])])
def annuitylaw23_OrderOne.B20 : List Nat := [0, 1, 0, 4, 12, 31, 63, 127, 255, 511, 1023, 2047, 2047, 6143, 16383, 32767, 65535, 131071, 131071, 524287, 1048575, 131071, 131071, 6422527, 14811135, 33554431, 67108863, 134217727]
theorem annuitylaw23_OrderOne.tab20 : rtab .any (opsOf Try.f4 20) = annuitylaw23_OrderOne.T20 := by kernel_rfl
theorem annuitylaw23_OrderOne.bits20 : waitsOk annuitylaw23_OrderOne.T20.2 annuitylaw23_OrderOne.B20 = true := by kernel_rfl
def annuitylaw23_OrderOne.T26 : Bool × List (List Nat × List Nat) := (true, [([], []), ([], []), ([1], [1]), ([0, 2], [0, 2]), ([3], [3]), ([], []), ([], []), ([5, 6], [5, 6]), ([7], [7]), ([4, 8], [4, 8]), ([9], [9]), ([10, 9], [10]), ([11], [11]), ([11], [11]), ([12, 13, 11], [11, 12, 13]), ([14, 11], [11, 14]), ([11], [11]), ([11], [11]), ([17, 11], [11, 17]), ([16, 18, 11], [11, 16, 18]), ([19, 11], [11, 19]), ([15, 20, 11, 11], [11, 15, 20]), ([21, 11], [11, 21]), ([11, 22], [11, 22])])
def annuitylaw23_OrderOne.B26 : List Nat := [0, 0, 2, 7, 15, 0, 0, 96, 224, 511, 1023, 2047, 4095, 4095, 16383, 32767, 4095, 4095, 135167, 462847, 987135, 2097151, 4194303, 8388607]
theorem annuitylaw23_OrderOne.tab26 : rtab .any (opsOf Try.f4 26) = annuitylaw23_OrderOne.T26 := by kernel_rfl
theorem annuitylaw23_OrderOne.bits26 : waitsOk annuitylaw23_OrderOne.T26.2 annuitylaw23_OrderOne.B26 = true := by kernel_rfl
set_option maxHeartbeats 8000000 in
set_option maxRecDepth 100000 in
theorem annuitylaw23_OrderOne.calls (k : Nat) (A0 : Option Addr) (c0 : Nat) (l0 : List (S26)) (A1 : Option Addr) (c1 : Nat) (l1 : List Int) (r : Bool) (w : World) (hr0 : Kd.C k26 w A0 l0.length l0) (hc0 : l0.length ≤ c0) (hr1 : Kd.C (Kd.int .i64) w A1 l1.length l1) (hc1 : l1.length ≤ c1) (h : annuitylaw23_OrderOne.f k l0 l1 = some r) :
  Calls Try.prog 4 #[.slice A0 l0.length c0, .slice A1 l1.length c1] w fun e w' => e = .returned (.bool r) ∧ Below w.heap.size w w' := by
 have hu26 := Try.underlying26
 have HR0 := Aside0.mk hr0
 have HC0 := Aside0.mk hc0
 clear hr0 hc0
 have HR1 := Aside0.mk hr1
 have HC1 := Aside0.mk hc1
 clear hr1 hc1
 have HB := Aside0.mk (Below.refl w.heap.size w)
 have H : (if (l0.length : Int) > 60 then ((annuitylaw23_wakes.f k).bind fun t273 => (some t273)) else (if (l1.length : Int) > 100 then ((annuitylaw23_wakes.f k).bind fun t274 => (some t274)) else (annuitylaw23_OrderOne.l0 k l0 l1 ([] : List (S26)) 0))) = some r := h
 clear h
 by_cases c3 : (l0.length : Int) > 60
 ·rw [if_pos c3] at H
  have c3b0 : decide (60 < (l0.length : Int)) = true := decide_eq_true c3
  have c3b1 : decide (60 < l0.length) = true := decide_eq_true (by omega)
  clear c3
  replace H := Option.bind_eq_some_iff.mp H
  obtain ⟨t273, A40, H⟩ := H
  replace H : (some t273) = some r := H
  have A4 := Aside0.mk A40
  clear A40
  obtain rfl := Option.some.inj H
  go_enter Try.func4, Try.ntmps4
  go_wp2_with (first | ((with_reducible refine gate_callee (f := 6) rfl ?_); refine goesL_ (some 24) rfl rfl Try.func6 (by kernel_rfl) rfl #[] rfl (by (try simp only [List.map_toArray, List.map_cons, List.map_nil]); first | done | rfl | (simp only [List.length_drop, List.length_take]; rfl)) ?_; (with_reducible refine (annuitylaw23_wakes.calls k  t273 _ A4.out).mono ?_); rintro e w5 ⟨rfl, hb⟩; refine ⟨_, rfl, ?_⟩; have n0_ := Aside0.mk (below_step (by exact h0q HB.out) hb); clear HB; have HB := n0_; clear n0_; (try clear hb); (try clear hb2); (try clear hk); (try clear hi)))
  go_ret
  exact ⟨by first | rfl | (simp [errW_none, errW_some] <;> rfl) | (simp [*, errW_none, errW_some] <;> rfl), by exact h0q HB.out⟩
 rw [if_neg c3] at H
 have c3b0 : decide (60 < (l0.length : Int)) = false := decide_eq_false c3
 have c3b1 : decide (60 < l0.length) = false := decide_eq_false (by omega)
 clear c3
 by_cases c6 : (l1.length : Int) > 100
 ·rw [if_pos c6] at H
  have c6b0 : decide (100 < (l1.length : Int)) = true := decide_eq_true c6
  have c6b1 : decide (100 < l1.length) = true := decide_eq_true (by omega)
  clear c6
  replace H := Option.bind_eq_some_iff.mp H
  obtain ⟨t274, A70, H⟩ := H
  replace H : (some t274) = some r := H
  have A7 := Aside0.mk A70
  clear A70
  obtain rfl := Option.some.inj H
  go_enter Try.func4, Try.ntmps4
  go_wp2_with (first | ((with_reducible refine gate_callee (f := 6) rfl ?_); refine goesL_ (some 24) rfl rfl Try.func6 (by kernel_rfl) rfl #[] rfl (by (try simp only [List.map_toArray, List.map_cons, List.map_nil]); first | done | rfl | (simp only [List.length_drop, List.length_take]; rfl)) ?_; (with_reducible refine (annuitylaw23_wakes.calls k  t274 _ A7.out).mono ?_); rintro e w8 ⟨rfl, hb⟩; refine ⟨_, rfl, ?_⟩; have n0_ := Aside0.mk (below_step (by exact h0q HB.out) hb); clear HB; have HB := n0_; clear n0_; (try clear hb); (try clear hb2); (try clear hk); (try clear hi)))
  go_ret
  exact ⟨by first | rfl | (simp [errW_none, errW_some] <;> rfl) | (simp [*, errW_none, errW_some] <;> rfl), by exact h0q HB.out⟩
 rw [if_neg c6] at H
 have c6b0 : decide (100 < (l1.length : Int)) = false := decide_eq_false c6
 have c6b1 : decide (100 < l1.length) = false := decide_eq_false (by omega)
 clear c6
 have H' := Aside0.mk H
 clear H
 go_enter Try.func4, Try.ntmps4
 go_wp2
 go_loopg [5, 6] k (fun kq v5 v6 w' => ∃ (x5_1 : List (S26)) (x6_1 : Int), v6 = .int .i64 x6_1 ∧ Aside0 (annuitylaw23_OrderOne.l0 kq l0 l1 x5_1 x6_1 = some r) ∧ Aside0 (kq ≤ k) ∧ Aside0 (Kd.R k26 26 w' w.heap.size (fun _ => True) v5 x5_1) ∧ Aside0 (Below w.heap.size w w'))
 case atStart => exact ⟨(([] : List (S26))), (0), (by first | rfl | (simp; done) | (simp [*]; done)), H', ⟨Nat.le_refl _⟩, ⟨by first | exact Kd.R_nil _ _ _ _ _ | exact Kd.N_nil _ _ _ _ _ | exact Kd.V_nil _ _ _ _ _ | exact Kd.Q_nil _ _ _ _ _ | exact Kd.S_nil _ _ _ _ _⟩, ⟨by exact h0q HB.out⟩⟩
 case round =>
  clear H'
  try clear c1
  try clear c3
  try clear c3b0 c3b1
  try clear c6
  try clear c6b0 c6b1
  obtain ⟨x5_1, x6_1, rfl, HA, HK1, HO_5, HB⟩ := hrel
  rcases gk with _ | k1
  ·exact absurd HA.out (by simp [annuitylaw23_OrderOne.l0])
  have H := HA.out
  clear HA
  simp only [annuitylaw23_OrderOne.l0] at H
  by_cases c9 : x6_1 < (l0.length : Int)
  ·rw [if_pos c9] at H
   have c9b0 : decide (x6_1 < (l0.length : Int)) = true := decide_eq_true c9
   clear c9
   by_cases c10 : 0 ≤ x6_1
   case neg =>
    rw [if_neg c10] at H
    exact absurd H (by simp)
   rw [if_pos c10] at H
   have c10b0 : decide (0 ≤ x6_1) = true := decide_eq_true c10
   clear c10
   replace H := Option.bind_eq_some_iff.mp H
   obtain ⟨t276, A110, H⟩ := H
   replace H : (if t276 < 0 then (if x5_1.length < 1599289640401 then (annuitylaw23_OrderOne.l0 k1 l0 l1 (x5_1 ++ [(⟨(rd_T26 l0 x6_1).f0, (rd_T26 l0 x6_1).f1, (rd_T26 l0 x6_1).f2, (rd_T26 l0 x6_1).f3, (rd_T26 l0 x6_1).f4, (rd_T26 l0 x6_1).f5, (rd_T26 l0 x6_1).f6, (rd_T26 l0 x6_1).f7, (rd_T26 l0 x6_1).f8, (rd_T26 l0 x6_1).f9, (rd_T26 l0 x6_1).f10⟩ : S26)]) (wrap64 (x6_1 + 1))) else (none)) else (annuitylaw23_OrderOne.l0 k1 l0 l1 x5_1 (wrap64 (x6_1 + 1)))) = some r := H
   have A11 := Aside0.mk A110
   clear A110
   by_cases c12 : t276 < 0
   case neg =>
    rw [if_neg c12] at H
    have c12b0 : decide (t276 < 0) = false := decide_eq_false c12
    clear c12
    have H' := Aside0.mk H
    clear H
    have p275 : 0 ≤ (x6_1 : Int) := yd
    have q275 : x6_1 < (l0.length : Int) := yd
    obtain ⟨ad275, e275, hx275_0, hx275_1, hx275_2, hx275_3, hx275_4, hx275_5, hx275_6, hx275_7, hx275_8, hx275_9, hx275_10⟩ := at_T26 HR0.out x6_1 p275 q275
    cases e275
    replace hx275_0 := hxb HB.out hx275_0
    replace hx275_1 := hxb HB.out hx275_1
    replace hx275_2 := hxb HB.out hx275_2
    replace hx275_3 := hxb HB.out hx275_3
    replace hx275_4 := hxb HB.out hx275_4
    replace hx275_5 := hxb HB.out hx275_5
    replace hx275_6 := hxb HB.out hx275_6
    replace hx275_7 := hxb HB.out hx275_7
    replace hx275_8 := hxb HB.out hx275_8
    replace hx275_9 := hxb HB.out hx275_9
    replace hx275_10 := hxb HB.out hx275_10
    replace p275 := eq_true p275
    replace q275 := eq_true q275
    obtain ⟨Ao16, co16, eo16⟩ := Kd.R_slice HO_5.out
    subst eo16
    go_wp2_with (first | ((with_reducible refine gate_callee (f := 15) rfl ?_); refine goesL_ (some 37) rfl rfl Try.func15 (by kernel_rfl) rfl #[.slice Ao16 x5_1.length co16, .int .u32 ((rd_T26 l0 x6_1).f2)] rfl (by (try simp only [List.map_toArray, List.map_cons, List.map_nil]); first | done | rfl | (simp only [List.length_drop, List.length_take]; rfl)) ?_; (with_reducible refine (annuityref23_Find.calls k1 _ _ x5_1 ((rd_T26 l0 x6_1).f2) t276 _ ?side1 ?side2 A11.out).mono ?_); (case side1 => repeat (first | exact (Kd.R_reads' HO_5.out).2.2 | (with_reducible refine Kd.C_alloc ?_ _) | (with_reducible refine Kd.C_drewN ?_ _) | (with_reducible refine Kd.C_drew ?_))); (case side2 => exact (Kd.R_reads' HO_5.out).2.1); rintro e w' ⟨rfl, ⟨nd, rfl⟩⟩; refine ⟨_, rfl, ?_⟩))
    go_roundg k1
    case measure => have := HK1.out; omega
    case rel => exact ⟨(x5_1), (wrap64 (x6_1 + 1)), (by first | rfl | (simp; done) | (simp [*]; done)), H', ⟨by have := HK1.out; omega⟩, ⟨by exact rq HO_5.out⟩, ⟨by exact h0q HB.out⟩⟩
   rw [if_pos c12] at H
   have c12b0 : decide (t276 < 0) = true := decide_eq_true c12
   clear c12
   by_cases c13 : x5_1.length < 1599289640401
   case neg =>
    rw [if_neg c13] at H
    exact absurd H (by simp)
   rw [if_pos c13] at H
   have LMc13 := Aside0.mk c13
   clear c13
   obtain ⟨y278, hy278⟩ : ∃ y_ : List (S26), y_ = (x5_1 ++ [(⟨(rd_T26 l0 x6_1).f0, (rd_T26 l0 x6_1).f1, (rd_T26 l0 x6_1).f2, (rd_T26 l0 x6_1).f3, (rd_T26 l0 x6_1).f4, (rd_T26 l0 x6_1).f5, (rd_T26 l0 x6_1).f6, (rd_T26 l0 x6_1).f7, (rd_T26 l0 x6_1).f8, (rd_T26 l0 x6_1).f9, (rd_T26 l0 x6_1).f10⟩ : S26)]) := ⟨_, rfl⟩
   replace H : (annuitylaw23_OrderOne.l0 k1 l0 l1 y278 (wrap64 (x6_1 + 1))) = some r := by first | (rw [hy278]; with_reducible exact H) | (have H2_ := (Option.bind_some _ _).symm.trans H; rw [hy278]; with_reducible exact H2_) | (have H2_ := (Option.bind_some _ _).symm.trans H; with_reducible exact H2_) | with_reducible exact H | (rw [hy278]; exact H) | exact H
   have Ny278 := Aside0.mk hy278
   clear hy278
   have H' := Aside0.mk H
   clear H
   have p275 : 0 ≤ (x6_1 : Int) := yd
   have q275 : x6_1 < (l0.length : Int) := yd
   obtain ⟨ad275, e275, hx275_0, hx275_1, hx275_2, hx275_3, hx275_4, hx275_5, hx275_6, hx275_7, hx275_8, hx275_9, hx275_10⟩ := at_T26 HR0.out x6_1 p275 q275
   cases e275
   replace hx275_0 := hxb HB.out hx275_0
   replace hx275_1 := hxb HB.out hx275_1
   replace hx275_2 := hxb HB.out hx275_2
   replace hx275_3 := hxb HB.out hx275_3
   replace hx275_4 := hxb HB.out hx275_4
   replace hx275_5 := hxb HB.out hx275_5
   replace hx275_6 := hxb HB.out hx275_6
   replace hx275_7 := hxb HB.out hx275_7
   replace hx275_8 := hxb HB.out hx275_8
   replace hx275_9 := hxb HB.out hx275_9
   replace hx275_10 := hxb HB.out hx275_10
   replace p275 := eq_true p275
   replace q275 := eq_true q275
   obtain ⟨Ao14, co14, eo14⟩ := Kd.R_slice HO_5.out
   subst eo14
   go_wp2_with (first | ((with_reducible refine gate_callee (f := 15) rfl ?_); refine goesL_ (some 37) rfl rfl Try.func15 (by kernel_rfl) rfl #[.slice Ao14 x5_1.length co14, .int .u32 ((rd_T26 l0 x6_1).f2)] rfl (by (try simp only [List.map_toArray, List.map_cons, List.map_nil]); first | done | rfl | (simp only [List.length_drop, List.length_take]; rfl)) ?_; (with_reducible refine (annuityref23_Find.calls k1 _ _ x5_1 ((rd_T26 l0 x6_1).f2) t276 _ ?side1 ?side2 A11.out).mono ?_); (case side1 => repeat (first | exact (Kd.R_reads' HO_5.out).2.2 | (with_reducible refine Kd.C_alloc ?_ _) | (with_reducible refine Kd.C_drewN ?_ _) | (with_reducible refine Kd.C_drew ?_))); (case side2 => exact (Kd.R_reads' HO_5.out).2.1); rintro e w' ⟨rfl, ⟨nd, rfl⟩⟩; refine ⟨_, rfl, ?_⟩; have p277 : 0 ≤ (x6_1 : Int) := yd; have q277 : x6_1 < (l0.length : Int) := yd; obtain ⟨ad277, e277, hx277_0, hx277_1, hx277_2, hx277_3, hx277_4, hx277_5, hx277_6, hx277_7, hx277_8, hx277_9, hx277_10⟩ := at_T26 HR0.out x6_1 p277 q277; obtain rfl : ad275 = ad277 := (by injection e277); replace hx277_0 := hxb HB.out hx277_0; replace hx277_1 := hxb HB.out hx277_1; replace hx277_2 := hxb HB.out hx277_2; replace hx277_3 := hxb HB.out hx277_3; replace hx277_4 := hxb HB.out hx277_4; replace hx277_5 := hxb HB.out hx277_5; replace hx277_6 := hxb HB.out hx277_6; replace hx277_7 := hxb HB.out hx277_7; replace hx277_8 := hxb HB.out hx277_8; replace hx277_9 := hxb HB.out hx277_9; replace hx277_10 := hxb HB.out hx277_10; replace p277 := eq_true p277; replace q277 := eq_true q277) | ((with_reducible refine gate_builtin (b := .append) (xs := #[.tmp 39, .tmp 44]) rfl ?_); (try (refine gate_guard (by rfl) ?_; dsimp only)); at_builtin; refine Kd.R_append k26 (w0 := w) w.heap.size rfl (.tmp 39) (.tmp 44) 22 26 (.agg #[(.int .i64 0), (.int .i64 0), (.int .u32 0), (.int .i64 0), (.int .i64 0), (.float .f64 0), (.float .f64 0), (.bool false), (.int .i64 0), (.int .i64 0), (.int .i64 0)]) 88 rfl Try.underlying22 info26 rfl (by decide) (by omega) (.slice Ao14 x5_1.length co14) x5_1 (⟨(rd_T26 l0 x6_1).f0, (rd_T26 l0 x6_1).f1, (rd_T26 l0 x6_1).f2, (rd_T26 l0 x6_1).f3, (rd_T26 l0 x6_1).f4, (rd_T26 l0 x6_1).f5, (rd_T26 l0 x6_1).f6, (rd_T26 l0 x6_1).f7, (rd_T26 l0 x6_1).f8, (rd_T26 l0 x6_1).f9, (rd_T26 l0 x6_1).f10⟩ : S26) [.int .i64 ((rd_T26 l0 x6_1).f0), .int .i64 ((rd_T26 l0 x6_1).f1), .int .u32 ((rd_T26 l0 x6_1).f2), .int .i64 ((rd_T26 l0 x6_1).f3), .int .i64 ((rd_T26 l0 x6_1).f4), .float .f64 ((rd_T26 l0 x6_1).f5), .float .f64 ((rd_T26 l0 x6_1).f6), .bool ((rd_T26 l0 x6_1).f7), .int .i64 ((rd_T26 l0 x6_1).f8), .int .i64 ((rd_T26 l0 x6_1).f9), .int .i64 ((rd_T26 l0 x6_1).f10)] (fun _ => True) (fun _ => False) rfl rfl ?aP (fun _ hk => hk.elim) ?aF ?aO ?aB ?aS ?aL ?_; (case aP => exact k26_mkM _ _ _ (⟨(rd_T26 l0 x6_1).f0, (rd_T26 l0 x6_1).f1, (rd_T26 l0 x6_1).f2, (rd_T26 l0 x6_1).f3, (rd_T26 l0 x6_1).f4, (rd_T26 l0 x6_1).f5, (rd_T26 l0 x6_1).f6, (rd_T26 l0 x6_1).f7, (rd_T26 l0 x6_1).f8, (rd_T26 l0 x6_1).f9, (rd_T26 l0 x6_1).f10⟩ : S26)); (case aB => exact (by exact h0q HB.out)); (case aF => exact (fun _ _ => trivial)); (case aO => exact (by exact rq HO_5.out)); (case aS => exact (below_size (by exact h0q HB.out))); (case aL => have := LMc13.out; omega); intro v279 w15 ho hb hg hat; rw [← Ny278.out] at ho; have n0_ := Aside0.mk (hb); have n1_ := Aside0.mk (ho); clear HB; clear HO_5; have HB := n0_; have HO280 := n1_; clear n0_ n1_; clear ho hb hg hat))
   go_roundg k1
   case measure => have := HK1.out; omega
   case rel => exact ⟨(y278), (wrap64 (x6_1 + 1)), (by first | rfl | (simp; done) | (simp [*]; done)), H', ⟨by have := HK1.out; omega⟩, ⟨by exact rq HO280.out⟩, ⟨by exact h0q HB.out⟩⟩
  rw [if_neg c9] at H
  have c9b0 : decide (x6_1 < (l0.length : Int)) = false := decide_eq_false c9
  clear c9
  obtain ⟨y281, hy281⟩ : ∃ y_ : List (S26), y_ = (([] : List (S26))) := ⟨_, rfl⟩
  replace H : (if y281.length + x5_1.length < 1599289640401 then ((order_Sort.f k1 (y281 ++ x5_1)).bind fun t287 => (annuitylaw23_OrderOne.l1 k1 l1 x5_1 t287 0)) else (none)) = some r := by first | (rw [hy281]; with_reducible exact H) | (have H2_ := (Option.bind_some _ _).symm.trans H; rw [hy281]; with_reducible exact H2_) | (have H2_ := (Option.bind_some _ _).symm.trans H; with_reducible exact H2_) | with_reducible exact H | (rw [hy281]; exact H) | exact H
  have Ny281 := Aside0.mk hy281
  clear hy281
  by_cases c17 : y281.length + x5_1.length < 1599289640401
  case neg =>
   rw [if_neg c17] at H
   exact absurd H (by simp)

  rw [if_pos c17] at H
  have LMc17 := Aside0.mk c17
  clear c17
  obtain ⟨y284, hy284⟩ : ∃ y_ : List (S26), y_ = (y281 ++ x5_1) := ⟨_, rfl⟩
  replace H : ((order_Sort.f k1 y284).bind fun t287 => (annuitylaw23_OrderOne.l1 k1 l1 x5_1 t287 0)) = some r := by first | (rw [hy284]; with_reducible exact H) | (have H2_ := (Option.bind_some _ _).symm.trans H; rw [hy284]; with_reducible exact H2_) | (have H2_ := (Option.bind_some _ _).symm.trans H; with_reducible exact H2_) | with_reducible exact H | (rw [hy284]; exact H) | exact H
  have Ny284 := Aside0.mk hy284
  clear hy284
  replace H := Option.bind_eq_some_iff.mp H
  obtain ⟨t287, A180, H⟩ := H
  replace H : (annuitylaw23_OrderOne.l1 k1 l1 x5_1 t287 0) = some r := H
  have A18 := Aside0.mk A180
  clear A180
  have HC19 := Aside0.mk H
  clear H
  go_upto_block 2 with (first | ((with_reducible refine gate_dst (N := 46) rfl ?_); (try (refine gate_guard (by rfl) ?_; dsimp only)); refine Kd.R_lit k26 _ 26 ?hg (N := 46) ?hd (xs := ([] : List (S26))) (inner := []) (ok := fun _ => True) (okp := fun _ => True) ?hr ?hp (fun _ hk => hk) trivial (Below.refl _ _) (Nat.le_refl _) (by simp) ?_; (case hd => rfl); (case hg => rfl); (case hr => first | (go_simp; done) | (go_simp; rfl)); (case hp => exact (Reps.none _ _)); intro v282 w20 ho21 hb hg_ hnew_; clear hg_ hnew_; (first | rw [← Ny281.out] at ho21 | (simp only [Int.reduceToNat] at ho21; rw [← Ny281.out] at ho21)); have n0_ := Aside0.mk (Kd.R_elder' (by exact rq HO_5.out) (Kd.R_base ho21) hb); have n1_ := Aside0.mk (Kd.R_lower (Kd.R_new' ho21 (Kd.R_lt (by exact rq HO_5.out))) (below_size (by exact h0q HB.out))); have n2_ := Aside0.mk (below_step (by exact h0q HB.out) hb); clear HO_5; clear HB; have HO_5 := n0_; have HO283 := n1_; have HB := n2_; clear n0_ n1_ n2_; clear hb ho21; obtain ⟨Ao23, co23, eo23⟩ := Kd.R_slice HO_5.out; subst eo23) | ((with_reducible refine gate_builtin (b := .append) (xs := #[.tmp 46, .tmp 47]) rfl ?_); (try (refine gate_guard (by rfl) ?_; dsimp only)); at_builtin; refine Kd.R_append_rows k26 (w0 := w) w.heap.size rfl (.tmp 46) (.tmp 47) 22 26 (.agg #[(.int .i64 0), (.int .i64 0), (.int .u32 0), (.int .i64 0), (.int .i64 0), (.float .f64 0), (.float .f64 0), (.bool false), (.int .i64 0), (.int .i64 0), (.int .i64 0)]) 88 rfl Try.underlying22 info26 rfl (by decide) (by omega) v282 y281 x5_1 _ _ _ (fun k_ => some k_ ≠ (.slice Ao23 x5_1.length co23 : Value).ownBlock) (fun _ => False) rfl rfl ?aO ?aR (fun _ _ h => h) (fun _ h => h.elim) ?aF ?aB ?aS ?aL ?_; (case aR => repeat (first | exact (Kd.R_reads' HO_5.out).2.2 | (with_reducible refine Kd.C_alloc ?_ _) | (with_reducible refine Kd.C_drewN ?_ _) | (with_reducible refine Kd.C_drew ?_))); (case aB => exact (by exact h0q HB.out)); (case aF => exact (fun k_ hk => Kd.fresh' (Kd.R_lt (by exact rq HO_5.out)) k_ hk)); (case aO => exact (by (with_reducible repeat (first | apply Kd.R_alloc | apply Kd.R_drewN | apply Kd.R_drew)); exact Kd.R_mono HO283.out (fun _ hk => hk.2))); (case aS => exact (below_size (by exact h0q HB.out))); (case aL => have := LMc17.out; omega); intro v285 w22 ho hb hg hat; rw [← Ny284.out] at ho; have n0_ := Aside0.mk (Kd.R_after (ok := (fun _ => True)) (by exact rq HO_5.out) hg hat); have n1_ := Aside0.mk (hb); have n2_ := Aside0.mk (ho); clear HO_5; clear HB; clear HO283; have HO_5 := n0_; have HB := n1_; have HO286 := n2_; clear n0_ n1_ n2_; clear ho hb hg hat; obtain ⟨Ao24, co24, eo24⟩ := Kd.R_slice HO286.out; subst eo24) | ((with_reducible refine gate_callee (f := 7) rfl ?_); refine goesL_ (some 49) rfl rfl Try.func7 (by kernel_rfl) rfl #[.slice Ao24 y284.length co24] rfl (by (try simp only [List.map_toArray, List.map_cons, List.map_nil]); first | done | rfl | (simp only [List.length_drop, List.length_take]; rfl)) ?_; (with_reducible refine (order_Sort.calls k1 _ _ y284 t287 _ ?side1 ?side2 A18.out).mono ?_); (case side1 => repeat (first | exact (Kd.R_reads' HO286.out).2.2 | (with_reducible refine Kd.C_alloc ?_ _) | (with_reducible refine Kd.C_drewN ?_ _) | (with_reducible refine Kd.C_drew ?_))); (case side2 => exact (Kd.R_reads' HO286.out).2.1); rintro e w25 ⟨v288, rfl, ho0, hb⟩; refine ⟨_, rfl, ?_⟩; have n0_ := Aside0.mk (Kd.R_elder' (by exact rq HO_5.out) (Kd.R_base ho0) hb); have n1_ := Aside0.mk (Kd.R_elder' (by exact rq HO286.out) (Kd.R_base ho0) hb); have n2_ := Aside0.mk (Kd.R_lower (Kd.R_new' (Kd.R_new' ho0 (Kd.R_lt (by exact rq HO_5.out))) (Kd.R_lt (by exact rq HO286.out))) (below_size (by exact h0q HB.out))); have n3_ := Aside0.mk (below_step (by exact h0q HB.out) hb); clear HO_5; clear HO286; clear HB; have HO_5 := n0_; have HO286 := n1_; have HO289 := n2_; have HB := n3_; clear n0_ n1_ n2_ n3_; (try clear hb); (try clear hb2); (try clear hk); (try clear hi); (try clear ho0)))
  (try simp only [Act.put, List.setIfInBounds_toArray, List.set_cons_zero, List.set_cons_succ])
  go_cut [] (fun wc => ∃ (kq : Nat) (x5_18 : List (S26)), Aside0 (annuitylaw23_OrderOne.j2 kq x5_18 t287 = some r) ∧ Aside0 (kq ≤ k1) ∧ Aside0 (Kd.R k26 26 wc w.heap.size (fun k_ => some k_ ≠ (v288 : Value).ownBlock) (.slice Ao23 x5_1.length co23) x5_18) ∧ Aside0 (Kd.R k26 26 wc w.heap.size (fun k_ => some k_ ≠ ((.slice Ao23 x5_1.length co23) : Value).ownBlock) v288 t287) ∧ Aside0 (Below w.heap.size w wc))
  case first =>
   have H := HC19.out
   clear HC19
   have H' := Aside0.mk H
   clear H
   go_wp2
   go_loopg [8] k1 (fun kq v8 w' => ∃ (x5_2 : List (S26)) (x8_2 : Int), v8 = .int .i64 x8_2 ∧ Aside0 (annuitylaw23_OrderOne.l1 kq l1 x5_2 t287 x8_2 = some r) ∧ Aside0 (kq ≤ k1) ∧ Aside0 (Kd.R k26 26 w' w.heap.size (fun k_ => some k_ ≠ (v288 : Value).ownBlock) (.slice Ao23 x5_1.length co23) x5_2) ∧ Aside0 (Kd.R k26 26 w' w.heap.size (fun k_ => some k_ ≠ ((.slice Ao23 x5_1.length co23) : Value).ownBlock) v288 t287) ∧ Aside0 (Below w.heap.size w w'))
   case atStart => exact ⟨(x5_1), (0), (by first | rfl | (simp; done) | (simp [*]; done)), H', ⟨Nat.le_refl _⟩, ⟨by (with_reducible repeat (first | apply Kd.R_alloc | apply Kd.R_drewN | apply Kd.R_drew)); exact Kd.R_mono HO_5.out (fun _ hk => hk.2)⟩, ⟨by (with_reducible repeat (first | apply Kd.R_alloc | apply Kd.R_drewN | apply Kd.R_drew)); exact Kd.R_mono HO289.out (fun _ hk => hk.1.2)⟩, ⟨by exact h0q HB.out⟩⟩
   case round =>
    clear H'
    try clear c1
    try clear c3
    try clear c3b0 c3b1
    try clear c6
    try clear c6b0 c6b1
    try clear c9
    try clear c9b0
    try clear c10
    try clear c10b0
    try clear c12
    try clear c12b0
    try clear c13
    try clear c17
    try clear hx275_0
    try clear hx275_1
    try clear hx275_10
    try clear hx275_2
    try clear hx275_3
    try clear hx275_4
    try clear hx275_5
    try clear hx275_6
    try clear hx275_7
    try clear hx275_8
    try clear hx275_9
    try clear hx277_0
    try clear hx277_1
    try clear hx277_10
    try clear hx277_2
    try clear hx277_3
    try clear hx277_4
    try clear hx277_5
    try clear hx277_6
    try clear hx277_7
    try clear hx277_8
    try clear hx277_9
    try clear p275
    try clear p277
    try clear q275
    try clear q277
    obtain ⟨x5_2, x8_2, rfl, HA, HK2, HO_5, HO_7, HB⟩ := hrel
    have hl5_2 := (Kd.R_reads' HO_5.out).1
    rw [hl5_2] at HO_5
    (try simp only [hl5_2])
    (try simp only [hl5_2] at HO_7)
    rcases gk with _ | k2
    ·exact absurd HA.out (by simp [annuitylaw23_OrderOne.l1])
    have H := HA.out
    clear HA
    simp only [annuitylaw23_OrderOne.l1] at H
    by_cases c26 : x8_2 < (l1.length : Int)
    case neg =>
     rw [if_neg c26] at H
     have c26b0 : decide (x8_2 < (l1.length : Int)) = false := decide_eq_false c26
     clear c26
     (first | rw [c26b0] | (simp only [i64_w, i32_w]; rw [c26b0]) | skip)
     have H' := Aside0.mk H
     clear H
     go_wp2
     (try simp only [← hl5_2])
     go_meet
     case rel => exact ⟨_, (x5_2), H', ⟨by have := HK1.out; have := HK2.out; first | omega | exact Nat.le_refl _⟩, ⟨by (try simp only [hl5_2]); (with_reducible repeat (first | apply Kd.R_alloc | apply Kd.R_drewN | apply Kd.R_drew)); exact HO_5.out⟩, ⟨by (try simp only [hl5_2]); (with_reducible repeat (first | apply Kd.R_alloc | apply Kd.R_drewN | apply Kd.R_drew)); exact HO_7.out⟩, ⟨by exact h0q HB.out⟩⟩
    rw [if_pos c26] at H
    have c26b0 : decide (x8_2 < (l1.length : Int)) = true := decide_eq_true c26
    clear c26
    (first | rw [c26b0] | (simp only [i64_w, i32_w]; rw [c26b0]) | skip)
    by_cases c27 : (x5_2.length : Int) > 0
    case neg =>
     rw [if_neg c27] at H
     have c27b0 : decide (0 < (x5_2.length : Int)) = false := decide_eq_false c27
     have c27b1 : decide (0 < x5_2.length) = false := decide_eq_false (by omega)
     clear c27
     have H' := Aside0.mk H
     clear H
     go_wp2
     (try simp only [← hl5_2])
     go_meet
     case rel => exact ⟨_, (x5_2), H', ⟨by have := HK1.out; have := HK2.out; first | omega | exact Nat.le_refl _⟩, ⟨by (try simp only [hl5_2]); (with_reducible repeat (first | apply Kd.R_alloc | apply Kd.R_drewN | apply Kd.R_drew)); exact HO_5.out⟩, ⟨by (try simp only [hl5_2]); (with_reducible repeat (first | apply Kd.R_alloc | apply Kd.R_drewN | apply Kd.R_drew)); exact HO_7.out⟩, ⟨by exact h0q HB.out⟩⟩
    rw [if_pos c27] at H
    have c27b0 : decide (0 < (x5_2.length : Int)) = true := decide_eq_true c27
    have c27b1 : decide (0 < x5_2.length) = true := decide_eq_true (by omega)
    clear c27
    by_cases c28 : (x5_2.length : Int) = 0
    ·rw [if_pos c28] at H
     exact absurd H (by simp)
    rw [if_neg c28] at H
    have c28b0 : ((x5_2.length : Int) == 0) = false := beq_eq_false_iff_ne.mpr c28
    have c28b1 : ((x5_2.length : Int) != 0) = true := bne_iff_ne.mpr c28
    have c28b2 : ¬ (x5_2 = []) := fun h_ => c28 (by rw [h_]; rfl)
    by_cases c29 : 0 ≤ x8_2
    case neg =>
     rw [if_neg c29] at H
     exact absurd H (by simp)
    rw [if_pos c29] at H
    have c29b0 : decide (0 ≤ x8_2) = true := decide_eq_true c29
    clear c29
    replace H := Option.bind_eq_some_iff.mp H
    obtain ⟨t291, A300, H⟩ := H
    replace H : (if 0 ≤ t291 then (if t291 < (x5_2.length : Int) then (if 0 ≤ (Int.tmod x8_2 (x5_2.length : Int)) then (if (Int.tmod x8_2 (x5_2.length : Int)) < (x5_2.length : Int) then (annuitylaw23_OrderOne.l1 k2 l1 ((x5_2.set ((Int.tmod x8_2 (x5_2.length : Int)) : Int).toNat (⟨(rd_T26 x5_2 t291).f0, (rd_T26 x5_2 t291).f1, (rd_T26 x5_2 t291).f2, (rd_T26 x5_2 t291).f3, (rd_T26 x5_2 t291).f4, (rd_T26 x5_2 t291).f5, (rd_T26 x5_2 t291).f6, (rd_T26 x5_2 t291).f7, (rd_T26 x5_2 t291).f8, (rd_T26 x5_2 t291).f9, (rd_T26 x5_2 t291).f10⟩ : S26)).set (t291 : Int).toNat (⟨(rd_T26 x5_2 (Int.tmod x8_2 (x5_2.length : Int))).f0, (rd_T26 x5_2 (Int.tmod x8_2 (x5_2.length : Int))).f1, (rd_T26 x5_2 (Int.tmod x8_2 (x5_2.length : Int))).f2, (rd_T26 x5_2 (Int.tmod x8_2 (x5_2.length : Int))).f3, (rd_T26 x5_2 (Int.tmod x8_2 (x5_2.length : Int))).f4, (rd_T26 x5_2 (Int.tmod x8_2 (x5_2.length : Int))).f5, (rd_T26 x5_2 (Int.tmod x8_2 (x5_2.length : Int))).f6, (rd_T26 x5_2 (Int.tmod x8_2 (x5_2.length : Int))).f7, (rd_T26 x5_2 (Int.tmod x8_2 (x5_2.length : Int))).f8, (rd_T26 x5_2 (Int.tmod x8_2 (x5_2.length : Int))).f9, (rd_T26 x5_2 (Int.tmod x8_2 (x5_2.length : Int))).f10⟩ : S26)) t287 (wrap64 (x8_2 + 1))) else (none)) else (none)) else (none)) else (none)) = some r := H
    have A30 := Aside0.mk A300
    clear A300
    by_cases c31 : 0 ≤ t291
    case neg =>
     rw [if_neg c31] at H
     exact absurd H (by simp)
    rw [if_pos c31] at H
    have c31b0 : decide (0 ≤ t291) = true := decide_eq_true c31
    clear c31
    by_cases c32 : t291 < (x5_2.length : Int)
    case neg =>
     rw [if_neg c32] at H
     exact absurd H (by simp)
    rw [if_pos c32] at H
    have c32b0 : decide (t291 < (x5_2.length : Int)) = true := decide_eq_true c32
    clear c32
    obtain ⟨ji33, hji33⟩ : ∃ j_ : Int, (Int.tmod x8_2 (x5_2.length : Int)) = j_ := ⟨_, rfl⟩
    replace H : (if 0 ≤ (ji33) then (if (ji33) < (x5_2.length : Int) then (annuitylaw23_OrderOne.l1 k2 l1 ((x5_2.set ((ji33) : Int).toNat (⟨(rd_T26 x5_2 t291).f0, (rd_T26 x5_2 t291).f1, (rd_T26 x5_2 t291).f2, (rd_T26 x5_2 t291).f3, (rd_T26 x5_2 t291).f4, (rd_T26 x5_2 t291).f5, (rd_T26 x5_2 t291).f6, (rd_T26 x5_2 t291).f7, (rd_T26 x5_2 t291).f8, (rd_T26 x5_2 t291).f9, (rd_T26 x5_2 t291).f10⟩ : S26)).set (t291 : Int).toNat (⟨(rd_T26 x5_2 (ji33)).f0, (rd_T26 x5_2 (ji33)).f1, (rd_T26 x5_2 (ji33)).f2, (rd_T26 x5_2 (ji33)).f3, (rd_T26 x5_2 (ji33)).f4, (rd_T26 x5_2 (ji33)).f5, (rd_T26 x5_2 (ji33)).f6, (rd_T26 x5_2 (ji33)).f7, (rd_T26 x5_2 (ji33)).f8, (rd_T26 x5_2 (ji33)).f9, (rd_T26 x5_2 (ji33)).f10⟩ : S26)) t287 (wrap64 (x8_2 + 1))) else (none)) else (none)) = some r := by first | (rw [hji33] at H; exact H) | (simp only [hji33] at H ⊢; exact H)
    (try rw [hji33] at A30)
    by_cases c34 : 0 ≤ (ji33)
    case neg =>
     rw [if_neg c34] at H
     exact absurd H (by simp)
    rw [if_pos c34] at H
    have c34b0 : decide (0 ≤ (ji33)) = true := decide_eq_true c34
    clear c34
    by_cases c35 : (ji33) < (x5_2.length : Int)
    case neg =>
     rw [if_neg c35] at H
     exact absurd H (by simp)
    rw [if_pos c35] at H
    have c35b0 : decide ((ji33) < (x5_2.length : Int)) = true := decide_eq_true c35
    clear c35
    obtain ⟨y294, hy294⟩ : ∃ y_ : List (S26), y_ = (x5_2.set ((ji33) : Int).toNat (⟨(rd_T26 x5_2 t291).f0, (rd_T26 x5_2 t291).f1, (rd_T26 x5_2 t291).f2, (rd_T26 x5_2 t291).f3, (rd_T26 x5_2 t291).f4, (rd_T26 x5_2 t291).f5, (rd_T26 x5_2 t291).f6, (rd_T26 x5_2 t291).f7, (rd_T26 x5_2 t291).f8, (rd_T26 x5_2 t291).f9, (rd_T26 x5_2 t291).f10⟩ : S26)) := ⟨_, rfl⟩
    replace H : (annuitylaw23_OrderOne.l1 k2 l1 (y294.set (t291 : Int).toNat (⟨(rd_T26 x5_2 (ji33)).f0, (rd_T26 x5_2 (ji33)).f1, (rd_T26 x5_2 (ji33)).f2, (rd_T26 x5_2 (ji33)).f3, (rd_T26 x5_2 (ji33)).f4, (rd_T26 x5_2 (ji33)).f5, (rd_T26 x5_2 (ji33)).f6, (rd_T26 x5_2 (ji33)).f7, (rd_T26 x5_2 (ji33)).f8, (rd_T26 x5_2 (ji33)).f9, (rd_T26 x5_2 (ji33)).f10⟩ : S26)) t287 (wrap64 (x8_2 + 1))) = some r := by first | (rw [hy294]; with_reducible exact H) | (have H2_ := (Option.bind_some _ _).symm.trans H; rw [hy294]; with_reducible exact H2_) | (have H2_ := (Option.bind_some _ _).symm.trans H; with_reducible exact H2_) | with_reducible exact H | (rw [hy294]; exact H) | exact H
    have Ny294 := Aside0.mk hy294
    clear hy294
    obtain ⟨y295, hy295⟩ : ∃ y_ : List (S26), y_ = (y294.set (t291 : Int).toNat (⟨(rd_T26 x5_2 (ji33)).f0, (rd_T26 x5_2 (ji33)).f1, (rd_T26 x5_2 (ji33)).f2, (rd_T26 x5_2 (ji33)).f3, (rd_T26 x5_2 (ji33)).f4, (rd_T26 x5_2 (ji33)).f5, (rd_T26 x5_2 (ji33)).f6, (rd_T26 x5_2 (ji33)).f7, (rd_T26 x5_2 (ji33)).f8, (rd_T26 x5_2 (ji33)).f9, (rd_T26 x5_2 (ji33)).f10⟩ : S26)) := ⟨_, rfl⟩
    replace H : (annuitylaw23_OrderOne.l1 k2 l1 y295 t287 (wrap64 (x8_2 + 1))) = some r := by first | (rw [hy295]; with_reducible exact H) | (have H2_ := (Option.bind_some _ _).symm.trans H; rw [hy295]; with_reducible exact H2_) | (have H2_ := (Option.bind_some _ _).symm.trans H; with_reducible exact H2_) | with_reducible exact H | (rw [hy295]; exact H) | exact H
    have Ny295 := Aside0.mk hy295
    clear hy295
    have H' := Aside0.mk H
    clear H
    try go_wp2
    have n0_ := Aside0.mk (Kd.R_drew HO_5.out)
    have n1_ := Aside0.mk (Kd.R_drew HO_7.out)
    have n2_ := Aside0.mk (below_drew1 HB.out)
    clear HO_5 HO_7 HB
    have HO_5 := n0_
    have HO_7 := n1_
    have HB := n2_
    clear n0_ n1_ n2_
    have p290 : 0 ≤ (x8_2 : Int) := yd
    have q290 : x8_2 < (l1.length : Int) := yd
    obtain ⟨ad290, e290, hx290_0⟩ := Kd.at_int HR1.out x8_2 p290 q290
    have hw290_0 := hx290_0
    cases e290
    replace hx290_0 := hxb HB.out hx290_0
    replace p290 := eq_true p290
    replace q290 := eq_true q290
    refine start_ (n := 13) (S := fun w' => w'.cell? (ad290.add (x8_2).toNat) = some (.int .i64 (rd l1 x8_2))) (ds := []) #[false, false, false, false, false, false, false, false, false, false, false, false, false] (by kernel_rfl) rfl rfl ((hxb HB.out hw290_0)) (fun hHeld => ?_); refine with_tabW annuitylaw23_OrderOne.tab13 annuitylaw23_OrderOne.bits13 (fun HT_ HW_ => ?_)
    generalize wr.drew = w38 at HO_5 HO_7 HB hx290_0 hHeld ⊢
    refine pure_ (i := 0) (N := some 61) (v := ?_) (a' := ?_) #[true, false, false, false, false, false, false, false, false, false, false, false, false] rfl rfl (any_of HT_.out (by kernel_rfl)) (fun _ _ _ h => h) (Or.inl ⟨by rfl, ?_⟩) ?_ ?_
    rotate_left
    ·intro w'
     go_simp
     with_reducible rfl
    rotate_left
    ·simp only [Act.put, List.setIfInBounds_toArray, List.set_cons_zero, List.set_cons_succ, i64_w, i32_w]
     rfl
    refine pure_ (i := 1) (N := some 62) (v := ?_) (a' := ?_) #[true, true, false, false, false, false, false, false, false, false, false, false, false] rfl rfl (any_of HT_.out (by kernel_rfl)) (fun _ _ _ h => h) (Or.inl ⟨by rfl, ?_⟩) ?_ ?_
    rotate_left
    ·intro w'
     go_simp
     with_reducible rfl
    rotate_left
    ·simp only [Act.put, List.setIfInBounds_toArray, List.set_cons_zero, List.set_cons_succ, i64_w, i32_w]
     rfl
    refine pure_ (i := 2) (N := some 63) (v := ?_) (a' := ?_) #[true, true, true, false, false, false, false, false, false, false, false, false, false] rfl rfl (any_of HT_.out (by kernel_rfl)) (fun _ _ _ h => h) (Or.inl ⟨by rfl, ?_⟩) ?_ ?_
    rotate_left
    ·intro w'
     go_simp
     with_reducible rfl
    rotate_left
    ·simp only [Act.put, List.setIfInBounds_toArray, List.set_cons_zero, List.set_cons_succ, i64_w, i32_w]
     rfl
    refine pure_ (i := 3) (N := some 64) (v := ?_) (a' := ?_) #[true, true, true, true, false, false, false, false, false, false, false, false, false] rfl rfl (any_of HT_.out (by kernel_rfl)) (fun _ _ _ h => h) (Or.inl ⟨by rfl, ?_⟩) ?_ ?_
    rotate_left
    ·intro w'
     go_simp
     with_reducible rfl
    rotate_left
    ·simp only [Act.put, List.setIfInBounds_toArray, List.set_cons_zero, List.set_cons_succ, i64_w, i32_w]
     rfl
    refine pure_ (i := 4) (N := some 65) (v := ?_) (a' := ?_) #[true, true, true, true, true, false, false, false, false, false, false, false, false] rfl rfl (any_of HT_.out (by kernel_rfl)) (fun _ _ _ h => h) (Or.inl ⟨by rfl, ?_⟩) ?_ ?_
    rotate_left
    ·intro w'
     go_simp
     with_reducible rfl
    rotate_left
    ·simp only [Act.put, List.setIfInBounds_toArray, List.set_cons_zero, List.set_cons_succ, i64_w, i32_w]
     rfl
    refine pure_ (i := 5) (N := some 66) (v := ?_) (a' := ?_) #[true, true, true, true, true, true, false, false, false, false, false, false, false] rfl rfl (any_of HT_.out (by kernel_rfl)) (fun _ _ _ h => h) (Or.inl ⟨by rfl, ?_⟩) ?_ ?_
    rotate_left
    ·intro w'
     go_simp
     with_reducible rfl
    rotate_left
    ·simp only [Act.put, List.setIfInBounds_toArray, List.set_cons_zero, List.set_cons_succ, i64_w, i32_w]
     rfl
    refine pure_ (i := 6) (N := some 67) (v := ?_) (a' := ?_) #[true, true, true, true, true, true, true, false, false, false, false, false, false] rfl rfl (any_of HT_.out (by kernel_rfl)) (fun _ _ _ h => h) (Or.inl ⟨by rfl, ?_⟩) ?_ ?_
    rotate_left
    ·intro w'
     go_simp
     with_reducible rfl
    rotate_left
    ·simp only [Act.put, List.setIfInBounds_toArray, List.set_cons_zero, List.set_cons_succ, i64_w, i32_w]
     rfl
    refine pure_ (i := 8) (N := some 69) (v := ?_) (a' := ?_) #[true, true, true, true, true, true, true, false, true, false, false, false, false] rfl rfl (any_of HT_.out (by kernel_rfl)) (fun _ _ _ h => h) (Or.inl ⟨by rfl, ?_⟩) ?_ ?_
    rotate_left
    ·intro w'
     go_simp
     with_reducible rfl
    rotate_left
    ·simp only [Act.put, List.setIfInBounds_toArray, List.set_cons_zero, List.set_cons_succ, i64_w, i32_w]
     rfl
    refine pure_ (i := 9) (N := some 70) (v := ?_) (a' := ?_) #[true, true, true, true, true, true, true, false, true, true, false, false, false] rfl rfl (any_of HT_.out (by kernel_rfl)) (fun _ _ _ h => h) (Or.inl ⟨by rfl, ?_⟩) ?_ ?_
    rotate_left
    ·intro w'
     go_simp
     with_reducible rfl
    rotate_left
    ·simp only [Act.put, List.setIfInBounds_toArray, List.set_cons_zero, List.set_cons_succ, i64_w, i32_w]
     rfl
    refine take_ (i := 7) (N := some 68) (v := ?_) (a' := ?_) #[true, true, true, true, true, true, true, true, true, true, false, false, false] rfl rfl (take_ofW HT_.out HW_.out (by kernel_rfl)) (fun _ _ _ h => h) (Or.inl ⟨by rfl, ?_⟩) hHeld ?_ ?_
    rotate_left
    ·intro w' s0
     go_simp
     with_reducible rfl
    rotate_left
    ·simp only [Act.put, List.setIfInBounds_toArray, List.set_cons_zero, List.set_cons_succ, i64_w, i32_w]
     rfl
    refine one_ (i := 10) (N := some 71) #[true, true, true, true, true, true, true, true, true, true, true, false, false] rfl rfl (one_of HT_.out (by kernel_rfl)) (by decide) (fun K hK => ?_)
    refine goes_ Try.func20 (by kernel_rfl) rfl #[.int .i64 (rd l1 x8_2), .int .i64 (x5_2.length : Int)] (by rfl) rfl rfl (by (try simp only [List.map_toArray, List.map_cons, List.map_nil]); first | done | rfl | (simp only [List.length_drop, List.length_take]; rfl)) ?_
    with_reducible refine (annuitykeep_Mod.calls (rd l1 x8_2) (x5_2.length : Int) t291 _ A30.out).mono ?_
    rintro e w' ⟨rfl, ⟨nd, rfl⟩⟩
    refine ⟨_, rfl, ?_⟩
    refine hK.out _ _ ((hxb HB.out hw290_0 :)) (fun hHeld => ?_)
    clear hK K
    refine norm_ (a' := ?_) ?_ ?_
    rotate_left
    ·show Act.put _ (some 71) _ = _
     simp only [Act.put, List.setIfInBounds_toArray, List.set_cons_zero, List.set_cons_succ, i64_w, i32_w]
     rfl
    refine pure_ (i := 11) (N := some 9) (v := ?_) (a' := ?_) #[true, true, true, true, true, true, true, true, true, true, true, true, false] rfl rfl (any_of HT_.out (by kernel_rfl)) (fun _ _ _ h => h) (Or.inl ⟨by rfl, ?_⟩) ?_ ?_
    rotate_left
    ·intro w'
     go_simp
     with_reducible rfl
    rotate_left
    ·simp only [Act.put, List.setIfInBounds_toArray, List.set_cons_zero, List.set_cons_succ, i64_w, i32_w]
     rfl
    refine pure_ (i := 12) (N := some 10) (v := ?_) (a' := ?_) #[true, true, true, true, true, true, true, true, true, true, true, true, true] rfl rfl (any_of HT_.out (by kernel_rfl)) (fun _ _ _ h => h) (Or.inl ⟨by rfl, ?_⟩) ?_ ?_
    rotate_left
    ·intro w'
     go_simp
     with_reducible rfl
    rotate_left
    ·simp only [Act.put, List.setIfInBounds_toArray, List.set_cons_zero, List.set_cons_succ, i64_w, i32_w]
     rfl
    refine done_ (done_of HT_.out (by kernel_rfl)) ?_
    try go_wp2
    (try (rw [drewN_self w38]; generalize hq_ : World.drewN w38 _ = w38; have n0_ : Aside0 (Kd.R k26 26 w38 w.heap.size (fun k_ => some k_ ≠ (v288 : Value).ownBlock) (.slice Ao23 x5_2.length co23) x5_2) := ⟨by rw [← hq_]; exact (by exact rq HO_5.out)⟩; have n1_ : Aside0 (Kd.R k26 26 w38 w.heap.size (fun k_ => some k_ ≠ (.slice Ao23 x5_2.length co23 : Value).ownBlock) v288 t287) := ⟨by rw [← hq_]; exact (by exact rq HO_7.out)⟩; have n2_ : Aside0 (Below w.heap.size w w38) := ⟨by rw [← hq_]; exact (by exact h0q HB.out)⟩; clear HO_5 HO_7 HB hq_; have HO_5 := n0_; have HO_7 := n1_; have HB := n2_; clear n0_ n1_ n2_))
    have n0_ := Aside0.mk (Kd.R_drew HO_5.out)
    have n1_ := Aside0.mk (Kd.R_drew HO_7.out)
    have n2_ := Aside0.mk (below_drew1 HB.out)
    clear HO_5 HO_7 HB
    have HO_5 := n0_
    have HO_7 := n1_
    have HB := n2_
    clear n0_ n1_ n2_
    have p292 : 0 ≤ (t291 : Int) := yd
    have q292 : t291 < (x5_2.length : Int) := yd
    obtain ⟨ad292, e292, hx292_0, hx292_1, hx292_2, hx292_3, hx292_4, hx292_5, hx292_6, hx292_7, hx292_8, hx292_9, hx292_10⟩ := at_T26 (Kd.R_reads' HO_5.out).2.2 t291 p292 q292
    cases e292
    replace p292 := eq_true p292
    replace q292 := eq_true q292
    have p293 : 0 ≤ ((ji33) : Int) := yd
    have q293 : (ji33) < (x5_2.length : Int) := yd
    obtain ⟨ad293, e293, hx293_0, hx293_1, hx293_2, hx293_3, hx293_4, hx293_5, hx293_6, hx293_7, hx293_8, hx293_9, hx293_10⟩ := at_T26 (Kd.R_reads' HO_5.out).2.2 (ji33) p293 q293
    obtain rfl : ad292 = ad293 := (by injection e293)
    replace p293 := eq_true p293
    replace q293 := eq_true q293
    have p36 : 0 ≤ ((ji33) : Int) := yd
    have q36 : ((ji33) : Int) < ((x5_2.length : Int) : Int) := yd
    obtain ⟨go36, co36, eo36, gb36, gl36, cl36, HG36⟩ := Kd.R_form HO_5.out (by omega)
    (first | cases eo36 | (injection eo36 with ea_ en_ ec_; (first | subst ea_ | (injection ea_ with ea_; subst ea_)); subst ec_; clear en_))
    have GB36 := Aside0.mk gb36
    have GG36 := Aside0.mk HG36
    clear gb36 gl36 HG36
    (first | simp only [add_plain] at hx292_0 | skip)
    (first | simp only [add_plain] at hx292_1 | skip)
    (first | simp only [add_plain] at hx292_2 | skip)
    (first | simp only [add_plain] at hx292_3 | skip)
    (first | simp only [add_plain] at hx292_4 | skip)
    (first | simp only [add_plain] at hx292_5 | skip)
    (first | simp only [add_plain] at hx292_6 | skip)
    (first | simp only [add_plain] at hx292_7 | skip)
    (first | simp only [add_plain] at hx292_8 | skip)
    (first | simp only [add_plain] at hx292_9 | skip)
    (first | simp only [add_plain] at hx292_10 | skip)
    (first | simp only [add_plain] at hx293_0 | skip)
    (first | simp only [add_plain] at hx293_1 | skip)
    (first | simp only [add_plain] at hx293_2 | skip)
    (first | simp only [add_plain] at hx293_3 | skip)
    (first | simp only [add_plain] at hx293_4 | skip)
    (first | simp only [add_plain] at hx293_5 | skip)
    (first | simp only [add_plain] at hx293_6 | skip)
    (first | simp only [add_plain] at hx293_7 | skip)
    (first | simp only [add_plain] at hx293_8 | skip)
    (first | simp only [add_plain] at hx293_9 | skip)
    (first | simp only [add_plain] at hx293_10 | skip)
    obtain ⟨ce36, hcl36, hM36, hcc36, hfr36⟩ := Kd.R_elem HO_5.out z26 ((ji33) : Int) p36 q36
    obtain rfl := k26_openM hM36
    have hx36_0 : World.cell? _ ⟨go36, ((ji33) : Int).toNat * 11, none⟩ = some (.int .i64 ((rd_T26 x5_2 (ji33)).f0)) := hcc36 0 _ rfl
    have hx36_1 : World.cell? _ ⟨go36, ((ji33) : Int).toNat * 11 + 1, none⟩ = some (.int .i64 ((rd_T26 x5_2 (ji33)).f1)) := hcc36 1 _ rfl
    have hx36_2 : World.cell? _ ⟨go36, ((ji33) : Int).toNat * 11 + 2, none⟩ = some (.int .u32 ((rd_T26 x5_2 (ji33)).f2)) := hcc36 2 _ rfl
    have hx36_3 : World.cell? _ ⟨go36, ((ji33) : Int).toNat * 11 + 3, none⟩ = some (.int .i64 ((rd_T26 x5_2 (ji33)).f3)) := hcc36 3 _ rfl
    have hx36_4 : World.cell? _ ⟨go36, ((ji33) : Int).toNat * 11 + 4, none⟩ = some (.int .i64 ((rd_T26 x5_2 (ji33)).f4)) := hcc36 4 _ rfl
    have hx36_5 : World.cell? _ ⟨go36, ((ji33) : Int).toNat * 11 + 5, none⟩ = some (.float .f64 ((rd_T26 x5_2 (ji33)).f5)) := hcc36 5 _ rfl
    have hx36_6 : World.cell? _ ⟨go36, ((ji33) : Int).toNat * 11 + 6, none⟩ = some (.float .f64 ((rd_T26 x5_2 (ji33)).f6)) := hcc36 6 _ rfl
    have hx36_7 : World.cell? _ ⟨go36, ((ji33) : Int).toNat * 11 + 7, none⟩ = some (.bool ((rd_T26 x5_2 (ji33)).f7)) := hcc36 7 _ rfl
    have hx36_8 : World.cell? _ ⟨go36, ((ji33) : Int).toNat * 11 + 8, none⟩ = some (.int .i64 ((rd_T26 x5_2 (ji33)).f8)) := hcc36 8 _ rfl
    have hx36_9 : World.cell? _ ⟨go36, ((ji33) : Int).toNat * 11 + 9, none⟩ = some (.int .i64 ((rd_T26 x5_2 (ji33)).f9)) := hcc36 9 _ rfl
    have hx36_10 : World.cell? _ ⟨go36, ((ji33) : Int).toNat * 11 + 10, none⟩ = some (.int .i64 ((rd_T26 x5_2 (ji33)).f10)) := hcc36 10 _ rfl
    have hf36_0 : World.frozen? _ ⟨go36, ((ji33) : Int).toNat * 11, none⟩ = false := hfr36 0
    have hf36_1 : World.frozen? _ ⟨go36, ((ji33) : Int).toNat * 11 + 1, none⟩ = false := hfr36 1
    have hf36_2 : World.frozen? _ ⟨go36, ((ji33) : Int).toNat * 11 + 2, none⟩ = false := hfr36 2
    have hf36_3 : World.frozen? _ ⟨go36, ((ji33) : Int).toNat * 11 + 3, none⟩ = false := hfr36 3
    have hf36_4 : World.frozen? _ ⟨go36, ((ji33) : Int).toNat * 11 + 4, none⟩ = false := hfr36 4
    have hf36_5 : World.frozen? _ ⟨go36, ((ji33) : Int).toNat * 11 + 5, none⟩ = false := hfr36 5
    have hf36_6 : World.frozen? _ ⟨go36, ((ji33) : Int).toNat * 11 + 6, none⟩ = false := hfr36 6
    have hf36_7 : World.frozen? _ ⟨go36, ((ji33) : Int).toNat * 11 + 7, none⟩ = false := hfr36 7
    have hf36_8 : World.frozen? _ ⟨go36, ((ji33) : Int).toNat * 11 + 8, none⟩ = false := hfr36 8
    have hf36_9 : World.frozen? _ ⟨go36, ((ji33) : Int).toNat * 11 + 9, none⟩ = false := hfr36 9
    have hf36_10 : World.frozen? _ ⟨go36, ((ji33) : Int).toNat * 11 + 10, none⟩ = false := hfr36 10
    clear hcl36 hcc36 hfr36 hM36
    replace p36 := eq_true p36
    replace q36 := eq_true q36
    obtain ⟨ce40, hcl40, hM40, hcc40, hfr40⟩ := Kd.R_elem HO_5.out z26 ((ji33) : Int) (yd) (by have h_ : ((ji33) : Int) < ((x5_2.length : Int) : Int) := yd; first | exact h_ | (have e_ := (Kd.R_reads' HO_5.out).1; omega) | simpa using h_)
    obtain rfl := k26_openM hM40
    have HP40 := (Kd.R_seg HO_5.out ((ji33) : Int) (yd) (by have h_ : ((ji33) : Int) < ((x5_2.length : Int) : Int) := yd; first | exact h_ | (have e_ := (Kd.R_reads' HO_5.out).1; omega) | simpa using h_) (seg := [.int .i64 ((rd_T26 x5_2 t291).f0), .int .i64 ((rd_T26 x5_2 t291).f1), .int .u32 ((rd_T26 x5_2 t291).f2), .int .i64 ((rd_T26 x5_2 t291).f3), .int .i64 ((rd_T26 x5_2 t291).f4), .float .f64 ((rd_T26 x5_2 t291).f5), .float .f64 ((rd_T26 x5_2 t291).f6), .bool ((rd_T26 x5_2 t291).f7), .int .i64 ((rd_T26 x5_2 t291).f8), .int .i64 ((rd_T26 x5_2 t291).f9), .int .i64 ((rd_T26 x5_2 t291).f10)]) (j := 0) hcl40 hcc40 (show 11 ≤ 11 from by decide) (x' := (⟨(rd_T26 x5_2 t291).f0, (rd_T26 x5_2 t291).f1, (rd_T26 x5_2 t291).f2, (rd_T26 x5_2 t291).f3, (rd_T26 x5_2 t291).f4, (rd_T26 x5_2 t291).f5, (rd_T26 x5_2 t291).f6, (rd_T26 x5_2 t291).f7, (rd_T26 x5_2 t291).f8, (rd_T26 x5_2 t291).f9, (rd_T26 x5_2 t291).f10⟩ : S26)) (k26_mkM _ _ _ (⟨(rd_T26 x5_2 t291).f0, (rd_T26 x5_2 t291).f1, (rd_T26 x5_2 t291).f2, (rd_T26 x5_2 t291).f3, (rd_T26 x5_2 t291).f4, (rd_T26 x5_2 t291).f5, (rd_T26 x5_2 t291).f6, (rd_T26 x5_2 t291).f7, (rd_T26 x5_2 t291).f8, (rd_T26 x5_2 t291).f9, (rd_T26 x5_2 t291).f10⟩ : S26) ) (fun _ hk => hk)).1
    rw [← Ny294.out] at HP40
    have HQ40 := Aside0.mk HP40
    clear hcl40 hcc40 hfr40 hM40 HP40
    have p37 : 0 ≤ (t291 : Int) := yd
    have q37 : (t291 : Int) < ((x5_2.length : Int) : Int) := yd
    obtain ⟨ce37, hcl37, hM37, hcc37, hfr37⟩ := Kd.R_elem HQ40.out z26 (t291 : Int) p37 q37
    obtain rfl := k26_openM hM37
    have hx37_0 : World.cell? _ ⟨go36, (t291 : Int).toNat * 11, none⟩ = some (.int .i64 ((rd_T26 y294 t291).f0)) := hcc37 0 _ rfl
    have hx37_1 : World.cell? _ ⟨go36, (t291 : Int).toNat * 11 + 1, none⟩ = some (.int .i64 ((rd_T26 y294 t291).f1)) := hcc37 1 _ rfl
    have hx37_2 : World.cell? _ ⟨go36, (t291 : Int).toNat * 11 + 2, none⟩ = some (.int .u32 ((rd_T26 y294 t291).f2)) := hcc37 2 _ rfl
    have hx37_3 : World.cell? _ ⟨go36, (t291 : Int).toNat * 11 + 3, none⟩ = some (.int .i64 ((rd_T26 y294 t291).f3)) := hcc37 3 _ rfl
    have hx37_4 : World.cell? _ ⟨go36, (t291 : Int).toNat * 11 + 4, none⟩ = some (.int .i64 ((rd_T26 y294 t291).f4)) := hcc37 4 _ rfl
    have hx37_5 : World.cell? _ ⟨go36, (t291 : Int).toNat * 11 + 5, none⟩ = some (.float .f64 ((rd_T26 y294 t291).f5)) := hcc37 5 _ rfl
    have hx37_6 : World.cell? _ ⟨go36, (t291 : Int).toNat * 11 + 6, none⟩ = some (.float .f64 ((rd_T26 y294 t291).f6)) := hcc37 6 _ rfl
    have hx37_7 : World.cell? _ ⟨go36, (t291 : Int).toNat * 11 + 7, none⟩ = some (.bool ((rd_T26 y294 t291).f7)) := hcc37 7 _ rfl
    have hx37_8 : World.cell? _ ⟨go36, (t291 : Int).toNat * 11 + 8, none⟩ = some (.int .i64 ((rd_T26 y294 t291).f8)) := hcc37 8 _ rfl
    have hx37_9 : World.cell? _ ⟨go36, (t291 : Int).toNat * 11 + 9, none⟩ = some (.int .i64 ((rd_T26 y294 t291).f9)) := hcc37 9 _ rfl
    have hx37_10 : World.cell? _ ⟨go36, (t291 : Int).toNat * 11 + 10, none⟩ = some (.int .i64 ((rd_T26 y294 t291).f10)) := hcc37 10 _ rfl
    have hf37_0 : World.frozen? _ ⟨go36, (t291 : Int).toNat * 11, none⟩ = false := hfr37 0
    have hf37_1 : World.frozen? _ ⟨go36, (t291 : Int).toNat * 11 + 1, none⟩ = false := hfr37 1
    have hf37_2 : World.frozen? _ ⟨go36, (t291 : Int).toNat * 11 + 2, none⟩ = false := hfr37 2
    have hf37_3 : World.frozen? _ ⟨go36, (t291 : Int).toNat * 11 + 3, none⟩ = false := hfr37 3
    have hf37_4 : World.frozen? _ ⟨go36, (t291 : Int).toNat * 11 + 4, none⟩ = false := hfr37 4
    have hf37_5 : World.frozen? _ ⟨go36, (t291 : Int).toNat * 11 + 5, none⟩ = false := hfr37 5
    have hf37_6 : World.frozen? _ ⟨go36, (t291 : Int).toNat * 11 + 6, none⟩ = false := hfr37 6
    have hf37_7 : World.frozen? _ ⟨go36, (t291 : Int).toNat * 11 + 7, none⟩ = false := hfr37 7
    have hf37_8 : World.frozen? _ ⟨go36, (t291 : Int).toNat * 11 + 8, none⟩ = false := hfr37 8
    have hf37_9 : World.frozen? _ ⟨go36, (t291 : Int).toNat * 11 + 9, none⟩ = false := hfr37 9
    have hf37_10 : World.frozen? _ ⟨go36, (t291 : Int).toNat * 11 + 10, none⟩ = false := hfr37 10
    clear hcl37 hcc37 hfr37 hM37
    replace p37 := eq_true p37
    replace q37 := eq_true q37
    obtain ⟨ce41, hcl41, hM41, hcc41, hfr41⟩ := Kd.R_elem HQ40.out z26 (t291 : Int) (yd) (by have h_ : (t291 : Int) < ((x5_2.length : Int) : Int) := yd; first | exact h_ | (have e_ := (Kd.R_reads' HO_5.out).1; omega) | simpa using h_)
    obtain rfl := k26_openM hM41
    have HP41 := (Kd.R_seg HQ40.out (t291 : Int) (yd) (by have h_ : (t291 : Int) < ((x5_2.length : Int) : Int) := yd; first | exact h_ | (have e_ := (Kd.R_reads' HO_5.out).1; omega) | simpa using h_) (seg := [.int .i64 ((rd_T26 x5_2 (ji33)).f0), .int .i64 ((rd_T26 x5_2 (ji33)).f1), .int .u32 ((rd_T26 x5_2 (ji33)).f2), .int .i64 ((rd_T26 x5_2 (ji33)).f3), .int .i64 ((rd_T26 x5_2 (ji33)).f4), .float .f64 ((rd_T26 x5_2 (ji33)).f5), .float .f64 ((rd_T26 x5_2 (ji33)).f6), .bool ((rd_T26 x5_2 (ji33)).f7), .int .i64 ((rd_T26 x5_2 (ji33)).f8), .int .i64 ((rd_T26 x5_2 (ji33)).f9), .int .i64 ((rd_T26 x5_2 (ji33)).f10)]) (j := 0) hcl41 hcc41 (show 11 ≤ 11 from by decide) (x' := (⟨(rd_T26 x5_2 (ji33)).f0, (rd_T26 x5_2 (ji33)).f1, (rd_T26 x5_2 (ji33)).f2, (rd_T26 x5_2 (ji33)).f3, (rd_T26 x5_2 (ji33)).f4, (rd_T26 x5_2 (ji33)).f5, (rd_T26 x5_2 (ji33)).f6, (rd_T26 x5_2 (ji33)).f7, (rd_T26 x5_2 (ji33)).f8, (rd_T26 x5_2 (ji33)).f9, (rd_T26 x5_2 (ji33)).f10⟩ : S26)) (k26_mkM _ _ _ (⟨(rd_T26 x5_2 (ji33)).f0, (rd_T26 x5_2 (ji33)).f1, (rd_T26 x5_2 (ji33)).f2, (rd_T26 x5_2 (ji33)).f3, (rd_T26 x5_2 (ji33)).f4, (rd_T26 x5_2 (ji33)).f5, (rd_T26 x5_2 (ji33)).f6, (rd_T26 x5_2 (ji33)).f7, (rd_T26 x5_2 (ji33)).f8, (rd_T26 x5_2 (ji33)).f9, (rd_T26 x5_2 (ji33)).f10⟩ : S26) ) (fun _ hk => hk)).1
    rw [← Ny295.out] at HP41
    have HQ41 := Aside0.mk HP41
    clear hcl41 hcc41 hfr41 hM41 HP41
    refine start_ (n := 16) (S := fun w' => w'.cell? ⟨go36, ((t291).toNat * 11), none⟩ = some (.int .i64 ((rd_T26 x5_2 t291).f0)) ∧ w'.cell? ⟨go36, ((t291).toNat * 11) + 1, none⟩ = some (.int .i64 ((rd_T26 x5_2 t291).f1)) ∧ w'.cell? ⟨go36, ((t291).toNat * 11) + 2, none⟩ = some (.int .u32 ((rd_T26 x5_2 t291).f2)) ∧ w'.cell? ⟨go36, ((t291).toNat * 11) + 3, none⟩ = some (.int .i64 ((rd_T26 x5_2 t291).f3)) ∧ w'.cell? ⟨go36, ((t291).toNat * 11) + 4, none⟩ = some (.int .i64 ((rd_T26 x5_2 t291).f4)) ∧ w'.cell? ⟨go36, ((t291).toNat * 11) + 5, none⟩ = some (.float .f64 ((rd_T26 x5_2 t291).f5)) ∧ w'.cell? ⟨go36, ((t291).toNat * 11) + 6, none⟩ = some (.float .f64 ((rd_T26 x5_2 t291).f6)) ∧ w'.cell? ⟨go36, ((t291).toNat * 11) + 7, none⟩ = some (.bool ((rd_T26 x5_2 t291).f7)) ∧ w'.cell? ⟨go36, ((t291).toNat * 11) + 8, none⟩ = some (.int .i64 ((rd_T26 x5_2 t291).f8)) ∧ w'.cell? ⟨go36, ((t291).toNat * 11) + 9, none⟩ = some (.int .i64 ((rd_T26 x5_2 t291).f9)) ∧ w'.cell? ⟨go36, ((t291).toNat * 11) + 10, none⟩ = some (.int .i64 ((rd_T26 x5_2 t291).f10)) ∧ w'.cell? ⟨go36, (((ji33)).toNat * 11), none⟩ = some (.int .i64 ((rd_T26 x5_2 (ji33)).f0)) ∧ w'.cell? ⟨go36, (((ji33)).toNat * 11) + 1, none⟩ = some (.int .i64 ((rd_T26 x5_2 (ji33)).f1)) ∧ w'.cell? ⟨go36, (((ji33)).toNat * 11) + 2, none⟩ = some (.int .u32 ((rd_T26 x5_2 (ji33)).f2)) ∧ w'.cell? ⟨go36, (((ji33)).toNat * 11) + 3, none⟩ = some (.int .i64 ((rd_T26 x5_2 (ji33)).f3)) ∧ w'.cell? ⟨go36, (((ji33)).toNat * 11) + 4, none⟩ = some (.int .i64 ((rd_T26 x5_2 (ji33)).f4)) ∧ w'.cell? ⟨go36, (((ji33)).toNat * 11) + 5, none⟩ = some (.float .f64 ((rd_T26 x5_2 (ji33)).f5)) ∧ w'.cell? ⟨go36, (((ji33)).toNat * 11) + 6, none⟩ = some (.float .f64 ((rd_T26 x5_2 (ji33)).f6)) ∧ w'.cell? ⟨go36, (((ji33)).toNat * 11) + 7, none⟩ = some (.bool ((rd_T26 x5_2 (ji33)).f7)) ∧ w'.cell? ⟨go36, (((ji33)).toNat * 11) + 8, none⟩ = some (.int .i64 ((rd_T26 x5_2 (ji33)).f8)) ∧ w'.cell? ⟨go36, (((ji33)).toNat * 11) + 9, none⟩ = some (.int .i64 ((rd_T26 x5_2 (ji33)).f9)) ∧ w'.cell? ⟨go36, (((ji33)).toNat * 11) + 10, none⟩ = some (.int .i64 ((rd_T26 x5_2 (ji33)).f10))) (ds := [13, 15]) #[false, false, false, false, false, false, false, false, false, false, false, false, false, false, false, false] (by kernel_rfl) rfl rfl ⟨hx292_0, hx292_1, hx292_2, hx292_3, hx292_4, hx292_5, hx292_6, hx292_7, hx292_8, hx292_9, hx292_10, hx293_0, hx293_1, hx293_2, hx293_3, hx293_4, hx293_5, hx293_6, hx293_7, hx293_8, hx293_9, hx293_10⟩ (fun hHeld => ?_); refine with_tabW annuitylaw23_OrderOne.tab14 annuitylaw23_OrderOne.bits14 (fun HT_ HW_ => ?_)
    generalize w38.drew = w39 at HO_5 HO_7 HB GG36 HQ40 HQ41 hf36_0 hf36_1 hf36_10 hf36_2 hf36_3 hf36_4 hf36_5 hf36_6 hf36_7 hf36_8 hf36_9 hf37_0 hf37_1 hf37_10 hf37_2 hf37_3 hf37_4 hf37_5 hf37_6 hf37_7 hf37_8 hf37_9 hx292_0 hx292_1 hx292_10 hx292_2 hx292_3 hx292_4 hx292_5 hx292_6 hx292_7 hx292_8 hx292_9 hx293_0 hx293_1 hx293_10 hx293_2 hx293_3 hx293_4 hx293_5 hx293_6 hx293_7 hx293_8 hx293_9 hx36_0 hx36_1 hx36_10 hx36_2 hx36_3 hx36_4 hx36_5 hx36_6 hx36_7 hx36_8 hx36_9 hx37_0 hx37_1 hx37_10 hx37_2 hx37_3 hx37_4 hx37_5 hx37_6 hx37_7 hx37_8 hx37_9 hHeld ⊢
    refine pure_ (i := 0) (N := some 72) (v := ?_) (a' := ?_) #[true, false, false, false, false, false, false, false, false, false, false, false, false, false, false, false] rfl rfl (any_of HT_.out (by kernel_rfl)) (fun _ _ _ h => h) (Or.inl ⟨by rfl, ?_⟩) ?_ ?_
    rotate_left
    ·intro w'
     go_simp
     with_reducible rfl
    rotate_left
    ·simp only [Act.put, List.setIfInBounds_toArray, List.set_cons_zero, List.set_cons_succ, i64_w, i32_w]
     rfl
    refine pure_ (i := 1) (N := some 73) (v := ?_) (a' := ?_) #[true, true, false, false, false, false, false, false, false, false, false, false, false, false, false, false] rfl rfl (any_of HT_.out (by kernel_rfl)) (fun _ _ _ h => h) (Or.inl ⟨by rfl, ?_⟩) ?_ ?_
    rotate_left
    ·intro w'
     go_simp
     with_reducible rfl
    rotate_left
    ·simp only [Act.put, List.setIfInBounds_toArray, List.set_cons_zero, List.set_cons_succ, i64_w, i32_w]
     rfl
    refine pure_ (i := 2) (N := some 74) (v := ?_) (a' := ?_) #[true, true, true, false, false, false, false, false, false, false, false, false, false, false, false, false] rfl rfl (any_of HT_.out (by kernel_rfl)) (fun _ _ _ h => h) (Or.inl ⟨by rfl, ?_⟩) ?_ ?_
    rotate_left
    ·intro w'
     go_simp
     with_reducible rfl
    rotate_left
    ·simp only [Act.put, List.setIfInBounds_toArray, List.set_cons_zero, List.set_cons_succ, i64_w, i32_w]
     rfl
    refine pure_ (i := 3) (N := some 75) (v := ?_) (a' := ?_) #[true, true, true, true, false, false, false, false, false, false, false, false, false, false, false, false] rfl rfl (any_of HT_.out (by kernel_rfl)) (fun _ _ _ h => h) (Or.inl ⟨by rfl, ?_⟩) ?_ ?_
    rotate_left
    ·intro w'
     go_simp
     with_reducible rfl
    rotate_left
    ·simp only [Act.put, List.setIfInBounds_toArray, List.set_cons_zero, List.set_cons_succ, i64_w, i32_w]
     rfl
    refine pure_ (i := 4) (N := some 76) (v := ?_) (a' := ?_) #[true, true, true, true, true, false, false, false, false, false, false, false, false, false, false, false] rfl rfl (any_of HT_.out (by kernel_rfl)) (fun _ _ _ h => h) (Or.inl ⟨by rfl, ?_⟩) ?_ ?_
    rotate_left
    ·intro w'
     go_simp
     with_reducible rfl
    rotate_left
    ·simp only [Act.put, List.setIfInBounds_toArray, List.set_cons_zero, List.set_cons_succ, i64_w, i32_w]
     rfl
    refine pure_ (i := 5) (N := some 77) (v := ?_) (a' := ?_) #[true, true, true, true, true, true, false, false, false, false, false, false, false, false, false, false] rfl rfl (any_of HT_.out (by kernel_rfl)) (fun _ _ _ h => h) (Or.inl ⟨by rfl, ?_⟩) ?_ ?_
    rotate_left
    ·intro w'
     go_simp
     with_reducible rfl
    rotate_left
    ·simp only [Act.put, List.setIfInBounds_toArray, List.set_cons_zero, List.set_cons_succ, i64_w, i32_w]
     rfl
    refine pure_ (i := 6) (N := some 78) (v := ?_) (a' := ?_) #[true, true, true, true, true, true, true, false, false, false, false, false, false, false, false, false] rfl rfl (any_of HT_.out (by kernel_rfl)) (fun _ _ _ h => h) (Or.inl ⟨by rfl, ?_⟩) ?_ ?_
    rotate_left
    ·intro w'
     go_simp
     with_reducible rfl
    rotate_left
    ·simp only [Act.put, List.setIfInBounds_toArray, List.set_cons_zero, List.set_cons_succ, i64_w, i32_w]
     rfl
    refine pure_ (i := 8) (N := some 80) (v := ?_) (a' := ?_) #[true, true, true, true, true, true, true, false, true, false, false, false, false, false, false, false] rfl rfl (any_of HT_.out (by kernel_rfl)) (fun _ _ _ h => h) (Or.inl ⟨by rfl, ?_⟩) ?_ ?_
    rotate_left
    ·intro w'
     go_simp
     with_reducible rfl
    rotate_left
    ·simp only [Act.put, List.setIfInBounds_toArray, List.set_cons_zero, List.set_cons_succ, i64_w, i32_w]
     rfl
    refine pure_ (i := 9) (N := some 81) (v := ?_) (a' := ?_) #[true, true, true, true, true, true, true, false, true, true, false, false, false, false, false, false] rfl rfl (any_of HT_.out (by kernel_rfl)) (fun _ _ _ h => h) (Or.inl ⟨by rfl, ?_⟩) ?_ ?_
    rotate_left
    ·intro w'
     go_simp
     with_reducible rfl
    rotate_left
    ·simp only [Act.put, List.setIfInBounds_toArray, List.set_cons_zero, List.set_cons_succ, i64_w, i32_w]
     rfl
    refine pure_ (i := 10) (N := some 82) (v := ?_) (a' := ?_) #[true, true, true, true, true, true, true, false, true, true, true, false, false, false, false, false] rfl rfl (any_of HT_.out (by kernel_rfl)) (fun _ _ _ h => h) (Or.inl ⟨by rfl, ?_⟩) ?_ ?_
    rotate_left
    ·intro w'
     go_simp
     with_reducible rfl
    rotate_left
    ·simp only [Act.put, List.setIfInBounds_toArray, List.set_cons_zero, List.set_cons_succ, i64_w, i32_w]
     rfl
    refine take_ (i := 7) (N := some 79) (v := ?_) (a' := ?_) #[true, true, true, true, true, true, true, true, true, true, true, false, false, false, false, false] rfl rfl (take_ofW HT_.out HW_.out (by kernel_rfl)) (fun _ _ _ h => h) (Or.inl ⟨by rfl, ?_⟩) hHeld ?_ ?_
    rotate_left
    ·rintro w' ⟨s0, s1, s2, s3, s4, s5, s6, s7, s8, s9, s10, s11, s12, s13, s14, s15, s16, s17, s18, s19, s20, s21⟩
     go_simp
     with_reducible rfl
    rotate_left
    ·simp only [Act.put, List.setIfInBounds_toArray, List.set_cons_zero, List.set_cons_succ, i64_w, i32_w]
     rfl
    refine take_ (i := 11) (N := some 83) (v := ?_) (a' := ?_) #[true, true, true, true, true, true, true, true, true, true, true, true, false, false, false, false] rfl rfl (take_ofW HT_.out HW_.out (by kernel_rfl)) (fun _ _ _ h => h) (Or.inl ⟨by rfl, ?_⟩) hHeld ?_ ?_
    rotate_left
    ·rintro w' ⟨s0, s1, s2, s3, s4, s5, s6, s7, s8, s9, s10, s11, s12, s13, s14, s15, s16, s17, s18, s19, s20, s21⟩
     go_simp
     with_reducible rfl
    rotate_left
    ·simp only [Act.put, List.setIfInBounds_toArray, List.set_cons_zero, List.set_cons_succ, i64_w, i32_w]
     rfl
    refine pure_ (i := 12) (N := some 84) (v := ?_) (a' := ?_) #[true, true, true, true, true, true, true, true, true, true, true, true, true, false, false, false] rfl rfl (any_of HT_.out (by kernel_rfl)) (fun _ _ _ h => h) (Or.inl ⟨by rfl, ?_⟩) ?_ ?_
    rotate_left
    ·intro w'
     go_simp
     with_reducible rfl
    rotate_left
    ·simp only [Act.put, List.setIfInBounds_toArray, List.set_cons_zero, List.set_cons_succ, i64_w, i32_w]
     rfl
    refine last_ (i := 13) (N := none) #[true, true, true, true, true, true, true, true, true, true, true, true, true, true, false, false] rfl rfl (one_of HT_.out (by kernel_rfl)) (by decide) (fun K hK => ?_)
    refine skip_ (w1 := (((((((((((w39).setCell ⟨go36, ji33.toNat * 11, none⟩ (.int .i64 ((rd_T26 x5_2 t291).f0))).setCell ⟨go36, ji33.toNat * 11 + 1, none⟩ (.int .i64 ((rd_T26 x5_2 t291).f1))).setCell ⟨go36, ji33.toNat * 11 + 2, none⟩ (.int .u32 ((rd_T26 x5_2 t291).f2))).setCell ⟨go36, ji33.toNat * 11 + 3, none⟩ (.int .i64 ((rd_T26 x5_2 t291).f3))).setCell ⟨go36, ji33.toNat * 11 + 4, none⟩ (.int .i64 ((rd_T26 x5_2 t291).f4))).setCell ⟨go36, ji33.toNat * 11 + 5, none⟩ (.float .f64 ((rd_T26 x5_2 t291).f5))).setCell ⟨go36, ji33.toNat * 11 + 6, none⟩ (.float .f64 ((rd_T26 x5_2 t291).f6))).setCell ⟨go36, ji33.toNat * 11 + 7, none⟩ (.bool ((rd_T26 x5_2 t291).f7))).setCell ⟨go36, ji33.toNat * 11 + 8, none⟩ (.int .i64 ((rd_T26 x5_2 t291).f8))).setCell ⟨go36, ji33.toNat * 11 + 9, none⟩ (.int .i64 ((rd_T26 x5_2 t291).f9))).setCell ⟨go36, ji33.toNat * 11 + 10, none⟩ (.int .i64 ((rd_T26 x5_2 t291).f10))) (by rfl) rfl (st11 (w := w39) (g := go36) (o := ji33.toNat * 11) (a0 := (rd_T26 x5_2 t291).f0) (a1 := (rd_T26 x5_2 t291).f1) (a2 := (rd_T26 x5_2 t291).f2) (a3 := (rd_T26 x5_2 t291).f3) (a4 := (rd_T26 x5_2 t291).f4) (a5 := (rd_T26 x5_2 t291).f5) (a6 := (rd_T26 x5_2 t291).f6) (a7 := (rd_T26 x5_2 t291).f7) (a8 := (rd_T26 x5_2 t291).f8) (a9 := (rd_T26 x5_2 t291).f9) (a10 := (rd_T26 x5_2 t291).f10) (p := .tmp 84) (v := .tmp 79) rfl rfl rfl hx36_0 hx36_1 hx36_2 hx36_3 hx36_4 hx36_5 hx36_6 hx36_7 hx36_8 hx36_9 hx36_10 hf36_0 hf36_1 hf36_2 hf36_3 hf36_4 hf36_5 hf36_6 hf36_7 hf36_8 hf36_9 hf36_10) ?_
    refine hK.out _ _ ?_
    clear hK K
    refine pure_ (i := 14) (N := some 85) (v := ?_) (a' := ?_) #[true, true, true, true, true, true, true, true, true, true, true, true, true, true, true, false] rfl rfl (any_of HT_.out (by kernel_rfl)) (fun _ _ _ h => h) (Or.inl ⟨by rfl, ?_⟩) ?_ ?_
    rotate_left
    ·intro w'
     go_simp
     with_reducible rfl
    rotate_left
    ·simp only [Act.put, List.setIfInBounds_toArray, List.set_cons_zero, List.set_cons_succ, i64_w, i32_w]
     rfl
    refine last_ (i := 15) (N := none) #[true, true, true, true, true, true, true, true, true, true, true, true, true, true, true, true] rfl rfl (one_of HT_.out (by kernel_rfl)) (by decide) (fun K hK => ?_)
    generalize hW_ : (((((((((((w39).setCell ⟨go36, ji33.toNat * 11, none⟩ (.int .i64 ((rd_T26 x5_2 t291).f0))).setCell ⟨go36, ji33.toNat * 11 + 1, none⟩ (.int .i64 ((rd_T26 x5_2 t291).f1))).setCell ⟨go36, ji33.toNat * 11 + 2, none⟩ (.int .u32 ((rd_T26 x5_2 t291).f2))).setCell ⟨go36, ji33.toNat * 11 + 3, none⟩ (.int .i64 ((rd_T26 x5_2 t291).f3))).setCell ⟨go36, ji33.toNat * 11 + 4, none⟩ (.int .i64 ((rd_T26 x5_2 t291).f4))).setCell ⟨go36, ji33.toNat * 11 + 5, none⟩ (.float .f64 ((rd_T26 x5_2 t291).f5))).setCell ⟨go36, ji33.toNat * 11 + 6, none⟩ (.float .f64 ((rd_T26 x5_2 t291).f6))).setCell ⟨go36, ji33.toNat * 11 + 7, none⟩ (.bool ((rd_T26 x5_2 t291).f7))).setCell ⟨go36, ji33.toNat * 11 + 8, none⟩ (.int .i64 ((rd_T26 x5_2 t291).f8))).setCell ⟨go36, ji33.toNat * 11 + 9, none⟩ (.int .i64 ((rd_T26 x5_2 t291).f9))).setCell ⟨go36, ji33.toNat * 11 + 10, none⟩ (.int .i64 ((rd_T26 x5_2 t291).f10)) = W2; refine skip_ (w1 := ((((((((((((((((((((((w39).setCell ⟨go36, ji33.toNat * 11, none⟩ (.int .i64 ((rd_T26 x5_2 t291).f0))).setCell ⟨go36, ji33.toNat * 11 + 1, none⟩ (.int .i64 ((rd_T26 x5_2 t291).f1))).setCell ⟨go36, ji33.toNat * 11 + 2, none⟩ (.int .u32 ((rd_T26 x5_2 t291).f2))).setCell ⟨go36, ji33.toNat * 11 + 3, none⟩ (.int .i64 ((rd_T26 x5_2 t291).f3))).setCell ⟨go36, ji33.toNat * 11 + 4, none⟩ (.int .i64 ((rd_T26 x5_2 t291).f4))).setCell ⟨go36, ji33.toNat * 11 + 5, none⟩ (.float .f64 ((rd_T26 x5_2 t291).f5))).setCell ⟨go36, ji33.toNat * 11 + 6, none⟩ (.float .f64 ((rd_T26 x5_2 t291).f6))).setCell ⟨go36, ji33.toNat * 11 + 7, none⟩ (.bool ((rd_T26 x5_2 t291).f7))).setCell ⟨go36, ji33.toNat * 11 + 8, none⟩ (.int .i64 ((rd_T26 x5_2 t291).f8))).setCell ⟨go36, ji33.toNat * 11 + 9, none⟩ (.int .i64 ((rd_T26 x5_2 t291).f9))).setCell ⟨go36, ji33.toNat * 11 + 10, none⟩ (.int .i64 ((rd_T26 x5_2 t291).f10))).setCell ⟨go36, t291.toNat * 11, none⟩ (.int .i64 ((rd_T26 x5_2 ji33).f0))).setCell ⟨go36, t291.toNat * 11 + 1, none⟩ (.int .i64 ((rd_T26 x5_2 ji33).f1))).setCell ⟨go36, t291.toNat * 11 + 2, none⟩ (.int .u32 ((rd_T26 x5_2 ji33).f2))).setCell ⟨go36, t291.toNat * 11 + 3, none⟩ (.int .i64 ((rd_T26 x5_2 ji33).f3))).setCell ⟨go36, t291.toNat * 11 + 4, none⟩ (.int .i64 ((rd_T26 x5_2 ji33).f4))).setCell ⟨go36, t291.toNat * 11 + 5, none⟩ (.float .f64 ((rd_T26 x5_2 ji33).f5))).setCell ⟨go36, t291.toNat * 11 + 6, none⟩ (.float .f64 ((rd_T26 x5_2 ji33).f6))).setCell ⟨go36, t291.toNat * 11 + 7, none⟩ (.bool ((rd_T26 x5_2 ji33).f7))).setCell ⟨go36, t291.toNat * 11 + 8, none⟩ (.int .i64 ((rd_T26 x5_2 ji33).f8))).setCell ⟨go36, t291.toNat * 11 + 9, none⟩ (.int .i64 ((rd_T26 x5_2 ji33).f9))).setCell ⟨go36, t291.toNat * 11 + 10, none⟩ (.int .i64 ((rd_T26 x5_2 ji33).f10))) (by rfl) rfl (by subst hW_; exact st11b (w := w39) (q := ji33.toNat * 11) (b0 := (rd_T26 x5_2 t291).f0) (b1 := (rd_T26 x5_2 t291).f1) (b2 := (rd_T26 x5_2 t291).f2) (b3 := (rd_T26 x5_2 t291).f3) (b4 := (rd_T26 x5_2 t291).f4) (b5 := (rd_T26 x5_2 t291).f5) (b6 := (rd_T26 x5_2 t291).f6) (b7 := (rd_T26 x5_2 t291).f7) (b8 := (rd_T26 x5_2 t291).f8) (b9 := (rd_T26 x5_2 t291).f9) (b10 := (rd_T26 x5_2 t291).f10) (g := go36) (o := t291.toNat * 11) (a0 := (rd_T26 x5_2 ji33).f0) (a1 := (rd_T26 x5_2 ji33).f1) (a2 := (rd_T26 x5_2 ji33).f2) (a3 := (rd_T26 x5_2 ji33).f3) (a4 := (rd_T26 x5_2 ji33).f4) (a5 := (rd_T26 x5_2 ji33).f5) (a6 := (rd_T26 x5_2 ji33).f6) (a7 := (rd_T26 x5_2 ji33).f7) (a8 := (rd_T26 x5_2 ji33).f8) (a9 := (rd_T26 x5_2 ji33).f9) (a10 := (rd_T26 x5_2 ji33).f10) (p := .tmp 85) (v := .tmp 83) rfl rfl rfl hx37_0 hx37_1 hx37_2 hx37_3 hx37_4 hx37_5 hx37_6 hx37_7 hx37_8 hx37_9 hx37_10 hf37_0 hf37_1 hf37_2 hf37_3 hf37_4 hf37_5 hf37_6 hf37_7 hf37_8 hf37_9 hf37_10) ?_; clear hW_ W2
    refine hK.out _ _ ?_
    clear hK K
    refine done_ (done_of HT_.out (by kernel_rfl)) ?_
    try go_wp2
    (try simp only [← hl5_2])
    go_roundg k2
    case measure => have := HK1.out; have := HK2.out; omega
    case rel => exact ⟨(y295), (wrap64 (x8_2 + 1)), (by first | rfl | (simp; done) | (simp [*]; done)), H', ⟨by have := HK1.out; have := HK2.out; omega⟩, ⟨by (try simp only [hl5_2]); (with_reducible repeat (first | apply Kd.R_alloc | apply Kd.R_drewN | apply Kd.R_drew)); exact HQ41.out⟩, ⟨by (try simp only [hl5_2]); (with_reducible repeat (first | apply Kd.R_alloc | apply Kd.R_drewN | apply Kd.R_drew)); exact Kd.R_mono (Kd.R_far (p := ⟨go36, (t291 : Int).toNat * 11 + 10, none⟩) (Kd.R_far (p := ⟨go36, (t291 : Int).toNat * 11 + 9, none⟩) (Kd.R_far (p := ⟨go36, (t291 : Int).toNat * 11 + 8, none⟩) (Kd.R_far (p := ⟨go36, (t291 : Int).toNat * 11 + 7, none⟩) (Kd.R_far (p := ⟨go36, (t291 : Int).toNat * 11 + 6, none⟩) (Kd.R_far (p := ⟨go36, (t291 : Int).toNat * 11 + 5, none⟩) (Kd.R_far (p := ⟨go36, (t291 : Int).toNat * 11 + 4, none⟩) (Kd.R_far (p := ⟨go36, (t291 : Int).toNat * 11 + 3, none⟩) (Kd.R_far (p := ⟨go36, (t291 : Int).toNat * 11 + 2, none⟩) (Kd.R_far (p := ⟨go36, (t291 : Int).toNat * 11 + 1, none⟩) (Kd.R_far (p := ⟨go36, (t291 : Int).toNat * 11, none⟩) (Kd.R_far (p := ⟨go36, ((ji33) : Int).toNat * 11 + 10, none⟩) (Kd.R_far (p := ⟨go36, ((ji33) : Int).toNat * 11 + 9, none⟩) (Kd.R_far (p := ⟨go36, ((ji33) : Int).toNat * 11 + 8, none⟩) (Kd.R_far (p := ⟨go36, ((ji33) : Int).toNat * 11 + 7, none⟩) (Kd.R_far (p := ⟨go36, ((ji33) : Int).toNat * 11 + 6, none⟩) (Kd.R_far (p := ⟨go36, ((ji33) : Int).toNat * 11 + 5, none⟩) (Kd.R_far (p := ⟨go36, ((ji33) : Int).toNat * 11 + 4, none⟩) (Kd.R_far (p := ⟨go36, ((ji33) : Int).toNat * 11 + 3, none⟩) (Kd.R_far (p := ⟨go36, ((ji33) : Int).toNat * 11 + 2, none⟩) (Kd.R_far (p := ⟨go36, ((ji33) : Int).toNat * 11 + 1, none⟩) (Kd.R_far (p := ⟨go36, ((ji33) : Int).toNat * 11, none⟩) (Kd.R_mono HO_7.out (fun k_ hk => (⟨hk, fun e_ => hk (by rw [e_]; rfl)⟩ : _ ∧ k_ ≠ go36))) (fun _ hk => hk.2) (.int .i64 ((rd_T26 x5_2 t291).f0))) (fun _ hk => hk.2) (.int .i64 ((rd_T26 x5_2 t291).f1))) (fun _ hk => hk.2) (.int .u32 ((rd_T26 x5_2 t291).f2))) (fun _ hk => hk.2) (.int .i64 ((rd_T26 x5_2 t291).f3))) (fun _ hk => hk.2) (.int .i64 ((rd_T26 x5_2 t291).f4))) (fun _ hk => hk.2) (.float .f64 ((rd_T26 x5_2 t291).f5))) (fun _ hk => hk.2) (.float .f64 ((rd_T26 x5_2 t291).f6))) (fun _ hk => hk.2) (.bool ((rd_T26 x5_2 t291).f7))) (fun _ hk => hk.2) (.int .i64 ((rd_T26 x5_2 t291).f8))) (fun _ hk => hk.2) (.int .i64 ((rd_T26 x5_2 t291).f9))) (fun _ hk => hk.2) (.int .i64 ((rd_T26 x5_2 t291).f10))) (fun _ hk => hk.2) (.int .i64 ((rd_T26 x5_2 (ji33)).f0))) (fun _ hk => hk.2) (.int .i64 ((rd_T26 x5_2 (ji33)).f1))) (fun _ hk => hk.2) (.int .u32 ((rd_T26 x5_2 (ji33)).f2))) (fun _ hk => hk.2) (.int .i64 ((rd_T26 x5_2 (ji33)).f3))) (fun _ hk => hk.2) (.int .i64 ((rd_T26 x5_2 (ji33)).f4))) (fun _ hk => hk.2) (.float .f64 ((rd_T26 x5_2 (ji33)).f5))) (fun _ hk => hk.2) (.float .f64 ((rd_T26 x5_2 (ji33)).f6))) (fun _ hk => hk.2) (.bool ((rd_T26 x5_2 (ji33)).f7))) (fun _ hk => hk.2) (.int .i64 ((rd_T26 x5_2 (ji33)).f8))) (fun _ hk => hk.2) (.int .i64 ((rd_T26 x5_2 (ji33)).f9))) (fun _ hk => hk.2) (.int .i64 ((rd_T26 x5_2 (ji33)).f10))) (fun _ hk => hk.1)⟩, ⟨by exact h1q HB.out GB36.out⟩⟩
  case rest =>
   clear HC19
   try clear c1
   try clear c3
   try clear c3b0 c3b1
   try clear c6
   try clear c6b0 c6b1
   try clear c9
   try clear c9b0
   try clear c10
   try clear c10b0
   try clear c12
   try clear c12b0
   try clear c13
   try clear c17
   try clear c26
   try clear c26b0
   try clear c27
   try clear c27b0 c27b1
   try clear c28
   try clear c28b0 c28b1
   try clear c28b2
   try clear c29
   try clear c29b0
   try clear c31
   try clear c31b0
   try clear c32
   try clear c32b0
   try clear c34
   try clear c34b0
   try clear c35
   try clear c35b0
   try clear p36 q36
   try clear p37 q37
   try clear hx275_0
   try clear hx275_1
   try clear hx275_10
   try clear hx275_2
   try clear hx275_3
   try clear hx275_4
   try clear hx275_5
   try clear hx275_6
   try clear hx275_7
   try clear hx275_8
   try clear hx275_9
   try clear hx277_0
   try clear hx277_1
   try clear hx277_10
   try clear hx277_2
   try clear hx277_3
   try clear hx277_4
   try clear hx277_5
   try clear hx277_6
   try clear hx277_7
   try clear hx277_8
   try clear hx277_9
   try clear hx290_0
   try clear hx292_0
   try clear hx292_1
   try clear hx292_10
   try clear hx292_2
   try clear hx292_3
   try clear hx292_4
   try clear hx292_5
   try clear hx292_6
   try clear hx292_7
   try clear hx292_8
   try clear hx292_9
   try clear hx293_0
   try clear hx293_1
   try clear hx293_10
   try clear hx293_2
   try clear hx293_3
   try clear hx293_4
   try clear hx293_5
   try clear hx293_6
   try clear hx293_7
   try clear hx293_8
   try clear hx293_9
   try clear hx36_0
   try clear hx36_1
   try clear hx36_10
   try clear hx36_2
   try clear hx36_3
   try clear hx36_4
   try clear hx36_5
   try clear hx36_6
   try clear hx36_7
   try clear hx36_8
   try clear hx36_9
   try clear hx37_0
   try clear hx37_1
   try clear hx37_10
   try clear hx37_2
   try clear hx37_3
   try clear hx37_4
   try clear hx37_5
   try clear hx37_6
   try clear hx37_7
   try clear hx37_8
   try clear hx37_9
   try clear p275
   try clear p277
   try clear p290
   try clear p292
   try clear p293
   try clear p36
   try clear p37
   try clear q275
   try clear q277
   try clear q290
   try clear q292
   try clear q293
   try clear q36
   try clear q37
   obtain ⟨kq, x5_18, HA, HJ18, HO_5, HO_7, HB⟩ := hcut
   have hl5_18 := (Kd.R_reads' HO_5.out).1
   rw [hl5_18] at HO_5
   (try simp only [hl5_18])
   (try simp only [hl5_18] at HO_7)
   rcases kq with _ | kj18
   ·exact absurd HA.out (by simp [annuitylaw23_OrderOne.j2])
   have H := HA.out
   clear HA
   simp only [annuitylaw23_OrderOne.j2] at H
   have H' := Aside0.mk H
   clear H
   go_wp2
   go_loopg [11, 12] kj18 (fun kq v11 v12 w' => ∃ (x11_3 : List (S26)) (x12_3 : Int), v12 = .int .i64 x12_3 ∧ Aside0 (annuitylaw23_OrderOne.l2 kq x5_18 t287 x11_3 x12_3 = some r) ∧ Aside0 (kq ≤ kj18) ∧ Aside0 (Kd.R k26 26 w' w.heap.size (fun k_ => some k_ ≠ (v288 : Value).ownBlock ∧ some k_ ≠ (v11 : Value).ownBlock) (.slice Ao23 x5_18.length co23) x5_18) ∧ Aside0 (Kd.R k26 26 w' w.heap.size (fun k_ => some k_ ≠ ((.slice Ao23 x5_18.length co23) : Value).ownBlock ∧ some k_ ≠ (v11 : Value).ownBlock) v288 t287) ∧ Aside0 (Kd.R k26 26 w' w.heap.size (fun k_ => some k_ ≠ ((.slice Ao23 x5_18.length co23) : Value).ownBlock ∧ some k_ ≠ (v288 : Value).ownBlock) v11 x11_3) ∧ Aside0 (Below w.heap.size w w'))
   case atStart => exact ⟨(([] : List (S26))), (0), (by first | rfl | (simp; done) | (simp [*]; done)), H', ⟨Nat.le_refl _⟩, ⟨by (try simp only [hl5_18]); (with_reducible repeat (first | apply Kd.R_alloc | apply Kd.R_drewN | apply Kd.R_drew)); exact Kd.R_mono HO_5.out (fun _ hk => ⟨hk, (by simp [Value.ownBlock])⟩)⟩, ⟨by (try simp only [hl5_18]); (with_reducible repeat (first | apply Kd.R_alloc | apply Kd.R_drewN | apply Kd.R_drew)); exact Kd.R_mono HO_7.out (fun _ hk => ⟨hk, (by simp [Value.ownBlock])⟩)⟩, ⟨by (try simp only [hl5_18]); first | exact Kd.R_nil _ _ _ _ _ | exact Kd.N_nil _ _ _ _ _ | exact Kd.V_nil _ _ _ _ _ | exact Kd.Q_nil _ _ _ _ _ | exact Kd.S_nil _ _ _ _ _⟩, ⟨by exact h0q HB.out⟩⟩
   case round =>
    clear H'
    try clear c1
    try clear c3
    try clear c3b0 c3b1
    try clear c6
    try clear c6b0 c6b1
    try clear c9
    try clear c9b0
    try clear c10
    try clear c10b0
    try clear c12
    try clear c12b0
    try clear c13
    try clear c17
    try clear c26
    try clear c26b0
    try clear c27
    try clear c27b0 c27b1
    try clear c28
    try clear c28b0 c28b1
    try clear c28b2
    try clear c29
    try clear c29b0
    try clear c31
    try clear c31b0
    try clear c32
    try clear c32b0
    try clear c34
    try clear c34b0
    try clear c35
    try clear c35b0
    try clear p36 q36
    try clear p37 q37
    try clear hx275_0
    try clear hx275_1
    try clear hx275_10
    try clear hx275_2
    try clear hx275_3
    try clear hx275_4
    try clear hx275_5
    try clear hx275_6
    try clear hx275_7
    try clear hx275_8
    try clear hx275_9
    try clear hx277_0
    try clear hx277_1
    try clear hx277_10
    try clear hx277_2
    try clear hx277_3
    try clear hx277_4
    try clear hx277_5
    try clear hx277_6
    try clear hx277_7
    try clear hx277_8
    try clear hx277_9
    try clear hx290_0
    try clear hx292_0
    try clear hx292_1
    try clear hx292_10
    try clear hx292_2
    try clear hx292_3
    try clear hx292_4
    try clear hx292_5
    try clear hx292_6
    try clear hx292_7
    try clear hx292_8
    try clear hx292_9
    try clear hx293_0
    try clear hx293_1
    try clear hx293_10
    try clear hx293_2
    try clear hx293_3
    try clear hx293_4
    try clear hx293_5
    try clear hx293_6
    try clear hx293_7
    try clear hx293_8
    try clear hx293_9
    try clear hx36_0
    try clear hx36_1
    try clear hx36_10
    try clear hx36_2
    try clear hx36_3
    try clear hx36_4
    try clear hx36_5
    try clear hx36_6
    try clear hx36_7
    try clear hx36_8
    try clear hx36_9
    try clear hx37_0
    try clear hx37_1
    try clear hx37_10
    try clear hx37_2
    try clear hx37_3
    try clear hx37_4
    try clear hx37_5
    try clear hx37_6
    try clear hx37_7
    try clear hx37_8
    try clear hx37_9
    try clear p275
    try clear p277
    try clear p290
    try clear p292
    try clear p293
    try clear p36
    try clear p37
    try clear q275
    try clear q277
    try clear q290
    try clear q292
    try clear q293
    try clear q36
    try clear q37
    obtain ⟨x11_3, x12_3, rfl, HA, HK3, HO_5, HO_7, HO_11, HB⟩ := hrel
    rcases gk with _ | k3
    ·exact absurd HA.out (by simp [annuitylaw23_OrderOne.l2])
    have H := HA.out
    clear HA
    simp only [annuitylaw23_OrderOne.l2] at H
    by_cases c42 : x12_3 < (x5_18.length : Int)
    ·rw [if_pos c42] at H
     have c42b0 : decide (x12_3 < (x5_18.length : Int)) = true := decide_eq_true c42
     clear c42
     by_cases c43 : 0 ≤ x12_3
     case neg =>
      rw [if_neg c43] at H
      exact absurd H (by simp)
     rw [if_pos c43] at H
     have c43b0 : decide (0 ≤ x12_3) = true := decide_eq_true c43
     clear c43
     replace H := Option.bind_eq_some_iff.mp H
     obtain ⟨⟨t297, t300⟩, A440, H⟩ := H
     replace H : (if (t297.length : Int) = (wrap64 ((x11_3.length : Int) + 1)) then (if t300 < 0 then (none) else (if t300 ≥ (t297.length : Int) then (none) else (if 0 ≤ t300 then (if t300 < (t297.length : Int) then ((annuitykeep_Event.f k3 ((rd_T26 t297 t300).f0) ((rd_T26 t297 t300).f1) ((rd_T26 t297 t300).f2) ((rd_T26 t297 t300).f3) ((rd_T26 t297 t300).f4) ((rd_T26 t297 t300).f5) ((rd_T26 t297 t300).f6) ((rd_T26 t297 t300).f7) ((rd_T26 t297 t300).f8) ((rd_T26 t297 t300).f9) ((rd_T26 t297 t300).f10) ((rd_T26 x5_18 x12_3).f0) ((rd_T26 x5_18 x12_3).f1) ((rd_T26 x5_18 x12_3).f2) ((rd_T26 x5_18 x12_3).f3) ((rd_T26 x5_18 x12_3).f4) ((rd_T26 x5_18 x12_3).f5) ((rd_T26 x5_18 x12_3).f6) ((rd_T26 x5_18 x12_3).f7) ((rd_T26 x5_18 x12_3).f8) ((rd_T26 x5_18 x12_3).f9) ((rd_T26 x5_18 x12_3).f10)).bind fun t303 => (if t303 = true then (annuitylaw23_OrderOne.l2 k3 x5_18 t287 t297 (wrap64 (x12_3 + 1))) else (none))) else (none)) else (none)))) else (none)) = some r := H
     have A44 := Aside0.mk A440
     clear A440
     by_cases c45 : (t297.length : Int) = (wrap64 ((x11_3.length : Int) + 1))
     case neg =>
      rw [if_neg c45] at H
      have c45b0 : ((t297.length : Int) == (wrap64 ((x11_3.length : Int) + 1))) = false := beq_eq_false_iff_ne.mpr c45
      have c45b1 : ((t297.length : Int) != (wrap64 ((x11_3.length : Int) + 1))) = true := bne_iff_ne.mpr c45
      exact absurd H (by simp)
     rw [if_pos c45] at H
     have c45b0 : ((t297.length : Int) == (wrap64 ((x11_3.length : Int) + 1))) = true := beq_iff_eq.mpr c45
     have c45b1 : ((t297.length : Int) != (wrap64 ((x11_3.length : Int) + 1))) = false := bne_eq_false_iff_eq.mpr c45
     clear c45
     by_cases c46 : t300 < 0
     ·rw [if_pos c46] at H
      have c46b0 : decide (t300 < 0) = true := decide_eq_true c46
      clear c46
      exact absurd H (by simp)
     rw [if_neg c46] at H
     have c46b0 : decide (t300 < 0) = false := decide_eq_false c46
     clear c46
     by_cases c47 : t300 ≥ (t297.length : Int)
     ·rw [if_pos c47] at H
      have c47b0 : decide ((t297.length : Int) ≤ t300) = true := decide_eq_true c47
      clear c47
      exact absurd H (by simp)
     rw [if_neg c47] at H
     have c47b0 : decide ((t297.length : Int) ≤ t300) = false := decide_eq_false c47
     clear c47
     by_cases c48 : 0 ≤ t300
     case neg =>
      rw [if_neg c48] at H
      exact absurd H (by simp)
     rw [if_pos c48] at H
     have c48b0 : decide (0 ≤ t300) = true := decide_eq_true c48
     clear c48
     by_cases c49 : t300 < (t297.length : Int)
     case neg =>
      rw [if_neg c49] at H
      exact absurd H (by simp)
     rw [if_pos c49] at H
     have c49b0 : decide (t300 < (t297.length : Int)) = true := decide_eq_true c49
     clear c49
     replace H := Option.bind_eq_some_iff.mp H
     obtain ⟨t303, A500, H⟩ := H
     replace H : (if t303 = true then (annuitylaw23_OrderOne.l2 k3 x5_18 t287 t297 (wrap64 (x12_3 + 1))) else (none)) = some r := H
     have A50 := Aside0.mk A500
     clear A500
     by_cases c51 : t303 = true
     case neg =>
      replace c51 := Bool.eq_false_iff.mpr c51
      subst c51
      have H1 : (none) = some r := by rw [if_neg (show ¬ (false = true) by decide)] at H; exact H
      clear H
      have H := H1
      clear H1
      exact absurd H (by simp)
     subst c51
     have H1 : (annuitylaw23_OrderOne.l2 k3 x5_18 t287 t297 (wrap64 (x12_3 + 1))) = some r := by rw [if_pos rfl] at H; exact H
     clear H
     have H := H1
     clear H1
     have H' := Aside0.mk H
     clear H
     have p296 : 0 ≤ (x12_3 : Int) := yd
     have q296 : x12_3 < (x5_18.length : Int) := yd
     obtain ⟨ad296, e296, hx296_0, hx296_1, hx296_2, hx296_3, hx296_4, hx296_5, hx296_6, hx296_7, hx296_8, hx296_9, hx296_10⟩ := at_T26 (Kd.R_reads' HO_5.out).2.2 x12_3 p296 q296
     cases e296
     replace p296 := eq_true p296
     replace q296 := eq_true q296
     obtain ⟨Ao52, co52, eo52⟩ := Kd.R_slice HO_11.out
     subst eo52
     try go_wp2_with (first | ((with_reducible refine gate_callee (f := 9) rfl ?_); refine goesL_ (some 98) rfl rfl Try.func9 (by kernel_rfl) rfl #[.slice Ao52 x11_3.length co52, .agg #[.int .i64 ((rd_T26 x5_18 x12_3).f0), .int .i64 ((rd_T26 x5_18 x12_3).f1), .int .u32 ((rd_T26 x5_18 x12_3).f2), .int .i64 ((rd_T26 x5_18 x12_3).f3), .int .i64 ((rd_T26 x5_18 x12_3).f4), .float .f64 ((rd_T26 x5_18 x12_3).f5), .float .f64 ((rd_T26 x5_18 x12_3).f6), .bool ((rd_T26 x5_18 x12_3).f7), .int .i64 ((rd_T26 x5_18 x12_3).f8), .int .i64 ((rd_T26 x5_18 x12_3).f9), .int .i64 ((rd_T26 x5_18 x12_3).f10)]] rfl (by (try simp only [List.map_toArray, List.map_cons, List.map_nil]); first | done | rfl | (simp only [List.length_drop, List.length_take]; rfl)) ?_; (with_reducible refine (order_Put.calls k3 _ _ x11_3 ((rd_T26 x5_18 x12_3).f0) ((rd_T26 x5_18 x12_3).f1) ((rd_T26 x5_18 x12_3).f2) ((rd_T26 x5_18 x12_3).f3) ((rd_T26 x5_18 x12_3).f4) ((rd_T26 x5_18 x12_3).f5) ((rd_T26 x5_18 x12_3).f6) ((rd_T26 x5_18 x12_3).f7) ((rd_T26 x5_18 x12_3).f8) ((rd_T26 x5_18 x12_3).f9) ((rd_T26 x5_18 x12_3).f10) t297 t300 _ ?side1 ?side2 A44.out).mono ?_); (case side1 => repeat (first | exact (Kd.R_reads' HO_11.out).2.2 | (with_reducible refine Kd.C_alloc ?_ _) | (with_reducible refine Kd.C_drewN ?_ _) | (with_reducible refine Kd.C_drew ?_))); (case side2 => exact (Kd.R_reads' HO_11.out).2.1); rintro e w53 ⟨v298, rfl, ho0, hb⟩; refine ⟨_, rfl, ?_⟩; have n0_ := Aside0.mk (Kd.R_elder' (by exact rq HO_5.out) (Kd.R_base ho0) hb); have n1_ := Aside0.mk (Kd.R_elder' (by exact rq HO_7.out) (Kd.R_base ho0) hb); have n2_ := Aside0.mk (Kd.R_elder' (by exact rq HO_11.out) (Kd.R_base ho0) hb); have n3_ := Aside0.mk (Kd.R_lower (Kd.R_new' (Kd.R_new' (Kd.R_new' ho0 (Kd.R_lt (by exact rq HO_5.out))) (Kd.R_lt (by exact rq HO_7.out))) (Kd.R_lt (by exact rq HO_11.out))) (below_size (by exact h0q HB.out))); have n4_ := Aside0.mk (below_step (by exact h0q HB.out) hb); clear HO_5; clear HO_7; clear HO_11; clear HB; have HO_5 := n0_; have HO_7 := n1_; have HO_11 := n2_; have HO299 := n3_; have HB := n4_; clear n0_ n1_ n2_ n3_ n4_; (try clear hb); (try clear hb2); (try clear hk); (try clear hi); (try clear ho0)))
     have n0_ := Aside0.mk (Kd.R_drew HO_5.out)
     have n1_ := Aside0.mk (Kd.R_drew HO_7.out)
     have n2_ := Aside0.mk (Kd.R_drew HO_11.out)
     have n3_ := Aside0.mk (Kd.R_drew HO299.out)
     have n4_ := Aside0.mk (below_drew1 HB.out)
     clear HO_5 HO_7 HO_11 HO299 HB
     have HO_5 := n0_
     have HO_7 := n1_
     have HO_11 := n2_
     have HO299 := n3_
     have HB := n4_
     clear n0_ n1_ n2_ n3_ n4_
     obtain ⟨Ao55, co55, eo55⟩ := Kd.R_slice HO299.out
     (first | subst eo55 | (injection eo55 with f1_ f2_ f3_; have f4_ := f1_.symm; have f5_ := f3_.symm; clear f1_ f2_ f3_; subst f4_; subst f5_))
     have p301 : 0 ≤ (t300 : Int) := yd
     have q301 : t300 < (t297.length : Int) := yd
     obtain ⟨ad301, e301, hx301_0, hx301_1, hx301_2, hx301_3, hx301_4, hx301_5, hx301_6, hx301_7, hx301_8, hx301_9, hx301_10⟩ := at_T26 (Kd.R_reads' HO299.out).2.2 t300 p301 q301
     cases e301
     replace p301 := eq_true p301
     replace q301 := eq_true q301
     have p302 : 0 ≤ (x12_3 : Int) := yd
     have q302 : x12_3 < (x5_18.length : Int) := yd
     obtain ⟨ad302, e302, hx302_0, hx302_1, hx302_2, hx302_3, hx302_4, hx302_5, hx302_6, hx302_7, hx302_8, hx302_9, hx302_10⟩ := at_T26 (Kd.R_reads' HO_5.out).2.2 x12_3 p302 q302
     obtain rfl : ad296 = ad302 := (by injection e302)
     replace p302 := eq_true p302
     replace q302 := eq_true q302
     refine start_ (n := 28) (S := fun w' => w'.cell? (ad301.add ((t300).toNat * 11)) = some (.int .i64 ((rd_T26 t297 t300).f0)) ∧ w'.cell? ⟨(ad301.add ((t300).toNat * 11)).block, (ad301.add ((t300).toNat * 11)).off + 1, none⟩ = some (.int .i64 ((rd_T26 t297 t300).f1)) ∧ w'.cell? ⟨(ad301.add ((t300).toNat * 11)).block, (ad301.add ((t300).toNat * 11)).off + 2, none⟩ = some (.int .u32 ((rd_T26 t297 t300).f2)) ∧ w'.cell? ⟨(ad301.add ((t300).toNat * 11)).block, (ad301.add ((t300).toNat * 11)).off + 3, none⟩ = some (.int .i64 ((rd_T26 t297 t300).f3)) ∧ w'.cell? ⟨(ad301.add ((t300).toNat * 11)).block, (ad301.add ((t300).toNat * 11)).off + 4, none⟩ = some (.int .i64 ((rd_T26 t297 t300).f4)) ∧ w'.cell? ⟨(ad301.add ((t300).toNat * 11)).block, (ad301.add ((t300).toNat * 11)).off + 5, none⟩ = some (.float .f64 ((rd_T26 t297 t300).f5)) ∧ w'.cell? ⟨(ad301.add ((t300).toNat * 11)).block, (ad301.add ((t300).toNat * 11)).off + 6, none⟩ = some (.float .f64 ((rd_T26 t297 t300).f6)) ∧ w'.cell? ⟨(ad301.add ((t300).toNat * 11)).block, (ad301.add ((t300).toNat * 11)).off + 7, none⟩ = some (.bool ((rd_T26 t297 t300).f7)) ∧ w'.cell? ⟨(ad301.add ((t300).toNat * 11)).block, (ad301.add ((t300).toNat * 11)).off + 8, none⟩ = some (.int .i64 ((rd_T26 t297 t300).f8)) ∧ w'.cell? ⟨(ad301.add ((t300).toNat * 11)).block, (ad301.add ((t300).toNat * 11)).off + 9, none⟩ = some (.int .i64 ((rd_T26 t297 t300).f9)) ∧ w'.cell? ⟨(ad301.add ((t300).toNat * 11)).block, (ad301.add ((t300).toNat * 11)).off + 10, none⟩ = some (.int .i64 ((rd_T26 t297 t300).f10)) ∧ w'.cell? (ad296.add ((x12_3).toNat * 11)) = some (.int .i64 ((rd_T26 x5_18 x12_3).f0)) ∧ w'.cell? ⟨(ad296.add ((x12_3).toNat * 11)).block, (ad296.add ((x12_3).toNat * 11)).off + 1, none⟩ = some (.int .i64 ((rd_T26 x5_18 x12_3).f1)) ∧ w'.cell? ⟨(ad296.add ((x12_3).toNat * 11)).block, (ad296.add ((x12_3).toNat * 11)).off + 2, none⟩ = some (.int .u32 ((rd_T26 x5_18 x12_3).f2)) ∧ w'.cell? ⟨(ad296.add ((x12_3).toNat * 11)).block, (ad296.add ((x12_3).toNat * 11)).off + 3, none⟩ = some (.int .i64 ((rd_T26 x5_18 x12_3).f3)) ∧ w'.cell? ⟨(ad296.add ((x12_3).toNat * 11)).block, (ad296.add ((x12_3).toNat * 11)).off + 4, none⟩ = some (.int .i64 ((rd_T26 x5_18 x12_3).f4)) ∧ w'.cell? ⟨(ad296.add ((x12_3).toNat * 11)).block, (ad296.add ((x12_3).toNat * 11)).off + 5, none⟩ = some (.float .f64 ((rd_T26 x5_18 x12_3).f5)) ∧ w'.cell? ⟨(ad296.add ((x12_3).toNat * 11)).block, (ad296.add ((x12_3).toNat * 11)).off + 6, none⟩ = some (.float .f64 ((rd_T26 x5_18 x12_3).f6)) ∧ w'.cell? ⟨(ad296.add ((x12_3).toNat * 11)).block, (ad296.add ((x12_3).toNat * 11)).off + 7, none⟩ = some (.bool ((rd_T26 x5_18 x12_3).f7)) ∧ w'.cell? ⟨(ad296.add ((x12_3).toNat * 11)).block, (ad296.add ((x12_3).toNat * 11)).off + 8, none⟩ = some (.int .i64 ((rd_T26 x5_18 x12_3).f8)) ∧ w'.cell? ⟨(ad296.add ((x12_3).toNat * 11)).block, (ad296.add ((x12_3).toNat * 11)).off + 9, none⟩ = some (.int .i64 ((rd_T26 x5_18 x12_3).f9)) ∧ w'.cell? ⟨(ad296.add ((x12_3).toNat * 11)).block, (ad296.add ((x12_3).toNat * 11)).off + 10, none⟩ = some (.int .i64 ((rd_T26 x5_18 x12_3).f10))) (ds := []) #[false, false, false, false, false, false, false, false, false, false, false, false, false, false, false, false, false, false, false, false, false, false, false, false, false, false, false, false] (by kernel_rfl) rfl rfl ⟨hx301_0, hx301_1, hx301_2, hx301_3, hx301_4, hx301_5, hx301_6, hx301_7, hx301_8, hx301_9, hx301_10, hx302_0, hx302_1, hx302_2, hx302_3, hx302_4, hx302_5, hx302_6, hx302_7, hx302_8, hx302_9, hx302_10⟩ (fun hHeld => ?_); refine with_tabW annuitylaw23_OrderOne.tab20 annuitylaw23_OrderOne.bits20 (fun HT_ HW_ => ?_)
     generalize w53.drew = w54 at HO_5 HO_7 HO_11 HO299 HB hx301_0 hx301_1 hx301_10 hx301_2 hx301_3 hx301_4 hx301_5 hx301_6 hx301_7 hx301_8 hx301_9 hx302_0 hx302_1 hx302_10 hx302_2 hx302_3 hx302_4 hx302_5 hx302_6 hx302_7 hx302_8 hx302_9 hHeld ⊢
     refine pure_ (i := 0) (N := some 101) (v := ?_) (a' := ?_) #[true, false, false, false, false, false, false, false, false, false, false, false, false, false, false, false, false, false, false, false, false, false, false, false, false, false, false, false] rfl rfl (any_of HT_.out (by kernel_rfl)) (fun _ _ _ h => h) (Or.inl ⟨by rfl, ?_⟩) ?_ ?_
     rotate_left
     ·intro w'
      go_simp
      with_reducible rfl
     rotate_left
     ·simp only [Act.put, List.setIfInBounds_toArray, List.set_cons_zero, List.set_cons_succ, i64_w, i32_w]
      rfl
     refine pure_ (i := 1) (N := some 102) (v := ?_) (a' := ?_) #[true, true, false, false, false, false, false, false, false, false, false, false, false, false, false, false, false, false, false, false, false, false, false, false, false, false, false, false] rfl rfl (any_of HT_.out (by kernel_rfl)) (fun _ _ _ h => h) (Or.inl ⟨by rfl, ?_⟩) ?_ ?_
     rotate_left
     ·intro w'
      go_simp
      with_reducible rfl
     rotate_left
     ·simp only [Act.put, List.setIfInBounds_toArray, List.set_cons_zero, List.set_cons_succ, i64_w, i32_w]
      rfl
     refine pure_ (i := 2) (N := some 103) (v := ?_) (a' := ?_) #[true, true, true, false, false, false, false, false, false, false, false, false, false, false, false, false, false, false, false, false, false, false, false, false, false, false, false, false] rfl rfl (any_of HT_.out (by kernel_rfl)) (fun _ _ _ h => h) (Or.inl ⟨by rfl, ?_⟩) ?_ ?_
     rotate_left
     ·intro w'
      go_simp
      with_reducible rfl
     rotate_left
     ·simp only [Act.put, List.setIfInBounds_toArray, List.set_cons_zero, List.set_cons_succ, i64_w, i32_w]
      rfl
     refine pure_ (i := 3) (N := some 104) (v := ?_) (a' := ?_) #[true, true, true, true, false, false, false, false, false, false, false, false, false, false, false, false, false, false, false, false, false, false, false, false, false, false, false, false] rfl rfl (any_of HT_.out (by kernel_rfl)) (fun _ _ _ h => h) (Or.inl ⟨by rfl, ?_⟩) ?_ ?_
     rotate_left
     ·intro w'
      go_simp
      with_reducible rfl
     rotate_left
     ·simp only [Act.put, List.setIfInBounds_toArray, List.set_cons_zero, List.set_cons_succ, i64_w, i32_w]
      rfl
     refine pure_ (i := 4) (N := some 105) (v := ?_) (a' := ?_) #[true, true, true, true, true, false, false, false, false, false, false, false, false, false, false, false, false, false, false, false, false, false, false, false, false, false, false, false] rfl rfl (any_of HT_.out (by kernel_rfl)) (fun _ _ _ h => h) (Or.inl ⟨by rfl, ?_⟩) ?_ ?_
     rotate_left
     ·intro w'
      go_simp
      with_reducible rfl
     rotate_left
     ·simp only [Act.put, List.setIfInBounds_toArray, List.set_cons_zero, List.set_cons_succ, i64_w, i32_w]
      rfl
     refine pure_ (i := 5) (N := some 106) (v := ?_) (a' := ?_) #[true, true, true, true, true, true, false, false, false, false, false, false, false, false, false, false, false, false, false, false, false, false, false, false, false, false, false, false] rfl rfl (any_of HT_.out (by kernel_rfl)) (fun _ _ _ h => h) (Or.inl ⟨by rfl, ?_⟩) ?_ ?_
     rotate_left
     ·intro w'
      go_simp
      with_reducible rfl
     rotate_left
     ·simp only [Act.put, List.setIfInBounds_toArray, List.set_cons_zero, List.set_cons_succ, i64_w, i32_w]
      rfl
     refine pure_ (i := 6) (N := some 107) (v := ?_) (a' := ?_) #[true, true, true, true, true, true, true, false, false, false, false, false, false, false, false, false, false, false, false, false, false, false, false, false, false, false, false, false] rfl rfl (any_of HT_.out (by kernel_rfl)) (fun _ _ _ h => h) (Or.inl ⟨by rfl, ?_⟩) ?_ ?_
     rotate_left
     ·intro w'
      go_simp
      with_reducible rfl
     rotate_left
     ·simp only [Act.put, List.setIfInBounds_toArray, List.set_cons_zero, List.set_cons_succ, i64_w, i32_w]
      rfl
     refine pure_ (i := 7) (N := some 108) (v := ?_) (a' := ?_) #[true, true, true, true, true, true, true, true, false, false, false, false, false, false, false, false, false, false, false, false, false, false, false, false, false, false, false, false] rfl rfl (any_of HT_.out (by kernel_rfl)) (fun _ _ _ h => h) (Or.inl ⟨by rfl, ?_⟩) ?_ ?_
     rotate_left
     ·intro w'
      go_simp
      with_reducible rfl
     rotate_left
     ·simp only [Act.put, List.setIfInBounds_toArray, List.set_cons_zero, List.set_cons_succ, i64_w, i32_w]
      rfl
     refine pure_ (i := 8) (N := some 109) (v := ?_) (a' := ?_) #[true, true, true, true, true, true, true, true, true, false, false, false, false, false, false, false, false, false, false, false, false, false, false, false, false, false, false, false] rfl rfl (any_of HT_.out (by kernel_rfl)) (fun _ _ _ h => h) (Or.inl ⟨by rfl, ?_⟩) ?_ ?_
     rotate_left
     ·intro w'
      go_simp
      with_reducible rfl
     rotate_left
     ·simp only [Act.put, List.setIfInBounds_toArray, List.set_cons_zero, List.set_cons_succ, i64_w, i32_w]
      rfl
     refine pure_ (i := 9) (N := some 110) (v := ?_) (a' := ?_) #[true, true, true, true, true, true, true, true, true, true, false, false, false, false, false, false, false, false, false, false, false, false, false, false, false, false, false, false] rfl rfl (any_of HT_.out (by kernel_rfl)) (fun _ _ _ h => h) (Or.inl ⟨by rfl, ?_⟩) ?_ ?_
     rotate_left
     ·intro w'
      go_simp
      with_reducible rfl
     rotate_left
     ·simp only [Act.put, List.setIfInBounds_toArray, List.set_cons_zero, List.set_cons_succ, i64_w, i32_w]
      rfl
     refine pure_ (i := 10) (N := some 111) (v := ?_) (a' := ?_) #[true, true, true, true, true, true, true, true, true, true, true, false, false, false, false, false, false, false, false, false, false, false, false, false, false, false, false, false] rfl rfl (any_of HT_.out (by kernel_rfl)) (fun _ _ _ h => h) (Or.inl ⟨by rfl, ?_⟩) ?_ ?_
     rotate_left
     ·intro w'
      go_simp
      with_reducible rfl
     rotate_left
     ·simp only [Act.put, List.setIfInBounds_toArray, List.set_cons_zero, List.set_cons_succ, i64_w, i32_w]
      rfl
     refine pure_ (i := 11) (N := some 112) (v := ?_) (a' := ?_) #[true, true, true, true, true, true, true, true, true, true, true, true, false, false, false, false, false, false, false, false, false, false, false, false, false, false, false, false] rfl rfl (any_of HT_.out (by kernel_rfl)) (fun _ _ _ h => h) (Or.inl ⟨by rfl, ?_⟩) ?_ ?_
     rotate_left
     ·intro w'
      go_simp
      with_reducible rfl
     rotate_left
     ·simp only [Act.put, List.setIfInBounds_toArray, List.set_cons_zero, List.set_cons_succ, i64_w, i32_w]
      rfl
     refine pure_ (i := 12) (N := some 113) (v := ?_) (a' := ?_) #[true, true, true, true, true, true, true, true, true, true, true, true, true, false, false, false, false, false, false, false, false, false, false, false, false, false, false, false] rfl rfl (any_of HT_.out (by kernel_rfl)) (fun _ _ _ h => h) (Or.inl ⟨by rfl, ?_⟩) ?_ ?_
     rotate_left
     ·intro w'
      go_simp
      with_reducible rfl
     rotate_left
     ·simp only [Act.put, List.setIfInBounds_toArray, List.set_cons_zero, List.set_cons_succ, i64_w, i32_w]
      rfl
     refine pure_ (i := 13) (N := some 114) (v := ?_) (a' := ?_) #[true, true, true, true, true, true, true, true, true, true, true, true, true, true, false, false, false, false, false, false, false, false, false, false, false, false, false, false] rfl rfl (any_of HT_.out (by kernel_rfl)) (fun _ _ _ h => h) (Or.inl ⟨by rfl, ?_⟩) ?_ ?_
     rotate_left
     ·intro w'
      go_simp
      with_reducible rfl
     rotate_left
     ·simp only [Act.put, List.setIfInBounds_toArray, List.set_cons_zero, List.set_cons_succ, i64_w, i32_w]
      rfl
     refine pure_ (i := 14) (N := some 115) (v := ?_) (a' := ?_) #[true, true, true, true, true, true, true, true, true, true, true, true, true, true, true, false, false, false, false, false, false, false, false, false, false, false, false, false] rfl rfl (any_of HT_.out (by kernel_rfl)) (fun _ _ _ h => h) (Or.inl ⟨by rfl, ?_⟩) ?_ ?_
     rotate_left
     ·intro w'
      go_simp
      with_reducible rfl
     rotate_left
     ·simp only [Act.put, List.setIfInBounds_toArray, List.set_cons_zero, List.set_cons_succ, i64_w, i32_w]
      rfl
     refine pure_ (i := 15) (N := some 116) (v := ?_) (a' := ?_) #[true, true, true, true, true, true, true, true, true, true, true, true, true, true, true, true, false, false, false, false, false, false, false, false, false, false, false, false] rfl rfl (any_of HT_.out (by kernel_rfl)) (fun _ _ _ h => h) (Or.inl ⟨by rfl, ?_⟩) ?_ ?_
     rotate_left
     ·intro w'
      go_simp
      with_reducible rfl
     rotate_left
     ·simp only [Act.put, List.setIfInBounds_toArray, List.set_cons_zero, List.set_cons_succ, i64_w, i32_w]
      rfl
     refine pure_ (i := 16) (N := some 117) (v := ?_) (a' := ?_) #[true, true, true, true, true, true, true, true, true, true, true, true, true, true, true, true, true, false, false, false, false, false, false, false, false, false, false, false] rfl rfl (any_of HT_.out (by kernel_rfl)) (fun _ _ _ h => h) (Or.inl ⟨by rfl, ?_⟩) ?_ ?_
     rotate_left
     ·intro w'
      go_simp
      with_reducible rfl
     rotate_left
     ·simp only [Act.put, List.setIfInBounds_toArray, List.set_cons_zero, List.set_cons_succ, i64_w, i32_w]
      rfl
     refine pure_ (i := 17) (N := some 118) (v := ?_) (a' := ?_) #[true, true, true, true, true, true, true, true, true, true, true, true, true, true, true, true, true, true, false, false, false, false, false, false, false, false, false, false] rfl rfl (any_of HT_.out (by kernel_rfl)) (fun _ _ _ h => h) (Or.inl ⟨by rfl, ?_⟩) ?_ ?_
     rotate_left
     ·intro w'
      go_simp
      with_reducible rfl
     rotate_left
     ·simp only [Act.put, List.setIfInBounds_toArray, List.set_cons_zero, List.set_cons_succ, i64_w, i32_w]
      rfl
     refine pure_ (i := 18) (N := some 119) (v := ?_) (a' := ?_) #[true, true, true, true, true, true, true, true, true, true, true, true, true, true, true, true, true, true, true, false, false, false, false, false, false, false, false, false] rfl rfl (any_of HT_.out (by kernel_rfl)) (fun _ _ _ h => h) (Or.inl ⟨by rfl, ?_⟩) ?_ ?_
     rotate_left
     ·intro w'
      go_simp
      with_reducible rfl
     rotate_left
     ·simp only [Act.put, List.setIfInBounds_toArray, List.set_cons_zero, List.set_cons_succ, i64_w, i32_w]
      rfl
     refine pure_ (i := 19) (N := some 120) (v := ?_) (a' := ?_) #[true, true, true, true, true, true, true, true, true, true, true, true, true, true, true, true, true, true, true, true, false, false, false, false, false, false, false, false] rfl rfl (any_of HT_.out (by kernel_rfl)) (fun _ _ _ h => h) (Or.inl ⟨by rfl, ?_⟩) ?_ ?_
     rotate_left
     ·intro w'
      go_simp
      with_reducible rfl
     rotate_left
     ·simp only [Act.put, List.setIfInBounds_toArray, List.set_cons_zero, List.set_cons_succ, i64_w, i32_w]
      rfl
     refine pure_ (i := 21) (N := some 122) (v := ?_) (a' := ?_) #[true, true, true, true, true, true, true, true, true, true, true, true, true, true, true, true, true, true, true, true, false, true, false, false, false, false, false, false] rfl rfl (any_of HT_.out (by kernel_rfl)) (fun _ _ _ h => h) (Or.inl ⟨by rfl, ?_⟩) ?_ ?_
     rotate_left
     ·intro w'
      go_simp
      with_reducible rfl
     rotate_left
     ·simp only [Act.put, List.setIfInBounds_toArray, List.set_cons_zero, List.set_cons_succ, i64_w, i32_w]
      rfl
     refine pure_ (i := 22) (N := some 123) (v := ?_) (a' := ?_) #[true, true, true, true, true, true, true, true, true, true, true, true, true, true, true, true, true, true, true, true, false, true, true, false, false, false, false, false] rfl rfl (any_of HT_.out (by kernel_rfl)) (fun _ _ _ h => h) (Or.inl ⟨by rfl, ?_⟩) ?_ ?_
     rotate_left
     ·intro w'
      go_simp
      with_reducible rfl
     rotate_left
     ·simp only [Act.put, List.setIfInBounds_toArray, List.set_cons_zero, List.set_cons_succ, i64_w, i32_w]
      rfl
     refine pure_ (i := 23) (N := some 124) (v := ?_) (a' := ?_) #[true, true, true, true, true, true, true, true, true, true, true, true, true, true, true, true, true, true, true, true, false, true, true, true, false, false, false, false] rfl rfl (any_of HT_.out (by kernel_rfl)) (fun _ _ _ h => h) (Or.inl ⟨by rfl, ?_⟩) ?_ ?_
     rotate_left
     ·intro w'
      go_simp
      with_reducible rfl
     rotate_left
     ·simp only [Act.put, List.setIfInBounds_toArray, List.set_cons_zero, List.set_cons_succ, i64_w, i32_w]
      rfl
     refine take_ (i := 20) (N := some 121) (v := ?_) (a' := ?_) #[true, true, true, true, true, true, true, true, true, true, true, true, true, true, true, true, true, true, true, true, true, true, true, true, false, false, false, false] rfl rfl (take_ofW HT_.out HW_.out (by kernel_rfl)) (fun _ _ _ h => h) (Or.inl ⟨by rfl, ?_⟩) hHeld ?_ ?_
     rotate_left
     ·rintro w' ⟨s0, s1, s2, s3, s4, s5, s6, s7, s8, s9, s10, s11, s12, s13, s14, s15, s16, s17, s18, s19, s20, s21⟩
      go_simp
      with_reducible rfl
     rotate_left
     ·simp only [Act.put, List.setIfInBounds_toArray, List.set_cons_zero, List.set_cons_succ, i64_w, i32_w]
      rfl
     refine take_ (i := 24) (N := some 125) (v := ?_) (a' := ?_) #[true, true, true, true, true, true, true, true, true, true, true, true, true, true, true, true, true, true, true, true, true, true, true, true, true, false, false, false] rfl rfl (take_ofW HT_.out HW_.out (by kernel_rfl)) (fun _ _ _ h => h) (Or.inl ⟨by rfl, ?_⟩) hHeld ?_ ?_
     rotate_left
     ·rintro w' ⟨s0, s1, s2, s3, s4, s5, s6, s7, s8, s9, s10, s11, s12, s13, s14, s15, s16, s17, s18, s19, s20, s21⟩
      go_simp
      with_reducible rfl
     rotate_left
     ·simp only [Act.put, List.setIfInBounds_toArray, List.set_cons_zero, List.set_cons_succ, i64_w, i32_w]
      rfl
     refine one_ (i := 25) (N := some 126) #[true, true, true, true, true, true, true, true, true, true, true, true, true, true, true, true, true, true, true, true, true, true, true, true, true, true, false, false] rfl rfl (one_of HT_.out (by kernel_rfl)) (by decide) (fun K hK => ?_)
     refine goes_ Try.func21 (by kernel_rfl) rfl #[.agg #[.int .i64 ((rd_T26 t297 t300).f0), .int .i64 ((rd_T26 t297 t300).f1), .int .u32 ((rd_T26 t297 t300).f2), .int .i64 ((rd_T26 t297 t300).f3), .int .i64 ((rd_T26 t297 t300).f4), .float .f64 ((rd_T26 t297 t300).f5), .float .f64 ((rd_T26 t297 t300).f6), .bool ((rd_T26 t297 t300).f7), .int .i64 ((rd_T26 t297 t300).f8), .int .i64 ((rd_T26 t297 t300).f9), .int .i64 ((rd_T26 t297 t300).f10)], .agg #[.int .i64 ((rd_T26 x5_18 x12_3).f0), .int .i64 ((rd_T26 x5_18 x12_3).f1), .int .u32 ((rd_T26 x5_18 x12_3).f2), .int .i64 ((rd_T26 x5_18 x12_3).f3), .int .i64 ((rd_T26 x5_18 x12_3).f4), .float .f64 ((rd_T26 x5_18 x12_3).f5), .float .f64 ((rd_T26 x5_18 x12_3).f6), .bool ((rd_T26 x5_18 x12_3).f7), .int .i64 ((rd_T26 x5_18 x12_3).f8), .int .i64 ((rd_T26 x5_18 x12_3).f9), .int .i64 ((rd_T26 x5_18 x12_3).f10)]] (by rfl) rfl rfl (by (try simp only [List.map_toArray, List.map_cons, List.map_nil]); first | done | rfl | (simp only [List.length_drop, List.length_take]; rfl)) ?_
     with_reducible refine (annuitykeep_Event.calls k3 ((rd_T26 t297 t300).f0) ((rd_T26 t297 t300).f1) ((rd_T26 t297 t300).f2) ((rd_T26 t297 t300).f3) ((rd_T26 t297 t300).f4) ((rd_T26 t297 t300).f5) ((rd_T26 t297 t300).f6) ((rd_T26 t297 t300).f7) ((rd_T26 t297 t300).f8) ((rd_T26 t297 t300).f9) ((rd_T26 t297 t300).f10) ((rd_T26 x5_18 x12_3).f0) ((rd_T26 x5_18 x12_3).f1) ((rd_T26 x5_18 x12_3).f2) ((rd_T26 x5_18 x12_3).f3) ((rd_T26 x5_18 x12_3).f4) ((rd_T26 x5_18 x12_3).f5) ((rd_T26 x5_18 x12_3).f6) ((rd_T26 x5_18 x12_3).f7) ((rd_T26 x5_18 x12_3).f8) ((rd_T26 x5_18 x12_3).f9) ((rd_T26 x5_18 x12_3).f10) true _ A50.out).mono ?_
     rintro e w56 ⟨rfl, hb⟩
     have HS0_ := hxb hb (hHeld.1)
     have HS1_ := hxb hb (hHeld.2.1)
     have HS2_ := hxb hb (hHeld.2.2.1)
     have HS3_ := hxb hb (hHeld.2.2.2.1)
     have HS4_ := hxb hb (hHeld.2.2.2.2.1)
     have HS5_ := hxb hb (hHeld.2.2.2.2.2.1)
     have HS6_ := hxb hb (hHeld.2.2.2.2.2.2.1)
     have HS7_ := hxb hb (hHeld.2.2.2.2.2.2.2.1)
     have HS8_ := hxb hb (hHeld.2.2.2.2.2.2.2.2.1)
     have HS9_ := hxb hb (hHeld.2.2.2.2.2.2.2.2.2.1)
     have HS10_ := hxb hb (hHeld.2.2.2.2.2.2.2.2.2.2.1)
     have HS11_ := hxb hb (hHeld.2.2.2.2.2.2.2.2.2.2.2.1)
     have HS12_ := hxb hb (hHeld.2.2.2.2.2.2.2.2.2.2.2.2.1)
     have HS13_ := hxb hb (hHeld.2.2.2.2.2.2.2.2.2.2.2.2.2.1)
     have HS14_ := hxb hb (hHeld.2.2.2.2.2.2.2.2.2.2.2.2.2.2.1)
     have HS15_ := hxb hb (hHeld.2.2.2.2.2.2.2.2.2.2.2.2.2.2.2.1)
     have HS16_ := hxb hb (hHeld.2.2.2.2.2.2.2.2.2.2.2.2.2.2.2.2.1)
     have HS17_ := hxb hb (hHeld.2.2.2.2.2.2.2.2.2.2.2.2.2.2.2.2.2.1)
     have HS18_ := hxb hb (hHeld.2.2.2.2.2.2.2.2.2.2.2.2.2.2.2.2.2.2.1)
     have HS19_ := hxb hb (hHeld.2.2.2.2.2.2.2.2.2.2.2.2.2.2.2.2.2.2.2.1)
     have HS20_ := hxb hb (hHeld.2.2.2.2.2.2.2.2.2.2.2.2.2.2.2.2.2.2.2.2.1)
     have HS21_ := hxb hb (hHeld.2.2.2.2.2.2.2.2.2.2.2.2.2.2.2.2.2.2.2.2.2)
     refine ⟨_, rfl, ?_⟩
     have n0_ := Aside0.mk (Kd.R_below (by exact rq HO_5.out) hb)
     have n1_ := Aside0.mk (Kd.R_below (by exact rq HO_7.out) hb)
     have n2_ := Aside0.mk (Kd.R_below (by exact rq HO_11.out) hb)
     have n3_ := Aside0.mk (Kd.R_below (by exact rq HO299.out) hb)
     have n4_ := Aside0.mk (below_step (by exact h0q HB.out) hb)
     clear HO_5 HO_7 HO_11 HO299 HB
     have HO_5 := n0_
     have HO_7 := n1_
     have HO_11 := n2_
     have HO299 := n3_
     have HB := n4_
     clear n0_ n1_ n2_ n3_ n4_
     (try clear hb)
     (try clear hb2)
     (try clear hk)
     (try clear hi)
     refine hK.out _ _ ⟨HS0_, HS1_, HS2_, HS3_, HS4_, HS5_, HS6_, HS7_, HS8_, HS9_, HS10_, HS11_, HS12_, HS13_, HS14_, HS15_, HS16_, HS17_, HS18_, HS19_, HS20_, HS21_⟩ (fun hHeld => ?_)
     clear hK K
     refine norm_ (a' := ?_) ?_ ?_
     rotate_left
     ·show Act.put _ (some 126) _ = _
      simp only [Act.put, List.setIfInBounds_toArray, List.set_cons_zero, List.set_cons_succ, i64_w, i32_w]
      rfl
     refine pure_ (i := 26) (N := some 127) (v := ?_) (a' := ?_) #[true, true, true, true, true, true, true, true, true, true, true, true, true, true, true, true, true, true, true, true, true, true, true, true, true, true, true, false] rfl rfl (any_of HT_.out (by kernel_rfl)) (fun _ _ _ h => h) (Or.inl ⟨by rfl, ?_⟩) ?_ ?_
     rotate_left
     ·intro w'
      go_simp
      with_reducible rfl
     rotate_left
     ·simp only [Act.put, List.setIfInBounds_toArray, List.set_cons_zero, List.set_cons_succ, i64_w, i32_w]
      rfl
     refine pure_ (i := 27) (N := some 128) (v := ?_) (a' := ?_) #[true, true, true, true, true, true, true, true, true, true, true, true, true, true, true, true, true, true, true, true, true, true, true, true, true, true, true, true] rfl rfl (any_of HT_.out (by kernel_rfl)) (fun _ _ _ h => h) (Or.inl ⟨by rfl, ?_⟩) ?_ ?_
     rotate_left
     ·intro w'
      go_simp
      with_reducible rfl
     rotate_left
     ·simp only [Act.put, List.setIfInBounds_toArray, List.set_cons_zero, List.set_cons_succ, i64_w, i32_w]
      rfl
     refine done_ (done_of HT_.out (by kernel_rfl)) ?_
     try go_wp2
     go_roundg k3
     case measure => have := HK1.out; have := HJ18.out; have := HK3.out; omega
     case rel => exact ⟨(t297), (wrap64 (x12_3 + 1)), (by first | rfl | (simp; done) | (simp [*]; done)), H', ⟨by have := HK1.out; have := HJ18.out; have := HK3.out; omega⟩, ⟨by (try simp only [hl5_18]); (with_reducible repeat (first | apply Kd.R_alloc | apply Kd.R_drewN | apply Kd.R_drew)); exact Kd.R_mono HO_5.out (fun _ hk => ⟨hk.1.1, hk.2⟩)⟩, ⟨by (try simp only [hl5_18]); (with_reducible repeat (first | apply Kd.R_alloc | apply Kd.R_drewN | apply Kd.R_drew)); exact Kd.R_mono HO_7.out (fun _ hk => ⟨hk.1.1, hk.2⟩)⟩, ⟨by (try simp only [hl5_18]); (with_reducible repeat (first | apply Kd.R_alloc | apply Kd.R_drewN | apply Kd.R_drew)); exact Kd.R_mono HO299.out (fun _ hk => ⟨hk.1.1.2, hk.1.2⟩)⟩, ⟨by exact h0q HB.out⟩⟩
    rw [if_neg c42] at H
    have c42b0 : decide (x12_3 < (x5_18.length : Int)) = false := decide_eq_false c42
    clear c42
    have H' := Aside0.mk H
    clear H
    go_wp2
    go_loopg [15] k3 (fun kq v15 w' => ∃ (x15_4 : Int), v15 = .int .i64 x15_4 ∧ Aside0 (annuitylaw23_OrderOne.l3 kq x5_18 t287 x11_3 x15_4 = some r) ∧ Aside0 (kq ≤ k3) ∧ Aside0 (Kd.R k26 26 w' w.heap.size (fun k_ => some k_ ≠ (v288 : Value).ownBlock ∧ some k_ ≠ (u11 : Value).ownBlock) (.slice Ao23 x5_18.length co23) x5_18) ∧ Aside0 (Kd.R k26 26 w' w.heap.size (fun k_ => some k_ ≠ ((.slice Ao23 x5_18.length co23) : Value).ownBlock ∧ some k_ ≠ (u11 : Value).ownBlock) v288 t287) ∧ Aside0 (Kd.R k26 26 w' w.heap.size (fun k_ => some k_ ≠ ((.slice Ao23 x5_18.length co23) : Value).ownBlock ∧ some k_ ≠ (v288 : Value).ownBlock) u11 x11_3) ∧ Aside0 (Below w.heap.size w w'))
    case atStart => exact ⟨(1), (by first | rfl | (simp; done) | (simp [*]; done)), H', ⟨Nat.le_refl _⟩, ⟨by (try simp only [hl5_18]); (with_reducible repeat (first | apply Kd.R_alloc | apply Kd.R_drewN | apply Kd.R_drew)); exact HO_5.out⟩, ⟨by (try simp only [hl5_18]); (with_reducible repeat (first | apply Kd.R_alloc | apply Kd.R_drewN | apply Kd.R_drew)); exact HO_7.out⟩, ⟨by (try simp only [hl5_18]); (with_reducible repeat (first | apply Kd.R_alloc | apply Kd.R_drewN | apply Kd.R_drew)); exact HO_11.out⟩, ⟨by exact h0q HB.out⟩⟩
    case round =>
     clear H'
     try clear c1
     try clear c3
     try clear c3b0 c3b1
     try clear c6
     try clear c6b0 c6b1
     try clear c9
     try clear c9b0
     try clear c10
     try clear c10b0
     try clear c12
     try clear c12b0
     try clear c13
     try clear c17
     try clear c26
     try clear c26b0
     try clear c27
     try clear c27b0 c27b1
     try clear c28
     try clear c28b0 c28b1
     try clear c28b2
     try clear c29
     try clear c29b0
     try clear c31
     try clear c31b0
     try clear c32
     try clear c32b0
     try clear c34
     try clear c34b0
     try clear c35
     try clear c35b0
     try clear p36 q36
     try clear p37 q37
     try clear c42
     try clear c42b0
     try clear c43
     try clear c43b0
     try clear c45
     try clear c45b0 c45b1
     try clear c46
     try clear c46b0
     try clear c47
     try clear c47b0
     try clear c48
     try clear c48b0
     try clear c49
     try clear c49b0
     try clear c51
     try clear hx275_0
     try clear hx275_1
     try clear hx275_10
     try clear hx275_2
     try clear hx275_3
     try clear hx275_4
     try clear hx275_5
     try clear hx275_6
     try clear hx275_7
     try clear hx275_8
     try clear hx275_9
     try clear hx277_0
     try clear hx277_1
     try clear hx277_10
     try clear hx277_2
     try clear hx277_3
     try clear hx277_4
     try clear hx277_5
     try clear hx277_6
     try clear hx277_7
     try clear hx277_8
     try clear hx277_9
     try clear hx290_0
     try clear hx292_0
     try clear hx292_1
     try clear hx292_10
     try clear hx292_2
     try clear hx292_3
     try clear hx292_4
     try clear hx292_5
     try clear hx292_6
     try clear hx292_7
     try clear hx292_8
     try clear hx292_9
     try clear hx293_0
     try clear hx293_1
     try clear hx293_10
     try clear hx293_2
     try clear hx293_3
     try clear hx293_4
     try clear hx293_5
     try clear hx293_6
     try clear hx293_7
     try clear hx293_8
     try clear hx293_9
     try clear hx296_0
     try clear hx296_1
     try clear hx296_10
     try clear hx296_2
     try clear hx296_3
     try clear hx296_4
     try clear hx296_5
     try clear hx296_6
     try clear hx296_7
     try clear hx296_8
     try clear hx296_9
     try clear hx301_0
     try clear hx301_1
     try clear hx301_10
     try clear hx301_2
     try clear hx301_3
     try clear hx301_4
     try clear hx301_5
     try clear hx301_6
     try clear hx301_7
     try clear hx301_8
     try clear hx301_9
     try clear hx302_0
     try clear hx302_1
     try clear hx302_10
     try clear hx302_2
     try clear hx302_3
     try clear hx302_4
     try clear hx302_5
     try clear hx302_6
     try clear hx302_7
     try clear hx302_8
     try clear hx302_9
     try clear hx36_0
     try clear hx36_1
     try clear hx36_10
     try clear hx36_2
     try clear hx36_3
     try clear hx36_4
     try clear hx36_5
     try clear hx36_6
     try clear hx36_7
     try clear hx36_8
     try clear hx36_9
     try clear hx37_0
     try clear hx37_1
     try clear hx37_10
     try clear hx37_2
     try clear hx37_3
     try clear hx37_4
     try clear hx37_5
     try clear hx37_6
     try clear hx37_7
     try clear hx37_8
     try clear hx37_9
     try clear p275
     try clear p277
     try clear p290
     try clear p292
     try clear p293
     try clear p296
     try clear p301
     try clear p302
     try clear p36
     try clear p37
     try clear q275
     try clear q277
     try clear q290
     try clear q292
     try clear q293
     try clear q296
     try clear q301
     try clear q302
     try clear q36
     try clear q37
     obtain ⟨x15_4, rfl, HA, HK4, HO_5, HO_7, HO_11, HB⟩ := hrel
     rcases gk with _ | k4
     ·exact absurd HA.out (by simp [annuitylaw23_OrderOne.l3])
     have H := HA.out
     clear HA
     simp only [annuitylaw23_OrderOne.l3] at H
     by_cases c57 : x15_4 < (t287.length : Int)
     case neg =>
      rw [if_neg c57] at H
      have c57b0 : decide (x15_4 < (t287.length : Int)) = false := decide_eq_false c57
      clear c57
      replace H := Option.bind_eq_some_iff.mp H
      obtain ⟨t310, A700, H⟩ := H
      replace H : ((annuitykeep_Events.f k4 t310 t287).bind fun t313 => (if t313 = true then ((annuitykeep_Events.f k4 x11_3 t287).bind fun t314 => (if t314 = true then ((annuitylaw23_wakes.f k4).bind fun t315 => (some t315)) else (none))) else (none))) = some r := H
      have A70 := Aside0.mk A700
      clear A700
      replace H := Option.bind_eq_some_iff.mp H
      obtain ⟨t313, A710, H⟩ := H
      replace H : (if t313 = true then ((annuitykeep_Events.f k4 x11_3 t287).bind fun t314 => (if t314 = true then ((annuitylaw23_wakes.f k4).bind fun t315 => (some t315)) else (none))) else (none)) = some r := H
      have A71 := Aside0.mk A710
      clear A710
      by_cases c72 : t313 = true
      case neg =>
       replace c72 := Bool.eq_false_iff.mpr c72
       subst c72
       have H1 : (none) = some r := by rw [if_neg (show ¬ (false = true) by decide)] at H; exact H
       clear H
       have H := H1
       clear H1
       exact absurd H (by simp)
      subst c72
      have H1 : ((annuitykeep_Events.f k4 x11_3 t287).bind fun t314 => (if t314 = true then ((annuitylaw23_wakes.f k4).bind fun t315 => (some t315)) else (none))) = some r := by rw [if_pos rfl] at H; exact H
      clear H
      have H := H1
      clear H1
      replace H := Option.bind_eq_some_iff.mp H
      obtain ⟨t314, A730, H⟩ := H
      replace H : (if t314 = true then ((annuitylaw23_wakes.f k4).bind fun t315 => (some t315)) else (none)) = some r := H
      have A73 := Aside0.mk A730
      clear A730
      by_cases c74 : t314 = true
      case neg =>
       replace c74 := Bool.eq_false_iff.mpr c74
       subst c74
       have H1 : (none) = some r := by rw [if_neg (show ¬ (false = true) by decide)] at H; exact H
       clear H
       have H := H1
       clear H1
       exact absurd H (by simp)
      subst c74
      have H1 : ((annuitylaw23_wakes.f k4).bind fun t315 => (some t315)) = some r := by rw [if_pos rfl] at H; exact H
      clear H
      have H := H1
      clear H1
      replace H := Option.bind_eq_some_iff.mp H
      obtain ⟨t315, A750, H⟩ := H
      replace H : (some t315) = some r := H
      have A75 := Aside0.mk A750
      clear A750
      obtain rfl := Option.some.inj H
      obtain ⟨Ao76, co76, eo76⟩ := Kd.R_slice HO_7.out
      subst eo76
      go_wp2_with (first | ((with_reducible refine gate_callee (f := 7) rfl ?_); refine goesL_ (some 161) rfl rfl Try.func7 (by kernel_rfl) rfl #[.slice Ao23 x5_18.length co23] rfl (by (try simp only [List.map_toArray, List.map_cons, List.map_nil]); first | done | rfl | (simp only [List.length_drop, List.length_take]; rfl)) ?_; (with_reducible refine (order_Sort.calls k4 _ _ x5_18 t310 _ ?side1 ?side2 A70.out).mono ?_); (case side1 => repeat (first | exact (Kd.R_reads' HO_5.out).2.2 | (with_reducible refine Kd.C_alloc ?_ _) | (with_reducible refine Kd.C_drewN ?_ _) | (with_reducible refine Kd.C_drew ?_))); (case side2 => exact (Kd.R_reads' HO_5.out).2.1); rintro e w77 ⟨v311, rfl, ho0, hb⟩; refine ⟨_, rfl, ?_⟩; have n0_ := Aside0.mk (Kd.R_elder' (by exact rq HO_5.out) (Kd.R_base ho0) hb); have n1_ := Aside0.mk (Kd.R_elder' (by exact rq HO_7.out) (Kd.R_base ho0) hb); have n2_ := Aside0.mk (Kd.R_elder' (by exact rq HO_11.out) (Kd.R_base ho0) hb); have n3_ := Aside0.mk (Kd.R_lower (Kd.R_new' (Kd.R_new' (Kd.R_new' ho0 (Kd.R_lt (by exact rq HO_5.out))) (Kd.R_lt (by exact rq HO_7.out))) (Kd.R_lt (by exact rq HO_11.out))) (below_size (by exact h0q HB.out))); have n4_ := Aside0.mk (below_step (by exact h0q HB.out) hb); clear HO_5; clear HO_7; clear HO_11; clear HB; have HO_5 := n0_; have HO_7 := n1_; have HO_11 := n2_; have HO312 := n3_; have HB := n4_; clear n0_ n1_ n2_ n3_ n4_; (try clear hb); (try clear hb2); (try clear hk); (try clear hi); (try clear ho0); obtain ⟨Ao78, co78, eo78⟩ := Kd.R_slice HO312.out; subst eo78) | ((with_reducible refine gate_callee (f := 11) rfl ?_); refine goesL_ (some 163) rfl rfl Try.func11 (by kernel_rfl) rfl #[.slice Ao78 t310.length co78, .slice Ao76 t287.length co76] rfl (by (try simp only [List.map_toArray, List.map_cons, List.map_nil]); first | done | rfl | (simp only [List.length_drop, List.length_take]; rfl)) ?_; (with_reducible refine (annuitykeep_Events.calls k4 _ _ t310 _ _ t287 true _ ?side1 ?side2 ?side3 ?side4 A71.out).mono ?_); (case side1 => repeat (first | exact (Kd.R_reads' HO312.out).2.2 | (with_reducible refine Kd.C_alloc ?_ _) | (with_reducible refine Kd.C_drewN ?_ _) | (with_reducible refine Kd.C_drew ?_))); (case side2 => exact (Kd.R_reads' HO312.out).2.1); (case side3 => repeat (first | exact (Kd.R_reads' HO_7.out).2.2 | (with_reducible refine Kd.C_alloc ?_ _) | (with_reducible refine Kd.C_drewN ?_ _) | (with_reducible refine Kd.C_drew ?_))); (case side4 => exact (Kd.R_reads' HO_7.out).2.1); rintro e w79 ⟨rfl, hb⟩; refine ⟨_, rfl, ?_⟩; have n0_ := Aside0.mk (Kd.R_below (by exact rq HO_5.out) hb); have n1_ := Aside0.mk (Kd.R_below (by exact rq HO_7.out) hb); have n2_ := Aside0.mk (Kd.R_below (by exact rq HO_11.out) hb); have n3_ := Aside0.mk (Kd.R_below (by exact rq HO312.out) hb); have n4_ := Aside0.mk (below_step (by exact h0q HB.out) hb); clear HO_5; clear HO_7; clear HO_11; clear HO312; clear HB; have HO_5 := n0_; have HO_7 := n1_; have HO_11 := n2_; have HO312 := n3_; have HB := n4_; clear n0_ n1_ n2_ n3_ n4_; (try clear hb); (try clear hb2); (try clear hk); (try clear hi); obtain ⟨Ao80, co80, eo80⟩ := Kd.R_slice HO_11.out; subst eo80) | (go_at_call 11; (with_reducible refine (annuitykeep_Events.calls k4 _ _ x11_3 _ _ t287 true _ ?side1 ?side2 ?side3 ?side4 A73.out).mono ?_); (case side1 => repeat (first | exact (Kd.R_reads' HO_11.out).2.2 | (with_reducible refine Kd.C_alloc ?_ _) | (with_reducible refine Kd.C_drewN ?_ _) | (with_reducible refine Kd.C_drew ?_))); (case side2 => exact (Kd.R_reads' HO_11.out).2.1); (case side3 => repeat (first | exact (Kd.R_reads' HO_7.out).2.2 | (with_reducible refine Kd.C_alloc ?_ _) | (with_reducible refine Kd.C_drewN ?_ _) | (with_reducible refine Kd.C_drew ?_))); (case side4 => exact (Kd.R_reads' HO_7.out).2.1); rintro e w81 ⟨rfl, hb⟩; have n0_ := Aside0.mk (Kd.R_below (by exact rq HO_5.out) hb); have n1_ := Aside0.mk (Kd.R_below (by exact rq HO_7.out) hb); have n2_ := Aside0.mk (Kd.R_below (by exact rq HO_11.out) hb); have n3_ := Aside0.mk (Kd.R_below (by exact rq HO312.out) hb); have n4_ := Aside0.mk (below_step (by exact h0q HB.out) hb); clear HO_5; clear HO_7; clear HO_11; clear HO312; clear HB; have HO_5 := n0_; have HO_7 := n1_; have HO_11 := n2_; have HO312 := n3_; have HB := n4_; clear n0_ n1_ n2_ n3_ n4_; (try clear hb); (try clear hb2); (try clear hk); (try clear hi)) | (go_at_call 6; (with_reducible refine (annuitylaw23_wakes.calls k4  t315 _ A75.out).mono ?_); rintro e w82 ⟨rfl, hb⟩; have n0_ := Aside0.mk (Kd.R_below (by exact rq HO_5.out) hb); have n1_ := Aside0.mk (Kd.R_below (by exact rq HO_7.out) hb); have n2_ := Aside0.mk (Kd.R_below (by exact rq HO_11.out) hb); have n3_ := Aside0.mk (Kd.R_below (by exact rq HO312.out) hb); have n4_ := Aside0.mk (below_step (by exact h0q HB.out) hb); clear HO_5; clear HO_7; clear HO_11; clear HO312; clear HB; have HO_5 := n0_; have HO_7 := n1_; have HO_11 := n2_; have HO312 := n3_; have HB := n4_; clear n0_ n1_ n2_ n3_ n4_; (try clear hb); (try clear hb2); (try clear hk); (try clear hi)))
      go_ret
      exact ⟨by first | rfl | (simp [errW_none, errW_some] <;> rfl) | (simp [*, errW_none, errW_some] <;> rfl), by exact h0q HB.out⟩
     rw [if_pos c57] at H
     have c57b0 : decide (x15_4 < (t287.length : Int)) = true := decide_eq_true c57
     clear c57
     obtain ⟨ji58, hji58⟩ : ∃ j_ : Int, (wrap64 (x15_4 - 1)) = j_ := ⟨_, rfl⟩
     replace H : (if 0 ≤ (ji58) then (if (ji58) < (t287.length : Int) then (if 0 ≤ x15_4 then ((order_Compare.f k4 ((rd_T26 t287 (ji58)).f0) ((rd_T26 t287 (ji58)).f1) ((rd_T26 t287 (ji58)).f2) ((rd_T26 t287 (ji58)).f3) ((rd_T26 t287 (ji58)).f4) ((rd_T26 t287 (ji58)).f5) ((rd_T26 t287 (ji58)).f6) ((rd_T26 t287 (ji58)).f7) ((rd_T26 t287 (ji58)).f8) ((rd_T26 t287 (ji58)).f9) ((rd_T26 t287 (ji58)).f10) ((rd_T26 t287 x15_4).f0) ((rd_T26 t287 x15_4).f1) ((rd_T26 t287 x15_4).f2) ((rd_T26 t287 x15_4).f3) ((rd_T26 t287 x15_4).f4) ((rd_T26 t287 x15_4).f5) ((rd_T26 t287 x15_4).f6) ((rd_T26 t287 x15_4).f7) ((rd_T26 t287 x15_4).f8) ((rd_T26 t287 x15_4).f9) ((rd_T26 t287 x15_4).f10)).bind fun t306 => (if t306 = (-1) then ((order_Compare.f k4 ((rd_T26 t287 x15_4).f0) ((rd_T26 t287 x15_4).f1) ((rd_T26 t287 x15_4).f2) ((rd_T26 t287 x15_4).f3) ((rd_T26 t287 x15_4).f4) ((rd_T26 t287 x15_4).f5) ((rd_T26 t287 x15_4).f6) ((rd_T26 t287 x15_4).f7) ((rd_T26 t287 x15_4).f8) ((rd_T26 t287 x15_4).f9) ((rd_T26 t287 x15_4).f10) ((rd_T26 t287 (ji58)).f0) ((rd_T26 t287 (ji58)).f1) ((rd_T26 t287 (ji58)).f2) ((rd_T26 t287 (ji58)).f3) ((rd_T26 t287 (ji58)).f4) ((rd_T26 t287 (ji58)).f5) ((rd_T26 t287 (ji58)).f6) ((rd_T26 t287 (ji58)).f7) ((rd_T26 t287 (ji58)).f8) ((rd_T26 t287 (ji58)).f9) ((rd_T26 t287 (ji58)).f10)).bind fun t309 => (if t309 = 1 then (annuitylaw23_OrderOne.l3 k4 x5_18 t287 x11_3 (wrap64 (x15_4 + 1))) else (none))) else (none))) else (none)) else (none)) else (none)) = some r := by first | (rw [hji58] at H; exact H) | (simp only [hji58] at H ⊢; exact H)
     have hji58w : (IntKind.i64.wrap (x15_4 - 1)) = ji58 := (i64_w _).trans hji58
     by_cases c59 : 0 ≤ (ji58)
     case neg =>
      rw [if_neg c59] at H
      exact absurd H (by simp)
     rw [if_pos c59] at H
     have c59b0 : decide (0 ≤ (ji58)) = true := decide_eq_true c59
     clear c59
     by_cases c60 : (ji58) < (t287.length : Int)
     case neg =>
      rw [if_neg c60] at H
      exact absurd H (by simp)
     rw [if_pos c60] at H
     have c60b0 : decide ((ji58) < (t287.length : Int)) = true := decide_eq_true c60
     clear c60
     by_cases c61 : 0 ≤ x15_4
     case neg =>
      rw [if_neg c61] at H
      exact absurd H (by simp)
     rw [if_pos c61] at H
     have c61b0 : decide (0 ≤ x15_4) = true := decide_eq_true c61
     clear c61
     replace H := Option.bind_eq_some_iff.mp H
     obtain ⟨t306, A620, H⟩ := H
     replace H : (if t306 = (-1) then ((order_Compare.f k4 ((rd_T26 t287 x15_4).f0) ((rd_T26 t287 x15_4).f1) ((rd_T26 t287 x15_4).f2) ((rd_T26 t287 x15_4).f3) ((rd_T26 t287 x15_4).f4) ((rd_T26 t287 x15_4).f5) ((rd_T26 t287 x15_4).f6) ((rd_T26 t287 x15_4).f7) ((rd_T26 t287 x15_4).f8) ((rd_T26 t287 x15_4).f9) ((rd_T26 t287 x15_4).f10) ((rd_T26 t287 (ji58)).f0) ((rd_T26 t287 (ji58)).f1) ((rd_T26 t287 (ji58)).f2) ((rd_T26 t287 (ji58)).f3) ((rd_T26 t287 (ji58)).f4) ((rd_T26 t287 (ji58)).f5) ((rd_T26 t287 (ji58)).f6) ((rd_T26 t287 (ji58)).f7) ((rd_T26 t287 (ji58)).f8) ((rd_T26 t287 (ji58)).f9) ((rd_T26 t287 (ji58)).f10)).bind fun t309 => (if t309 = 1 then (annuitylaw23_OrderOne.l3 k4 x5_18 t287 x11_3 (wrap64 (x15_4 + 1))) else (none))) else (none)) = some r := H
     have A62 := Aside0.mk A620
     clear A620
     by_cases c63 : t306 = (-1)
     case neg =>
      rw [if_neg c63] at H
      have c63b0 : (t306 == (-1)) = false := beq_eq_false_iff_ne.mpr c63
      have c63b1 : (t306 != (-1)) = true := bne_iff_ne.mpr c63
      exact absurd H (by simp)
     rw [if_pos c63] at H
     have c63b0 : (t306 == (-1)) = true := beq_iff_eq.mpr c63
     have c63b1 : (t306 != (-1)) = false := bne_eq_false_iff_eq.mpr c63
     clear c63
     replace H := Option.bind_eq_some_iff.mp H
     obtain ⟨t309, A640, H⟩ := H
     replace H : (if t309 = 1 then (annuitylaw23_OrderOne.l3 k4 x5_18 t287 x11_3 (wrap64 (x15_4 + 1))) else (none)) = some r := H
     have A64 := Aside0.mk A640
     clear A640
     by_cases c65 : t309 = 1
     case neg =>
      rw [if_neg c65] at H
      exact absurd H (by simp)
     rw [if_pos c65] at H
     have c65b0 : (t309 == 1) = true := beq_iff_eq.mpr c65
     have c65b1 : (t309 != 1) = false := bne_eq_false_iff_eq.mpr c65
     clear c65
     have H' := Aside0.mk H
     clear H
     obtain ⟨Ao66, co66, eo66⟩ := Kd.R_slice HO_7.out
     subst eo66
     try go_wp2
     have n0_ := Aside0.mk (Kd.R_drew HO_5.out)
     have n1_ := Aside0.mk (Kd.R_drew HO_7.out)
     have n2_ := Aside0.mk (Kd.R_drew HO_11.out)
     have n3_ := Aside0.mk (below_drew1 HB.out)
     clear HO_5 HO_7 HO_11 HB
     have HO_5 := n0_
     have HO_7 := n1_
     have HO_11 := n2_
     have HB := n3_
     clear n0_ n1_ n2_ n3_
     have p304 : 0 ≤ ((ji58) : Int) := yd
     have q304 : (ji58) < (t287.length : Int) := yd
     obtain ⟨ad304, e304, hx304_0, hx304_1, hx304_2, hx304_3, hx304_4, hx304_5, hx304_6, hx304_7, hx304_8, hx304_9, hx304_10⟩ := at_T26 (Kd.R_reads' HO_7.out).2.2 (ji58) p304 q304
     cases e304
     replace p304 := eq_true p304
     replace q304 := eq_true q304
     have p305 : 0 ≤ (x15_4 : Int) := yd
     have q305 : x15_4 < (t287.length : Int) := yd
     obtain ⟨ad305, e305, hx305_0, hx305_1, hx305_2, hx305_3, hx305_4, hx305_5, hx305_6, hx305_7, hx305_8, hx305_9, hx305_10⟩ := at_T26 (Kd.R_reads' HO_7.out).2.2 x15_4 p305 q305
     obtain rfl : ad304 = ad305 := (by injection e305)
     replace p305 := eq_true p305
     replace q305 := eq_true q305
     have p307 : 0 ≤ (x15_4 : Int) := yd
     have q307 : x15_4 < (t287.length : Int) := yd
     obtain ⟨ad307, e307, hx307_0, hx307_1, hx307_2, hx307_3, hx307_4, hx307_5, hx307_6, hx307_7, hx307_8, hx307_9, hx307_10⟩ := at_T26 (Kd.R_reads' HO_7.out).2.2 x15_4 p307 q307
     obtain rfl : ad304 = ad307 := (by injection e307)
     replace p307 := eq_true p307
     replace q307 := eq_true q307
     have p308 : 0 ≤ ((ji58) : Int) := yd
     have q308 : (ji58) < (t287.length : Int) := yd
     obtain ⟨ad308, e308, hx308_0, hx308_1, hx308_2, hx308_3, hx308_4, hx308_5, hx308_6, hx308_7, hx308_8, hx308_9, hx308_10⟩ := at_T26 (Kd.R_reads' HO_7.out).2.2 (ji58) p308 q308
     obtain rfl : ad304 = ad308 := (by injection e308)
     replace p308 := eq_true p308
     replace q308 := eq_true q308
     refine start_ (n := 24) (S := fun w' => w'.cell? (ad304.add (((ji58)).toNat * 11)) = some (.int .i64 ((rd_T26 t287 (ji58)).f0)) ∧ w'.cell? ⟨(ad304.add (((ji58)).toNat * 11)).block, (ad304.add (((ji58)).toNat * 11)).off + 1, none⟩ = some (.int .i64 ((rd_T26 t287 (ji58)).f1)) ∧ w'.cell? ⟨(ad304.add (((ji58)).toNat * 11)).block, (ad304.add (((ji58)).toNat * 11)).off + 2, none⟩ = some (.int .u32 ((rd_T26 t287 (ji58)).f2)) ∧ w'.cell? ⟨(ad304.add (((ji58)).toNat * 11)).block, (ad304.add (((ji58)).toNat * 11)).off + 3, none⟩ = some (.int .i64 ((rd_T26 t287 (ji58)).f3)) ∧ w'.cell? ⟨(ad304.add (((ji58)).toNat * 11)).block, (ad304.add (((ji58)).toNat * 11)).off + 4, none⟩ = some (.int .i64 ((rd_T26 t287 (ji58)).f4)) ∧ w'.cell? ⟨(ad304.add (((ji58)).toNat * 11)).block, (ad304.add (((ji58)).toNat * 11)).off + 5, none⟩ = some (.float .f64 ((rd_T26 t287 (ji58)).f5)) ∧ w'.cell? ⟨(ad304.add (((ji58)).toNat * 11)).block, (ad304.add (((ji58)).toNat * 11)).off + 6, none⟩ = some (.float .f64 ((rd_T26 t287 (ji58)).f6)) ∧ w'.cell? ⟨(ad304.add (((ji58)).toNat * 11)).block, (ad304.add (((ji58)).toNat * 11)).off + 7, none⟩ = some (.bool ((rd_T26 t287 (ji58)).f7)) ∧ w'.cell? ⟨(ad304.add (((ji58)).toNat * 11)).block, (ad304.add (((ji58)).toNat * 11)).off + 8, none⟩ = some (.int .i64 ((rd_T26 t287 (ji58)).f8)) ∧ w'.cell? ⟨(ad304.add (((ji58)).toNat * 11)).block, (ad304.add (((ji58)).toNat * 11)).off + 9, none⟩ = some (.int .i64 ((rd_T26 t287 (ji58)).f9)) ∧ w'.cell? ⟨(ad304.add (((ji58)).toNat * 11)).block, (ad304.add (((ji58)).toNat * 11)).off + 10, none⟩ = some (.int .i64 ((rd_T26 t287 (ji58)).f10)) ∧ w'.cell? (ad304.add ((x15_4).toNat * 11)) = some (.int .i64 ((rd_T26 t287 x15_4).f0)) ∧ w'.cell? ⟨(ad304.add ((x15_4).toNat * 11)).block, (ad304.add ((x15_4).toNat * 11)).off + 1, none⟩ = some (.int .i64 ((rd_T26 t287 x15_4).f1)) ∧ w'.cell? ⟨(ad304.add ((x15_4).toNat * 11)).block, (ad304.add ((x15_4).toNat * 11)).off + 2, none⟩ = some (.int .u32 ((rd_T26 t287 x15_4).f2)) ∧ w'.cell? ⟨(ad304.add ((x15_4).toNat * 11)).block, (ad304.add ((x15_4).toNat * 11)).off + 3, none⟩ = some (.int .i64 ((rd_T26 t287 x15_4).f3)) ∧ w'.cell? ⟨(ad304.add ((x15_4).toNat * 11)).block, (ad304.add ((x15_4).toNat * 11)).off + 4, none⟩ = some (.int .i64 ((rd_T26 t287 x15_4).f4)) ∧ w'.cell? ⟨(ad304.add ((x15_4).toNat * 11)).block, (ad304.add ((x15_4).toNat * 11)).off + 5, none⟩ = some (.float .f64 ((rd_T26 t287 x15_4).f5)) ∧ w'.cell? ⟨(ad304.add ((x15_4).toNat * 11)).block, (ad304.add ((x15_4).toNat * 11)).off + 6, none⟩ = some (.float .f64 ((rd_T26 t287 x15_4).f6)) ∧ w'.cell? ⟨(ad304.add ((x15_4).toNat * 11)).block, (ad304.add ((x15_4).toNat * 11)).off + 7, none⟩ = some (.bool ((rd_T26 t287 x15_4).f7)) ∧ w'.cell? ⟨(ad304.add ((x15_4).toNat * 11)).block, (ad304.add ((x15_4).toNat * 11)).off + 8, none⟩ = some (.int .i64 ((rd_T26 t287 x15_4).f8)) ∧ w'.cell? ⟨(ad304.add ((x15_4).toNat * 11)).block, (ad304.add ((x15_4).toNat * 11)).off + 9, none⟩ = some (.int .i64 ((rd_T26 t287 x15_4).f9)) ∧ w'.cell? ⟨(ad304.add ((x15_4).toNat * 11)).block, (ad304.add ((x15_4).toNat * 11)).off + 10, none⟩ = some (.int .i64 ((rd_T26 t287 x15_4).f10)) ∧ w'.cell? (ad304.add ((x15_4).toNat * 11)) = some (.int .i64 ((rd_T26 t287 x15_4).f0)) ∧ w'.cell? ⟨(ad304.add ((x15_4).toNat * 11)).block, (ad304.add ((x15_4).toNat * 11)).off + 1, none⟩ = some (.int .i64 ((rd_T26 t287 x15_4).f1)) ∧ w'.cell? ⟨(ad304.add ((x15_4).toNat * 11)).block, (ad304.add ((x15_4).toNat * 11)).off + 2, none⟩ = some (.int .u32 ((rd_T26 t287 x15_4).f2)) ∧ w'.cell? ⟨(ad304.add ((x15_4).toNat * 11)).block, (ad304.add ((x15_4).toNat * 11)).off + 3, none⟩ = some (.int .i64 ((rd_T26 t287 x15_4).f3)) ∧ w'.cell? ⟨(ad304.add ((x15_4).toNat * 11)).block, (ad304.add ((x15_4).toNat * 11)).off + 4, none⟩ = some (.int .i64 ((rd_T26 t287 x15_4).f4)) ∧ w'.cell? ⟨(ad304.add ((x15_4).toNat * 11)).block, (ad304.add ((x15_4).toNat * 11)).off + 5, none⟩ = some (.float .f64 ((rd_T26 t287 x15_4).f5)) ∧ w'.cell? ⟨(ad304.add ((x15_4).toNat * 11)).block, (ad304.add ((x15_4).toNat * 11)).off + 6, none⟩ = some (.float .f64 ((rd_T26 t287 x15_4).f6)) ∧ w'.cell? ⟨(ad304.add ((x15_4).toNat * 11)).block, (ad304.add ((x15_4).toNat * 11)).off + 7, none⟩ = some (.bool ((rd_T26 t287 x15_4).f7)) ∧ w'.cell? ⟨(ad304.add ((x15_4).toNat * 11)).block, (ad304.add ((x15_4).toNat * 11)).off + 8, none⟩ = some (.int .i64 ((rd_T26 t287 x15_4).f8)) ∧ w'.cell? ⟨(ad304.add ((x15_4).toNat * 11)).block, (ad304.add ((x15_4).toNat * 11)).off + 9, none⟩ = some (.int .i64 ((rd_T26 t287 x15_4).f9)) ∧ w'.cell? ⟨(ad304.add ((x15_4).toNat * 11)).block, (ad304.add ((x15_4).toNat * 11)).off + 10, none⟩ = some (.int .i64 ((rd_T26 t287 x15_4).f10)) ∧ w'.cell? (ad304.add (((ji58)).toNat * 11)) = some (.int .i64 ((rd_T26 t287 (ji58)).f0)) ∧ w'.cell? ⟨(ad304.add (((ji58)).toNat * 11)).block, (ad304.add (((ji58)).toNat * 11)).off + 1, none⟩ = some (.int .i64 ((rd_T26 t287 (ji58)).f1)) ∧ w'.cell? ⟨(ad304.add (((ji58)).toNat * 11)).block, (ad304.add (((ji58)).toNat * 11)).off + 2, none⟩ = some (.int .u32 ((rd_T26 t287 (ji58)).f2)) ∧ w'.cell? ⟨(ad304.add (((ji58)).toNat * 11)).block, (ad304.add (((ji58)).toNat * 11)).off + 3, none⟩ = some (.int .i64 ((rd_T26 t287 (ji58)).f3)) ∧ w'.cell? ⟨(ad304.add (((ji58)).toNat * 11)).block, (ad304.add (((ji58)).toNat * 11)).off + 4, none⟩ = some (.int .i64 ((rd_T26 t287 (ji58)).f4)) ∧ w'.cell? ⟨(ad304.add (((ji58)).toNat * 11)).block, (ad304.add (((ji58)).toNat * 11)).off + 5, none⟩ = some (.float .f64 ((rd_T26 t287 (ji58)).f5)) ∧ w'.cell? ⟨(ad304.add (((ji58)).toNat * 11)).block, (ad304.add (((ji58)).toNat * 11)).off + 6, none⟩ = some (.float .f64 ((rd_T26 t287 (ji58)).f6)) ∧ w'.cell? ⟨(ad304.add (((ji58)).toNat * 11)).block, (ad304.add (((ji58)).toNat * 11)).off + 7, none⟩ = some (.bool ((rd_T26 t287 (ji58)).f7)) ∧ w'.cell? ⟨(ad304.add (((ji58)).toNat * 11)).block, (ad304.add (((ji58)).toNat * 11)).off + 8, none⟩ = some (.int .i64 ((rd_T26 t287 (ji58)).f8)) ∧ w'.cell? ⟨(ad304.add (((ji58)).toNat * 11)).block, (ad304.add (((ji58)).toNat * 11)).off + 9, none⟩ = some (.int .i64 ((rd_T26 t287 (ji58)).f9)) ∧ w'.cell? ⟨(ad304.add (((ji58)).toNat * 11)).block, (ad304.add (((ji58)).toNat * 11)).off + 10, none⟩ = some (.int .i64 ((rd_T26 t287 (ji58)).f10))) (ds := []) #[false, false, false, false, false, false, false, false, false, false, false, false, false, false, false, false, false, false, false, false, false, false, false, false] (by kernel_rfl) rfl rfl ⟨hx304_0, hx304_1, hx304_2, hx304_3, hx304_4, hx304_5, hx304_6, hx304_7, hx304_8, hx304_9, hx304_10, hx305_0, hx305_1, hx305_2, hx305_3, hx305_4, hx305_5, hx305_6, hx305_7, hx305_8, hx305_9, hx305_10, hx307_0, hx307_1, hx307_2, hx307_3, hx307_4, hx307_5, hx307_6, hx307_7, hx307_8, hx307_9, hx307_10, hx308_0, hx308_1, hx308_2, hx308_3, hx308_4, hx308_5, hx308_6, hx308_7, hx308_8, hx308_9, hx308_10⟩ (fun hHeld => ?_); refine with_tabW annuitylaw23_OrderOne.tab26 annuitylaw23_OrderOne.bits26 (fun HT_ HW_ => ?_)
     generalize wr.drew = w67 at HO_5 HO_7 HO_11 HB hx304_0 hx304_1 hx304_10 hx304_2 hx304_3 hx304_4 hx304_5 hx304_6 hx304_7 hx304_8 hx304_9 hx305_0 hx305_1 hx305_10 hx305_2 hx305_3 hx305_4 hx305_5 hx305_6 hx305_7 hx305_8 hx305_9 hx307_0 hx307_1 hx307_10 hx307_2 hx307_3 hx307_4 hx307_5 hx307_6 hx307_7 hx307_8 hx307_9 hx308_0 hx308_1 hx308_10 hx308_2 hx308_3 hx308_4 hx308_5 hx308_6 hx308_7 hx308_8 hx308_9 hHeld ⊢
     refine pure_ (i := 0) (N := some 136) (v := ?_) (a' := ?_) #[true, false, false, false, false, false, false, false, false, false, false, false, false, false, false, false, false, false, false, false, false, false, false, false] rfl rfl (any_of HT_.out (by kernel_rfl)) (fun _ _ _ h => h) (Or.inl ⟨by rfl, ?_⟩) ?_ ?_
     rotate_left
     ·intro w'
      go_simp
      with_reducible rfl
     rotate_left
     ·simp only [Act.put, List.setIfInBounds_toArray, List.set_cons_zero, List.set_cons_succ, i64_w, i32_w]
      rfl
     refine pure_ (i := 1) (N := some 137) (v := ?_) (a' := ?_) #[true, true, false, false, false, false, false, false, false, false, false, false, false, false, false, false, false, false, false, false, false, false, false, false] rfl rfl (any_of HT_.out (by kernel_rfl)) (fun _ _ _ h => h) (Or.inl ⟨by rfl, ?_⟩) ?_ ?_
     rotate_left
     ·intro w'
      go_simp
      with_reducible rfl
     rotate_left
     ·simp only [Act.put, List.setIfInBounds_toArray, List.set_cons_zero, List.set_cons_succ, i64_w, i32_w]
      rfl
     refine pure_ (i := 2) (N := some 138) (v := ?_) (a' := ?_) #[true, true, true, false, false, false, false, false, false, false, false, false, false, false, false, false, false, false, false, false, false, false, false, false] rfl rfl (any_of HT_.out (by kernel_rfl)) (fun _ _ _ h => h) (Or.inl ⟨by rfl, ?_⟩) ?_ ?_
     rotate_left
     ·intro w'
      go_simp
      with_reducible rfl
     rotate_left
     ·simp only [Act.put, List.setIfInBounds_toArray, List.set_cons_zero, List.set_cons_succ, i64_w, i32_w]
      rfl
     refine pure_ (i := 3) (N := some 139) (v := ?_) (a' := ?_) #[true, true, true, true, false, false, false, false, false, false, false, false, false, false, false, false, false, false, false, false, false, false, false, false] rfl rfl (any_of HT_.out (by kernel_rfl)) (fun _ _ _ h => h) (Or.inl ⟨by rfl, ?_⟩) ?_ ?_
     rotate_left
     ·intro w'
      go_simp
      with_reducible rfl
     rotate_left
     ·simp only [Act.put, List.setIfInBounds_toArray, List.set_cons_zero, List.set_cons_succ, i64_w, i32_w]
      rfl
     refine pure_ (i := 5) (N := some 141) (v := ?_) (a' := ?_) #[true, true, true, true, false, true, false, false, false, false, false, false, false, false, false, false, false, false, false, false, false, false, false, false] rfl rfl (any_of HT_.out (by kernel_rfl)) (fun _ _ _ h => h) (Or.inl ⟨by rfl, ?_⟩) ?_ ?_
     rotate_left
     ·intro w'
      go_simp
      with_reducible rfl
     rotate_left
     ·simp only [Act.put, List.setIfInBounds_toArray, List.set_cons_zero, List.set_cons_succ, i64_w, i32_w]
      rfl
     refine pure_ (i := 6) (N := some 142) (v := ?_) (a' := ?_) #[true, true, true, true, false, true, true, false, false, false, false, false, false, false, false, false, false, false, false, false, false, false, false, false] rfl rfl (any_of HT_.out (by kernel_rfl)) (fun _ _ _ h => h) (Or.inl ⟨by rfl, ?_⟩) ?_ ?_
     rotate_left
     ·intro w'
      go_simp
      with_reducible rfl
     rotate_left
     ·simp only [Act.put, List.setIfInBounds_toArray, List.set_cons_zero, List.set_cons_succ, i64_w, i32_w]
      rfl
     refine pure_ (i := 7) (N := some 143) (v := ?_) (a' := ?_) #[true, true, true, true, false, true, true, true, false, false, false, false, false, false, false, false, false, false, false, false, false, false, false, false] rfl rfl (any_of HT_.out (by kernel_rfl)) (fun _ _ _ h => h) (Or.inl ⟨by rfl, ?_⟩) ?_ ?_
     rotate_left
     ·intro w'
      go_simp
      with_reducible rfl
     rotate_left
     ·simp only [Act.put, List.setIfInBounds_toArray, List.set_cons_zero, List.set_cons_succ, i64_w, i32_w]
      rfl
     refine take_ (i := 4) (N := some 140) (v := ?_) (a' := ?_) #[true, true, true, true, true, true, true, true, false, false, false, false, false, false, false, false, false, false, false, false, false, false, false, false] rfl rfl (take_ofW HT_.out HW_.out (by kernel_rfl)) (fun _ _ _ h => h) (Or.inl ⟨by rfl, ?_⟩) hHeld ?_ ?_
     rotate_left
     ·rintro w' ⟨s0, s1, s2, s3, s4, s5, s6, s7, s8, s9, s10, s11, s12, s13, s14, s15, s16, s17, s18, s19, s20, s21, s22, s23, s24, s25, s26, s27, s28, s29, s30, s31, s32, s33, s34, s35, s36, s37, s38, s39, s40, s41, s42, s43⟩
      go_simp
      with_reducible rfl
     rotate_left
     ·simp only [Act.put, List.setIfInBounds_toArray, List.set_cons_zero, List.set_cons_succ, i64_w, i32_w]
      rfl
     refine take_ (i := 8) (N := some 144) (v := ?_) (a' := ?_) #[true, true, true, true, true, true, true, true, true, false, false, false, false, false, false, false, false, false, false, false, false, false, false, false] rfl rfl (take_ofW HT_.out HW_.out (by kernel_rfl)) (fun _ _ _ h => h) (Or.inl ⟨by rfl, ?_⟩) hHeld ?_ ?_
     rotate_left
     ·rintro w' ⟨s0, s1, s2, s3, s4, s5, s6, s7, s8, s9, s10, s11, s12, s13, s14, s15, s16, s17, s18, s19, s20, s21, s22, s23, s24, s25, s26, s27, s28, s29, s30, s31, s32, s33, s34, s35, s36, s37, s38, s39, s40, s41, s42, s43⟩
      go_simp
      with_reducible rfl
     rotate_left
     ·simp only [Act.put, List.setIfInBounds_toArray, List.set_cons_zero, List.set_cons_succ, i64_w, i32_w]
      rfl
     refine one_ (i := 9) (N := some 145) #[true, true, true, true, true, true, true, true, true, true, false, false, false, false, false, false, false, false, false, false, false, false, false, false] rfl rfl (one_of HT_.out (by kernel_rfl)) (by decide) (fun K hK => ?_)
     refine goes_ Try.func12 (by kernel_rfl) rfl #[.agg #[.int .i64 ((rd_T26 t287 (ji58)).f0), .int .i64 ((rd_T26 t287 (ji58)).f1), .int .u32 ((rd_T26 t287 (ji58)).f2), .int .i64 ((rd_T26 t287 (ji58)).f3), .int .i64 ((rd_T26 t287 (ji58)).f4), .float .f64 ((rd_T26 t287 (ji58)).f5), .float .f64 ((rd_T26 t287 (ji58)).f6), .bool ((rd_T26 t287 (ji58)).f7), .int .i64 ((rd_T26 t287 (ji58)).f8), .int .i64 ((rd_T26 t287 (ji58)).f9), .int .i64 ((rd_T26 t287 (ji58)).f10)], .agg #[.int .i64 ((rd_T26 t287 x15_4).f0), .int .i64 ((rd_T26 t287 x15_4).f1), .int .u32 ((rd_T26 t287 x15_4).f2), .int .i64 ((rd_T26 t287 x15_4).f3), .int .i64 ((rd_T26 t287 x15_4).f4), .float .f64 ((rd_T26 t287 x15_4).f5), .float .f64 ((rd_T26 t287 x15_4).f6), .bool ((rd_T26 t287 x15_4).f7), .int .i64 ((rd_T26 t287 x15_4).f8), .int .i64 ((rd_T26 t287 x15_4).f9), .int .i64 ((rd_T26 t287 x15_4).f10)]] (by rfl) rfl rfl (by (try simp only [List.map_toArray, List.map_cons, List.map_nil]); first | done | (simp only [hji58]; rfl) | rfl | (simp only [List.length_drop, List.length_take]; rfl)) ?_
     with_reducible refine (order_Compare.calls k4 ((rd_T26 t287 (ji58)).f0) ((rd_T26 t287 (ji58)).f1) ((rd_T26 t287 (ji58)).f2) ((rd_T26 t287 (ji58)).f3) ((rd_T26 t287 (ji58)).f4) ((rd_T26 t287 (ji58)).f5) ((rd_T26 t287 (ji58)).f6) ((rd_T26 t287 (ji58)).f7) ((rd_T26 t287 (ji58)).f8) ((rd_T26 t287 (ji58)).f9) ((rd_T26 t287 (ji58)).f10) ((rd_T26 t287 x15_4).f0) ((rd_T26 t287 x15_4).f1) ((rd_T26 t287 x15_4).f2) ((rd_T26 t287 x15_4).f3) ((rd_T26 t287 x15_4).f4) ((rd_T26 t287 x15_4).f5) ((rd_T26 t287 x15_4).f6) ((rd_T26 t287 x15_4).f7) ((rd_T26 t287 x15_4).f8) ((rd_T26 t287 x15_4).f9) ((rd_T26 t287 x15_4).f10) t306 _ A62.out).mono ?_
     rintro e w68 ⟨rfl, hb⟩
     have HS0_ := hxb hb (hHeld.1)
     have HS1_ := hxb hb (hHeld.2.1)
     have HS2_ := hxb hb (hHeld.2.2.1)
     have HS3_ := hxb hb (hHeld.2.2.2.1)
     have HS4_ := hxb hb (hHeld.2.2.2.2.1)
     have HS5_ := hxb hb (hHeld.2.2.2.2.2.1)
     have HS6_ := hxb hb (hHeld.2.2.2.2.2.2.1)
     have HS7_ := hxb hb (hHeld.2.2.2.2.2.2.2.1)
     have HS8_ := hxb hb (hHeld.2.2.2.2.2.2.2.2.1)
     have HS9_ := hxb hb (hHeld.2.2.2.2.2.2.2.2.2.1)
     have HS10_ := hxb hb (hHeld.2.2.2.2.2.2.2.2.2.2.1)
     have HS11_ := hxb hb (hHeld.2.2.2.2.2.2.2.2.2.2.2.1)
     have HS12_ := hxb hb (hHeld.2.2.2.2.2.2.2.2.2.2.2.2.1)
     have HS13_ := hxb hb (hHeld.2.2.2.2.2.2.2.2.2.2.2.2.2.1)
     have HS14_ := hxb hb (hHeld.2.2.2.2.2.2.2.2.2.2.2.2.2.2.1)
     have HS15_ := hxb hb (hHeld.2.2.2.2.2.2.2.2.2.2.2.2.2.2.2.1)
     have HS16_ := hxb hb (hHeld.2.2.2.2.2.2.2.2.2.2.2.2.2.2.2.2.1)
     have HS17_ := hxb hb (hHeld.2.2.2.2.2.2.2.2.2.2.2.2.2.2.2.2.2.1)
     have HS18_ := hxb hb (hHeld.2.2.2.2.2.2.2.2.2.2.2.2.2.2.2.2.2.2.1)
     have HS19_ := hxb hb (hHeld.2.2.2.2.2.2.2.2.2.2.2.2.2.2.2.2.2.2.2.1)
     have HS20_ := hxb hb (hHeld.2.2.2.2.2.2.2.2.2.2.2.2.2.2.2.2.2.2.2.2.1)
     have HS21_ := hxb hb (hHeld.2.2.2.2.2.2.2.2.2.2.2.2.2.2.2.2.2.2.2.2.2.1)
     have HS22_ := hxb hb (hHeld.2.2.2.2.2.2.2.2.2.2.2.2.2.2.2.2.2.2.2.2.2.2.1)
     have HS23_ := hxb hb (hHeld.2.2.2.2.2.2.2.2.2.2.2.2.2.2.2.2.2.2.2.2.2.2.2.1)
     have HS24_ := hxb hb (hHeld.2.2.2.2.2.2.2.2.2.2.2.2.2.2.2.2.2.2.2.2.2.2.2.2.1)
     have HS25_ := hxb hb (hHeld.2.2.2.2.2.2.2.2.2.2.2.2.2.2.2.2.2.2.2.2.2.2.2.2.2.1)
     have HS26_ := hxb hb (hHeld.2.2.2.2.2.2.2.2.2.2.2.2.2.2.2.2.2.2.2.2.2.2.2.2.2.2.1)
     have HS27_ := hxb hb (hHeld.2.2.2.2.2.2.2.2.2.2.2.2.2.2.2.2.2.2.2.2.2.2.2.2.2.2.2.1)
     have HS28_ := hxb hb (hHeld.2.2.2.2.2.2.2.2.2.2.2.2.2.2.2.2.2.2.2.2.2.2.2.2.2.2.2.2.1)
     have HS29_ := hxb hb (hHeld.2.2.2.2.2.2.2.2.2.2.2.2.2.2.2.2.2.2.2.2.2.2.2.2.2.2.2.2.2.1)
     have HS30_ := hxb hb (hHeld.2.2.2.2.2.2.2.2.2.2.2.2.2.2.2.2.2.2.2.2.2.2.2.2.2.2.2.2.2.2.1)
     have HS31_ := hxb hb (hHeld.2.2.2.2.2.2.2.2.2.2.2.2.2.2.2.2.2.2.2.2.2.2.2.2.2.2.2.2.2.2.2.1)
     have HS32_ := hxb hb (hHeld.2.2.2.2.2.2.2.2.2.2.2.2.2.2.2.2.2.2.2.2.2.2.2.2.2.2.2.2.2.2.2.2.1)
     have HS33_ := hxb hb (hHeld.2.2.2.2.2.2.2.2.2.2.2.2.2.2.2.2.2.2.2.2.2.2.2.2.2.2.2.2.2.2.2.2.2.1)
     have HS34_ := hxb hb (hHeld.2.2.2.2.2.2.2.2.2.2.2.2.2.2.2.2.2.2.2.2.2.2.2.2.2.2.2.2.2.2.2.2.2.2.1)
     have HS35_ := hxb hb (hHeld.2.2.2.2.2.2.2.2.2.2.2.2.2.2.2.2.2.2.2.2.2.2.2.2.2.2.2.2.2.2.2.2.2.2.2.1)
     have HS36_ := hxb hb (hHeld.2.2.2.2.2.2.2.2.2.2.2.2.2.2.2.2.2.2.2.2.2.2.2.2.2.2.2.2.2.2.2.2.2.2.2.2.1)
     have HS37_ := hxb hb (hHeld.2.2.2.2.2.2.2.2.2.2.2.2.2.2.2.2.2.2.2.2.2.2.2.2.2.2.2.2.2.2.2.2.2.2.2.2.2.1)
     have HS38_ := hxb hb (hHeld.2.2.2.2.2.2.2.2.2.2.2.2.2.2.2.2.2.2.2.2.2.2.2.2.2.2.2.2.2.2.2.2.2.2.2.2.2.2.1)
     have HS39_ := hxb hb (hHeld.2.2.2.2.2.2.2.2.2.2.2.2.2.2.2.2.2.2.2.2.2.2.2.2.2.2.2.2.2.2.2.2.2.2.2.2.2.2.2.1)
     have HS40_ := hxb hb (hHeld.2.2.2.2.2.2.2.2.2.2.2.2.2.2.2.2.2.2.2.2.2.2.2.2.2.2.2.2.2.2.2.2.2.2.2.2.2.2.2.2.1)
     have HS41_ := hxb hb (hHeld.2.2.2.2.2.2.2.2.2.2.2.2.2.2.2.2.2.2.2.2.2.2.2.2.2.2.2.2.2.2.2.2.2.2.2.2.2.2.2.2.2.1)
     have HS42_ := hxb hb (hHeld.2.2.2.2.2.2.2.2.2.2.2.2.2.2.2.2.2.2.2.2.2.2.2.2.2.2.2.2.2.2.2.2.2.2.2.2.2.2.2.2.2.2.1)
     have HS43_ := hxb hb (hHeld.2.2.2.2.2.2.2.2.2.2.2.2.2.2.2.2.2.2.2.2.2.2.2.2.2.2.2.2.2.2.2.2.2.2.2.2.2.2.2.2.2.2.2)
     refine ⟨_, rfl, ?_⟩
     have n0_ := Aside0.mk (Kd.R_below (by exact rq HO_5.out) hb)
     have n1_ := Aside0.mk (Kd.R_below (by exact rq HO_7.out) hb)
     have n2_ := Aside0.mk (Kd.R_below (by exact rq HO_11.out) hb)
     have n3_ := Aside0.mk (below_step (by exact h0q HB.out) hb)
     clear HO_5 HO_7 HO_11 HB
     have HO_5 := n0_
     have HO_7 := n1_
     have HO_11 := n2_
     have HB := n3_
     clear n0_ n1_ n2_ n3_
     (try clear hb)
     (try clear hb2)
     (try clear hk)
     (try clear hi)
     refine hK.out _ _ ⟨HS0_, HS1_, HS2_, HS3_, HS4_, HS5_, HS6_, HS7_, HS8_, HS9_, HS10_, HS11_, HS12_, HS13_, HS14_, HS15_, HS16_, HS17_, HS18_, HS19_, HS20_, HS21_, HS22_, HS23_, HS24_, HS25_, HS26_, HS27_, HS28_, HS29_, HS30_, HS31_, HS32_, HS33_, HS34_, HS35_, HS36_, HS37_, HS38_, HS39_, HS40_, HS41_, HS42_, HS43_⟩ (fun hHeld => ?_)
     clear hK K
     refine norm_ (a' := ?_) ?_ ?_
     rotate_left
     ·show Act.put _ (some 145) _ = _
      simp only [Act.put, List.setIfInBounds_toArray, List.set_cons_zero, List.set_cons_succ, i64_w, i32_w]
      rfl
     refine pure_ (i := 10) (N := some 146) (v := ?_) (a' := ?_) #[true, true, true, true, true, true, true, true, true, true, true, false, false, false, false, false, false, false, false, false, false, false, false, false] rfl rfl (any_of HT_.out (by kernel_rfl)) (fun _ _ _ h => h) (Or.inl ⟨by rfl, ?_⟩) ?_ ?_
     rotate_left
     ·intro w'
      go_simp
      with_reducible rfl
     rotate_left
     ·simp only [Act.put, List.setIfInBounds_toArray, List.set_cons_zero, List.set_cons_succ, i64_w, i32_w]
      rfl
     refine pure_ (i := 11) (N := some 147) (v := ?_) (a' := ?_) #[true, true, true, true, true, true, true, true, true, true, true, true, false, false, false, false, false, false, false, false, false, false, false, false] rfl rfl (any_of HT_.out (by kernel_rfl)) (fun _ _ _ h => h) (Or.inl ⟨by rfl, ?_⟩) ?_ ?_
     rotate_left
     ·intro w'
      go_simp
      with_reducible rfl
     rotate_left
     ·simp only [Act.put, List.setIfInBounds_toArray, List.set_cons_zero, List.set_cons_succ, i64_w, i32_w]
      rfl
     refine pure_ (i := 12) (N := some 148) (v := ?_) (a' := ?_) #[true, true, true, true, true, true, true, true, true, true, true, true, true, false, false, false, false, false, false, false, false, false, false, false] rfl rfl (any_of HT_.out (by kernel_rfl)) (fun _ _ _ h => h) (Or.inl ⟨by rfl, ?_⟩) ?_ ?_
     rotate_left
     ·intro w'
      go_simp
      with_reducible rfl
     rotate_left
     ·simp only [Act.put, List.setIfInBounds_toArray, List.set_cons_zero, List.set_cons_succ, i64_w, i32_w]
      rfl
     refine pure_ (i := 13) (N := some 149) (v := ?_) (a' := ?_) #[true, true, true, true, true, true, true, true, true, true, true, true, true, true, false, false, false, false, false, false, false, false, false, false] rfl rfl (any_of HT_.out (by kernel_rfl)) (fun _ _ _ h => h) (Or.inl ⟨by rfl, ?_⟩) ?_ ?_
     rotate_left
     ·intro w'
      go_simp
      with_reducible rfl
     rotate_left
     ·simp only [Act.put, List.setIfInBounds_toArray, List.set_cons_zero, List.set_cons_succ, i64_w, i32_w]
      rfl
     refine pure_ (i := 14) (N := some 150) (v := ?_) (a' := ?_) #[true, true, true, true, true, true, true, true, true, true, true, true, true, true, true, false, false, false, false, false, false, false, false, false] rfl rfl (any_of HT_.out (by kernel_rfl)) (fun _ _ _ h => h) (Or.inl ⟨by rfl, ?_⟩) ?_ ?_
     rotate_left
     ·intro w'
      go_simp
      with_reducible rfl
     rotate_left
     ·simp only [Act.put, List.setIfInBounds_toArray, List.set_cons_zero, List.set_cons_succ, i64_w, i32_w]
      rfl
     refine pure_ (i := 16) (N := some 152) (v := ?_) (a' := ?_) #[true, true, true, true, true, true, true, true, true, true, true, true, true, true, true, false, true, false, false, false, false, false, false, false] rfl rfl (any_of HT_.out (by kernel_rfl)) (fun _ _ _ h => h) (Or.inl ⟨by rfl, ?_⟩) ?_ ?_
     rotate_left
     ·intro w'
      go_simp
      with_reducible rfl
     rotate_left
     ·simp only [Act.put, List.setIfInBounds_toArray, List.set_cons_zero, List.set_cons_succ, i64_w, i32_w]
      rfl
     refine pure_ (i := 17) (N := some 153) (v := ?_) (a' := ?_) #[true, true, true, true, true, true, true, true, true, true, true, true, true, true, true, false, true, true, false, false, false, false, false, false] rfl rfl (any_of HT_.out (by kernel_rfl)) (fun _ _ _ h => h) (Or.inl ⟨by rfl, ?_⟩) ?_ ?_
     rotate_left
     ·intro w'
      go_simp
      with_reducible rfl
     rotate_left
     ·simp only [Act.put, List.setIfInBounds_toArray, List.set_cons_zero, List.set_cons_succ, i64_w, i32_w]
      rfl
     refine pure_ (i := 18) (N := some 154) (v := ?_) (a' := ?_) #[true, true, true, true, true, true, true, true, true, true, true, true, true, true, true, false, true, true, true, false, false, false, false, false] rfl rfl (any_of HT_.out (by kernel_rfl)) (fun _ _ _ h => h) (Or.inl ⟨by rfl, ?_⟩) ?_ ?_
     rotate_left
     ·intro w'
      go_simp
      with_reducible rfl
     rotate_left
     ·simp only [Act.put, List.setIfInBounds_toArray, List.set_cons_zero, List.set_cons_succ, i64_w, i32_w]
      rfl
     refine pure_ (i := 19) (N := some 155) (v := ?_) (a' := ?_) #[true, true, true, true, true, true, true, true, true, true, true, true, true, true, true, false, true, true, true, true, false, false, false, false] rfl rfl (any_of HT_.out (by kernel_rfl)) (fun _ _ _ h => h) (Or.inl ⟨by rfl, ?_⟩) ?_ ?_
     rotate_left
     ·intro w'
      go_simp
      with_reducible rfl
     rotate_left
     ·simp only [Act.put, List.setIfInBounds_toArray, List.set_cons_zero, List.set_cons_succ, i64_w, i32_w]
      rfl
     refine take_ (i := 15) (N := some 151) (v := ?_) (a' := ?_) #[true, true, true, true, true, true, true, true, true, true, true, true, true, true, true, true, true, true, true, true, false, false, false, false] rfl rfl (take_ofW HT_.out HW_.out (by kernel_rfl)) (fun _ _ _ h => h) (Or.inl ⟨by rfl, ?_⟩) hHeld ?_ ?_
     rotate_left
     ·rintro w' ⟨s0, s1, s2, s3, s4, s5, s6, s7, s8, s9, s10, s11, s12, s13, s14, s15, s16, s17, s18, s19, s20, s21, s22, s23, s24, s25, s26, s27, s28, s29, s30, s31, s32, s33, s34, s35, s36, s37, s38, s39, s40, s41, s42, s43⟩
      go_simp
      with_reducible rfl
     rotate_left
     ·simp only [Act.put, List.setIfInBounds_toArray, List.set_cons_zero, List.set_cons_succ, i64_w, i32_w]
      rfl
     refine take_ (i := 20) (N := some 156) (v := ?_) (a' := ?_) #[true, true, true, true, true, true, true, true, true, true, true, true, true, true, true, true, true, true, true, true, true, false, false, false] rfl rfl (take_ofW HT_.out HW_.out (by kernel_rfl)) (fun _ _ _ h => h) (Or.inl ⟨by rfl, ?_⟩) hHeld ?_ ?_
     rotate_left
     ·rintro w' ⟨s0, s1, s2, s3, s4, s5, s6, s7, s8, s9, s10, s11, s12, s13, s14, s15, s16, s17, s18, s19, s20, s21, s22, s23, s24, s25, s26, s27, s28, s29, s30, s31, s32, s33, s34, s35, s36, s37, s38, s39, s40, s41, s42, s43⟩
      go_simp
      with_reducible rfl
     rotate_left
     ·simp only [Act.put, List.setIfInBounds_toArray, List.set_cons_zero, List.set_cons_succ, i64_w, i32_w]
      rfl
     refine one_ (i := 21) (N := some 157) #[true, true, true, true, true, true, true, true, true, true, true, true, true, true, true, true, true, true, true, true, true, true, false, false] rfl rfl (one_of HT_.out (by kernel_rfl)) (by decide) (fun K hK => ?_)
     refine goes_ Try.func12 (by kernel_rfl) rfl #[.agg #[.int .i64 ((rd_T26 t287 x15_4).f0), .int .i64 ((rd_T26 t287 x15_4).f1), .int .u32 ((rd_T26 t287 x15_4).f2), .int .i64 ((rd_T26 t287 x15_4).f3), .int .i64 ((rd_T26 t287 x15_4).f4), .float .f64 ((rd_T26 t287 x15_4).f5), .float .f64 ((rd_T26 t287 x15_4).f6), .bool ((rd_T26 t287 x15_4).f7), .int .i64 ((rd_T26 t287 x15_4).f8), .int .i64 ((rd_T26 t287 x15_4).f9), .int .i64 ((rd_T26 t287 x15_4).f10)], .agg #[.int .i64 ((rd_T26 t287 (ji58)).f0), .int .i64 ((rd_T26 t287 (ji58)).f1), .int .u32 ((rd_T26 t287 (ji58)).f2), .int .i64 ((rd_T26 t287 (ji58)).f3), .int .i64 ((rd_T26 t287 (ji58)).f4), .float .f64 ((rd_T26 t287 (ji58)).f5), .float .f64 ((rd_T26 t287 (ji58)).f6), .bool ((rd_T26 t287 (ji58)).f7), .int .i64 ((rd_T26 t287 (ji58)).f8), .int .i64 ((rd_T26 t287 (ji58)).f9), .int .i64 ((rd_T26 t287 (ji58)).f10)]] (by rfl) rfl rfl (by (try simp only [List.map_toArray, List.map_cons, List.map_nil]); first | done | (simp only [hji58]; rfl) | rfl | (simp only [List.length_drop, List.length_take]; rfl)) ?_
     with_reducible refine (order_Compare.calls k4 ((rd_T26 t287 x15_4).f0) ((rd_T26 t287 x15_4).f1) ((rd_T26 t287 x15_4).f2) ((rd_T26 t287 x15_4).f3) ((rd_T26 t287 x15_4).f4) ((rd_T26 t287 x15_4).f5) ((rd_T26 t287 x15_4).f6) ((rd_T26 t287 x15_4).f7) ((rd_T26 t287 x15_4).f8) ((rd_T26 t287 x15_4).f9) ((rd_T26 t287 x15_4).f10) ((rd_T26 t287 (ji58)).f0) ((rd_T26 t287 (ji58)).f1) ((rd_T26 t287 (ji58)).f2) ((rd_T26 t287 (ji58)).f3) ((rd_T26 t287 (ji58)).f4) ((rd_T26 t287 (ji58)).f5) ((rd_T26 t287 (ji58)).f6) ((rd_T26 t287 (ji58)).f7) ((rd_T26 t287 (ji58)).f8) ((rd_T26 t287 (ji58)).f9) ((rd_T26 t287 (ji58)).f10) t309 _ A64.out).mono ?_
     rintro e w69 ⟨rfl, hb⟩
     have HS0_ := hxb hb (hHeld.1)
     have HS1_ := hxb hb (hHeld.2.1)
     have HS2_ := hxb hb (hHeld.2.2.1)
     have HS3_ := hxb hb (hHeld.2.2.2.1)
     have HS4_ := hxb hb (hHeld.2.2.2.2.1)
     have HS5_ := hxb hb (hHeld.2.2.2.2.2.1)
     have HS6_ := hxb hb (hHeld.2.2.2.2.2.2.1)
     have HS7_ := hxb hb (hHeld.2.2.2.2.2.2.2.1)
     have HS8_ := hxb hb (hHeld.2.2.2.2.2.2.2.2.1)
     have HS9_ := hxb hb (hHeld.2.2.2.2.2.2.2.2.2.1)
     have HS10_ := hxb hb (hHeld.2.2.2.2.2.2.2.2.2.2.1)
     have HS11_ := hxb hb (hHeld.2.2.2.2.2.2.2.2.2.2.2.1)
     have HS12_ := hxb hb (hHeld.2.2.2.2.2.2.2.2.2.2.2.2.1)
     have HS13_ := hxb hb (hHeld.2.2.2.2.2.2.2.2.2.2.2.2.2.1)
     have HS14_ := hxb hb (hHeld.2.2.2.2.2.2.2.2.2.2.2.2.2.2.1)
     have HS15_ := hxb hb (hHeld.2.2.2.2.2.2.2.2.2.2.2.2.2.2.2.1)
     have HS16_ := hxb hb (hHeld.2.2.2.2.2.2.2.2.2.2.2.2.2.2.2.2.1)
     have HS17_ := hxb hb (hHeld.2.2.2.2.2.2.2.2.2.2.2.2.2.2.2.2.2.1)
     have HS18_ := hxb hb (hHeld.2.2.2.2.2.2.2.2.2.2.2.2.2.2.2.2.2.2.1)
     have HS19_ := hxb hb (hHeld.2.2.2.2.2.2.2.2.2.2.2.2.2.2.2.2.2.2.2.1)
     have HS20_ := hxb hb (hHeld.2.2.2.2.2.2.2.2.2.2.2.2.2.2.2.2.2.2.2.2.1)
     have HS21_ := hxb hb (hHeld.2.2.2.2.2.2.2.2.2.2.2.2.2.2.2.2.2.2.2.2.2.1)
     have HS22_ := hxb hb (hHeld.2.2.2.2.2.2.2.2.2.2.2.2.2.2.2.2.2.2.2.2.2.2.1)
     have HS23_ := hxb hb (hHeld.2.2.2.2.2.2.2.2.2.2.2.2.2.2.2.2.2.2.2.2.2.2.2.1)
     have HS24_ := hxb hb (hHeld.2.2.2.2.2.2.2.2.2.2.2.2.2.2.2.2.2.2.2.2.2.2.2.2.1)
     have HS25_ := hxb hb (hHeld.2.2.2.2.2.2.2.2.2.2.2.2.2.2.2.2.2.2.2.2.2.2.2.2.2.1)
     have HS26_ := hxb hb (hHeld.2.2.2.2.2.2.2.2.2.2.2.2.2.2.2.2.2.2.2.2.2.2.2.2.2.2.1)
     have HS27_ := hxb hb (hHeld.2.2.2.2.2.2.2.2.2.2.2.2.2.2.2.2.2.2.2.2.2.2.2.2.2.2.2.1)
     have HS28_ := hxb hb (hHeld.2.2.2.2.2.2.2.2.2.2.2.2.2.2.2.2.2.2.2.2.2.2.2.2.2.2.2.2.1)
     have HS29_ := hxb hb (hHeld.2.2.2.2.2.2.2.2.2.2.2.2.2.2.2.2.2.2.2.2.2.2.2.2.2.2.2.2.2.1)
     have HS30_ := hxb hb (hHeld.2.2.2.2.2.2.2.2.2.2.2.2.2.2.2.2.2.2.2.2.2.2.2.2.2.2.2.2.2.2.1)
     have HS31_ := hxb hb (hHeld.2.2.2.2.2.2.2.2.2.2.2.2.2.2.2.2.2.2.2.2.2.2.2.2.2.2.2.2.2.2.2.1)
     have HS32_ := hxb hb (hHeld.2.2.2.2.2.2.2.2.2.2.2.2.2.2.2.2.2.2.2.2.2.2.2.2.2.2.2.2.2.2.2.2.1)
     have HS33_ := hxb hb (hHeld.2.2.2.2.2.2.2.2.2.2.2.2.2.2.2.2.2.2.2.2.2.2.2.2.2.2.2.2.2.2.2.2.2.1)
     have HS34_ := hxb hb (hHeld.2.2.2.2.2.2.2.2.2.2.2.2.2.2.2.2.2.2.2.2.2.2.2.2.2.2.2.2.2.2.2.2.2.2.1)
     have HS35_ := hxb hb (hHeld.2.2.2.2.2.2.2.2.2.2.2.2.2.2.2.2.2.2.2.2.2.2.2.2.2.2.2.2.2.2.2.2.2.2.2.1)
     have HS36_ := hxb hb (hHeld.2.2.2.2.2.2.2.2.2.2.2.2.2.2.2.2.2.2.2.2.2.2.2.2.2.2.2.2.2.2.2.2.2.2.2.2.1)
     have HS37_ := hxb hb (hHeld.2.2.2.2.2.2.2.2.2.2.2.2.2.2.2.2.2.2.2.2.2.2.2.2.2.2.2.2.2.2.2.2.2.2.2.2.2.1)
     have HS38_ := hxb hb (hHeld.2.2.2.2.2.2.2.2.2.2.2.2.2.2.2.2.2.2.2.2.2.2.2.2.2.2.2.2.2.2.2.2.2.2.2.2.2.2.1)
     have HS39_ := hxb hb (hHeld.2.2.2.2.2.2.2.2.2.2.2.2.2.2.2.2.2.2.2.2.2.2.2.2.2.2.2.2.2.2.2.2.2.2.2.2.2.2.2.1)
     have HS40_ := hxb hb (hHeld.2.2.2.2.2.2.2.2.2.2.2.2.2.2.2.2.2.2.2.2.2.2.2.2.2.2.2.2.2.2.2.2.2.2.2.2.2.2.2.2.1)
     have HS41_ := hxb hb (hHeld.2.2.2.2.2.2.2.2.2.2.2.2.2.2.2.2.2.2.2.2.2.2.2.2.2.2.2.2.2.2.2.2.2.2.2.2.2.2.2.2.2.1)
     have HS42_ := hxb hb (hHeld.2.2.2.2.2.2.2.2.2.2.2.2.2.2.2.2.2.2.2.2.2.2.2.2.2.2.2.2.2.2.2.2.2.2.2.2.2.2.2.2.2.2.1)
     have HS43_ := hxb hb (hHeld.2.2.2.2.2.2.2.2.2.2.2.2.2.2.2.2.2.2.2.2.2.2.2.2.2.2.2.2.2.2.2.2.2.2.2.2.2.2.2.2.2.2.2)
     refine ⟨_, rfl, ?_⟩
     have n0_ := Aside0.mk (Kd.R_below (by exact rq HO_5.out) hb)
     have n1_ := Aside0.mk (Kd.R_below (by exact rq HO_7.out) hb)
     have n2_ := Aside0.mk (Kd.R_below (by exact rq HO_11.out) hb)
     have n3_ := Aside0.mk (below_step (by exact h0q HB.out) hb)
     clear HO_5 HO_7 HO_11 HB
     have HO_5 := n0_
     have HO_7 := n1_
     have HO_11 := n2_
     have HB := n3_
     clear n0_ n1_ n2_ n3_
     (try clear hb)
     (try clear hb2)
     (try clear hk)
     (try clear hi)
     refine hK.out _ _ ⟨HS0_, HS1_, HS2_, HS3_, HS4_, HS5_, HS6_, HS7_, HS8_, HS9_, HS10_, HS11_, HS12_, HS13_, HS14_, HS15_, HS16_, HS17_, HS18_, HS19_, HS20_, HS21_, HS22_, HS23_, HS24_, HS25_, HS26_, HS27_, HS28_, HS29_, HS30_, HS31_, HS32_, HS33_, HS34_, HS35_, HS36_, HS37_, HS38_, HS39_, HS40_, HS41_, HS42_, HS43_⟩ (fun hHeld => ?_)
     clear hK K
     refine norm_ (a' := ?_) ?_ ?_
     rotate_left
     ·show Act.put _ (some 157) _ = _
      simp only [Act.put, List.setIfInBounds_toArray, List.set_cons_zero, List.set_cons_succ, i64_w, i32_w]
      rfl
     refine pure_ (i := 22) (N := some 158) (v := ?_) (a' := ?_) #[true, true, true, true, true, true, true, true, true, true, true, true, true, true, true, true, true, true, true, true, true, true, true, false] rfl rfl (any_of HT_.out (by kernel_rfl)) (fun _ _ _ h => h) (Or.inl ⟨by rfl, ?_⟩) ?_ ?_
     rotate_left
     ·intro w'
      go_simp
      with_reducible rfl
     rotate_left
     ·simp only [Act.put, List.setIfInBounds_toArray, List.set_cons_zero, List.set_cons_succ, i64_w, i32_w]
      rfl
     refine pure_ (i := 23) (N := some 159) (v := ?_) (a' := ?_) #[true, true, true, true, true, true, true, true, true, true, true, true, true, true, true, true, true, true, true, true, true, true, true, true] rfl rfl (any_of HT_.out (by kernel_rfl)) (fun _ _ _ h => h) (Or.inl ⟨by rfl, ?_⟩) ?_ ?_
     rotate_left
     ·intro w'
      go_simp
      with_reducible rfl
     rotate_left
     ·simp only [Act.put, List.setIfInBounds_toArray, List.set_cons_zero, List.set_cons_succ, i64_w, i32_w]
      rfl
     refine done_ (done_of HT_.out (by kernel_rfl)) ?_
     try go_wp2
     go_roundg k4
     case measure => have := HK1.out; have := HJ18.out; have := HK3.out; have := HK4.out; omega
     case rel => exact ⟨(wrap64 (x15_4 + 1)), (by first | rfl | (simp; done) | (simp [*]; done)), H', ⟨by have := HK1.out; have := HJ18.out; have := HK3.out; have := HK4.out; omega⟩, ⟨by (try simp only [hl5_18]); (with_reducible repeat (first | apply Kd.R_alloc | apply Kd.R_drewN | apply Kd.R_drew)); exact HO_5.out⟩, ⟨by (try simp only [hl5_18]); (with_reducible repeat (first | apply Kd.R_alloc | apply Kd.R_drewN | apply Kd.R_drew)); exact HO_7.out⟩, ⟨by (try simp only [hl5_18]); (with_reducible repeat (first | apply Kd.R_alloc | apply Kd.R_drewN | apply Kd.R_drew)); exact HO_11.out⟩, ⟨by exact h0q HB.out⟩⟩
/-- What is known of an element that came in. -/
def annuitylaw23_OrderOne.wf26 (x : S26) : Prop := (Lit.int .i64 x.f0).wf = true ∧ (Lit.int .i64 x.f1).wf = true ∧ (Lit.int .u32 x.f2).wf = true ∧ (Lit.int .i64 x.f3).wf = true ∧ (Lit.int .i64 x.f4).wf = true ∧ (Lit.int .i64 x.f8).wf = true ∧ (Lit.int .i64 x.f9).wf = true ∧ (Lit.int .i64 x.f10).wf = true
/-- THE ONE PURE STATEMENT of annuitylaw23_OrderOne: yours. -/
def annuitylaw23_OrderOne.Pure : Prop := ∀ (l0 : List (S26)) (l1 : List Int), l0.length ≤ maxLen → l0.length * 88 ≤ 140737488351232 → (∀ x ∈ l0, annuitylaw23_OrderOne.wf26 x) → l1.length ≤ maxLen → l1.length * 8 ≤ 140737488351232 → (∀ x ∈ l1, (Lit.int .i64 x).wf = true) → ∃ k, annuitylaw23_OrderOne.f k l0 l1 = some true
theorem annuitylaw23_OrderOne.walk (P : annuitylaw23_OrderOne.Pure) (a0 : Option Addr) (cap0 : Nat) (l0 : List S26) (a1 : Option Addr) (len1 cap1 : Nat) (z1 : List Int) (w : World) (hr0 : Kd.C k26 w a0 l0.length l0) (hc0 : l0.length ≤ cap0) (hm0 : l0.length ≤ maxLen) (y0 : l0.length * 88 ≤ 140737488351232) (hw0 : ∀ x ∈ l0, annuitylaw23_OrderOne.wf26 x) (w1 : (a1 = none ∧ len1 = 0 ∧ cap1 = 0 ∧ z1 = []) ∨ ∃ x, a1 = some x ∧ len1 ≤ cap1 ∧ cap1 ≤ maxLen ∧ z1.length = cap1 ∧ (∀ i, i < z1.length → w.cell? (x.add i) = some (.int .i64 (z1.getD i 0))) ∧ ∀ n ∈ z1, (Lit.int .i64 n).wf = true) (y1 : len1 * 8 ≤ 140737488351232) :
  Calls Try.prog 4 #[.slice a0 l0.length cap0, .slice a1 len1 cap1] w fun e w' => e = .returned (.bool true) ∧ Below w.heap.size w w' := by
 obtain ⟨l1, rfl, hr1, hm1, hw1, hc1⟩ := ReadsInt.ofRowC w1
 obtain ⟨k, h⟩ := P l0 l1 hm0 y0 hw0 hm1 y1 hw1
 refine (annuitylaw23_OrderOne.calls k _ _ l0 _ _ l1 true w hr0 hc0 (Kd.C_of_reads (d := (0 : Int)) (h1 := fun _ => rfl) hr1) hc1 h).mono ?_
 rintro e w' ⟨rfl, hd⟩
 exact ⟨rfl, hd⟩

end Go.Proofs.Ytjdhhbjnihhncaa.P
