/- Functions of the program as plain Lean functions, and proofs that its calls come to just their answers, where they tell one (written by a program of this session). -/
import Derived.Test.YtibjbgfphhmogaaPx0
import Derived.Test.YtibjbgfphhmogaaPx7
import Derived.Test.YtibjbgfphhmogaaPx12
import Derived.Test.YtibjbgfphhmogaaPx15
import Derived.Test.YtibjbgfphhmogaaPx17
import Derived.Test.YtibjbgfphhmogaaZg
import Derived.Test.YtibjbgfphhmogaaZr
namespace Go.Proofs.Ytibjbgfphhmogaa.P
open Go.RowKit Go.Proofs.YtibjbgfphhmogaaW.PrintWords Go.Proofs.YtibjbgfphhmogaaW.PrintLast Go.Proofs.YtibjbgfphhmogaaW.PrintMore
attribute [local go_sem] max2_int min2_int max_two min_two max_three min_three max_four min_four   -- for this text's walks alone
set_option linter.unusedVariables false
set_option linter.unusedSimpArgs false

/-! ### annuitylaw19_BillAll: function 5 -/
mutual
def annuitylaw19_BillAll.l0 : Nat → List (S45) → List (S45) → Int → Int → Int → Int → Int → Option (Bool)
  | 0, _, _, _, _, _, _, _ => none
  | k + 1, x0, x8, x9, x17, x18, x292000, x292001 => if x18 < (x8.length : Int) then (if x9 > 0 then (if 0 ≤ x18 then (if ((rd_T45 x8 x18).f2) = 0 then (if x18 < (x0.length : Int) then (if ((rd_T45 x8 x18).f2) > ((rd_T45 x0 x18).f2) then (annuitylaw19_BillAll.j1 k x0 x8 x9 x17 x18 true x292000 x292001) else (if x18 > 0 then (if 0 ≤ (wrap64 (x18 - 1)) then (if (wrap64 (x18 - 1)) < (x8.length : Int) then (if ((rd_T45 x8 (wrap64 (x18 - 1))).f2) > 0 then (annuitylaw19_BillAll.j1 k x0 x8 x9 x17 x18 (((rd_T45 x8 x18).f2) != ((rd_T45 x0 x18).f2)) x292000 x292001) else (annuitylaw19_BillAll.j1 k x0 x8 x9 x17 x18 false x292000 x292001)) else (none)) else (none)) else (annuitylaw19_BillAll.j1 k x0 x8 x9 x17 x18 false x292000 x292001))) else (none)) else (annuitylaw19_BillAll.j1 k x0 x8 x9 x17 x18 true x292000 x292001)) else (none)) else (if 0 ≤ x18 then (if x18 < (x0.length : Int) then (if ((rd_T45 x8 x18).f2) > ((rd_T45 x0 x18).f2) then (annuitylaw19_BillAll.j1 k x0 x8 x9 x17 x18 true x292000 x292001) else (if x18 > 0 then (if 0 ≤ (wrap64 (x18 - 1)) then (if (wrap64 (x18 - 1)) < (x8.length : Int) then (if ((rd_T45 x8 (wrap64 (x18 - 1))).f2) > 0 then (annuitylaw19_BillAll.j1 k x0 x8 x9 x17 x18 (((rd_T45 x8 x18).f2) != ((rd_T45 x0 x18).f2)) x292000 x292001) else (annuitylaw19_BillAll.j1 k x0 x8 x9 x17 x18 false x292000 x292001)) else (none)) else (none)) else (annuitylaw19_BillAll.j1 k x0 x8 x9 x17 x18 false x292000 x292001))) else (none)) else (none))) else (if (wrap64 (x17 + x9)) = (wrap64 ((wrap64 (x292000)) + (wrap64 (x292001)))) then ((annuityref19_Good.f k x8).bind fun t332 => (if t332 = true then ((annuitylaw19_wakes.f k).bind fun t333 => (some t333)) else (none))) else (none))
def annuitylaw19_BillAll.j1 : Nat → List (S45) → List (S45) → Int → Int → Int → Bool → Int → Int → Option (Bool)
  | 0, _, _, _, _, _, _, _, _ => none
  | k + 1, x0, x8, x9, x17, x18, x147, x292000, x292001 => if x147 = true then (none) else (if 0 ≤ x18 then (if x18 < (x0.length : Int) then (if x18 < (x8.length : Int) then (annuitylaw19_BillAll.l0 k x0 x8 x9 (wrap64 (x17 + (wrap64 (((rd_T45 x0 x18).f2) - ((rd_T45 x8 x18).f2))))) (wrap64 (x18 + 1)) x292000 x292001) else (none)) else (none)) else (none))
end
def annuitylaw19_BillAll.f (k : Nat) (l0 : List (S45)) (a1_0 : Int) (a1_1 : Int) (a2 : Int) : Option (Bool) := (annuitylaw19_Large.f k l0).bind fun t292 => (if t292 = true then ((annuitylaw19_wakes.f k).bind fun t293 => (some t293)) else ((annuityref19_Good.f k l0).bind fun t294 => (if t294 = true then ((annuitykeep_Mod.f a2 87659).bind fun t296 => ((annuitykeep_CopyBills.f k l0).bind fun t297 => ((bill_Credit.f k t297 (wrap64 ((wrap64 (a1_0)) + (wrap64 (a1_1)))) t296).bind fun bt300 => ((annuitykeep_CopyBills.f k l0).bind fun t305 => ((bill_Credit.f k t305 (wrap64 (a1_0)) t296).bind fun bt308 => (if bt300.2.2 = 0 then (if bt308.2.2 = 0 then (if (bt300.1.length : Int) = (l0.length : Int) then ((bill_Credit.f k bt308.1 (wrap64 (a1_1)) t296).bind fun bt313 => (if bt313.2.2 = 0 then ((annuitykeep_Bills.f k bt300.1 bt313.1).bind fun t318 => (if t318 = true then (if bt300.2.1 = (wrap64 (bt308.2.1 + bt313.2.1)) then (annuitylaw19_BillAll.l0 k l0 bt300.1 bt300.2.1 0 0 a1_0 a1_1) else (none)) else (none))) else (none))) else (none)) else (none)) else (none))))))) else ((annuitylaw19_wakes.f k).bind fun t295 => (some t295)))))
theorem annuitylaw19_BillAll.mono_l : ∀ k, (∀ y0 y1 y2 y3 y4 y5 y6, LeO (annuitylaw19_BillAll.l0 k y0 y1 y2 y3 y4 y5 y6) (annuitylaw19_BillAll.l0 (k + 1) y0 y1 y2 y3 y4 y5 y6)) ∧ (∀ y0 y1 y2 y3 y4 y5 y6 y7, LeO (annuitylaw19_BillAll.j1 k y0 y1 y2 y3 y4 y5 y6 y7) (annuitylaw19_BillAll.j1 (k + 1) y0 y1 y2 y3 y4 y5 y6 y7))
  | 0 => ⟨fun _ _ _ _ _ _ _ r h => by simp [annuitylaw19_BillAll.l0] at h, fun _ _ _ _ _ _ _ _ r h => by simp [annuitylaw19_BillAll.j1] at h⟩
  | k + 1 => by
    obtain ⟨ih0, ih1⟩ := annuitylaw19_BillAll.mono_l k
    refine ⟨?_, ?_⟩
    · intro y0 y1 y2 y3 y4 y5 y6
      unfold annuitylaw19_BillAll.l0
      repeat' first
      | (with_reducible exact ih0 _ _ _ _ _ _ _)
      | (with_reducible exact ih1 _ _ _ _ _ _ _ _)
      | (with_reducible exact annuitykeep_Bills.mono _ _ _)
      | (with_reducible exact annuitykeep_CopyBills.mono _ _)
      | (with_reducible exact annuitylaw19_Large.mono _ _)
      | (with_reducible exact annuitylaw19_wakes.mono _)
      | (with_reducible exact annuityref19_Good.mono _ _)
      | (with_reducible exact bill_Credit.mono _ _ _ _)
      | (with_reducible exact LeO.refl _)
      | (with_reducible exact LeO.none _)
      | (with_reducible refine LeO.ite ?_ ?_)
      | (with_reducible refine LeO.bind ?_ (fun _ => ?_))
      | exact ih0 _ _ _ _ _ _ _
      | exact ih1 _ _ _ _ _ _ _ _
      | exact annuitykeep_Bills.mono _ _ _
      | exact annuitykeep_CopyBills.mono _ _
      | exact annuitylaw19_Large.mono _ _
      | exact annuitylaw19_wakes.mono _
      | exact annuityref19_Good.mono _ _
      | exact bill_Credit.mono _ _ _ _
      | exact LeO.none _
      | refine LeO.ite ?_ ?_
      | refine LeO.bind ?_ (fun _ => ?_)
    · intro y0 y1 y2 y3 y4 y5 y6 y7
      unfold annuitylaw19_BillAll.j1
      repeat' first
      | (with_reducible exact ih0 _ _ _ _ _ _ _)
      | (with_reducible exact ih1 _ _ _ _ _ _ _ _)
      | (with_reducible exact annuitykeep_Bills.mono _ _ _)
      | (with_reducible exact annuitykeep_CopyBills.mono _ _)
      | (with_reducible exact annuitylaw19_Large.mono _ _)
      | (with_reducible exact annuitylaw19_wakes.mono _)
      | (with_reducible exact annuityref19_Good.mono _ _)
      | (with_reducible exact bill_Credit.mono _ _ _ _)
      | (with_reducible exact LeO.refl _)
      | (with_reducible exact LeO.none _)
      | (with_reducible refine LeO.ite ?_ ?_)
      | (with_reducible refine LeO.bind ?_ (fun _ => ?_))
      | exact ih0 _ _ _ _ _ _ _
      | exact ih1 _ _ _ _ _ _ _ _
      | exact annuitykeep_Bills.mono _ _ _
      | exact annuitykeep_CopyBills.mono _ _
      | exact annuitylaw19_Large.mono _ _
      | exact annuitylaw19_wakes.mono _
      | exact annuityref19_Good.mono _ _
      | exact bill_Credit.mono _ _ _ _
      | exact LeO.none _
      | refine LeO.ite ?_ ?_
      | refine LeO.bind ?_ (fun _ => ?_)
theorem annuitylaw19_BillAll.mono : ∀ a0 a1 a2 a3 k, LeO (annuitylaw19_BillAll.f k a0 a1 a2 a3) (annuitylaw19_BillAll.f (k + 1) a0 a1 a2 a3) := by
  intro a0 a1 a2 a3 k
  obtain ⟨ih0, ih1⟩ := annuitylaw19_BillAll.mono_l k
  unfold annuitylaw19_BillAll.f
  repeat' first
      | (with_reducible exact ih0 _ _ _ _ _ _ _)
      | (with_reducible exact ih1 _ _ _ _ _ _ _ _)
      | (with_reducible exact annuitykeep_Bills.mono _ _ _)
      | (with_reducible exact annuitykeep_CopyBills.mono _ _)
      | (with_reducible exact annuitylaw19_Large.mono _ _)
      | (with_reducible exact annuitylaw19_wakes.mono _)
      | (with_reducible exact annuityref19_Good.mono _ _)
      | (with_reducible exact bill_Credit.mono _ _ _ _)
      | (with_reducible exact LeO.refl _)
      | (with_reducible exact LeO.none _)
      | (with_reducible refine LeO.ite ?_ ?_)
      | (with_reducible refine LeO.bind ?_ (fun _ => ?_))
      | exact ih0 _ _ _ _ _ _ _
      | exact ih1 _ _ _ _ _ _ _ _
      | exact annuitykeep_Bills.mono _ _ _
      | exact annuitykeep_CopyBills.mono _ _
      | exact annuitylaw19_Large.mono _ _
      | exact annuitylaw19_wakes.mono _
      | exact annuityref19_Good.mono _ _
      | exact bill_Credit.mono _ _ _ _
      | exact LeO.none _
      | refine LeO.ite ?_ ?_
      | refine LeO.bind ?_ (fun _ => ?_)
def annuitylaw19_BillAll.T4 : Bool × List (List Nat × List Nat) := (true, [([], []), ([0], [0]), ([], []), ([2], [2]), ([3], [3]), ([], []), ([5], [5]), ([6], [6]), ([4, 7], [4, 7]), ([], []), ([1, 8, 9, 1], [1, 8, 9]), ([10], [10]), ([11], [11]), ([11], [11]), ([11], [11]), ([12, 10, 0, 1, 2, 3, 4, 5, 6, 7, 8, 9, 10, 11, 12], [12]), ([13, 15, 0, 1, 2, 3, 4, 5, 6, 7, 8, 9, 10, 11, 12, 13, 15], [13]), ([14, 16, 0, 1, 2, 3, 4, 5, 6, 7, 8, 9, 10, 11, 12, 13, 14, 15, 16], [14])])
def annuitylaw19_BillAll.B4 : List Nat := [0, 1, 0, 4, 12, 0, 32, 96, 252, 0, 1023, 2047, 4095, 4095, 4095, 8191, 49151, 131071]
theorem annuitylaw19_BillAll.tab4 : rtab .any (opsOf Try.f5 4) = annuitylaw19_BillAll.T4 := by kernel_rfl
theorem annuitylaw19_BillAll.bits4 : waitsOk annuitylaw19_BillAll.T4.2 annuitylaw19_BillAll.B4 = true := by kernel_rfl
def annuitylaw19_BillAll.T5 : Bool × List (List Nat × List Nat) := (true, [([], []), ([0], [0]), ([], []), ([2], [2]), ([3], [3]), ([], []), ([1, 4, 5, 1], [1, 4, 5]), ([6], [6]), ([7], [7]), ([7], [7]), ([7], [7]), ([8, 6, 0, 1, 2, 3, 4, 5, 6, 7, 8], [8]), ([9, 11, 0, 1, 2, 3, 4, 5, 6, 7, 8, 9, 11], [9]), ([10, 12, 0, 1, 2, 3, 4, 5, 6, 7, 8, 9, 10, 11, 12], [10])])
def annuitylaw19_BillAll.B5 : List Nat := [0, 1, 0, 4, 12, 0, 63, 127, 255, 255, 255, 511, 3071, 8191]
theorem annuitylaw19_BillAll.tab5 : rtab .any (opsOf Try.f5 5) = annuitylaw19_BillAll.T5 := by kernel_rfl
theorem annuitylaw19_BillAll.bits5 : waitsOk annuitylaw19_BillAll.T5.2 annuitylaw19_BillAll.B5 = true := by kernel_rfl
def annuitylaw19_BillAll.T15 : Bool × List (List Nat × List Nat) := (true, [([], []), ([0], [0]), ([1], [1]), ([2], [2]), ([2], [2]), ([3, 4, 2], [2, 3, 4]), ([5, 2], [2, 5]), ([6, 2], [2, 6]), ([7, 2], [2, 7]), ([2, 8], [2, 8]), ([9, 2], [9]), ([10], [10]), ([10], [10]), ([11, 12, 10], [10, 11, 12]), ([13, 10], [10, 13]), ([14, 10], [10, 14]), ([10], [10]), ([10], [10]), ([16, 17, 10], [10, 16, 17]), ([18, 10], [10, 18]), ([19, 10], [10, 19]), ([15, 20, 10], [10, 15, 20]), ([10, 21], [10, 21]), ([22, 10], [22]), ([23], [23]), ([24, 23], [23, 24]), ([25, 23, 23], [23, 25]), ([26], [26]), ([26], [26]), ([28, 26], [26, 28]), ([27, 29, 26], [26, 27, 29]), ([30, 26], [26, 30]), ([31, 26], [26, 31]), ([32, 26], [26, 32]), ([26, 33, 23], [23, 26, 33]), ([34, 26, 23], [23, 34]), ([35], [35]), ([35], [35]), ([36, 37, 35], [35, 36, 37]), ([38, 35], [35, 38]), ([39, 35], [35, 39]), ([35], [35]), ([35], [35]), ([41, 42, 35], [35, 41, 42]), ([43, 35], [35, 43]), ([44, 35], [35, 44]), ([40, 45, 35], [35, 40, 45]), ([35, 46, 23], [23, 35, 46]), ([23, 47], [23, 47])])
def annuitylaw19_BillAll.B15 : List Nat := [0, 1, 3, 7, 7, 31, 63, 127, 255, 511, 1023, 2047, 2047, 8191, 16383, 32767, 2047, 2047, 198655, 460799, 985087, 2097151, 4194303, 8388607, 16777215, 33554431, 67108863, 134217727, 134217727, 402653183, 1073741823, 2147483647, 4294967295, 8589934591, 17179869183, 34359738367, 68719476735, 68719476735, 274877906943, 549755813887, 1099511627775, 68719476735, 68719476735, 6665789243391, 15461882265599, 33054068310015, 70368744177663, 140737488355327, 281474976710655]
theorem annuitylaw19_BillAll.tab15 : rtab .any (opsOf Try.f5 15) = annuitylaw19_BillAll.T15 := by kernel_rfl
theorem annuitylaw19_BillAll.bits15 : waitsOk annuitylaw19_BillAll.T15.2 annuitylaw19_BillAll.B15 = true := by kernel_rfl
def annuitylaw19_BillAll.T17 : Bool × List (List Nat × List Nat) := (true, [([], []), ([], []), ([], []), ([1, 2], [1, 2]), ([3], [3]), ([4], [4]), ([], []), ([], []), ([6, 7], [6, 7]), ([8], [8]), ([9], [9]), ([5, 10], [5, 10]), ([0, 11], [0, 11]), ([12, 0, 1, 2, 3, 4, 5, 6, 7, 8, 9, 10, 11, 12], [0, 12])])
def annuitylaw19_BillAll.B17 : List Nat := [0, 0, 0, 6, 14, 30, 0, 0, 192, 448, 960, 2046, 4095, 8191]
theorem annuitylaw19_BillAll.tab17 : rtab .any (opsOf Try.f5 17) = annuitylaw19_BillAll.T17 := by kernel_rfl
theorem annuitylaw19_BillAll.bits17 : waitsOk annuitylaw19_BillAll.T17.2 annuitylaw19_BillAll.B17 = true := by kernel_rfl
section
variable {P : Program} {ops : Array Oper} {Q : Exit → Act → World → Prop} {S : World → Prop} {ds : List Nat} {fuel : Nat} {a a' : Act} {w : World} {oi : Oper} {v : Value} {T : Bool × List (List Nat × List Nat)} {B : List Nat}
/-- Which ones have come up, as the bits of a number. -/
def annuitylaw19_BillAll.fl (n m : Nat) : Array Bool := ((List.range n).map fun j => m.testBit j).toArray
theorem annuitylaw19_BillAll.y (i N n m : Nat) {l : Array Bool} (hT : rtab .any ops = T) (h : wpAnyLast P .any ops Q S ds fuel (annuitylaw19_BillAll.fl n m) a' w)
    (hi : ops[i]? = some oi := by rfl) (hN : oi.dst = some N := by rfl) (hc : anyT T l.toList (annuitylaw19_BillAll.fl n m).toList i = true := by kernel_rfl)
    (hQ : ∀ c a w, Q (.panic c) (a.put oi.dst v) w → Q (.panic c) a w := by exact fun _ _ _ h => h) (hw : Region.wanted oi (yielded ops a.tmps) = true := by rfl)
    (hy : ∀ w, (execOp a.eval oi).run P w = .ok (.value v) w := by (intro w'; go_simp; with_reducible rfl)) (ha : a.put (some N) v = a' := by (simp only [Act.put, List.setIfInBounds_toArray, List.set_cons_zero, List.set_cons_succ, i64_w, i32_w]; rfl)) :
    wpAnyLast P .any ops Q S ds (fuel + 1) l a w := pure_ (N := some N) (annuitylaw19_BillAll.fl n m) hi hN (any_of hT hc) hQ (Or.inl ⟨hw, hy⟩) ha h
theorem annuitylaw19_BillAll.g (i N n m : Nat) {l : Array Bool} (hT : rtab .any ops = T) (h : wpAnyLast P .any ops Q S ds fuel (annuitylaw19_BillAll.fl n m) a' w)
    (hi : ops[i]? = some oi := by rfl) (hN : oi.dst = some N := by rfl) (hc : anyT T l.toList (annuitylaw19_BillAll.fl n m).toList i = true := by kernel_rfl)
    (hQ : ∀ c a w, Q (.panic c) (a.put oi.dst undef) w → Q (.panic c) a w := by exact fun _ _ _ h => h) (hw : Region.wanted oi (yielded ops a.tmps) = false := by rfl)
    (ha : a.put (some N) undef = a' := by (simp only [Act.put, List.setIfInBounds_toArray, List.set_cons_zero, List.set_cons_succ, i64_w, i32_w]; rfl)) :
    wpAnyLast P .any ops Q S ds (fuel + 1) l a w := pure_ (N := some N) (annuitylaw19_BillAll.fl n m) hi hN (any_of hT hc) hQ (Or.inr ⟨hw, rfl⟩) ha h
theorem annuitylaw19_BillAll.t (i N n m : Nat) {l : Array Bool} (hT : rtab .any ops = T) (hB : waitsOk T.2 B = true) (hS : S w) (h : wpAnyLast P .any ops Q S ds fuel (annuitylaw19_BillAll.fl n m) a' w)
    (hi : ops[i]? = some oi := by rfl) (hN : oi.dst = some N := by rfl) (hc : takeW T B ds l.toList (annuitylaw19_BillAll.fl n m).toList i = true := by kernel_rfl)
    (hQ : ∀ c a w, Q (.panic c) (a.put oi.dst v) w → Q (.panic c) a w := by exact fun _ _ _ h => h) (hw : Region.wanted oi (yielded ops a.tmps) = true := by rfl)
    (hy : ∀ w, S w → (execOp a.eval oi).run P w = .ok (.value v) w := by (intro w' hs_; (try dsimp only at hs_); go_simp; with_reducible rfl)) (ha : a.put (some N) v = a' := by (simp only [Act.put, List.setIfInBounds_toArray, List.set_cons_zero, List.set_cons_succ, i64_w, i32_w]; rfl)) :
    wpAnyLast P .any ops Q S ds (fuel + 1) l a w := take_ (N := some N) (annuitylaw19_BillAll.fl n m) hi hN (take_ofW hT hB hc) hQ (Or.inl ⟨hw, hy⟩) hS ha h
end
set_option maxHeartbeats 8000000 in
set_option maxRecDepth 100000 in
theorem annuitylaw19_BillAll.calls (k : Nat) (A0 : Option Addr) (c0 : Nat) (l0 : List (S45)) (a1_0 : Int) (a1_1 : Int) (a2 : Int) (r : Bool) (w : World) (hr0 : Kd.C k45 w A0 l0.length l0) (hc0 : l0.length ≤ c0) (h : annuitylaw19_BillAll.f k l0 a1_0 a1_1 a2 = some r) :
    Calls Try.prog 5 #[.slice A0 l0.length c0, .agg #[.int .u32 a1_0, .int .u32 a1_1], .int .i64 a2] w fun e w' => e = .returned (.bool r) ∧ Below w.heap.size w w' := by
  have hu42 := Try.underlying42
  have HR0 := Aside0.mk hr0
  have HC0 := Aside0.mk hc0
  clear hr0 hc0
  have HB := Aside0.mk (Below.refl w.heap.size w)
  have H : ((annuitylaw19_Large.f k l0).bind fun t292 => (if t292 = true then ((annuitylaw19_wakes.f k).bind fun t293 => (some t293)) else ((annuityref19_Good.f k l0).bind fun t294 => (if t294 = true then ((annuitykeep_Mod.f a2 87659).bind fun t296 => ((annuitykeep_CopyBills.f k l0).bind fun t297 => ((bill_Credit.f k t297 (wrap64 ((wrap64 (a1_0)) + (wrap64 (a1_1)))) t296).bind fun bt300 => ((annuitykeep_CopyBills.f k l0).bind fun t305 => ((bill_Credit.f k t305 (wrap64 (a1_0)) t296).bind fun bt308 => (if bt300.2.2 = 0 then (if bt308.2.2 = 0 then (if (bt300.1.length : Int) = (l0.length : Int) then ((bill_Credit.f k bt308.1 (wrap64 (a1_1)) t296).bind fun bt313 => (if bt313.2.2 = 0 then ((annuitykeep_Bills.f k bt300.1 bt313.1).bind fun t318 => (if t318 = true then (if bt300.2.1 = (wrap64 (bt308.2.1 + bt313.2.1)) then (annuitylaw19_BillAll.l0 k l0 bt300.1 bt300.2.1 0 0 a1_0 a1_1) else (none)) else (none))) else (none))) else (none)) else (none)) else (none))))))) else ((annuitylaw19_wakes.f k).bind fun t295 => (some t295)))))) = some r := h
  clear h
  replace H := Option.bind_eq_some_iff.mp H
  obtain ⟨t292, A40, H⟩ := H
  replace H : (if t292 = true then ((annuitylaw19_wakes.f k).bind fun t293 => (some t293)) else ((annuityref19_Good.f k l0).bind fun t294 => (if t294 = true then ((annuitykeep_Mod.f a2 87659).bind fun t296 => ((annuitykeep_CopyBills.f k l0).bind fun t297 => ((bill_Credit.f k t297 (wrap64 ((wrap64 (a1_0)) + (wrap64 (a1_1)))) t296).bind fun bt300 => ((annuitykeep_CopyBills.f k l0).bind fun t305 => ((bill_Credit.f k t305 (wrap64 (a1_0)) t296).bind fun bt308 => (if bt300.2.2 = 0 then (if bt308.2.2 = 0 then (if (bt300.1.length : Int) = (l0.length : Int) then ((bill_Credit.f k bt308.1 (wrap64 (a1_1)) t296).bind fun bt313 => (if bt313.2.2 = 0 then ((annuitykeep_Bills.f k bt300.1 bt313.1).bind fun t318 => (if t318 = true then (if bt300.2.1 = (wrap64 (bt308.2.1 + bt313.2.1)) then (annuitylaw19_BillAll.l0 k l0 bt300.1 bt300.2.1 0 0 a1_0 a1_1) else (none)) else (none))) else (none))) else (none)) else (none)) else (none))))))) else ((annuitylaw19_wakes.f k).bind fun t295 => (some t295))))) = some r := H
  have A4 := Aside0.mk A40
  clear A40
  by_cases c5 : t292 = true
  · subst c5
    have H1 : ((annuitylaw19_wakes.f k).bind fun t293 => (some t293)) = some r := by rw [if_pos rfl] at H; exact H
    clear H
    have H := H1
    clear H1
    replace H := Option.bind_eq_some_iff.mp H
    obtain ⟨t293, A60, H⟩ := H
    replace H : (some t293) = some r := H
    have A6 := Aside0.mk A60
    clear A60
    obtain rfl := Option.some.inj H
    go_enter Try.func5, Try.ntmps5
    go_wp2_with (first | ((with_reducible refine gate_dst (N := 4) rfl ?_); (try (refine gate_guard (by rfl) ?_; dsimp only)); refine box_event ?hg (N := 4) ?hd (cs := #[.int .u32 a1_0, .int .u32 a1_1]) (t := 42) ?hr ?_; (case hd => rfl); (case hg => rfl); (case hr => first | (go_simp; done) | (go_simp; rfl)); intro gb291 hg w7 hbox hb; have n0_ := Aside0.mk (below_step (by repeat (first | (with_reducible first | exact HB.out | apply below_alloc | apply pw_below_drewN | apply below_drew1) | exact HB.out)) hb); have n1_ := Aside0.mk (hbox); have n2_ := Aside0.mk ((by rw [hg]; exact (below_size (by repeat (first | (with_reducible first | exact HB.out | apply below_alloc | apply pw_below_drewN | apply below_drew1) | exact HB.out))) : w.heap.size ≤ gb291)); have n3_ := Aside0.mk ((by rw [hg]; exact (below_size (by repeat (first | (with_reducible first | exact HB.out | apply below_alloc | apply pw_below_drewN | apply below_drew1) | exact HB.out))) : w.heap.size ≤ gb291)); clear HB; have HB := n0_; have BK291 := n1_; have GW291 := n2_; have GE291 := n3_; clear n0_ n1_ n2_ n3_; clear hb hbox hg) | ((with_reducible refine gate_callee (f := 8) rfl ?_); refine goesL_ (some 20) rfl rfl Try.func8 (by kernel_rfl) rfl #[.slice A0 l0.length c0] rfl (by (try simp only [List.map_toArray, List.map_cons, List.map_nil]); first | done | rfl | (simp only [List.length_drop, List.length_take]; rfl)) ?_; (with_reducible refine (annuitylaw19_Large.calls k _ _ l0 true _ ?side1 ?side2 A4.out).mono ?_); (case side1 => repeat (first | exact (Kd.C_below HR0.out HB.out) | (with_reducible refine Kd.C_alloc ?_ _) | (with_reducible refine Kd.C_drewN ?_ _) | (with_reducible refine Kd.C_drew ?_))); (case side2 => exact HC0.out); rintro e w8 ⟨rfl, hb⟩; refine ⟨_, rfl, ?_⟩; have n0_ := Aside0.mk (blk_below (g := gb291) (Up.up BK291.out) hb); have n1_ := Aside0.mk (below_step (by repeat (first | (with_reducible first | exact HB.out | apply below_alloc | apply pw_below_drewN | apply below_drew1 | refine below_set ?_ GE291.out) | exact HB.out)) hb); clear BK291; clear HB; have BK291 := n0_; have HB := n1_; clear n0_ n1_; (try clear hb); (try clear hb2); (try clear hk); (try clear hi)) | ((with_reducible refine gate_callee (f := 9) rfl ?_); refine goesL_ (some 26) rfl rfl Try.func9 (by kernel_rfl) rfl #[] rfl (by (try simp only [List.map_toArray, List.map_cons, List.map_nil]); first | done | rfl | (simp only [List.length_drop, List.length_take]; rfl)) ?_; (with_reducible refine (annuitylaw19_wakes.calls k  t293 _ A6.out).mono ?_); rintro e w9 ⟨rfl, hb⟩; refine ⟨_, rfl, ?_⟩; have n0_ := Aside0.mk (blk_below (g := gb291) (Up.up BK291.out) hb); have n1_ := Aside0.mk (below_step (by repeat (first | (with_reducible first | exact HB.out | apply below_alloc | apply pw_below_drewN | apply below_drew1 | refine below_set ?_ GE291.out) | exact HB.out)) hb); clear BK291; clear HB; have BK291 := n0_; have HB := n1_; clear n0_ n1_; (try clear hb); (try clear hb2); (try clear hk); (try clear hi)))
    go_ret
    exact ⟨by first | rfl | (simp [errW_none, errW_some] <;> rfl) | (simp [*, errW_none, errW_some] <;> rfl), by repeat (first | (with_reducible first | exact HB.out | apply below_alloc | apply pw_below_drewN | apply below_drew1 | refine below_set ?_ GE291.out) | exact HB.out)⟩
  · replace c5 := Bool.eq_false_iff.mpr c5
    subst c5
    have H1 : ((annuityref19_Good.f k l0).bind fun t294 => (if t294 = true then ((annuitykeep_Mod.f a2 87659).bind fun t296 => ((annuitykeep_CopyBills.f k l0).bind fun t297 => ((bill_Credit.f k t297 (wrap64 ((wrap64 (a1_0)) + (wrap64 (a1_1)))) t296).bind fun bt300 => ((annuitykeep_CopyBills.f k l0).bind fun t305 => ((bill_Credit.f k t305 (wrap64 (a1_0)) t296).bind fun bt308 => (if bt300.2.2 = 0 then (if bt308.2.2 = 0 then (if (bt300.1.length : Int) = (l0.length : Int) then ((bill_Credit.f k bt308.1 (wrap64 (a1_1)) t296).bind fun bt313 => (if bt313.2.2 = 0 then ((annuitykeep_Bills.f k bt300.1 bt313.1).bind fun t318 => (if t318 = true then (if bt300.2.1 = (wrap64 (bt308.2.1 + bt313.2.1)) then (annuitylaw19_BillAll.l0 k l0 bt300.1 bt300.2.1 0 0 a1_0 a1_1) else (none)) else (none))) else (none))) else (none)) else (none)) else (none))))))) else ((annuitylaw19_wakes.f k).bind fun t295 => (some t295)))) = some r := by rw [if_neg (show ¬ (false = true) by decide)] at H; exact H
    clear H
    have H := H1
    clear H1
    replace H := Option.bind_eq_some_iff.mp H
    obtain ⟨t294, A100, H⟩ := H
    replace H : (if t294 = true then ((annuitykeep_Mod.f a2 87659).bind fun t296 => ((annuitykeep_CopyBills.f k l0).bind fun t297 => ((bill_Credit.f k t297 (wrap64 ((wrap64 (a1_0)) + (wrap64 (a1_1)))) t296).bind fun bt300 => ((annuitykeep_CopyBills.f k l0).bind fun t305 => ((bill_Credit.f k t305 (wrap64 (a1_0)) t296).bind fun bt308 => (if bt300.2.2 = 0 then (if bt308.2.2 = 0 then (if (bt300.1.length : Int) = (l0.length : Int) then ((bill_Credit.f k bt308.1 (wrap64 (a1_1)) t296).bind fun bt313 => (if bt313.2.2 = 0 then ((annuitykeep_Bills.f k bt300.1 bt313.1).bind fun t318 => (if t318 = true then (if bt300.2.1 = (wrap64 (bt308.2.1 + bt313.2.1)) then (annuitylaw19_BillAll.l0 k l0 bt300.1 bt300.2.1 0 0 a1_0 a1_1) else (none)) else (none))) else (none))) else (none)) else (none)) else (none))))))) else ((annuitylaw19_wakes.f k).bind fun t295 => (some t295))) = some r := H
    have A10 := Aside0.mk A100
    clear A100
    by_cases c11 : t294 = true
    · subst c11
      have H1 : ((annuitykeep_Mod.f a2 87659).bind fun t296 => ((annuitykeep_CopyBills.f k l0).bind fun t297 => ((bill_Credit.f k t297 (wrap64 ((wrap64 (a1_0)) + (wrap64 (a1_1)))) t296).bind fun bt300 => ((annuitykeep_CopyBills.f k l0).bind fun t305 => ((bill_Credit.f k t305 (wrap64 (a1_0)) t296).bind fun bt308 => (if bt300.2.2 = 0 then (if bt308.2.2 = 0 then (if (bt300.1.length : Int) = (l0.length : Int) then ((bill_Credit.f k bt308.1 (wrap64 (a1_1)) t296).bind fun bt313 => (if bt313.2.2 = 0 then ((annuitykeep_Bills.f k bt300.1 bt313.1).bind fun t318 => (if t318 = true then (if bt300.2.1 = (wrap64 (bt308.2.1 + bt313.2.1)) then (annuitylaw19_BillAll.l0 k l0 bt300.1 bt300.2.1 0 0 a1_0 a1_1) else (none)) else (none))) else (none))) else (none)) else (none)) else (none))))))) = some r := by rw [if_pos rfl] at H; exact H
      clear H
      have H := H1
      clear H1
      replace H := Option.bind_eq_some_iff.mp H
      obtain ⟨t296, A120, H⟩ := H
      replace H : ((annuitykeep_CopyBills.f k l0).bind fun t297 => ((bill_Credit.f k t297 (wrap64 ((wrap64 (a1_0)) + (wrap64 (a1_1)))) t296).bind fun bt300 => ((annuitykeep_CopyBills.f k l0).bind fun t305 => ((bill_Credit.f k t305 (wrap64 (a1_0)) t296).bind fun bt308 => (if bt300.2.2 = 0 then (if bt308.2.2 = 0 then (if (bt300.1.length : Int) = (l0.length : Int) then ((bill_Credit.f k bt308.1 (wrap64 (a1_1)) t296).bind fun bt313 => (if bt313.2.2 = 0 then ((annuitykeep_Bills.f k bt300.1 bt313.1).bind fun t318 => (if t318 = true then (if bt300.2.1 = (wrap64 (bt308.2.1 + bt313.2.1)) then (annuitylaw19_BillAll.l0 k l0 bt300.1 bt300.2.1 0 0 a1_0 a1_1) else (none)) else (none))) else (none))) else (none)) else (none)) else (none)))))) = some r := H
      have A12 := Aside0.mk A120
      clear A120
      replace H := Option.bind_eq_some_iff.mp H
      obtain ⟨t297, A130, H⟩ := H
      replace H : ((bill_Credit.f k t297 (wrap64 ((wrap64 (a1_0)) + (wrap64 (a1_1)))) t296).bind fun bt300 => ((annuitykeep_CopyBills.f k l0).bind fun t305 => ((bill_Credit.f k t305 (wrap64 (a1_0)) t296).bind fun bt308 => (if bt300.2.2 = 0 then (if bt308.2.2 = 0 then (if (bt300.1.length : Int) = (l0.length : Int) then ((bill_Credit.f k bt308.1 (wrap64 (a1_1)) t296).bind fun bt313 => (if bt313.2.2 = 0 then ((annuitykeep_Bills.f k bt300.1 bt313.1).bind fun t318 => (if t318 = true then (if bt300.2.1 = (wrap64 (bt308.2.1 + bt313.2.1)) then (annuitylaw19_BillAll.l0 k l0 bt300.1 bt300.2.1 0 0 a1_0 a1_1) else (none)) else (none))) else (none))) else (none)) else (none)) else (none))))) = some r := H
      have A13 := Aside0.mk A130
      clear A130
      replace H := Option.bind_eq_some_iff.mp H
      obtain ⟨⟨t300, t303, t304⟩, A140, H⟩ := H
      replace H : ((annuitykeep_CopyBills.f k l0).bind fun t305 => ((bill_Credit.f k t305 (wrap64 (a1_0)) t296).bind fun bt308 => (if t304 = 0 then (if bt308.2.2 = 0 then (if (t300.length : Int) = (l0.length : Int) then ((bill_Credit.f k bt308.1 (wrap64 (a1_1)) t296).bind fun bt313 => (if bt313.2.2 = 0 then ((annuitykeep_Bills.f k t300 bt313.1).bind fun t318 => (if t318 = true then (if t303 = (wrap64 (bt308.2.1 + bt313.2.1)) then (annuitylaw19_BillAll.l0 k l0 t300 t303 0 0 a1_0 a1_1) else (none)) else (none))) else (none))) else (none)) else (none)) else (none)))) = some r := H
      have A14 := Aside0.mk A140
      clear A140
      replace H := Option.bind_eq_some_iff.mp H
      obtain ⟨t305, A150, H⟩ := H
      replace H : ((bill_Credit.f k t305 (wrap64 (a1_0)) t296).bind fun bt308 => (if t304 = 0 then (if bt308.2.2 = 0 then (if (t300.length : Int) = (l0.length : Int) then ((bill_Credit.f k bt308.1 (wrap64 (a1_1)) t296).bind fun bt313 => (if bt313.2.2 = 0 then ((annuitykeep_Bills.f k t300 bt313.1).bind fun t318 => (if t318 = true then (if t303 = (wrap64 (bt308.2.1 + bt313.2.1)) then (annuitylaw19_BillAll.l0 k l0 t300 t303 0 0 a1_0 a1_1) else (none)) else (none))) else (none))) else (none)) else (none)) else (none))) = some r := H
      have A15 := Aside0.mk A150
      clear A150
      replace H := Option.bind_eq_some_iff.mp H
      obtain ⟨⟨t308, t311, t312⟩, A160, H⟩ := H
      replace H : (if t304 = 0 then (if t312 = 0 then (if (t300.length : Int) = (l0.length : Int) then ((bill_Credit.f k t308 (wrap64 (a1_1)) t296).bind fun bt313 => (if bt313.2.2 = 0 then ((annuitykeep_Bills.f k t300 bt313.1).bind fun t318 => (if t318 = true then (if t303 = (wrap64 (t311 + bt313.2.1)) then (annuitylaw19_BillAll.l0 k l0 t300 t303 0 0 a1_0 a1_1) else (none)) else (none))) else (none))) else (none)) else (none)) else (none)) = some r := H
      have A16 := Aside0.mk A160
      clear A160
      by_cases c17 : t304 = 0
      · rw [if_pos c17] at H
        have c17b0 : (t304 == 0) = true := beq_iff_eq.mpr c17
        have c17b1 : (t304 != 0) = false := bne_eq_false_iff_eq.mpr c17
        clear c17
        by_cases c18 : t312 = 0
        · rw [if_pos c18] at H
          have c18b0 : (t312 == 0) = true := beq_iff_eq.mpr c18
          have c18b1 : (t312 != 0) = false := bne_eq_false_iff_eq.mpr c18
          clear c18
          by_cases c19 : (t300.length : Int) = (l0.length : Int)
          · rw [if_pos c19] at H
            have c19b0 : ((t300.length : Int) == (l0.length : Int)) = true := beq_iff_eq.mpr c19
            have c19b1 : ((t300.length : Int) != (l0.length : Int)) = false := bne_eq_false_iff_eq.mpr c19
            have c19b2 : (t300.length == l0.length) = true := by first | simpa using c19 | (simp at c19 ⊢; omega)
            clear c19
            replace H := Option.bind_eq_some_iff.mp H
            obtain ⟨⟨t313, t316, t317⟩, A200, H⟩ := H
            replace H : (if t317 = 0 then ((annuitykeep_Bills.f k t300 t313).bind fun t318 => (if t318 = true then (if t303 = (wrap64 (t311 + t316)) then (annuitylaw19_BillAll.l0 k l0 t300 t303 0 0 a1_0 a1_1) else (none)) else (none))) else (none)) = some r := H
            have A20 := Aside0.mk A200
            clear A200
            by_cases c21 : t317 = 0
            · rw [if_pos c21] at H
              have c21b0 : (t317 == 0) = true := beq_iff_eq.mpr c21
              have c21b1 : (t317 != 0) = false := bne_eq_false_iff_eq.mpr c21
              clear c21
              replace H := Option.bind_eq_some_iff.mp H
              obtain ⟨t318, A220, H⟩ := H
              replace H : (if t318 = true then (if t303 = (wrap64 (t311 + t316)) then (annuitylaw19_BillAll.l0 k l0 t300 t303 0 0 a1_0 a1_1) else (none)) else (none)) = some r := H
              have A22 := Aside0.mk A220
              clear A220
              by_cases c23 : t318 = true
              · subst c23
                have H1 : (if t303 = (wrap64 (t311 + t316)) then (annuitylaw19_BillAll.l0 k l0 t300 t303 0 0 a1_0 a1_1) else (none)) = some r := by rw [if_pos rfl] at H; exact H
                clear H
                have H := H1
                clear H1
                by_cases c24 : t303 = (wrap64 (t311 + t316))
                · rw [if_pos c24] at H
                  have c24b0 : (t303 == (wrap64 (t311 + t316))) = true := beq_iff_eq.mpr c24
                  have c24b1 : (t303 != (wrap64 (t311 + t316))) = false := bne_eq_false_iff_eq.mpr c24
                  clear c24
                  have H' := Aside0.mk H
                  clear H
                  go_enter Try.func5, Try.ntmps5
                  try go_wp2_with (first | ((with_reducible refine gate_dst (N := 4) rfl ?_); (try (refine gate_guard (by rfl) ?_; dsimp only)); refine box_event ?hg (N := 4) ?hd (cs := #[.int .u32 a1_0, .int .u32 a1_1]) (t := 42) ?hr ?_; (case hd => rfl); (case hg => rfl); (case hr => first | (go_simp; done) | (go_simp; rfl)); intro gb291 hg w25 hbox hb; have n0_ := Aside0.mk (below_step (by repeat (first | (with_reducible first | exact HB.out | apply below_alloc | apply pw_below_drewN | apply below_drew1) | exact HB.out)) hb); have n1_ := Aside0.mk (hbox); have n2_ := Aside0.mk ((by rw [hg]; exact (below_size (by repeat (first | (with_reducible first | exact HB.out | apply below_alloc | apply pw_below_drewN | apply below_drew1) | exact HB.out))) : w.heap.size ≤ gb291)); have n3_ := Aside0.mk ((by rw [hg]; exact (below_size (by repeat (first | (with_reducible first | exact HB.out | apply below_alloc | apply pw_below_drewN | apply below_drew1) | exact HB.out))) : w.heap.size ≤ gb291)); clear HB; have HB := n0_; have BK291 := n1_; have GW291 := n2_; have GE291 := n3_; clear n0_ n1_ n2_ n3_; clear hb hbox hg) | ((with_reducible refine gate_callee (f := 8) rfl ?_); refine goesL_ (some 20) rfl rfl Try.func8 (by kernel_rfl) rfl #[.slice A0 l0.length c0] rfl (by (try simp only [List.map_toArray, List.map_cons, List.map_nil]); first | done | rfl | (simp only [List.length_drop, List.length_take]; rfl)) ?_; (with_reducible refine (annuitylaw19_Large.calls k _ _ l0 false _ ?side1 ?side2 A4.out).mono ?_); (case side1 => repeat (first | exact (Kd.C_below HR0.out HB.out) | (with_reducible refine Kd.C_alloc ?_ _) | (with_reducible refine Kd.C_drewN ?_ _) | (with_reducible refine Kd.C_drew ?_))); (case side2 => exact HC0.out); rintro e w26 ⟨rfl, hb⟩; refine ⟨_, rfl, ?_⟩; have n0_ := Aside0.mk (blk_below (g := gb291) (Up.up BK291.out) hb); have n1_ := Aside0.mk (below_step (by repeat (first | (with_reducible first | exact HB.out | apply below_alloc | apply pw_below_drewN | apply below_drew1 | refine below_set ?_ GE291.out) | exact HB.out)) hb); clear BK291; clear HB; have BK291 := n0_; have HB := n1_; clear n0_ n1_; (try clear hb); (try clear hb2); (try clear hk); (try clear hi)) | (go_at_call 16; (with_reducible refine (annuityref19_Good.calls k _ _ l0 true _ ?side1 ?side2 A10.out).mono ?_); (case side1 => repeat (first | exact (Kd.C_below HR0.out HB.out) | (with_reducible refine Kd.C_alloc ?_ _) | (with_reducible refine Kd.C_drewN ?_ _) | (with_reducible refine Kd.C_drew ?_))); (case side2 => exact HC0.out); rintro e w27 ⟨rfl, hb⟩; have n0_ := Aside0.mk (blk_below (g := gb291) (Up.up BK291.out) hb); have n1_ := Aside0.mk (below_step (by repeat (first | (with_reducible first | exact HB.out | apply below_alloc | apply pw_below_drewN | apply below_drew1 | refine below_set ?_ GE291.out) | exact HB.out)) hb); clear BK291; clear HB; have BK291 := n0_; have HB := n1_; clear n0_ n1_; (try clear hb); (try clear hb2); (try clear hk); (try clear hi)) | ((with_reducible refine gate_callee (f := 17) rfl ?_); refine goesL_ (some 28) rfl rfl Try.func17 (by kernel_rfl) rfl #[.int .i64 a2, .int .i64 87659] rfl (by (try simp only [List.map_toArray, List.map_cons, List.map_nil]); first | done | rfl | (simp only [List.length_drop, List.length_take]; rfl)) ?_; (with_reducible refine (annuitykeep_Mod.calls a2 87659 t296 _ A12.out).mono ?_); rintro e w' ⟨rfl, ⟨nd, rfl⟩⟩; refine ⟨_, rfl, ?_⟩))
                  (try (rw [drewN_self w27]; generalize hq_ : World.drewN w27 _ = w27; have n0_ : Aside0 (w27.heap[gb291]? = some (.cells #[.int .u32 a1_0, .int .u32 a1_1] 42 (0, 0))) := ⟨by rw [← hq_]; exact (Up.up BK291.out)⟩; have n1_ : Aside0 (Below w.heap.size w w27) := ⟨by rw [← hq_]; exact (by repeat (first | (with_reducible first | exact HB.out | apply below_alloc | apply pw_below_drewN | apply below_drew1 | refine below_set ?_ GE291.out) | exact HB.out))⟩; clear BK291 HB hq_; have BK291 := n0_; have HB := n1_; clear n0_ n1_))
                  have n0_ := Aside0.mk (blk_drew BK291.out)
                  have n1_ := Aside0.mk (below_drew1 HB.out)
                  clear BK291
                  clear HB
                  have BK291 := n0_
                  have HB := n1_
                  clear n0_ n1_
                  refine start_ (n := 18) (S := fun w' => w'.cell? ⟨gb291, 0, none⟩ = some (.int .u32 a1_0) ∧ w'.cell? ⟨gb291, 1, none⟩ = some (.int .u32 a1_1)) (ds := []) (annuitylaw19_BillAll.fl 18 0) (by kernel_rfl) rfl rfl ⟨(blk_cell BK291.out 0).trans rfl, (blk_cell BK291.out 1).trans rfl⟩ (fun hHeld => ?_); refine with_tabW annuitylaw19_BillAll.tab4 annuitylaw19_BillAll.bits4 (fun HT_ HW_ => ?_)
                  generalize w27.drew = w28 at BK291 HB hHeld ⊢
                  refine annuitylaw19_BillAll.y 0 30 18 1 HT_.out ?_
                  refine annuitylaw19_BillAll.y 2 32 18 5 HT_.out ?_
                  refine annuitylaw19_BillAll.y 5 35 18 37 HT_.out ?_
                  refine annuitylaw19_BillAll.y 9 39 18 549 HT_.out ?_
                  refine annuitylaw19_BillAll.t 3 33 18 557 HT_.out HW_.out hHeld ?_
                  refine annuitylaw19_BillAll.y 4 34 18 573 HT_.out ?_
                  refine annuitylaw19_BillAll.t 6 36 18 637 HT_.out HW_.out hHeld ?_
                  refine annuitylaw19_BillAll.y 7 37 18 765 HT_.out ?_
                  refine annuitylaw19_BillAll.y 8 38 18 1021 HT_.out ?_
                  refine one_ (i := 1) (N := some 31) (annuitylaw19_BillAll.fl 18 1023) rfl rfl (one_of HT_.out (by kernel_rfl)) (by decide) (fun K hK => ?_)
                  refine goes_ Try.func10 (by kernel_rfl) rfl #[.slice A0 l0.length c0] (by rfl) rfl rfl (by (try simp only [List.map_toArray, List.map_cons, List.map_nil]); first | done | rfl | (simp only [List.length_drop, List.length_take]; rfl)) ?_
                  with_reducible refine (annuitykeep_CopyBills.calls k _ _ l0 t297 _ ?side1 ?side2 A13.out).mono ?_
                  (case side1 => repeat (first | exact (Kd.C_below HR0.out HB.out) | (with_reducible refine Kd.C_alloc ?_ _) | (with_reducible refine Kd.C_drewN ?_ _) | (with_reducible refine Kd.C_drew ?_)))
                  (case side2 => exact HC0.out)
                  rintro e w29 ⟨v298, rfl, ho0, hb⟩
                  refine ⟨_, rfl, ?_⟩
                  have n0_ := Aside0.mk (Kd.N_lower (Kd.N_mono (ok' := fun k_ => k_ ≠ gb291) (Kd.S_N (Kd.S_bound ho0)) (fun k_ hk_ => (Kd.freshB (g := gb291) (Up.up BK291.out) k_ hk_.2.1))) (below_size (by repeat (first | (with_reducible first | exact HB.out | apply below_alloc | apply pw_below_drewN | apply below_drew1 | refine below_set ?_ GE291.out) | exact HB.out))))
                  have n1_ := Aside0.mk (blk_below (g := gb291) (Up.up BK291.out) hb)
                  have n2_ := Aside0.mk (below_step (by repeat (first | (with_reducible first | exact HB.out | apply below_alloc | apply pw_below_drewN | apply below_drew1 | refine below_set ?_ GE291.out) | exact HB.out)) hb)
                  clear BK291
                  clear HB
                  have HO299 := n0_
                  have BK291 := n1_
                  have HB := n2_
                  clear n0_ n1_ n2_
                  (try clear hb)
                  (try clear hb2)
                  (try clear hk)
                  (try clear hi)
                  (try clear ho0)
                  obtain ⟨Ao30, co30, eo30⟩ := Kd.N_slice HO299.out
                  (first | subst eo30 | (injection eo30 with f1_ f2_ f3_; have f4_ := f1_.symm; have f5_ := f3_.symm; clear f1_ f2_ f3_; subst f4_; subst f5_))
                  refine hK.out _ _ ⟨(blk_cell BK291.out 0).trans rfl, (blk_cell BK291.out 1).trans rfl⟩ (fun hHeld => ?_)
                  clear hK K
                  refine norm_ (a' := ?_) ?_ ?_
                  rotate_left
                  · show Act.put _ (some 31) _ = _
                    simp only [Act.put, List.setIfInBounds_toArray, List.set_cons_zero, List.set_cons_succ, i64_w, i32_w]
                    rfl
                  refine one_ (i := 10) (N := some 40) (annuitylaw19_BillAll.fl 18 2047) rfl rfl (one_of HT_.out (by kernel_rfl)) (by decide) (fun K hK => ?_)
                  refine goes_ Try.func14 (by kernel_rfl) rfl #[.slice Ao30 t297.length co30, .int .i64 (wrap64 ((wrap64 (a1_0)) + (wrap64 (a1_1)))), .int .i64 t296] (by rfl) rfl rfl (by (try simp only [List.map_toArray, List.map_cons, List.map_nil]); first | done | rfl | (simp only [List.length_drop, List.length_take]; rfl)) ?_
                  with_reducible refine (bill_Credit.calls k _ _ t297 (wrap64 ((wrap64 (a1_0)) + (wrap64 (a1_1)))) t296 t300 t303 t304 _ ?side1 ?side2 A14.out).mono ?_
                  (case side1 => repeat (first | exact (Kd.N_reads' HO299.out).2.2 | (with_reducible refine Kd.C_alloc ?_ _) | (with_reducible refine Kd.C_drewN ?_ _) | (with_reducible refine Kd.C_drew ?_)))
                  (case side2 => exact (Kd.N_reads' HO299.out).2.1)
                  rintro e w31 ⟨v301, rfl, ho0, hb⟩
                  refine ⟨_, rfl, ?_⟩
                  have n0_ := Aside0.mk (Kd.N_elder' (by (with_reducible repeat (first | apply Kd.N_alloc | apply Kd.N_drewN | apply Kd.N_drew)); exact HO299.out) (by first | exact Kd.N_base ho0 | exact Kd.N_base (Kd.S_N ho0)) hb)
                  have n1_ := Aside0.mk (Kd.N_lower (Kd.N_mono (ok' := fun k_ => some k_ ≠ (.slice Ao30 t297.length co30 : Value).ownBlock ∧ k_ ≠ gb291) ho0 (fun k_ hk_ => ⟨(Kd.fresh' (Kd.N_lt (by (with_reducible repeat (first | apply Kd.N_alloc | apply Kd.N_drewN | apply Kd.N_drew)); exact HO299.out)) k_ hk_), (Kd.freshB (g := gb291) (Up.up BK291.out) k_ hk_)⟩)) (below_size (by repeat (first | (with_reducible first | exact HB.out | apply below_alloc | apply pw_below_drewN | apply below_drew1 | refine below_set ?_ GE291.out) | exact HB.out))))
                  have n2_ := Aside0.mk (blk_below (g := gb291) (Up.up BK291.out) hb)
                  have n3_ := Aside0.mk (below_step (by repeat (first | (with_reducible first | exact HB.out | apply below_alloc | apply pw_below_drewN | apply below_drew1 | refine below_set ?_ GE291.out) | exact HB.out)) hb)
                  clear HO299
                  clear BK291
                  clear HB
                  have HO299 := n0_
                  have HO302 := n1_
                  have BK291 := n2_
                  have HB := n3_
                  clear n0_ n1_ n2_ n3_
                  (try clear hb)
                  (try clear hb2)
                  (try clear hk)
                  (try clear hi)
                  (try clear ho0)
                  refine hK.out _ _ ⟨(blk_cell BK291.out 0).trans rfl, (blk_cell BK291.out 1).trans rfl⟩ (fun hHeld => ?_)
                  clear hK K
                  refine norm_ (a' := ?_) ?_ ?_
                  rotate_left
                  · show Act.put _ (some 40) _ = _
                    simp only [Act.put, List.setIfInBounds_toArray, List.set_cons_zero, List.set_cons_succ, i64_w, i32_w]
                    rfl
                  refine annuitylaw19_BillAll.y 11 29 18 4095 HT_.out ?_
                  refine annuitylaw19_BillAll.y 12 41 18 8191 HT_.out ?_
                  refine annuitylaw19_BillAll.y 13 42 18 16383 HT_.out ?_
                  refine annuitylaw19_BillAll.y 14 43 18 32767 HT_.out ?_
                  refine annuitylaw19_BillAll.y 15 8 18 65535 HT_.out ?_
                  refine annuitylaw19_BillAll.y 16 9 18 131071 HT_.out ?_
                  refine annuitylaw19_BillAll.y 17 10 18 262143 HT_.out ?_
                  refine done_ (done_of HT_.out (by kernel_rfl)) ?_
                  try go_wp2
                  have n0_ := Aside0.mk (Kd.N_drew HO299.out)
                  have n1_ := Aside0.mk (Kd.N_drew HO302.out)
                  have n2_ := Aside0.mk (blk_drew BK291.out)
                  have n3_ := Aside0.mk (below_drew1 HB.out)
                  clear HO299
                  clear HO302
                  clear BK291
                  clear HB
                  have HO299 := n0_
                  have HO302 := n1_
                  have BK291 := n2_
                  have HB := n3_
                  clear n0_ n1_ n2_ n3_
                  refine start_ (n := 14) (S := fun w' => w'.cell? ⟨gb291, 0, none⟩ = some (.int .u32 a1_0) ∧ w'.cell? ⟨gb291, 1, none⟩ = some (.int .u32 a1_1)) (ds := []) (annuitylaw19_BillAll.fl 14 0) (by kernel_rfl) rfl rfl ⟨(blk_cell BK291.out 0).trans rfl, (blk_cell BK291.out 1).trans rfl⟩ (fun hHeld => ?_); refine with_tabW annuitylaw19_BillAll.tab5 annuitylaw19_BillAll.bits5 (fun HT_ HW_ => ?_)
                  generalize w31.drew = w32 at HO299 HO302 BK291 HB hHeld ⊢
                  refine annuitylaw19_BillAll.y 0 45 14 1 HT_.out ?_
                  refine annuitylaw19_BillAll.y 2 47 14 5 HT_.out ?_
                  refine annuitylaw19_BillAll.y 5 50 14 37 HT_.out ?_
                  refine annuitylaw19_BillAll.t 3 48 14 45 HT_.out HW_.out hHeld ?_
                  refine annuitylaw19_BillAll.y 4 49 14 61 HT_.out ?_
                  refine one_ (i := 1) (N := some 46) (annuitylaw19_BillAll.fl 14 63) rfl rfl (one_of HT_.out (by kernel_rfl)) (by decide) (fun K hK => ?_)
                  refine goes_ Try.func10 (by kernel_rfl) rfl #[.slice A0 l0.length c0] (by rfl) rfl rfl (by (try simp only [List.map_toArray, List.map_cons, List.map_nil]); first | done | rfl | (simp only [List.length_drop, List.length_take]; rfl)) ?_
                  with_reducible refine (annuitykeep_CopyBills.calls k _ _ l0 t305 _ ?side1 ?side2 A15.out).mono ?_
                  (case side1 => repeat (first | exact (Kd.C_below HR0.out HB.out) | (with_reducible refine Kd.C_alloc ?_ _) | (with_reducible refine Kd.C_drewN ?_ _) | (with_reducible refine Kd.C_drew ?_)))
                  (case side2 => exact HC0.out)
                  rintro e w33 ⟨v306, rfl, ho0, hb⟩
                  refine ⟨_, rfl, ?_⟩
                  have n0_ := Aside0.mk (Kd.N_elder' (by (with_reducible repeat (first | apply Kd.N_alloc | apply Kd.N_drewN | apply Kd.N_drew)); exact HO299.out) (by first | exact Kd.N_base ho0 | exact Kd.N_base (Kd.S_N ho0)) hb)
                  have n1_ := Aside0.mk (Kd.N_elder' (by (with_reducible repeat (first | apply Kd.N_alloc | apply Kd.N_drewN | apply Kd.N_drew)); exact HO302.out) (by first | exact Kd.N_base ho0 | exact Kd.N_base (Kd.S_N ho0)) hb)
                  have n2_ := Aside0.mk (Kd.N_lower (Kd.N_mono (ok' := fun k_ => some k_ ≠ (.slice Ao30 t297.length co30 : Value).ownBlock ∧ some k_ ≠ (v301 : Value).ownBlock ∧ k_ ≠ gb291) (Kd.S_N (Kd.S_bound ho0)) (fun k_ hk_ => ⟨(Kd.fresh' (Kd.N_lt (by (with_reducible repeat (first | apply Kd.N_alloc | apply Kd.N_drewN | apply Kd.N_drew)); exact HO299.out)) k_ hk_.2.1), (Kd.fresh' (Kd.N_lt (by (with_reducible repeat (first | apply Kd.N_alloc | apply Kd.N_drewN | apply Kd.N_drew)); exact HO302.out)) k_ hk_.2.1), (Kd.freshB (g := gb291) (Up.up BK291.out) k_ hk_.2.1)⟩)) (below_size (by repeat (first | (with_reducible first | exact HB.out | apply below_alloc | apply pw_below_drewN | apply below_drew1 | refine below_set ?_ GE291.out) | exact HB.out))))
                  have n3_ := Aside0.mk (blk_below (g := gb291) (Up.up BK291.out) hb)
                  have n4_ := Aside0.mk (below_step (by repeat (first | (with_reducible first | exact HB.out | apply below_alloc | apply pw_below_drewN | apply below_drew1 | refine below_set ?_ GE291.out) | exact HB.out)) hb)
                  clear HO299
                  clear HO302
                  clear BK291
                  clear HB
                  have HO299 := n0_
                  have HO302 := n1_
                  have HO307 := n2_
                  have BK291 := n3_
                  have HB := n4_
                  clear n0_ n1_ n2_ n3_ n4_
                  (try clear hb)
                  (try clear hb2)
                  (try clear hk)
                  (try clear hi)
                  (try clear ho0)
                  obtain ⟨Ao34, co34, eo34⟩ := Kd.N_slice HO307.out
                  (first | subst eo34 | (injection eo34 with f1_ f2_ f3_; have f4_ := f1_.symm; have f5_ := f3_.symm; clear f1_ f2_ f3_; subst f4_; subst f5_))
                  refine hK.out _ _ ⟨(blk_cell BK291.out 0).trans rfl, (blk_cell BK291.out 1).trans rfl⟩ (fun hHeld => ?_)
                  clear hK K
                  refine norm_ (a' := ?_) ?_ ?_
                  rotate_left
                  · show Act.put _ (some 46) _ = _
                    simp only [Act.put, List.setIfInBounds_toArray, List.set_cons_zero, List.set_cons_succ, i64_w, i32_w]
                    rfl
                  refine one_ (i := 6) (N := some 51) (annuitylaw19_BillAll.fl 14 127) rfl rfl (one_of HT_.out (by kernel_rfl)) (by decide) (fun K hK => ?_)
                  refine goes_ Try.func14 (by kernel_rfl) rfl #[.slice Ao34 t305.length co34, .int .i64 (wrap64 (a1_0)), .int .i64 t296] (by rfl) rfl rfl (by (try simp only [List.map_toArray, List.map_cons, List.map_nil]); first | done | rfl | (simp only [List.length_drop, List.length_take]; rfl)) ?_
                  with_reducible refine (bill_Credit.calls k _ _ t305 (wrap64 (a1_0)) t296 t308 t311 t312 _ ?side1 ?side2 A16.out).mono ?_
                  (case side1 => repeat (first | exact (Kd.N_reads' HO307.out).2.2 | (with_reducible refine Kd.C_alloc ?_ _) | (with_reducible refine Kd.C_drewN ?_ _) | (with_reducible refine Kd.C_drew ?_)))
                  (case side2 => exact (Kd.N_reads' HO307.out).2.1)
                  rintro e w35 ⟨v309, rfl, ho0, hb⟩
                  refine ⟨_, rfl, ?_⟩
                  have n0_ := Aside0.mk (Kd.N_elder' (by (with_reducible repeat (first | apply Kd.N_alloc | apply Kd.N_drewN | apply Kd.N_drew)); exact HO299.out) (by first | exact Kd.N_base ho0 | exact Kd.N_base (Kd.S_N ho0)) hb)
                  have n1_ := Aside0.mk (Kd.N_elder' (by (with_reducible repeat (first | apply Kd.N_alloc | apply Kd.N_drewN | apply Kd.N_drew)); exact HO302.out) (by first | exact Kd.N_base ho0 | exact Kd.N_base (Kd.S_N ho0)) hb)
                  have n2_ := Aside0.mk (Kd.N_elder' (by (with_reducible repeat (first | apply Kd.N_alloc | apply Kd.N_drewN | apply Kd.N_drew)); exact HO307.out) (by first | exact Kd.N_base ho0 | exact Kd.N_base (Kd.S_N ho0)) hb)
                  have n3_ := Aside0.mk (Kd.N_lower (Kd.N_mono (ok' := fun k_ => some k_ ≠ (.slice Ao30 t297.length co30 : Value).ownBlock ∧ some k_ ≠ (v301 : Value).ownBlock ∧ some k_ ≠ (.slice Ao34 t305.length co34 : Value).ownBlock ∧ k_ ≠ gb291) ho0 (fun k_ hk_ => ⟨(Kd.fresh' (Kd.N_lt (by (with_reducible repeat (first | apply Kd.N_alloc | apply Kd.N_drewN | apply Kd.N_drew)); exact HO299.out)) k_ hk_), (Kd.fresh' (Kd.N_lt (by (with_reducible repeat (first | apply Kd.N_alloc | apply Kd.N_drewN | apply Kd.N_drew)); exact HO302.out)) k_ hk_), (Kd.fresh' (Kd.N_lt (by (with_reducible repeat (first | apply Kd.N_alloc | apply Kd.N_drewN | apply Kd.N_drew)); exact HO307.out)) k_ hk_), (Kd.freshB (g := gb291) (Up.up BK291.out) k_ hk_)⟩)) (below_size (by repeat (first | (with_reducible first | exact HB.out | apply below_alloc | apply pw_below_drewN | apply below_drew1 | refine below_set ?_ GE291.out) | exact HB.out))))
                  have n4_ := Aside0.mk (blk_below (g := gb291) (Up.up BK291.out) hb)
                  have n5_ := Aside0.mk (below_step (by repeat (first | (with_reducible first | exact HB.out | apply below_alloc | apply pw_below_drewN | apply below_drew1 | refine below_set ?_ GE291.out) | exact HB.out)) hb)
                  clear HO299
                  clear HO302
                  clear HO307
                  clear BK291
                  clear HB
                  have HO299 := n0_
                  have HO302 := n1_
                  have HO307 := n2_
                  have HO310 := n3_
                  have BK291 := n4_
                  have HB := n5_
                  clear n0_ n1_ n2_ n3_ n4_ n5_
                  (try clear hb)
                  (try clear hb2)
                  (try clear hk)
                  (try clear hi)
                  (try clear ho0)
                  refine hK.out _ _ ⟨(blk_cell BK291.out 0).trans rfl, (blk_cell BK291.out 1).trans rfl⟩ (fun hHeld => ?_)
                  clear hK K
                  refine norm_ (a' := ?_) ?_ ?_
                  rotate_left
                  · show Act.put _ (some 51) _ = _
                    simp only [Act.put, List.setIfInBounds_toArray, List.set_cons_zero, List.set_cons_succ, i64_w, i32_w]
                    rfl
                  refine annuitylaw19_BillAll.y 7 44 14 255 HT_.out ?_
                  refine annuitylaw19_BillAll.y 8 52 14 511 HT_.out ?_
                  refine annuitylaw19_BillAll.y 9 53 14 1023 HT_.out ?_
                  refine annuitylaw19_BillAll.y 10 54 14 2047 HT_.out ?_
                  refine annuitylaw19_BillAll.y 11 11 14 4095 HT_.out ?_
                  refine annuitylaw19_BillAll.y 12 12 14 8191 HT_.out ?_
                  refine annuitylaw19_BillAll.y 13 13 14 16383 HT_.out ?_
                  refine done_ (done_of HT_.out (by kernel_rfl)) ?_
                  obtain ⟨Ao36, co36, eo36⟩ := Kd.N_slice HO302.out
                  subst eo36
                  have hcz37_0 : w35.cell? ⟨gb291, 0, none⟩ = some (.int .u32 a1_0) := (blk_cell BK291.out 0).trans rfl
                  have hcz37_1 : w35.cell? ⟨gb291, 1, none⟩ = some (.int .u32 a1_1) := (blk_cell BK291.out 1).trans rfl
                  have hfz37_0 := blk_frozen BK291.out 0
                  have hfz37_1 := blk_frozen BK291.out 1
                  obtain ⟨Ao38, co38, eo38⟩ := Kd.N_slice HO310.out
                  subst eo38
                  try go_wp2_with (first | ((with_reducible refine gate_callee (f := 14) rfl ?_); refine goesL_ (some 74) rfl rfl Try.func14 (by kernel_rfl) rfl #[.slice Ao38 t308.length co38, .int .i64 (wrap64 (a1_1)), .int .i64 t296] rfl (by (try simp only [List.map_toArray, List.map_cons, List.map_nil]); first | done | rfl | (simp only [List.length_drop, List.length_take]; rfl)) ?_; (with_reducible refine (bill_Credit.calls k _ _ t308 (wrap64 (a1_1)) t296 t313 t316 t317 _ ?side1 ?side2 A20.out).mono ?_); (case side1 => repeat (first | exact (Kd.N_reads' HO310.out).2.2 | (with_reducible refine Kd.C_alloc ?_ _) | (with_reducible refine Kd.C_drewN ?_ _) | (with_reducible refine Kd.C_drew ?_))); (case side2 => exact (Kd.N_reads' HO310.out).2.1); rintro e w39 ⟨v314, rfl, ho0, hb⟩; refine ⟨_, rfl, ?_⟩; have n0_ := Aside0.mk (Kd.N_elder' (by (with_reducible repeat (first | apply Kd.N_alloc | apply Kd.N_drewN | apply Kd.N_drew)); exact HO299.out) (by first | exact Kd.N_base ho0 | exact Kd.N_base (Kd.S_N ho0)) hb); have n1_ := Aside0.mk (Kd.N_elder' (by (with_reducible repeat (first | apply Kd.N_alloc | apply Kd.N_drewN | apply Kd.N_drew)); exact HO302.out) (by first | exact Kd.N_base ho0 | exact Kd.N_base (Kd.S_N ho0)) hb); have n2_ := Aside0.mk (Kd.N_elder' (by (with_reducible repeat (first | apply Kd.N_alloc | apply Kd.N_drewN | apply Kd.N_drew)); exact HO307.out) (by first | exact Kd.N_base ho0 | exact Kd.N_base (Kd.S_N ho0)) hb); have n3_ := Aside0.mk (Kd.N_elder' (by (with_reducible repeat (first | apply Kd.N_alloc | apply Kd.N_drewN | apply Kd.N_drew)); exact HO310.out) (by first | exact Kd.N_base ho0 | exact Kd.N_base (Kd.S_N ho0)) hb); have n4_ := Aside0.mk (Kd.N_lower (Kd.N_mono (ok' := fun k_ => some k_ ≠ (.slice Ao30 t297.length co30 : Value).ownBlock ∧ some k_ ≠ (.slice Ao36 t300.length co36 : Value).ownBlock ∧ some k_ ≠ (.slice Ao34 t305.length co34 : Value).ownBlock ∧ some k_ ≠ (.slice Ao38 t308.length co38 : Value).ownBlock ∧ k_ ≠ gb291) ho0 (fun k_ hk_ => ⟨(Kd.fresh' (Kd.N_lt (by (with_reducible repeat (first | apply Kd.N_alloc | apply Kd.N_drewN | apply Kd.N_drew)); exact HO299.out)) k_ hk_), (Kd.fresh' (Kd.N_lt (by (with_reducible repeat (first | apply Kd.N_alloc | apply Kd.N_drewN | apply Kd.N_drew)); exact HO302.out)) k_ hk_), (Kd.fresh' (Kd.N_lt (by (with_reducible repeat (first | apply Kd.N_alloc | apply Kd.N_drewN | apply Kd.N_drew)); exact HO307.out)) k_ hk_), (Kd.fresh' (Kd.N_lt (by (with_reducible repeat (first | apply Kd.N_alloc | apply Kd.N_drewN | apply Kd.N_drew)); exact HO310.out)) k_ hk_), (Kd.freshB (g := gb291) (Up.up BK291.out) k_ hk_)⟩)) (below_size (by repeat (first | (with_reducible first | exact HB.out | apply below_alloc | apply pw_below_drewN | apply below_drew1 | refine below_set ?_ GE291.out) | exact HB.out)))); have n5_ := Aside0.mk (blk_below (g := gb291) (Up.up BK291.out) hb); have n6_ := Aside0.mk (below_step (by repeat (first | (with_reducible first | exact HB.out | apply below_alloc | apply pw_below_drewN | apply below_drew1 | refine below_set ?_ GE291.out) | exact HB.out)) hb); clear HO299; clear HO302; clear HO307; clear HO310; clear BK291; clear HB; have HO299 := n0_; have HO302 := n1_; have HO307 := n2_; have HO310 := n3_; have HO315 := n4_; have BK291 := n5_; have HB := n6_; clear n0_ n1_ n2_ n3_ n4_ n5_ n6_; (try clear hb); (try clear hb2); (try clear hk); (try clear hi); (try clear ho0); obtain ⟨Ao40, co40, eo40⟩ := Kd.N_slice HO315.out; subst eo40) | (go_at_call 13; (with_reducible refine (annuitykeep_Bills.calls k _ _ t300 _ _ t313 true _ ?side1 ?side2 ?side3 ?side4 A22.out).mono ?_); (case side1 => repeat (first | exact (Kd.N_reads' HO302.out).2.2 | (with_reducible refine Kd.C_alloc ?_ _) | (with_reducible refine Kd.C_drewN ?_ _) | (with_reducible refine Kd.C_drew ?_))); (case side2 => exact (Kd.N_reads' HO302.out).2.1); (case side3 => repeat (first | exact (Kd.N_reads' HO315.out).2.2 | (with_reducible refine Kd.C_alloc ?_ _) | (with_reducible refine Kd.C_drewN ?_ _) | (with_reducible refine Kd.C_drew ?_))); (case side4 => exact (Kd.N_reads' HO315.out).2.1); rintro e w41 ⟨rfl, hb⟩; have n0_ := Aside0.mk (Kd.N_below (by (with_reducible repeat (first | apply Kd.N_alloc | apply Kd.N_drewN | apply Kd.N_drew)); exact HO299.out) hb); have n1_ := Aside0.mk (Kd.N_below (by (with_reducible repeat (first | apply Kd.N_alloc | apply Kd.N_drewN | apply Kd.N_drew)); exact HO302.out) hb); have n2_ := Aside0.mk (Kd.N_below (by (with_reducible repeat (first | apply Kd.N_alloc | apply Kd.N_drewN | apply Kd.N_drew)); exact HO307.out) hb); have n3_ := Aside0.mk (Kd.N_below (by (with_reducible repeat (first | apply Kd.N_alloc | apply Kd.N_drewN | apply Kd.N_drew)); exact HO310.out) hb); have n4_ := Aside0.mk (Kd.N_below (by (with_reducible repeat (first | apply Kd.N_alloc | apply Kd.N_drewN | apply Kd.N_drew)); exact HO315.out) hb); have n5_ := Aside0.mk (blk_below (g := gb291) (Up.up BK291.out) hb); have n6_ := Aside0.mk (below_step (by repeat (first | (with_reducible first | exact HB.out | apply below_alloc | apply pw_below_drewN | apply below_drew1 | refine below_set ?_ GE291.out) | exact HB.out)) hb); clear HO299; clear HO302; clear HO307; clear HO310; clear HO315; clear BK291; clear HB; have HO299 := n0_; have HO302 := n1_; have HO307 := n2_; have HO310 := n3_; have HO315 := n4_; have BK291 := n5_; have HB := n6_; clear n0_ n1_ n2_ n3_ n4_ n5_ n6_; (try clear hb); (try clear hb2); (try clear hk); (try clear hi)))
                  go_loopg [17, 18] k (fun kq v17 v18 w' => ∃ (x17_1 : Int) (x18_1 : Int), v17 = .int .i64 x17_1 ∧ v18 = .int .i64 x18_1 ∧ Aside0 (annuitylaw19_BillAll.l0 kq l0 t300 t303 x17_1 x18_1 a1_0 a1_1 = some r) ∧ Aside0 (kq ≤ k) ∧ Aside0 (Kd.N k45 45 w' w.heap.size (fun k_ => k_ ≠ gb291) (.slice Ao36 t300.length co36) t300) ∧ Aside0 (w'.heap[gb291]? = some (.cells #[.int .u32 a1_0, .int .u32 a1_1] 42 (0, 0))) ∧ Aside0 (Below w.heap.size w w'))
                  case atStart => exact ⟨(0), (0), (by first | rfl | (simp; done) | (simp [*]; done)), (by first | rfl | (simp; done) | (simp [*]; done)), H', ⟨Nat.le_refl _⟩, ⟨by (with_reducible repeat (first | apply Kd.N_alloc | apply Kd.N_drewN | apply Kd.N_drew)); exact Kd.N_mono HO302.out (fun _ hk => hk.1.1.1.2)⟩, ⟨by (with_reducible repeat (first | refine blk_drewN ?_ _ | refine blk_drew ?_ | refine blk_alloc ?_ _)); exact BK291.out⟩, ⟨by repeat (first | (with_reducible first | exact HB.out | apply below_alloc | apply pw_below_drewN | apply below_drew1 | refine below_set ?_ GE291.out) | exact HB.out)⟩⟩
                  case round =>
                    clear H'
                    try clear c1
                    try clear c2
                    try clear p2
                    try clear c5
                    try clear p6
                    try clear c8
                    try clear c9
                    try clear c10
                    try clear c11
                    try clear c14
                    try clear c17
                    try clear c17b0
                    try clear c17b1
                    try clear c18
                    try clear c18b0
                    try clear c18b1
                    try clear c19
                    try clear c19b0
                    try clear c19b1
                    try clear c19b2
                    try clear c21
                    try clear c21b0
                    try clear c21b1
                    try clear c23
                    try clear c24
                    try clear c24b0
                    try clear c24b1
                    try clear hcz37_0
                    try clear hcz37_1
                    try clear hfz37_0
                    try clear hfz37_1
                    obtain ⟨x17_1, x18_1, rfl, rfl, HA, HK1, HO_8, BK291, HB⟩ := hrel
                    cases gk with
                    | zero => exact absurd HA.out (by simp [annuitylaw19_BillAll.l0])
                    | succ k1 =>
                      have H := HA.out
                      clear HA
                      simp only [annuitylaw19_BillAll.l0] at H
                      by_cases c42 : x18_1 < (t300.length : Int)
                      · rw [if_pos c42] at H
                        have c42b0 : decide (x18_1 < (t300.length : Int)) = true := decide_eq_true c42
                        clear c42
                        have HC43 := Aside0.mk H
                        clear H
                        go_upto_region 15 with (fail)
                        go_cut [147] (fun v147 wc => ∃ (kq : Nat) (x147_42 : Bool), v147 = .bool x147_42 ∧ Aside0 (annuitylaw19_BillAll.j1 kq l0 t300 t303 x17_1 x18_1 x147_42 a1_0 a1_1 = some r) ∧ Aside0 (kq ≤ k1) ∧ Aside0 (Kd.N k45 45 wc w.heap.size (fun k_ => k_ ≠ gb291) (.slice Ao36 t300.length co36) t300) ∧ Aside0 (wc.heap[gb291]? = some (.cells #[.int .u32 a1_0, .int .u32 a1_1] 42 (0, 0))) ∧ Aside0 (Below w.heap.size w wc))
                        case first =>
                          have H := HC43.out
                          clear HC43
                          by_cases c44 : t303 > 0
                          · rw [if_pos c44] at H
                            have c44b0 : decide (0 < t303) = true := decide_eq_true c44
                            clear c44
                            (first | rw [c44b0] | (simp only [i64_w, i32_w]; rw [c44b0]) | skip)
                            by_cases c45 : 0 ≤ x18_1
                            · rw [if_pos c45] at H
                              have c45b0 : decide (0 ≤ x18_1) = true := decide_eq_true c45
                              clear c45
                              by_cases c46 : ((rd_T45 t300 x18_1).f2) = 0
                              · rw [if_pos c46] at H
                                have c46b0 : (((rd_T45 t300 x18_1).f2) == 0) = true := beq_iff_eq.mpr c46
                                have c46b1 : (((rd_T45 t300 x18_1).f2) != 0) = false := bne_eq_false_iff_eq.mpr c46
                                clear c46
                                by_cases c47 : x18_1 < (l0.length : Int)
                                · rw [if_pos c47] at H
                                  have c47b0 : decide (x18_1 < (l0.length : Int)) = true := decide_eq_true c47
                                  clear c47
                                  by_cases c48 : ((rd_T45 t300 x18_1).f2) > ((rd_T45 l0 x18_1).f2)
                                  · rw [if_pos c48] at H
                                    have c48b0 : decide (((rd_T45 l0 x18_1).f2) < ((rd_T45 t300 x18_1).f2)) = true := decide_eq_true c48
                                    clear c48
                                    have H' := Aside0.mk H
                                    clear H
                                    try go_wp2
                                    have n0_ := Aside0.mk (Kd.N_drew HO_8.out)
                                    have n1_ := Aside0.mk (blk_drew BK291.out)
                                    have n2_ := Aside0.mk (below_drew1 HB.out)
                                    clear HO_8
                                    clear BK291
                                    clear HB
                                    have HO_8 := n0_
                                    have BK291 := n1_
                                    have HB := n2_
                                    clear n0_ n1_ n2_
                                    have p319 : 0 ≤ (x18_1 : Int) := of_decide_eq_true (by first | (with_reducible assumption) | assumption)
                                    have q319 : x18_1 < (t300.length : Int) := of_decide_eq_true (by first | (with_reducible assumption) | assumption)
                                    obtain ⟨ad319, A319_5, c319_5, e319, hx319_0, hx319_1, hx319_2, hx319_3, hx319_4, hx319_5, hl319_5, hi319_5⟩ := at_T45 (Kd.N_reads' HO_8.out).2.2 x18_1 p319 q319
                                    cases e319
                                    obtain ⟨ce319, hce319, hMe319, hcc319⟩ := Kd.N_get HO_8.out z45 x18_1 p319 (by first | exact q319 | exact of_decide_eq_true (by first | (with_reducible assumption) | assumption) | (have e_ := (Kd.N_reads' HO_8.out).1; omega))
                                    obtain ⟨ua319_5, uc319_5, rfl, ul319_5, ge319_5⟩ := k45_openF hMe319
                                    have hv319_5 := hcc319 5 _ rfl
                                    rw [add_field _ _ 5 (by omega)] at hv319_5
                                    replace hv319_5 := Option.some.inj (hv319_5.symm.trans hx319_5)
                                    injection hv319_5 with hva_ hvn_ hvc_
                                    rw [hva_] at ge319_5
                                    rw [hvc_] at ul319_5
                                    have HL319_5 := Aside0.mk (show Kd.V (Kd.int .i64) 3 _ w.heap.size _ _ ((rd_T45 t300 x18_1).f5) from Kd.V_mk ul319_5 ge319_5)
                                    clear hva_ hvn_ hvc_ ge319_5 ul319_5
                                    clear hcc319 hce319
                                    have HR319_5 := Aside0.mk hi319_5
                                    have HC319_5 := Aside0.mk hl319_5
                                    clear hi319_5 hl319_5
                                    replace p319 := eq_true p319
                                    replace q319 := eq_true q319
                                    have p320 : 0 ≤ (x18_1 : Int) := of_decide_eq_true (by first | (with_reducible assumption) | assumption)
                                    have q320 : x18_1 < (t300.length : Int) := of_decide_eq_true (by first | (with_reducible assumption) | assumption)
                                    obtain ⟨ad320, A320_5, c320_5, e320, hx320_0, hx320_1, hx320_2, hx320_3, hx320_4, hx320_5, hl320_5, hi320_5⟩ := at_T45 (Kd.N_reads' HO_8.out).2.2 x18_1 p320 q320
                                    obtain rfl : ad319 = ad320 := (by injection e320)
                                    obtain ⟨ce320, hce320, hMe320, hcc320⟩ := Kd.N_get HO_8.out z45 x18_1 p320 (by first | exact q320 | exact of_decide_eq_true (by first | (with_reducible assumption) | assumption) | (have e_ := (Kd.N_reads' HO_8.out).1; omega))
                                    obtain ⟨ua320_5, uc320_5, rfl, ul320_5, ge320_5⟩ := k45_openF hMe320
                                    have hv320_5 := hcc320 5 _ rfl
                                    rw [add_field _ _ 5 (by omega)] at hv320_5
                                    replace hv320_5 := Option.some.inj (hv320_5.symm.trans hx320_5)
                                    injection hv320_5 with hva_ hvn_ hvc_
                                    rw [hva_] at ge320_5
                                    rw [hvc_] at ul320_5
                                    have HL320_5 := Aside0.mk (show Kd.V (Kd.int .i64) 3 _ w.heap.size _ _ ((rd_T45 t300 x18_1).f5) from Kd.V_mk ul320_5 ge320_5)
                                    clear hva_ hvn_ hvc_ ge320_5 ul320_5
                                    clear hcc320 hce320
                                    have HR320_5 := Aside0.mk hi320_5
                                    have HC320_5 := Aside0.mk hl320_5
                                    clear hi320_5 hl320_5
                                    replace p320 := eq_true p320
                                    replace q320 := eq_true q320
                                    have ea_ := Option.some.inj (hx319_5.symm.trans hx320_5)
                                    injection ea_ with ea_ en_ ec_
                                    subst ea_
                                    subst ec_
                                    clear en_
                                    have p321 : 0 ≤ (x18_1 : Int) := of_decide_eq_true (by first | (with_reducible assumption) | assumption)
                                    have q321 : x18_1 < (l0.length : Int) := of_decide_eq_true (by first | (with_reducible assumption) | assumption)
                                    obtain ⟨ad321, A321_5, c321_5, e321, hx321_0, hx321_1, hx321_2, hx321_3, hx321_4, hx321_5, hl321_5, hi321_5⟩ := at_T45 HR0.out x18_1 p321 q321
                                    have hw321_5 := hx321_5
                                    have hw321_4 := hx321_4
                                    have hw321_3 := hx321_3
                                    have hw321_2 := hx321_2
                                    have hw321_1 := hx321_1
                                    have hw321_0 := hx321_0
                                    cases e321
                                    replace hx321_0 := (HB.out.cell (World.block_lt_of_cell? w _ hx321_0)).trans hx321_0
                                    replace hx321_1 := (HB.out.cell (World.block_lt_of_cell? w _ hx321_1)).trans hx321_1
                                    replace hx321_2 := (HB.out.cell (World.block_lt_of_cell? w _ hx321_2)).trans hx321_2
                                    replace hx321_3 := (HB.out.cell (World.block_lt_of_cell? w _ hx321_3)).trans hx321_3
                                    replace hx321_4 := (HB.out.cell (World.block_lt_of_cell? w _ hx321_4)).trans hx321_4
                                    replace hx321_5 := (HB.out.cell (World.block_lt_of_cell? w _ hx321_5)).trans hx321_5
                                    have HR321_5 := Aside0.mk hi321_5
                                    have HC321_5 := Aside0.mk hl321_5
                                    clear hi321_5 hl321_5
                                    replace p321 := eq_true p321
                                    replace q321 := eq_true q321
                                    refine start_ (n := 49) (S := fun w' => w'.cell? (ad319.add ((x18_1).toNat * 6)) = some (.int .i64 ((rd_T45 t300 x18_1).f0)) ∧ w'.cell? ⟨(ad319.add ((x18_1).toNat * 6)).block, (ad319.add ((x18_1).toNat * 6)).off + 1, none⟩ = some (.int .i64 ((rd_T45 t300 x18_1).f1)) ∧ w'.cell? ⟨(ad319.add ((x18_1).toNat * 6)).block, (ad319.add ((x18_1).toNat * 6)).off + 2, none⟩ = some (.int .i64 ((rd_T45 t300 x18_1).f2)) ∧ w'.cell? ⟨(ad319.add ((x18_1).toNat * 6)).block, (ad319.add ((x18_1).toNat * 6)).off + 3, none⟩ = some (.int .i64 ((rd_T45 t300 x18_1).f3)) ∧ w'.cell? ⟨(ad319.add ((x18_1).toNat * 6)).block, (ad319.add ((x18_1).toNat * 6)).off + 4, none⟩ = some (.int .i64 ((rd_T45 t300 x18_1).f4)) ∧ w'.cell? ⟨(ad319.add ((x18_1).toNat * 6)).block, (ad319.add ((x18_1).toNat * 6)).off + 5, none⟩ = some (.slice A319_5 ((rd_T45 t300 x18_1).f5).length c319_5) ∧ w'.cell? (ad319.add ((x18_1).toNat * 6)) = some (.int .i64 ((rd_T45 t300 x18_1).f0)) ∧ w'.cell? ⟨(ad319.add ((x18_1).toNat * 6)).block, (ad319.add ((x18_1).toNat * 6)).off + 1, none⟩ = some (.int .i64 ((rd_T45 t300 x18_1).f1)) ∧ w'.cell? ⟨(ad319.add ((x18_1).toNat * 6)).block, (ad319.add ((x18_1).toNat * 6)).off + 2, none⟩ = some (.int .i64 ((rd_T45 t300 x18_1).f2)) ∧ w'.cell? ⟨(ad319.add ((x18_1).toNat * 6)).block, (ad319.add ((x18_1).toNat * 6)).off + 3, none⟩ = some (.int .i64 ((rd_T45 t300 x18_1).f3)) ∧ w'.cell? ⟨(ad319.add ((x18_1).toNat * 6)).block, (ad319.add ((x18_1).toNat * 6)).off + 4, none⟩ = some (.int .i64 ((rd_T45 t300 x18_1).f4)) ∧ w'.cell? ⟨(ad319.add ((x18_1).toNat * 6)).block, (ad319.add ((x18_1).toNat * 6)).off + 5, none⟩ = some (.slice A319_5 ((rd_T45 t300 x18_1).f5).length c319_5) ∧ w'.cell? (ad321.add ((x18_1).toNat * 6)) = some (.int .i64 ((rd_T45 l0 x18_1).f0)) ∧ w'.cell? ⟨(ad321.add ((x18_1).toNat * 6)).block, (ad321.add ((x18_1).toNat * 6)).off + 1, none⟩ = some (.int .i64 ((rd_T45 l0 x18_1).f1)) ∧ w'.cell? ⟨(ad321.add ((x18_1).toNat * 6)).block, (ad321.add ((x18_1).toNat * 6)).off + 2, none⟩ = some (.int .i64 ((rd_T45 l0 x18_1).f2)) ∧ w'.cell? ⟨(ad321.add ((x18_1).toNat * 6)).block, (ad321.add ((x18_1).toNat * 6)).off + 3, none⟩ = some (.int .i64 ((rd_T45 l0 x18_1).f3)) ∧ w'.cell? ⟨(ad321.add ((x18_1).toNat * 6)).block, (ad321.add ((x18_1).toNat * 6)).off + 4, none⟩ = some (.int .i64 ((rd_T45 l0 x18_1).f4)) ∧ w'.cell? ⟨(ad321.add ((x18_1).toNat * 6)).block, (ad321.add ((x18_1).toNat * 6)).off + 5, none⟩ = some (.slice A321_5 ((rd_T45 l0 x18_1).f5).length c321_5)) (ds := []) (annuitylaw19_BillAll.fl 49 0) (by kernel_rfl) rfl rfl ⟨hx319_0, hx319_1, hx319_2, hx319_3, hx319_4, hx319_5, hx320_0, hx320_1, hx320_2, hx320_3, hx320_4, hx320_5, ((HB.out.cell (World.block_lt_of_cell? w _ hw321_0)).trans hw321_0), ((HB.out.cell (World.block_lt_of_cell? w _ hw321_1)).trans hw321_1), ((HB.out.cell (World.block_lt_of_cell? w _ hw321_2)).trans hw321_2), ((HB.out.cell (World.block_lt_of_cell? w _ hw321_3)).trans hw321_3), ((HB.out.cell (World.block_lt_of_cell? w _ hw321_4)).trans hw321_4), ((HB.out.cell (World.block_lt_of_cell? w _ hw321_5)).trans hw321_5)⟩ (fun hHeld => ?_); refine with_tabW annuitylaw19_BillAll.tab15 annuitylaw19_BillAll.bits15 (fun HT_ HW_ => ?_)
                                    generalize wr.drew = w49 at HO_8 BK291 HB HL319_5 HL320_5 HR319_5 HR320_5 HR321_5 hx319_0 hx319_1 hx319_2 hx319_3 hx319_4 hx319_5 hx320_0 hx320_1 hx320_2 hx320_3 hx320_4 hx320_5 hx321_0 hx321_1 hx321_2 hx321_3 hx321_4 hx321_5 hHeld ⊢
                                    refine annuitylaw19_BillAll.y 0 99 49 1 HT_.out ?_
                                    refine annuitylaw19_BillAll.y 1 100 49 3 HT_.out ?_
                                    refine annuitylaw19_BillAll.y 2 101 49 7 HT_.out ?_
                                    refine annuitylaw19_BillAll.y 3 102 49 15 HT_.out ?_
                                    refine annuitylaw19_BillAll.y 4 103 49 31 HT_.out ?_
                                    refine annuitylaw19_BillAll.y 5 104 49 63 HT_.out ?_
                                    refine annuitylaw19_BillAll.y 6 105 49 127 HT_.out ?_
                                    refine annuitylaw19_BillAll.t 7 106 49 255 HT_.out HW_.out hHeld ?_
                                    refine annuitylaw19_BillAll.y 8 107 49 511 HT_.out ?_
                                    refine annuitylaw19_BillAll.y 9 108 49 1023 HT_.out ?_
                                    refine annuitylaw19_BillAll.y 10 109 49 2047 HT_.out ?_
                                    refine annuitylaw19_BillAll.y 11 110 49 4095 HT_.out ?_
                                    refine annuitylaw19_BillAll.y 12 111 49 8191 HT_.out ?_
                                    refine annuitylaw19_BillAll.y 13 112 49 16383 HT_.out ?_
                                    refine annuitylaw19_BillAll.y 14 113 49 32767 HT_.out ?_
                                    refine annuitylaw19_BillAll.y 16 115 49 98303 HT_.out ?_
                                    refine annuitylaw19_BillAll.y 17 116 49 229375 HT_.out ?_
                                    refine annuitylaw19_BillAll.y 18 117 49 491519 HT_.out ?_
                                    refine annuitylaw19_BillAll.y 19 118 49 1015807 HT_.out ?_
                                    refine annuitylaw19_BillAll.t 15 114 49 1048575 HT_.out HW_.out hHeld ?_
                                    refine annuitylaw19_BillAll.t 20 119 49 2097151 HT_.out HW_.out hHeld ?_
                                    refine annuitylaw19_BillAll.y 21 120 49 4194303 HT_.out ?_
                                    refine annuitylaw19_BillAll.y 22 121 49 8388607 HT_.out ?_
                                    refine annuitylaw19_BillAll.y 23 122 49 16777215 HT_.out ?_
                                    refine annuitylaw19_BillAll.g 24 123 49 33554431 HT_.out ?_
                                    refine annuitylaw19_BillAll.g 25 124 49 67108863 HT_.out ?_
                                    refine annuitylaw19_BillAll.g 26 125 49 134217727 HT_.out ?_
                                    refine annuitylaw19_BillAll.g 27 126 49 268435455 HT_.out ?_
                                    refine annuitylaw19_BillAll.g 28 127 49 536870911 HT_.out ?_
                                    refine annuitylaw19_BillAll.g 29 128 49 1073741823 HT_.out ?_
                                    refine annuitylaw19_BillAll.g 30 129 49 2147483647 HT_.out ?_
                                    refine annuitylaw19_BillAll.g 31 130 49 4294967295 HT_.out ?_
                                    refine annuitylaw19_BillAll.g 32 131 49 8589934591 HT_.out ?_
                                    refine annuitylaw19_BillAll.g 33 132 49 17179869183 HT_.out ?_
                                    refine annuitylaw19_BillAll.g 34 133 49 34359738367 HT_.out ?_
                                    refine annuitylaw19_BillAll.g 35 134 49 68719476735 HT_.out ?_
                                    refine annuitylaw19_BillAll.g 36 135 49 137438953471 HT_.out ?_
                                    refine annuitylaw19_BillAll.g 37 136 49 274877906943 HT_.out ?_
                                    refine annuitylaw19_BillAll.g 38 137 49 549755813887 HT_.out ?_
                                    refine annuitylaw19_BillAll.g 39 138 49 1099511627775 HT_.out ?_
                                    refine annuitylaw19_BillAll.g 40 139 49 2199023255551 HT_.out ?_
                                    refine annuitylaw19_BillAll.g 41 140 49 4398046511103 HT_.out ?_
                                    refine annuitylaw19_BillAll.g 42 141 49 8796093022207 HT_.out ?_
                                    refine annuitylaw19_BillAll.g 43 142 49 17592186044415 HT_.out ?_
                                    refine annuitylaw19_BillAll.g 44 143 49 35184372088831 HT_.out ?_
                                    refine annuitylaw19_BillAll.g 45 144 49 70368744177663 HT_.out ?_
                                    refine annuitylaw19_BillAll.g 46 145 49 140737488355327 HT_.out ?_
                                    refine annuitylaw19_BillAll.g 47 146 49 281474976710655 HT_.out ?_
                                    refine annuitylaw19_BillAll.y 48 147 49 562949953421311 HT_.out ?_
                                    refine done_ (done_of HT_.out (by kernel_rfl)) ?_
                                    try go_wp2
                                    go_meet
                                    case rel => exact ⟨_, (true), (by first | rfl | (simp; done) | (simp [*]; done)), H', ⟨by have := HK1.out; first | omega | exact Nat.le_refl _⟩, ⟨by (with_reducible repeat (first | apply Kd.N_alloc | apply Kd.N_drewN | apply Kd.N_drew)); exact HO_8.out⟩, ⟨by (with_reducible repeat (first | refine blk_drewN ?_ _ | refine blk_drew ?_ | refine blk_alloc ?_ _)); exact BK291.out⟩, ⟨by repeat (first | (with_reducible first | exact HB.out | apply below_alloc | apply pw_below_drewN | apply below_drew1 | refine below_set ?_ GE291.out) | exact HB.out)⟩⟩
                                  · rw [if_neg c48] at H
                                    have c48b0 : decide (((rd_T45 l0 x18_1).f2) < ((rd_T45 t300 x18_1).f2)) = false := decide_eq_false c48
                                    clear c48
                                    by_cases c50 : x18_1 > 0
                                    · rw [if_pos c50] at H
                                      have c50b0 : decide (0 < x18_1) = true := decide_eq_true c50
                                      clear c50
                                      obtain ⟨ji51, hji51⟩ : ∃ j_ : Int, (wrap64 (x18_1 - 1)) = j_ := ⟨_, rfl⟩
                                      replace H : (if 0 ≤ (ji51) then (if (ji51) < (t300.length : Int) then (if ((rd_T45 t300 (ji51)).f2) > 0 then (annuitylaw19_BillAll.j1 k1 l0 t300 t303 x17_1 x18_1 (((rd_T45 t300 x18_1).f2) != ((rd_T45 l0 x18_1).f2)) a1_0 a1_1) else (annuitylaw19_BillAll.j1 k1 l0 t300 t303 x17_1 x18_1 false a1_0 a1_1)) else (none)) else (none)) = some r := by first | (rw [hji51] at H; exact H) | (simp only [hji51] at H ⊢; exact H)
                                      have hji51w : (IntKind.i64.wrap (x18_1 - 1)) = ji51 := (i64_w _).trans hji51
                                      by_cases c52 : 0 ≤ (ji51)
                                      · rw [if_pos c52] at H
                                        have c52b0 : decide (0 ≤ (ji51)) = true := decide_eq_true c52
                                        clear c52
                                        by_cases c53 : (ji51) < (t300.length : Int)
                                        · rw [if_pos c53] at H
                                          have c53b0 : decide ((ji51) < (t300.length : Int)) = true := decide_eq_true c53
                                          clear c53
                                          by_cases c54 : ((rd_T45 t300 (ji51)).f2) > 0
                                          · rw [if_pos c54] at H
                                            have c54b0 : decide (0 < ((rd_T45 t300 (ji51)).f2)) = true := decide_eq_true c54
                                            clear c54
                                            have H' := Aside0.mk H
                                            clear H
                                            try go_wp2
                                            have n0_ := Aside0.mk (Kd.N_drew HO_8.out)
                                            have n1_ := Aside0.mk (blk_drew BK291.out)
                                            have n2_ := Aside0.mk (below_drew1 HB.out)
                                            clear HO_8
                                            clear BK291
                                            clear HB
                                            have HO_8 := n0_
                                            have BK291 := n1_
                                            have HB := n2_
                                            clear n0_ n1_ n2_
                                            have p319 : 0 ≤ (x18_1 : Int) := of_decide_eq_true (by first | (with_reducible assumption) | assumption)
                                            have q319 : x18_1 < (t300.length : Int) := of_decide_eq_true (by first | (with_reducible assumption) | assumption)
                                            obtain ⟨ad319, A319_5, c319_5, e319, hx319_0, hx319_1, hx319_2, hx319_3, hx319_4, hx319_5, hl319_5, hi319_5⟩ := at_T45 (Kd.N_reads' HO_8.out).2.2 x18_1 p319 q319
                                            cases e319
                                            obtain ⟨ce319, hce319, hMe319, hcc319⟩ := Kd.N_get HO_8.out z45 x18_1 p319 (by first | exact q319 | exact of_decide_eq_true (by first | (with_reducible assumption) | assumption) | (have e_ := (Kd.N_reads' HO_8.out).1; omega))
                                            obtain ⟨ua319_5, uc319_5, rfl, ul319_5, ge319_5⟩ := k45_openF hMe319
                                            have hv319_5 := hcc319 5 _ rfl
                                            rw [add_field _ _ 5 (by omega)] at hv319_5
                                            replace hv319_5 := Option.some.inj (hv319_5.symm.trans hx319_5)
                                            injection hv319_5 with hva_ hvn_ hvc_
                                            rw [hva_] at ge319_5
                                            rw [hvc_] at ul319_5
                                            have HL319_5 := Aside0.mk (show Kd.V (Kd.int .i64) 3 _ w.heap.size _ _ ((rd_T45 t300 x18_1).f5) from Kd.V_mk ul319_5 ge319_5)
                                            clear hva_ hvn_ hvc_ ge319_5 ul319_5
                                            clear hcc319 hce319
                                            have HR319_5 := Aside0.mk hi319_5
                                            have HC319_5 := Aside0.mk hl319_5
                                            clear hi319_5 hl319_5
                                            replace p319 := eq_true p319
                                            replace q319 := eq_true q319
                                            have p320 : 0 ≤ (x18_1 : Int) := of_decide_eq_true (by first | (with_reducible assumption) | assumption)
                                            have q320 : x18_1 < (t300.length : Int) := of_decide_eq_true (by first | (with_reducible assumption) | assumption)
                                            obtain ⟨ad320, A320_5, c320_5, e320, hx320_0, hx320_1, hx320_2, hx320_3, hx320_4, hx320_5, hl320_5, hi320_5⟩ := at_T45 (Kd.N_reads' HO_8.out).2.2 x18_1 p320 q320
                                            obtain rfl : ad319 = ad320 := (by injection e320)
                                            obtain ⟨ce320, hce320, hMe320, hcc320⟩ := Kd.N_get HO_8.out z45 x18_1 p320 (by first | exact q320 | exact of_decide_eq_true (by first | (with_reducible assumption) | assumption) | (have e_ := (Kd.N_reads' HO_8.out).1; omega))
                                            obtain ⟨ua320_5, uc320_5, rfl, ul320_5, ge320_5⟩ := k45_openF hMe320
                                            have hv320_5 := hcc320 5 _ rfl
                                            rw [add_field _ _ 5 (by omega)] at hv320_5
                                            replace hv320_5 := Option.some.inj (hv320_5.symm.trans hx320_5)
                                            injection hv320_5 with hva_ hvn_ hvc_
                                            rw [hva_] at ge320_5
                                            rw [hvc_] at ul320_5
                                            have HL320_5 := Aside0.mk (show Kd.V (Kd.int .i64) 3 _ w.heap.size _ _ ((rd_T45 t300 x18_1).f5) from Kd.V_mk ul320_5 ge320_5)
                                            clear hva_ hvn_ hvc_ ge320_5 ul320_5
                                            clear hcc320 hce320
                                            have HR320_5 := Aside0.mk hi320_5
                                            have HC320_5 := Aside0.mk hl320_5
                                            clear hi320_5 hl320_5
                                            replace p320 := eq_true p320
                                            replace q320 := eq_true q320
                                            have ea_ := Option.some.inj (hx319_5.symm.trans hx320_5)
                                            injection ea_ with ea_ en_ ec_
                                            subst ea_
                                            subst ec_
                                            clear en_
                                            have p321 : 0 ≤ (x18_1 : Int) := of_decide_eq_true (by first | (with_reducible assumption) | assumption)
                                            have q321 : x18_1 < (l0.length : Int) := of_decide_eq_true (by first | (with_reducible assumption) | assumption)
                                            obtain ⟨ad321, A321_5, c321_5, e321, hx321_0, hx321_1, hx321_2, hx321_3, hx321_4, hx321_5, hl321_5, hi321_5⟩ := at_T45 HR0.out x18_1 p321 q321
                                            have hw321_5 := hx321_5
                                            have hw321_4 := hx321_4
                                            have hw321_3 := hx321_3
                                            have hw321_2 := hx321_2
                                            have hw321_1 := hx321_1
                                            have hw321_0 := hx321_0
                                            cases e321
                                            replace hx321_0 := (HB.out.cell (World.block_lt_of_cell? w _ hx321_0)).trans hx321_0
                                            replace hx321_1 := (HB.out.cell (World.block_lt_of_cell? w _ hx321_1)).trans hx321_1
                                            replace hx321_2 := (HB.out.cell (World.block_lt_of_cell? w _ hx321_2)).trans hx321_2
                                            replace hx321_3 := (HB.out.cell (World.block_lt_of_cell? w _ hx321_3)).trans hx321_3
                                            replace hx321_4 := (HB.out.cell (World.block_lt_of_cell? w _ hx321_4)).trans hx321_4
                                            replace hx321_5 := (HB.out.cell (World.block_lt_of_cell? w _ hx321_5)).trans hx321_5
                                            have HR321_5 := Aside0.mk hi321_5
                                            have HC321_5 := Aside0.mk hl321_5
                                            clear hi321_5 hl321_5
                                            replace p321 := eq_true p321
                                            replace q321 := eq_true q321
                                            have p322 : 0 ≤ ((ji51) : Int) := of_decide_eq_true (by first | (with_reducible assumption) | assumption)
                                            have q322 : (ji51) < (t300.length : Int) := of_decide_eq_true (by first | (with_reducible assumption) | assumption)
                                            obtain ⟨ad322, A322_5, c322_5, e322, hx322_0, hx322_1, hx322_2, hx322_3, hx322_4, hx322_5, hl322_5, hi322_5⟩ := at_T45 (Kd.N_reads' HO_8.out).2.2 (ji51) p322 q322
                                            obtain rfl : ad319 = ad322 := (by injection e322)
                                            obtain ⟨ce322, hce322, hMe322, hcc322⟩ := Kd.N_get HO_8.out z45 (ji51) p322 (by first | exact q322 | exact of_decide_eq_true (by first | (with_reducible assumption) | assumption) | (have e_ := (Kd.N_reads' HO_8.out).1; omega))
                                            obtain ⟨ua322_5, uc322_5, rfl, ul322_5, ge322_5⟩ := k45_openF hMe322
                                            have hv322_5 := hcc322 5 _ rfl
                                            rw [add_field _ _ 5 (by omega)] at hv322_5
                                            replace hv322_5 := Option.some.inj (hv322_5.symm.trans hx322_5)
                                            injection hv322_5 with hva_ hvn_ hvc_
                                            rw [hva_] at ge322_5
                                            rw [hvc_] at ul322_5
                                            have HL322_5 := Aside0.mk (show Kd.V (Kd.int .i64) 3 _ w.heap.size _ _ ((rd_T45 t300 (ji51)).f5) from Kd.V_mk ul322_5 ge322_5)
                                            clear hva_ hvn_ hvc_ ge322_5 ul322_5
                                            clear hcc322 hce322
                                            have HR322_5 := Aside0.mk hi322_5
                                            have HC322_5 := Aside0.mk hl322_5
                                            clear hi322_5 hl322_5
                                            replace p322 := eq_true p322
                                            replace q322 := eq_true q322
                                            have p323 : 0 ≤ (x18_1 : Int) := of_decide_eq_true (by first | (with_reducible assumption) | assumption)
                                            have q323 : x18_1 < (t300.length : Int) := of_decide_eq_true (by first | (with_reducible assumption) | assumption)
                                            obtain ⟨ad323, A323_5, c323_5, e323, hx323_0, hx323_1, hx323_2, hx323_3, hx323_4, hx323_5, hl323_5, hi323_5⟩ := at_T45 (Kd.N_reads' HO_8.out).2.2 x18_1 p323 q323
                                            obtain rfl : ad319 = ad323 := (by injection e323)
                                            obtain ⟨ce323, hce323, hMe323, hcc323⟩ := Kd.N_get HO_8.out z45 x18_1 p323 (by first | exact q323 | exact of_decide_eq_true (by first | (with_reducible assumption) | assumption) | (have e_ := (Kd.N_reads' HO_8.out).1; omega))
                                            obtain ⟨ua323_5, uc323_5, rfl, ul323_5, ge323_5⟩ := k45_openF hMe323
                                            have hv323_5 := hcc323 5 _ rfl
                                            rw [add_field _ _ 5 (by omega)] at hv323_5
                                            replace hv323_5 := Option.some.inj (hv323_5.symm.trans hx323_5)
                                            injection hv323_5 with hva_ hvn_ hvc_
                                            rw [hva_] at ge323_5
                                            rw [hvc_] at ul323_5
                                            have HL323_5 := Aside0.mk (show Kd.V (Kd.int .i64) 3 _ w.heap.size _ _ ((rd_T45 t300 x18_1).f5) from Kd.V_mk ul323_5 ge323_5)
                                            clear hva_ hvn_ hvc_ ge323_5 ul323_5
                                            clear hcc323 hce323
                                            have HR323_5 := Aside0.mk hi323_5
                                            have HC323_5 := Aside0.mk hl323_5
                                            clear hi323_5 hl323_5
                                            replace p323 := eq_true p323
                                            replace q323 := eq_true q323
                                            have ea_ := Option.some.inj (hx319_5.symm.trans hx323_5)
                                            injection ea_ with ea_ en_ ec_
                                            subst ea_
                                            subst ec_
                                            clear en_
                                            have p324 : 0 ≤ (x18_1 : Int) := of_decide_eq_true (by first | (with_reducible assumption) | assumption)
                                            have q324 : x18_1 < (l0.length : Int) := of_decide_eq_true (by first | (with_reducible assumption) | assumption)
                                            obtain ⟨ad324, A324_5, c324_5, e324, hx324_0, hx324_1, hx324_2, hx324_3, hx324_4, hx324_5, hl324_5, hi324_5⟩ := at_T45 HR0.out x18_1 p324 q324
                                            have hw324_5 := hx324_5
                                            have hw324_4 := hx324_4
                                            have hw324_3 := hx324_3
                                            have hw324_2 := hx324_2
                                            have hw324_1 := hx324_1
                                            have hw324_0 := hx324_0
                                            obtain rfl : ad321 = ad324 := (by injection e324)
                                            replace hx324_0 := (HB.out.cell (World.block_lt_of_cell? w _ hx324_0)).trans hx324_0
                                            replace hx324_1 := (HB.out.cell (World.block_lt_of_cell? w _ hx324_1)).trans hx324_1
                                            replace hx324_2 := (HB.out.cell (World.block_lt_of_cell? w _ hx324_2)).trans hx324_2
                                            replace hx324_3 := (HB.out.cell (World.block_lt_of_cell? w _ hx324_3)).trans hx324_3
                                            replace hx324_4 := (HB.out.cell (World.block_lt_of_cell? w _ hx324_4)).trans hx324_4
                                            replace hx324_5 := (HB.out.cell (World.block_lt_of_cell? w _ hx324_5)).trans hx324_5
                                            have HR324_5 := Aside0.mk hi324_5
                                            have HC324_5 := Aside0.mk hl324_5
                                            clear hi324_5 hl324_5
                                            replace p324 := eq_true p324
                                            replace q324 := eq_true q324
                                            have ea_ := Option.some.inj (hx321_5.symm.trans hx324_5)
                                            injection ea_ with ea_ en_ ec_
                                            subst ea_
                                            subst ec_
                                            clear en_
                                            refine start_ (n := 49) (S := fun w' => w'.cell? (ad319.add ((x18_1).toNat * 6)) = some (.int .i64 ((rd_T45 t300 x18_1).f0)) ∧ w'.cell? ⟨(ad319.add ((x18_1).toNat * 6)).block, (ad319.add ((x18_1).toNat * 6)).off + 1, none⟩ = some (.int .i64 ((rd_T45 t300 x18_1).f1)) ∧ w'.cell? ⟨(ad319.add ((x18_1).toNat * 6)).block, (ad319.add ((x18_1).toNat * 6)).off + 2, none⟩ = some (.int .i64 ((rd_T45 t300 x18_1).f2)) ∧ w'.cell? ⟨(ad319.add ((x18_1).toNat * 6)).block, (ad319.add ((x18_1).toNat * 6)).off + 3, none⟩ = some (.int .i64 ((rd_T45 t300 x18_1).f3)) ∧ w'.cell? ⟨(ad319.add ((x18_1).toNat * 6)).block, (ad319.add ((x18_1).toNat * 6)).off + 4, none⟩ = some (.int .i64 ((rd_T45 t300 x18_1).f4)) ∧ w'.cell? ⟨(ad319.add ((x18_1).toNat * 6)).block, (ad319.add ((x18_1).toNat * 6)).off + 5, none⟩ = some (.slice A319_5 ((rd_T45 t300 x18_1).f5).length c319_5) ∧ w'.cell? (ad319.add ((x18_1).toNat * 6)) = some (.int .i64 ((rd_T45 t300 x18_1).f0)) ∧ w'.cell? ⟨(ad319.add ((x18_1).toNat * 6)).block, (ad319.add ((x18_1).toNat * 6)).off + 1, none⟩ = some (.int .i64 ((rd_T45 t300 x18_1).f1)) ∧ w'.cell? ⟨(ad319.add ((x18_1).toNat * 6)).block, (ad319.add ((x18_1).toNat * 6)).off + 2, none⟩ = some (.int .i64 ((rd_T45 t300 x18_1).f2)) ∧ w'.cell? ⟨(ad319.add ((x18_1).toNat * 6)).block, (ad319.add ((x18_1).toNat * 6)).off + 3, none⟩ = some (.int .i64 ((rd_T45 t300 x18_1).f3)) ∧ w'.cell? ⟨(ad319.add ((x18_1).toNat * 6)).block, (ad319.add ((x18_1).toNat * 6)).off + 4, none⟩ = some (.int .i64 ((rd_T45 t300 x18_1).f4)) ∧ w'.cell? ⟨(ad319.add ((x18_1).toNat * 6)).block, (ad319.add ((x18_1).toNat * 6)).off + 5, none⟩ = some (.slice A319_5 ((rd_T45 t300 x18_1).f5).length c319_5) ∧ w'.cell? (ad321.add ((x18_1).toNat * 6)) = some (.int .i64 ((rd_T45 l0 x18_1).f0)) ∧ w'.cell? ⟨(ad321.add ((x18_1).toNat * 6)).block, (ad321.add ((x18_1).toNat * 6)).off + 1, none⟩ = some (.int .i64 ((rd_T45 l0 x18_1).f1)) ∧ w'.cell? ⟨(ad321.add ((x18_1).toNat * 6)).block, (ad321.add ((x18_1).toNat * 6)).off + 2, none⟩ = some (.int .i64 ((rd_T45 l0 x18_1).f2)) ∧ w'.cell? ⟨(ad321.add ((x18_1).toNat * 6)).block, (ad321.add ((x18_1).toNat * 6)).off + 3, none⟩ = some (.int .i64 ((rd_T45 l0 x18_1).f3)) ∧ w'.cell? ⟨(ad321.add ((x18_1).toNat * 6)).block, (ad321.add ((x18_1).toNat * 6)).off + 4, none⟩ = some (.int .i64 ((rd_T45 l0 x18_1).f4)) ∧ w'.cell? ⟨(ad321.add ((x18_1).toNat * 6)).block, (ad321.add ((x18_1).toNat * 6)).off + 5, none⟩ = some (.slice A321_5 ((rd_T45 l0 x18_1).f5).length c321_5) ∧ w'.cell? (ad319.add (((ji51)).toNat * 6)) = some (.int .i64 ((rd_T45 t300 (ji51)).f0)) ∧ w'.cell? ⟨(ad319.add (((ji51)).toNat * 6)).block, (ad319.add (((ji51)).toNat * 6)).off + 1, none⟩ = some (.int .i64 ((rd_T45 t300 (ji51)).f1)) ∧ w'.cell? ⟨(ad319.add (((ji51)).toNat * 6)).block, (ad319.add (((ji51)).toNat * 6)).off + 2, none⟩ = some (.int .i64 ((rd_T45 t300 (ji51)).f2)) ∧ w'.cell? ⟨(ad319.add (((ji51)).toNat * 6)).block, (ad319.add (((ji51)).toNat * 6)).off + 3, none⟩ = some (.int .i64 ((rd_T45 t300 (ji51)).f3)) ∧ w'.cell? ⟨(ad319.add (((ji51)).toNat * 6)).block, (ad319.add (((ji51)).toNat * 6)).off + 4, none⟩ = some (.int .i64 ((rd_T45 t300 (ji51)).f4)) ∧ w'.cell? ⟨(ad319.add (((ji51)).toNat * 6)).block, (ad319.add (((ji51)).toNat * 6)).off + 5, none⟩ = some (.slice A322_5 ((rd_T45 t300 (ji51)).f5).length c322_5) ∧ w'.cell? (ad319.add ((x18_1).toNat * 6)) = some (.int .i64 ((rd_T45 t300 x18_1).f0)) ∧ w'.cell? ⟨(ad319.add ((x18_1).toNat * 6)).block, (ad319.add ((x18_1).toNat * 6)).off + 1, none⟩ = some (.int .i64 ((rd_T45 t300 x18_1).f1)) ∧ w'.cell? ⟨(ad319.add ((x18_1).toNat * 6)).block, (ad319.add ((x18_1).toNat * 6)).off + 2, none⟩ = some (.int .i64 ((rd_T45 t300 x18_1).f2)) ∧ w'.cell? ⟨(ad319.add ((x18_1).toNat * 6)).block, (ad319.add ((x18_1).toNat * 6)).off + 3, none⟩ = some (.int .i64 ((rd_T45 t300 x18_1).f3)) ∧ w'.cell? ⟨(ad319.add ((x18_1).toNat * 6)).block, (ad319.add ((x18_1).toNat * 6)).off + 4, none⟩ = some (.int .i64 ((rd_T45 t300 x18_1).f4)) ∧ w'.cell? ⟨(ad319.add ((x18_1).toNat * 6)).block, (ad319.add ((x18_1).toNat * 6)).off + 5, none⟩ = some (.slice A319_5 ((rd_T45 t300 x18_1).f5).length c319_5) ∧ w'.cell? (ad321.add ((x18_1).toNat * 6)) = some (.int .i64 ((rd_T45 l0 x18_1).f0)) ∧ w'.cell? ⟨(ad321.add ((x18_1).toNat * 6)).block, (ad321.add ((x18_1).toNat * 6)).off + 1, none⟩ = some (.int .i64 ((rd_T45 l0 x18_1).f1)) ∧ w'.cell? ⟨(ad321.add ((x18_1).toNat * 6)).block, (ad321.add ((x18_1).toNat * 6)).off + 2, none⟩ = some (.int .i64 ((rd_T45 l0 x18_1).f2)) ∧ w'.cell? ⟨(ad321.add ((x18_1).toNat * 6)).block, (ad321.add ((x18_1).toNat * 6)).off + 3, none⟩ = some (.int .i64 ((rd_T45 l0 x18_1).f3)) ∧ w'.cell? ⟨(ad321.add ((x18_1).toNat * 6)).block, (ad321.add ((x18_1).toNat * 6)).off + 4, none⟩ = some (.int .i64 ((rd_T45 l0 x18_1).f4)) ∧ w'.cell? ⟨(ad321.add ((x18_1).toNat * 6)).block, (ad321.add ((x18_1).toNat * 6)).off + 5, none⟩ = some (.slice A321_5 ((rd_T45 l0 x18_1).f5).length c321_5)) (ds := []) (annuitylaw19_BillAll.fl 49 0) (by kernel_rfl) rfl rfl ⟨hx319_0, hx319_1, hx319_2, hx319_3, hx319_4, hx319_5, hx320_0, hx320_1, hx320_2, hx320_3, hx320_4, hx320_5, ((HB.out.cell (World.block_lt_of_cell? w _ hw321_0)).trans hw321_0), ((HB.out.cell (World.block_lt_of_cell? w _ hw321_1)).trans hw321_1), ((HB.out.cell (World.block_lt_of_cell? w _ hw321_2)).trans hw321_2), ((HB.out.cell (World.block_lt_of_cell? w _ hw321_3)).trans hw321_3), ((HB.out.cell (World.block_lt_of_cell? w _ hw321_4)).trans hw321_4), ((HB.out.cell (World.block_lt_of_cell? w _ hw321_5)).trans hw321_5), hx322_0, hx322_1, hx322_2, hx322_3, hx322_4, hx322_5, hx323_0, hx323_1, hx323_2, hx323_3, hx323_4, hx323_5, ((HB.out.cell (World.block_lt_of_cell? w _ hw324_0)).trans hw324_0), ((HB.out.cell (World.block_lt_of_cell? w _ hw324_1)).trans hw324_1), ((HB.out.cell (World.block_lt_of_cell? w _ hw324_2)).trans hw324_2), ((HB.out.cell (World.block_lt_of_cell? w _ hw324_3)).trans hw324_3), ((HB.out.cell (World.block_lt_of_cell? w _ hw324_4)).trans hw324_4), ((HB.out.cell (World.block_lt_of_cell? w _ hw324_5)).trans hw324_5)⟩ (fun hHeld => ?_); refine with_tabW annuitylaw19_BillAll.tab15 annuitylaw19_BillAll.bits15 (fun HT_ HW_ => ?_)
                                            generalize wr.drew = w55 at HO_8 BK291 HB HL319_5 HL320_5 HL322_5 HL323_5 HR319_5 HR320_5 HR321_5 HR322_5 HR323_5 HR324_5 hx319_0 hx319_1 hx319_2 hx319_3 hx319_4 hx319_5 hx320_0 hx320_1 hx320_2 hx320_3 hx320_4 hx320_5 hx321_0 hx321_1 hx321_2 hx321_3 hx321_4 hx321_5 hx322_0 hx322_1 hx322_2 hx322_3 hx322_4 hx322_5 hx323_0 hx323_1 hx323_2 hx323_3 hx323_4 hx323_5 hx324_0 hx324_1 hx324_2 hx324_3 hx324_4 hx324_5 hHeld ⊢
                                            refine annuitylaw19_BillAll.y 0 99 49 1 HT_.out ?_
                                            refine annuitylaw19_BillAll.y 1 100 49 3 HT_.out ?_
                                            refine annuitylaw19_BillAll.y 2 101 49 7 HT_.out ?_
                                            refine annuitylaw19_BillAll.y 3 102 49 15 HT_.out ?_
                                            refine annuitylaw19_BillAll.y 4 103 49 31 HT_.out ?_
                                            refine annuitylaw19_BillAll.y 5 104 49 63 HT_.out ?_
                                            refine annuitylaw19_BillAll.y 6 105 49 127 HT_.out ?_
                                            refine annuitylaw19_BillAll.t 7 106 49 255 HT_.out HW_.out hHeld ?_
                                            refine annuitylaw19_BillAll.y 8 107 49 511 HT_.out ?_
                                            refine annuitylaw19_BillAll.y 9 108 49 1023 HT_.out ?_
                                            refine annuitylaw19_BillAll.y 10 109 49 2047 HT_.out ?_
                                            refine annuitylaw19_BillAll.y 11 110 49 4095 HT_.out ?_
                                            refine annuitylaw19_BillAll.y 12 111 49 8191 HT_.out ?_
                                            refine annuitylaw19_BillAll.y 13 112 49 16383 HT_.out ?_
                                            refine annuitylaw19_BillAll.y 14 113 49 32767 HT_.out ?_
                                            refine annuitylaw19_BillAll.y 16 115 49 98303 HT_.out ?_
                                            refine annuitylaw19_BillAll.y 17 116 49 229375 HT_.out ?_
                                            refine annuitylaw19_BillAll.y 18 117 49 491519 HT_.out ?_
                                            refine annuitylaw19_BillAll.y 19 118 49 1015807 HT_.out ?_
                                            refine annuitylaw19_BillAll.t 15 114 49 1048575 HT_.out HW_.out hHeld ?_
                                            refine annuitylaw19_BillAll.t 20 119 49 2097151 HT_.out HW_.out hHeld ?_
                                            refine annuitylaw19_BillAll.y 21 120 49 4194303 HT_.out ?_
                                            refine annuitylaw19_BillAll.y 22 121 49 8388607 HT_.out ?_
                                            refine annuitylaw19_BillAll.y 23 122 49 16777215 HT_.out ?_
                                            refine annuitylaw19_BillAll.y 24 123 49 33554431 HT_.out ?_
                                            refine annuitylaw19_BillAll.y 25 124 49 67108863 HT_.out ?_
                                            refine annuitylaw19_BillAll.y 26 125 49 134217727 HT_.out ?_
                                            refine annuitylaw19_BillAll.y 27 126 49 268435455 HT_.out ?_
                                            refine annuitylaw19_BillAll.y 28 127 49 536870911 HT_.out ?_
                                            refine annuitylaw19_BillAll.y 29 128 49 1073741823 HT_.out ?_
                                            refine annuitylaw19_BillAll.y 30 129 49 2147483647 HT_.out ?_
                                            refine annuitylaw19_BillAll.y 31 130 49 4294967295 HT_.out ?_
                                            refine annuitylaw19_BillAll.t 32 131 49 8589934591 HT_.out HW_.out hHeld ?_
                                            refine annuitylaw19_BillAll.y 33 132 49 17179869183 HT_.out ?_
                                            refine annuitylaw19_BillAll.y 34 133 49 34359738367 HT_.out ?_
                                            refine annuitylaw19_BillAll.y 35 134 49 68719476735 HT_.out ?_
                                            refine annuitylaw19_BillAll.y 36 135 49 137438953471 HT_.out ?_
                                            refine annuitylaw19_BillAll.y 37 136 49 274877906943 HT_.out ?_
                                            refine annuitylaw19_BillAll.y 38 137 49 549755813887 HT_.out ?_
                                            refine annuitylaw19_BillAll.y 39 138 49 1099511627775 HT_.out ?_
                                            refine annuitylaw19_BillAll.y 41 140 49 3298534883327 HT_.out ?_
                                            refine annuitylaw19_BillAll.y 42 141 49 7696581394431 HT_.out ?_
                                            refine annuitylaw19_BillAll.y 43 142 49 16492674416639 HT_.out ?_
                                            refine annuitylaw19_BillAll.y 44 143 49 34084860461055 HT_.out ?_
                                            refine annuitylaw19_BillAll.t 40 139 49 35184372088831 HT_.out HW_.out hHeld ?_
                                            refine annuitylaw19_BillAll.t 45 144 49 70368744177663 HT_.out HW_.out hHeld ?_
                                            refine annuitylaw19_BillAll.y 46 145 49 140737488355327 HT_.out ?_
                                            refine annuitylaw19_BillAll.y 47 146 49 281474976710655 HT_.out ?_
                                            refine annuitylaw19_BillAll.y 48 147 49 562949953421311 HT_.out ?_
                                            refine done_ (done_of HT_.out (by kernel_rfl)) ?_
                                            try go_wp2
                                            go_meet
                                            case rel => exact ⟨_, ((((rd_T45 t300 x18_1).f2) != ((rd_T45 l0 x18_1).f2))), (by first | rfl | (simp; done) | (simp [*]; done)), H', ⟨by have := HK1.out; first | omega | exact Nat.le_refl _⟩, ⟨by (with_reducible repeat (first | apply Kd.N_alloc | apply Kd.N_drewN | apply Kd.N_drew)); exact HO_8.out⟩, ⟨by (with_reducible repeat (first | refine blk_drewN ?_ _ | refine blk_drew ?_ | refine blk_alloc ?_ _)); exact BK291.out⟩, ⟨by repeat (first | (with_reducible first | exact HB.out | apply below_alloc | apply pw_below_drewN | apply below_drew1 | refine below_set ?_ GE291.out) | exact HB.out)⟩⟩
                                          · rw [if_neg c54] at H
                                            have c54b0 : decide (0 < ((rd_T45 t300 (ji51)).f2)) = false := decide_eq_false c54
                                            clear c54
                                            have H' := Aside0.mk H
                                            clear H
                                            try go_wp2
                                            have n0_ := Aside0.mk (Kd.N_drew HO_8.out)
                                            have n1_ := Aside0.mk (blk_drew BK291.out)
                                            have n2_ := Aside0.mk (below_drew1 HB.out)
                                            clear HO_8
                                            clear BK291
                                            clear HB
                                            have HO_8 := n0_
                                            have BK291 := n1_
                                            have HB := n2_
                                            clear n0_ n1_ n2_
                                            have p319 : 0 ≤ (x18_1 : Int) := of_decide_eq_true (by first | (with_reducible assumption) | assumption)
                                            have q319 : x18_1 < (t300.length : Int) := of_decide_eq_true (by first | (with_reducible assumption) | assumption)
                                            obtain ⟨ad319, A319_5, c319_5, e319, hx319_0, hx319_1, hx319_2, hx319_3, hx319_4, hx319_5, hl319_5, hi319_5⟩ := at_T45 (Kd.N_reads' HO_8.out).2.2 x18_1 p319 q319
                                            cases e319
                                            obtain ⟨ce319, hce319, hMe319, hcc319⟩ := Kd.N_get HO_8.out z45 x18_1 p319 (by first | exact q319 | exact of_decide_eq_true (by first | (with_reducible assumption) | assumption) | (have e_ := (Kd.N_reads' HO_8.out).1; omega))
                                            obtain ⟨ua319_5, uc319_5, rfl, ul319_5, ge319_5⟩ := k45_openF hMe319
                                            have hv319_5 := hcc319 5 _ rfl
                                            rw [add_field _ _ 5 (by omega)] at hv319_5
                                            replace hv319_5 := Option.some.inj (hv319_5.symm.trans hx319_5)
                                            injection hv319_5 with hva_ hvn_ hvc_
                                            rw [hva_] at ge319_5
                                            rw [hvc_] at ul319_5
                                            have HL319_5 := Aside0.mk (show Kd.V (Kd.int .i64) 3 _ w.heap.size _ _ ((rd_T45 t300 x18_1).f5) from Kd.V_mk ul319_5 ge319_5)
                                            clear hva_ hvn_ hvc_ ge319_5 ul319_5
                                            clear hcc319 hce319
                                            have HR319_5 := Aside0.mk hi319_5
                                            have HC319_5 := Aside0.mk hl319_5
                                            clear hi319_5 hl319_5
                                            replace p319 := eq_true p319
                                            replace q319 := eq_true q319
                                            have p320 : 0 ≤ (x18_1 : Int) := of_decide_eq_true (by first | (with_reducible assumption) | assumption)
                                            have q320 : x18_1 < (t300.length : Int) := of_decide_eq_true (by first | (with_reducible assumption) | assumption)
                                            obtain ⟨ad320, A320_5, c320_5, e320, hx320_0, hx320_1, hx320_2, hx320_3, hx320_4, hx320_5, hl320_5, hi320_5⟩ := at_T45 (Kd.N_reads' HO_8.out).2.2 x18_1 p320 q320
                                            obtain rfl : ad319 = ad320 := (by injection e320)
                                            obtain ⟨ce320, hce320, hMe320, hcc320⟩ := Kd.N_get HO_8.out z45 x18_1 p320 (by first | exact q320 | exact of_decide_eq_true (by first | (with_reducible assumption) | assumption) | (have e_ := (Kd.N_reads' HO_8.out).1; omega))
                                            obtain ⟨ua320_5, uc320_5, rfl, ul320_5, ge320_5⟩ := k45_openF hMe320
                                            have hv320_5 := hcc320 5 _ rfl
                                            rw [add_field _ _ 5 (by omega)] at hv320_5
                                            replace hv320_5 := Option.some.inj (hv320_5.symm.trans hx320_5)
                                            injection hv320_5 with hva_ hvn_ hvc_
                                            rw [hva_] at ge320_5
                                            rw [hvc_] at ul320_5
                                            have HL320_5 := Aside0.mk (show Kd.V (Kd.int .i64) 3 _ w.heap.size _ _ ((rd_T45 t300 x18_1).f5) from Kd.V_mk ul320_5 ge320_5)
                                            clear hva_ hvn_ hvc_ ge320_5 ul320_5
                                            clear hcc320 hce320
                                            have HR320_5 := Aside0.mk hi320_5
                                            have HC320_5 := Aside0.mk hl320_5
                                            clear hi320_5 hl320_5
                                            replace p320 := eq_true p320
                                            replace q320 := eq_true q320
                                            have ea_ := Option.some.inj (hx319_5.symm.trans hx320_5)
                                            injection ea_ with ea_ en_ ec_
                                            subst ea_
                                            subst ec_
                                            clear en_
                                            have p321 : 0 ≤ (x18_1 : Int) := of_decide_eq_true (by first | (with_reducible assumption) | assumption)
                                            have q321 : x18_1 < (l0.length : Int) := of_decide_eq_true (by first | (with_reducible assumption) | assumption)
                                            obtain ⟨ad321, A321_5, c321_5, e321, hx321_0, hx321_1, hx321_2, hx321_3, hx321_4, hx321_5, hl321_5, hi321_5⟩ := at_T45 HR0.out x18_1 p321 q321
                                            have hw321_5 := hx321_5
                                            have hw321_4 := hx321_4
                                            have hw321_3 := hx321_3
                                            have hw321_2 := hx321_2
                                            have hw321_1 := hx321_1
                                            have hw321_0 := hx321_0
                                            cases e321
                                            replace hx321_0 := (HB.out.cell (World.block_lt_of_cell? w _ hx321_0)).trans hx321_0
                                            replace hx321_1 := (HB.out.cell (World.block_lt_of_cell? w _ hx321_1)).trans hx321_1
                                            replace hx321_2 := (HB.out.cell (World.block_lt_of_cell? w _ hx321_2)).trans hx321_2
                                            replace hx321_3 := (HB.out.cell (World.block_lt_of_cell? w _ hx321_3)).trans hx321_3
                                            replace hx321_4 := (HB.out.cell (World.block_lt_of_cell? w _ hx321_4)).trans hx321_4
                                            replace hx321_5 := (HB.out.cell (World.block_lt_of_cell? w _ hx321_5)).trans hx321_5
                                            have HR321_5 := Aside0.mk hi321_5
                                            have HC321_5 := Aside0.mk hl321_5
                                            clear hi321_5 hl321_5
                                            replace p321 := eq_true p321
                                            replace q321 := eq_true q321
                                            have p322 : 0 ≤ ((ji51) : Int) := of_decide_eq_true (by first | (with_reducible assumption) | assumption)
                                            have q322 : (ji51) < (t300.length : Int) := of_decide_eq_true (by first | (with_reducible assumption) | assumption)
                                            obtain ⟨ad322, A322_5, c322_5, e322, hx322_0, hx322_1, hx322_2, hx322_3, hx322_4, hx322_5, hl322_5, hi322_5⟩ := at_T45 (Kd.N_reads' HO_8.out).2.2 (ji51) p322 q322
                                            obtain rfl : ad319 = ad322 := (by injection e322)
                                            obtain ⟨ce322, hce322, hMe322, hcc322⟩ := Kd.N_get HO_8.out z45 (ji51) p322 (by first | exact q322 | exact of_decide_eq_true (by first | (with_reducible assumption) | assumption) | (have e_ := (Kd.N_reads' HO_8.out).1; omega))
                                            obtain ⟨ua322_5, uc322_5, rfl, ul322_5, ge322_5⟩ := k45_openF hMe322
                                            have hv322_5 := hcc322 5 _ rfl
                                            rw [add_field _ _ 5 (by omega)] at hv322_5
                                            replace hv322_5 := Option.some.inj (hv322_5.symm.trans hx322_5)
                                            injection hv322_5 with hva_ hvn_ hvc_
                                            rw [hva_] at ge322_5
                                            rw [hvc_] at ul322_5
                                            have HL322_5 := Aside0.mk (show Kd.V (Kd.int .i64) 3 _ w.heap.size _ _ ((rd_T45 t300 (ji51)).f5) from Kd.V_mk ul322_5 ge322_5)
                                            clear hva_ hvn_ hvc_ ge322_5 ul322_5
                                            clear hcc322 hce322
                                            have HR322_5 := Aside0.mk hi322_5
                                            have HC322_5 := Aside0.mk hl322_5
                                            clear hi322_5 hl322_5
                                            replace p322 := eq_true p322
                                            replace q322 := eq_true q322
                                            refine start_ (n := 49) (S := fun w' => w'.cell? (ad319.add ((x18_1).toNat * 6)) = some (.int .i64 ((rd_T45 t300 x18_1).f0)) ∧ w'.cell? ⟨(ad319.add ((x18_1).toNat * 6)).block, (ad319.add ((x18_1).toNat * 6)).off + 1, none⟩ = some (.int .i64 ((rd_T45 t300 x18_1).f1)) ∧ w'.cell? ⟨(ad319.add ((x18_1).toNat * 6)).block, (ad319.add ((x18_1).toNat * 6)).off + 2, none⟩ = some (.int .i64 ((rd_T45 t300 x18_1).f2)) ∧ w'.cell? ⟨(ad319.add ((x18_1).toNat * 6)).block, (ad319.add ((x18_1).toNat * 6)).off + 3, none⟩ = some (.int .i64 ((rd_T45 t300 x18_1).f3)) ∧ w'.cell? ⟨(ad319.add ((x18_1).toNat * 6)).block, (ad319.add ((x18_1).toNat * 6)).off + 4, none⟩ = some (.int .i64 ((rd_T45 t300 x18_1).f4)) ∧ w'.cell? ⟨(ad319.add ((x18_1).toNat * 6)).block, (ad319.add ((x18_1).toNat * 6)).off + 5, none⟩ = some (.slice A319_5 ((rd_T45 t300 x18_1).f5).length c319_5) ∧ w'.cell? (ad319.add ((x18_1).toNat * 6)) = some (.int .i64 ((rd_T45 t300 x18_1).f0)) ∧ w'.cell? ⟨(ad319.add ((x18_1).toNat * 6)).block, (ad319.add ((x18_1).toNat * 6)).off + 1, none⟩ = some (.int .i64 ((rd_T45 t300 x18_1).f1)) ∧ w'.cell? ⟨(ad319.add ((x18_1).toNat * 6)).block, (ad319.add ((x18_1).toNat * 6)).off + 2, none⟩ = some (.int .i64 ((rd_T45 t300 x18_1).f2)) ∧ w'.cell? ⟨(ad319.add ((x18_1).toNat * 6)).block, (ad319.add ((x18_1).toNat * 6)).off + 3, none⟩ = some (.int .i64 ((rd_T45 t300 x18_1).f3)) ∧ w'.cell? ⟨(ad319.add ((x18_1).toNat * 6)).block, (ad319.add ((x18_1).toNat * 6)).off + 4, none⟩ = some (.int .i64 ((rd_T45 t300 x18_1).f4)) ∧ w'.cell? ⟨(ad319.add ((x18_1).toNat * 6)).block, (ad319.add ((x18_1).toNat * 6)).off + 5, none⟩ = some (.slice A319_5 ((rd_T45 t300 x18_1).f5).length c319_5) ∧ w'.cell? (ad321.add ((x18_1).toNat * 6)) = some (.int .i64 ((rd_T45 l0 x18_1).f0)) ∧ w'.cell? ⟨(ad321.add ((x18_1).toNat * 6)).block, (ad321.add ((x18_1).toNat * 6)).off + 1, none⟩ = some (.int .i64 ((rd_T45 l0 x18_1).f1)) ∧ w'.cell? ⟨(ad321.add ((x18_1).toNat * 6)).block, (ad321.add ((x18_1).toNat * 6)).off + 2, none⟩ = some (.int .i64 ((rd_T45 l0 x18_1).f2)) ∧ w'.cell? ⟨(ad321.add ((x18_1).toNat * 6)).block, (ad321.add ((x18_1).toNat * 6)).off + 3, none⟩ = some (.int .i64 ((rd_T45 l0 x18_1).f3)) ∧ w'.cell? ⟨(ad321.add ((x18_1).toNat * 6)).block, (ad321.add ((x18_1).toNat * 6)).off + 4, none⟩ = some (.int .i64 ((rd_T45 l0 x18_1).f4)) ∧ w'.cell? ⟨(ad321.add ((x18_1).toNat * 6)).block, (ad321.add ((x18_1).toNat * 6)).off + 5, none⟩ = some (.slice A321_5 ((rd_T45 l0 x18_1).f5).length c321_5) ∧ w'.cell? (ad319.add (((ji51)).toNat * 6)) = some (.int .i64 ((rd_T45 t300 (ji51)).f0)) ∧ w'.cell? ⟨(ad319.add (((ji51)).toNat * 6)).block, (ad319.add (((ji51)).toNat * 6)).off + 1, none⟩ = some (.int .i64 ((rd_T45 t300 (ji51)).f1)) ∧ w'.cell? ⟨(ad319.add (((ji51)).toNat * 6)).block, (ad319.add (((ji51)).toNat * 6)).off + 2, none⟩ = some (.int .i64 ((rd_T45 t300 (ji51)).f2)) ∧ w'.cell? ⟨(ad319.add (((ji51)).toNat * 6)).block, (ad319.add (((ji51)).toNat * 6)).off + 3, none⟩ = some (.int .i64 ((rd_T45 t300 (ji51)).f3)) ∧ w'.cell? ⟨(ad319.add (((ji51)).toNat * 6)).block, (ad319.add (((ji51)).toNat * 6)).off + 4, none⟩ = some (.int .i64 ((rd_T45 t300 (ji51)).f4)) ∧ w'.cell? ⟨(ad319.add (((ji51)).toNat * 6)).block, (ad319.add (((ji51)).toNat * 6)).off + 5, none⟩ = some (.slice A322_5 ((rd_T45 t300 (ji51)).f5).length c322_5)) (ds := []) (annuitylaw19_BillAll.fl 49 0) (by kernel_rfl) rfl rfl ⟨hx319_0, hx319_1, hx319_2, hx319_3, hx319_4, hx319_5, hx320_0, hx320_1, hx320_2, hx320_3, hx320_4, hx320_5, ((HB.out.cell (World.block_lt_of_cell? w _ hw321_0)).trans hw321_0), ((HB.out.cell (World.block_lt_of_cell? w _ hw321_1)).trans hw321_1), ((HB.out.cell (World.block_lt_of_cell? w _ hw321_2)).trans hw321_2), ((HB.out.cell (World.block_lt_of_cell? w _ hw321_3)).trans hw321_3), ((HB.out.cell (World.block_lt_of_cell? w _ hw321_4)).trans hw321_4), ((HB.out.cell (World.block_lt_of_cell? w _ hw321_5)).trans hw321_5), hx322_0, hx322_1, hx322_2, hx322_3, hx322_4, hx322_5⟩ (fun hHeld => ?_); refine with_tabW annuitylaw19_BillAll.tab15 annuitylaw19_BillAll.bits15 (fun HT_ HW_ => ?_)
                                            generalize wr.drew = w56 at HO_8 BK291 HB HL319_5 HL320_5 HL322_5 HR319_5 HR320_5 HR321_5 HR322_5 hx319_0 hx319_1 hx319_2 hx319_3 hx319_4 hx319_5 hx320_0 hx320_1 hx320_2 hx320_3 hx320_4 hx320_5 hx321_0 hx321_1 hx321_2 hx321_3 hx321_4 hx321_5 hx322_0 hx322_1 hx322_2 hx322_3 hx322_4 hx322_5 hHeld ⊢
                                            refine annuitylaw19_BillAll.y 0 99 49 1 HT_.out ?_
                                            refine annuitylaw19_BillAll.y 1 100 49 3 HT_.out ?_
                                            refine annuitylaw19_BillAll.y 2 101 49 7 HT_.out ?_
                                            refine annuitylaw19_BillAll.y 3 102 49 15 HT_.out ?_
                                            refine annuitylaw19_BillAll.y 4 103 49 31 HT_.out ?_
                                            refine annuitylaw19_BillAll.y 5 104 49 63 HT_.out ?_
                                            refine annuitylaw19_BillAll.y 6 105 49 127 HT_.out ?_
                                            refine annuitylaw19_BillAll.t 7 106 49 255 HT_.out HW_.out hHeld ?_
                                            refine annuitylaw19_BillAll.y 8 107 49 511 HT_.out ?_
                                            refine annuitylaw19_BillAll.y 9 108 49 1023 HT_.out ?_
                                            refine annuitylaw19_BillAll.y 10 109 49 2047 HT_.out ?_
                                            refine annuitylaw19_BillAll.y 11 110 49 4095 HT_.out ?_
                                            refine annuitylaw19_BillAll.y 12 111 49 8191 HT_.out ?_
                                            refine annuitylaw19_BillAll.y 13 112 49 16383 HT_.out ?_
                                            refine annuitylaw19_BillAll.y 14 113 49 32767 HT_.out ?_
                                            refine annuitylaw19_BillAll.y 16 115 49 98303 HT_.out ?_
                                            refine annuitylaw19_BillAll.y 17 116 49 229375 HT_.out ?_
                                            refine annuitylaw19_BillAll.y 18 117 49 491519 HT_.out ?_
                                            refine annuitylaw19_BillAll.y 19 118 49 1015807 HT_.out ?_
                                            refine annuitylaw19_BillAll.t 15 114 49 1048575 HT_.out HW_.out hHeld ?_
                                            refine annuitylaw19_BillAll.t 20 119 49 2097151 HT_.out HW_.out hHeld ?_
                                            refine annuitylaw19_BillAll.y 21 120 49 4194303 HT_.out ?_
                                            refine annuitylaw19_BillAll.y 22 121 49 8388607 HT_.out ?_
                                            refine annuitylaw19_BillAll.y 23 122 49 16777215 HT_.out ?_
                                            refine annuitylaw19_BillAll.y 24 123 49 33554431 HT_.out ?_
                                            refine annuitylaw19_BillAll.y 25 124 49 67108863 HT_.out ?_
                                            refine annuitylaw19_BillAll.y 26 125 49 134217727 HT_.out ?_
                                            refine annuitylaw19_BillAll.y 27 126 49 268435455 HT_.out ?_
                                            refine annuitylaw19_BillAll.y 28 127 49 536870911 HT_.out ?_
                                            refine annuitylaw19_BillAll.y 29 128 49 1073741823 HT_.out ?_
                                            refine annuitylaw19_BillAll.y 30 129 49 2147483647 HT_.out ?_
                                            refine annuitylaw19_BillAll.y 31 130 49 4294967295 HT_.out ?_
                                            refine annuitylaw19_BillAll.t 32 131 49 8589934591 HT_.out HW_.out hHeld ?_
                                            refine annuitylaw19_BillAll.y 33 132 49 17179869183 HT_.out ?_
                                            refine annuitylaw19_BillAll.y 34 133 49 34359738367 HT_.out ?_
                                            refine annuitylaw19_BillAll.y 35 134 49 68719476735 HT_.out ?_
                                            refine annuitylaw19_BillAll.g 36 135 49 137438953471 HT_.out ?_
                                            refine annuitylaw19_BillAll.g 37 136 49 274877906943 HT_.out ?_
                                            refine annuitylaw19_BillAll.g 38 137 49 549755813887 HT_.out ?_
                                            refine annuitylaw19_BillAll.g 39 138 49 1099511627775 HT_.out ?_
                                            refine annuitylaw19_BillAll.g 40 139 49 2199023255551 HT_.out ?_
                                            refine annuitylaw19_BillAll.g 41 140 49 4398046511103 HT_.out ?_
                                            refine annuitylaw19_BillAll.g 42 141 49 8796093022207 HT_.out ?_
                                            refine annuitylaw19_BillAll.g 43 142 49 17592186044415 HT_.out ?_
                                            refine annuitylaw19_BillAll.g 44 143 49 35184372088831 HT_.out ?_
                                            refine annuitylaw19_BillAll.g 45 144 49 70368744177663 HT_.out ?_
                                            refine annuitylaw19_BillAll.g 46 145 49 140737488355327 HT_.out ?_
                                            refine annuitylaw19_BillAll.y 47 146 49 281474976710655 HT_.out ?_
                                            refine annuitylaw19_BillAll.y 48 147 49 562949953421311 HT_.out ?_
                                            refine done_ (done_of HT_.out (by kernel_rfl)) ?_
                                            try go_wp2
                                            go_meet
                                            case rel => exact ⟨_, (false), (by first | rfl | (simp; done) | (simp [*]; done)), H', ⟨by have := HK1.out; first | omega | exact Nat.le_refl _⟩, ⟨by (with_reducible repeat (first | apply Kd.N_alloc | apply Kd.N_drewN | apply Kd.N_drew)); exact HO_8.out⟩, ⟨by (with_reducible repeat (first | refine blk_drewN ?_ _ | refine blk_drew ?_ | refine blk_alloc ?_ _)); exact BK291.out⟩, ⟨by repeat (first | (with_reducible first | exact HB.out | apply below_alloc | apply pw_below_drewN | apply below_drew1 | refine below_set ?_ GE291.out) | exact HB.out)⟩⟩
                                        · rw [if_neg c53] at H
                                          exact absurd H (by simp)
                                      · rw [if_neg c52] at H
                                        exact absurd H (by simp)
                                    · rw [if_neg c50] at H
                                      have c50b0 : decide (0 < x18_1) = false := decide_eq_false c50
                                      clear c50
                                      have H' := Aside0.mk H
                                      clear H
                                      try go_wp2
                                      have n0_ := Aside0.mk (Kd.N_drew HO_8.out)
                                      have n1_ := Aside0.mk (blk_drew BK291.out)
                                      have n2_ := Aside0.mk (below_drew1 HB.out)
                                      clear HO_8
                                      clear BK291
                                      clear HB
                                      have HO_8 := n0_
                                      have BK291 := n1_
                                      have HB := n2_
                                      clear n0_ n1_ n2_
                                      have p319 : 0 ≤ (x18_1 : Int) := of_decide_eq_true (by first | (with_reducible assumption) | assumption)
                                      have q319 : x18_1 < (t300.length : Int) := of_decide_eq_true (by first | (with_reducible assumption) | assumption)
                                      obtain ⟨ad319, A319_5, c319_5, e319, hx319_0, hx319_1, hx319_2, hx319_3, hx319_4, hx319_5, hl319_5, hi319_5⟩ := at_T45 (Kd.N_reads' HO_8.out).2.2 x18_1 p319 q319
                                      cases e319
                                      obtain ⟨ce319, hce319, hMe319, hcc319⟩ := Kd.N_get HO_8.out z45 x18_1 p319 (by first | exact q319 | exact of_decide_eq_true (by first | (with_reducible assumption) | assumption) | (have e_ := (Kd.N_reads' HO_8.out).1; omega))
                                      obtain ⟨ua319_5, uc319_5, rfl, ul319_5, ge319_5⟩ := k45_openF hMe319
                                      have hv319_5 := hcc319 5 _ rfl
                                      rw [add_field _ _ 5 (by omega)] at hv319_5
                                      replace hv319_5 := Option.some.inj (hv319_5.symm.trans hx319_5)
                                      injection hv319_5 with hva_ hvn_ hvc_
                                      rw [hva_] at ge319_5
                                      rw [hvc_] at ul319_5
                                      have HL319_5 := Aside0.mk (show Kd.V (Kd.int .i64) 3 _ w.heap.size _ _ ((rd_T45 t300 x18_1).f5) from Kd.V_mk ul319_5 ge319_5)
                                      clear hva_ hvn_ hvc_ ge319_5 ul319_5
                                      clear hcc319 hce319
                                      have HR319_5 := Aside0.mk hi319_5
                                      have HC319_5 := Aside0.mk hl319_5
                                      clear hi319_5 hl319_5
                                      replace p319 := eq_true p319
                                      replace q319 := eq_true q319
                                      have p320 : 0 ≤ (x18_1 : Int) := of_decide_eq_true (by first | (with_reducible assumption) | assumption)
                                      have q320 : x18_1 < (t300.length : Int) := of_decide_eq_true (by first | (with_reducible assumption) | assumption)
                                      obtain ⟨ad320, A320_5, c320_5, e320, hx320_0, hx320_1, hx320_2, hx320_3, hx320_4, hx320_5, hl320_5, hi320_5⟩ := at_T45 (Kd.N_reads' HO_8.out).2.2 x18_1 p320 q320
                                      obtain rfl : ad319 = ad320 := (by injection e320)
                                      obtain ⟨ce320, hce320, hMe320, hcc320⟩ := Kd.N_get HO_8.out z45 x18_1 p320 (by first | exact q320 | exact of_decide_eq_true (by first | (with_reducible assumption) | assumption) | (have e_ := (Kd.N_reads' HO_8.out).1; omega))
                                      obtain ⟨ua320_5, uc320_5, rfl, ul320_5, ge320_5⟩ := k45_openF hMe320
                                      have hv320_5 := hcc320 5 _ rfl
                                      rw [add_field _ _ 5 (by omega)] at hv320_5
                                      replace hv320_5 := Option.some.inj (hv320_5.symm.trans hx320_5)
                                      injection hv320_5 with hva_ hvn_ hvc_
                                      rw [hva_] at ge320_5
                                      rw [hvc_] at ul320_5
                                      have HL320_5 := Aside0.mk (show Kd.V (Kd.int .i64) 3 _ w.heap.size _ _ ((rd_T45 t300 x18_1).f5) from Kd.V_mk ul320_5 ge320_5)
                                      clear hva_ hvn_ hvc_ ge320_5 ul320_5
                                      clear hcc320 hce320
                                      have HR320_5 := Aside0.mk hi320_5
                                      have HC320_5 := Aside0.mk hl320_5
                                      clear hi320_5 hl320_5
                                      replace p320 := eq_true p320
                                      replace q320 := eq_true q320
                                      have ea_ := Option.some.inj (hx319_5.symm.trans hx320_5)
                                      injection ea_ with ea_ en_ ec_
                                      subst ea_
                                      subst ec_
                                      clear en_
                                      have p321 : 0 ≤ (x18_1 : Int) := of_decide_eq_true (by first | (with_reducible assumption) | assumption)
                                      have q321 : x18_1 < (l0.length : Int) := of_decide_eq_true (by first | (with_reducible assumption) | assumption)
                                      obtain ⟨ad321, A321_5, c321_5, e321, hx321_0, hx321_1, hx321_2, hx321_3, hx321_4, hx321_5, hl321_5, hi321_5⟩ := at_T45 HR0.out x18_1 p321 q321
                                      have hw321_5 := hx321_5
                                      have hw321_4 := hx321_4
                                      have hw321_3 := hx321_3
                                      have hw321_2 := hx321_2
                                      have hw321_1 := hx321_1
                                      have hw321_0 := hx321_0
                                      cases e321
                                      replace hx321_0 := (HB.out.cell (World.block_lt_of_cell? w _ hx321_0)).trans hx321_0
                                      replace hx321_1 := (HB.out.cell (World.block_lt_of_cell? w _ hx321_1)).trans hx321_1
                                      replace hx321_2 := (HB.out.cell (World.block_lt_of_cell? w _ hx321_2)).trans hx321_2
                                      replace hx321_3 := (HB.out.cell (World.block_lt_of_cell? w _ hx321_3)).trans hx321_3
                                      replace hx321_4 := (HB.out.cell (World.block_lt_of_cell? w _ hx321_4)).trans hx321_4
                                      replace hx321_5 := (HB.out.cell (World.block_lt_of_cell? w _ hx321_5)).trans hx321_5
                                      have HR321_5 := Aside0.mk hi321_5
                                      have HC321_5 := Aside0.mk hl321_5
                                      clear hi321_5 hl321_5
                                      replace p321 := eq_true p321
                                      replace q321 := eq_true q321
                                      refine start_ (n := 49) (S := fun w' => w'.cell? (ad319.add ((x18_1).toNat * 6)) = some (.int .i64 ((rd_T45 t300 x18_1).f0)) ∧ w'.cell? ⟨(ad319.add ((x18_1).toNat * 6)).block, (ad319.add ((x18_1).toNat * 6)).off + 1, none⟩ = some (.int .i64 ((rd_T45 t300 x18_1).f1)) ∧ w'.cell? ⟨(ad319.add ((x18_1).toNat * 6)).block, (ad319.add ((x18_1).toNat * 6)).off + 2, none⟩ = some (.int .i64 ((rd_T45 t300 x18_1).f2)) ∧ w'.cell? ⟨(ad319.add ((x18_1).toNat * 6)).block, (ad319.add ((x18_1).toNat * 6)).off + 3, none⟩ = some (.int .i64 ((rd_T45 t300 x18_1).f3)) ∧ w'.cell? ⟨(ad319.add ((x18_1).toNat * 6)).block, (ad319.add ((x18_1).toNat * 6)).off + 4, none⟩ = some (.int .i64 ((rd_T45 t300 x18_1).f4)) ∧ w'.cell? ⟨(ad319.add ((x18_1).toNat * 6)).block, (ad319.add ((x18_1).toNat * 6)).off + 5, none⟩ = some (.slice A319_5 ((rd_T45 t300 x18_1).f5).length c319_5) ∧ w'.cell? (ad319.add ((x18_1).toNat * 6)) = some (.int .i64 ((rd_T45 t300 x18_1).f0)) ∧ w'.cell? ⟨(ad319.add ((x18_1).toNat * 6)).block, (ad319.add ((x18_1).toNat * 6)).off + 1, none⟩ = some (.int .i64 ((rd_T45 t300 x18_1).f1)) ∧ w'.cell? ⟨(ad319.add ((x18_1).toNat * 6)).block, (ad319.add ((x18_1).toNat * 6)).off + 2, none⟩ = some (.int .i64 ((rd_T45 t300 x18_1).f2)) ∧ w'.cell? ⟨(ad319.add ((x18_1).toNat * 6)).block, (ad319.add ((x18_1).toNat * 6)).off + 3, none⟩ = some (.int .i64 ((rd_T45 t300 x18_1).f3)) ∧ w'.cell? ⟨(ad319.add ((x18_1).toNat * 6)).block, (ad319.add ((x18_1).toNat * 6)).off + 4, none⟩ = some (.int .i64 ((rd_T45 t300 x18_1).f4)) ∧ w'.cell? ⟨(ad319.add ((x18_1).toNat * 6)).block, (ad319.add ((x18_1).toNat * 6)).off + 5, none⟩ = some (.slice A319_5 ((rd_T45 t300 x18_1).f5).length c319_5) ∧ w'.cell? (ad321.add ((x18_1).toNat * 6)) = some (.int .i64 ((rd_T45 l0 x18_1).f0)) ∧ w'.cell? ⟨(ad321.add ((x18_1).toNat * 6)).block, (ad321.add ((x18_1).toNat * 6)).off + 1, none⟩ = some (.int .i64 ((rd_T45 l0 x18_1).f1)) ∧ w'.cell? ⟨(ad321.add ((x18_1).toNat * 6)).block, (ad321.add ((x18_1).toNat * 6)).off + 2, none⟩ = some (.int .i64 ((rd_T45 l0 x18_1).f2)) ∧ w'.cell? ⟨(ad321.add ((x18_1).toNat * 6)).block, (ad321.add ((x18_1).toNat * 6)).off + 3, none⟩ = some (.int .i64 ((rd_T45 l0 x18_1).f3)) ∧ w'.cell? ⟨(ad321.add ((x18_1).toNat * 6)).block, (ad321.add ((x18_1).toNat * 6)).off + 4, none⟩ = some (.int .i64 ((rd_T45 l0 x18_1).f4)) ∧ w'.cell? ⟨(ad321.add ((x18_1).toNat * 6)).block, (ad321.add ((x18_1).toNat * 6)).off + 5, none⟩ = some (.slice A321_5 ((rd_T45 l0 x18_1).f5).length c321_5)) (ds := []) (annuitylaw19_BillAll.fl 49 0) (by kernel_rfl) rfl rfl ⟨hx319_0, hx319_1, hx319_2, hx319_3, hx319_4, hx319_5, hx320_0, hx320_1, hx320_2, hx320_3, hx320_4, hx320_5, ((HB.out.cell (World.block_lt_of_cell? w _ hw321_0)).trans hw321_0), ((HB.out.cell (World.block_lt_of_cell? w _ hw321_1)).trans hw321_1), ((HB.out.cell (World.block_lt_of_cell? w _ hw321_2)).trans hw321_2), ((HB.out.cell (World.block_lt_of_cell? w _ hw321_3)).trans hw321_3), ((HB.out.cell (World.block_lt_of_cell? w _ hw321_4)).trans hw321_4), ((HB.out.cell (World.block_lt_of_cell? w _ hw321_5)).trans hw321_5)⟩ (fun hHeld => ?_); refine with_tabW annuitylaw19_BillAll.tab15 annuitylaw19_BillAll.bits15 (fun HT_ HW_ => ?_)
                                      generalize wr.drew = w57 at HO_8 BK291 HB HL319_5 HL320_5 HR319_5 HR320_5 HR321_5 hx319_0 hx319_1 hx319_2 hx319_3 hx319_4 hx319_5 hx320_0 hx320_1 hx320_2 hx320_3 hx320_4 hx320_5 hx321_0 hx321_1 hx321_2 hx321_3 hx321_4 hx321_5 hHeld ⊢
                                      refine annuitylaw19_BillAll.y 0 99 49 1 HT_.out ?_
                                      refine annuitylaw19_BillAll.y 1 100 49 3 HT_.out ?_
                                      refine annuitylaw19_BillAll.y 2 101 49 7 HT_.out ?_
                                      refine annuitylaw19_BillAll.y 3 102 49 15 HT_.out ?_
                                      refine annuitylaw19_BillAll.y 4 103 49 31 HT_.out ?_
                                      refine annuitylaw19_BillAll.y 5 104 49 63 HT_.out ?_
                                      refine annuitylaw19_BillAll.y 6 105 49 127 HT_.out ?_
                                      refine annuitylaw19_BillAll.t 7 106 49 255 HT_.out HW_.out hHeld ?_
                                      refine annuitylaw19_BillAll.y 8 107 49 511 HT_.out ?_
                                      refine annuitylaw19_BillAll.y 9 108 49 1023 HT_.out ?_
                                      refine annuitylaw19_BillAll.y 10 109 49 2047 HT_.out ?_
                                      refine annuitylaw19_BillAll.y 11 110 49 4095 HT_.out ?_
                                      refine annuitylaw19_BillAll.y 12 111 49 8191 HT_.out ?_
                                      refine annuitylaw19_BillAll.y 13 112 49 16383 HT_.out ?_
                                      refine annuitylaw19_BillAll.y 14 113 49 32767 HT_.out ?_
                                      refine annuitylaw19_BillAll.y 16 115 49 98303 HT_.out ?_
                                      refine annuitylaw19_BillAll.y 17 116 49 229375 HT_.out ?_
                                      refine annuitylaw19_BillAll.y 18 117 49 491519 HT_.out ?_
                                      refine annuitylaw19_BillAll.y 19 118 49 1015807 HT_.out ?_
                                      refine annuitylaw19_BillAll.t 15 114 49 1048575 HT_.out HW_.out hHeld ?_
                                      refine annuitylaw19_BillAll.t 20 119 49 2097151 HT_.out HW_.out hHeld ?_
                                      refine annuitylaw19_BillAll.y 21 120 49 4194303 HT_.out ?_
                                      refine annuitylaw19_BillAll.y 22 121 49 8388607 HT_.out ?_
                                      refine annuitylaw19_BillAll.y 23 122 49 16777215 HT_.out ?_
                                      refine annuitylaw19_BillAll.y 24 123 49 33554431 HT_.out ?_
                                      refine annuitylaw19_BillAll.y 25 124 49 67108863 HT_.out ?_
                                      refine annuitylaw19_BillAll.y 26 125 49 134217727 HT_.out ?_
                                      refine annuitylaw19_BillAll.g 27 126 49 268435455 HT_.out ?_
                                      refine annuitylaw19_BillAll.g 28 127 49 536870911 HT_.out ?_
                                      refine annuitylaw19_BillAll.g 29 128 49 1073741823 HT_.out ?_
                                      refine annuitylaw19_BillAll.g 30 129 49 2147483647 HT_.out ?_
                                      refine annuitylaw19_BillAll.g 31 130 49 4294967295 HT_.out ?_
                                      refine annuitylaw19_BillAll.g 32 131 49 8589934591 HT_.out ?_
                                      refine annuitylaw19_BillAll.g 33 132 49 17179869183 HT_.out ?_
                                      refine annuitylaw19_BillAll.y 34 133 49 34359738367 HT_.out ?_
                                      refine annuitylaw19_BillAll.y 35 134 49 68719476735 HT_.out ?_
                                      refine annuitylaw19_BillAll.g 36 135 49 137438953471 HT_.out ?_
                                      refine annuitylaw19_BillAll.g 37 136 49 274877906943 HT_.out ?_
                                      refine annuitylaw19_BillAll.g 38 137 49 549755813887 HT_.out ?_
                                      refine annuitylaw19_BillAll.g 39 138 49 1099511627775 HT_.out ?_
                                      refine annuitylaw19_BillAll.g 40 139 49 2199023255551 HT_.out ?_
                                      refine annuitylaw19_BillAll.g 41 140 49 4398046511103 HT_.out ?_
                                      refine annuitylaw19_BillAll.g 42 141 49 8796093022207 HT_.out ?_
                                      refine annuitylaw19_BillAll.g 43 142 49 17592186044415 HT_.out ?_
                                      refine annuitylaw19_BillAll.g 44 143 49 35184372088831 HT_.out ?_
                                      refine annuitylaw19_BillAll.g 45 144 49 70368744177663 HT_.out ?_
                                      refine annuitylaw19_BillAll.g 46 145 49 140737488355327 HT_.out ?_
                                      refine annuitylaw19_BillAll.y 47 146 49 281474976710655 HT_.out ?_
                                      refine annuitylaw19_BillAll.y 48 147 49 562949953421311 HT_.out ?_
                                      refine done_ (done_of HT_.out (by kernel_rfl)) ?_
                                      try go_wp2
                                      go_meet
                                      case rel => exact ⟨_, (false), (by first | rfl | (simp; done) | (simp [*]; done)), H', ⟨by have := HK1.out; first | omega | exact Nat.le_refl _⟩, ⟨by (with_reducible repeat (first | apply Kd.N_alloc | apply Kd.N_drewN | apply Kd.N_drew)); exact HO_8.out⟩, ⟨by (with_reducible repeat (first | refine blk_drewN ?_ _ | refine blk_drew ?_ | refine blk_alloc ?_ _)); exact BK291.out⟩, ⟨by repeat (first | (with_reducible first | exact HB.out | apply below_alloc | apply pw_below_drewN | apply below_drew1 | refine below_set ?_ GE291.out) | exact HB.out)⟩⟩
                                · rw [if_neg c47] at H
                                  exact absurd H (by simp)
                              · rw [if_neg c46] at H
                                have c46b0 : (((rd_T45 t300 x18_1).f2) == 0) = false := beq_eq_false_iff_ne.mpr c46
                                have c46b1 : (((rd_T45 t300 x18_1).f2) != 0) = true := bne_iff_ne.mpr c46
                                have H' := Aside0.mk H
                                clear H
                                try go_wp2
                                have n0_ := Aside0.mk (Kd.N_drew HO_8.out)
                                have n1_ := Aside0.mk (blk_drew BK291.out)
                                have n2_ := Aside0.mk (below_drew1 HB.out)
                                clear HO_8
                                clear BK291
                                clear HB
                                have HO_8 := n0_
                                have BK291 := n1_
                                have HB := n2_
                                clear n0_ n1_ n2_
                                have p319 : 0 ≤ (x18_1 : Int) := of_decide_eq_true (by first | (with_reducible assumption) | assumption)
                                have q319 : x18_1 < (t300.length : Int) := of_decide_eq_true (by first | (with_reducible assumption) | assumption)
                                obtain ⟨ad319, A319_5, c319_5, e319, hx319_0, hx319_1, hx319_2, hx319_3, hx319_4, hx319_5, hl319_5, hi319_5⟩ := at_T45 (Kd.N_reads' HO_8.out).2.2 x18_1 p319 q319
                                cases e319
                                obtain ⟨ce319, hce319, hMe319, hcc319⟩ := Kd.N_get HO_8.out z45 x18_1 p319 (by first | exact q319 | exact of_decide_eq_true (by first | (with_reducible assumption) | assumption) | (have e_ := (Kd.N_reads' HO_8.out).1; omega))
                                obtain ⟨ua319_5, uc319_5, rfl, ul319_5, ge319_5⟩ := k45_openF hMe319
                                have hv319_5 := hcc319 5 _ rfl
                                rw [add_field _ _ 5 (by omega)] at hv319_5
                                replace hv319_5 := Option.some.inj (hv319_5.symm.trans hx319_5)
                                injection hv319_5 with hva_ hvn_ hvc_
                                rw [hva_] at ge319_5
                                rw [hvc_] at ul319_5
                                have HL319_5 := Aside0.mk (show Kd.V (Kd.int .i64) 3 _ w.heap.size _ _ ((rd_T45 t300 x18_1).f5) from Kd.V_mk ul319_5 ge319_5)
                                clear hva_ hvn_ hvc_ ge319_5 ul319_5
                                clear hcc319 hce319
                                have HR319_5 := Aside0.mk hi319_5
                                have HC319_5 := Aside0.mk hl319_5
                                clear hi319_5 hl319_5
                                replace p319 := eq_true p319
                                replace q319 := eq_true q319
                                refine start_ (n := 49) (S := fun w' => w'.cell? (ad319.add ((x18_1).toNat * 6)) = some (.int .i64 ((rd_T45 t300 x18_1).f0)) ∧ w'.cell? ⟨(ad319.add ((x18_1).toNat * 6)).block, (ad319.add ((x18_1).toNat * 6)).off + 1, none⟩ = some (.int .i64 ((rd_T45 t300 x18_1).f1)) ∧ w'.cell? ⟨(ad319.add ((x18_1).toNat * 6)).block, (ad319.add ((x18_1).toNat * 6)).off + 2, none⟩ = some (.int .i64 ((rd_T45 t300 x18_1).f2)) ∧ w'.cell? ⟨(ad319.add ((x18_1).toNat * 6)).block, (ad319.add ((x18_1).toNat * 6)).off + 3, none⟩ = some (.int .i64 ((rd_T45 t300 x18_1).f3)) ∧ w'.cell? ⟨(ad319.add ((x18_1).toNat * 6)).block, (ad319.add ((x18_1).toNat * 6)).off + 4, none⟩ = some (.int .i64 ((rd_T45 t300 x18_1).f4)) ∧ w'.cell? ⟨(ad319.add ((x18_1).toNat * 6)).block, (ad319.add ((x18_1).toNat * 6)).off + 5, none⟩ = some (.slice A319_5 ((rd_T45 t300 x18_1).f5).length c319_5)) (ds := []) (annuitylaw19_BillAll.fl 49 0) (by kernel_rfl) rfl rfl ⟨hx319_0, hx319_1, hx319_2, hx319_3, hx319_4, hx319_5⟩ (fun hHeld => ?_); refine with_tabW annuitylaw19_BillAll.tab15 annuitylaw19_BillAll.bits15 (fun HT_ HW_ => ?_)
                                generalize wr.drew = w58 at HO_8 BK291 HB HL319_5 HR319_5 hx319_0 hx319_1 hx319_2 hx319_3 hx319_4 hx319_5 hHeld ⊢
                                refine annuitylaw19_BillAll.y 0 99 49 1 HT_.out ?_
                                refine annuitylaw19_BillAll.y 1 100 49 3 HT_.out ?_
                                refine annuitylaw19_BillAll.y 2 101 49 7 HT_.out ?_
                                refine annuitylaw19_BillAll.y 3 102 49 15 HT_.out ?_
                                refine annuitylaw19_BillAll.y 4 103 49 31 HT_.out ?_
                                refine annuitylaw19_BillAll.y 5 104 49 63 HT_.out ?_
                                refine annuitylaw19_BillAll.y 6 105 49 127 HT_.out ?_
                                refine annuitylaw19_BillAll.t 7 106 49 255 HT_.out HW_.out hHeld ?_
                                refine annuitylaw19_BillAll.y 8 107 49 511 HT_.out ?_
                                refine annuitylaw19_BillAll.y 9 108 49 1023 HT_.out ?_
                                refine annuitylaw19_BillAll.y 10 109 49 2047 HT_.out ?_
                                refine annuitylaw19_BillAll.g 11 110 49 4095 HT_.out ?_
                                refine annuitylaw19_BillAll.g 12 111 49 8191 HT_.out ?_
                                refine annuitylaw19_BillAll.g 13 112 49 16383 HT_.out ?_
                                refine annuitylaw19_BillAll.g 14 113 49 32767 HT_.out ?_
                                refine annuitylaw19_BillAll.g 15 114 49 65535 HT_.out ?_
                                refine annuitylaw19_BillAll.g 16 115 49 131071 HT_.out ?_
                                refine annuitylaw19_BillAll.g 17 116 49 262143 HT_.out ?_
                                refine annuitylaw19_BillAll.g 18 117 49 524287 HT_.out ?_
                                refine annuitylaw19_BillAll.g 19 118 49 1048575 HT_.out ?_
                                refine annuitylaw19_BillAll.g 20 119 49 2097151 HT_.out ?_
                                refine annuitylaw19_BillAll.g 21 120 49 4194303 HT_.out ?_
                                refine annuitylaw19_BillAll.y 22 121 49 8388607 HT_.out ?_
                                refine annuitylaw19_BillAll.y 23 122 49 16777215 HT_.out ?_
                                refine annuitylaw19_BillAll.g 24 123 49 33554431 HT_.out ?_
                                refine annuitylaw19_BillAll.g 25 124 49 67108863 HT_.out ?_
                                refine annuitylaw19_BillAll.g 26 125 49 134217727 HT_.out ?_
                                refine annuitylaw19_BillAll.g 27 126 49 268435455 HT_.out ?_
                                refine annuitylaw19_BillAll.g 28 127 49 536870911 HT_.out ?_
                                refine annuitylaw19_BillAll.g 29 128 49 1073741823 HT_.out ?_
                                refine annuitylaw19_BillAll.g 30 129 49 2147483647 HT_.out ?_
                                refine annuitylaw19_BillAll.g 31 130 49 4294967295 HT_.out ?_
                                refine annuitylaw19_BillAll.g 32 131 49 8589934591 HT_.out ?_
                                refine annuitylaw19_BillAll.g 33 132 49 17179869183 HT_.out ?_
                                refine annuitylaw19_BillAll.g 34 133 49 34359738367 HT_.out ?_
                                refine annuitylaw19_BillAll.g 35 134 49 68719476735 HT_.out ?_
                                refine annuitylaw19_BillAll.g 36 135 49 137438953471 HT_.out ?_
                                refine annuitylaw19_BillAll.g 37 136 49 274877906943 HT_.out ?_
                                refine annuitylaw19_BillAll.g 38 137 49 549755813887 HT_.out ?_
                                refine annuitylaw19_BillAll.g 39 138 49 1099511627775 HT_.out ?_
                                refine annuitylaw19_BillAll.g 40 139 49 2199023255551 HT_.out ?_
                                refine annuitylaw19_BillAll.g 41 140 49 4398046511103 HT_.out ?_
                                refine annuitylaw19_BillAll.g 42 141 49 8796093022207 HT_.out ?_
                                refine annuitylaw19_BillAll.g 43 142 49 17592186044415 HT_.out ?_
                                refine annuitylaw19_BillAll.g 44 143 49 35184372088831 HT_.out ?_
                                refine annuitylaw19_BillAll.g 45 144 49 70368744177663 HT_.out ?_
                                refine annuitylaw19_BillAll.g 46 145 49 140737488355327 HT_.out ?_
                                refine annuitylaw19_BillAll.g 47 146 49 281474976710655 HT_.out ?_
                                refine annuitylaw19_BillAll.y 48 147 49 562949953421311 HT_.out ?_
                                refine done_ (done_of HT_.out (by kernel_rfl)) ?_
                                try go_wp2
                                go_meet
                                case rel => exact ⟨_, (true), (by first | rfl | (simp; done) | (simp [*]; done)), H', ⟨by have := HK1.out; first | omega | exact Nat.le_refl _⟩, ⟨by (with_reducible repeat (first | apply Kd.N_alloc | apply Kd.N_drewN | apply Kd.N_drew)); exact HO_8.out⟩, ⟨by (with_reducible repeat (first | refine blk_drewN ?_ _ | refine blk_drew ?_ | refine blk_alloc ?_ _)); exact BK291.out⟩, ⟨by repeat (first | (with_reducible first | exact HB.out | apply below_alloc | apply pw_below_drewN | apply below_drew1 | refine below_set ?_ GE291.out) | exact HB.out)⟩⟩
                            · rw [if_neg c45] at H
                              exact absurd H (by simp)
                          · rw [if_neg c44] at H
                            have c44b0 : decide (0 < t303) = false := decide_eq_false c44
                            clear c44
                            (first | rw [c44b0] | (simp only [i64_w, i32_w]; rw [c44b0]) | skip)
                            by_cases c59 : 0 ≤ x18_1
                            · rw [if_pos c59] at H
                              have c59b0 : decide (0 ≤ x18_1) = true := decide_eq_true c59
                              clear c59
                              by_cases c60 : x18_1 < (l0.length : Int)
                              · rw [if_pos c60] at H
                                have c60b0 : decide (x18_1 < (l0.length : Int)) = true := decide_eq_true c60
                                clear c60
                                by_cases c61 : ((rd_T45 t300 x18_1).f2) > ((rd_T45 l0 x18_1).f2)
                                · rw [if_pos c61] at H
                                  have c61b0 : decide (((rd_T45 l0 x18_1).f2) < ((rd_T45 t300 x18_1).f2)) = true := decide_eq_true c61
                                  clear c61
                                  have H' := Aside0.mk H
                                  clear H
                                  try go_wp2
                                  have n0_ := Aside0.mk (Kd.N_drew HO_8.out)
                                  have n1_ := Aside0.mk (blk_drew BK291.out)
                                  have n2_ := Aside0.mk (below_drew1 HB.out)
                                  clear HO_8
                                  clear BK291
                                  clear HB
                                  have HO_8 := n0_
                                  have BK291 := n1_
                                  have HB := n2_
                                  clear n0_ n1_ n2_
                                  have p325 : 0 ≤ (x18_1 : Int) := of_decide_eq_true (by first | (with_reducible assumption) | assumption)
                                  have q325 : x18_1 < (t300.length : Int) := of_decide_eq_true (by first | (with_reducible assumption) | assumption)
                                  obtain ⟨ad325, A325_5, c325_5, e325, hx325_0, hx325_1, hx325_2, hx325_3, hx325_4, hx325_5, hl325_5, hi325_5⟩ := at_T45 (Kd.N_reads' HO_8.out).2.2 x18_1 p325 q325
                                  cases e325
                                  obtain ⟨ce325, hce325, hMe325, hcc325⟩ := Kd.N_get HO_8.out z45 x18_1 p325 (by first | exact q325 | exact of_decide_eq_true (by first | (with_reducible assumption) | assumption) | (have e_ := (Kd.N_reads' HO_8.out).1; omega))
                                  obtain ⟨ua325_5, uc325_5, rfl, ul325_5, ge325_5⟩ := k45_openF hMe325
                                  have hv325_5 := hcc325 5 _ rfl
                                  rw [add_field _ _ 5 (by omega)] at hv325_5
                                  replace hv325_5 := Option.some.inj (hv325_5.symm.trans hx325_5)
                                  injection hv325_5 with hva_ hvn_ hvc_
                                  rw [hva_] at ge325_5
                                  rw [hvc_] at ul325_5
                                  have HL325_5 := Aside0.mk (show Kd.V (Kd.int .i64) 3 _ w.heap.size _ _ ((rd_T45 t300 x18_1).f5) from Kd.V_mk ul325_5 ge325_5)
                                  clear hva_ hvn_ hvc_ ge325_5 ul325_5
                                  clear hcc325 hce325
                                  have HR325_5 := Aside0.mk hi325_5
                                  have HC325_5 := Aside0.mk hl325_5
                                  clear hi325_5 hl325_5
                                  replace p325 := eq_true p325
                                  replace q325 := eq_true q325
                                  have p326 : 0 ≤ (x18_1 : Int) := of_decide_eq_true (by first | (with_reducible assumption) | assumption)
                                  have q326 : x18_1 < (l0.length : Int) := of_decide_eq_true (by first | (with_reducible assumption) | assumption)
                                  obtain ⟨ad326, A326_5, c326_5, e326, hx326_0, hx326_1, hx326_2, hx326_3, hx326_4, hx326_5, hl326_5, hi326_5⟩ := at_T45 HR0.out x18_1 p326 q326
                                  have hw326_5 := hx326_5
                                  have hw326_4 := hx326_4
                                  have hw326_3 := hx326_3
                                  have hw326_2 := hx326_2
                                  have hw326_1 := hx326_1
                                  have hw326_0 := hx326_0
                                  cases e326
                                  replace hx326_0 := (HB.out.cell (World.block_lt_of_cell? w _ hx326_0)).trans hx326_0
                                  replace hx326_1 := (HB.out.cell (World.block_lt_of_cell? w _ hx326_1)).trans hx326_1
                                  replace hx326_2 := (HB.out.cell (World.block_lt_of_cell? w _ hx326_2)).trans hx326_2
                                  replace hx326_3 := (HB.out.cell (World.block_lt_of_cell? w _ hx326_3)).trans hx326_3
                                  replace hx326_4 := (HB.out.cell (World.block_lt_of_cell? w _ hx326_4)).trans hx326_4
                                  replace hx326_5 := (HB.out.cell (World.block_lt_of_cell? w _ hx326_5)).trans hx326_5
                                  have HR326_5 := Aside0.mk hi326_5
                                  have HC326_5 := Aside0.mk hl326_5
                                  clear hi326_5 hl326_5
                                  replace p326 := eq_true p326
                                  replace q326 := eq_true q326
                                  refine start_ (n := 49) (S := fun w' => w'.cell? (ad325.add ((x18_1).toNat * 6)) = some (.int .i64 ((rd_T45 t300 x18_1).f0)) ∧ w'.cell? ⟨(ad325.add ((x18_1).toNat * 6)).block, (ad325.add ((x18_1).toNat * 6)).off + 1, none⟩ = some (.int .i64 ((rd_T45 t300 x18_1).f1)) ∧ w'.cell? ⟨(ad325.add ((x18_1).toNat * 6)).block, (ad325.add ((x18_1).toNat * 6)).off + 2, none⟩ = some (.int .i64 ((rd_T45 t300 x18_1).f2)) ∧ w'.cell? ⟨(ad325.add ((x18_1).toNat * 6)).block, (ad325.add ((x18_1).toNat * 6)).off + 3, none⟩ = some (.int .i64 ((rd_T45 t300 x18_1).f3)) ∧ w'.cell? ⟨(ad325.add ((x18_1).toNat * 6)).block, (ad325.add ((x18_1).toNat * 6)).off + 4, none⟩ = some (.int .i64 ((rd_T45 t300 x18_1).f4)) ∧ w'.cell? ⟨(ad325.add ((x18_1).toNat * 6)).block, (ad325.add ((x18_1).toNat * 6)).off + 5, none⟩ = some (.slice A325_5 ((rd_T45 t300 x18_1).f5).length c325_5) ∧ w'.cell? (ad326.add ((x18_1).toNat * 6)) = some (.int .i64 ((rd_T45 l0 x18_1).f0)) ∧ w'.cell? ⟨(ad326.add ((x18_1).toNat * 6)).block, (ad326.add ((x18_1).toNat * 6)).off + 1, none⟩ = some (.int .i64 ((rd_T45 l0 x18_1).f1)) ∧ w'.cell? ⟨(ad326.add ((x18_1).toNat * 6)).block, (ad326.add ((x18_1).toNat * 6)).off + 2, none⟩ = some (.int .i64 ((rd_T45 l0 x18_1).f2)) ∧ w'.cell? ⟨(ad326.add ((x18_1).toNat * 6)).block, (ad326.add ((x18_1).toNat * 6)).off + 3, none⟩ = some (.int .i64 ((rd_T45 l0 x18_1).f3)) ∧ w'.cell? ⟨(ad326.add ((x18_1).toNat * 6)).block, (ad326.add ((x18_1).toNat * 6)).off + 4, none⟩ = some (.int .i64 ((rd_T45 l0 x18_1).f4)) ∧ w'.cell? ⟨(ad326.add ((x18_1).toNat * 6)).block, (ad326.add ((x18_1).toNat * 6)).off + 5, none⟩ = some (.slice A326_5 ((rd_T45 l0 x18_1).f5).length c326_5)) (ds := []) (annuitylaw19_BillAll.fl 49 0) (by kernel_rfl) rfl rfl ⟨hx325_0, hx325_1, hx325_2, hx325_3, hx325_4, hx325_5, ((HB.out.cell (World.block_lt_of_cell? w _ hw326_0)).trans hw326_0), ((HB.out.cell (World.block_lt_of_cell? w _ hw326_1)).trans hw326_1), ((HB.out.cell (World.block_lt_of_cell? w _ hw326_2)).trans hw326_2), ((HB.out.cell (World.block_lt_of_cell? w _ hw326_3)).trans hw326_3), ((HB.out.cell (World.block_lt_of_cell? w _ hw326_4)).trans hw326_4), ((HB.out.cell (World.block_lt_of_cell? w _ hw326_5)).trans hw326_5)⟩ (fun hHeld => ?_); refine with_tabW annuitylaw19_BillAll.tab15 annuitylaw19_BillAll.bits15 (fun HT_ HW_ => ?_)
                                  generalize wr.drew = w62 at HO_8 BK291 HB HL325_5 HR325_5 HR326_5 hx325_0 hx325_1 hx325_2 hx325_3 hx325_4 hx325_5 hx326_0 hx326_1 hx326_2 hx326_3 hx326_4 hx326_5 hHeld ⊢
                                  refine annuitylaw19_BillAll.y 0 99 49 1 HT_.out ?_
                                  refine annuitylaw19_BillAll.y 1 100 49 3 HT_.out ?_
                                  refine annuitylaw19_BillAll.y 2 101 49 7 HT_.out ?_
                                  refine annuitylaw19_BillAll.g 3 102 49 15 HT_.out ?_
                                  refine annuitylaw19_BillAll.g 4 103 49 31 HT_.out ?_
                                  refine annuitylaw19_BillAll.g 5 104 49 63 HT_.out ?_
                                  refine annuitylaw19_BillAll.g 6 105 49 127 HT_.out ?_
                                  refine annuitylaw19_BillAll.g 7 106 49 255 HT_.out ?_
                                  refine annuitylaw19_BillAll.g 8 107 49 511 HT_.out ?_
                                  refine annuitylaw19_BillAll.y 9 108 49 1023 HT_.out ?_
                                  refine annuitylaw19_BillAll.y 10 109 49 2047 HT_.out ?_
                                  refine annuitylaw19_BillAll.y 11 110 49 4095 HT_.out ?_
                                  refine annuitylaw19_BillAll.y 12 111 49 8191 HT_.out ?_
                                  refine annuitylaw19_BillAll.y 13 112 49 16383 HT_.out ?_
                                  refine annuitylaw19_BillAll.y 14 113 49 32767 HT_.out ?_
                                  refine annuitylaw19_BillAll.y 16 115 49 98303 HT_.out ?_
                                  refine annuitylaw19_BillAll.y 17 116 49 229375 HT_.out ?_
                                  refine annuitylaw19_BillAll.y 18 117 49 491519 HT_.out ?_
                                  refine annuitylaw19_BillAll.y 19 118 49 1015807 HT_.out ?_
                                  refine annuitylaw19_BillAll.t 15 114 49 1048575 HT_.out HW_.out hHeld ?_
                                  refine annuitylaw19_BillAll.t 20 119 49 2097151 HT_.out HW_.out hHeld ?_
                                  refine annuitylaw19_BillAll.y 21 120 49 4194303 HT_.out ?_
                                  refine annuitylaw19_BillAll.y 22 121 49 8388607 HT_.out ?_
                                  refine annuitylaw19_BillAll.y 23 122 49 16777215 HT_.out ?_
                                  refine annuitylaw19_BillAll.g 24 123 49 33554431 HT_.out ?_
                                  refine annuitylaw19_BillAll.g 25 124 49 67108863 HT_.out ?_
                                  refine annuitylaw19_BillAll.g 26 125 49 134217727 HT_.out ?_
                                  refine annuitylaw19_BillAll.g 27 126 49 268435455 HT_.out ?_
                                  refine annuitylaw19_BillAll.g 28 127 49 536870911 HT_.out ?_
                                  refine annuitylaw19_BillAll.g 29 128 49 1073741823 HT_.out ?_
                                  refine annuitylaw19_BillAll.g 30 129 49 2147483647 HT_.out ?_
                                  refine annuitylaw19_BillAll.g 31 130 49 4294967295 HT_.out ?_
                                  refine annuitylaw19_BillAll.g 32 131 49 8589934591 HT_.out ?_
                                  refine annuitylaw19_BillAll.g 33 132 49 17179869183 HT_.out ?_
                                  refine annuitylaw19_BillAll.g 34 133 49 34359738367 HT_.out ?_
                                  refine annuitylaw19_BillAll.g 35 134 49 68719476735 HT_.out ?_
                                  refine annuitylaw19_BillAll.g 36 135 49 137438953471 HT_.out ?_
                                  refine annuitylaw19_BillAll.g 37 136 49 274877906943 HT_.out ?_
                                  refine annuitylaw19_BillAll.g 38 137 49 549755813887 HT_.out ?_
                                  refine annuitylaw19_BillAll.g 39 138 49 1099511627775 HT_.out ?_
                                  refine annuitylaw19_BillAll.g 40 139 49 2199023255551 HT_.out ?_
                                  refine annuitylaw19_BillAll.g 41 140 49 4398046511103 HT_.out ?_
                                  refine annuitylaw19_BillAll.g 42 141 49 8796093022207 HT_.out ?_
                                  refine annuitylaw19_BillAll.g 43 142 49 17592186044415 HT_.out ?_
                                  refine annuitylaw19_BillAll.g 44 143 49 35184372088831 HT_.out ?_
                                  refine annuitylaw19_BillAll.g 45 144 49 70368744177663 HT_.out ?_
                                  refine annuitylaw19_BillAll.g 46 145 49 140737488355327 HT_.out ?_
                                  refine annuitylaw19_BillAll.g 47 146 49 281474976710655 HT_.out ?_
                                  refine annuitylaw19_BillAll.y 48 147 49 562949953421311 HT_.out ?_
                                  refine done_ (done_of HT_.out (by kernel_rfl)) ?_
                                  try go_wp2
                                  go_meet
                                  case rel => exact ⟨_, (true), (by first | rfl | (simp; done) | (simp [*]; done)), H', ⟨by have := HK1.out; first | omega | exact Nat.le_refl _⟩, ⟨by (with_reducible repeat (first | apply Kd.N_alloc | apply Kd.N_drewN | apply Kd.N_drew)); exact HO_8.out⟩, ⟨by (with_reducible repeat (first | refine blk_drewN ?_ _ | refine blk_drew ?_ | refine blk_alloc ?_ _)); exact BK291.out⟩, ⟨by repeat (first | (with_reducible first | exact HB.out | apply below_alloc | apply pw_below_drewN | apply below_drew1 | refine below_set ?_ GE291.out) | exact HB.out)⟩⟩
                                · rw [if_neg c61] at H
                                  have c61b0 : decide (((rd_T45 l0 x18_1).f2) < ((rd_T45 t300 x18_1).f2)) = false := decide_eq_false c61
                                  clear c61
                                  by_cases c63 : x18_1 > 0
                                  · rw [if_pos c63] at H
                                    have c63b0 : decide (0 < x18_1) = true := decide_eq_true c63
                                    clear c63
                                    obtain ⟨ji64, hji64⟩ : ∃ j_ : Int, (wrap64 (x18_1 - 1)) = j_ := ⟨_, rfl⟩
                                    replace H : (if 0 ≤ (ji64) then (if (ji64) < (t300.length : Int) then (if ((rd_T45 t300 (ji64)).f2) > 0 then (annuitylaw19_BillAll.j1 k1 l0 t300 t303 x17_1 x18_1 (((rd_T45 t300 x18_1).f2) != ((rd_T45 l0 x18_1).f2)) a1_0 a1_1) else (annuitylaw19_BillAll.j1 k1 l0 t300 t303 x17_1 x18_1 false a1_0 a1_1)) else (none)) else (none)) = some r := by first | (rw [hji64] at H; exact H) | (simp only [hji64] at H ⊢; exact H)
                                    have hji64w : (IntKind.i64.wrap (x18_1 - 1)) = ji64 := (i64_w _).trans hji64
                                    by_cases c65 : 0 ≤ (ji64)
                                    · rw [if_pos c65] at H
                                      have c65b0 : decide (0 ≤ (ji64)) = true := decide_eq_true c65
                                      clear c65
                                      by_cases c66 : (ji64) < (t300.length : Int)
                                      · rw [if_pos c66] at H
                                        have c66b0 : decide ((ji64) < (t300.length : Int)) = true := decide_eq_true c66
                                        clear c66
                                        by_cases c67 : ((rd_T45 t300 (ji64)).f2) > 0
                                        · rw [if_pos c67] at H
                                          have c67b0 : decide (0 < ((rd_T45 t300 (ji64)).f2)) = true := decide_eq_true c67
                                          clear c67
                                          have H' := Aside0.mk H
                                          clear H
                                          try go_wp2
                                          have n0_ := Aside0.mk (Kd.N_drew HO_8.out)
                                          have n1_ := Aside0.mk (blk_drew BK291.out)
                                          have n2_ := Aside0.mk (below_drew1 HB.out)
                                          clear HO_8
                                          clear BK291
                                          clear HB
                                          have HO_8 := n0_
                                          have BK291 := n1_
                                          have HB := n2_
                                          clear n0_ n1_ n2_
                                          have p325 : 0 ≤ (x18_1 : Int) := of_decide_eq_true (by first | (with_reducible assumption) | assumption)
                                          have q325 : x18_1 < (t300.length : Int) := of_decide_eq_true (by first | (with_reducible assumption) | assumption)
                                          obtain ⟨ad325, A325_5, c325_5, e325, hx325_0, hx325_1, hx325_2, hx325_3, hx325_4, hx325_5, hl325_5, hi325_5⟩ := at_T45 (Kd.N_reads' HO_8.out).2.2 x18_1 p325 q325
                                          cases e325
                                          obtain ⟨ce325, hce325, hMe325, hcc325⟩ := Kd.N_get HO_8.out z45 x18_1 p325 (by first | exact q325 | exact of_decide_eq_true (by first | (with_reducible assumption) | assumption) | (have e_ := (Kd.N_reads' HO_8.out).1; omega))
                                          obtain ⟨ua325_5, uc325_5, rfl, ul325_5, ge325_5⟩ := k45_openF hMe325
                                          have hv325_5 := hcc325 5 _ rfl
                                          rw [add_field _ _ 5 (by omega)] at hv325_5
                                          replace hv325_5 := Option.some.inj (hv325_5.symm.trans hx325_5)
                                          injection hv325_5 with hva_ hvn_ hvc_
                                          rw [hva_] at ge325_5
                                          rw [hvc_] at ul325_5
                                          have HL325_5 := Aside0.mk (show Kd.V (Kd.int .i64) 3 _ w.heap.size _ _ ((rd_T45 t300 x18_1).f5) from Kd.V_mk ul325_5 ge325_5)
                                          clear hva_ hvn_ hvc_ ge325_5 ul325_5
                                          clear hcc325 hce325
                                          have HR325_5 := Aside0.mk hi325_5
                                          have HC325_5 := Aside0.mk hl325_5
                                          clear hi325_5 hl325_5
                                          replace p325 := eq_true p325
                                          replace q325 := eq_true q325
                                          have p326 : 0 ≤ (x18_1 : Int) := of_decide_eq_true (by first | (with_reducible assumption) | assumption)
                                          have q326 : x18_1 < (l0.length : Int) := of_decide_eq_true (by first | (with_reducible assumption) | assumption)
                                          obtain ⟨ad326, A326_5, c326_5, e326, hx326_0, hx326_1, hx326_2, hx326_3, hx326_4, hx326_5, hl326_5, hi326_5⟩ := at_T45 HR0.out x18_1 p326 q326
                                          have hw326_5 := hx326_5
                                          have hw326_4 := hx326_4
                                          have hw326_3 := hx326_3
                                          have hw326_2 := hx326_2
                                          have hw326_1 := hx326_1
                                          have hw326_0 := hx326_0
                                          cases e326
                                          replace hx326_0 := (HB.out.cell (World.block_lt_of_cell? w _ hx326_0)).trans hx326_0
                                          replace hx326_1 := (HB.out.cell (World.block_lt_of_cell? w _ hx326_1)).trans hx326_1
                                          replace hx326_2 := (HB.out.cell (World.block_lt_of_cell? w _ hx326_2)).trans hx326_2
                                          replace hx326_3 := (HB.out.cell (World.block_lt_of_cell? w _ hx326_3)).trans hx326_3
                                          replace hx326_4 := (HB.out.cell (World.block_lt_of_cell? w _ hx326_4)).trans hx326_4
                                          replace hx326_5 := (HB.out.cell (World.block_lt_of_cell? w _ hx326_5)).trans hx326_5
                                          have HR326_5 := Aside0.mk hi326_5
                                          have HC326_5 := Aside0.mk hl326_5
                                          clear hi326_5 hl326_5
                                          replace p326 := eq_true p326
                                          replace q326 := eq_true q326
                                          have p327 : 0 ≤ ((ji64) : Int) := of_decide_eq_true (by first | (with_reducible assumption) | assumption)
                                          have q327 : (ji64) < (t300.length : Int) := of_decide_eq_true (by first | (with_reducible assumption) | assumption)
                                          obtain ⟨ad327, A327_5, c327_5, e327, hx327_0, hx327_1, hx327_2, hx327_3, hx327_4, hx327_5, hl327_5, hi327_5⟩ := at_T45 (Kd.N_reads' HO_8.out).2.2 (ji64) p327 q327
                                          obtain rfl : ad325 = ad327 := (by injection e327)
                                          obtain ⟨ce327, hce327, hMe327, hcc327⟩ := Kd.N_get HO_8.out z45 (ji64) p327 (by first | exact q327 | exact of_decide_eq_true (by first | (with_reducible assumption) | assumption) | (have e_ := (Kd.N_reads' HO_8.out).1; omega))
                                          obtain ⟨ua327_5, uc327_5, rfl, ul327_5, ge327_5⟩ := k45_openF hMe327
                                          have hv327_5 := hcc327 5 _ rfl
                                          rw [add_field _ _ 5 (by omega)] at hv327_5
                                          replace hv327_5 := Option.some.inj (hv327_5.symm.trans hx327_5)
                                          injection hv327_5 with hva_ hvn_ hvc_
                                          rw [hva_] at ge327_5
                                          rw [hvc_] at ul327_5
                                          have HL327_5 := Aside0.mk (show Kd.V (Kd.int .i64) 3 _ w.heap.size _ _ ((rd_T45 t300 (ji64)).f5) from Kd.V_mk ul327_5 ge327_5)
                                          clear hva_ hvn_ hvc_ ge327_5 ul327_5
                                          clear hcc327 hce327
                                          have HR327_5 := Aside0.mk hi327_5
                                          have HC327_5 := Aside0.mk hl327_5
                                          clear hi327_5 hl327_5
                                          replace p327 := eq_true p327
                                          replace q327 := eq_true q327
                                          have p328 : 0 ≤ (x18_1 : Int) := of_decide_eq_true (by first | (with_reducible assumption) | assumption)
                                          have q328 : x18_1 < (t300.length : Int) := of_decide_eq_true (by first | (with_reducible assumption) | assumption)
                                          obtain ⟨ad328, A328_5, c328_5, e328, hx328_0, hx328_1, hx328_2, hx328_3, hx328_4, hx328_5, hl328_5, hi328_5⟩ := at_T45 (Kd.N_reads' HO_8.out).2.2 x18_1 p328 q328
                                          obtain rfl : ad325 = ad328 := (by injection e328)
                                          obtain ⟨ce328, hce328, hMe328, hcc328⟩ := Kd.N_get HO_8.out z45 x18_1 p328 (by first | exact q328 | exact of_decide_eq_true (by first | (with_reducible assumption) | assumption) | (have e_ := (Kd.N_reads' HO_8.out).1; omega))
                                          obtain ⟨ua328_5, uc328_5, rfl, ul328_5, ge328_5⟩ := k45_openF hMe328
                                          have hv328_5 := hcc328 5 _ rfl
                                          rw [add_field _ _ 5 (by omega)] at hv328_5
                                          replace hv328_5 := Option.some.inj (hv328_5.symm.trans hx328_5)
                                          injection hv328_5 with hva_ hvn_ hvc_
                                          rw [hva_] at ge328_5
                                          rw [hvc_] at ul328_5
                                          have HL328_5 := Aside0.mk (show Kd.V (Kd.int .i64) 3 _ w.heap.size _ _ ((rd_T45 t300 x18_1).f5) from Kd.V_mk ul328_5 ge328_5)
                                          clear hva_ hvn_ hvc_ ge328_5 ul328_5
                                          clear hcc328 hce328
                                          have HR328_5 := Aside0.mk hi328_5
                                          have HC328_5 := Aside0.mk hl328_5
                                          clear hi328_5 hl328_5
                                          replace p328 := eq_true p328
                                          replace q328 := eq_true q328
                                          have ea_ := Option.some.inj (hx325_5.symm.trans hx328_5)
                                          injection ea_ with ea_ en_ ec_
                                          subst ea_
                                          subst ec_
                                          clear en_
                                          have p329 : 0 ≤ (x18_1 : Int) := of_decide_eq_true (by first | (with_reducible assumption) | assumption)
                                          have q329 : x18_1 < (l0.length : Int) := of_decide_eq_true (by first | (with_reducible assumption) | assumption)
                                          obtain ⟨ad329, A329_5, c329_5, e329, hx329_0, hx329_1, hx329_2, hx329_3, hx329_4, hx329_5, hl329_5, hi329_5⟩ := at_T45 HR0.out x18_1 p329 q329
                                          have hw329_5 := hx329_5
                                          have hw329_4 := hx329_4
                                          have hw329_3 := hx329_3
                                          have hw329_2 := hx329_2
                                          have hw329_1 := hx329_1
                                          have hw329_0 := hx329_0
                                          obtain rfl : ad326 = ad329 := (by injection e329)
                                          replace hx329_0 := (HB.out.cell (World.block_lt_of_cell? w _ hx329_0)).trans hx329_0
                                          replace hx329_1 := (HB.out.cell (World.block_lt_of_cell? w _ hx329_1)).trans hx329_1
                                          replace hx329_2 := (HB.out.cell (World.block_lt_of_cell? w _ hx329_2)).trans hx329_2
                                          replace hx329_3 := (HB.out.cell (World.block_lt_of_cell? w _ hx329_3)).trans hx329_3
                                          replace hx329_4 := (HB.out.cell (World.block_lt_of_cell? w _ hx329_4)).trans hx329_4
                                          replace hx329_5 := (HB.out.cell (World.block_lt_of_cell? w _ hx329_5)).trans hx329_5
                                          have HR329_5 := Aside0.mk hi329_5
                                          have HC329_5 := Aside0.mk hl329_5
                                          clear hi329_5 hl329_5
                                          replace p329 := eq_true p329
                                          replace q329 := eq_true q329
                                          have ea_ := Option.some.inj (hx326_5.symm.trans hx329_5)
                                          injection ea_ with ea_ en_ ec_
                                          subst ea_
                                          subst ec_
                                          clear en_
                                          refine start_ (n := 49) (S := fun w' => w'.cell? (ad325.add ((x18_1).toNat * 6)) = some (.int .i64 ((rd_T45 t300 x18_1).f0)) ∧ w'.cell? ⟨(ad325.add ((x18_1).toNat * 6)).block, (ad325.add ((x18_1).toNat * 6)).off + 1, none⟩ = some (.int .i64 ((rd_T45 t300 x18_1).f1)) ∧ w'.cell? ⟨(ad325.add ((x18_1).toNat * 6)).block, (ad325.add ((x18_1).toNat * 6)).off + 2, none⟩ = some (.int .i64 ((rd_T45 t300 x18_1).f2)) ∧ w'.cell? ⟨(ad325.add ((x18_1).toNat * 6)).block, (ad325.add ((x18_1).toNat * 6)).off + 3, none⟩ = some (.int .i64 ((rd_T45 t300 x18_1).f3)) ∧ w'.cell? ⟨(ad325.add ((x18_1).toNat * 6)).block, (ad325.add ((x18_1).toNat * 6)).off + 4, none⟩ = some (.int .i64 ((rd_T45 t300 x18_1).f4)) ∧ w'.cell? ⟨(ad325.add ((x18_1).toNat * 6)).block, (ad325.add ((x18_1).toNat * 6)).off + 5, none⟩ = some (.slice A325_5 ((rd_T45 t300 x18_1).f5).length c325_5) ∧ w'.cell? (ad326.add ((x18_1).toNat * 6)) = some (.int .i64 ((rd_T45 l0 x18_1).f0)) ∧ w'.cell? ⟨(ad326.add ((x18_1).toNat * 6)).block, (ad326.add ((x18_1).toNat * 6)).off + 1, none⟩ = some (.int .i64 ((rd_T45 l0 x18_1).f1)) ∧ w'.cell? ⟨(ad326.add ((x18_1).toNat * 6)).block, (ad326.add ((x18_1).toNat * 6)).off + 2, none⟩ = some (.int .i64 ((rd_T45 l0 x18_1).f2)) ∧ w'.cell? ⟨(ad326.add ((x18_1).toNat * 6)).block, (ad326.add ((x18_1).toNat * 6)).off + 3, none⟩ = some (.int .i64 ((rd_T45 l0 x18_1).f3)) ∧ w'.cell? ⟨(ad326.add ((x18_1).toNat * 6)).block, (ad326.add ((x18_1).toNat * 6)).off + 4, none⟩ = some (.int .i64 ((rd_T45 l0 x18_1).f4)) ∧ w'.cell? ⟨(ad326.add ((x18_1).toNat * 6)).block, (ad326.add ((x18_1).toNat * 6)).off + 5, none⟩ = some (.slice A326_5 ((rd_T45 l0 x18_1).f5).length c326_5) ∧ w'.cell? (ad325.add (((ji64)).toNat * 6)) = some (.int .i64 ((rd_T45 t300 (ji64)).f0)) ∧ w'.cell? ⟨(ad325.add (((ji64)).toNat * 6)).block, (ad325.add (((ji64)).toNat * 6)).off + 1, none⟩ = some (.int .i64 ((rd_T45 t300 (ji64)).f1)) ∧ w'.cell? ⟨(ad325.add (((ji64)).toNat * 6)).block, (ad325.add (((ji64)).toNat * 6)).off + 2, none⟩ = some (.int .i64 ((rd_T45 t300 (ji64)).f2)) ∧ w'.cell? ⟨(ad325.add (((ji64)).toNat * 6)).block, (ad325.add (((ji64)).toNat * 6)).off + 3, none⟩ = some (.int .i64 ((rd_T45 t300 (ji64)).f3)) ∧ w'.cell? ⟨(ad325.add (((ji64)).toNat * 6)).block, (ad325.add (((ji64)).toNat * 6)).off + 4, none⟩ = some (.int .i64 ((rd_T45 t300 (ji64)).f4)) ∧ w'.cell? ⟨(ad325.add (((ji64)).toNat * 6)).block, (ad325.add (((ji64)).toNat * 6)).off + 5, none⟩ = some (.slice A327_5 ((rd_T45 t300 (ji64)).f5).length c327_5) ∧ w'.cell? (ad325.add ((x18_1).toNat * 6)) = some (.int .i64 ((rd_T45 t300 x18_1).f0)) ∧ w'.cell? ⟨(ad325.add ((x18_1).toNat * 6)).block, (ad325.add ((x18_1).toNat * 6)).off + 1, none⟩ = some (.int .i64 ((rd_T45 t300 x18_1).f1)) ∧ w'.cell? ⟨(ad325.add ((x18_1).toNat * 6)).block, (ad325.add ((x18_1).toNat * 6)).off + 2, none⟩ = some (.int .i64 ((rd_T45 t300 x18_1).f2)) ∧ w'.cell? ⟨(ad325.add ((x18_1).toNat * 6)).block, (ad325.add ((x18_1).toNat * 6)).off + 3, none⟩ = some (.int .i64 ((rd_T45 t300 x18_1).f3)) ∧ w'.cell? ⟨(ad325.add ((x18_1).toNat * 6)).block, (ad325.add ((x18_1).toNat * 6)).off + 4, none⟩ = some (.int .i64 ((rd_T45 t300 x18_1).f4)) ∧ w'.cell? ⟨(ad325.add ((x18_1).toNat * 6)).block, (ad325.add ((x18_1).toNat * 6)).off + 5, none⟩ = some (.slice A325_5 ((rd_T45 t300 x18_1).f5).length c325_5) ∧ w'.cell? (ad326.add ((x18_1).toNat * 6)) = some (.int .i64 ((rd_T45 l0 x18_1).f0)) ∧ w'.cell? ⟨(ad326.add ((x18_1).toNat * 6)).block, (ad326.add ((x18_1).toNat * 6)).off + 1, none⟩ = some (.int .i64 ((rd_T45 l0 x18_1).f1)) ∧ w'.cell? ⟨(ad326.add ((x18_1).toNat * 6)).block, (ad326.add ((x18_1).toNat * 6)).off + 2, none⟩ = some (.int .i64 ((rd_T45 l0 x18_1).f2)) ∧ w'.cell? ⟨(ad326.add ((x18_1).toNat * 6)).block, (ad326.add ((x18_1).toNat * 6)).off + 3, none⟩ = some (.int .i64 ((rd_T45 l0 x18_1).f3)) ∧ w'.cell? ⟨(ad326.add ((x18_1).toNat * 6)).block, (ad326.add ((x18_1).toNat * 6)).off + 4, none⟩ = some (.int .i64 ((rd_T45 l0 x18_1).f4)) ∧ w'.cell? ⟨(ad326.add ((x18_1).toNat * 6)).block, (ad326.add ((x18_1).toNat * 6)).off + 5, none⟩ = some (.slice A326_5 ((rd_T45 l0 x18_1).f5).length c326_5)) (ds := []) (annuitylaw19_BillAll.fl 49 0) (by kernel_rfl) rfl rfl ⟨hx325_0, hx325_1, hx325_2, hx325_3, hx325_4, hx325_5, ((HB.out.cell (World.block_lt_of_cell? w _ hw326_0)).trans hw326_0), ((HB.out.cell (World.block_lt_of_cell? w _ hw326_1)).trans hw326_1), ((HB.out.cell (World.block_lt_of_cell? w _ hw326_2)).trans hw326_2), ((HB.out.cell (World.block_lt_of_cell? w _ hw326_3)).trans hw326_3), ((HB.out.cell (World.block_lt_of_cell? w _ hw326_4)).trans hw326_4), ((HB.out.cell (World.block_lt_of_cell? w _ hw326_5)).trans hw326_5), hx327_0, hx327_1, hx327_2, hx327_3, hx327_4, hx327_5, hx328_0, hx328_1, hx328_2, hx328_3, hx328_4, hx328_5, ((HB.out.cell (World.block_lt_of_cell? w _ hw329_0)).trans hw329_0), ((HB.out.cell (World.block_lt_of_cell? w _ hw329_1)).trans hw329_1), ((HB.out.cell (World.block_lt_of_cell? w _ hw329_2)).trans hw329_2), ((HB.out.cell (World.block_lt_of_cell? w _ hw329_3)).trans hw329_3), ((HB.out.cell (World.block_lt_of_cell? w _ hw329_4)).trans hw329_4), ((HB.out.cell (World.block_lt_of_cell? w _ hw329_5)).trans hw329_5)⟩ (fun hHeld => ?_); refine with_tabW annuitylaw19_BillAll.tab15 annuitylaw19_BillAll.bits15 (fun HT_ HW_ => ?_)
                                          generalize wr.drew = w68 at HO_8 BK291 HB HL325_5 HL327_5 HL328_5 HR325_5 HR326_5 HR327_5 HR328_5 HR329_5 hx325_0 hx325_1 hx325_2 hx325_3 hx325_4 hx325_5 hx326_0 hx326_1 hx326_2 hx326_3 hx326_4 hx326_5 hx327_0 hx327_1 hx327_2 hx327_3 hx327_4 hx327_5 hx328_0 hx328_1 hx328_2 hx328_3 hx328_4 hx328_5 hx329_0 hx329_1 hx329_2 hx329_3 hx329_4 hx329_5 hHeld ⊢
                                          refine annuitylaw19_BillAll.y 0 99 49 1 HT_.out ?_
                                          refine annuitylaw19_BillAll.y 1 100 49 3 HT_.out ?_
                                          refine annuitylaw19_BillAll.y 2 101 49 7 HT_.out ?_
                                          refine annuitylaw19_BillAll.g 3 102 49 15 HT_.out ?_
                                          refine annuitylaw19_BillAll.g 4 103 49 31 HT_.out ?_
                                          refine annuitylaw19_BillAll.g 5 104 49 63 HT_.out ?_
                                          refine annuitylaw19_BillAll.g 6 105 49 127 HT_.out ?_
                                          refine annuitylaw19_BillAll.g 7 106 49 255 HT_.out ?_
                                          refine annuitylaw19_BillAll.g 8 107 49 511 HT_.out ?_
                                          refine annuitylaw19_BillAll.y 9 108 49 1023 HT_.out ?_
                                          refine annuitylaw19_BillAll.y 10 109 49 2047 HT_.out ?_
                                          refine annuitylaw19_BillAll.y 11 110 49 4095 HT_.out ?_
                                          refine annuitylaw19_BillAll.y 12 111 49 8191 HT_.out ?_
                                          refine annuitylaw19_BillAll.y 13 112 49 16383 HT_.out ?_
                                          refine annuitylaw19_BillAll.y 14 113 49 32767 HT_.out ?_
                                          refine annuitylaw19_BillAll.y 16 115 49 98303 HT_.out ?_
                                          refine annuitylaw19_BillAll.y 17 116 49 229375 HT_.out ?_
                                          refine annuitylaw19_BillAll.y 18 117 49 491519 HT_.out ?_
                                          refine annuitylaw19_BillAll.y 19 118 49 1015807 HT_.out ?_
                                          refine annuitylaw19_BillAll.t 15 114 49 1048575 HT_.out HW_.out hHeld ?_
                                          refine annuitylaw19_BillAll.t 20 119 49 2097151 HT_.out HW_.out hHeld ?_
                                          refine annuitylaw19_BillAll.y 21 120 49 4194303 HT_.out ?_
                                          refine annuitylaw19_BillAll.y 22 121 49 8388607 HT_.out ?_
                                          refine annuitylaw19_BillAll.y 23 122 49 16777215 HT_.out ?_
                                          refine annuitylaw19_BillAll.y 24 123 49 33554431 HT_.out ?_
                                          refine annuitylaw19_BillAll.y 25 124 49 67108863 HT_.out ?_
                                          refine annuitylaw19_BillAll.y 26 125 49 134217727 HT_.out ?_
                                          refine annuitylaw19_BillAll.y 27 126 49 268435455 HT_.out ?_
                                          refine annuitylaw19_BillAll.y 28 127 49 536870911 HT_.out ?_
                                          refine annuitylaw19_BillAll.y 29 128 49 1073741823 HT_.out ?_
                                          refine annuitylaw19_BillAll.y 30 129 49 2147483647 HT_.out ?_
                                          refine annuitylaw19_BillAll.y 31 130 49 4294967295 HT_.out ?_
                                          refine annuitylaw19_BillAll.t 32 131 49 8589934591 HT_.out HW_.out hHeld ?_
                                          refine annuitylaw19_BillAll.y 33 132 49 17179869183 HT_.out ?_
                                          refine annuitylaw19_BillAll.y 34 133 49 34359738367 HT_.out ?_
                                          refine annuitylaw19_BillAll.y 35 134 49 68719476735 HT_.out ?_
                                          refine annuitylaw19_BillAll.y 36 135 49 137438953471 HT_.out ?_
                                          refine annuitylaw19_BillAll.y 37 136 49 274877906943 HT_.out ?_
                                          refine annuitylaw19_BillAll.y 38 137 49 549755813887 HT_.out ?_
                                          refine annuitylaw19_BillAll.y 39 138 49 1099511627775 HT_.out ?_
                                          refine annuitylaw19_BillAll.y 41 140 49 3298534883327 HT_.out ?_
                                          refine annuitylaw19_BillAll.y 42 141 49 7696581394431 HT_.out ?_
                                          refine annuitylaw19_BillAll.y 43 142 49 16492674416639 HT_.out ?_
                                          refine annuitylaw19_BillAll.y 44 143 49 34084860461055 HT_.out ?_
                                          refine annuitylaw19_BillAll.t 40 139 49 35184372088831 HT_.out HW_.out hHeld ?_
                                          refine annuitylaw19_BillAll.t 45 144 49 70368744177663 HT_.out HW_.out hHeld ?_
                                          refine annuitylaw19_BillAll.y 46 145 49 140737488355327 HT_.out ?_
                                          refine annuitylaw19_BillAll.y 47 146 49 281474976710655 HT_.out ?_
                                          refine annuitylaw19_BillAll.y 48 147 49 562949953421311 HT_.out ?_
                                          refine done_ (done_of HT_.out (by kernel_rfl)) ?_
                                          try go_wp2
                                          go_meet
                                          case rel => exact ⟨_, ((((rd_T45 t300 x18_1).f2) != ((rd_T45 l0 x18_1).f2))), (by first | rfl | (simp; done) | (simp [*]; done)), H', ⟨by have := HK1.out; first | omega | exact Nat.le_refl _⟩, ⟨by (with_reducible repeat (first | apply Kd.N_alloc | apply Kd.N_drewN | apply Kd.N_drew)); exact HO_8.out⟩, ⟨by (with_reducible repeat (first | refine blk_drewN ?_ _ | refine blk_drew ?_ | refine blk_alloc ?_ _)); exact BK291.out⟩, ⟨by repeat (first | (with_reducible first | exact HB.out | apply below_alloc | apply pw_below_drewN | apply below_drew1 | refine below_set ?_ GE291.out) | exact HB.out)⟩⟩
                                        · rw [if_neg c67] at H
                                          have c67b0 : decide (0 < ((rd_T45 t300 (ji64)).f2)) = false := decide_eq_false c67
                                          clear c67
                                          have H' := Aside0.mk H
                                          clear H
                                          try go_wp2
                                          have n0_ := Aside0.mk (Kd.N_drew HO_8.out)
                                          have n1_ := Aside0.mk (blk_drew BK291.out)
                                          have n2_ := Aside0.mk (below_drew1 HB.out)
                                          clear HO_8
                                          clear BK291
                                          clear HB
                                          have HO_8 := n0_
                                          have BK291 := n1_
                                          have HB := n2_
                                          clear n0_ n1_ n2_
                                          have p325 : 0 ≤ (x18_1 : Int) := of_decide_eq_true (by first | (with_reducible assumption) | assumption)
                                          have q325 : x18_1 < (t300.length : Int) := of_decide_eq_true (by first | (with_reducible assumption) | assumption)
                                          obtain ⟨ad325, A325_5, c325_5, e325, hx325_0, hx325_1, hx325_2, hx325_3, hx325_4, hx325_5, hl325_5, hi325_5⟩ := at_T45 (Kd.N_reads' HO_8.out).2.2 x18_1 p325 q325
                                          cases e325
                                          obtain ⟨ce325, hce325, hMe325, hcc325⟩ := Kd.N_get HO_8.out z45 x18_1 p325 (by first | exact q325 | exact of_decide_eq_true (by first | (with_reducible assumption) | assumption) | (have e_ := (Kd.N_reads' HO_8.out).1; omega))
                                          obtain ⟨ua325_5, uc325_5, rfl, ul325_5, ge325_5⟩ := k45_openF hMe325
                                          have hv325_5 := hcc325 5 _ rfl
                                          rw [add_field _ _ 5 (by omega)] at hv325_5
                                          replace hv325_5 := Option.some.inj (hv325_5.symm.trans hx325_5)
                                          injection hv325_5 with hva_ hvn_ hvc_
                                          rw [hva_] at ge325_5
                                          rw [hvc_] at ul325_5
                                          have HL325_5 := Aside0.mk (show Kd.V (Kd.int .i64) 3 _ w.heap.size _ _ ((rd_T45 t300 x18_1).f5) from Kd.V_mk ul325_5 ge325_5)
                                          clear hva_ hvn_ hvc_ ge325_5 ul325_5
                                          clear hcc325 hce325
                                          have HR325_5 := Aside0.mk hi325_5
                                          have HC325_5 := Aside0.mk hl325_5
                                          clear hi325_5 hl325_5
                                          replace p325 := eq_true p325
                                          replace q325 := eq_true q325
                                          have p326 : 0 ≤ (x18_1 : Int) := of_decide_eq_true (by first | (with_reducible assumption) | assumption)
                                          have q326 : x18_1 < (l0.length : Int) := of_decide_eq_true (by first | (with_reducible assumption) | assumption)
                                          obtain ⟨ad326, A326_5, c326_5, e326, hx326_0, hx326_1, hx326_2, hx326_3, hx326_4, hx326_5, hl326_5, hi326_5⟩ := at_T45 HR0.out x18_1 p326 q326
                                          have hw326_5 := hx326_5
                                          have hw326_4 := hx326_4
                                          have hw326_3 := hx326_3
                                          have hw326_2 := hx326_2
                                          have hw326_1 := hx326_1
                                          have hw326_0 := hx326_0
                                          cases e326
                                          replace hx326_0 := (HB.out.cell (World.block_lt_of_cell? w _ hx326_0)).trans hx326_0
                                          replace hx326_1 := (HB.out.cell (World.block_lt_of_cell? w _ hx326_1)).trans hx326_1
                                          replace hx326_2 := (HB.out.cell (World.block_lt_of_cell? w _ hx326_2)).trans hx326_2
                                          replace hx326_3 := (HB.out.cell (World.block_lt_of_cell? w _ hx326_3)).trans hx326_3
                                          replace hx326_4 := (HB.out.cell (World.block_lt_of_cell? w _ hx326_4)).trans hx326_4
                                          replace hx326_5 := (HB.out.cell (World.block_lt_of_cell? w _ hx326_5)).trans hx326_5
                                          have HR326_5 := Aside0.mk hi326_5
                                          have HC326_5 := Aside0.mk hl326_5
                                          clear hi326_5 hl326_5
                                          replace p326 := eq_true p326
                                          replace q326 := eq_true q326
                                          have p327 : 0 ≤ ((ji64) : Int) := of_decide_eq_true (by first | (with_reducible assumption) | assumption)
                                          have q327 : (ji64) < (t300.length : Int) := of_decide_eq_true (by first | (with_reducible assumption) | assumption)
                                          obtain ⟨ad327, A327_5, c327_5, e327, hx327_0, hx327_1, hx327_2, hx327_3, hx327_4, hx327_5, hl327_5, hi327_5⟩ := at_T45 (Kd.N_reads' HO_8.out).2.2 (ji64) p327 q327
                                          obtain rfl : ad325 = ad327 := (by injection e327)
                                          obtain ⟨ce327, hce327, hMe327, hcc327⟩ := Kd.N_get HO_8.out z45 (ji64) p327 (by first | exact q327 | exact of_decide_eq_true (by first | (with_reducible assumption) | assumption) | (have e_ := (Kd.N_reads' HO_8.out).1; omega))
                                          obtain ⟨ua327_5, uc327_5, rfl, ul327_5, ge327_5⟩ := k45_openF hMe327
                                          have hv327_5 := hcc327 5 _ rfl
                                          rw [add_field _ _ 5 (by omega)] at hv327_5
                                          replace hv327_5 := Option.some.inj (hv327_5.symm.trans hx327_5)
                                          injection hv327_5 with hva_ hvn_ hvc_
                                          rw [hva_] at ge327_5
                                          rw [hvc_] at ul327_5
                                          have HL327_5 := Aside0.mk (show Kd.V (Kd.int .i64) 3 _ w.heap.size _ _ ((rd_T45 t300 (ji64)).f5) from Kd.V_mk ul327_5 ge327_5)
                                          clear hva_ hvn_ hvc_ ge327_5 ul327_5
                                          clear hcc327 hce327
                                          have HR327_5 := Aside0.mk hi327_5
                                          have HC327_5 := Aside0.mk hl327_5
                                          clear hi327_5 hl327_5
                                          replace p327 := eq_true p327
                                          replace q327 := eq_true q327
                                          refine start_ (n := 49) (S := fun w' => w'.cell? (ad325.add ((x18_1).toNat * 6)) = some (.int .i64 ((rd_T45 t300 x18_1).f0)) ∧ w'.cell? ⟨(ad325.add ((x18_1).toNat * 6)).block, (ad325.add ((x18_1).toNat * 6)).off + 1, none⟩ = some (.int .i64 ((rd_T45 t300 x18_1).f1)) ∧ w'.cell? ⟨(ad325.add ((x18_1).toNat * 6)).block, (ad325.add ((x18_1).toNat * 6)).off + 2, none⟩ = some (.int .i64 ((rd_T45 t300 x18_1).f2)) ∧ w'.cell? ⟨(ad325.add ((x18_1).toNat * 6)).block, (ad325.add ((x18_1).toNat * 6)).off + 3, none⟩ = some (.int .i64 ((rd_T45 t300 x18_1).f3)) ∧ w'.cell? ⟨(ad325.add ((x18_1).toNat * 6)).block, (ad325.add ((x18_1).toNat * 6)).off + 4, none⟩ = some (.int .i64 ((rd_T45 t300 x18_1).f4)) ∧ w'.cell? ⟨(ad325.add ((x18_1).toNat * 6)).block, (ad325.add ((x18_1).toNat * 6)).off + 5, none⟩ = some (.slice A325_5 ((rd_T45 t300 x18_1).f5).length c325_5) ∧ w'.cell? (ad326.add ((x18_1).toNat * 6)) = some (.int .i64 ((rd_T45 l0 x18_1).f0)) ∧ w'.cell? ⟨(ad326.add ((x18_1).toNat * 6)).block, (ad326.add ((x18_1).toNat * 6)).off + 1, none⟩ = some (.int .i64 ((rd_T45 l0 x18_1).f1)) ∧ w'.cell? ⟨(ad326.add ((x18_1).toNat * 6)).block, (ad326.add ((x18_1).toNat * 6)).off + 2, none⟩ = some (.int .i64 ((rd_T45 l0 x18_1).f2)) ∧ w'.cell? ⟨(ad326.add ((x18_1).toNat * 6)).block, (ad326.add ((x18_1).toNat * 6)).off + 3, none⟩ = some (.int .i64 ((rd_T45 l0 x18_1).f3)) ∧ w'.cell? ⟨(ad326.add ((x18_1).toNat * 6)).block, (ad326.add ((x18_1).toNat * 6)).off + 4, none⟩ = some (.int .i64 ((rd_T45 l0 x18_1).f4)) ∧ w'.cell? ⟨(ad326.add ((x18_1).toNat * 6)).block, (ad326.add ((x18_1).toNat * 6)).off + 5, none⟩ = some (.slice A326_5 ((rd_T45 l0 x18_1).f5).length c326_5) ∧ w'.cell? (ad325.add (((ji64)).toNat * 6)) = some (.int .i64 ((rd_T45 t300 (ji64)).f0)) ∧ w'.cell? ⟨(ad325.add (((ji64)).toNat * 6)).block, (ad325.add (((ji64)).toNat * 6)).off + 1, none⟩ = some (.int .i64 ((rd_T45 t300 (ji64)).f1)) ∧ w'.cell? ⟨(ad325.add (((ji64)).toNat * 6)).block, (ad325.add (((ji64)).toNat * 6)).off + 2, none⟩ = some (.int .i64 ((rd_T45 t300 (ji64)).f2)) ∧ w'.cell? ⟨(ad325.add (((ji64)).toNat * 6)).block, (ad325.add (((ji64)).toNat * 6)).off + 3, none⟩ = some (.int .i64 ((rd_T45 t300 (ji64)).f3)) ∧ w'.cell? ⟨(ad325.add (((ji64)).toNat * 6)).block, (ad325.add (((ji64)).toNat * 6)).off + 4, none⟩ = some (.int .i64 ((rd_T45 t300 (ji64)).f4)) ∧ w'.cell? ⟨(ad325.add (((ji64)).toNat * 6)).block, (ad325.add (((ji64)).toNat * 6)).off + 5, none⟩ = some (.slice A327_5 ((rd_T45 t300 (ji64)).f5).length c327_5)) (ds := []) (annuitylaw19_BillAll.fl 49 0) (by kernel_rfl) rfl rfl ⟨hx325_0, hx325_1, hx325_2, hx325_3, hx325_4, hx325_5, ((HB.out.cell (World.block_lt_of_cell? w _ hw326_0)).trans hw326_0), ((HB.out.cell (World.block_lt_of_cell? w _ hw326_1)).trans hw326_1), ((HB.out.cell (World.block_lt_of_cell? w _ hw326_2)).trans hw326_2), ((HB.out.cell (World.block_lt_of_cell? w _ hw326_3)).trans hw326_3), ((HB.out.cell (World.block_lt_of_cell? w _ hw326_4)).trans hw326_4), ((HB.out.cell (World.block_lt_of_cell? w _ hw326_5)).trans hw326_5), hx327_0, hx327_1, hx327_2, hx327_3, hx327_4, hx327_5⟩ (fun hHeld => ?_); refine with_tabW annuitylaw19_BillAll.tab15 annuitylaw19_BillAll.bits15 (fun HT_ HW_ => ?_)
                                          generalize wr.drew = w69 at HO_8 BK291 HB HL325_5 HL327_5 HR325_5 HR326_5 HR327_5 hx325_0 hx325_1 hx325_2 hx325_3 hx325_4 hx325_5 hx326_0 hx326_1 hx326_2 hx326_3 hx326_4 hx326_5 hx327_0 hx327_1 hx327_2 hx327_3 hx327_4 hx327_5 hHeld ⊢
                                          refine annuitylaw19_BillAll.y 0 99 49 1 HT_.out ?_
                                          refine annuitylaw19_BillAll.y 1 100 49 3 HT_.out ?_
                                          refine annuitylaw19_BillAll.y 2 101 49 7 HT_.out ?_
                                          refine annuitylaw19_BillAll.g 3 102 49 15 HT_.out ?_
                                          refine annuitylaw19_BillAll.g 4 103 49 31 HT_.out ?_
                                          refine annuitylaw19_BillAll.g 5 104 49 63 HT_.out ?_
                                          refine annuitylaw19_BillAll.g 6 105 49 127 HT_.out ?_
                                          refine annuitylaw19_BillAll.g 7 106 49 255 HT_.out ?_
                                          refine annuitylaw19_BillAll.g 8 107 49 511 HT_.out ?_
                                          refine annuitylaw19_BillAll.y 9 108 49 1023 HT_.out ?_
                                          refine annuitylaw19_BillAll.y 10 109 49 2047 HT_.out ?_
                                          refine annuitylaw19_BillAll.y 11 110 49 4095 HT_.out ?_
                                          refine annuitylaw19_BillAll.y 12 111 49 8191 HT_.out ?_
                                          refine annuitylaw19_BillAll.y 13 112 49 16383 HT_.out ?_
                                          refine annuitylaw19_BillAll.y 14 113 49 32767 HT_.out ?_
                                          refine annuitylaw19_BillAll.y 16 115 49 98303 HT_.out ?_
                                          refine annuitylaw19_BillAll.y 17 116 49 229375 HT_.out ?_
                                          refine annuitylaw19_BillAll.y 18 117 49 491519 HT_.out ?_
                                          refine annuitylaw19_BillAll.y 19 118 49 1015807 HT_.out ?_
                                          refine annuitylaw19_BillAll.t 15 114 49 1048575 HT_.out HW_.out hHeld ?_
                                          refine annuitylaw19_BillAll.t 20 119 49 2097151 HT_.out HW_.out hHeld ?_
                                          refine annuitylaw19_BillAll.y 21 120 49 4194303 HT_.out ?_
                                          refine annuitylaw19_BillAll.y 22 121 49 8388607 HT_.out ?_
                                          refine annuitylaw19_BillAll.y 23 122 49 16777215 HT_.out ?_
                                          refine annuitylaw19_BillAll.y 24 123 49 33554431 HT_.out ?_
                                          refine annuitylaw19_BillAll.y 25 124 49 67108863 HT_.out ?_
                                          refine annuitylaw19_BillAll.y 26 125 49 134217727 HT_.out ?_
                                          refine annuitylaw19_BillAll.y 27 126 49 268435455 HT_.out ?_
                                          refine annuitylaw19_BillAll.y 28 127 49 536870911 HT_.out ?_
                                          refine annuitylaw19_BillAll.y 29 128 49 1073741823 HT_.out ?_
                                          refine annuitylaw19_BillAll.y 30 129 49 2147483647 HT_.out ?_
                                          refine annuitylaw19_BillAll.y 31 130 49 4294967295 HT_.out ?_
                                          refine annuitylaw19_BillAll.t 32 131 49 8589934591 HT_.out HW_.out hHeld ?_
                                          refine annuitylaw19_BillAll.y 33 132 49 17179869183 HT_.out ?_
                                          refine annuitylaw19_BillAll.y 34 133 49 34359738367 HT_.out ?_
                                          refine annuitylaw19_BillAll.y 35 134 49 68719476735 HT_.out ?_
                                          refine annuitylaw19_BillAll.g 36 135 49 137438953471 HT_.out ?_
                                          refine annuitylaw19_BillAll.g 37 136 49 274877906943 HT_.out ?_
                                          refine annuitylaw19_BillAll.g 38 137 49 549755813887 HT_.out ?_
                                          refine annuitylaw19_BillAll.g 39 138 49 1099511627775 HT_.out ?_
                                          refine annuitylaw19_BillAll.g 40 139 49 2199023255551 HT_.out ?_
                                          refine annuitylaw19_BillAll.g 41 140 49 4398046511103 HT_.out ?_
                                          refine annuitylaw19_BillAll.g 42 141 49 8796093022207 HT_.out ?_
                                          refine annuitylaw19_BillAll.g 43 142 49 17592186044415 HT_.out ?_
                                          refine annuitylaw19_BillAll.g 44 143 49 35184372088831 HT_.out ?_
                                          refine annuitylaw19_BillAll.g 45 144 49 70368744177663 HT_.out ?_
                                          refine annuitylaw19_BillAll.g 46 145 49 140737488355327 HT_.out ?_
                                          refine annuitylaw19_BillAll.y 47 146 49 281474976710655 HT_.out ?_
                                          refine annuitylaw19_BillAll.y 48 147 49 562949953421311 HT_.out ?_
                                          refine done_ (done_of HT_.out (by kernel_rfl)) ?_
                                          try go_wp2
                                          go_meet
                                          case rel => exact ⟨_, (false), (by first | rfl | (simp; done) | (simp [*]; done)), H', ⟨by have := HK1.out; first | omega | exact Nat.le_refl _⟩, ⟨by (with_reducible repeat (first | apply Kd.N_alloc | apply Kd.N_drewN | apply Kd.N_drew)); exact HO_8.out⟩, ⟨by (with_reducible repeat (first | refine blk_drewN ?_ _ | refine blk_drew ?_ | refine blk_alloc ?_ _)); exact BK291.out⟩, ⟨by repeat (first | (with_reducible first | exact HB.out | apply below_alloc | apply pw_below_drewN | apply below_drew1 | refine below_set ?_ GE291.out) | exact HB.out)⟩⟩
                                      · rw [if_neg c66] at H
                                        exact absurd H (by simp)
                                    · rw [if_neg c65] at H
                                      exact absurd H (by simp)
                                  · rw [if_neg c63] at H
                                    have c63b0 : decide (0 < x18_1) = false := decide_eq_false c63
                                    clear c63
                                    have H' := Aside0.mk H
                                    clear H
                                    try go_wp2
                                    have n0_ := Aside0.mk (Kd.N_drew HO_8.out)
                                    have n1_ := Aside0.mk (blk_drew BK291.out)
                                    have n2_ := Aside0.mk (below_drew1 HB.out)
                                    clear HO_8
                                    clear BK291
                                    clear HB
                                    have HO_8 := n0_
                                    have BK291 := n1_
                                    have HB := n2_
                                    clear n0_ n1_ n2_
                                    have p325 : 0 ≤ (x18_1 : Int) := of_decide_eq_true (by first | (with_reducible assumption) | assumption)
                                    have q325 : x18_1 < (t300.length : Int) := of_decide_eq_true (by first | (with_reducible assumption) | assumption)
                                    obtain ⟨ad325, A325_5, c325_5, e325, hx325_0, hx325_1, hx325_2, hx325_3, hx325_4, hx325_5, hl325_5, hi325_5⟩ := at_T45 (Kd.N_reads' HO_8.out).2.2 x18_1 p325 q325
                                    cases e325
                                    obtain ⟨ce325, hce325, hMe325, hcc325⟩ := Kd.N_get HO_8.out z45 x18_1 p325 (by first | exact q325 | exact of_decide_eq_true (by first | (with_reducible assumption) | assumption) | (have e_ := (Kd.N_reads' HO_8.out).1; omega))
                                    obtain ⟨ua325_5, uc325_5, rfl, ul325_5, ge325_5⟩ := k45_openF hMe325
                                    have hv325_5 := hcc325 5 _ rfl
                                    rw [add_field _ _ 5 (by omega)] at hv325_5
                                    replace hv325_5 := Option.some.inj (hv325_5.symm.trans hx325_5)
                                    injection hv325_5 with hva_ hvn_ hvc_
                                    rw [hva_] at ge325_5
                                    rw [hvc_] at ul325_5
                                    have HL325_5 := Aside0.mk (show Kd.V (Kd.int .i64) 3 _ w.heap.size _ _ ((rd_T45 t300 x18_1).f5) from Kd.V_mk ul325_5 ge325_5)
                                    clear hva_ hvn_ hvc_ ge325_5 ul325_5
                                    clear hcc325 hce325
                                    have HR325_5 := Aside0.mk hi325_5
                                    have HC325_5 := Aside0.mk hl325_5
                                    clear hi325_5 hl325_5
                                    replace p325 := eq_true p325
                                    replace q325 := eq_true q325
                                    have p326 : 0 ≤ (x18_1 : Int) := of_decide_eq_true (by first | (with_reducible assumption) | assumption)
                                    have q326 : x18_1 < (l0.length : Int) := of_decide_eq_true (by first | (with_reducible assumption) | assumption)
                                    obtain ⟨ad326, A326_5, c326_5, e326, hx326_0, hx326_1, hx326_2, hx326_3, hx326_4, hx326_5, hl326_5, hi326_5⟩ := at_T45 HR0.out x18_1 p326 q326
                                    have hw326_5 := hx326_5
                                    have hw326_4 := hx326_4
                                    have hw326_3 := hx326_3
                                    have hw326_2 := hx326_2
                                    have hw326_1 := hx326_1
                                    have hw326_0 := hx326_0
                                    cases e326
                                    replace hx326_0 := (HB.out.cell (World.block_lt_of_cell? w _ hx326_0)).trans hx326_0
                                    replace hx326_1 := (HB.out.cell (World.block_lt_of_cell? w _ hx326_1)).trans hx326_1
                                    replace hx326_2 := (HB.out.cell (World.block_lt_of_cell? w _ hx326_2)).trans hx326_2
                                    replace hx326_3 := (HB.out.cell (World.block_lt_of_cell? w _ hx326_3)).trans hx326_3
                                    replace hx326_4 := (HB.out.cell (World.block_lt_of_cell? w _ hx326_4)).trans hx326_4
                                    replace hx326_5 := (HB.out.cell (World.block_lt_of_cell? w _ hx326_5)).trans hx326_5
                                    have HR326_5 := Aside0.mk hi326_5
                                    have HC326_5 := Aside0.mk hl326_5
                                    clear hi326_5 hl326_5
                                    replace p326 := eq_true p326
                                    replace q326 := eq_true q326
                                    refine start_ (n := 49) (S := fun w' => w'.cell? (ad325.add ((x18_1).toNat * 6)) = some (.int .i64 ((rd_T45 t300 x18_1).f0)) ∧ w'.cell? ⟨(ad325.add ((x18_1).toNat * 6)).block, (ad325.add ((x18_1).toNat * 6)).off + 1, none⟩ = some (.int .i64 ((rd_T45 t300 x18_1).f1)) ∧ w'.cell? ⟨(ad325.add ((x18_1).toNat * 6)).block, (ad325.add ((x18_1).toNat * 6)).off + 2, none⟩ = some (.int .i64 ((rd_T45 t300 x18_1).f2)) ∧ w'.cell? ⟨(ad325.add ((x18_1).toNat * 6)).block, (ad325.add ((x18_1).toNat * 6)).off + 3, none⟩ = some (.int .i64 ((rd_T45 t300 x18_1).f3)) ∧ w'.cell? ⟨(ad325.add ((x18_1).toNat * 6)).block, (ad325.add ((x18_1).toNat * 6)).off + 4, none⟩ = some (.int .i64 ((rd_T45 t300 x18_1).f4)) ∧ w'.cell? ⟨(ad325.add ((x18_1).toNat * 6)).block, (ad325.add ((x18_1).toNat * 6)).off + 5, none⟩ = some (.slice A325_5 ((rd_T45 t300 x18_1).f5).length c325_5) ∧ w'.cell? (ad326.add ((x18_1).toNat * 6)) = some (.int .i64 ((rd_T45 l0 x18_1).f0)) ∧ w'.cell? ⟨(ad326.add ((x18_1).toNat * 6)).block, (ad326.add ((x18_1).toNat * 6)).off + 1, none⟩ = some (.int .i64 ((rd_T45 l0 x18_1).f1)) ∧ w'.cell? ⟨(ad326.add ((x18_1).toNat * 6)).block, (ad326.add ((x18_1).toNat * 6)).off + 2, none⟩ = some (.int .i64 ((rd_T45 l0 x18_1).f2)) ∧ w'.cell? ⟨(ad326.add ((x18_1).toNat * 6)).block, (ad326.add ((x18_1).toNat * 6)).off + 3, none⟩ = some (.int .i64 ((rd_T45 l0 x18_1).f3)) ∧ w'.cell? ⟨(ad326.add ((x18_1).toNat * 6)).block, (ad326.add ((x18_1).toNat * 6)).off + 4, none⟩ = some (.int .i64 ((rd_T45 l0 x18_1).f4)) ∧ w'.cell? ⟨(ad326.add ((x18_1).toNat * 6)).block, (ad326.add ((x18_1).toNat * 6)).off + 5, none⟩ = some (.slice A326_5 ((rd_T45 l0 x18_1).f5).length c326_5)) (ds := []) (annuitylaw19_BillAll.fl 49 0) (by kernel_rfl) rfl rfl ⟨hx325_0, hx325_1, hx325_2, hx325_3, hx325_4, hx325_5, ((HB.out.cell (World.block_lt_of_cell? w _ hw326_0)).trans hw326_0), ((HB.out.cell (World.block_lt_of_cell? w _ hw326_1)).trans hw326_1), ((HB.out.cell (World.block_lt_of_cell? w _ hw326_2)).trans hw326_2), ((HB.out.cell (World.block_lt_of_cell? w _ hw326_3)).trans hw326_3), ((HB.out.cell (World.block_lt_of_cell? w _ hw326_4)).trans hw326_4), ((HB.out.cell (World.block_lt_of_cell? w _ hw326_5)).trans hw326_5)⟩ (fun hHeld => ?_); refine with_tabW annuitylaw19_BillAll.tab15 annuitylaw19_BillAll.bits15 (fun HT_ HW_ => ?_)
                                    generalize wr.drew = w70 at HO_8 BK291 HB HL325_5 HR325_5 HR326_5 hx325_0 hx325_1 hx325_2 hx325_3 hx325_4 hx325_5 hx326_0 hx326_1 hx326_2 hx326_3 hx326_4 hx326_5 hHeld ⊢
                                    refine annuitylaw19_BillAll.y 0 99 49 1 HT_.out ?_
                                    refine annuitylaw19_BillAll.y 1 100 49 3 HT_.out ?_
                                    refine annuitylaw19_BillAll.y 2 101 49 7 HT_.out ?_
                                    refine annuitylaw19_BillAll.g 3 102 49 15 HT_.out ?_
                                    refine annuitylaw19_BillAll.g 4 103 49 31 HT_.out ?_
                                    refine annuitylaw19_BillAll.g 5 104 49 63 HT_.out ?_
                                    refine annuitylaw19_BillAll.g 6 105 49 127 HT_.out ?_
                                    refine annuitylaw19_BillAll.g 7 106 49 255 HT_.out ?_
                                    refine annuitylaw19_BillAll.g 8 107 49 511 HT_.out ?_
                                    refine annuitylaw19_BillAll.y 9 108 49 1023 HT_.out ?_
                                    refine annuitylaw19_BillAll.y 10 109 49 2047 HT_.out ?_
                                    refine annuitylaw19_BillAll.y 11 110 49 4095 HT_.out ?_
                                    refine annuitylaw19_BillAll.y 12 111 49 8191 HT_.out ?_
                                    refine annuitylaw19_BillAll.y 13 112 49 16383 HT_.out ?_
                                    refine annuitylaw19_BillAll.y 14 113 49 32767 HT_.out ?_
                                    refine annuitylaw19_BillAll.y 16 115 49 98303 HT_.out ?_
                                    refine annuitylaw19_BillAll.y 17 116 49 229375 HT_.out ?_
                                    refine annuitylaw19_BillAll.y 18 117 49 491519 HT_.out ?_
                                    refine annuitylaw19_BillAll.y 19 118 49 1015807 HT_.out ?_
                                    refine annuitylaw19_BillAll.t 15 114 49 1048575 HT_.out HW_.out hHeld ?_
                                    refine annuitylaw19_BillAll.t 20 119 49 2097151 HT_.out HW_.out hHeld ?_
                                    refine annuitylaw19_BillAll.y 21 120 49 4194303 HT_.out ?_
                                    refine annuitylaw19_BillAll.y 22 121 49 8388607 HT_.out ?_
                                    refine annuitylaw19_BillAll.y 23 122 49 16777215 HT_.out ?_
                                    refine annuitylaw19_BillAll.y 24 123 49 33554431 HT_.out ?_
                                    refine annuitylaw19_BillAll.y 25 124 49 67108863 HT_.out ?_
                                    refine annuitylaw19_BillAll.y 26 125 49 134217727 HT_.out ?_
                                    refine annuitylaw19_BillAll.g 27 126 49 268435455 HT_.out ?_
                                    refine annuitylaw19_BillAll.g 28 127 49 536870911 HT_.out ?_
                                    refine annuitylaw19_BillAll.g 29 128 49 1073741823 HT_.out ?_
                                    refine annuitylaw19_BillAll.g 30 129 49 2147483647 HT_.out ?_
                                    refine annuitylaw19_BillAll.g 31 130 49 4294967295 HT_.out ?_
                                    refine annuitylaw19_BillAll.g 32 131 49 8589934591 HT_.out ?_
                                    refine annuitylaw19_BillAll.g 33 132 49 17179869183 HT_.out ?_
                                    refine annuitylaw19_BillAll.y 34 133 49 34359738367 HT_.out ?_
                                    refine annuitylaw19_BillAll.y 35 134 49 68719476735 HT_.out ?_
                                    refine annuitylaw19_BillAll.g 36 135 49 137438953471 HT_.out ?_
                                    refine annuitylaw19_BillAll.g 37 136 49 274877906943 HT_.out ?_
                                    refine annuitylaw19_BillAll.g 38 137 49 549755813887 HT_.out ?_
                                    refine annuitylaw19_BillAll.g 39 138 49 1099511627775 HT_.out ?_
                                    refine annuitylaw19_BillAll.g 40 139 49 2199023255551 HT_.out ?_
                                    refine annuitylaw19_BillAll.g 41 140 49 4398046511103 HT_.out ?_
                                    refine annuitylaw19_BillAll.g 42 141 49 8796093022207 HT_.out ?_
                                    refine annuitylaw19_BillAll.g 43 142 49 17592186044415 HT_.out ?_
                                    refine annuitylaw19_BillAll.g 44 143 49 35184372088831 HT_.out ?_
                                    refine annuitylaw19_BillAll.g 45 144 49 70368744177663 HT_.out ?_
                                    refine annuitylaw19_BillAll.g 46 145 49 140737488355327 HT_.out ?_
                                    refine annuitylaw19_BillAll.y 47 146 49 281474976710655 HT_.out ?_
                                    refine annuitylaw19_BillAll.y 48 147 49 562949953421311 HT_.out ?_
                                    refine done_ (done_of HT_.out (by kernel_rfl)) ?_
                                    try go_wp2
                                    go_meet
                                    case rel => exact ⟨_, (false), (by first | rfl | (simp; done) | (simp [*]; done)), H', ⟨by have := HK1.out; first | omega | exact Nat.le_refl _⟩, ⟨by (with_reducible repeat (first | apply Kd.N_alloc | apply Kd.N_drewN | apply Kd.N_drew)); exact HO_8.out⟩, ⟨by (with_reducible repeat (first | refine blk_drewN ?_ _ | refine blk_drew ?_ | refine blk_alloc ?_ _)); exact BK291.out⟩, ⟨by repeat (first | (with_reducible first | exact HB.out | apply below_alloc | apply pw_below_drewN | apply below_drew1 | refine below_set ?_ GE291.out) | exact HB.out)⟩⟩
                              · rw [if_neg c60] at H
                                exact absurd H (by simp)
                            · rw [if_neg c59] at H
                              exact absurd H (by simp)
                        case rest =>
                          clear HC43
                          try clear p2
                          try clear c3
                          try clear p3
                          try clear q3
                          try clear hx3
                          try clear c5
                          try clear c6
                          try clear c32
                          try clear p32
                          try clear q32
                          try clear hx32
                          try clear c59
                          try clear c60
                          try clear c63
                          try clear c63b0
                          try clear c65
                          try clear c66
                          try clear hx325_0
                          try clear hx325_1
                          try clear hx325_2
                          try clear hx325_3
                          try clear hx325_4
                          try clear hx325_5
                          try clear hx326_0
                          try clear hx326_1
                          try clear hx326_2
                          try clear hx326_3
                          try clear hx326_4
                          try clear hx326_5
                          try clear p325
                          try clear p326
                          try clear q325
                          try clear q326
                          obtain ⟨kq, x147_42, rfl, HA, HJ42, HO_8, BK291, HB⟩ := hcut
                          cases kq with
                          | zero => exact absurd HA.out (by simp [annuitylaw19_BillAll.j1])
                          | succ kj42 =>
                            have H := HA.out
                            clear HA
                            simp only [annuitylaw19_BillAll.j1] at H
                            by_cases c71 : x147_42 = true
                            · subst c71
                              have H1 : (none) = some r := by rw [if_pos rfl] at H; exact H
                              clear H
                              have H := H1
                              clear H1
                              exact absurd H (by simp)
                            · replace c71 := Bool.eq_false_iff.mpr c71
                              subst c71
                              have H1 : (if 0 ≤ x18_1 then (if x18_1 < (l0.length : Int) then (if x18_1 < (t300.length : Int) then (annuitylaw19_BillAll.l0 kj42 l0 t300 t303 (wrap64 (x17_1 + (wrap64 (((rd_T45 l0 x18_1).f2) - ((rd_T45 t300 x18_1).f2))))) (wrap64 (x18_1 + 1)) a1_0 a1_1) else (none)) else (none)) else (none)) = some r := by rw [if_neg (show ¬ (false = true) by decide)] at H; exact H
                              clear H
                              have H := H1
                              clear H1
                              by_cases c72 : 0 ≤ x18_1
                              · rw [if_pos c72] at H
                                have c72b0 : decide (0 ≤ x18_1) = true := decide_eq_true c72
                                clear c72
                                by_cases c73 : x18_1 < (l0.length : Int)
                                · rw [if_pos c73] at H
                                  have c73b0 : decide (x18_1 < (l0.length : Int)) = true := decide_eq_true c73
                                  clear c73
                                  by_cases c74 : x18_1 < (t300.length : Int)
                                  · rw [if_pos c74] at H
                                    have c74b0 : decide (x18_1 < (t300.length : Int)) = true := decide_eq_true c74
                                    clear c74
                                    have H' := Aside0.mk H
                                    clear H
                                    try go_wp2
                                    have n0_ := Aside0.mk (Kd.N_drew HO_8.out)
                                    have n1_ := Aside0.mk (blk_drew BK291.out)
                                    have n2_ := Aside0.mk (below_drew1 HB.out)
                                    clear HO_8
                                    clear BK291
                                    clear HB
                                    have HO_8 := n0_
                                    have BK291 := n1_
                                    have HB := n2_
                                    clear n0_ n1_ n2_
                                    have p330 : 0 ≤ (x18_1 : Int) := of_decide_eq_true (by first | (with_reducible assumption) | assumption)
                                    have q330 : x18_1 < (l0.length : Int) := of_decide_eq_true (by first | (with_reducible assumption) | assumption)
                                    obtain ⟨ad330, A330_5, c330_5, e330, hx330_0, hx330_1, hx330_2, hx330_3, hx330_4, hx330_5, hl330_5, hi330_5⟩ := at_T45 HR0.out x18_1 p330 q330
                                    have hw330_5 := hx330_5
                                    have hw330_4 := hx330_4
                                    have hw330_3 := hx330_3
                                    have hw330_2 := hx330_2
                                    have hw330_1 := hx330_1
                                    have hw330_0 := hx330_0
                                    cases e330
                                    replace hx330_0 := (HB.out.cell (World.block_lt_of_cell? w _ hx330_0)).trans hx330_0
                                    replace hx330_1 := (HB.out.cell (World.block_lt_of_cell? w _ hx330_1)).trans hx330_1
                                    replace hx330_2 := (HB.out.cell (World.block_lt_of_cell? w _ hx330_2)).trans hx330_2
                                    replace hx330_3 := (HB.out.cell (World.block_lt_of_cell? w _ hx330_3)).trans hx330_3
                                    replace hx330_4 := (HB.out.cell (World.block_lt_of_cell? w _ hx330_4)).trans hx330_4
                                    replace hx330_5 := (HB.out.cell (World.block_lt_of_cell? w _ hx330_5)).trans hx330_5
                                    have HR330_5 := Aside0.mk hi330_5
                                    have HC330_5 := Aside0.mk hl330_5
                                    clear hi330_5 hl330_5
                                    replace p330 := eq_true p330
                                    replace q330 := eq_true q330
                                    have p331 : 0 ≤ (x18_1 : Int) := of_decide_eq_true (by first | (with_reducible assumption) | assumption)
                                    have q331 : x18_1 < (t300.length : Int) := of_decide_eq_true (by first | (with_reducible assumption) | assumption)
                                    obtain ⟨ad331, A331_5, c331_5, e331, hx331_0, hx331_1, hx331_2, hx331_3, hx331_4, hx331_5, hl331_5, hi331_5⟩ := at_T45 (Kd.N_reads' HO_8.out).2.2 x18_1 p331 q331
                                    cases e331
                                    obtain ⟨ce331, hce331, hMe331, hcc331⟩ := Kd.N_get HO_8.out z45 x18_1 p331 (by first | exact q331 | exact of_decide_eq_true (by first | (with_reducible assumption) | assumption) | (have e_ := (Kd.N_reads' HO_8.out).1; omega))
                                    obtain ⟨ua331_5, uc331_5, rfl, ul331_5, ge331_5⟩ := k45_openF hMe331
                                    have hv331_5 := hcc331 5 _ rfl
                                    rw [add_field _ _ 5 (by omega)] at hv331_5
                                    replace hv331_5 := Option.some.inj (hv331_5.symm.trans hx331_5)
                                    injection hv331_5 with hva_ hvn_ hvc_
                                    rw [hva_] at ge331_5
                                    rw [hvc_] at ul331_5
                                    have HL331_5 := Aside0.mk (show Kd.V (Kd.int .i64) 3 _ w.heap.size _ _ ((rd_T45 t300 x18_1).f5) from Kd.V_mk ul331_5 ge331_5)
                                    clear hva_ hvn_ hvc_ ge331_5 ul331_5
                                    clear hcc331 hce331
                                    have HR331_5 := Aside0.mk hi331_5
                                    have HC331_5 := Aside0.mk hl331_5
                                    clear hi331_5 hl331_5
                                    replace p331 := eq_true p331
                                    replace q331 := eq_true q331
                                    refine start_ (n := 14) (S := fun w' => w'.cell? (ad330.add ((x18_1).toNat * 6)) = some (.int .i64 ((rd_T45 l0 x18_1).f0)) ∧ w'.cell? ⟨(ad330.add ((x18_1).toNat * 6)).block, (ad330.add ((x18_1).toNat * 6)).off + 1, none⟩ = some (.int .i64 ((rd_T45 l0 x18_1).f1)) ∧ w'.cell? ⟨(ad330.add ((x18_1).toNat * 6)).block, (ad330.add ((x18_1).toNat * 6)).off + 2, none⟩ = some (.int .i64 ((rd_T45 l0 x18_1).f2)) ∧ w'.cell? ⟨(ad330.add ((x18_1).toNat * 6)).block, (ad330.add ((x18_1).toNat * 6)).off + 3, none⟩ = some (.int .i64 ((rd_T45 l0 x18_1).f3)) ∧ w'.cell? ⟨(ad330.add ((x18_1).toNat * 6)).block, (ad330.add ((x18_1).toNat * 6)).off + 4, none⟩ = some (.int .i64 ((rd_T45 l0 x18_1).f4)) ∧ w'.cell? ⟨(ad330.add ((x18_1).toNat * 6)).block, (ad330.add ((x18_1).toNat * 6)).off + 5, none⟩ = some (.slice A330_5 ((rd_T45 l0 x18_1).f5).length c330_5) ∧ w'.cell? (ad331.add ((x18_1).toNat * 6)) = some (.int .i64 ((rd_T45 t300 x18_1).f0)) ∧ w'.cell? ⟨(ad331.add ((x18_1).toNat * 6)).block, (ad331.add ((x18_1).toNat * 6)).off + 1, none⟩ = some (.int .i64 ((rd_T45 t300 x18_1).f1)) ∧ w'.cell? ⟨(ad331.add ((x18_1).toNat * 6)).block, (ad331.add ((x18_1).toNat * 6)).off + 2, none⟩ = some (.int .i64 ((rd_T45 t300 x18_1).f2)) ∧ w'.cell? ⟨(ad331.add ((x18_1).toNat * 6)).block, (ad331.add ((x18_1).toNat * 6)).off + 3, none⟩ = some (.int .i64 ((rd_T45 t300 x18_1).f3)) ∧ w'.cell? ⟨(ad331.add ((x18_1).toNat * 6)).block, (ad331.add ((x18_1).toNat * 6)).off + 4, none⟩ = some (.int .i64 ((rd_T45 t300 x18_1).f4)) ∧ w'.cell? ⟨(ad331.add ((x18_1).toNat * 6)).block, (ad331.add ((x18_1).toNat * 6)).off + 5, none⟩ = some (.slice A331_5 ((rd_T45 t300 x18_1).f5).length c331_5)) (ds := []) (annuitylaw19_BillAll.fl 14 0) (by kernel_rfl) rfl rfl ⟨((HB.out.cell (World.block_lt_of_cell? w _ hw330_0)).trans hw330_0), ((HB.out.cell (World.block_lt_of_cell? w _ hw330_1)).trans hw330_1), ((HB.out.cell (World.block_lt_of_cell? w _ hw330_2)).trans hw330_2), ((HB.out.cell (World.block_lt_of_cell? w _ hw330_3)).trans hw330_3), ((HB.out.cell (World.block_lt_of_cell? w _ hw330_4)).trans hw330_4), ((HB.out.cell (World.block_lt_of_cell? w _ hw330_5)).trans hw330_5), hx331_0, hx331_1, hx331_2, hx331_3, hx331_4, hx331_5⟩ (fun hHeld => ?_); refine with_tabW annuitylaw19_BillAll.tab17 annuitylaw19_BillAll.bits17 (fun HT_ HW_ => ?_)
                                    generalize wc.drew = w75 at HO_8 BK291 HB HL331_5 HR330_5 HR331_5 hx330_0 hx330_1 hx330_2 hx330_3 hx330_4 hx330_5 hx331_0 hx331_1 hx331_2 hx331_3 hx331_4 hx331_5 hHeld ⊢
                                    refine annuitylaw19_BillAll.y 0 148 14 1 HT_.out ?_
                                    refine annuitylaw19_BillAll.y 1 149 14 3 HT_.out ?_
                                    refine annuitylaw19_BillAll.y 2 150 14 7 HT_.out ?_
                                    refine annuitylaw19_BillAll.y 3 151 14 15 HT_.out ?_
                                    refine annuitylaw19_BillAll.y 4 152 14 31 HT_.out ?_
                                    refine annuitylaw19_BillAll.y 6 154 14 95 HT_.out ?_
                                    refine annuitylaw19_BillAll.y 7 155 14 223 HT_.out ?_
                                    refine annuitylaw19_BillAll.y 8 156 14 479 HT_.out ?_
                                    refine annuitylaw19_BillAll.y 9 157 14 991 HT_.out ?_
                                    refine annuitylaw19_BillAll.t 5 153 14 1023 HT_.out HW_.out hHeld ?_
                                    refine annuitylaw19_BillAll.t 10 158 14 2047 HT_.out HW_.out hHeld ?_
                                    refine annuitylaw19_BillAll.y 11 159 14 4095 HT_.out ?_
                                    refine annuitylaw19_BillAll.y 12 160 14 8191 HT_.out ?_
                                    refine annuitylaw19_BillAll.y 13 17 14 16383 HT_.out ?_
                                    refine done_ (done_of HT_.out (by kernel_rfl)) ?_
                                    try go_wp2
                                    go_roundg kj42
                                    case measure => have := HK1.out; have := HJ42.out; omega
                                    case rel => exact ⟨(wrap64 (x17_1 + (wrap64 (((rd_T45 l0 x18_1).f2) - ((rd_T45 t300 x18_1).f2))))), (wrap64 (x18_1 + 1)), (by first | rfl | (simp; done) | (simp [*]; done)), (by first | rfl | (simp; done) | (simp [*]; done)), H', ⟨by have := HK1.out; have := HJ42.out; omega⟩, ⟨by (with_reducible repeat (first | apply Kd.N_alloc | apply Kd.N_drewN | apply Kd.N_drew)); exact HO_8.out⟩, ⟨by (with_reducible repeat (first | refine blk_drewN ?_ _ | refine blk_drew ?_ | refine blk_alloc ?_ _)); exact BK291.out⟩, ⟨by repeat (first | (with_reducible first | exact HB.out | apply below_alloc | apply pw_below_drewN | apply below_drew1 | refine below_set ?_ GE291.out) | exact HB.out)⟩⟩
                                  · rw [if_neg c74] at H
                                    exact absurd H (by simp)
                                · rw [if_neg c73] at H
                                  exact absurd H (by simp)
                              · rw [if_neg c72] at H
                                exact absurd H (by simp)
                      · rw [if_neg c42] at H
                        have c42b0 : decide (x18_1 < (t300.length : Int)) = false := decide_eq_false c42
                        clear c42
                        by_cases c76 : (wrap64 (x17_1 + t303)) = (wrap64 ((wrap64 (a1_0)) + (wrap64 (a1_1))))
                        · rw [if_pos c76] at H
                          have c76b0 : ((wrap64 (x17_1 + t303)) == (wrap64 ((wrap64 (a1_0)) + (wrap64 (a1_1))))) = true := beq_iff_eq.mpr c76
                          have c76b1 : ((wrap64 (x17_1 + t303)) != (wrap64 ((wrap64 (a1_0)) + (wrap64 (a1_1))))) = false := bne_eq_false_iff_eq.mpr c76
                          clear c76
                          replace H := Option.bind_eq_some_iff.mp H
                          obtain ⟨t332, A770, H⟩ := H
                          replace H : (if t332 = true then ((annuitylaw19_wakes.f k1).bind fun t333 => (some t333)) else (none)) = some r := H
                          have A77 := Aside0.mk A770
                          clear A770
                          by_cases c78 : t332 = true
                          · subst c78
                            have H1 : ((annuitylaw19_wakes.f k1).bind fun t333 => (some t333)) = some r := by rw [if_pos rfl] at H; exact H
                            clear H
                            have H := H1
                            clear H1
                            replace H := Option.bind_eq_some_iff.mp H
                            obtain ⟨t333, A790, H⟩ := H
                            replace H : (some t333) = some r := H
                            have A79 := Aside0.mk A790
                            clear A790
                            obtain rfl := Option.some.inj H
                            have hcz80_0 : wr.cell? ⟨gb291, 0, none⟩ = some (.int .u32 a1_0) := (blk_cell BK291.out 0).trans rfl
                            have hcz80_1 : wr.cell? ⟨gb291, 1, none⟩ = some (.int .u32 a1_1) := (blk_cell BK291.out 1).trans rfl
                            have hfz80_0 := blk_frozen BK291.out 0
                            have hfz80_1 := blk_frozen BK291.out 1
                            go_wp2_with (first | (go_at_call 16; (with_reducible refine (annuityref19_Good.calls k1 _ _ t300 true _ ?side1 ?side2 A77.out).mono ?_); (case side1 => repeat (first | exact (Kd.N_reads' HO_8.out).2.2 | (with_reducible refine Kd.C_alloc ?_ _) | (with_reducible refine Kd.C_drewN ?_ _) | (with_reducible refine Kd.C_drew ?_))); (case side2 => exact (Kd.N_reads' HO_8.out).2.1); rintro e w81 ⟨rfl, hb⟩; have n0_ := Aside0.mk (Kd.N_below (by (with_reducible repeat (first | apply Kd.N_alloc | apply Kd.N_drewN | apply Kd.N_drew)); exact HO_8.out) hb); have n1_ := Aside0.mk (blk_below (g := gb291) (Up.up BK291.out) hb); have n2_ := Aside0.mk (below_step (by repeat (first | (with_reducible first | exact HB.out | apply below_alloc | apply pw_below_drewN | apply below_drew1 | refine below_set ?_ GE291.out) | exact HB.out)) hb); clear HO_8; clear BK291; clear HB; have HO_8 := n0_; have BK291 := n1_; have HB := n2_; clear n0_ n1_ n2_; (try clear hb); (try clear hb2); (try clear hk); (try clear hi)) | (go_at_call 9; (with_reducible refine (annuitylaw19_wakes.calls k1  t333 _ A79.out).mono ?_); rintro e w82 ⟨rfl, hb⟩; have n0_ := Aside0.mk (Kd.N_below (by (with_reducible repeat (first | apply Kd.N_alloc | apply Kd.N_drewN | apply Kd.N_drew)); exact HO_8.out) hb); have n1_ := Aside0.mk (blk_below (g := gb291) (Up.up BK291.out) hb); have n2_ := Aside0.mk (below_step (by repeat (first | (with_reducible first | exact HB.out | apply below_alloc | apply pw_below_drewN | apply below_drew1 | refine below_set ?_ GE291.out) | exact HB.out)) hb); clear HO_8; clear BK291; clear HB; have HO_8 := n0_; have BK291 := n1_; have HB := n2_; clear n0_ n1_ n2_; (try clear hb); (try clear hb2); (try clear hk); (try clear hi)))
                            go_ret
                            exact ⟨by first | rfl | (simp [errW_none, errW_some] <;> rfl) | (simp [*, errW_none, errW_some] <;> rfl), by repeat (first | (with_reducible first | exact HB.out | apply below_alloc | apply pw_below_drewN | apply below_drew1 | refine below_set ?_ GE291.out) | exact HB.out)⟩
                          · replace c78 := Bool.eq_false_iff.mpr c78
                            subst c78
                            have H1 : (none) = some r := by rw [if_neg (show ¬ (false = true) by decide)] at H; exact H
                            clear H
                            have H := H1
                            clear H1
                            exact absurd H (by simp)
                        · rw [if_neg c76] at H
                          exact absurd H (by simp)
                · rw [if_neg c24] at H
                  exact absurd H (by simp)
              · replace c23 := Bool.eq_false_iff.mpr c23
                subst c23
                have H1 : (none) = some r := by rw [if_neg (show ¬ (false = true) by decide)] at H; exact H
                clear H
                have H := H1
                clear H1
                exact absurd H (by simp)
            · rw [if_neg c21] at H
              exact absurd H (by simp)
          · rw [if_neg c19] at H
            exact absurd H (by simp)
        · rw [if_neg c18] at H
          exact absurd H (by simp)
      · rw [if_neg c17] at H
        exact absurd H (by simp)
    · replace c11 := Bool.eq_false_iff.mpr c11
      subst c11
      have H1 : ((annuitylaw19_wakes.f k).bind fun t295 => (some t295)) = some r := by rw [if_neg (show ¬ (false = true) by decide)] at H; exact H
      clear H
      have H := H1
      clear H1
      replace H := Option.bind_eq_some_iff.mp H
      obtain ⟨t295, A830, H⟩ := H
      replace H : (some t295) = some r := H
      have A83 := Aside0.mk A830
      clear A830
      obtain rfl := Option.some.inj H
      go_enter Try.func5, Try.ntmps5
      go_wp2_with (first | ((with_reducible refine gate_dst (N := 4) rfl ?_); (try (refine gate_guard (by rfl) ?_; dsimp only)); refine box_event ?hg (N := 4) ?hd (cs := #[.int .u32 a1_0, .int .u32 a1_1]) (t := 42) ?hr ?_; (case hd => rfl); (case hg => rfl); (case hr => first | (go_simp; done) | (go_simp; rfl)); intro gb291 hg w84 hbox hb; have n0_ := Aside0.mk (below_step (by repeat (first | (with_reducible first | exact HB.out | apply below_alloc | apply pw_below_drewN | apply below_drew1) | exact HB.out)) hb); have n1_ := Aside0.mk (hbox); have n2_ := Aside0.mk ((by rw [hg]; exact (below_size (by repeat (first | (with_reducible first | exact HB.out | apply below_alloc | apply pw_below_drewN | apply below_drew1) | exact HB.out))) : w.heap.size ≤ gb291)); have n3_ := Aside0.mk ((by rw [hg]; exact (below_size (by repeat (first | (with_reducible first | exact HB.out | apply below_alloc | apply pw_below_drewN | apply below_drew1) | exact HB.out))) : w.heap.size ≤ gb291)); clear HB; have HB := n0_; have BK291 := n1_; have GW291 := n2_; have GE291 := n3_; clear n0_ n1_ n2_ n3_; clear hb hbox hg) | ((with_reducible refine gate_callee (f := 8) rfl ?_); refine goesL_ (some 20) rfl rfl Try.func8 (by kernel_rfl) rfl #[.slice A0 l0.length c0] rfl (by (try simp only [List.map_toArray, List.map_cons, List.map_nil]); first | done | rfl | (simp only [List.length_drop, List.length_take]; rfl)) ?_; (with_reducible refine (annuitylaw19_Large.calls k _ _ l0 false _ ?side1 ?side2 A4.out).mono ?_); (case side1 => repeat (first | exact (Kd.C_below HR0.out HB.out) | (with_reducible refine Kd.C_alloc ?_ _) | (with_reducible refine Kd.C_drewN ?_ _) | (with_reducible refine Kd.C_drew ?_))); (case side2 => exact HC0.out); rintro e w85 ⟨rfl, hb⟩; refine ⟨_, rfl, ?_⟩; have n0_ := Aside0.mk (blk_below (g := gb291) (Up.up BK291.out) hb); have n1_ := Aside0.mk (below_step (by repeat (first | (with_reducible first | exact HB.out | apply below_alloc | apply pw_below_drewN | apply below_drew1 | refine below_set ?_ GE291.out) | exact HB.out)) hb); clear BK291; clear HB; have BK291 := n0_; have HB := n1_; clear n0_ n1_; (try clear hb); (try clear hb2); (try clear hk); (try clear hi)) | (go_at_call 16; (with_reducible refine (annuityref19_Good.calls k _ _ l0 false _ ?side1 ?side2 A10.out).mono ?_); (case side1 => repeat (first | exact (Kd.C_below HR0.out HB.out) | (with_reducible refine Kd.C_alloc ?_ _) | (with_reducible refine Kd.C_drewN ?_ _) | (with_reducible refine Kd.C_drew ?_))); (case side2 => exact HC0.out); rintro e w86 ⟨rfl, hb⟩; have n0_ := Aside0.mk (blk_below (g := gb291) (Up.up BK291.out) hb); have n1_ := Aside0.mk (below_step (by repeat (first | (with_reducible first | exact HB.out | apply below_alloc | apply pw_below_drewN | apply below_drew1 | refine below_set ?_ GE291.out) | exact HB.out)) hb); clear BK291; clear HB; have BK291 := n0_; have HB := n1_; clear n0_ n1_; (try clear hb); (try clear hb2); (try clear hk); (try clear hi)) | ((with_reducible refine gate_callee (f := 9) rfl ?_); refine goesL_ (some 26) rfl rfl Try.func9 (by kernel_rfl) rfl #[] rfl (by (try simp only [List.map_toArray, List.map_cons, List.map_nil]); first | done | rfl | (simp only [List.length_drop, List.length_take]; rfl)) ?_; (with_reducible refine (annuitylaw19_wakes.calls k  t295 _ A83.out).mono ?_); rintro e w87 ⟨rfl, hb⟩; refine ⟨_, rfl, ?_⟩; have n0_ := Aside0.mk (blk_below (g := gb291) (Up.up BK291.out) hb); have n1_ := Aside0.mk (below_step (by repeat (first | (with_reducible first | exact HB.out | apply below_alloc | apply pw_below_drewN | apply below_drew1 | refine below_set ?_ GE291.out) | exact HB.out)) hb); clear BK291; clear HB; have BK291 := n0_; have HB := n1_; clear n0_ n1_; (try clear hb); (try clear hb2); (try clear hk); (try clear hi)))
      go_ret
      exact ⟨by first | rfl | (simp [errW_none, errW_some] <;> rfl) | (simp [*, errW_none, errW_some] <;> rfl), by repeat (first | (with_reducible first | exact HB.out | apply below_alloc | apply pw_below_drewN | apply below_drew1 | refine below_set ?_ GE291.out) | exact HB.out)⟩

/-- What is known of an element that came in. -/
def annuitylaw19_BillAll.wf45 (x : S45) : Prop := (Lit.int .i64 x.f0).wf = true ∧ (Lit.int .i64 x.f1).wf = true ∧ (Lit.int .i64 x.f2).wf = true ∧ (Lit.int .i64 x.f3).wf = true ∧ (Lit.int .i64 x.f4).wf = true ∧ (x.f5.length ≤ maxLen ∧ ∀ y ∈ x.f5, (Lit.int .i64 y).wf = true)
/-- THE ONE PURE STATEMENT of annuitylaw19_BillAll: yours. -/
def annuitylaw19_BillAll.Pure : Prop := ∀ (l0 : List (S45)) (a1_0 : Int) (a1_1 : Int) (a2 : Int), l0.length ≤ maxLen → l0.length * 64 ≤ 140737488351232 → (∀ x ∈ l0, annuitylaw19_BillAll.wf45 x) → (Lit.int .u32 a1_0).wf = true → (Lit.int .u32 a1_1).wf = true → (Lit.int .i64 a2).wf = true → ∃ k, annuitylaw19_BillAll.f k l0 a1_0 a1_1 a2 = some true
theorem annuitylaw19_BillAll.walk (P : annuitylaw19_BillAll.Pure) (a0 : Option Addr) (cap0 : Nat) (l0 : List S45) (a1_0 : Int) (a1_1 : Int) (a2 : Int) (w : World) (hr0 : Kd.C k45 w a0 l0.length l0) (hc0 : l0.length ≤ cap0) (hm0 : l0.length ≤ maxLen) (y0 : l0.length * 64 ≤ 140737488351232) (hw0 : ∀ x ∈ l0, annuitylaw19_BillAll.wf45 x) (w1_0 : (Lit.int .u32 a1_0).wf = true) (w1_1 : (Lit.int .u32 a1_1).wf = true) (w2 : (Lit.int .i64 a2).wf = true) :
    Calls Try.prog 5 #[.slice a0 l0.length cap0, .agg #[.int .u32 a1_0, .int .u32 a1_1], .int .i64 a2] w fun e w' => e = .returned (.bool true) ∧ Below w.heap.size w w' := by
  obtain ⟨k, h⟩ := P l0 a1_0 a1_1 a2 hm0 y0 hw0 w1_0 w1_1 w2
  refine (annuitylaw19_BillAll.calls k _ _ l0 a1_0 a1_1 a2 true w hr0 hc0 h).mono ?_
  rintro e w' ⟨rfl, hd⟩
  exact ⟨rfl, hd⟩

end Go.Proofs.Ytibjbgfphhmogaa.P
