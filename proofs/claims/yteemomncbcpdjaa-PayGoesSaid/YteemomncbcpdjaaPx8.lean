/- A part of a proof. -/
import Derived.Test.YteemomncbcpdjaaZaa
import Derived.Test.YteemomncbcpdjaaPx0
import Derived.Test.YteemomncbcpdjaaPx2
import Derived.Test.YteemomncbcpdjaaPx3
import Derived.Test.YteemomncbcpdjaaPx5
import Derived.Test.YteemomncbcpdjaaPx6
import Derived.Test.YteemomncbcpdjaaZb
import Derived.Test.YteemomncbcpdjaaZc
import Derived.Test.YteemomncbcpdjaaZlu
import Derived.Test.YteemomncbcpdjaaZp
import Derived.Test.YteemomncbcpdjaaZst
import Derived.Test.YteemomncbcpdjaaZsu
namespace Go.Proofs.Yteemomncbcpdjaa.P
open Go.RowKit W.PrintWords W.PrintLast W.PrintMore
attribute [local go_sem] qZs qZq qZ5 qZ6 qZk qZl qZt qZp
set_option linter.unusedVariables false
set_option linter.unusedSimpArgs false
mutual
def qQg.j0 : Nat → List (S43) → Int → Bool → Int → Int → Int → Int → Option ((List (S43)) × Int × Int × Int × Int × Int)
 | 0, _, _, _, _, _, _, _ => none
 | k + 1, x0, x1, x43, x120000, x120001, x120002, x120003 => if x43 = true then (some (([] : List (S43)), 0, 0, 0, 0, 1)) else ((qYd.f k x0).bind fun t122 => ((qZ7.f k x0).bind fun t125 => (qQg.l0 k x0 x1 t122 t125 ([] : List Int) t122 (t122.length : Int) 0 x120000 x120001 x120002 x120003)))
def qQg.l0 : Nat → List (S43) → Int → List Int → List Int → List Int → List Int → Int → Int → Int → Int → Int → Int → Option ((List (S43)) × Int × Int × Int × Int × Int)
 | 0, _, _, _, _, _, _, _, _, _, _, _, _ => none
 | k + 1, x0, x1, x8, x9, x10, x49, x50, x51, x120000, x120001, x120002, x120003 => if x51 < x50 then (if 0 ≤ x51 then (if x51 < (x49.length : Int) then (if 0 ≤ (rd x49 x51) then (if (rd x49 x51) < (x0.length : Int) then (if x10.length < 17592186044416 then (qQg.l0 k x0 x1 x8 x9 (x10 ++ [(qQc x0 (rd x49 x51)).f4]) x49 x50 (wrap64 (x51 + 1)) x120000 x120001 x120002 x120003) else (none)) else (none)) else (none)) else (none)) else (none)) else (qQg.l1 k x0 x1 x8 x9 x10 x9 (x9.length : Int) 0 x120000 x120001 x120002 x120003)
def qQg.l1 : Nat → List (S43) → Int → List Int → List Int → List Int → List Int → Int → Int → Int → Int → Int → Int → Option ((List (S43)) × Int × Int × Int × Int × Int)
 | 0, _, _, _, _, _, _, _, _, _, _, _, _ => none
 | k + 1, x0, x1, x8, x9, x10, x64, x65, x66, x120000, x120001, x120002, x120003 => if x66 < x65 then (if 0 ≤ x66 then (if x66 < (x64.length : Int) then (if 0 ≤ (rd x64 x66) then (if (rd x64 x66) < (x0.length : Int) then ((qZb.f ((qQc x0 (rd x64 x66)).f2)).bind fun t135 => (if x10.length < 17592186044416 then (qQg.l1 k x0 x1 x8 x9 (x10 ++ [t135]) x64 x65 (wrap64 (x66 + 1)) x120000 x120001 x120002 x120003) else (none))) else (none)) else (none)) else (none)) else (none)) else (qQg.l2 k x0 x1 x8 x9 x10 x9 (x9.length : Int) 0 x120000 x120001 x120002 x120003)
def qQg.l2 : Nat → List (S43) → Int → List Int → List Int → List Int → List Int → Int → Int → Int → Int → Int → Int → Option ((List (S43)) × Int × Int × Int × Int × Int)
 | 0, _, _, _, _, _, _, _, _, _, _, _, _ => none
 | k + 1, x0, x1, x8, x9, x10, x80, x81, x82, x120000, x120001, x120002, x120003 => if x82 < x81 then (if 0 ≤ x82 then (if x82 < (x80.length : Int) then (if 0 ≤ (rd x80 x82) then (if (rd x80 x82) < (x0.length : Int) then (if x10.length < 17592186044416 then (qQg.l2 k x0 x1 x8 x9 (x10 ++ [(qQc x0 (rd x80 x82)).f1]) x80 x81 (wrap64 (x82 + 1)) x120000 x120001 x120002 x120003) else (none)) else (none)) else (none)) else (none)) else (none)) else ((qZx.f k x1 x10).bind fun bt144 => (if bt144.2.2 = 0 then (if 0 ≤ (x0.length : Int) then (if ((x0.length : Int) : Int).toNat ≤ 35184372088832 then (qQg.l3 k x0 x8 x9 bt144.1 bt144.2.1 (x9.length : Int) (List.replicate ((x0.length : Int) : Int).toNat 0) (List.replicate ((x0.length : Int) : Int).toNat 0) (List.replicate ((x0.length : Int) : Int).toNat 0) (x9.length : Int) 0 x120000 x120001 x120002 x120003) else (none)) else (none)) else (some (([] : List (S43)), 0, 0, 0, 0, bt144.2.2))))
def qQg.l3 : Nat → List (S43) → List Int → List Int → List Int → Int → Int → List Int → List Int → List Int → Int → Int → Int → Int → Int → Int → Option ((List (S43)) × Int × Int × Int × Int × Int)
 | 0, _, _, _, _, _, _, _, _, _, _, _, _, _, _, _ => none
 | k + 1, x0, x8, x9, x17, x18, x20, x21, x22, x23, x117, x118, x120000, x120001, x120002, x120003 => if x118 < x117 then (if 0 ≤ x118 then (if x118 < (x8.length : Int) then (if x118 < (x9.length : Int) then (if x118 < (x17.length : Int) then (if 0 ≤ (wrap64 (x20 + x118)) then (if (wrap64 (x20 + x118)) < (x17.length : Int) then (if 0 ≤ (wrap64 ((wrap64 (2 * x20)) + x118)) then (if (wrap64 ((wrap64 (2 * x20)) + x118)) < (x17.length : Int) then (if 0 ≤ (rd x8 x118) then (if (rd x8 x118) < (x21.length : Int) then (if 0 ≤ (rd x9 x118) then (if (rd x9 x118) < (x22.length : Int) then (if (rd x9 x118) < (x23.length : Int) then (qQg.l3 k x0 x8 x9 x17 x18 x20 (x21.set ((rd x8 x118) : Int).toNat (rd x17 x118)) (x22.set ((rd x9 x118) : Int).toNat (rd x17 (wrap64 (x20 + x118)))) (x23.set ((rd x9 x118) : Int).toNat (rd x17 (wrap64 ((wrap64 (2 * x20)) + x118)))) x117 (wrap64 (x118 + 1)) x120000 x120001 x120002 x120003) else (none)) else (none)) else (none)) else (none)) else (none)) else (none)) else (none)) else (none)) else (none)) else (none)) else (none)) else (none)) else (none)) else ((qYs.f k x0).bind fun t167 => (qQg.l4 k x0 t167 x21 x22 x23 x9 (x9.length : Int) 0 x120000 x120001 x120002 x18))
def qQg.l4 : Nat → List (S43) → List (S43) → List Int → List Int → List Int → List Int → Int → Int → Int → Int → Int → Int → Option ((List (S43)) × Int × Int × Int × Int × Int)
 | 0, _, _, _, _, _, _, _, _, _, _, _, _ => none
 | k + 1, x0, x4, x21, x22, x23, x161, x162, x163, x120000, x120001, x120002, x120003 => if x163 < x162 then (if 0 ≤ x163 then (if x163 < (x161.length : Int) then (if 0 ≤ (rd x161 x163) then (if (rd x161 x163) < (x0.length : Int) then (if (rd x161 x163) < (x21.length : Int) then (if (rd x161 x163) < (x22.length : Int) then (if (rd x161 x163) < (x23.length : Int) then ((qZr.f k ((qQc x0 (rd x161 x163)).f0) ((qQc x0 (rd x161 x163)).f1) ((qQc x0 (rd x161 x163)).f2) ((qQc x0 (rd x161 x163)).f3) ((qQc x0 (rd x161 x163)).f4) ((qQc x0 (rd x161 x163)).f5) ((qQc x0 (rd x161 x163)).f6) ((qQc x0 (rd x161 x163)).f7) ((qQc x0 (rd x161 x163)).f8) ((qQc x0 (rd x161 x163)).f9) ((qQc x0 (rd x161 x163)).f10) ((qQc x0 (rd x161 x163)).f11) ((qQc x0 (rd x161 x163)).f12) (rd x21 (rd x161 x163)) (rd x22 (rd x161 x163)) (rd x23 (rd x161 x163))).bind fun bt175 => (if (rd x161 x163) < (x4.length : Int) then (if bt175.2.2.2.2.2.2.2.2.2.2.2.2.2 = 0 then (qQg.l4 k x0 (x4.set ((rd x161 x163) : Int).toNat (⟨bt175.1, bt175.2.1, bt175.2.2.1, bt175.2.2.2.1, bt175.2.2.2.2.1, bt175.2.2.2.2.2.1, bt175.2.2.2.2.2.2.1, bt175.2.2.2.2.2.2.2.1, bt175.2.2.2.2.2.2.2.2.1, bt175.2.2.2.2.2.2.2.2.2.1, bt175.2.2.2.2.2.2.2.2.2.2.1, bt175.2.2.2.2.2.2.2.2.2.2.2.1, bt175.2.2.2.2.2.2.2.2.2.2.2.2.1⟩ : S43)) x21 x22 x23 x161 x162 (wrap64 (x163 + 1)) (wrap64 (x120000 + (rd x21 (rd x161 x163)))) (wrap64 (x120001 + (rd x22 (rd x161 x163)))) (wrap64 (x120002 + (rd x23 (rd x161 x163)))) x120003) else (some (([] : List (S43)), 0, 0, 0, 0, bt175.2.2.2.2.2.2.2.2.2.2.2.2.2))) else (none))) else (none)) else (none)) else (none)) else (none)) else (none)) else (none)) else (none)) else (some (x4, x120000, x120001, x120002, x120003, 0))
end
def qQg.f (k : Nat) (l0 : List (S43)) (a1 : Int) : Option ((List (S43)) × Int × Int × Int × Int × Int) := (qYh.f k l0).bind fun t120 => (if t120 = true then (qQg.j0 k l0 a1 true 0 0 0 0) else (if (l0.length : Int) > 16 then (qQg.j0 k l0 a1 true 0 0 0 0) else (if a1 < 0 then (qQg.j0 k l0 a1 true 0 0 0 0) else ((qZm.f a1).bind fun t121 => (qQg.j0 k l0 a1 (!t121) 0 0 0 0)))))
def qQg.T26 : Bool × List (List Nat × List Nat) := (true, [([], []), ([0], [0]), ([1, 1], [1]), ([], []), ([3], [3]), ([4, 4], [4]), ([], []), ([6], [6]), ([7, 7], [7]), ([2, 0, 1, 2], [2]), ([5, 9, 0, 1, 2, 3, 4, 5, 9], [5]), ([8, 10, 0, 1, 2, 3, 4, 5, 6, 7, 8, 9, 10], [8])])
def qQg.B26 : List Nat := [0, 1, 3, 0, 8, 24, 0, 64, 192, 7, 575, 2047]
theorem qQg.tab26 : rtab .any (opsOf Try.f9 26) = qQg.T26 := by kernel_rfl
theorem qQg.bits26 : waitsOk qQg.T26.2 qQg.B26 = true := by kernel_rfl
def qQg.T30 : Bool × List (List Nat × List Nat) := (true, [([], []), ([], []), ([], []), ([1, 2], [1, 2]), ([3], [3]), ([], []), ([], []), ([], []), ([6, 7], [6, 7]), ([8], [8]), ([], []), ([], []), ([], []), ([11, 12], [11, 12]), ([13], [13]), ([], []), ([], []), ([15, 16], [15, 16]), ([17], [17]), ([], []), ([], []), ([], []), ([20, 21], [20, 21]), ([19, 22], [19, 22]), ([23], [23]), ([], []), ([], []), ([26], [26]), ([], []), ([27, 28], [27, 28]), ([25, 29], [25, 29]), ([30], [30]), ([0, 4, 0, 1, 2, 3, 4, 9, 14, 15, 16, 17, 18, 24, 31], [0, 4]), ([32, 18, 0, 1, 2, 3, 4, 9, 14, 15, 16, 17, 18, 24, 31], [18, 32]), ([5, 9, 0, 1, 2, 3, 4, 5, 6, 7, 8, 9, 14, 15, 16, 17, 18, 19, 20, 21, 22, 23, 24, 31, 32, 33], [5, 9]), ([34, 24, 33, 0, 1, 2, 3, 4, 5, 6, 7, 8, 9, 14, 15, 16, 17, 18, 19, 20, 21, 22, 23, 24, 31, 32, 33], [24, 34]), ([10, 14, 0, 1, 2, 3, 4, 5, 6, 7, 8, 9, 10, 11, 12, 13, 14, 15, 16, 17, 18, 19, 20, 21, 22, 23, 24, 25, 26, 27, 28, 29, 30, 31, 32, 33, 34, 35], [10, 14]), ([36, 31, 35, 0, 1, 2, 3, 4, 5, 6, 7, 8, 9, 10, 11, 12, 13, 14, 15, 16, 17, 18, 19, 20, 21, 22, 23, 24, 25, 26, 27, 28, 29, 30, 31, 32, 33, 34, 35], [31, 36])])
def qQg.B30 : List Nat := [0, 0, 0, 6, 14, 0, 0, 0, 192, 448, 0, 0, 0, 6144, 14336, 0, 0, 98304, 229376, 0, 0, 0, 3145728, 7864320, 16252928, 0, 0, 67108864, 0, 469762048, 1040187392, 2113929216, 4294966239, 8589933535, 17179868159, 34359737343, 68719476735, 137438953471]
theorem qQg.tab30 : rtab .any (opsOf Try.f9 30) = qQg.T30 := by kernel_rfl
theorem qQg.bits30 : waitsOk qQg.T30.2 qQg.B30 = true := by kernel_rfl
def qQg.T37 : Bool × List (List Nat × List Nat) := (true, [([], []), ([], []), ([], []), ([], []), ([2, 3], [2, 3]), ([4], [4]), ([], []), ([], []), ([6, 7], [6, 7]), ([8], [8]), ([], []), ([], []), ([10, 11], [10, 11]), ([12], [12]), ([], []), ([], []), ([14, 15], [14, 15]), ([16], [16]), ([5, 9, 13, 17], [5, 9, 13, 17]), ([18], [18]), ([19], [19]), ([19], [19]), ([0, 1, 0, 1, 2, 3, 4, 5, 6, 7, 8, 9, 10, 11, 12, 13, 14, 15, 16, 17, 18, 19, 20], [0, 1]), ([22, 20, 18, 0, 1, 2, 3, 4, 5, 6, 7, 8, 9, 10, 11, 12, 13, 14, 15, 16, 17, 18, 19, 20], [20, 22]), ([21, 23, 0, 1, 2, 3, 4, 5, 6, 7, 8, 9, 10, 11, 12, 13, 14, 15, 16, 17, 18, 19, 20, 21, 22, 23], [21])])
def qQg.B37 : List Nat := [0, 0, 0, 0, 12, 28, 0, 0, 192, 448, 0, 0, 3072, 7168, 0, 0, 49152, 114688, 262140, 524284, 1048572, 1048572, 2097151, 6291455, 16777215]
theorem qQg.tab37 : rtab .any (opsOf Try.f9 37) = qQg.T37 := by kernel_rfl
theorem qQg.bits37 : waitsOk qQg.T37.2 qQg.B37 = true := by kernel_rfl
def qQg.T40 : Bool × List (List Nat × List Nat) := (true, [([], []), ([0], [0]), ([], []), ([], []), ([2, 3], [2, 3]), ([4], [4]), ([1, 5], [1, 5]), ([0, 1, 2, 3, 4, 5, 6], []), ([7, 6, 0, 1, 2, 3, 4, 5, 6], [6, 7])])
def qQg.B40 : List Nat := [0, 1, 0, 0, 12, 28, 63, 127, 255]
theorem qQg.tab40 : rtab .any (opsOf Try.f9 40) = qQg.T40 := by kernel_rfl
theorem qQg.bits40 : waitsOk qQg.T40.2 qQg.B40 = true := by kernel_rfl
def qQg.T41 : Bool × List (List Nat × List Nat) := (true, [([], []), ([0], [0]), ([], []), ([], []), ([2, 3], [2, 3]), ([4], [4]), ([1, 5], [1, 5]), ([0, 1, 2, 3, 4, 5, 6], []), ([7, 6, 0, 1, 2, 3, 4, 5, 6], [6, 7])])
def qQg.B41 : List Nat := [0, 1, 0, 0, 12, 28, 63, 127, 255]
theorem qQg.tab41 : rtab .any (opsOf Try.f9 41) = qQg.T41 := by kernel_rfl
theorem qQg.bits41 : waitsOk qQg.T41.2 qQg.B41 = true := by kernel_rfl
def qQg.T42 : Bool × List (List Nat × List Nat) := (true, [([], []), ([0], [0]), ([], []), ([], []), ([2, 3], [2, 3]), ([4], [4]), ([1, 5], [1, 5]), ([0, 1, 2, 3, 4, 5, 6], []), ([7, 6, 0, 1, 2, 3, 4, 5, 6], [6, 7])])
def qQg.B42 : List Nat := [0, 1, 0, 0, 12, 28, 63, 127, 255]
theorem qQg.tab42 : rtab .any (opsOf Try.f9 42) = qQg.T42 := by kernel_rfl
theorem qQg.bits42 : waitsOk qQg.T42.2 qQg.B42 = true := by kernel_rfl
section
variable {P : Program} {ops : Array Oper} {Q : Exit → Act → World → Prop} {S : World → Prop} {ds : List Nat} {fuel : Nat} {a a' : Act} {w : World} {oi : Oper} {v : Value} {T : Bool × List (List Nat × List Nat)} {B : List Nat}
def qQg.fl (n m : Nat) : Array Bool := ((List.range n).map fun j => m.testBit j).toArray
theorem qQg.y (i N n m : Nat) {l : Array Bool} (hT : rtab .any ops = T) (h : wpAnyLast P .any ops Q S ds fuel (qQg.fl n m) a' w)
  (hi : ops[i]? = some oi := by rfl) (hN : oi.dst = some N := by rfl) (hc : anyT T l.toList (qQg.fl n m).toList i = true := by kernel_rfl)
  (hQ : ∀ c a w, Q (.panic c) (a.put oi.dst v) w → Q (.panic c) a w := by exact fun _ _ _ h => h) (hw : Region.wanted oi (yielded ops a.tmps) = true := by rfl)
  (hy : ∀ w, (execOp a.eval oi).run P w = .ok (.value v) w := by (intro w'; go_simp; with_reducible rfl)) (ha : a.put (some N) v = a' := by (simp only [Act.put, List.setIfInBounds_toArray, List.set_cons_zero, List.set_cons_succ, i64_w, i32_w]; rfl)) :
  wpAnyLast P .any ops Q S ds (fuel + 1) l a w := pure_ (N := some N) (qQg.fl n m) hi hN (qWn hT hc) hQ (Or.inl ⟨hw, hy⟩) ha h
theorem qQg.t (i N n m : Nat) {l : Array Bool} (hT : rtab .any ops = T) (hB : waitsOk T.2 B = true) (hS : S w) (h : wpAnyLast P .any ops Q S ds fuel (qQg.fl n m) a' w)
  (hi : ops[i]? = some oi := by rfl) (hN : oi.dst = some N := by rfl) (hc : takeW T B ds l.toList (qQg.fl n m).toList i = true := by kernel_rfl)
  (hQ : ∀ c a w, Q (.panic c) (a.put oi.dst v) w → Q (.panic c) a w := by exact fun _ _ _ h => h) (hw : Region.wanted oi (yielded ops a.tmps) = true := by rfl)
  (hy : ∀ w, S w → (execOp a.eval oi).run P w = .ok (.value v) w := by (intro w' hs_; (try dsimp only at hs_); go_simp; with_reducible rfl)) (ha : a.put (some N) v = a' := by (simp only [Act.put, List.setIfInBounds_toArray, List.set_cons_zero, List.set_cons_succ, i64_w, i32_w]; rfl)) :
  wpAnyLast P .any ops Q S ds (fuel + 1) l a w := take_ (N := some N) (qQg.fl n m) hi hN (qXu hT hB hc) hQ (Or.inl ⟨hw, hy⟩) hS ha h
end
set_option maxHeartbeats 100000000 in
set_option maxRecDepth 100000 in
theorem qQg.calls (k : Nat) (A0 : Option Addr) (c0 : Nat) (l0 : List (S43)) (a1 : Int) (r1 : List (S43)) (r2 : Int) (r3 : Int) (r4 : Int) (r5 : Int) (r6 : Int) (w : World) (hr0 : Kd.C k43 w A0 l0.length l0) (hc0 : l0.length ≤ c0) (h : qQg.f k l0 a1 = some (r1, r2, r3, r4, r5, r6)) :
  Calls Try.prog 9 #[.slice A0 l0.length c0, .int .i64 a1] w fun e w' => ∃ v0_ : Value, e = .returned (.tuple #[v0_, .agg #[.int .i64 r2, .int .i64 r3, .int .i64 r4, .int .i64 r5], .int .i64 r6]) ∧ Kd.R k43 43 w' w.heap.size (fun _ => True) v0_ r1 ∧ Below w.heap.size w w' := by
 have hu26 := Try.underlying26
 have hu43 := Try.underlying43
 have HR0 := am hr0
 have HC0 := am hc0
 clear hr0 hc0
 have HB := am (Below.refl w.heap.size w)
 have H : ((qYh.f k l0).bind fun t120 => (if t120 = true then (qQg.j0 k l0 a1 true 0 0 0 0) else (if (l0.length : Int) > 16 then (qQg.j0 k l0 a1 true 0 0 0 0) else (if a1 < 0 then (qQg.j0 k l0 a1 true 0 0 0 0) else ((qZm.f a1).bind fun t121 => (qQg.j0 k l0 a1 (!t121) 0 0 0 0)))))) = some (r1, r2, r3, r4, r5, r6) := h
 clear h
 replace H := Option.bind_eq_some_iff.mp H
 obtain ⟨t120, A30, H⟩ := H
 replace H : (if t120 = true then (qQg.j0 k l0 a1 true 0 0 0 0) else (if (l0.length : Int) > 16 then (qQg.j0 k l0 a1 true 0 0 0 0) else (if a1 < 0 then (qQg.j0 k l0 a1 true 0 0 0 0) else ((qZm.f a1).bind fun t121 => (qQg.j0 k l0 a1 (!t121) 0 0 0 0))))) = some (r1, r2, r3, r4, r5, r6) := H
 have A3 := am A30
 clear A30
 have HC4 := am H
 clear H
 go_enter Try.func9, Try.ntmps9
 go_upto_region 2 with (first | ((with_reducible refine qZj (N := 5) rfl ?_); (try (refine qYv (by rfl) ?_; dsimp only)); refine qZu ?hg (N := 5) ?hd (cs := #[.int .i64 0, .int .i64 0, .int .i64 0, .int .i64 0]) (t := 26) ?hr ?_; (case hd => rfl); (case hg => rfl); (case hr => first | (go_simp; done) | (go_simp; rfl)); intro gb119 hg w5 hbox hb; have n0_ := am (qQn (by exact h0q HB.out) hb); have n1_ := am (hbox); have n2_ := am ((by rw [hg]; exact (qQh (by exact h0q HB.out)) : w.heap.size ≤ gb119)); have n3_ := am ((by rw [hg]; exact (qQh (by exact h0q HB.out)) : w.heap.size ≤ gb119)); clear HB; have HB := n0_; have BK119 := n1_; have GW119 := n2_; have GE119 := n3_; clear n0_ n1_ n2_ n3_; clear hb hbox hg) | ((with_reducible refine qQ4 (f := 18) rfl ?_); refine goesL_ (some 28) rfl rfl Try.func18 (by kernel_rfl) rfl #[.slice A0 l0.length c0, .func (.func 19) #[] #[]] rfl ml ?_; (with_reducible refine (qYh.calls k _ _ l0 t120 _ ?side1 ?side2 A3.out).mono ?_); (case side1 => exact cq ((Kd.qZw HR0.out HB.out))); (case side2 => exact HC0.out); rintro e w6 ⟨rfl, hb⟩; refine ⟨_, rfl, ?_⟩; have n0_ := am (qQu (g := gb119) (Up.up BK119.out) hb); have n1_ := am (qQn (by exact hq HB.out GE119.out) hb); clear BK119; clear HB; have BK119 := n0_; have HB := n1_; clear n0_ n1_; (try clear hb); (try clear hb2); (try clear hk); (try clear hi)))
 (try simp only [Act.put, List.setIfInBounds_toArray, List.set_cons_zero, List.set_cons_succ])
 go_cut [43] (fun v43 wc => ∃ (kq : Nat) (x43_3 : Bool), v43 = .bool x43_3 ∧ Aside0 (qQg.j0 kq l0 a1 x43_3 0 0 0 0 = some (r1, r2, r3, r4, r5, r6)) ∧ Aside0 (kq ≤ k) ∧ Aside0 (wc.heap[gb119]? = some (.cells #[.int .i64 0, .int .i64 0, .int .i64 0, .int .i64 0] 26 (0, 0))) ∧ Aside0 (Below w.heap.size w wc))
 case first =>
  have H := HC4.out
  clear HC4
  by_cases c7 : t120 = true
  ·subst c7
   have H1 : (qQg.j0 k l0 a1 true 0 0 0 0) = some (r1, r2, r3, r4, r5, r6) := by rw [if_pos rfl] at H; exact H
   clear H
   have H := H1
   clear H1
   have H' := am H
   clear H
   go_wp2
   go_meet
   case rel => exact ⟨_, (true), (by first | rfl | (simp; done) | (simp [*]; done)), H', ⟨by first | omega | exact Nat.le_refl _⟩, ⟨by exact bq BK119.out⟩, ⟨by exact hq HB.out GE119.out⟩⟩
  replace c7 := Bool.eq_false_iff.mpr c7
  subst c7
  have H1 : (if (l0.length : Int) > 16 then (qQg.j0 k l0 a1 true 0 0 0 0) else (if a1 < 0 then (qQg.j0 k l0 a1 true 0 0 0 0) else ((qZm.f a1).bind fun t121 => (qQg.j0 k l0 a1 (!t121) 0 0 0 0)))) = some (r1, r2, r3, r4, r5, r6) := by rw [if_neg (show ¬ (false = true) by decide)] at H; exact H
  clear H
  have H := H1
  clear H1
  by_cases c8 : (l0.length : Int) > 16
  ·rw [if_pos c8] at H
   have c8b0 : decide (16 < (l0.length : Int)) = true := decide_eq_true c8
   have c8b1 : decide (16 < l0.length) = true := decide_eq_true (by omega)
   clear c8
   (first | rw [c8b0] | (simp only [i64_w, i32_w]; rw [c8b0]) | skip)
   have H' := am H
   clear H
   go_wp2
   go_meet
   case rel => exact ⟨_, (true), (by first | rfl | (simp; done) | (simp [*]; done)), H', ⟨by first | omega | exact Nat.le_refl _⟩, ⟨by exact bq BK119.out⟩, ⟨by exact hq HB.out GE119.out⟩⟩
  rw [if_neg c8] at H
  have c8b0 : decide (16 < (l0.length : Int)) = false := decide_eq_false c8
  have c8b1 : decide (16 < l0.length) = false := decide_eq_false (by omega)
  clear c8
  (first | rw [c8b0] | (simp only [i64_w, i32_w]; rw [c8b0]) | skip)
  by_cases c9 : a1 < 0
  ·rw [if_pos c9] at H
   have c9b0 : decide (a1 < 0) = true := decide_eq_true c9
   clear c9
   have H' := am H
   clear H
   go_wp2
   go_meet
   case rel => exact ⟨_, (true), (by first | rfl | (simp; done) | (simp [*]; done)), H', ⟨by first | omega | exact Nat.le_refl _⟩, ⟨by exact bq BK119.out⟩, ⟨by exact hq HB.out GE119.out⟩⟩
  rw [if_neg c9] at H
  have c9b0 : decide (a1 < 0) = false := decide_eq_false c9
  clear c9
  replace H := Option.bind_eq_some_iff.mp H
  obtain ⟨t121, A100, H⟩ := H
  replace H : (qQg.j0 k l0 a1 (!t121) 0 0 0 0) = some (r1, r2, r3, r4, r5, r6) := H
  have A10 := am A100
  clear A100
  have H' := am H
  clear H
  go_wp2_with (first | (go_at_call 21; (with_reducible refine (qZm.calls a1 t121 _ A10.out).mono ?_); rintro e w' ⟨rfl, ⟨nd, rfl⟩⟩))
  go_meet
  case rel => exact ⟨_, (!t121), (by first | rfl | (simp; done) | (simp [*]; done)), H', ⟨by first | omega | exact Nat.le_refl _⟩, ⟨by exact bq BK119.out⟩, ⟨by exact hq HB.out GE119.out⟩⟩
 case rest =>
  as_aux_lemma =>
  clear HC4
  try clear c7
  try clear c8
  try clear c8b0 c8b1
  try clear c9
  try clear c9b0
  obtain ⟨kq, x43_3, rfl, HA, HJ3, BK119, HB⟩ := hcut
  rcases kq with _ | kj3
  ·exact absurd HA.out (by simp [qQg.j0])
  have H := HA.out
  clear HA
  simp only [qQg.j0] at H
  by_cases c11 : x43_3 = true
  ·subst c11
   have H1 : (some (([] : List (S43)), 0, 0, 0, 0, 1)) = some (r1, r2, r3, r4, r5, r6) := by rw [if_pos rfl] at H; exact H
   clear H
   have H := H1
   clear H1
   simp only [Option.some.injEq, Prod.mk.injEq] at H
   obtain ⟨rfl, rfl, rfl, rfl, rfl, rfl⟩ := H
   have hz12 := lc4_ BK119.out
   go_wp2
   refine bodyPost_ret (qXg (rs := [.tmp 4, .cell 5 26, .tmp 6]) rfl (by simp) (.tmp (.cell gb119 26 #[.int .i64 0, .int .i64 0, .int .i64 0, .int .i64 0] (0, 0) _ rfl (by (with_reducible repeat (first | refine qQm ?_ _ | refine qQk ?_ | refine qQo ?_ _)); refine qQ1 (cs := #[.int .i64 0, .int .i64 0, .int .i64 0, .int .i64 0]) ?_ 3 _ rfl; (with_reducible repeat (first | refine qQm ?_ _ | refine qQk ?_ | refine qQo ?_ _)); refine qQ1 (cs := #[.int .i64 0, .int .i64 0, .int .i64 0, .int .i64 0]) ?_ 2 _ rfl; (with_reducible repeat (first | refine qQm ?_ _ | refine qQk ?_ | refine qQo ?_ _)); refine qQ1 (cs := #[.int .i64 0, .int .i64 0, .int .i64 0, .int .i64 0]) ?_ 1 _ rfl; (with_reducible repeat (first | refine qQm ?_ _ | refine qQk ?_ | refine qQo ?_ _)); refine qQ1 (cs := #[.int .i64 0, .int .i64 0, .int .i64 0, .int .i64 0]) ?_ 0 _ rfl; (with_reducible repeat (first | refine qQm ?_ _ | refine qQk ?_ | refine qQo ?_ _)); exact BK119.out) Try.underlying26 rfl (by kernel_rfl) (.tmp .nil)))) rfl ?_
   exact ⟨_, er, by first | exact Kd.R_nil _ _ _ _ _ | exact Kd.N_nil _ _ _ _ _ | exact Kd.V_nil _ _ _ _ _ | exact Kd.Q_nil _ _ _ _ _ | exact Kd.S_nil _ _ _ _ _, by exact hq HB.out GE119.out⟩
  replace c11 := Bool.eq_false_iff.mpr c11
  subst c11
  have H1 : ((qYd.f kj3 l0).bind fun t122 => ((qZ7.f kj3 l0).bind fun t125 => (qQg.l0 kj3 l0 a1 t122 t125 ([] : List Int) t122 (t122.length : Int) 0 0 0 0 0))) = some (r1, r2, r3, r4, r5, r6) := by rw [if_neg (show ¬ (false = true) by decide)] at H; exact H
  clear H
  have H := H1
  clear H1
  replace H := Option.bind_eq_some_iff.mp H
  obtain ⟨t122, A130, H⟩ := H
  replace H : ((qZ7.f kj3 l0).bind fun t125 => (qQg.l0 kj3 l0 a1 t122 t125 ([] : List Int) t122 (t122.length : Int) 0 0 0 0 0)) = some (r1, r2, r3, r4, r5, r6) := H
  have A13 := am A130
  clear A130
  replace H := Option.bind_eq_some_iff.mp H
  obtain ⟨t125, A140, H⟩ := H
  replace H : (qQg.l0 kj3 l0 a1 t122 t125 ([] : List Int) t122 (t122.length : Int) 0 0 0 0 0) = some (r1, r2, r3, r4, r5, r6) := H
  have A14 := am A140
  clear A140
  have H' := am H
  clear H
  go_wp2_with (first | ((with_reducible refine qQ4 (f := 22) rfl ?_); refine goesL_ (some 46) rfl rfl Try.func22 (by kernel_rfl) rfl #[.slice A0 l0.length c0, .func (.func 23) #[] #[]] rfl ml ?_; (with_reducible refine (qYd.calls kj3 _ _ l0 t122 _ ?side1 ?side2 A13.out).mono ?_); (case side1 => exact cq ((Kd.qZw HR0.out HB.out))); (case side2 => exact HC0.out); rintro e w15 ⟨v123, rfl, ho0, hb⟩; refine ⟨_, rfl, ?_⟩; have n0_ := am (Kd.qZe ho0 (qQh (by exact hq HB.out GE119.out))); have n1_ := am (qQu (g := gb119) (Up.up BK119.out) hb); have n2_ := am (qQn (by exact hq HB.out GE119.out) hb); clear BK119; clear HB; have HO124 := n0_; have BK119 := n1_; have HB := n2_; clear n0_ n1_ n2_; (try clear hb); (try clear hb2); (try clear hk); (try clear hi); (try clear ho0)) | ((with_reducible refine qQ4 (f := 12) rfl ?_); refine goesL_ (some 48) rfl rfl Try.func12 (by kernel_rfl) rfl #[.slice A0 l0.length c0] rfl ml ?_; (with_reducible refine (qZ7.calls kj3 _ _ l0 t125 _ ?side1 ?side2 A14.out).mono ?_); (case side1 => exact cq ((Kd.qZw HR0.out HB.out))); (case side2 => exact HC0.out); rintro e w16 ⟨v126, rfl, ho0, hb⟩; refine ⟨_, rfl, ?_⟩; have n0_ := am (Kd.qQ7 (by exact Rq HO124.out) (Kd.qZo ho0) hb); have n1_ := am (Kd.qZe (Kd.qZn ho0 (Kd.R_lt (by exact Rq HO124.out))) (qQh (by exact hq HB.out GE119.out))); have n2_ := am (qQu (g := gb119) (Up.up BK119.out) hb); have n3_ := am (qQn (by exact hq HB.out GE119.out) hb); clear HO124; clear BK119; clear HB; have HO124 := n0_; have HO127 := n1_; have BK119 := n2_; have HB := n3_; clear n0_ n1_ n2_ n3_; (try clear hb); (try clear hb2); (try clear hk); (try clear hi); (try clear ho0); obtain ⟨Ao17, co17, eo17⟩ := Kd.qZ8 HO124.out; subst eo17))
  go_loopg [10, 51] kj3 (fun kq v10 v51 w' => ∃ (x10_2 : List Int) (x51_2 : Int), v51 = .int .i64 x51_2 ∧ Aside0 (qQg.l0 kq l0 a1 t122 t125 x10_2 t122 (t122.length : Int) x51_2 0 0 0 0 = some (r1, r2, r3, r4, r5, r6)) ∧ Aside0 (kq ≤ kj3) ∧ Aside0 (Kd.R (Kd.int .i64) 3 w' w.heap.size (fun k_ => some k_ ≠ (v126 : Value).ownBlock) (.slice Ao17 t122.length co17) t122) ∧ Aside0 (Kd.R (Kd.int .i64) 3 w' w.heap.size (fun k_ => some k_ ≠ ((.slice Ao17 t122.length co17) : Value).ownBlock ∧ some k_ ≠ ((.slice Ao17 t122.length co17) : Value).ownBlock) v126 t125) ∧ Aside0 (Kd.R (Kd.int .i64) 2 w' w.heap.size (fun _ => True) v10 x10_2) ∧ Aside0 (Kd.R (Kd.int .i64) 3 w' w.heap.size (fun k_ => some k_ ≠ (v126 : Value).ownBlock) (.slice Ao17 t122.length co17) t122) ∧ Aside0 (w'.heap[gb119]? = some (.cells #[.int .i64 0, .int .i64 0, .int .i64 0, .int .i64 0] 26 (0, 0))) ∧ Aside0 (Below w.heap.size w w'))
  case atStart => exact ⟨(([] : List Int)), (0), (by first | rfl | (simp; done) | (simp [*]; done)), H', ⟨Nat.le_refl _⟩, ⟨by (with_reducible repeat (first | apply Kd.qQs | apply Kd.qQq | apply Kd.qQt)); exact Kd.qQv HO124.out (fun _ hk => hk.2)⟩, ⟨by (with_reducible repeat (first | apply Kd.qQs | apply Kd.qQq | apply Kd.qQt)); exact Kd.qQv HO127.out (fun _ hk => ⟨hk.2, hk.2⟩)⟩, ⟨by first | exact Kd.R_nil _ _ _ _ _ | exact Kd.N_nil _ _ _ _ _ | exact Kd.V_nil _ _ _ _ _ | exact Kd.Q_nil _ _ _ _ _ | exact Kd.S_nil _ _ _ _ _⟩, ⟨by (with_reducible repeat (first | apply Kd.qQs | apply Kd.qQq | apply Kd.qQt)); exact Kd.qQv HO124.out (fun _ hk => hk.2)⟩, ⟨by exact bq BK119.out⟩, ⟨by exact hq HB.out GE119.out⟩⟩
  case round =>
   as_aux_lemma =>
   clear H'
   try clear c7
   try clear c8
   try clear c8b0 c8b1
   try clear c9
   try clear c9b0
   try clear c11
   try clear hz12
   obtain ⟨x10_2, x51_2, rfl, HA, HK2, HO_8, HO_9, HO_10, HO_49, BK119, HB⟩ := hrel
   rcases gk with _ | k2
   ·exact absurd HA.out (by simp [qQg.l0])
   have H := HA.out
   clear HA
   simp only [qQg.l0] at H
   by_cases c18 : x51_2 < (t122.length : Int)
   ·rw [if_pos c18] at H
    have c18b0 : decide (x51_2 < (t122.length : Int)) = true := decide_eq_true c18
    clear c18
    by_cases c19 : 0 ≤ x51_2
    case neg =>
     rw [if_neg c19] at H
     exact absurd H (by simp)
    rw [if_pos c19] at H
    have c19b0 : decide (0 ≤ x51_2) = true := decide_eq_true c19
    clear c19
    by_cases c20 : x51_2 < (t122.length : Int)
    case neg =>
     rw [if_neg c20] at H
     exact absurd H (by simp)
    rw [if_pos c20] at H
    have c20b0 : decide (x51_2 < (t122.length : Int)) = true := decide_eq_true c20
    clear c20
    by_cases c21 : 0 ≤ (rd t122 x51_2)
    case neg =>
     rw [if_neg c21] at H
     exact absurd H (by simp)
    rw [if_pos c21] at H
    have c21b0 : decide (0 ≤ (rd t122 x51_2)) = true := decide_eq_true c21
    clear c21
    by_cases c22 : (rd t122 x51_2) < (l0.length : Int)
    case neg =>
     rw [if_neg c22] at H
     exact absurd H (by simp)
    rw [if_pos c22] at H
    have c22b0 : decide ((rd t122 x51_2) < (l0.length : Int)) = true := decide_eq_true c22
    clear c22
    by_cases c23 : x10_2.length < 17592186044416
    case neg =>
     rw [if_neg c23] at H
     exact absurd H (by simp)
    rw [if_pos c23] at H
    have LMc23 := am c23
    clear c23
    obtain ⟨y130, hy130⟩ : ∃ y_ : List Int, y_ = (x10_2 ++ [(qQc l0 (rd t122 x51_2)).f4]) := ⟨_, rfl⟩
    replace H : (qQg.l0 k2 l0 a1 t122 t125 y130 t122 (t122.length : Int) (wrap64 (x51_2 + 1)) 0 0 0 0) = some (r1, r2, r3, r4, r5, r6) := by first | (rw [hy130]; with_reducible exact H) | (have H2_ := (Option.bind_some _ _).symm.trans H; rw [hy130]; with_reducible exact H2_) | (have H2_ := (Option.bind_some _ _).symm.trans H; with_reducible exact H2_) | with_reducible exact H | (rw [hy130]; exact H) | exact H
    have Ny130 := am hy130
    clear hy130
    have H' := am H
    clear H
    have p128 : 0 ≤ (x51_2 : Int) := yd
    have q128 : x51_2 < (t122.length : Int) := yd
    obtain ⟨ad128, e128, hx128_0⟩ := Kd.qYa (Kd.qQx HO_49.out).2.2 x51_2 p128 q128
    cases e128
    replace p128 := eq_true p128
    replace q128 := eq_true q128
    have p129 : 0 ≤ ((rd t122 x51_2) : Int) := yd
    have q129 : (rd t122 x51_2) < (l0.length : Int) := yd
    obtain ⟨ad129, e129, hx129_0, hx129_1, hx129_2, hx129_3, hx129_4, hx129_5, hx129_6, hx129_7, hx129_8, hx129_9, hx129_10, hx129_11, hx129_12⟩ := qYl HR0.out (rd t122 x51_2) p129 q129
    cases e129
    replace hx129_0 := hxb HB.out hx129_0
    replace hx129_1 := hxb HB.out hx129_1
    replace hx129_2 := hxb HB.out hx129_2
    replace hx129_3 := hxb HB.out hx129_3
    replace hx129_4 := hxb HB.out hx129_4
    replace hx129_5 := hxb HB.out hx129_5
    replace hx129_6 := hxb HB.out hx129_6
    replace hx129_7 := hxb HB.out hx129_7
    replace hx129_8 := hxb HB.out hx129_8
    replace hx129_9 := hxb HB.out hx129_9
    replace hx129_10 := hxb HB.out hx129_10
    replace hx129_11 := hxb HB.out hx129_11
    replace hx129_12 := hxb HB.out hx129_12
    replace p129 := eq_true p129
    replace q129 := eq_true q129
    go_wp2_with (first | ((with_reducible refine qYj (b := .append) (xs := #[.tmp 55, .tmp 61]) rfl ?_); (try (refine qYv (by rfl) ?_; dsimp only)); at_builtin; refine Kd.qXr (Kd.int .i64) (w0 := w) w.heap.size rfl (.tmp 55) (.tmp 61) 54 2 (.int .i64 0) 8 rfl Try.underlying54 info2 rfl (by decide) (by omega) u10 x10_2 ((qQc l0 (rd t122 x51_2)).f4) [.int .i64 ((qQc l0 (rd t122 x51_2)).f4)] (fun _ => True) (fun _ => False) rfl rfl ?aP (fun _ hk => hk.elim) ?aF ?aO ?aB ?aS ?aL ?_; (case aP => exact rfl); (case aB => exact (by exact hq HB.out GE119.out)); (case aF => exact (fun _ _ => trivial)); (case aO => exact (by exact Rq HO_10.out)); (case aS => exact (qQh (by exact hq HB.out GE119.out))); (case aL => have := LMc23.out; omega); intro v131 w24 ho hb hg hat; rw [← Ny130.out] at ho; have n0_ := am (Kd.qYz (by exact Rq HO_8.out) (Kd.qYy (by exact Rq HO_10.out)) (by decide) hg); have n1_ := am (Kd.qYz (by exact Rq HO_9.out) (Kd.qYy (by exact Rq HO_10.out)) (by decide) hg); have n2_ := am (Kd.qYz (by exact Rq HO_49.out) (Kd.qYy (by exact Rq HO_10.out)) (by decide) hg); have n3_ := am (qYc (g := gb119) (Up.up BK119.out) hg (Kd.R_ne HO_10.out BK119.out (by decide))); have n4_ := am (hb); have n5_ := am (ho); clear HO_8; clear HO_9; clear HO_49; clear BK119; clear HB; clear HO_10; have HO_8 := n0_; have HO_9 := n1_; have HO_49 := n2_; have BK119 := n3_; have HB := n4_; have HO132 := n5_; clear n0_ n1_ n2_ n3_ n4_ n5_; clear ho hb hg hat))
    go_roundg k2
    case measure => have := HJ3.out; have := HK2.out; omega
    case rel => exact ⟨(y130), (wrap64 (x51_2 + 1)), (by first | rfl | (simp; done) | (simp [*]; done)), H', ⟨by have := HJ3.out; have := HK2.out; omega⟩, ⟨by exact Rq HO_8.out⟩, ⟨by exact Rq HO_9.out⟩, ⟨by exact Rq HO132.out⟩, ⟨by exact Rq HO_49.out⟩, ⟨by exact bq BK119.out⟩, ⟨by exact hq HB.out GE119.out⟩⟩
   rw [if_neg c18] at H
   have c18b0 : decide (x51_2 < (t122.length : Int)) = false := decide_eq_false c18
   clear c18
   have H' := am H
   clear H
   obtain ⟨Ao25, co25, eo25⟩ := Kd.qZ8 HO_9.out
   subst eo25
   go_wp2
   go_loopg [10, 66] k2 (fun kq v10 v66 w' => ∃ (x10_3 : List Int) (x66_3 : Int), v66 = .int .i64 x66_3 ∧ Aside0 (qQg.l1 kq l0 a1 t122 t125 x10_3 t125 (t125.length : Int) x66_3 0 0 0 0 = some (r1, r2, r3, r4, r5, r6)) ∧ Aside0 (kq ≤ k2) ∧ Aside0 (Kd.R (Kd.int .i64) 3 w' w.heap.size (fun k_ => some k_ ≠ ((.slice Ao25 t125.length co25) : Value).ownBlock ∧ some k_ ≠ ((.slice Ao25 t125.length co25) : Value).ownBlock) (.slice Ao17 t122.length co17) t122) ∧ Aside0 (Kd.R (Kd.int .i64) 3 w' w.heap.size (fun k_ => some k_ ≠ ((.slice Ao17 t122.length co17) : Value).ownBlock) (.slice Ao25 t125.length co25) t125) ∧ Aside0 (Kd.R (Kd.int .i64) 2 w' w.heap.size (fun _ => True) v10 x10_3) ∧ Aside0 (Kd.R (Kd.int .i64) 3 w' w.heap.size (fun k_ => some k_ ≠ ((.slice Ao17 t122.length co17) : Value).ownBlock) (.slice Ao25 t125.length co25) t125) ∧ Aside0 (w'.heap[gb119]? = some (.cells #[.int .i64 0, .int .i64 0, .int .i64 0, .int .i64 0] 26 (0, 0))) ∧ Aside0 (Below w.heap.size w w'))
   case atStart => exact ⟨(x10_2), (0), (by first | rfl | (simp; done) | (simp [*]; done)), H', ⟨Nat.le_refl _⟩, ⟨by (with_reducible repeat (first | apply Kd.qQs | apply Kd.qQq | apply Kd.qQt)); exact Kd.qQv HO_8.out (fun _ hk => ⟨hk, hk⟩)⟩, ⟨by (with_reducible repeat (first | apply Kd.qQs | apply Kd.qQq | apply Kd.qQt)); exact Kd.qQv HO_9.out (fun _ hk => hk.1)⟩, ⟨by exact Rq HO_10.out⟩, ⟨by (with_reducible repeat (first | apply Kd.qQs | apply Kd.qQq | apply Kd.qQt)); exact Kd.qQv HO_9.out (fun _ hk => hk.1)⟩, ⟨by exact bq BK119.out⟩, ⟨by exact hq HB.out GE119.out⟩⟩
   case round =>
    as_aux_lemma =>
    clear H'
    try clear c7
    try clear c8
    try clear c8b0 c8b1
    try clear c9
    try clear c9b0
    try clear c11
    try clear c18
    try clear c18b0
    try clear c19
    try clear c19b0
    try clear c20
    try clear c20b0
    try clear c21
    try clear c21b0
    try clear c22
    try clear c22b0
    try clear c23
    try clear hz12
    try clear hx128_0
    try clear hx129_0 hx129_1 hx129_10 hx129_11 hx129_12 hx129_2 hx129_3 hx129_4 hx129_5 hx129_6 hx129_7 hx129_8 hx129_9
    try clear p128
    try clear p129
    try clear q128
    try clear q129
    obtain ⟨x10_3, x66_3, rfl, HA, HK3, HO_8, HO_9, HO_10, HO_64, BK119, HB⟩ := hrel
    rcases gk with _ | k3
    ·exact absurd HA.out (by simp [qQg.l1])
    have H := HA.out
    clear HA
    simp only [qQg.l1] at H
    by_cases c26 : x66_3 < (t125.length : Int)
    ·rw [if_pos c26] at H
     have c26b0 : decide (x66_3 < (t125.length : Int)) = true := decide_eq_true c26
     clear c26
     by_cases c27 : 0 ≤ x66_3
     case neg =>
      rw [if_neg c27] at H
      exact absurd H (by simp)
     rw [if_pos c27] at H
     have c27b0 : decide (0 ≤ x66_3) = true := decide_eq_true c27
     clear c27
     by_cases c28 : x66_3 < (t125.length : Int)
     case neg =>
      rw [if_neg c28] at H
      exact absurd H (by simp)
     rw [if_pos c28] at H
     have c28b0 : decide (x66_3 < (t125.length : Int)) = true := decide_eq_true c28
     clear c28
     by_cases c29 : 0 ≤ (rd t125 x66_3)
     case neg =>
      rw [if_neg c29] at H
      exact absurd H (by simp)
     rw [if_pos c29] at H
     have c29b0 : decide (0 ≤ (rd t125 x66_3)) = true := decide_eq_true c29
     clear c29
     by_cases c30 : (rd t125 x66_3) < (l0.length : Int)
     case neg =>
      rw [if_neg c30] at H
      exact absurd H (by simp)
     rw [if_pos c30] at H
     have c30b0 : decide ((rd t125 x66_3) < (l0.length : Int)) = true := decide_eq_true c30
     clear c30
     replace H := Option.bind_eq_some_iff.mp H
     obtain ⟨t135, A310, H⟩ := H
     replace H : (if x10_3.length < 17592186044416 then (qQg.l1 k3 l0 a1 t122 t125 (x10_3 ++ [t135]) t125 (t125.length : Int) (wrap64 (x66_3 + 1)) 0 0 0 0) else (none)) = some (r1, r2, r3, r4, r5, r6) := H
     have A31 := am A310
     clear A310
     by_cases c32 : x10_3.length < 17592186044416
     case neg =>
      rw [if_neg c32] at H
      exact absurd H (by simp)
     rw [if_pos c32] at H
     have LMc32 := am c32
     clear c32
     obtain ⟨y136, hy136⟩ : ∃ y_ : List Int, y_ = (x10_3 ++ [t135]) := ⟨_, rfl⟩
     replace H : (qQg.l1 k3 l0 a1 t122 t125 y136 t125 (t125.length : Int) (wrap64 (x66_3 + 1)) 0 0 0 0) = some (r1, r2, r3, r4, r5, r6) := by first | (rw [hy136]; with_reducible exact H) | (have H2_ := (Option.bind_some _ _).symm.trans H; rw [hy136]; with_reducible exact H2_) | (have H2_ := (Option.bind_some _ _).symm.trans H; with_reducible exact H2_) | with_reducible exact H | (rw [hy136]; exact H) | exact H
     have Ny136 := am hy136
     clear hy136
     have H' := am H
     clear H
     have p133 : 0 ≤ (x66_3 : Int) := yd
     have q133 : x66_3 < (t125.length : Int) := yd
     obtain ⟨ad133, e133, hx133_0⟩ := Kd.qYa (Kd.qQx HO_64.out).2.2 x66_3 p133 q133
     cases e133
     replace p133 := eq_true p133
     replace q133 := eq_true q133
     have p134 : 0 ≤ ((rd t125 x66_3) : Int) := yd
     have q134 : (rd t125 x66_3) < (l0.length : Int) := yd
     obtain ⟨ad134, e134, hx134_0, hx134_1, hx134_2, hx134_3, hx134_4, hx134_5, hx134_6, hx134_7, hx134_8, hx134_9, hx134_10, hx134_11, hx134_12⟩ := qYl HR0.out (rd t125 x66_3) p134 q134
     cases e134
     replace hx134_0 := hxb HB.out hx134_0
     replace hx134_1 := hxb HB.out hx134_1
     replace hx134_2 := hxb HB.out hx134_2
     replace hx134_3 := hxb HB.out hx134_3
     replace hx134_4 := hxb HB.out hx134_4
     replace hx134_5 := hxb HB.out hx134_5
     replace hx134_6 := hxb HB.out hx134_6
     replace hx134_7 := hxb HB.out hx134_7
     replace hx134_8 := hxb HB.out hx134_8
     replace hx134_9 := hxb HB.out hx134_9
     replace hx134_10 := hxb HB.out hx134_10
     replace hx134_11 := hxb HB.out hx134_11
     replace hx134_12 := hxb HB.out hx134_12
     replace p134 := eq_true p134
     replace q134 := eq_true q134
     go_wp2_with (first | ((with_reducible refine qQ4 (f := 25) rfl ?_); refine goesL_ (some 76) rfl rfl Try.func25 (by kernel_rfl) rfl #[.int .i64 ((qQc l0 (rd t125 x66_3)).f2)] rfl ml ?_; (with_reducible refine (qZb.calls ((qQc l0 (rd t125 x66_3)).f2) t135 _ A31.out).mono ?_); rintro e w' ⟨rfl, ⟨nd, rfl⟩⟩; refine ⟨_, rfl, ?_⟩) | ((with_reducible refine qYj (b := .append) (xs := #[.tmp 70, .tmp 77]) rfl ?_); (try (refine qYv (by rfl) ?_; dsimp only)); at_builtin; refine Kd.qXr (Kd.int .i64) (w0 := w) w.heap.size rfl (.tmp 70) (.tmp 77) 54 2 (.int .i64 0) 8 rfl Try.underlying54 info2 rfl (by decide) (by omega) u10 x10_3 t135 [.int .i64 t135] (fun _ => True) (fun _ => False) rfl rfl ?aP (fun _ hk => hk.elim) ?aF ?aO ?aB ?aS ?aL ?_; (case aP => exact rfl); (case aB => exact (by exact hq HB.out GE119.out)); (case aF => exact (fun _ _ => trivial)); (case aO => exact (by exact Rq HO_10.out)); (case aS => exact (qQh (by exact hq HB.out GE119.out))); (case aL => have := LMc32.out; omega); intro v137 w33 ho hb hg hat; rw [← Ny136.out] at ho; have n0_ := am (Kd.qYz (by exact Rq HO_8.out) (Kd.qYy (by exact Rq HO_10.out)) (by decide) hg); have n1_ := am (Kd.qYz (by exact Rq HO_9.out) (Kd.qYy (by exact Rq HO_10.out)) (by decide) hg); have n2_ := am (Kd.qYz (by exact Rq HO_64.out) (Kd.qYy (by exact Rq HO_10.out)) (by decide) hg); have n3_ := am (qYc (g := gb119) (Up.up BK119.out) hg (Kd.R_ne HO_10.out BK119.out (by decide))); have n4_ := am (hb); have n5_ := am (ho); clear HO_8; clear HO_9; clear HO_64; clear BK119; clear HB; clear HO_10; have HO_8 := n0_; have HO_9 := n1_; have HO_64 := n2_; have BK119 := n3_; have HB := n4_; have HO138 := n5_; clear n0_ n1_ n2_ n3_ n4_ n5_; clear ho hb hg hat))
     go_roundg k3
     case measure => have := HJ3.out; have := HK2.out; have := HK3.out; omega
     case rel => exact ⟨(y136), (wrap64 (x66_3 + 1)), (by first | rfl | (simp; done) | (simp [*]; done)), H', ⟨by have := HJ3.out; have := HK2.out; have := HK3.out; omega⟩, ⟨by exact Rq HO_8.out⟩, ⟨by exact Rq HO_9.out⟩, ⟨by exact Rq HO138.out⟩, ⟨by exact Rq HO_64.out⟩, ⟨by exact bq BK119.out⟩, ⟨by exact hq HB.out GE119.out⟩⟩
    rw [if_neg c26] at H
    have c26b0 : decide (x66_3 < (t125.length : Int)) = false := decide_eq_false c26
    clear c26
    have H' := am H
    clear H
    go_wp2
    go_loopg [10, 82] k3 (fun kq v10 v82 w' => ∃ (x10_4 : List Int) (x82_4 : Int), v82 = .int .i64 x82_4 ∧ Aside0 (qQg.l2 kq l0 a1 t122 t125 x10_4 t125 (t125.length : Int) x82_4 0 0 0 0 = some (r1, r2, r3, r4, r5, r6)) ∧ Aside0 (kq ≤ k3) ∧ Aside0 (Kd.R (Kd.int .i64) 3 w' w.heap.size (fun k_ => some k_ ≠ ((.slice Ao25 t125.length co25) : Value).ownBlock ∧ some k_ ≠ ((.slice Ao25 t125.length co25) : Value).ownBlock) (.slice Ao17 t122.length co17) t122) ∧ Aside0 (Kd.R (Kd.int .i64) 3 w' w.heap.size (fun k_ => some k_ ≠ ((.slice Ao17 t122.length co17) : Value).ownBlock) (.slice Ao25 t125.length co25) t125) ∧ Aside0 (Kd.R (Kd.int .i64) 2 w' w.heap.size (fun _ => True) v10 x10_4) ∧ Aside0 (Kd.R (Kd.int .i64) 3 w' w.heap.size (fun k_ => some k_ ≠ ((.slice Ao17 t122.length co17) : Value).ownBlock) (.slice Ao25 t125.length co25) t125) ∧ Aside0 (w'.heap[gb119]? = some (.cells #[.int .i64 0, .int .i64 0, .int .i64 0, .int .i64 0] 26 (0, 0))) ∧ Aside0 (Below w.heap.size w w'))
    case atStart => exact ⟨(x10_3), (0), (by first | rfl | (simp; done) | (simp [*]; done)), H', ⟨Nat.le_refl _⟩, ⟨by (with_reducible repeat (first | apply Kd.qQs | apply Kd.qQq | apply Kd.qQt)); exact Kd.qQv HO_8.out (fun _ hk => ⟨hk.1, hk.1⟩)⟩, ⟨by exact Rq HO_9.out⟩, ⟨by exact Rq HO_10.out⟩, ⟨by exact Rq HO_9.out⟩, ⟨by exact bq BK119.out⟩, ⟨by exact hq HB.out GE119.out⟩⟩
    case round =>
     as_aux_lemma =>
     clear H'
     try clear c7
     try clear c8
     try clear c8b0 c8b1
     try clear c9
     try clear c9b0
     try clear c11
     try clear c18
     try clear c18b0
     try clear c19
     try clear c19b0
     try clear c20
     try clear c20b0
     try clear c21
     try clear c21b0
     try clear c22
     try clear c22b0
     try clear c23
     try clear c26
     try clear c26b0
     try clear c27
     try clear c27b0
     try clear c28
     try clear c28b0
     try clear c29
     try clear c29b0
     try clear c30
     try clear c30b0
     try clear c32
     try clear hz12
     try clear hx128_0
     try clear hx129_0 hx129_1 hx129_10 hx129_11 hx129_12 hx129_2 hx129_3 hx129_4 hx129_5 hx129_6 hx129_7 hx129_8 hx129_9
     try clear hx133_0
     try clear hx134_0 hx134_1 hx134_10 hx134_11 hx134_12 hx134_2 hx134_3 hx134_4 hx134_5 hx134_6 hx134_7 hx134_8 hx134_9
     try clear p128
     try clear p129
     try clear p133
     try clear p134
     try clear q128
     try clear q129
     try clear q133
     try clear q134
     obtain ⟨x10_4, x82_4, rfl, HA, HK4, HO_8, HO_9, HO_10, HO_80, BK119, HB⟩ := hrel
     rcases gk with _ | k4
     ·exact absurd HA.out (by simp [qQg.l2])
     have H := HA.out
     clear HA
     simp only [qQg.l2] at H
     by_cases c34 : x82_4 < (t125.length : Int)
     ·rw [if_pos c34] at H
      have c34b0 : decide (x82_4 < (t125.length : Int)) = true := decide_eq_true c34
      clear c34
      by_cases c35 : 0 ≤ x82_4
      case neg =>
       rw [if_neg c35] at H
       exact absurd H (by simp)
      rw [if_pos c35] at H
      have c35b0 : decide (0 ≤ x82_4) = true := decide_eq_true c35
      clear c35
      by_cases c36 : x82_4 < (t125.length : Int)
      case neg =>
       rw [if_neg c36] at H
       exact absurd H (by simp)
      rw [if_pos c36] at H
      have c36b0 : decide (x82_4 < (t125.length : Int)) = true := decide_eq_true c36
      clear c36
      by_cases c37 : 0 ≤ (rd t125 x82_4)
      case neg =>
       rw [if_neg c37] at H
       exact absurd H (by simp)
      rw [if_pos c37] at H
      have c37b0 : decide (0 ≤ (rd t125 x82_4)) = true := decide_eq_true c37
      clear c37
      by_cases c38 : (rd t125 x82_4) < (l0.length : Int)
      case neg =>
       rw [if_neg c38] at H
       exact absurd H (by simp)
      rw [if_pos c38] at H
      have c38b0 : decide ((rd t125 x82_4) < (l0.length : Int)) = true := decide_eq_true c38
      clear c38
      by_cases c39 : x10_4.length < 17592186044416
      case neg =>
       rw [if_neg c39] at H
       exact absurd H (by simp)
      rw [if_pos c39] at H
      have LMc39 := am c39
      clear c39
      obtain ⟨y141, hy141⟩ : ∃ y_ : List Int, y_ = (x10_4 ++ [(qQc l0 (rd t125 x82_4)).f1]) := ⟨_, rfl⟩
      replace H : (qQg.l2 k4 l0 a1 t122 t125 y141 t125 (t125.length : Int) (wrap64 (x82_4 + 1)) 0 0 0 0) = some (r1, r2, r3, r4, r5, r6) := by first | (rw [hy141]; with_reducible exact H) | (have H2_ := (Option.bind_some _ _).symm.trans H; rw [hy141]; with_reducible exact H2_) | (have H2_ := (Option.bind_some _ _).symm.trans H; with_reducible exact H2_) | with_reducible exact H | (rw [hy141]; exact H) | exact H
      have Ny141 := am hy141
      clear hy141
      have H' := am H
      clear H
      have p139 : 0 ≤ (x82_4 : Int) := yd
      have q139 : x82_4 < (t125.length : Int) := yd
      obtain ⟨ad139, e139, hx139_0⟩ := Kd.qYa (Kd.qQx HO_80.out).2.2 x82_4 p139 q139
      cases e139
      replace p139 := eq_true p139
      replace q139 := eq_true q139
      have p140 : 0 ≤ ((rd t125 x82_4) : Int) := yd
      have q140 : (rd t125 x82_4) < (l0.length : Int) := yd
      obtain ⟨ad140, e140, hx140_0, hx140_1, hx140_2, hx140_3, hx140_4, hx140_5, hx140_6, hx140_7, hx140_8, hx140_9, hx140_10, hx140_11, hx140_12⟩ := qYl HR0.out (rd t125 x82_4) p140 q140
      cases e140
      replace hx140_0 := hxb HB.out hx140_0
      replace hx140_1 := hxb HB.out hx140_1
      replace hx140_2 := hxb HB.out hx140_2
      replace hx140_3 := hxb HB.out hx140_3
      replace hx140_4 := hxb HB.out hx140_4
      replace hx140_5 := hxb HB.out hx140_5
      replace hx140_6 := hxb HB.out hx140_6
      replace hx140_7 := hxb HB.out hx140_7
      replace hx140_8 := hxb HB.out hx140_8
      replace hx140_9 := hxb HB.out hx140_9
      replace hx140_10 := hxb HB.out hx140_10
      replace hx140_11 := hxb HB.out hx140_11
      replace hx140_12 := hxb HB.out hx140_12
      replace p140 := eq_true p140
      replace q140 := eq_true q140
      go_wp2_with (first | ((with_reducible refine qYj (b := .append) (xs := #[.tmp 86, .tmp 92]) rfl ?_); (try (refine qYv (by rfl) ?_; dsimp only)); at_builtin; refine Kd.qXr (Kd.int .i64) (w0 := w) w.heap.size rfl (.tmp 86) (.tmp 92) 54 2 (.int .i64 0) 8 rfl Try.underlying54 info2 rfl (by decide) (by omega) u10 x10_4 ((qQc l0 (rd t125 x82_4)).f1) [.int .i64 ((qQc l0 (rd t125 x82_4)).f1)] (fun _ => True) (fun _ => False) rfl rfl ?aP (fun _ hk => hk.elim) ?aF ?aO ?aB ?aS ?aL ?_; (case aP => exact rfl); (case aB => exact (by exact hq HB.out GE119.out)); (case aF => exact (fun _ _ => trivial)); (case aO => exact (by exact Rq HO_10.out)); (case aS => exact (qQh (by exact hq HB.out GE119.out))); (case aL => have := LMc39.out; omega); intro v142 w40 ho hb hg hat; rw [← Ny141.out] at ho; have n0_ := am (Kd.qYz (by exact Rq HO_8.out) (Kd.qYy (by exact Rq HO_10.out)) (by decide) hg); have n1_ := am (Kd.qYz (by exact Rq HO_9.out) (Kd.qYy (by exact Rq HO_10.out)) (by decide) hg); have n2_ := am (Kd.qYz (by exact Rq HO_80.out) (Kd.qYy (by exact Rq HO_10.out)) (by decide) hg); have n3_ := am (qYc (g := gb119) (Up.up BK119.out) hg (Kd.R_ne HO_10.out BK119.out (by decide))); have n4_ := am (hb); have n5_ := am (ho); clear HO_8; clear HO_9; clear HO_80; clear BK119; clear HB; clear HO_10; have HO_8 := n0_; have HO_9 := n1_; have HO_80 := n2_; have BK119 := n3_; have HB := n4_; have HO143 := n5_; clear n0_ n1_ n2_ n3_ n4_ n5_; clear ho hb hg hat))
      go_roundg k4
      case measure => have := HJ3.out; have := HK2.out; have := HK3.out; have := HK4.out; omega
      case rel => exact ⟨(y141), (wrap64 (x82_4 + 1)), (by first | rfl | (simp; done) | (simp [*]; done)), H', ⟨by have := HJ3.out; have := HK2.out; have := HK3.out; have := HK4.out; omega⟩, ⟨by exact Rq HO_8.out⟩, ⟨by exact Rq HO_9.out⟩, ⟨by exact Rq HO143.out⟩, ⟨by exact Rq HO_80.out⟩, ⟨by exact bq BK119.out⟩, ⟨by exact hq HB.out GE119.out⟩⟩
     rw [if_neg c34] at H
     have c34b0 : decide (x82_4 < (t125.length : Int)) = false := decide_eq_false c34
     clear c34
     replace H := Option.bind_eq_some_iff.mp H
     obtain ⟨⟨t144, t145, t146⟩, A410, H⟩ := H
     replace H : (if t146 = 0 then (if 0 ≤ (l0.length : Int) then (if ((l0.length : Int) : Int).toNat ≤ 35184372088832 then (qQg.l3 k4 l0 t122 t125 t144 t145 (t125.length : Int) (List.replicate ((l0.length : Int) : Int).toNat 0) (List.replicate ((l0.length : Int) : Int).toNat 0) (List.replicate ((l0.length : Int) : Int).toNat 0) (t125.length : Int) 0 0 0 0 0) else (none)) else (none)) else (some (([] : List (S43)), 0, 0, 0, 0, t146))) = some (r1, r2, r3, r4, r5, r6) := H
     have A41 := am A410
     clear A410
     by_cases c42 : t146 = 0
     case neg =>
      rw [if_neg c42] at H
      have c42b0 : (t146 == 0) = false := beq_eq_false_iff_ne.mpr c42
      have c42b1 : (t146 != 0) = true := bne_iff_ne.mpr c42
      simp only [Option.some.injEq, Prod.mk.injEq] at H
      obtain ⟨rfl, rfl, rfl, rfl, rfl, rfl⟩ := H
      obtain ⟨Ao122, co122, eo122⟩ := Kd.qZ8 HO_10.out
      subst eo122
      go_wp2_with (first | ((with_reducible refine qQ4 (f := 26) rfl ?_); refine goesL_ (some 98) rfl rfl Try.func26 (by kernel_rfl) rfl #[.int .i64 a1, .slice Ao122 x10_4.length co122] rfl ml ?_; (with_reducible refine (qZx.calls k4 a1 _ _ x10_4 t144 t145 t146 _ ?side1 ?side2 A41.out).mono ?_); (case side1 => exact cq ((Kd.qQx HO_10.out).2.2)); (case side2 => exact (Kd.qQx HO_10.out).2.1); rintro e w123 ⟨v147, rfl, ho0, hb⟩; refine ⟨_, rfl, ?_⟩; have n0_ := am (Kd.qQw (by exact Rq HO_8.out) hb); have n1_ := am (Kd.qQw (by exact Rq HO_9.out) hb); have n2_ := am (Kd.qQ7 (by exact Rq HO_10.out) (Kd.qZo ho0) hb); have n3_ := am (Kd.qQw (by exact Rq HO_80.out) hb); have n4_ := am (Kd.qZe (Kd.qZn ho0 (Kd.R_lt (by exact Rq HO_10.out))) (qQh (by exact hq HB.out GE119.out))); have n5_ := am (qQu (g := gb119) (Up.up BK119.out) hb); have n6_ := am (qQn (by exact hq HB.out GE119.out) hb); clear HO_8; clear HO_9; clear HO_10; clear HO_80; clear BK119; clear HB; have HO_8 := n0_; have HO_9 := n1_; have HO_10 := n2_; have HO_80 := n3_; have HO148 := n4_; have BK119 := n5_; have HB := n6_; clear n0_ n1_ n2_ n3_ n4_ n5_ n6_; (try clear hb); (try clear hb2); (try clear hk); (try clear hi); (try clear ho0); have hcz124_0 : w123.cell? ⟨gb119, 0, none⟩ = some (.int .i64 0) := (qQa BK119.out 0).trans rfl; have hcz124_1 : w123.cell? ⟨gb119, 1, none⟩ = some (.int .i64 0) := (qQa BK119.out 1).trans rfl; have hcz124_2 : w123.cell? ⟨gb119, 2, none⟩ = some (.int .i64 0) := (qQa BK119.out 2).trans rfl; have hcz124_3 : w123.cell? ⟨gb119, 3, none⟩ = some (.int .i64 0) := (qQa BK119.out 3).trans rfl; have hfz124_0 := qQi BK119.out 0; have hfz124_1 := qQi BK119.out 1; have hfz124_2 := qQi BK119.out 2; have hfz124_3 := qQi BK119.out 3))
      refine bodyPost_ret (qXg (rs := [.tmp 4, .cell 5 26, .tmp 6]) rfl (by simp) (.tmp (.cell gb119 26 #[.int .i64 0, .int .i64 0, .int .i64 0, .int .i64 0] (0, 0) _ rfl (by (with_reducible repeat (first | refine qQm ?_ _ | refine qQk ?_ | refine qQo ?_ _)); refine qQ1 (cs := #[.int .i64 0, .int .i64 0, .int .i64 0, .int .i64 0]) ?_ 3 _ rfl; (with_reducible repeat (first | refine qQm ?_ _ | refine qQk ?_ | refine qQo ?_ _)); refine qQ1 (cs := #[.int .i64 0, .int .i64 0, .int .i64 0, .int .i64 0]) ?_ 2 _ rfl; (with_reducible repeat (first | refine qQm ?_ _ | refine qQk ?_ | refine qQo ?_ _)); refine qQ1 (cs := #[.int .i64 0, .int .i64 0, .int .i64 0, .int .i64 0]) ?_ 1 _ rfl; (with_reducible repeat (first | refine qQm ?_ _ | refine qQk ?_ | refine qQo ?_ _)); refine qQ1 (cs := #[.int .i64 0, .int .i64 0, .int .i64 0, .int .i64 0]) ?_ 0 _ rfl; (with_reducible repeat (first | refine qQm ?_ _ | refine qQk ?_ | refine qQo ?_ _)); exact BK119.out) Try.underlying26 rfl (by kernel_rfl) (.tmp .nil)))) rfl ?_
      exact ⟨_, er, by first | exact Kd.R_nil _ _ _ _ _ | exact Kd.N_nil _ _ _ _ _ | exact Kd.V_nil _ _ _ _ _ | exact Kd.Q_nil _ _ _ _ _ | exact Kd.S_nil _ _ _ _ _, by exact hq HB.out GE119.out⟩
     rw [if_pos c42] at H
     have c42b0 : (t146 == 0) = true := beq_iff_eq.mpr c42
     have c42b1 : (t146 != 0) = false := bne_eq_false_iff_eq.mpr c42
     clear c42
     by_cases c43 : 0 ≤ (l0.length : Int)
     case neg =>
      rw [if_neg c43] at H
      exact absurd H (by simp)
     rw [if_pos c43] at H
     have c43b0 := eq_true c43
     have c43b1 : decide (0 ≤ (l0.length : Int)) = true := decide_eq_true c43
     clear c43
     by_cases c44 : ((l0.length : Int) : Int).toNat ≤ 35184372088832
     case neg =>
      rw [if_neg c44] at H
      exact absurd H (by simp)
     rw [if_pos c44] at H
     have c44b0 := eq_true c44
     have c44b1 : decide (((l0.length : Int) : Int).toNat ≤ 35184372088832) = true := decide_eq_true c44
     clear c44
     obtain ⟨y149, hy149⟩ : ∃ y_ : List Int, y_ = (List.replicate ((l0.length : Int) : Int).toNat 0) := ⟨_, rfl⟩
     replace H : (qQg.l3 k4 l0 t122 t125 t144 t145 (t125.length : Int) y149 (List.replicate ((l0.length : Int) : Int).toNat 0) (List.replicate ((l0.length : Int) : Int).toNat 0) (t125.length : Int) 0 0 0 0 0) = some (r1, r2, r3, r4, r5, r6) := by first | (rw [hy149]; with_reducible exact H) | (have H2_ := (Option.bind_some _ _).symm.trans H; rw [hy149]; with_reducible exact H2_) | (have H2_ := (Option.bind_some _ _).symm.trans H; with_reducible exact H2_) | with_reducible exact H | (rw [hy149]; exact H) | exact H
     have Ny149 := am hy149
     clear hy149
     obtain ⟨y152, hy152⟩ : ∃ y_ : List Int, y_ = (List.replicate ((l0.length : Int) : Int).toNat 0) := ⟨_, rfl⟩
     replace H : (qQg.l3 k4 l0 t122 t125 t144 t145 (t125.length : Int) y149 y152 (List.replicate ((l0.length : Int) : Int).toNat 0) (t125.length : Int) 0 0 0 0 0) = some (r1, r2, r3, r4, r5, r6) := by first | (rw [hy152]; with_reducible exact H) | (have H2_ := (Option.bind_some _ _).symm.trans H; rw [hy152]; with_reducible exact H2_) | (have H2_ := (Option.bind_some _ _).symm.trans H; with_reducible exact H2_) | with_reducible exact H | (rw [hy152]; exact H) | exact H
     have Ny152 := am hy152
     clear hy152
     obtain ⟨y155, hy155⟩ : ∃ y_ : List Int, y_ = (List.replicate ((l0.length : Int) : Int).toNat 0) := ⟨_, rfl⟩
     replace H : (qQg.l3 k4 l0 t122 t125 t144 t145 (t125.length : Int) y149 y152 y155 (t125.length : Int) 0 0 0 0 0) = some (r1, r2, r3, r4, r5, r6) := by first | (rw [hy155]; with_reducible exact H) | (have H2_ := (Option.bind_some _ _).symm.trans H; rw [hy155]; with_reducible exact H2_) | (have H2_ := (Option.bind_some _ _).symm.trans H; with_reducible exact H2_) | with_reducible exact H | (rw [hy155]; exact H) | exact H
     have Ny155 := am hy155
     clear hy155
     have H' := am H
     clear H
     obtain ⟨Ao45, co45, eo45⟩ := Kd.qZ8 HO_10.out
     subst eo45
     try go_wp2_with (first | ((with_reducible refine qQ4 (f := 26) rfl ?_); refine goesL_ (some 98) rfl rfl Try.func26 (by kernel_rfl) rfl #[.int .i64 a1, .slice Ao45 x10_4.length co45] rfl ml ?_; (with_reducible refine (qZx.calls k4 a1 _ _ x10_4 t144 t145 t146 _ ?side1 ?side2 A41.out).mono ?_); (case side1 => exact cq ((Kd.qQx HO_10.out).2.2)); (case side2 => exact (Kd.qQx HO_10.out).2.1); rintro e w46 ⟨v147, rfl, ho0, hb⟩; refine ⟨_, rfl, ?_⟩; have n0_ := am (Kd.qQw (by exact Rq HO_8.out) hb); have n1_ := am (Kd.qQw (by exact Rq HO_9.out) hb); have n2_ := am (Kd.qQ7 (by exact Rq HO_10.out) (Kd.qZo ho0) hb); have n3_ := am (Kd.qQw (by exact Rq HO_80.out) hb); have n4_ := am (Kd.qZe (Kd.qZn ho0 (Kd.R_lt (by exact Rq HO_10.out))) (qQh (by exact hq HB.out GE119.out))); have n5_ := am (qQu (g := gb119) (Up.up BK119.out) hb); have n6_ := am (qQn (by exact hq HB.out GE119.out) hb); clear HO_8; clear HO_9; clear HO_10; clear HO_80; clear BK119; clear HB; have HO_8 := n0_; have HO_9 := n1_; have HO_10 := n2_; have HO_80 := n3_; have HO148 := n4_; have BK119 := n5_; have HB := n6_; clear n0_ n1_ n2_ n3_ n4_ n5_ n6_; (try clear hb); (try clear hb2); (try clear hk); (try clear hi); (try clear ho0)))
     have n0_ := am (Kd.qQt HO_8.out)
     have n1_ := am (Kd.qQt HO_9.out)
     have n2_ := am (Kd.qQt HO_10.out)
     have n3_ := am (Kd.qQt HO_80.out)
     have n4_ := am (Kd.qQt HO148.out)
     have n5_ := am (qQk BK119.out)
     have n6_ := am (qZg HB.out)
     clear HO_8 HO_9 HO_10 HO_80 HO148 BK119 HB
     have HO_8 := n0_
     have HO_9 := n1_
     have HO_10 := n2_
     have HO_80 := n3_
     have HO148 := n4_
     have BK119 := n5_
     have HB := n6_
     clear n0_ n1_ n2_ n3_ n4_ n5_ n6_
     as_aux_lemma =>
     refine start_ (n := 12) (S := fun w' => True) (ds := []) (qQg.fl 12 0) (by kernel_rfl) rfl rfl trivial (fun hHeld => ?_); refine qYg qQg.tab26 qQg.bits26 (fun HT_ HW_ => ?_)
     generalize w46.drew = w47 at HO_8 HO_9 HO_10 HO_80 HO148 BK119 HB hHeld ⊢
     refine qQg.y 0 108 12 1 HT_.out ?_
     refine qQg.y 1 109 12 3 HT_.out ?_
     refine qQg.y 3 111 12 11 HT_.out ?_
     refine qQg.y 4 112 12 27 HT_.out ?_
     refine qQg.y 6 114 12 91 HT_.out ?_
     refine qQg.y 7 115 12 219 HT_.out ?_
     refine join_ (σ := Value × Value × Value) 1 (qQg.fl 12 2047) (fun s_ => [(110, s_.1), (113, s_.2.1), (116, s_.2.2), (21, s_.1), (22, s_.2.1)]) (fun s_ w' => (Kd.R (Kd.int .i64) 2 w' w.heap.size (fun k_ => some k_ ≠ (s_.1 : Value).ownBlock ∧ some k_ ≠ (s_.2.1 : Value).ownBlock ∧ some k_ ≠ (s_.2.2 : Value).ownBlock ∧ some k_ ≠ (.slice Ao45 x10_4.length co45 : Value).ownBlock) v147 t144) ∧ (Kd.R (Kd.int .i64) 2 w' w.heap.size (fun k_ => some k_ ≠ (v147 : Value).ownBlock ∧ some k_ ≠ (s_.2.1 : Value).ownBlock ∧ some k_ ≠ (s_.2.2 : Value).ownBlock ∧ some k_ ≠ (.slice Ao45 x10_4.length co45 : Value).ownBlock) s_.1 y149) ∧ (Kd.R (Kd.int .i64) 2 w' w.heap.size (fun k_ => some k_ ≠ (v147 : Value).ownBlock ∧ some k_ ≠ (s_.1 : Value).ownBlock ∧ some k_ ≠ (s_.2.2 : Value).ownBlock ∧ some k_ ≠ (.slice Ao45 x10_4.length co45 : Value).ownBlock) s_.2.1 y152) ∧ (Kd.R (Kd.int .i64) 2 w' w.heap.size (fun k_ => some k_ ≠ (v147 : Value).ownBlock ∧ some k_ ≠ (s_.1 : Value).ownBlock ∧ some k_ ≠ (s_.2.1 : Value).ownBlock ∧ some k_ ≠ (.slice Ao45 x10_4.length co45 : Value).ownBlock) s_.2.2 y155) ∧ (Kd.R (Kd.int .i64) 2 w' w.heap.size (fun k_ => some k_ ≠ (v147 : Value).ownBlock ∧ some k_ ≠ (s_.1 : Value).ownBlock ∧ some k_ ≠ (s_.2.1 : Value).ownBlock ∧ some k_ ≠ (s_.2.2 : Value).ownBlock) (.slice Ao45 x10_4.length co45) x10_4) ∧ (Kd.R (Kd.int .i64) 3 w' w.heap.size (fun k_ => some k_ ≠ (.slice Ao25 t125.length co25 : Value).ownBlock ∧ some k_ ≠ (.slice Ao25 t125.length co25 : Value).ownBlock) (.slice Ao17 t122.length co17) t122) ∧ (Kd.R (Kd.int .i64) 3 w' w.heap.size (fun k_ => some k_ ≠ (.slice Ao17 t122.length co17 : Value).ownBlock) (.slice Ao25 t125.length co25) t125) ∧ (Kd.R (Kd.int .i64) 3 w' w.heap.size (fun k_ => some k_ ≠ (.slice Ao17 t122.length co17 : Value).ownBlock) (.slice Ao25 t125.length co25) t125) ∧ (w'.heap[gb119]? = some (.cells #[.int .i64 0, .int .i64 0, .int .i64 0, .int .i64 0] 26 (0, 0))) ∧ (Below w.heap.size w w')) ?_ ?_
     rotate_left
     ·intro hJ2_5_8
      refine join_ (σ := Value × Value) 2 (qQg.fl 12 1791) (fun s_ => [(110, s_.1), (113, s_.2), (21, s_.1), (22, s_.2)]) (fun s_ w' => (Kd.R (Kd.int .i64) 2 w' w.heap.size (fun k_ => some k_ ≠ (s_.1 : Value).ownBlock ∧ some k_ ≠ (s_.2 : Value).ownBlock ∧ some k_ ≠ (.slice Ao45 x10_4.length co45 : Value).ownBlock) v147 t144) ∧ (Kd.R (Kd.int .i64) 2 w' w.heap.size (fun k_ => some k_ ≠ (v147 : Value).ownBlock ∧ some k_ ≠ (s_.2 : Value).ownBlock ∧ some k_ ≠ (.slice Ao45 x10_4.length co45 : Value).ownBlock) s_.1 y149) ∧ (Kd.R (Kd.int .i64) 2 w' w.heap.size (fun k_ => some k_ ≠ (v147 : Value).ownBlock ∧ some k_ ≠ (s_.1 : Value).ownBlock ∧ some k_ ≠ (.slice Ao45 x10_4.length co45 : Value).ownBlock) s_.2 y152) ∧ (Kd.R (Kd.int .i64) 2 w' w.heap.size (fun k_ => some k_ ≠ (v147 : Value).ownBlock ∧ some k_ ≠ (s_.1 : Value).ownBlock ∧ some k_ ≠ (s_.2 : Value).ownBlock) (.slice Ao45 x10_4.length co45) x10_4) ∧ (Kd.R (Kd.int .i64) 3 w' w.heap.size (fun k_ => some k_ ≠ (.slice Ao25 t125.length co25 : Value).ownBlock ∧ some k_ ≠ (.slice Ao25 t125.length co25 : Value).ownBlock) (.slice Ao17 t122.length co17) t122) ∧ (Kd.R (Kd.int .i64) 3 w' w.heap.size (fun k_ => some k_ ≠ (.slice Ao17 t122.length co17 : Value).ownBlock) (.slice Ao25 t125.length co25) t125) ∧ (Kd.R (Kd.int .i64) 3 w' w.heap.size (fun k_ => some k_ ≠ (.slice Ao17 t122.length co17 : Value).ownBlock) (.slice Ao25 t125.length co25) t125) ∧ (w'.heap[gb119]? = some (.cells #[.int .i64 0, .int .i64 0, .int .i64 0, .int .i64 0] 26 (0, 0))) ∧ (Below w.heap.size w w')) ?_ ?_
      rotate_left
      ·intro hJ2_5
       refine join_ (σ := Value × Value) 3 (qQg.fl 12 991) (fun s_ => [(110, s_.1), (116, s_.2), (21, s_.1)]) (fun s_ w' => (Kd.R (Kd.int .i64) 2 w' w.heap.size (fun k_ => some k_ ≠ (s_.1 : Value).ownBlock ∧ some k_ ≠ (s_.2 : Value).ownBlock ∧ some k_ ≠ (.slice Ao45 x10_4.length co45 : Value).ownBlock) v147 t144) ∧ (Kd.R (Kd.int .i64) 2 w' w.heap.size (fun k_ => some k_ ≠ (v147 : Value).ownBlock ∧ some k_ ≠ (s_.2 : Value).ownBlock ∧ some k_ ≠ (.slice Ao45 x10_4.length co45 : Value).ownBlock) s_.1 y149) ∧ (Kd.R (Kd.int .i64) 2 w' w.heap.size (fun k_ => some k_ ≠ (v147 : Value).ownBlock ∧ some k_ ≠ (s_.1 : Value).ownBlock ∧ some k_ ≠ (.slice Ao45 x10_4.length co45 : Value).ownBlock) s_.2 y155) ∧ (Kd.R (Kd.int .i64) 2 w' w.heap.size (fun k_ => some k_ ≠ (v147 : Value).ownBlock ∧ some k_ ≠ (s_.1 : Value).ownBlock ∧ some k_ ≠ (s_.2 : Value).ownBlock) (.slice Ao45 x10_4.length co45) x10_4) ∧ (Kd.R (Kd.int .i64) 3 w' w.heap.size (fun k_ => some k_ ≠ (.slice Ao25 t125.length co25 : Value).ownBlock ∧ some k_ ≠ (.slice Ao25 t125.length co25 : Value).ownBlock) (.slice Ao17 t122.length co17) t122) ∧ (Kd.R (Kd.int .i64) 3 w' w.heap.size (fun k_ => some k_ ≠ (.slice Ao17 t122.length co17 : Value).ownBlock) (.slice Ao25 t125.length co25) t125) ∧ (Kd.R (Kd.int .i64) 3 w' w.heap.size (fun k_ => some k_ ≠ (.slice Ao17 t122.length co17 : Value).ownBlock) (.slice Ao25 t125.length co25) t125) ∧ (w'.heap[gb119]? = some (.cells #[.int .i64 0, .int .i64 0, .int .i64 0, .int .i64 0] 26 (0, 0))) ∧ (Below w.heap.size w w')) ?_ ?_
       rotate_left
       ·intro hJ2_8
        refine join_ (σ := Value × Value) 4 (qQg.fl 12 507) (fun s_ => [(113, s_.1), (116, s_.2)]) (fun s_ w' => (Kd.R (Kd.int .i64) 2 w' w.heap.size (fun k_ => some k_ ≠ (s_.1 : Value).ownBlock ∧ some k_ ≠ (s_.2 : Value).ownBlock ∧ some k_ ≠ (.slice Ao45 x10_4.length co45 : Value).ownBlock) v147 t144) ∧ (Kd.R (Kd.int .i64) 2 w' w.heap.size (fun k_ => some k_ ≠ (v147 : Value).ownBlock ∧ some k_ ≠ (s_.2 : Value).ownBlock ∧ some k_ ≠ (.slice Ao45 x10_4.length co45 : Value).ownBlock) s_.1 y152) ∧ (Kd.R (Kd.int .i64) 2 w' w.heap.size (fun k_ => some k_ ≠ (v147 : Value).ownBlock ∧ some k_ ≠ (s_.1 : Value).ownBlock ∧ some k_ ≠ (.slice Ao45 x10_4.length co45 : Value).ownBlock) s_.2 y155) ∧ (Kd.R (Kd.int .i64) 2 w' w.heap.size (fun k_ => some k_ ≠ (v147 : Value).ownBlock ∧ some k_ ≠ (s_.1 : Value).ownBlock ∧ some k_ ≠ (s_.2 : Value).ownBlock) (.slice Ao45 x10_4.length co45) x10_4) ∧ (Kd.R (Kd.int .i64) 3 w' w.heap.size (fun k_ => some k_ ≠ (.slice Ao25 t125.length co25 : Value).ownBlock ∧ some k_ ≠ (.slice Ao25 t125.length co25 : Value).ownBlock) (.slice Ao17 t122.length co17) t122) ∧ (Kd.R (Kd.int .i64) 3 w' w.heap.size (fun k_ => some k_ ≠ (.slice Ao17 t122.length co17 : Value).ownBlock) (.slice Ao25 t125.length co25) t125) ∧ (Kd.R (Kd.int .i64) 3 w' w.heap.size (fun k_ => some k_ ≠ (.slice Ao17 t122.length co17 : Value).ownBlock) (.slice Ao25 t125.length co25) t125) ∧ (w'.heap[gb119]? = some (.cells #[.int .i64 0, .int .i64 0, .int .i64 0, .int .i64 0] 26 (0, 0))) ∧ (Below w.heap.size w w')) ?_ ?_
        rotate_left
        ·intro hJ5_8
         refine join_ (σ := Value) 4 (qQg.fl 12 735) (fun s_ => [(110, s_), (21, s_)]) (fun s_ w' => (Kd.R (Kd.int .i64) 2 w' w.heap.size (fun k_ => some k_ ≠ (s_ : Value).ownBlock ∧ some k_ ≠ (.slice Ao45 x10_4.length co45 : Value).ownBlock) v147 t144) ∧ (Kd.R (Kd.int .i64) 2 w' w.heap.size (fun k_ => some k_ ≠ (v147 : Value).ownBlock ∧ some k_ ≠ (.slice Ao45 x10_4.length co45 : Value).ownBlock) s_ y149) ∧ (Kd.R (Kd.int .i64) 2 w' w.heap.size (fun k_ => some k_ ≠ (v147 : Value).ownBlock ∧ some k_ ≠ (s_ : Value).ownBlock) (.slice Ao45 x10_4.length co45) x10_4) ∧ (Kd.R (Kd.int .i64) 3 w' w.heap.size (fun k_ => some k_ ≠ (.slice Ao25 t125.length co25 : Value).ownBlock ∧ some k_ ≠ (.slice Ao25 t125.length co25 : Value).ownBlock) (.slice Ao17 t122.length co17) t122) ∧ (Kd.R (Kd.int .i64) 3 w' w.heap.size (fun k_ => some k_ ≠ (.slice Ao17 t122.length co17 : Value).ownBlock) (.slice Ao25 t125.length co25) t125) ∧ (Kd.R (Kd.int .i64) 3 w' w.heap.size (fun k_ => some k_ ≠ (.slice Ao17 t122.length co17 : Value).ownBlock) (.slice Ao25 t125.length co25) t125) ∧ (w'.heap[gb119]? = some (.cells #[.int .i64 0, .int .i64 0, .int .i64 0, .int .i64 0] 26 (0, 0))) ∧ (Below w.heap.size w w')) ?_ ?_
         rotate_left
         ·intro hJ2
          refine join_ (σ := Value) 5 (qQg.fl 12 251) (fun s_ => [(113, s_)]) (fun s_ w' => (Kd.R (Kd.int .i64) 2 w' w.heap.size (fun k_ => some k_ ≠ (s_ : Value).ownBlock ∧ some k_ ≠ (.slice Ao45 x10_4.length co45 : Value).ownBlock) v147 t144) ∧ (Kd.R (Kd.int .i64) 2 w' w.heap.size (fun k_ => some k_ ≠ (v147 : Value).ownBlock ∧ some k_ ≠ (.slice Ao45 x10_4.length co45 : Value).ownBlock) s_ y152) ∧ (Kd.R (Kd.int .i64) 2 w' w.heap.size (fun k_ => some k_ ≠ (v147 : Value).ownBlock ∧ some k_ ≠ (s_ : Value).ownBlock) (.slice Ao45 x10_4.length co45) x10_4) ∧ (Kd.R (Kd.int .i64) 3 w' w.heap.size (fun k_ => some k_ ≠ (.slice Ao25 t125.length co25 : Value).ownBlock ∧ some k_ ≠ (.slice Ao25 t125.length co25 : Value).ownBlock) (.slice Ao17 t122.length co17) t122) ∧ (Kd.R (Kd.int .i64) 3 w' w.heap.size (fun k_ => some k_ ≠ (.slice Ao17 t122.length co17 : Value).ownBlock) (.slice Ao25 t125.length co25) t125) ∧ (Kd.R (Kd.int .i64) 3 w' w.heap.size (fun k_ => some k_ ≠ (.slice Ao17 t122.length co17 : Value).ownBlock) (.slice Ao25 t125.length co25) t125) ∧ (w'.heap[gb119]? = some (.cells #[.int .i64 0, .int .i64 0, .int .i64 0, .int .i64 0] 26 (0, 0))) ∧ (Below w.heap.size w w')) ?_ ?_
          rotate_left
          ·intro hJ5
           refine join_ (σ := Value) 5 (qQg.fl 12 475) (fun s_ => [(116, s_)]) (fun s_ w' => (Kd.R (Kd.int .i64) 2 w' w.heap.size (fun k_ => some k_ ≠ (s_ : Value).ownBlock ∧ some k_ ≠ (.slice Ao45 x10_4.length co45 : Value).ownBlock) v147 t144) ∧ (Kd.R (Kd.int .i64) 2 w' w.heap.size (fun k_ => some k_ ≠ (v147 : Value).ownBlock ∧ some k_ ≠ (.slice Ao45 x10_4.length co45 : Value).ownBlock) s_ y155) ∧ (Kd.R (Kd.int .i64) 2 w' w.heap.size (fun k_ => some k_ ≠ (v147 : Value).ownBlock ∧ some k_ ≠ (s_ : Value).ownBlock) (.slice Ao45 x10_4.length co45) x10_4) ∧ (Kd.R (Kd.int .i64) 3 w' w.heap.size (fun k_ => some k_ ≠ (.slice Ao25 t125.length co25 : Value).ownBlock ∧ some k_ ≠ (.slice Ao25 t125.length co25 : Value).ownBlock) (.slice Ao17 t122.length co17) t122) ∧ (Kd.R (Kd.int .i64) 3 w' w.heap.size (fun k_ => some k_ ≠ (.slice Ao17 t122.length co17 : Value).ownBlock) (.slice Ao25 t125.length co25) t125) ∧ (Kd.R (Kd.int .i64) 3 w' w.heap.size (fun k_ => some k_ ≠ (.slice Ao17 t122.length co17 : Value).ownBlock) (.slice Ao25 t125.length co25) t125) ∧ (w'.heap[gb119]? = some (.cells #[.int .i64 0, .int .i64 0, .int .i64 0, .int .i64 0] 26 (0, 0))) ∧ (Below w.heap.size w w')) ?_ ?_
           rotate_left
           ·intro hJ8
            refine three_ (i := 2) (j := 5) (k := 8) (Ni := some 110) (Nj := some 113) (Nk := some 116) (qQg.fl 12 223) (qQg.fl 12 251) (qQg.fl 12 475) rfl rfl rfl rfl rfl rfl (zQv HT_.out (by kernel_rfl)) (by decide) (by decide) (by decide) (fun K hK => ?_) (fun K hK => ?_) (fun K hK => ?_)
            ·skip
             refine Kd.qYe (Kd.int .i64) _ 2 (by rfl) (N := 110) rfl 54 _ _ rfl (l0.length : Int) rfl rfl Try.underlying54 (.int .i64 0) 8 info2 rfl (by decide) (by omega) 0 (ok := fun _ => True) (okp := fun _ => True) rfl (fun _ hk => hk) trivial (yd) (Nat.le_trans (Nat.mul_le_mul_right _ (yd : (l0.length : Int).toNat ≤ 35184372088832)) (by omega)) (Below.refl _ _) (Nat.le_refl _) ?_
             intro v150 w48 ho49 hb hg_ hnew_
             clear hg_ hnew_
             (first | rw [← Ny149.out] at ho49 | (simp only [Int.reduceToNat] at ho49; rw [← Ny149.out] at ho49))
             have n0_ := am (Kd.qQw (by exact Rq HO_8.out) hb)
             have n1_ := am (Kd.qQw (by exact Rq HO_9.out) hb)
             have n2_ := am (Kd.qQ7 (by exact Rq HO_10.out) (Kd.qZo ho49) hb)
             have n3_ := am (Kd.qQw (by exact Rq HO_80.out) hb)
             have n4_ := am (Kd.qQ7 (by exact Rq HO148.out) (Kd.qZo ho49) hb)
             have n5_ := am (Kd.qZe (Kd.qZn (Kd.qZn ho49 (Kd.R_lt (by exact Rq HO_10.out))) (Kd.R_lt (by exact Rq HO148.out))) (qQh (by exact hq HB.out GE119.out)))
             have n6_ := am (qQu (g := gb119) (Up.up BK119.out) hb)
             have n7_ := am (qQn (by exact hq HB.out GE119.out) hb)
             clear HO_8 HO_9 HO_10 HO_80 HO148 BK119 HB
             have HO_8 := n0_
             have HO_9 := n1_
             have HO_10 := n2_
             have HO_80 := n3_
             have HO148 := n4_
             have HO151 := n5_
             have BK119 := n6_
             have HB := n7_
             clear n0_ n1_ n2_ n3_ n4_ n5_ n6_ n7_ hb ho49
             refine hK.out _ _ trivial (fun hHeld => ?_)
             clear hK K
             refine norm_ (a' := ?_) ?_ ?_
             rotate_left
             ·show Act.put _ (some 110) _ = _
              exact pu
             refine qQg.y 9 21 12 735 HT_.out ?_
             exact norm_ (by first | (simp only [putAll, Act.put, List.setIfInBounds_toArray, List.set_cons_zero, List.set_cons_succ]; done) | (simp only [putAll, Act.put, List.setIfInBounds_toArray, List.set_cons_zero, List.set_cons_succ]; rfl)) (hJ2 (v150) _ ⟨(by (with_reducible repeat (first | apply Kd.qQs | apply Kd.qQq | apply Kd.qQt)); exact Kd.qQv HO148.out (fun _ hk => ⟨hk.2, hk.1.2⟩)), (by (with_reducible repeat (first | apply Kd.qQs | apply Kd.qQq | apply Kd.qQt)); exact Kd.qQv HO151.out (fun _ hk => ⟨hk.2, hk.1.2⟩)), (by (with_reducible repeat (first | apply Kd.qQs | apply Kd.qQq | apply Kd.qQt)); exact Kd.qQv HO_10.out (fun _ hk => ⟨hk.1.2, hk.2⟩)), (by (with_reducible repeat (first | apply Kd.qQs | apply Kd.qQq | apply Kd.qQt)); exact Kd.qQv HO_8.out (fun _ hk => ⟨hk.2, hk.1⟩)), (by exact Rq HO_80.out), (by exact Rq HO_9.out), (Up.up BK119.out), (by exact hq HB.out GE119.out)⟩)
            ·skip
             refine Kd.qYe (Kd.int .i64) _ 2 (by rfl) (N := 113) rfl 54 _ _ rfl (l0.length : Int) rfl rfl Try.underlying54 (.int .i64 0) 8 info2 rfl (by decide) (by omega) 0 (ok := fun _ => True) (okp := fun _ => True) rfl (fun _ hk => hk) trivial (yd) (Nat.le_trans (Nat.mul_le_mul_right _ (yd : (l0.length : Int).toNat ≤ 35184372088832)) (by omega)) (Below.refl _ _) (Nat.le_refl _) ?_
             intro v153 w48 ho49 hb hg_ hnew_
             clear hg_ hnew_
             (first | rw [← Ny152.out] at ho49 | (simp only [Int.reduceToNat] at ho49; rw [← Ny152.out] at ho49))
             have n0_ := am (Kd.qQw (by exact Rq HO_8.out) hb)
             have n1_ := am (Kd.qQw (by exact Rq HO_9.out) hb)
             have n2_ := am (Kd.qQ7 (by exact Rq HO_10.out) (Kd.qZo ho49) hb)
             have n3_ := am (Kd.qQw (by exact Rq HO_80.out) hb)
             have n4_ := am (Kd.qQ7 (by exact Rq HO148.out) (Kd.qZo ho49) hb)
             have n5_ := am (Kd.qZe (Kd.qZn (Kd.qZn ho49 (Kd.R_lt (by exact Rq HO_10.out))) (Kd.R_lt (by exact Rq HO148.out))) (qQh (by exact hq HB.out GE119.out)))
             have n6_ := am (qQu (g := gb119) (Up.up BK119.out) hb)
             have n7_ := am (qQn (by exact hq HB.out GE119.out) hb)
             clear HO_8 HO_9 HO_10 HO_80 HO148 BK119 HB
             have HO_8 := n0_
             have HO_9 := n1_
             have HO_10 := n2_
             have HO_80 := n3_
             have HO148 := n4_
             have HO154 := n5_
             have BK119 := n6_
             have HB := n7_
             clear n0_ n1_ n2_ n3_ n4_ n5_ n6_ n7_ hb ho49
             refine hK.out _ _ trivial (fun hHeld => ?_)
             clear hK K
             refine norm_ (a' := ?_) ?_ ?_
             rotate_left
             ·show Act.put _ (some 113) _ = _
              exact pu
             exact norm_ (by first | (simp only [putAll, Act.put, List.setIfInBounds_toArray, List.set_cons_zero, List.set_cons_succ]; done) | (simp only [putAll, Act.put, List.setIfInBounds_toArray, List.set_cons_zero, List.set_cons_succ]; rfl)) (hJ5 (v153) _ ⟨(by (with_reducible repeat (first | apply Kd.qQs | apply Kd.qQq | apply Kd.qQt)); exact Kd.qQv HO148.out (fun _ hk => ⟨hk.2, hk.1.2⟩)), (by (with_reducible repeat (first | apply Kd.qQs | apply Kd.qQq | apply Kd.qQt)); exact Kd.qQv HO154.out (fun _ hk => ⟨hk.2, hk.1.2⟩)), (by (with_reducible repeat (first | apply Kd.qQs | apply Kd.qQq | apply Kd.qQt)); exact Kd.qQv HO_10.out (fun _ hk => ⟨hk.1.2, hk.2⟩)), (by (with_reducible repeat (first | apply Kd.qQs | apply Kd.qQq | apply Kd.qQt)); exact Kd.qQv HO_8.out (fun _ hk => ⟨hk.2, hk.1⟩)), (by exact Rq HO_80.out), (by exact Rq HO_9.out), (Up.up BK119.out), (by exact hq HB.out GE119.out)⟩)
            ·skip
             refine Kd.qYe (Kd.int .i64) _ 2 (by rfl) (N := 116) rfl 54 _ _ rfl (l0.length : Int) rfl rfl Try.underlying54 (.int .i64 0) 8 info2 rfl (by decide) (by omega) 0 (ok := fun _ => True) (okp := fun _ => True) rfl (fun _ hk => hk) trivial (yd) (Nat.le_trans (Nat.mul_le_mul_right _ (yd : (l0.length : Int).toNat ≤ 35184372088832)) (by omega)) (Below.refl _ _) (Nat.le_refl _) ?_
             intro v156 w48 ho49 hb hg_ hnew_
             clear hg_ hnew_
             (first | rw [← Ny155.out] at ho49 | (simp only [Int.reduceToNat] at ho49; rw [← Ny155.out] at ho49))
             have n0_ := am (Kd.qQw (by exact Rq HO_8.out) hb)
             have n1_ := am (Kd.qQw (by exact Rq HO_9.out) hb)
             have n2_ := am (Kd.qQ7 (by exact Rq HO_10.out) (Kd.qZo ho49) hb)
             have n3_ := am (Kd.qQw (by exact Rq HO_80.out) hb)
             have n4_ := am (Kd.qQ7 (by exact Rq HO148.out) (Kd.qZo ho49) hb)
             have n5_ := am (Kd.qZe (Kd.qZn (Kd.qZn ho49 (Kd.R_lt (by exact Rq HO_10.out))) (Kd.R_lt (by exact Rq HO148.out))) (qQh (by exact hq HB.out GE119.out)))
             have n6_ := am (qQu (g := gb119) (Up.up BK119.out) hb)
             have n7_ := am (qQn (by exact hq HB.out GE119.out) hb)
             clear HO_8 HO_9 HO_10 HO_80 HO148 BK119 HB
             have HO_8 := n0_
             have HO_9 := n1_
             have HO_10 := n2_
             have HO_80 := n3_
             have HO148 := n4_
             have HO157 := n5_
             have BK119 := n6_
             have HB := n7_
             clear n0_ n1_ n2_ n3_ n4_ n5_ n6_ n7_ hb ho49
             refine hK.out _ _ trivial (fun hHeld => ?_)
             clear hK K
             refine norm_ (a' := ?_) ?_ ?_
             rotate_left
             ·show Act.put _ (some 116) _ = _
              exact pu
             exact norm_ (by first | (simp only [putAll, Act.put, List.setIfInBounds_toArray, List.set_cons_zero, List.set_cons_succ]; done) | (simp only [putAll, Act.put, List.setIfInBounds_toArray, List.set_cons_zero, List.set_cons_succ]; rfl)) (hJ8 (v156) _ ⟨(by (with_reducible repeat (first | apply Kd.qQs | apply Kd.qQq | apply Kd.qQt)); exact Kd.qQv HO148.out (fun _ hk => ⟨hk.2, hk.1.2⟩)), (by (with_reducible repeat (first | apply Kd.qQs | apply Kd.qQq | apply Kd.qQt)); exact Kd.qQv HO157.out (fun _ hk => ⟨hk.2, hk.1.2⟩)), (by (with_reducible repeat (first | apply Kd.qQs | apply Kd.qQq | apply Kd.qQt)); exact Kd.qQv HO_10.out (fun _ hk => ⟨hk.1.2, hk.2⟩)), (by (with_reducible repeat (first | apply Kd.qQs | apply Kd.qQq | apply Kd.qQt)); exact Kd.qQv HO_8.out (fun _ hk => ⟨hk.2, hk.1⟩)), (by exact Rq HO_80.out), (by exact Rq HO_9.out), (Up.up BK119.out), (by exact hq HB.out GE119.out)⟩)
           ·skip
            rintro v156 w50 ⟨h0_, h1_, h2_, h3_, h4_, h5_, h6_, h7_⟩
            have n0_ : Aside0 (Kd.R (Kd.int .i64) 2 w50 w.heap.size (fun k_ => some k_ ≠ (v156 : Value).ownBlock ∧ some k_ ≠ (.slice Ao45 x10_4.length co45 : Value).ownBlock) v147 t144) := ⟨h0_⟩
            have n1_ : Aside0 (Kd.R (Kd.int .i64) 2 w50 w.heap.size (fun k_ => some k_ ≠ (v147 : Value).ownBlock ∧ some k_ ≠ (.slice Ao45 x10_4.length co45 : Value).ownBlock) v156 y155) := ⟨h1_⟩
            have n2_ : Aside0 (Kd.R (Kd.int .i64) 2 w50 w.heap.size (fun k_ => some k_ ≠ (v147 : Value).ownBlock ∧ some k_ ≠ (v156 : Value).ownBlock) (.slice Ao45 x10_4.length co45) x10_4) := ⟨h2_⟩
            have n3_ : Aside0 (Kd.R (Kd.int .i64) 3 w50 w.heap.size (fun k_ => some k_ ≠ (.slice Ao25 t125.length co25 : Value).ownBlock ∧ some k_ ≠ (.slice Ao25 t125.length co25 : Value).ownBlock) (.slice Ao17 t122.length co17) t122) := ⟨h3_⟩
            have n4_ : Aside0 (Kd.R (Kd.int .i64) 3 w50 w.heap.size (fun k_ => some k_ ≠ (.slice Ao17 t122.length co17 : Value).ownBlock) (.slice Ao25 t125.length co25) t125) := ⟨h4_⟩
            have n5_ : Aside0 (Kd.R (Kd.int .i64) 3 w50 w.heap.size (fun k_ => some k_ ≠ (.slice Ao17 t122.length co17 : Value).ownBlock) (.slice Ao25 t125.length co25) t125) := ⟨h5_⟩
            have n6_ : Aside0 (w50.heap[gb119]? = some (.cells #[.int .i64 0, .int .i64 0, .int .i64 0, .int .i64 0] 26 (0, 0))) := ⟨h6_⟩
            have n7_ : Aside0 (Below w.heap.size w w50) := ⟨h7_⟩
            clear HO_8 HO_9 HO_10 HO_80 HO148 BK119 HB h0_ h1_ h2_ h3_ h4_ h5_ h6_ h7_
            have HO148 := n0_
            have HO157 := n1_
            have HO_10 := n2_
            have HO_8 := n3_
            have HO_80 := n4_
            have HO_9 := n5_
            have BK119 := n6_
            have HB := n7_
            clear n0_ n1_ n2_ n3_ n4_ n5_ n6_ n7_
            have hHeld := trivial
            refine norm_ (a' := ?_) ?_ ?_
            rotate_left
            ·simp only [putAll, Act.put, List.setIfInBounds_toArray, List.set_cons_zero, List.set_cons_succ]
             rfl
            refine two_ (i := 2) (j := 5) (Ni := some 110) (Nj := some 113) (qQg.fl 12 479) (qQg.fl 12 507) rfl rfl rfl rfl (qXj HT_.out (by kernel_rfl)) (by decide) (by decide) (fun K hK => ?_) (fun K hK => ?_)
            ·skip
             refine Kd.qYe (Kd.int .i64) _ 2 (by rfl) (N := 110) rfl 54 _ _ rfl (l0.length : Int) rfl rfl Try.underlying54 (.int .i64 0) 8 info2 rfl (by decide) (by omega) 0 (ok := fun _ => True) (okp := fun _ => True) rfl (fun _ hk => hk) trivial (yd) (Nat.le_trans (Nat.mul_le_mul_right _ (yd : (l0.length : Int).toNat ≤ 35184372088832)) (by omega)) (Below.refl _ _) (Nat.le_refl _) ?_
             intro v150 w51 ho52 hb hg_ hnew_
             clear hg_ hnew_
             (first | rw [← Ny149.out] at ho52 | (simp only [Int.reduceToNat] at ho52; rw [← Ny149.out] at ho52))
             have n0_ := am (Kd.qQw (by exact Rq HO_8.out) hb)
             have n1_ := am (Kd.qQw (by exact Rq HO_9.out) hb)
             have n2_ := am (Kd.qQ7 (by exact Rq HO_10.out) (Kd.qZo ho52) hb)
             have n3_ := am (Kd.qQw (by exact Rq HO_80.out) hb)
             have n4_ := am (Kd.qQ7 (by exact Rq HO148.out) (Kd.qZo ho52) hb)
             have n5_ := am (Kd.qQ7 (by exact Rq HO157.out) (Kd.qZo ho52) hb)
             have n6_ := am (Kd.qZe (Kd.qZn (Kd.qZn (Kd.qZn ho52 (Kd.R_lt (by exact Rq HO_10.out))) (Kd.R_lt (by exact Rq HO148.out))) (Kd.R_lt (by exact Rq HO157.out))) (qQh (by exact hq HB.out GE119.out)))
             have n7_ := am (qQu (g := gb119) (Up.up BK119.out) hb)
             have n8_ := am (qQn (by exact hq HB.out GE119.out) hb)
             clear HO_8 HO_9 HO_10 HO_80 HO148 HO157 BK119 HB
             have HO_8 := n0_
             have HO_9 := n1_
             have HO_10 := n2_
             have HO_80 := n3_
             have HO148 := n4_
             have HO157 := n5_
             have HO151 := n6_
             have BK119 := n7_
             have HB := n8_
             clear n0_ n1_ n2_ n3_ n4_ n5_ n6_ n7_ n8_ hb ho52
             refine hK.out _ _ trivial (fun hHeld => ?_)
             clear hK K
             refine norm_ (a' := ?_) ?_ ?_
             rotate_left
             ·show Act.put _ (some 110) _ = _
              exact pu
             refine qQg.y 9 21 12 991 HT_.out ?_
             exact norm_ (by first | (simp only [putAll, Act.put, List.setIfInBounds_toArray, List.set_cons_zero, List.set_cons_succ]; done) | (simp only [putAll, Act.put, List.setIfInBounds_toArray, List.set_cons_zero, List.set_cons_succ]; rfl)) (hJ2_8 (v150, v156) _ ⟨(by (with_reducible repeat (first | apply Kd.qQs | apply Kd.qQq | apply Kd.qQt)); exact Kd.qQv HO148.out (fun _ hk => ⟨hk.2, ⟨hk.1.1, hk.1.2⟩⟩)), (by (with_reducible repeat (first | apply Kd.qQs | apply Kd.qQq | apply Kd.qQt)); exact Kd.qQv HO151.out (fun _ hk => ⟨hk.1.2, ⟨hk.2, hk.1.1.2⟩⟩)), (by (with_reducible repeat (first | apply Kd.qQs | apply Kd.qQq | apply Kd.qQt)); exact Kd.qQv HO157.out (fun _ hk => ⟨hk.1.1, ⟨hk.2, hk.1.2⟩⟩)), (by (with_reducible repeat (first | apply Kd.qQs | apply Kd.qQq | apply Kd.qQt)); exact Kd.qQv HO_10.out (fun _ hk => ⟨hk.1.1, ⟨hk.2, hk.1.2⟩⟩)), (by exact Rq HO_8.out), (by exact Rq HO_80.out), (by exact Rq HO_9.out), (Up.up BK119.out), (by exact hq HB.out GE119.out)⟩)
            ·skip
             refine Kd.qYe (Kd.int .i64) _ 2 (by rfl) (N := 113) rfl 54 _ _ rfl (l0.length : Int) rfl rfl Try.underlying54 (.int .i64 0) 8 info2 rfl (by decide) (by omega) 0 (ok := fun _ => True) (okp := fun _ => True) rfl (fun _ hk => hk) trivial (yd) (Nat.le_trans (Nat.mul_le_mul_right _ (yd : (l0.length : Int).toNat ≤ 35184372088832)) (by omega)) (Below.refl _ _) (Nat.le_refl _) ?_
             intro v153 w51 ho52 hb hg_ hnew_
             clear hg_ hnew_
             (first | rw [← Ny152.out] at ho52 | (simp only [Int.reduceToNat] at ho52; rw [← Ny152.out] at ho52))
             have n0_ := am (Kd.qQw (by exact Rq HO_8.out) hb)
             have n1_ := am (Kd.qQw (by exact Rq HO_9.out) hb)
             have n2_ := am (Kd.qQ7 (by exact Rq HO_10.out) (Kd.qZo ho52) hb)
             have n3_ := am (Kd.qQw (by exact Rq HO_80.out) hb)
             have n4_ := am (Kd.qQ7 (by exact Rq HO148.out) (Kd.qZo ho52) hb)
             have n5_ := am (Kd.qQ7 (by exact Rq HO157.out) (Kd.qZo ho52) hb)
             have n6_ := am (Kd.qZe (Kd.qZn (Kd.qZn (Kd.qZn ho52 (Kd.R_lt (by exact Rq HO_10.out))) (Kd.R_lt (by exact Rq HO148.out))) (Kd.R_lt (by exact Rq HO157.out))) (qQh (by exact hq HB.out GE119.out)))
             have n7_ := am (qQu (g := gb119) (Up.up BK119.out) hb)
             have n8_ := am (qQn (by exact hq HB.out GE119.out) hb)
             clear HO_8 HO_9 HO_10 HO_80 HO148 HO157 BK119 HB
             have HO_8 := n0_
             have HO_9 := n1_
             have HO_10 := n2_
             have HO_80 := n3_
             have HO148 := n4_
             have HO157 := n5_
             have HO154 := n6_
             have BK119 := n7_
             have HB := n8_
             clear n0_ n1_ n2_ n3_ n4_ n5_ n6_ n7_ n8_ hb ho52
             refine hK.out _ _ trivial (fun hHeld => ?_)
             clear hK K
             refine norm_ (a' := ?_) ?_ ?_
             rotate_left
             ·show Act.put _ (some 113) _ = _
              exact pu
             exact norm_ (by first | (simp only [putAll, Act.put, List.setIfInBounds_toArray, List.set_cons_zero, List.set_cons_succ]; done) | (simp only [putAll, Act.put, List.setIfInBounds_toArray, List.set_cons_zero, List.set_cons_succ]; rfl)) (hJ5_8 (v153, v156) _ ⟨(by (with_reducible repeat (first | apply Kd.qQs | apply Kd.qQq | apply Kd.qQt)); exact Kd.qQv HO148.out (fun _ hk => ⟨hk.2, ⟨hk.1.1, hk.1.2⟩⟩)), (by (with_reducible repeat (first | apply Kd.qQs | apply Kd.qQq | apply Kd.qQt)); exact Kd.qQv HO154.out (fun _ hk => ⟨hk.1.2, ⟨hk.2, hk.1.1.2⟩⟩)), (by (with_reducible repeat (first | apply Kd.qQs | apply Kd.qQq | apply Kd.qQt)); exact Kd.qQv HO157.out (fun _ hk => ⟨hk.1.1, ⟨hk.2, hk.1.2⟩⟩)), (by (with_reducible repeat (first | apply Kd.qQs | apply Kd.qQq | apply Kd.qQt)); exact Kd.qQv HO_10.out (fun _ hk => ⟨hk.1.1, ⟨hk.2, hk.1.2⟩⟩)), (by exact Rq HO_8.out), (by exact Rq HO_80.out), (by exact Rq HO_9.out), (Up.up BK119.out), (by exact hq HB.out GE119.out)⟩)
          ·skip
           rintro v153 w50 ⟨h0_, h1_, h2_, h3_, h4_, h5_, h6_, h7_⟩
           have n0_ : Aside0 (Kd.R (Kd.int .i64) 2 w50 w.heap.size (fun k_ => some k_ ≠ (v153 : Value).ownBlock ∧ some k_ ≠ (.slice Ao45 x10_4.length co45 : Value).ownBlock) v147 t144) := ⟨h0_⟩
           have n1_ : Aside0 (Kd.R (Kd.int .i64) 2 w50 w.heap.size (fun k_ => some k_ ≠ (v147 : Value).ownBlock ∧ some k_ ≠ (.slice Ao45 x10_4.length co45 : Value).ownBlock) v153 y152) := ⟨h1_⟩
           have n2_ : Aside0 (Kd.R (Kd.int .i64) 2 w50 w.heap.size (fun k_ => some k_ ≠ (v147 : Value).ownBlock ∧ some k_ ≠ (v153 : Value).ownBlock) (.slice Ao45 x10_4.length co45) x10_4) := ⟨h2_⟩
           have n3_ : Aside0 (Kd.R (Kd.int .i64) 3 w50 w.heap.size (fun k_ => some k_ ≠ (.slice Ao25 t125.length co25 : Value).ownBlock ∧ some k_ ≠ (.slice Ao25 t125.length co25 : Value).ownBlock) (.slice Ao17 t122.length co17) t122) := ⟨h3_⟩
           have n4_ : Aside0 (Kd.R (Kd.int .i64) 3 w50 w.heap.size (fun k_ => some k_ ≠ (.slice Ao17 t122.length co17 : Value).ownBlock) (.slice Ao25 t125.length co25) t125) := ⟨h4_⟩
           have n5_ : Aside0 (Kd.R (Kd.int .i64) 3 w50 w.heap.size (fun k_ => some k_ ≠ (.slice Ao17 t122.length co17 : Value).ownBlock) (.slice Ao25 t125.length co25) t125) := ⟨h5_⟩
           have n6_ : Aside0 (w50.heap[gb119]? = some (.cells #[.int .i64 0, .int .i64 0, .int .i64 0, .int .i64 0] 26 (0, 0))) := ⟨h6_⟩
           have n7_ : Aside0 (Below w.heap.size w w50) := ⟨h7_⟩
           clear HO_8 HO_9 HO_10 HO_80 HO148 BK119 HB h0_ h1_ h2_ h3_ h4_ h5_ h6_ h7_
           have HO148 := n0_
           have HO154 := n1_
           have HO_10 := n2_
           have HO_8 := n3_
           have HO_80 := n4_
           have HO_9 := n5_
           have BK119 := n6_
           have HB := n7_
           clear n0_ n1_ n2_ n3_ n4_ n5_ n6_ n7_
           have hHeld := trivial
           refine norm_ (a' := ?_) ?_ ?_
           rotate_left
           ·simp only [putAll, Act.put, List.setIfInBounds_toArray, List.set_cons_zero, List.set_cons_succ]
            rfl
           refine two_ (i := 2) (j := 8) (Ni := some 110) (Nj := some 116) (qQg.fl 12 255) (qQg.fl 12 507) rfl rfl rfl rfl (qXj HT_.out (by kernel_rfl)) (by decide) (by decide) (fun K hK => ?_) (fun K hK => ?_)
           ·skip
            refine Kd.qYe (Kd.int .i64) _ 2 (by rfl) (N := 110) rfl 54 _ _ rfl (l0.length : Int) rfl rfl Try.underlying54 (.int .i64 0) 8 info2 rfl (by decide) (by omega) 0 (ok := fun _ => True) (okp := fun _ => True) rfl (fun _ hk => hk) trivial (yd) (Nat.le_trans (Nat.mul_le_mul_right _ (yd : (l0.length : Int).toNat ≤ 35184372088832)) (by omega)) (Below.refl _ _) (Nat.le_refl _) ?_
            intro v150 w51 ho52 hb hg_ hnew_
            clear hg_ hnew_
            (first | rw [← Ny149.out] at ho52 | (simp only [Int.reduceToNat] at ho52; rw [← Ny149.out] at ho52))
            have n0_ := am (Kd.qQw (by exact Rq HO_8.out) hb)
            have n1_ := am (Kd.qQw (by exact Rq HO_9.out) hb)
            have n2_ := am (Kd.qQ7 (by exact Rq HO_10.out) (Kd.qZo ho52) hb)
            have n3_ := am (Kd.qQw (by exact Rq HO_80.out) hb)
            have n4_ := am (Kd.qQ7 (by exact Rq HO148.out) (Kd.qZo ho52) hb)
            have n5_ := am (Kd.qQ7 (by exact Rq HO154.out) (Kd.qZo ho52) hb)
            have n6_ := am (Kd.qZe (Kd.qZn (Kd.qZn (Kd.qZn ho52 (Kd.R_lt (by exact Rq HO_10.out))) (Kd.R_lt (by exact Rq HO148.out))) (Kd.R_lt (by exact Rq HO154.out))) (qQh (by exact hq HB.out GE119.out)))
            have n7_ := am (qQu (g := gb119) (Up.up BK119.out) hb)
            have n8_ := am (qQn (by exact hq HB.out GE119.out) hb)
            clear HO_8 HO_9 HO_10 HO_80 HO148 HO154 BK119 HB
            have HO_8 := n0_
            have HO_9 := n1_
            have HO_10 := n2_
            have HO_80 := n3_
            have HO148 := n4_
            have HO154 := n5_
            have HO151 := n6_
            have BK119 := n7_
            have HB := n8_
            clear n0_ n1_ n2_ n3_ n4_ n5_ n6_ n7_ n8_ hb ho52
            refine hK.out _ _ trivial (fun hHeld => ?_)
            clear hK K
            refine norm_ (a' := ?_) ?_ ?_
            rotate_left
            ·show Act.put _ (some 110) _ = _
             exact pu
            refine qQg.y 9 21 12 767 HT_.out ?_
            refine qQg.y 10 22 12 1791 HT_.out ?_
            exact norm_ (by first | (simp only [putAll, Act.put, List.setIfInBounds_toArray, List.set_cons_zero, List.set_cons_succ]; done) | (simp only [putAll, Act.put, List.setIfInBounds_toArray, List.set_cons_zero, List.set_cons_succ]; rfl)) (hJ2_5 (v150, v153) _ ⟨(by (with_reducible repeat (first | apply Kd.qQs | apply Kd.qQq | apply Kd.qQt)); exact Kd.qQv HO148.out (fun _ hk => ⟨hk.2, ⟨hk.1.1, hk.1.2⟩⟩)), (by (with_reducible repeat (first | apply Kd.qQs | apply Kd.qQq | apply Kd.qQt)); exact Kd.qQv HO151.out (fun _ hk => ⟨hk.1.2, ⟨hk.2, hk.1.1.2⟩⟩)), (by (with_reducible repeat (first | apply Kd.qQs | apply Kd.qQq | apply Kd.qQt)); exact Kd.qQv HO154.out (fun _ hk => ⟨hk.1.1, ⟨hk.2, hk.1.2⟩⟩)), (by (with_reducible repeat (first | apply Kd.qQs | apply Kd.qQq | apply Kd.qQt)); exact Kd.qQv HO_10.out (fun _ hk => ⟨hk.1.1, ⟨hk.2, hk.1.2⟩⟩)), (by exact Rq HO_8.out), (by exact Rq HO_80.out), (by exact Rq HO_9.out), (Up.up BK119.out), (by exact hq HB.out GE119.out)⟩)
           ·skip
            refine Kd.qYe (Kd.int .i64) _ 2 (by rfl) (N := 116) rfl 54 _ _ rfl (l0.length : Int) rfl rfl Try.underlying54 (.int .i64 0) 8 info2 rfl (by decide) (by omega) 0 (ok := fun _ => True) (okp := fun _ => True) rfl (fun _ hk => hk) trivial (yd) (Nat.le_trans (Nat.mul_le_mul_right _ (yd : (l0.length : Int).toNat ≤ 35184372088832)) (by omega)) (Below.refl _ _) (Nat.le_refl _) ?_
            intro v156 w51 ho52 hb hg_ hnew_
            clear hg_ hnew_
            (first | rw [← Ny155.out] at ho52 | (simp only [Int.reduceToNat] at ho52; rw [← Ny155.out] at ho52))
            have n0_ := am (Kd.qQw (by exact Rq HO_8.out) hb)
            have n1_ := am (Kd.qQw (by exact Rq HO_9.out) hb)
            have n2_ := am (Kd.qQ7 (by exact Rq HO_10.out) (Kd.qZo ho52) hb)
            have n3_ := am (Kd.qQw (by exact Rq HO_80.out) hb)
            have n4_ := am (Kd.qQ7 (by exact Rq HO148.out) (Kd.qZo ho52) hb)
            have n5_ := am (Kd.qQ7 (by exact Rq HO154.out) (Kd.qZo ho52) hb)
            have n6_ := am (Kd.qZe (Kd.qZn (Kd.qZn (Kd.qZn ho52 (Kd.R_lt (by exact Rq HO_10.out))) (Kd.R_lt (by exact Rq HO148.out))) (Kd.R_lt (by exact Rq HO154.out))) (qQh (by exact hq HB.out GE119.out)))
            have n7_ := am (qQu (g := gb119) (Up.up BK119.out) hb)
            have n8_ := am (qQn (by exact hq HB.out GE119.out) hb)
            clear HO_8 HO_9 HO_10 HO_80 HO148 HO154 BK119 HB
            have HO_8 := n0_
            have HO_9 := n1_
            have HO_10 := n2_
            have HO_80 := n3_
            have HO148 := n4_
            have HO154 := n5_
            have HO157 := n6_
            have BK119 := n7_
            have HB := n8_
            clear n0_ n1_ n2_ n3_ n4_ n5_ n6_ n7_ n8_ hb ho52
            refine hK.out _ _ trivial (fun hHeld => ?_)
            clear hK K
            refine norm_ (a' := ?_) ?_ ?_
            rotate_left
            ·show Act.put _ (some 116) _ = _
             exact pu
            exact norm_ (by first | (simp only [putAll, Act.put, List.setIfInBounds_toArray, List.set_cons_zero, List.set_cons_succ]; done) | (simp only [putAll, Act.put, List.setIfInBounds_toArray, List.set_cons_zero, List.set_cons_succ]; rfl)) (hJ5_8 (v153, v156) _ ⟨(by (with_reducible repeat (first | apply Kd.qQs | apply Kd.qQq | apply Kd.qQt)); exact Kd.qQv HO148.out (fun _ hk => ⟨hk.1.1, ⟨hk.2, hk.1.2⟩⟩)), (by (with_reducible repeat (first | apply Kd.qQs | apply Kd.qQq | apply Kd.qQt)); exact Kd.qQv HO154.out (fun _ hk => ⟨hk.1.1, ⟨hk.2, hk.1.2⟩⟩)), (by (with_reducible repeat (first | apply Kd.qQs | apply Kd.qQq | apply Kd.qQt)); exact Kd.qQv HO157.out (fun _ hk => ⟨hk.1.2, ⟨hk.2, hk.1.1.2⟩⟩)), (by (with_reducible repeat (first | apply Kd.qQs | apply Kd.qQq | apply Kd.qQt)); exact Kd.qQv HO_10.out (fun _ hk => ⟨hk.1.1, ⟨hk.1.2, hk.2⟩⟩)), (by exact Rq HO_8.out), (by exact Rq HO_80.out), (by exact Rq HO_9.out), (Up.up BK119.out), (by exact hq HB.out GE119.out)⟩)
         ·skip
          rintro v150 w50 ⟨h0_, h1_, h2_, h3_, h4_, h5_, h6_, h7_⟩
          have n0_ : Aside0 (Kd.R (Kd.int .i64) 2 w50 w.heap.size (fun k_ => some k_ ≠ (v150 : Value).ownBlock ∧ some k_ ≠ (.slice Ao45 x10_4.length co45 : Value).ownBlock) v147 t144) := ⟨h0_⟩
          have n1_ : Aside0 (Kd.R (Kd.int .i64) 2 w50 w.heap.size (fun k_ => some k_ ≠ (v147 : Value).ownBlock ∧ some k_ ≠ (.slice Ao45 x10_4.length co45 : Value).ownBlock) v150 y149) := ⟨h1_⟩
          have n2_ : Aside0 (Kd.R (Kd.int .i64) 2 w50 w.heap.size (fun k_ => some k_ ≠ (v147 : Value).ownBlock ∧ some k_ ≠ (v150 : Value).ownBlock) (.slice Ao45 x10_4.length co45) x10_4) := ⟨h2_⟩
          have n3_ : Aside0 (Kd.R (Kd.int .i64) 3 w50 w.heap.size (fun k_ => some k_ ≠ (.slice Ao25 t125.length co25 : Value).ownBlock ∧ some k_ ≠ (.slice Ao25 t125.length co25 : Value).ownBlock) (.slice Ao17 t122.length co17) t122) := ⟨h3_⟩
          have n4_ : Aside0 (Kd.R (Kd.int .i64) 3 w50 w.heap.size (fun k_ => some k_ ≠ (.slice Ao17 t122.length co17 : Value).ownBlock) (.slice Ao25 t125.length co25) t125) := ⟨h4_⟩
          have n5_ : Aside0 (Kd.R (Kd.int .i64) 3 w50 w.heap.size (fun k_ => some k_ ≠ (.slice Ao17 t122.length co17 : Value).ownBlock) (.slice Ao25 t125.length co25) t125) := ⟨h5_⟩
          have n6_ : Aside0 (w50.heap[gb119]? = some (.cells #[.int .i64 0, .int .i64 0, .int .i64 0, .int .i64 0] 26 (0, 0))) := ⟨h6_⟩
          have n7_ : Aside0 (Below w.heap.size w w50) := ⟨h7_⟩
          clear HO_8 HO_9 HO_10 HO_80 HO148 BK119 HB h0_ h1_ h2_ h3_ h4_ h5_ h6_ h7_
          have HO148 := n0_
          have HO151 := n1_
          have HO_10 := n2_
          have HO_8 := n3_
          have HO_80 := n4_
          have HO_9 := n5_
          have BK119 := n6_
          have HB := n7_
          clear n0_ n1_ n2_ n3_ n4_ n5_ n6_ n7_
          have hHeld := trivial
          refine norm_ (a' := ?_) ?_ ?_
          rotate_left
          ·simp only [putAll, Act.put, List.setIfInBounds_toArray, List.set_cons_zero, List.set_cons_succ]
           rfl
          refine two_ (i := 5) (j := 8) (Ni := some 113) (Nj := some 116) (qQg.fl 12 767) (qQg.fl 12 991) rfl rfl rfl rfl (qXj HT_.out (by kernel_rfl)) (by decide) (by decide) (fun K hK => ?_) (fun K hK => ?_)
          ·skip
           refine Kd.qYe (Kd.int .i64) _ 2 (by rfl) (N := 113) rfl 54 _ _ rfl (l0.length : Int) rfl rfl Try.underlying54 (.int .i64 0) 8 info2 rfl (by decide) (by omega) 0 (ok := fun _ => True) (okp := fun _ => True) rfl (fun _ hk => hk) trivial (yd) (Nat.le_trans (Nat.mul_le_mul_right _ (yd : (l0.length : Int).toNat ≤ 35184372088832)) (by omega)) (Below.refl _ _) (Nat.le_refl _) ?_
           intro v153 w51 ho52 hb hg_ hnew_
           clear hg_ hnew_
           (first | rw [← Ny152.out] at ho52 | (simp only [Int.reduceToNat] at ho52; rw [← Ny152.out] at ho52))
           have n0_ := am (Kd.qQw (by exact Rq HO_8.out) hb)
           have n1_ := am (Kd.qQw (by exact Rq HO_9.out) hb)
           have n2_ := am (Kd.qQ7 (by exact Rq HO_10.out) (Kd.qZo ho52) hb)
           have n3_ := am (Kd.qQw (by exact Rq HO_80.out) hb)
           have n4_ := am (Kd.qQ7 (by exact Rq HO148.out) (Kd.qZo ho52) hb)
           have n5_ := am (Kd.qQ7 (by exact Rq HO151.out) (Kd.qZo ho52) hb)
           have n6_ := am (Kd.qZe (Kd.qZn (Kd.qZn (Kd.qZn ho52 (Kd.R_lt (by exact Rq HO_10.out))) (Kd.R_lt (by exact Rq HO148.out))) (Kd.R_lt (by exact Rq HO151.out))) (qQh (by exact hq HB.out GE119.out)))
           have n7_ := am (qQu (g := gb119) (Up.up BK119.out) hb)
           have n8_ := am (qQn (by exact hq HB.out GE119.out) hb)
           clear HO_8 HO_9 HO_10 HO_80 HO148 HO151 BK119 HB
           have HO_8 := n0_
           have HO_9 := n1_
           have HO_10 := n2_
           have HO_80 := n3_
           have HO148 := n4_
           have HO151 := n5_
           have HO154 := n6_
           have BK119 := n7_
           have HB := n8_
           clear n0_ n1_ n2_ n3_ n4_ n5_ n6_ n7_ n8_ hb ho52
           refine hK.out _ _ trivial (fun hHeld => ?_)
           clear hK K
           refine norm_ (a' := ?_) ?_ ?_
           rotate_left
           ·show Act.put _ (some 113) _ = _
            exact pu
           refine qQg.y 10 22 12 1791 HT_.out ?_
           exact norm_ (by first | (simp only [putAll, Act.put, List.setIfInBounds_toArray, List.set_cons_zero, List.set_cons_succ]; done) | (simp only [putAll, Act.put, List.setIfInBounds_toArray, List.set_cons_zero, List.set_cons_succ]; rfl)) (hJ2_5 (v150, v153) _ ⟨(by (with_reducible repeat (first | apply Kd.qQs | apply Kd.qQq | apply Kd.qQt)); exact Kd.qQv HO148.out (fun _ hk => ⟨hk.1.1, ⟨hk.2, hk.1.2⟩⟩)), (by (with_reducible repeat (first | apply Kd.qQs | apply Kd.qQq | apply Kd.qQt)); exact Kd.qQv HO151.out (fun _ hk => ⟨hk.1.1, ⟨hk.2, hk.1.2⟩⟩)), (by (with_reducible repeat (first | apply Kd.qQs | apply Kd.qQq | apply Kd.qQt)); exact Kd.qQv HO154.out (fun _ hk => ⟨hk.1.2, ⟨hk.2, hk.1.1.2⟩⟩)), (by (with_reducible repeat (first | apply Kd.qQs | apply Kd.qQq | apply Kd.qQt)); exact Kd.qQv HO_10.out (fun _ hk => ⟨hk.1.1, ⟨hk.1.2, hk.2⟩⟩)), (by exact Rq HO_8.out), (by exact Rq HO_80.out), (by exact Rq HO_9.out), (Up.up BK119.out), (by exact hq HB.out GE119.out)⟩)
          ·skip
           refine Kd.qYe (Kd.int .i64) _ 2 (by rfl) (N := 116) rfl 54 _ _ rfl (l0.length : Int) rfl rfl Try.underlying54 (.int .i64 0) 8 info2 rfl (by decide) (by omega) 0 (ok := fun _ => True) (okp := fun _ => True) rfl (fun _ hk => hk) trivial (yd) (Nat.le_trans (Nat.mul_le_mul_right _ (yd : (l0.length : Int).toNat ≤ 35184372088832)) (by omega)) (Below.refl _ _) (Nat.le_refl _) ?_
           intro v156 w51 ho52 hb hg_ hnew_
           clear hg_ hnew_
           (first | rw [← Ny155.out] at ho52 | (simp only [Int.reduceToNat] at ho52; rw [← Ny155.out] at ho52))
           have n0_ := am (Kd.qQw (by exact Rq HO_8.out) hb)
           have n1_ := am (Kd.qQw (by exact Rq HO_9.out) hb)
           have n2_ := am (Kd.qQ7 (by exact Rq HO_10.out) (Kd.qZo ho52) hb)
           have n3_ := am (Kd.qQw (by exact Rq HO_80.out) hb)
           have n4_ := am (Kd.qQ7 (by exact Rq HO148.out) (Kd.qZo ho52) hb)
           have n5_ := am (Kd.qQ7 (by exact Rq HO151.out) (Kd.qZo ho52) hb)
           have n6_ := am (Kd.qZe (Kd.qZn (Kd.qZn (Kd.qZn ho52 (Kd.R_lt (by exact Rq HO_10.out))) (Kd.R_lt (by exact Rq HO148.out))) (Kd.R_lt (by exact Rq HO151.out))) (qQh (by exact hq HB.out GE119.out)))
           have n7_ := am (qQu (g := gb119) (Up.up BK119.out) hb)
           have n8_ := am (qQn (by exact hq HB.out GE119.out) hb)
           clear HO_8 HO_9 HO_10 HO_80 HO148 HO151 BK119 HB
           have HO_8 := n0_
           have HO_9 := n1_
           have HO_10 := n2_
           have HO_80 := n3_
           have HO148 := n4_
           have HO151 := n5_
           have HO157 := n6_
           have BK119 := n7_
           have HB := n8_
           clear n0_ n1_ n2_ n3_ n4_ n5_ n6_ n7_ n8_ hb ho52
           refine hK.out _ _ trivial (fun hHeld => ?_)
           clear hK K
           refine norm_ (a' := ?_) ?_ ?_
           rotate_left
           ·show Act.put _ (some 116) _ = _
            exact pu
           exact norm_ (by first | (simp only [putAll, Act.put, List.setIfInBounds_toArray, List.set_cons_zero, List.set_cons_succ]; done) | (simp only [putAll, Act.put, List.setIfInBounds_toArray, List.set_cons_zero, List.set_cons_succ]; rfl)) (hJ2_8 (v150, v156) _ ⟨(by (with_reducible repeat (first | apply Kd.qQs | apply Kd.qQq | apply Kd.qQt)); exact Kd.qQv HO148.out (fun _ hk => ⟨hk.1.1, ⟨hk.2, hk.1.2⟩⟩)), (by (with_reducible repeat (first | apply Kd.qQs | apply Kd.qQq | apply Kd.qQt)); exact Kd.qQv HO151.out (fun _ hk => ⟨hk.1.1, ⟨hk.2, hk.1.2⟩⟩)), (by (with_reducible repeat (first | apply Kd.qQs | apply Kd.qQq | apply Kd.qQt)); exact Kd.qQv HO157.out (fun _ hk => ⟨hk.1.2, ⟨hk.2, hk.1.1.2⟩⟩)), (by (with_reducible repeat (first | apply Kd.qQs | apply Kd.qQq | apply Kd.qQt)); exact Kd.qQv HO_10.out (fun _ hk => ⟨hk.1.1, ⟨hk.1.2, hk.2⟩⟩)), (by exact Rq HO_8.out), (by exact Rq HO_80.out), (by exact Rq HO_9.out), (Up.up BK119.out), (by exact hq HB.out GE119.out)⟩)
        ·skip
         rintro ⟨v153, v156⟩ w52 ⟨h0_, h1_, h2_, h3_, h4_, h5_, h6_, h7_, h8_⟩
         have n0_ : Aside0 (Kd.R (Kd.int .i64) 2 w52 w.heap.size (fun k_ => some k_ ≠ (v153 : Value).ownBlock ∧ some k_ ≠ (v156 : Value).ownBlock ∧ some k_ ≠ (.slice Ao45 x10_4.length co45 : Value).ownBlock) v147 t144) := ⟨h0_⟩
         have n1_ : Aside0 (Kd.R (Kd.int .i64) 2 w52 w.heap.size (fun k_ => some k_ ≠ (v147 : Value).ownBlock ∧ some k_ ≠ (v156 : Value).ownBlock ∧ some k_ ≠ (.slice Ao45 x10_4.length co45 : Value).ownBlock) v153 y152) := ⟨h1_⟩
         have n2_ : Aside0 (Kd.R (Kd.int .i64) 2 w52 w.heap.size (fun k_ => some k_ ≠ (v147 : Value).ownBlock ∧ some k_ ≠ (v153 : Value).ownBlock ∧ some k_ ≠ (.slice Ao45 x10_4.length co45 : Value).ownBlock) v156 y155) := ⟨h2_⟩
         have n3_ : Aside0 (Kd.R (Kd.int .i64) 2 w52 w.heap.size (fun k_ => some k_ ≠ (v147 : Value).ownBlock ∧ some k_ ≠ (v153 : Value).ownBlock ∧ some k_ ≠ (v156 : Value).ownBlock) (.slice Ao45 x10_4.length co45) x10_4) := ⟨h3_⟩
         have n4_ : Aside0 (Kd.R (Kd.int .i64) 3 w52 w.heap.size (fun k_ => some k_ ≠ (.slice Ao25 t125.length co25 : Value).ownBlock ∧ some k_ ≠ (.slice Ao25 t125.length co25 : Value).ownBlock) (.slice Ao17 t122.length co17) t122) := ⟨h4_⟩
         have n5_ : Aside0 (Kd.R (Kd.int .i64) 3 w52 w.heap.size (fun k_ => some k_ ≠ (.slice Ao17 t122.length co17 : Value).ownBlock) (.slice Ao25 t125.length co25) t125) := ⟨h5_⟩
         have n6_ : Aside0 (Kd.R (Kd.int .i64) 3 w52 w.heap.size (fun k_ => some k_ ≠ (.slice Ao17 t122.length co17 : Value).ownBlock) (.slice Ao25 t125.length co25) t125) := ⟨h6_⟩
         have n7_ : Aside0 (w52.heap[gb119]? = some (.cells #[.int .i64 0, .int .i64 0, .int .i64 0, .int .i64 0] 26 (0, 0))) := ⟨h7_⟩
         have n8_ : Aside0 (Below w.heap.size w w52) := ⟨h8_⟩
         clear HO_8 HO_9 HO_10 HO_80 HO148 BK119 HB h0_ h1_ h2_ h3_ h4_ h5_ h6_ h7_ h8_
         have HO148 := n0_
         have HO154 := n1_
         have HO157 := n2_
         have HO_10 := n3_
         have HO_8 := n4_
         have HO_80 := n5_
         have HO_9 := n6_
         have BK119 := n7_
         have HB := n8_
         clear n0_ n1_ n2_ n3_ n4_ n5_ n6_ n7_ n8_
         have hHeld := trivial
         refine norm_ (a' := ?_) ?_ ?_
         rotate_left
         ·simp only [putAll, Act.put, List.setIfInBounds_toArray, List.set_cons_zero, List.set_cons_succ]
          rfl
         refine one_ (i := 2) (N := some 110) (qQg.fl 12 511) rfl rfl (qZ3 HT_.out (by kernel_rfl)) (by decide) (fun K hK => ?_)
         refine Kd.qYe (Kd.int .i64) _ 2 (by rfl) (N := 110) rfl 54 _ _ rfl (l0.length : Int) rfl rfl Try.underlying54 (.int .i64 0) 8 info2 rfl (by decide) (by omega) 0 (ok := fun _ => True) (okp := fun _ => True) rfl (fun _ hk => hk) trivial (yd) (Nat.le_trans (Nat.mul_le_mul_right _ (yd : (l0.length : Int).toNat ≤ 35184372088832)) (by omega)) (Below.refl _ _) (Nat.le_refl _) ?_
         intro v150 w53 ho54 hb hg_ hnew_
         clear hg_ hnew_
         (first | rw [← Ny149.out] at ho54 | (simp only [Int.reduceToNat] at ho54; rw [← Ny149.out] at ho54))
         have n0_ := am (Kd.qQw (by exact Rq HO_8.out) hb)
         have n1_ := am (Kd.qQw (by exact Rq HO_9.out) hb)
         have n2_ := am (Kd.qQ7 (by exact Rq HO_10.out) (Kd.qZo ho54) hb)
         have n3_ := am (Kd.qQw (by exact Rq HO_80.out) hb)
         have n4_ := am (Kd.qQ7 (by exact Rq HO148.out) (Kd.qZo ho54) hb)
         have n5_ := am (Kd.qQ7 (by exact Rq HO154.out) (Kd.qZo ho54) hb)
         have n6_ := am (Kd.qQ7 (by exact Rq HO157.out) (Kd.qZo ho54) hb)
         have n7_ := am (Kd.qZe (Kd.qZn (Kd.qZn (Kd.qZn (Kd.qZn ho54 (Kd.R_lt (by exact Rq HO_10.out))) (Kd.R_lt (by exact Rq HO148.out))) (Kd.R_lt (by exact Rq HO154.out))) (Kd.R_lt (by exact Rq HO157.out))) (qQh (by exact hq HB.out GE119.out)))
         have n8_ := am (qQu (g := gb119) (Up.up BK119.out) hb)
         have n9_ := am (qQn (by exact hq HB.out GE119.out) hb)
         clear HO_8 HO_9 HO_10 HO_80 HO148 HO154 HO157 BK119 HB
         have HO_8 := n0_
         have HO_9 := n1_
         have HO_10 := n2_
         have HO_80 := n3_
         have HO148 := n4_
         have HO154 := n5_
         have HO157 := n6_
         have HO151 := n7_
         have BK119 := n8_
         have HB := n9_
         clear n0_ n1_ n2_ n3_ n4_ n5_ n6_ n7_ n8_ n9_ hb ho54
         refine hK.out _ _ trivial (fun hHeld => ?_)
         clear hK K
         refine norm_ (a' := ?_) ?_ ?_
         rotate_left
         ·show Act.put _ (some 110) _ = _
          exact pu
         refine qQg.y 9 21 12 1023 HT_.out ?_
         refine qQg.y 10 22 12 2047 HT_.out ?_
         exact norm_ (by first | (simp only [putAll, Act.put, List.setIfInBounds_toArray, List.set_cons_zero, List.set_cons_succ]; done) | (simp only [putAll, Act.put, List.setIfInBounds_toArray, List.set_cons_zero, List.set_cons_succ]; rfl)) (hJ2_5_8 (v150, v153, v156) _ ⟨(by (with_reducible repeat (first | apply Kd.qQs | apply Kd.qQq | apply Kd.qQt)); exact Kd.qQv HO148.out (fun _ hk => ⟨hk.2, ⟨hk.1.1, ⟨hk.1.2.1, hk.1.2.2⟩⟩⟩)), (by (with_reducible repeat (first | apply Kd.qQs | apply Kd.qQq | apply Kd.qQt)); exact Kd.qQv HO151.out (fun _ hk => ⟨hk.1.1.2, ⟨hk.1.2, ⟨hk.2, hk.1.1.1.2⟩⟩⟩)), (by (with_reducible repeat (first | apply Kd.qQs | apply Kd.qQq | apply Kd.qQt)); exact Kd.qQv HO154.out (fun _ hk => ⟨hk.1.1, ⟨hk.2, ⟨hk.1.2.1, hk.1.2.2⟩⟩⟩)), (by (with_reducible repeat (first | apply Kd.qQs | apply Kd.qQq | apply Kd.qQt)); exact Kd.qQv HO157.out (fun _ hk => ⟨hk.1.1, ⟨hk.2, ⟨hk.1.2.1, hk.1.2.2⟩⟩⟩)), (by (with_reducible repeat (first | apply Kd.qQs | apply Kd.qQq | apply Kd.qQt)); exact Kd.qQv HO_10.out (fun _ hk => ⟨hk.1.1, ⟨hk.2, ⟨hk.1.2.1, hk.1.2.2⟩⟩⟩)), (by exact Rq HO_8.out), (by exact Rq HO_80.out), (by exact Rq HO_9.out), (Up.up BK119.out), (by exact hq HB.out GE119.out)⟩)
       ·skip
        rintro ⟨v150, v156⟩ w52 ⟨h0_, h1_, h2_, h3_, h4_, h5_, h6_, h7_, h8_⟩
        have n0_ : Aside0 (Kd.R (Kd.int .i64) 2 w52 w.heap.size (fun k_ => some k_ ≠ (v150 : Value).ownBlock ∧ some k_ ≠ (v156 : Value).ownBlock ∧ some k_ ≠ (.slice Ao45 x10_4.length co45 : Value).ownBlock) v147 t144) := ⟨h0_⟩
        have n1_ : Aside0 (Kd.R (Kd.int .i64) 2 w52 w.heap.size (fun k_ => some k_ ≠ (v147 : Value).ownBlock ∧ some k_ ≠ (v156 : Value).ownBlock ∧ some k_ ≠ (.slice Ao45 x10_4.length co45 : Value).ownBlock) v150 y149) := ⟨h1_⟩
        have n2_ : Aside0 (Kd.R (Kd.int .i64) 2 w52 w.heap.size (fun k_ => some k_ ≠ (v147 : Value).ownBlock ∧ some k_ ≠ (v150 : Value).ownBlock ∧ some k_ ≠ (.slice Ao45 x10_4.length co45 : Value).ownBlock) v156 y155) := ⟨h2_⟩
        have n3_ : Aside0 (Kd.R (Kd.int .i64) 2 w52 w.heap.size (fun k_ => some k_ ≠ (v147 : Value).ownBlock ∧ some k_ ≠ (v150 : Value).ownBlock ∧ some k_ ≠ (v156 : Value).ownBlock) (.slice Ao45 x10_4.length co45) x10_4) := ⟨h3_⟩
        have n4_ : Aside0 (Kd.R (Kd.int .i64) 3 w52 w.heap.size (fun k_ => some k_ ≠ (.slice Ao25 t125.length co25 : Value).ownBlock ∧ some k_ ≠ (.slice Ao25 t125.length co25 : Value).ownBlock) (.slice Ao17 t122.length co17) t122) := ⟨h4_⟩
        have n5_ : Aside0 (Kd.R (Kd.int .i64) 3 w52 w.heap.size (fun k_ => some k_ ≠ (.slice Ao17 t122.length co17 : Value).ownBlock) (.slice Ao25 t125.length co25) t125) := ⟨h5_⟩
        have n6_ : Aside0 (Kd.R (Kd.int .i64) 3 w52 w.heap.size (fun k_ => some k_ ≠ (.slice Ao17 t122.length co17 : Value).ownBlock) (.slice Ao25 t125.length co25) t125) := ⟨h6_⟩
        have n7_ : Aside0 (w52.heap[gb119]? = some (.cells #[.int .i64 0, .int .i64 0, .int .i64 0, .int .i64 0] 26 (0, 0))) := ⟨h7_⟩
        have n8_ : Aside0 (Below w.heap.size w w52) := ⟨h8_⟩
        clear HO_8 HO_9 HO_10 HO_80 HO148 BK119 HB h0_ h1_ h2_ h3_ h4_ h5_ h6_ h7_ h8_
        have HO148 := n0_
        have HO151 := n1_
        have HO157 := n2_
        have HO_10 := n3_
        have HO_8 := n4_
        have HO_80 := n5_
        have HO_9 := n6_
        have BK119 := n7_
        have HB := n8_
        clear n0_ n1_ n2_ n3_ n4_ n5_ n6_ n7_ n8_
        have hHeld := trivial
        refine norm_ (a' := ?_) ?_ ?_
        rotate_left
        ·simp only [putAll, Act.put, List.setIfInBounds_toArray, List.set_cons_zero, List.set_cons_succ]
         rfl
        refine one_ (i := 5) (N := some 113) (qQg.fl 12 1023) rfl rfl (qZ3 HT_.out (by kernel_rfl)) (by decide) (fun K hK => ?_)
        refine Kd.qYe (Kd.int .i64) _ 2 (by rfl) (N := 113) rfl 54 _ _ rfl (l0.length : Int) rfl rfl Try.underlying54 (.int .i64 0) 8 info2 rfl (by decide) (by omega) 0 (ok := fun _ => True) (okp := fun _ => True) rfl (fun _ hk => hk) trivial (yd) (Nat.le_trans (Nat.mul_le_mul_right _ (yd : (l0.length : Int).toNat ≤ 35184372088832)) (by omega)) (Below.refl _ _) (Nat.le_refl _) ?_
        intro v153 w53 ho54 hb hg_ hnew_
        clear hg_ hnew_
        (first | rw [← Ny152.out] at ho54 | (simp only [Int.reduceToNat] at ho54; rw [← Ny152.out] at ho54))
        have n0_ := am (Kd.qQw (by exact Rq HO_8.out) hb)
        have n1_ := am (Kd.qQw (by exact Rq HO_9.out) hb)
        have n2_ := am (Kd.qQ7 (by exact Rq HO_10.out) (Kd.qZo ho54) hb)
        have n3_ := am (Kd.qQw (by exact Rq HO_80.out) hb)
        have n4_ := am (Kd.qQ7 (by exact Rq HO148.out) (Kd.qZo ho54) hb)
        have n5_ := am (Kd.qQ7 (by exact Rq HO151.out) (Kd.qZo ho54) hb)
        have n6_ := am (Kd.qQ7 (by exact Rq HO157.out) (Kd.qZo ho54) hb)
        have n7_ := am (Kd.qZe (Kd.qZn (Kd.qZn (Kd.qZn (Kd.qZn ho54 (Kd.R_lt (by exact Rq HO_10.out))) (Kd.R_lt (by exact Rq HO148.out))) (Kd.R_lt (by exact Rq HO151.out))) (Kd.R_lt (by exact Rq HO157.out))) (qQh (by exact hq HB.out GE119.out)))
        have n8_ := am (qQu (g := gb119) (Up.up BK119.out) hb)
        have n9_ := am (qQn (by exact hq HB.out GE119.out) hb)
        clear HO_8 HO_9 HO_10 HO_80 HO148 HO151 HO157 BK119 HB
        have HO_8 := n0_
        have HO_9 := n1_
        have HO_10 := n2_
        have HO_80 := n3_
        have HO148 := n4_
        have HO151 := n5_
        have HO157 := n6_
        have HO154 := n7_
        have BK119 := n8_
        have HB := n9_
        clear n0_ n1_ n2_ n3_ n4_ n5_ n6_ n7_ n8_ n9_ hb ho54
        refine hK.out _ _ trivial (fun hHeld => ?_)
        clear hK K
        refine norm_ (a' := ?_) ?_ ?_
        rotate_left
        ·show Act.put _ (some 113) _ = _
         exact pu
        refine qQg.y 10 22 12 2047 HT_.out ?_
        exact norm_ (by first | (simp only [putAll, Act.put, List.setIfInBounds_toArray, List.set_cons_zero, List.set_cons_succ]; done) | (simp only [putAll, Act.put, List.setIfInBounds_toArray, List.set_cons_zero, List.set_cons_succ]; rfl)) (hJ2_5_8 (v150, v153, v156) _ ⟨(by (with_reducible repeat (first | apply Kd.qQs | apply Kd.qQq | apply Kd.qQt)); exact Kd.qQv HO148.out (fun _ hk => ⟨hk.1.1, ⟨hk.2, ⟨hk.1.2.1, hk.1.2.2⟩⟩⟩)), (by (with_reducible repeat (first | apply Kd.qQs | apply Kd.qQq | apply Kd.qQt)); exact Kd.qQv HO151.out (fun _ hk => ⟨hk.1.1, ⟨hk.2, ⟨hk.1.2.1, hk.1.2.2⟩⟩⟩)), (by (with_reducible repeat (first | apply Kd.qQs | apply Kd.qQq | apply Kd.qQt)); exact Kd.qQv HO154.out (fun _ hk => ⟨hk.1.1.2, ⟨hk.1.2, ⟨hk.2, hk.1.1.1.2⟩⟩⟩)), (by (with_reducible repeat (first | apply Kd.qQs | apply Kd.qQq | apply Kd.qQt)); exact Kd.qQv HO157.out (fun _ hk => ⟨hk.1.1, ⟨hk.1.2.1, ⟨hk.2, hk.1.2.2⟩⟩⟩)), (by (with_reducible repeat (first | apply Kd.qQs | apply Kd.qQq | apply Kd.qQt)); exact Kd.qQv HO_10.out (fun _ hk => ⟨hk.1.1, ⟨hk.1.2.1, ⟨hk.2, hk.1.2.2⟩⟩⟩)), (by exact Rq HO_8.out), (by exact Rq HO_80.out), (by exact Rq HO_9.out), (Up.up BK119.out), (by exact hq HB.out GE119.out)⟩)
      ·skip
       rintro ⟨v150, v153⟩ w52 ⟨h0_, h1_, h2_, h3_, h4_, h5_, h6_, h7_, h8_⟩
       have n0_ : Aside0 (Kd.R (Kd.int .i64) 2 w52 w.heap.size (fun k_ => some k_ ≠ (v150 : Value).ownBlock ∧ some k_ ≠ (v153 : Value).ownBlock ∧ some k_ ≠ (.slice Ao45 x10_4.length co45 : Value).ownBlock) v147 t144) := ⟨h0_⟩
       have n1_ : Aside0 (Kd.R (Kd.int .i64) 2 w52 w.heap.size (fun k_ => some k_ ≠ (v147 : Value).ownBlock ∧ some k_ ≠ (v153 : Value).ownBlock ∧ some k_ ≠ (.slice Ao45 x10_4.length co45 : Value).ownBlock) v150 y149) := ⟨h1_⟩
       have n2_ : Aside0 (Kd.R (Kd.int .i64) 2 w52 w.heap.size (fun k_ => some k_ ≠ (v147 : Value).ownBlock ∧ some k_ ≠ (v150 : Value).ownBlock ∧ some k_ ≠ (.slice Ao45 x10_4.length co45 : Value).ownBlock) v153 y152) := ⟨h2_⟩
       have n3_ : Aside0 (Kd.R (Kd.int .i64) 2 w52 w.heap.size (fun k_ => some k_ ≠ (v147 : Value).ownBlock ∧ some k_ ≠ (v150 : Value).ownBlock ∧ some k_ ≠ (v153 : Value).ownBlock) (.slice Ao45 x10_4.length co45) x10_4) := ⟨h3_⟩
       have n4_ : Aside0 (Kd.R (Kd.int .i64) 3 w52 w.heap.size (fun k_ => some k_ ≠ (.slice Ao25 t125.length co25 : Value).ownBlock ∧ some k_ ≠ (.slice Ao25 t125.length co25 : Value).ownBlock) (.slice Ao17 t122.length co17) t122) := ⟨h4_⟩
       have n5_ : Aside0 (Kd.R (Kd.int .i64) 3 w52 w.heap.size (fun k_ => some k_ ≠ (.slice Ao17 t122.length co17 : Value).ownBlock) (.slice Ao25 t125.length co25) t125) := ⟨h5_⟩
       have n6_ : Aside0 (Kd.R (Kd.int .i64) 3 w52 w.heap.size (fun k_ => some k_ ≠ (.slice Ao17 t122.length co17 : Value).ownBlock) (.slice Ao25 t125.length co25) t125) := ⟨h6_⟩
       have n7_ : Aside0 (w52.heap[gb119]? = some (.cells #[.int .i64 0, .int .i64 0, .int .i64 0, .int .i64 0] 26 (0, 0))) := ⟨h7_⟩
       have n8_ : Aside0 (Below w.heap.size w w52) := ⟨h8_⟩
       clear HO_8 HO_9 HO_10 HO_80 HO148 BK119 HB h0_ h1_ h2_ h3_ h4_ h5_ h6_ h7_ h8_
       have HO148 := n0_
       have HO151 := n1_
       have HO154 := n2_
       have HO_10 := n3_
       have HO_8 := n4_
       have HO_80 := n5_
       have HO_9 := n6_
       have BK119 := n7_
       have HB := n8_
       clear n0_ n1_ n2_ n3_ n4_ n5_ n6_ n7_ n8_
       have hHeld := trivial
       refine norm_ (a' := ?_) ?_ ?_
       rotate_left
       ·simp only [putAll, Act.put, List.setIfInBounds_toArray, List.set_cons_zero, List.set_cons_succ]
        rfl
       refine one_ (i := 8) (N := some 116) (qQg.fl 12 2047) rfl rfl (qZ3 HT_.out (by kernel_rfl)) (by decide) (fun K hK => ?_)
       refine Kd.qYe (Kd.int .i64) _ 2 (by rfl) (N := 116) rfl 54 _ _ rfl (l0.length : Int) rfl rfl Try.underlying54 (.int .i64 0) 8 info2 rfl (by decide) (by omega) 0 (ok := fun _ => True) (okp := fun _ => True) rfl (fun _ hk => hk) trivial (yd) (Nat.le_trans (Nat.mul_le_mul_right _ (yd : (l0.length : Int).toNat ≤ 35184372088832)) (by omega)) (Below.refl _ _) (Nat.le_refl _) ?_
       intro v156 w53 ho54 hb hg_ hnew_
       clear hg_ hnew_
       (first | rw [← Ny155.out] at ho54 | (simp only [Int.reduceToNat] at ho54; rw [← Ny155.out] at ho54))
       have n0_ := am (Kd.qQw (by exact Rq HO_8.out) hb)
       have n1_ := am (Kd.qQw (by exact Rq HO_9.out) hb)
       have n2_ := am (Kd.qQ7 (by exact Rq HO_10.out) (Kd.qZo ho54) hb)
       have n3_ := am (Kd.qQw (by exact Rq HO_80.out) hb)
       have n4_ := am (Kd.qQ7 (by exact Rq HO148.out) (Kd.qZo ho54) hb)
       have n5_ := am (Kd.qQ7 (by exact Rq HO151.out) (Kd.qZo ho54) hb)
       have n6_ := am (Kd.qQ7 (by exact Rq HO154.out) (Kd.qZo ho54) hb)
       have n7_ := am (Kd.qZe (Kd.qZn (Kd.qZn (Kd.qZn (Kd.qZn ho54 (Kd.R_lt (by exact Rq HO_10.out))) (Kd.R_lt (by exact Rq HO148.out))) (Kd.R_lt (by exact Rq HO151.out))) (Kd.R_lt (by exact Rq HO154.out))) (qQh (by exact hq HB.out GE119.out)))
       have n8_ := am (qQu (g := gb119) (Up.up BK119.out) hb)
       have n9_ := am (qQn (by exact hq HB.out GE119.out) hb)
       clear HO_8 HO_9 HO_10 HO_80 HO148 HO151 HO154 BK119 HB
       have HO_8 := n0_
       have HO_9 := n1_
       have HO_10 := n2_
       have HO_80 := n3_
       have HO148 := n4_
       have HO151 := n5_
       have HO154 := n6_
       have HO157 := n7_
       have BK119 := n8_
       have HB := n9_
       clear n0_ n1_ n2_ n3_ n4_ n5_ n6_ n7_ n8_ n9_ hb ho54
       refine hK.out _ _ trivial (fun hHeld => ?_)
       clear hK K
       refine norm_ (a' := ?_) ?_ ?_
       rotate_left
       ·show Act.put _ (some 116) _ = _
        exact pu
       exact norm_ (by first | (simp only [putAll, Act.put, List.setIfInBounds_toArray, List.set_cons_zero, List.set_cons_succ]; done) | (simp only [putAll, Act.put, List.setIfInBounds_toArray, List.set_cons_zero, List.set_cons_succ]; rfl)) (hJ2_5_8 (v150, v153, v156) _ ⟨(by (with_reducible repeat (first | apply Kd.qQs | apply Kd.qQq | apply Kd.qQt)); exact Kd.qQv HO148.out (fun _ hk => ⟨hk.1.1, ⟨hk.1.2.1, ⟨hk.2, hk.1.2.2⟩⟩⟩)), (by (with_reducible repeat (first | apply Kd.qQs | apply Kd.qQq | apply Kd.qQt)); exact Kd.qQv HO151.out (fun _ hk => ⟨hk.1.1, ⟨hk.1.2.1, ⟨hk.2, hk.1.2.2⟩⟩⟩)), (by (with_reducible repeat (first | apply Kd.qQs | apply Kd.qQq | apply Kd.qQt)); exact Kd.qQv HO154.out (fun _ hk => ⟨hk.1.1, ⟨hk.1.2.1, ⟨hk.2, hk.1.2.2⟩⟩⟩)), (by (with_reducible repeat (first | apply Kd.qQs | apply Kd.qQq | apply Kd.qQt)); exact Kd.qQv HO157.out (fun _ hk => ⟨hk.1.1.2, ⟨hk.1.2, ⟨hk.2, hk.1.1.1.2⟩⟩⟩)), (by (with_reducible repeat (first | apply Kd.qQs | apply Kd.qQq | apply Kd.qQt)); exact Kd.qQv HO_10.out (fun _ hk => ⟨hk.1.1, ⟨hk.1.2.1, ⟨hk.1.2.2, hk.2⟩⟩⟩)), (by exact Rq HO_8.out), (by exact Rq HO_80.out), (by exact Rq HO_9.out), (Up.up BK119.out), (by exact hq HB.out GE119.out)⟩)
     rintro ⟨v150, v153, v156⟩ w54 ⟨h0_, h1_, h2_, h3_, h4_, h5_, h6_, h7_, h8_, h9_⟩
     have n0_ : Aside0 (Kd.R (Kd.int .i64) 2 w54 w.heap.size (fun k_ => some k_ ≠ (v150 : Value).ownBlock ∧ some k_ ≠ (v153 : Value).ownBlock ∧ some k_ ≠ (v156 : Value).ownBlock ∧ some k_ ≠ (.slice Ao45 x10_4.length co45 : Value).ownBlock) v147 t144) := ⟨h0_⟩
     have n1_ : Aside0 (Kd.R (Kd.int .i64) 2 w54 w.heap.size (fun k_ => some k_ ≠ (v147 : Value).ownBlock ∧ some k_ ≠ (v153 : Value).ownBlock ∧ some k_ ≠ (v156 : Value).ownBlock ∧ some k_ ≠ (.slice Ao45 x10_4.length co45 : Value).ownBlock) v150 y149) := ⟨h1_⟩
     have n2_ : Aside0 (Kd.R (Kd.int .i64) 2 w54 w.heap.size (fun k_ => some k_ ≠ (v147 : Value).ownBlock ∧ some k_ ≠ (v150 : Value).ownBlock ∧ some k_ ≠ (v156 : Value).ownBlock ∧ some k_ ≠ (.slice Ao45 x10_4.length co45 : Value).ownBlock) v153 y152) := ⟨h2_⟩
     have n3_ : Aside0 (Kd.R (Kd.int .i64) 2 w54 w.heap.size (fun k_ => some k_ ≠ (v147 : Value).ownBlock ∧ some k_ ≠ (v150 : Value).ownBlock ∧ some k_ ≠ (v153 : Value).ownBlock ∧ some k_ ≠ (.slice Ao45 x10_4.length co45 : Value).ownBlock) v156 y155) := ⟨h3_⟩
     have n4_ : Aside0 (Kd.R (Kd.int .i64) 2 w54 w.heap.size (fun k_ => some k_ ≠ (v147 : Value).ownBlock ∧ some k_ ≠ (v150 : Value).ownBlock ∧ some k_ ≠ (v153 : Value).ownBlock ∧ some k_ ≠ (v156 : Value).ownBlock) (.slice Ao45 x10_4.length co45) x10_4) := ⟨h4_⟩
     have n5_ : Aside0 (Kd.R (Kd.int .i64) 3 w54 w.heap.size (fun k_ => some k_ ≠ (.slice Ao25 t125.length co25 : Value).ownBlock ∧ some k_ ≠ (.slice Ao25 t125.length co25 : Value).ownBlock) (.slice Ao17 t122.length co17) t122) := ⟨h5_⟩
     have n6_ : Aside0 (Kd.R (Kd.int .i64) 3 w54 w.heap.size (fun k_ => some k_ ≠ (.slice Ao17 t122.length co17 : Value).ownBlock) (.slice Ao25 t125.length co25) t125) := ⟨h6_⟩
     have n7_ : Aside0 (Kd.R (Kd.int .i64) 3 w54 w.heap.size (fun k_ => some k_ ≠ (.slice Ao17 t122.length co17 : Value).ownBlock) (.slice Ao25 t125.length co25) t125) := ⟨h7_⟩
     have n8_ : Aside0 (w54.heap[gb119]? = some (.cells #[.int .i64 0, .int .i64 0, .int .i64 0, .int .i64 0] 26 (0, 0))) := ⟨h8_⟩
     have n9_ : Aside0 (Below w.heap.size w w54) := ⟨h9_⟩
     clear HO_8 HO_9 HO_10 HO_80 HO148 BK119 HB h0_ h1_ h2_ h3_ h4_ h5_ h6_ h7_ h8_ h9_
     have HO148 := n0_
     have HO151 := n1_
     have HO154 := n2_
     have HO157 := n3_
     have HO_10 := n4_
     have HO_8 := n5_
     have HO_80 := n6_
     have HO_9 := n7_
     have BK119 := n8_
     have HB := n9_
     clear n0_ n1_ n2_ n3_ n4_ n5_ n6_ n7_ n8_ n9_
     have hHeld := trivial
     refine norm_ (a' := ?_) ?_ ?_
     rotate_left
     ·simp only [putAll, Act.put, List.setIfInBounds_toArray, List.set_cons_zero, List.set_cons_succ]
      rfl
     refine qQg.y 11 23 12 4095 HT_.out ?_
     refine done_ (qYw HT_.out (by kernel_rfl)) ?_
     try go_wp2
     go_loopg [118] k4 (fun kq v118 w' => ∃ (x21_5 : List Int) (x22_5 : List Int) (x23_5 : List Int) (x118_5 : Int), v118 = .int .i64 x118_5 ∧ Aside0 (qQg.l3 kq l0 t122 t125 t144 t145 (t125.length : Int) x21_5 x22_5 x23_5 (t125.length : Int) x118_5 0 0 0 0 = some (r1, r2, r3, r4, r5, r6)) ∧ Aside0 (kq ≤ k4) ∧ Aside0 (Kd.R (Kd.int .i64) 3 w' w.heap.size (fun k_ => some k_ ≠ ((.slice Ao25 t125.length co25) : Value).ownBlock) (.slice Ao17 t122.length co17) t122) ∧ Aside0 (Kd.R (Kd.int .i64) 3 w' w.heap.size (fun k_ => some k_ ≠ ((.slice Ao17 t122.length co17) : Value).ownBlock) (.slice Ao25 t125.length co25) t125) ∧ Aside0 (Kd.R (Kd.int .i64) 2 w' w.heap.size (fun k_ => some k_ ≠ (v150 : Value).ownBlock ∧ some k_ ≠ (v153 : Value).ownBlock ∧ some k_ ≠ (v156 : Value).ownBlock) v147 t144) ∧ Aside0 (Kd.R (Kd.int .i64) 2 w' w.heap.size (fun k_ => some k_ ≠ (v147 : Value).ownBlock ∧ some k_ ≠ (v153 : Value).ownBlock ∧ some k_ ≠ (v156 : Value).ownBlock) v150 x21_5) ∧ Aside0 (Kd.R (Kd.int .i64) 2 w' w.heap.size (fun k_ => some k_ ≠ (v147 : Value).ownBlock ∧ some k_ ≠ (v150 : Value).ownBlock ∧ some k_ ≠ (v156 : Value).ownBlock) v153 x22_5) ∧ Aside0 (Kd.R (Kd.int .i64) 2 w' w.heap.size (fun k_ => some k_ ≠ (v147 : Value).ownBlock ∧ some k_ ≠ (v150 : Value).ownBlock ∧ some k_ ≠ (v153 : Value).ownBlock) v156 x23_5) ∧ Aside0 (w'.heap[gb119]? = some (.cells #[.int .i64 0, .int .i64 0, .int .i64 0, .int .i64 0] 26 (0, 0))) ∧ Aside0 (Below w.heap.size w w'))
     case atStart => exact ⟨(y149), (y152), (y155), (0), (by first | rfl | (simp; done) | (simp [*]; done)), H', ⟨Nat.le_refl _⟩, ⟨by (with_reducible repeat (first | apply Kd.qQs | apply Kd.qQq | apply Kd.qQt)); exact Kd.qQv HO_8.out (fun _ hk => hk.2)⟩, ⟨by exact Rq HO_9.out⟩, ⟨by (with_reducible repeat (first | apply Kd.qQs | apply Kd.qQq | apply Kd.qQt)); exact Kd.qQv HO148.out (fun _ hk => ⟨hk.1, ⟨hk.2.1, hk.2.2.1⟩⟩)⟩, ⟨by (with_reducible repeat (first | apply Kd.qQs | apply Kd.qQq | apply Kd.qQt)); exact Kd.qQv HO151.out (fun _ hk => ⟨hk.1, ⟨hk.2.1, hk.2.2.1⟩⟩)⟩, ⟨by (with_reducible repeat (first | apply Kd.qQs | apply Kd.qQq | apply Kd.qQt)); exact Kd.qQv HO154.out (fun _ hk => ⟨hk.1, ⟨hk.2.1, hk.2.2.1⟩⟩)⟩, ⟨by (with_reducible repeat (first | apply Kd.qQs | apply Kd.qQq | apply Kd.qQt)); exact Kd.qQv HO157.out (fun _ hk => ⟨hk.1, ⟨hk.2.1, hk.2.2.1⟩⟩)⟩, ⟨by exact bq BK119.out⟩, ⟨by exact hq HB.out GE119.out⟩⟩
     case round =>
      as_aux_lemma =>
      clear H'
      obtain ⟨x21_5, x22_5, x23_5, x118_5, rfl, HA, HK5, HO_8, HO_9, HO_17, HO_21, HO_22, HO_23, BK119, HB⟩ := hrel
      rcases gk with _ | k5
      ·exact absurd HA.out (by simp [qQg.l3])
      have H := HA.out
      clear HA
      simp only [qQg.l3] at H
      by_cases c55 : x118_5 < (t125.length : Int)
      ·rw [if_pos c55] at H
       have c55b0 : decide (x118_5 < (t125.length : Int)) = true := decide_eq_true c55
       clear c55
       by_cases c56 : 0 ≤ x118_5
       case neg =>
        rw [if_neg c56] at H
        exact absurd H (by simp)
       rw [if_pos c56] at H
       have c56b0 : decide (0 ≤ x118_5) = true := decide_eq_true c56
       clear c56
       by_cases c57 : x118_5 < (t122.length : Int)
       case neg =>
        rw [if_neg c57] at H
        exact absurd H (by simp)
       rw [if_pos c57] at H
       have c57b0 : decide (x118_5 < (t122.length : Int)) = true := decide_eq_true c57
       clear c57
       by_cases c58 : x118_5 < (t125.length : Int)
       case neg =>
        rw [if_neg c58] at H
        exact absurd H (by simp)
       rw [if_pos c58] at H
       have c58b0 : decide (x118_5 < (t125.length : Int)) = true := decide_eq_true c58
       clear c58
       by_cases c59 : x118_5 < (t144.length : Int)
       case neg =>
        rw [if_neg c59] at H
        exact absurd H (by simp)
       rw [if_pos c59] at H
       have c59b0 : decide (x118_5 < (t144.length : Int)) = true := decide_eq_true c59
       clear c59
       obtain ⟨ji60, hji60⟩ : ∃ j_ : Int, (wrap64 ((t125.length : Int) + x118_5)) = j_ := ⟨_, rfl⟩
       replace H : (if 0 ≤ (ji60) then (if (ji60) < (t144.length : Int) then (if 0 ≤ (wrap64 ((wrap64 (2 * (t125.length : Int))) + x118_5)) then (if (wrap64 ((wrap64 (2 * (t125.length : Int))) + x118_5)) < (t144.length : Int) then (if 0 ≤ (rd t122 x118_5) then (if (rd t122 x118_5) < (x21_5.length : Int) then (if 0 ≤ (rd t125 x118_5) then (if (rd t125 x118_5) < (x22_5.length : Int) then (if (rd t125 x118_5) < (x23_5.length : Int) then (qQg.l3 k5 l0 t122 t125 t144 t145 (t125.length : Int) (x21_5.set ((rd t122 x118_5) : Int).toNat (rd t144 x118_5)) (x22_5.set ((rd t125 x118_5) : Int).toNat (rd t144 (ji60))) (x23_5.set ((rd t125 x118_5) : Int).toNat (rd t144 (wrap64 ((wrap64 (2 * (t125.length : Int))) + x118_5)))) (t125.length : Int) (wrap64 (x118_5 + 1)) 0 0 0 0) else (none)) else (none)) else (none)) else (none)) else (none)) else (none)) else (none)) else (none)) else (none)) = some (r1, r2, r3, r4, r5, r6) := by first | (rw [hji60] at H; exact H) | (simp only [hji60] at H ⊢; exact H)
       have hji60w : (IntKind.i64.wrap ((t125.length : Int) + x118_5)) = ji60 := (i64_w _).trans hji60
       by_cases c61 : 0 ≤ (ji60)
       case neg =>
        rw [if_neg c61] at H
        exact absurd H (by simp)
       rw [if_pos c61] at H
       have c61b0 : decide (0 ≤ (ji60)) = true := decide_eq_true c61
       clear c61
       by_cases c62 : (ji60) < (t144.length : Int)
       case neg =>
        rw [if_neg c62] at H
        exact absurd H (by simp)
       rw [if_pos c62] at H
       have c62b0 : decide ((ji60) < (t144.length : Int)) = true := decide_eq_true c62
       clear c62
       obtain ⟨ji63, hji63⟩ : ∃ j_ : Int, (wrap64 ((wrap64 (2 * (t125.length : Int))) + x118_5)) = j_ := ⟨_, rfl⟩
       replace H : (if 0 ≤ (ji63) then (if (ji63) < (t144.length : Int) then (if 0 ≤ (rd t122 x118_5) then (if (rd t122 x118_5) < (x21_5.length : Int) then (if 0 ≤ (rd t125 x118_5) then (if (rd t125 x118_5) < (x22_5.length : Int) then (if (rd t125 x118_5) < (x23_5.length : Int) then (qQg.l3 k5 l0 t122 t125 t144 t145 (t125.length : Int) (x21_5.set ((rd t122 x118_5) : Int).toNat (rd t144 x118_5)) (x22_5.set ((rd t125 x118_5) : Int).toNat (rd t144 (ji60))) (x23_5.set ((rd t125 x118_5) : Int).toNat (rd t144 (ji63))) (t125.length : Int) (wrap64 (x118_5 + 1)) 0 0 0 0) else (none)) else (none)) else (none)) else (none)) else (none)) else (none)) else (none)) = some (r1, r2, r3, r4, r5, r6) := by first | (rw [hji63] at H; exact H) | (simp only [hji63] at H ⊢; exact H)
       have hji63w : (IntKind.i64.wrap ((wrap64 (2 * (t125.length : Int))) + x118_5)) = ji63 := (i64_w _).trans hji63
       by_cases c64 : 0 ≤ (ji63)
       case neg =>
        rw [if_neg c64] at H
        exact absurd H (by simp)
       rw [if_pos c64] at H
       have c64b0 : decide (0 ≤ (ji63)) = true := decide_eq_true c64
       clear c64
       by_cases c65 : (ji63) < (t144.length : Int)
       case neg =>
        rw [if_neg c65] at H
        exact absurd H (by simp)
       rw [if_pos c65] at H
       have c65b0 : decide ((ji63) < (t144.length : Int)) = true := decide_eq_true c65
       clear c65
       by_cases c66 : 0 ≤ (rd t122 x118_5)
       case neg =>
        rw [if_neg c66] at H
        exact absurd H (by simp)
       rw [if_pos c66] at H
       have c66b0 : decide (0 ≤ (rd t122 x118_5)) = true := decide_eq_true c66
       clear c66
       by_cases c67 : (rd t122 x118_5) < (x21_5.length : Int)
       case neg =>
        rw [if_neg c67] at H
        exact absurd H (by simp)
       rw [if_pos c67] at H
       have c67b0 : decide ((rd t122 x118_5) < (x21_5.length : Int)) = true := decide_eq_true c67
       clear c67
       obtain ⟨y164, hy164⟩ : ∃ y_ : List Int, y_ = (x21_5.set ((rd t122 x118_5) : Int).toNat (rd t144 x118_5)) := ⟨_, rfl⟩
       replace H : (if 0 ≤ (rd t125 x118_5) then (if (rd t125 x118_5) < (x22_5.length : Int) then (if (rd t125 x118_5) < (x23_5.length : Int) then (qQg.l3 k5 l0 t122 t125 t144 t145 (t125.length : Int) y164 (x22_5.set ((rd t125 x118_5) : Int).toNat (rd t144 (ji60))) (x23_5.set ((rd t125 x118_5) : Int).toNat (rd t144 (ji63))) (t125.length : Int) (wrap64 (x118_5 + 1)) 0 0 0 0) else (none)) else (none)) else (none)) = some (r1, r2, r3, r4, r5, r6) := by first | (rw [hy164]; with_reducible exact H) | (have H2_ := (Option.bind_some _ _).symm.trans H; rw [hy164]; with_reducible exact H2_) | (have H2_ := (Option.bind_some _ _).symm.trans H; with_reducible exact H2_) | with_reducible exact H | (rw [hy164]; exact H) | exact H
       have Ny164 := am hy164
       clear hy164
       by_cases c69 : 0 ≤ (rd t125 x118_5)
       case neg =>
        rw [if_neg c69] at H
        exact absurd H (by simp)
       rw [if_pos c69] at H
       have c69b0 : decide (0 ≤ (rd t125 x118_5)) = true := decide_eq_true c69
       clear c69
       by_cases c70 : (rd t125 x118_5) < (x22_5.length : Int)
       case neg =>
        rw [if_neg c70] at H
        exact absurd H (by simp)
       rw [if_pos c70] at H
       have c70b0 : decide ((rd t125 x118_5) < (x22_5.length : Int)) = true := decide_eq_true c70
       clear c70
       obtain ⟨y165, hy165⟩ : ∃ y_ : List Int, y_ = (x22_5.set ((rd t125 x118_5) : Int).toNat (rd t144 (ji60))) := ⟨_, rfl⟩
       replace H : (if (rd t125 x118_5) < (x23_5.length : Int) then (qQg.l3 k5 l0 t122 t125 t144 t145 (t125.length : Int) y164 y165 (x23_5.set ((rd t125 x118_5) : Int).toNat (rd t144 (ji63))) (t125.length : Int) (wrap64 (x118_5 + 1)) 0 0 0 0) else (none)) = some (r1, r2, r3, r4, r5, r6) := by first | (rw [hy165]; with_reducible exact H) | (have H2_ := (Option.bind_some _ _).symm.trans H; rw [hy165]; with_reducible exact H2_) | (have H2_ := (Option.bind_some _ _).symm.trans H; with_reducible exact H2_) | with_reducible exact H | (rw [hy165]; exact H) | exact H
       have Ny165 := am hy165
       clear hy165
       by_cases c72 : (rd t125 x118_5) < (x23_5.length : Int)
       case neg =>
        rw [if_neg c72] at H
        exact absurd H (by simp)
       rw [if_pos c72] at H
       have c72b0 : decide ((rd t125 x118_5) < (x23_5.length : Int)) = true := decide_eq_true c72
       clear c72
       obtain ⟨y166, hy166⟩ : ∃ y_ : List Int, y_ = (x23_5.set ((rd t125 x118_5) : Int).toNat (rd t144 (ji63))) := ⟨_, rfl⟩
       replace H : (qQg.l3 k5 l0 t122 t125 t144 t145 (t125.length : Int) y164 y165 y166 (t125.length : Int) (wrap64 (x118_5 + 1)) 0 0 0 0) = some (r1, r2, r3, r4, r5, r6) := by first | (rw [hy166]; with_reducible exact H) | (have H2_ := (Option.bind_some _ _).symm.trans H; rw [hy166]; with_reducible exact H2_) | (have H2_ := (Option.bind_some _ _).symm.trans H; with_reducible exact H2_) | with_reducible exact H | (rw [hy166]; exact H) | exact H
       have Ny166 := am hy166
       clear hy166
       have H' := am H
       clear H
       try go_wp2
       have n0_ := am (Kd.qQt HO_8.out)
       have n1_ := am (Kd.qQt HO_9.out)
       have n2_ := am (Kd.qQt HO_17.out)
       have n3_ := am (Kd.qQt HO_21.out)
       have n4_ := am (Kd.qQt HO_22.out)
       have n5_ := am (Kd.qQt HO_23.out)
       have n6_ := am (qQk BK119.out)
       have n7_ := am (qZg HB.out)
       clear HO_8 HO_9 HO_17 HO_21 HO_22 HO_23 BK119 HB
       have HO_8 := n0_
       have HO_9 := n1_
       have HO_17 := n2_
       have HO_21 := n3_
       have HO_22 := n4_
       have HO_23 := n5_
       have BK119 := n6_
       have HB := n7_
       clear n0_ n1_ n2_ n3_ n4_ n5_ n6_ n7_
       have p158 : 0 ≤ (x118_5 : Int) := yd
       have q158 : x118_5 < (t122.length : Int) := yd
       obtain ⟨ad158, e158, hx158_0⟩ := Kd.qYa (Kd.qQx HO_8.out).2.2 x118_5 p158 q158
       cases e158
       replace p158 := eq_true p158
       replace q158 := eq_true q158
       have p159 : 0 ≤ (x118_5 : Int) := yd
       have q159 : x118_5 < (t125.length : Int) := yd
       obtain ⟨ad159, e159, hx159_0⟩ := Kd.qYa (Kd.qQx HO_9.out).2.2 x118_5 p159 q159
       cases e159
       replace p159 := eq_true p159
       replace q159 := eq_true q159
       have p160 : 0 ≤ (x118_5 : Int) := yd
       have q160 : x118_5 < (t125.length : Int) := yd
       obtain ⟨ad160, e160, hx160_0⟩ := Kd.qYa (Kd.qQx HO_9.out).2.2 x118_5 p160 q160
       obtain rfl : ad159 = ad160 := (by injection e160)
       replace p160 := eq_true p160
       replace q160 := eq_true q160
       obtain ⟨Ao75, co75, eo75⟩ := Kd.qZ8 HO_17.out
       (first | subst eo75 | (injection eo75 with f1_ f2_ f3_; have f4_ := f1_.symm; have f5_ := f3_.symm; clear f1_ f2_ f3_; subst f4_; subst f5_))
       have p161 : 0 ≤ (x118_5 : Int) := yd
       have q161 : x118_5 < (t144.length : Int) := yd
       obtain ⟨ad161, e161, hx161_0⟩ := Kd.qYa (Kd.qQx HO_17.out).2.2 x118_5 p161 q161
       cases e161
       replace p161 := eq_true p161
       replace q161 := eq_true q161
       have p162 : 0 ≤ ((ji60) : Int) := yd
       have q162 : (ji60) < (t144.length : Int) := yd
       obtain ⟨ad162, e162, hx162_0⟩ := Kd.qYa (Kd.qQx HO_17.out).2.2 (ji60) p162 q162
       obtain rfl : ad161 = ad162 := (by injection e162)
       replace p162 := eq_true p162
       replace q162 := eq_true q162
       have p163 : 0 ≤ ((ji63) : Int) := yd
       have q163 : (ji63) < (t144.length : Int) := yd
       obtain ⟨ad163, e163, hx163_0⟩ := Kd.qYa (Kd.qQx HO_17.out).2.2 (ji63) p163 q163
       obtain rfl : ad161 = ad163 := (by injection e163)
       replace p163 := eq_true p163
       replace q163 := eq_true q163
       have p68 : 0 ≤ ((rd t122 x118_5) : Int) := yd
       have q68 : ((rd t122 x118_5) : Int) < ((x21_5.length : Int) : Int) := yd
       obtain ⟨go68, co68, eo68, gb68, gl68, cl68, HG68⟩ := Kd.qWu HO_21.out (by omega)
       (first | cases eo68 | (injection eo68 with ea_ en_ ec_; (first | subst ea_ | (injection ea_ with ea_; subst ea_)); subst ec_; clear en_))
       have GB68 := am gb68
       have GG68 := am HG68
       clear gb68 gl68 HG68
       obtain ⟨hx68_0, hf68_0⟩ := Kd.qKh 0 HO_21.out ((rd t122 x118_5) : Int) p68 q68
       replace p68 := eq_true p68
       replace q68 := eq_true q68
       have HP76 := Kd.qK7 HO_21.out ((rd t122 x118_5) : Int) (rd t144 x118_5)
       rw [← Ny164.out] at HP76
       have HQ76 := am HP76
       clear HP76
       have p71 : 0 ≤ ((rd t125 x118_5) : Int) := yd
       have q71 : ((rd t125 x118_5) : Int) < ((x22_5.length : Int) : Int) := yd
       obtain ⟨go71, co71, eo71, gb71, gl71, cl71, HG71⟩ := Kd.qWu HO_22.out (by omega)
       (first | cases eo71 | (injection eo71 with ea_ en_ ec_; (first | subst ea_ | (injection ea_ with ea_; subst ea_)); subst ec_; clear en_))
       have GB71 := am gb71
       have GG71 := am HG71
       clear gb71 gl71 HG71
       obtain ⟨hx71_0, hf71_0⟩ := Kd.qKh 0 (Kd.R_far (p := ⟨go68, ((rd t122 x118_5) : Int).toNat, none⟩) (Kd.qQv HO_22.out (fun k_ hk => (⟨hk, fun e_ => hk.2.1 (by rw [e_]; rfl)⟩ : _ ∧ k_ ≠ go68))) (fun _ hk => hk.2) (.int .i64 (rd t144 x118_5))) ((rd t125 x118_5) : Int) p71 q71
       replace p71 := eq_true p71
       replace q71 := eq_true q71
       have HP77 := Kd.qK7 (Kd.R_far (p := ⟨go68, ((rd t122 x118_5) : Int).toNat, none⟩) (Kd.qQv HO_22.out (fun k_ hk => (⟨hk, fun e_ => hk.2.1 (by rw [e_]; rfl)⟩ : _ ∧ k_ ≠ go68))) (fun _ hk => hk.2) (.int .i64 (rd t144 x118_5))) ((rd t125 x118_5) : Int) (rd t144 (ji60))
       rw [← Ny165.out] at HP77
       have HQ77 := am HP77
       clear HP77
       have p73 : 0 ≤ ((rd t125 x118_5) : Int) := yd
       have q73 : ((rd t125 x118_5) : Int) < ((x23_5.length : Int) : Int) := yd
       obtain ⟨go73, co73, eo73, gb73, gl73, cl73, HG73⟩ := Kd.qWu HO_23.out (by omega)
       (first | cases eo73 | (injection eo73 with ea_ en_ ec_; (first | subst ea_ | (injection ea_ with ea_; subst ea_)); subst ec_; clear en_))
       have GB73 := am gb73
       have GG73 := am HG73
       clear gb73 gl73 HG73
       obtain ⟨hx73_0, hf73_0⟩ := Kd.qKh 0 (Kd.R_far (p := ⟨go71, ((rd t125 x118_5) : Int).toNat, none⟩) (Kd.R_far (p := ⟨go68, ((rd t122 x118_5) : Int).toNat, none⟩) (Kd.qQv (Kd.qQv HO_23.out (fun k_ hk => (⟨hk, fun e_ => hk.2.1 (by rw [e_]; rfl)⟩ : _ ∧ k_ ≠ go68))) (fun k_ hk => (⟨hk, fun e_ => hk.1.2.2 (by rw [e_]; rfl)⟩ : _ ∧ k_ ≠ go71))) (fun _ hk => hk.1.2) (.int .i64 (rd t144 x118_5))) (fun _ hk => hk.2) (.int .i64 (rd t144 (ji60)))) ((rd t125 x118_5) : Int) p73 q73
       replace p73 := eq_true p73
       replace q73 := eq_true q73
       have HP78 := Kd.qK7 (Kd.R_far (p := ⟨go71, ((rd t125 x118_5) : Int).toNat, none⟩) (Kd.R_far (p := ⟨go68, ((rd t122 x118_5) : Int).toNat, none⟩) (Kd.qQv (Kd.qQv HO_23.out (fun k_ hk => (⟨hk, fun e_ => hk.2.1 (by rw [e_]; rfl)⟩ : _ ∧ k_ ≠ go68))) (fun k_ hk => (⟨hk, fun e_ => hk.1.2.2 (by rw [e_]; rfl)⟩ : _ ∧ k_ ≠ go71))) (fun _ hk => hk.1.2) (.int .i64 (rd t144 x118_5))) (fun _ hk => hk.2) (.int .i64 (rd t144 (ji60)))) ((rd t125 x118_5) : Int) (rd t144 (ji63))
       rw [← Ny166.out] at HP78
       have HQ78 := am HP78
       clear HP78
       as_aux_lemma =>
       refine start_ (n := 38) (S := fun w' => w'.cell? (ad158.add (x118_5).toNat) = some (.int .i64 (rd t122 x118_5)) ∧ w'.cell? (ad159.add (x118_5).toNat) = some (.int .i64 (rd t125 x118_5)) ∧ w'.cell? (ad159.add (x118_5).toNat) = some (.int .i64 (rd t125 x118_5)) ∧ w'.cell? (ad161.add (x118_5).toNat) = some (.int .i64 (rd t144 x118_5)) ∧ w'.cell? (ad161.add ((ji60)).toNat) = some (.int .i64 (rd t144 (ji60))) ∧ w'.cell? (ad161.add ((ji63)).toNat) = some (.int .i64 (rd t144 (ji63)))) (ds := [33, 35, 37]) (qQg.fl 38 0) (by kernel_rfl) rfl rfl ⟨hx158_0, hx159_0, hx160_0, hx161_0, hx162_0, hx163_0⟩ (fun hHeld => ?_); refine qYg qQg.tab30 qQg.bits30 (fun HT_ HW_ => ?_)
       generalize wr.drew = w74 at HO_8 HO_9 HO_17 HO_21 HO_22 HO_23 BK119 HB GG68 GG71 GG73 HQ76 HQ77 HQ78 hf68_0 hf71_0 hf73_0 hx158_0 hx159_0 hx160_0 hx161_0 hx162_0 hx163_0 hx68_0 hx71_0 hx73_0 hHeld ⊢
       refine qQg.y 0 121 38 1 HT_.out ?_
       refine qQg.y 1 122 38 3 HT_.out ?_
       refine qQg.y 2 123 38 7 HT_.out ?_
       refine qQg.y 3 124 38 15 HT_.out ?_
       refine qQg.y 5 126 38 47 HT_.out ?_
       refine qQg.y 6 127 38 111 HT_.out ?_
       refine qQg.y 7 128 38 239 HT_.out ?_
       refine qQg.y 8 129 38 495 HT_.out ?_
       refine qQg.y 10 131 38 1519 HT_.out ?_
       refine qQg.y 11 132 38 3567 HT_.out ?_
       refine qQg.y 12 133 38 7663 HT_.out ?_
       refine qQg.y 13 134 38 15855 HT_.out ?_
       refine qQg.y 15 136 38 48623 HT_.out ?_
       refine qQg.y 16 137 38 114159 HT_.out ?_
       refine qQg.y 17 138 38 245231 HT_.out ?_
       refine qQg.y 19 140 38 769519 HT_.out ?_
       refine qQg.y 20 141 38 1818095 HT_.out ?_
       refine qQg.y 21 142 38 3915247 HT_.out ?_
       refine qQg.y 22 143 38 8109551 HT_.out ?_
       refine qQg.y 23 144 38 16498159 HT_.out ?_
       refine qQg.y 25 146 38 50052591 HT_.out ?_
       refine qQg.y 26 147 38 117161455 HT_.out ?_
       refine qQg.y 27 148 38 251379183 HT_.out ?_
       refine qQg.y 28 149 38 519814639 HT_.out ?_
       refine qQg.y 29 150 38 1056685551 HT_.out ?_
       refine qQg.y 30 151 38 2130427375 HT_.out ?_
       refine qQg.t 4 125 38 2130427391 HT_.out HW_.out hHeld ?_
       refine qQg.t 9 130 38 2130427903 HT_.out HW_.out hHeld ?_
       refine qQg.t 14 135 38 2130444287 HT_.out HW_.out hHeld ?_
       refine qQg.t 18 139 38 2130706431 HT_.out HW_.out hHeld ?_
       refine qQg.t 24 145 38 2147483647 HT_.out HW_.out hHeld ?_
       refine qQg.t 31 152 38 4294967295 HT_.out HW_.out hHeld ?_
       refine qQg.y 32 153 38 8589934591 HT_.out ?_
       refine last_ (i := 33) (N := none) (qQg.fl 38 17179869183) rfl rfl (qZ3 HT_.out (by kernel_rfl)) (by decide) (fun K hK => ?_)
       refine skip_ (w1 := ?_) (by rfl) rfl ?_ ?_
       rotate_left
       ·go_simp
        rfl
       refine hK.out _ _ ?_
       clear hK K
       refine qQg.y 34 154 38 34359738367 HT_.out ?_
       refine last_ (i := 35) (N := none) (qQg.fl 38 68719476735) rfl rfl (qZ3 HT_.out (by kernel_rfl)) (by decide) (fun K hK => ?_)
       refine skip_ (w1 := ?_) (by rfl) rfl ?_ ?_
       rotate_left
       ·go_simp
        rfl
       refine hK.out _ _ ?_
       clear hK K
       refine qQg.y 36 155 38 137438953471 HT_.out ?_
       refine last_ (i := 37) (N := none) (qQg.fl 38 274877906943) rfl rfl (qZ3 HT_.out (by kernel_rfl)) (by decide) (fun K hK => ?_)
       refine skip_ (w1 := ?_) (by rfl) rfl ?_ ?_
       rotate_left
       ·go_simp
        rfl
       refine hK.out _ _ ?_
       clear hK K
       refine done_ (qYw HT_.out (by kernel_rfl)) ?_
       try go_wp2
       go_roundg k5
       case measure => have := HJ3.out; have := HK2.out; have := HK3.out; have := HK4.out; have := HK5.out; omega
       case rel => exact ⟨(y164), (y165), (y166), (wrap64 (x118_5 + 1)), (by first | rfl | (simp; done) | (simp [*]; done)), H', ⟨by have := HJ3.out; have := HK2.out; have := HK3.out; have := HK4.out; have := HK5.out; omega⟩, ⟨by (with_reducible repeat (first | apply Kd.qQs | apply Kd.qQq | apply Kd.qQt)); exact Kd.qQv (Kd.R_far (p := ⟨go73, ((rd t125 x118_5) : Int).toNat, none⟩) (Kd.R_far (p := ⟨go71, ((rd t125 x118_5) : Int).toNat, none⟩) (Kd.R_far (p := ⟨go68, ((rd t122 x118_5) : Int).toNat, none⟩) (Kd.qZc (Kd.qZc (Kd.qZc HO_8.out GG68.out (by decide)) GG71.out (by decide)) GG73.out (by decide)) (fun _ hk => hk.1.1.2) (.int .i64 (rd t144 x118_5))) (fun _ hk => hk.1.2) (.int .i64 (rd t144 (ji60)))) (fun _ hk => hk.2) (.int .i64 (rd t144 (ji63)))) (fun _ hk => hk.1.1.1)⟩, ⟨by (with_reducible repeat (first | apply Kd.qQs | apply Kd.qQq | apply Kd.qQt)); exact Kd.qQv (Kd.R_far (p := ⟨go73, ((rd t125 x118_5) : Int).toNat, none⟩) (Kd.R_far (p := ⟨go71, ((rd t125 x118_5) : Int).toNat, none⟩) (Kd.R_far (p := ⟨go68, ((rd t122 x118_5) : Int).toNat, none⟩) (Kd.qZc (Kd.qZc (Kd.qZc HO_9.out GG68.out (by decide)) GG71.out (by decide)) GG73.out (by decide)) (fun _ hk => hk.1.1.2) (.int .i64 (rd t144 x118_5))) (fun _ hk => hk.1.2) (.int .i64 (rd t144 (ji60)))) (fun _ hk => hk.2) (.int .i64 (rd t144 (ji63)))) (fun _ hk => hk.1.1.1)⟩, ⟨by (with_reducible repeat (first | apply Kd.qQs | apply Kd.qQq | apply Kd.qQt)); exact Kd.qQv (Kd.R_far (p := ⟨go73, ((rd t125 x118_5) : Int).toNat, none⟩) (Kd.R_far (p := ⟨go71, ((rd t125 x118_5) : Int).toNat, none⟩) (Kd.R_far (p := ⟨go68, ((rd t122 x118_5) : Int).toNat, none⟩) (Kd.qQv (Kd.qQv (Kd.qQv HO_17.out (fun k_ hk => (⟨hk, fun e_ => hk.1 (by rw [e_]; rfl)⟩ : _ ∧ k_ ≠ go68))) (fun k_ hk => (⟨hk, fun e_ => hk.1.2.1 (by rw [e_]; rfl)⟩ : _ ∧ k_ ≠ go71))) (fun k_ hk => (⟨hk, fun e_ => hk.1.1.2.2 (by rw [e_]; rfl)⟩ : _ ∧ k_ ≠ go73))) (fun _ hk => hk.1.1.2) (.int .i64 (rd t144 x118_5))) (fun _ hk => hk.1.2) (.int .i64 (rd t144 (ji60)))) (fun _ hk => hk.2) (.int .i64 (rd t144 (ji63)))) (fun _ hk => ⟨hk.1.1.1.1, ⟨hk.1.1.1.2.1, hk.1.1.1.2.2⟩⟩)⟩, ⟨by (with_reducible repeat (first | apply Kd.qQs | apply Kd.qQq | apply Kd.qQt)); exact Kd.qQv (Kd.R_far (p := ⟨go73, ((rd t125 x118_5) : Int).toNat, none⟩) (Kd.R_far (p := ⟨go71, ((rd t125 x118_5) : Int).toNat, none⟩) (Kd.qQv (Kd.qQv HQ76.out (fun k_ hk => (⟨hk, fun e_ => hk.2.1 (by rw [e_]; rfl)⟩ : _ ∧ k_ ≠ go71))) (fun k_ hk => (⟨hk, fun e_ => hk.1.2.2 (by rw [e_]; rfl)⟩ : _ ∧ k_ ≠ go73))) (fun _ hk => hk.1.2) (.int .i64 (rd t144 (ji60)))) (fun _ hk => hk.2) (.int .i64 (rd t144 (ji63)))) (fun _ hk => ⟨hk.1.1.1, ⟨hk.1.1.2.1, hk.1.1.2.2⟩⟩)⟩, ⟨by (with_reducible repeat (first | apply Kd.qQs | apply Kd.qQq | apply Kd.qQt)); exact Kd.qQv (Kd.R_far (p := ⟨go73, ((rd t125 x118_5) : Int).toNat, none⟩) (Kd.qQv HQ77.out (fun k_ hk => (⟨hk, fun e_ => hk.1.2.2 (by rw [e_]; rfl)⟩ : _ ∧ k_ ≠ go73))) (fun _ hk => hk.2) (.int .i64 (rd t144 (ji63)))) (fun _ hk => ⟨hk.1.1.1, ⟨hk.1.1.2.1, hk.1.1.2.2⟩⟩)⟩, ⟨by (with_reducible repeat (first | apply Kd.qQs | apply Kd.qQq | apply Kd.qQt)); exact Kd.qQv HQ78.out (fun _ hk => ⟨hk.1.1.1, ⟨hk.1.1.2.1, hk.1.1.2.2⟩⟩)⟩, ⟨by (with_reducible repeat (first | refine qQm ?_ _ | refine qQk ?_ | refine qQo ?_ _)); refine qZi ?_ (by have h_ := Kd.R_ne HO_23.out BK119.out (by decide); intro e_; exact h_ (by rw [e_]; rfl)) _; (with_reducible repeat (first | refine qQm ?_ _ | refine qQk ?_ | refine qQo ?_ _)); refine qZi ?_ (by have h_ := Kd.R_ne HO_22.out BK119.out (by decide); intro e_; exact h_ (by rw [e_]; rfl)) _; (with_reducible repeat (first | refine qQm ?_ _ | refine qQk ?_ | refine qQo ?_ _)); refine qZi ?_ (by have h_ := Kd.R_ne HO_21.out BK119.out (by decide); intro e_; exact h_ (by rw [e_]; rfl)) _; (with_reducible repeat (first | refine qQm ?_ _ | refine qQk ?_ | refine qQo ?_ _)); exact BK119.out⟩, ⟨by exact h4q HB.out GB68.out GB71.out GB73.out GE119.out⟩⟩
      rw [if_neg c55] at H
      have c55b0 : decide (x118_5 < (t125.length : Int)) = false := decide_eq_false c55
      clear c55
      replace H := Option.bind_eq_some_iff.mp H
      obtain ⟨t167, A790, H⟩ := H
      replace H : (qQg.l4 k5 l0 t167 x21_5 x22_5 x23_5 t125 (t125.length : Int) 0 0 0 0 t145) = some (r1, r2, r3, r4, r5, r6) := H
      have A79 := am A790
      clear A790
      have H' := am H
      clear H
      go_wp2_with (first | ((with_reducible refine qQ4 (f := 27) rfl ?_); refine goesL_ (some 158) rfl rfl Try.func27 (by kernel_rfl) rfl #[.slice A0 l0.length c0] rfl ml ?_; (with_reducible refine (qYs.calls k5 _ _ l0 t167 _ ?side1 ?side2 A79.out).mono ?_); (case side1 => exact cq ((Kd.qZw HR0.out HB.out))); (case side2 => exact HC0.out); rintro e w80 ⟨v168, rfl, ho0, hb⟩; refine ⟨_, rfl, ?_⟩; have n0_ := am (Kd.qQw (by exact Rq HO_8.out) hb); have n1_ := am (Kd.qQw (by exact Rq HO_9.out) hb); have n2_ := am (Kd.qQw (by exact Rq HO_17.out) hb); have n3_ := am (Kd.qQw (by exact Rq HO_21.out) hb); have n4_ := am (Kd.qQw (by exact Rq HO_22.out) hb); have n5_ := am (Kd.qQw (by exact Rq HO_23.out) hb); have n6_ := am (Kd.qZe ho0 (qQh (by exact hq HB.out GE119.out))); have n7_ := am (qQu (g := gb119) (Up.up BK119.out) hb); have n8_ := am (qQn (by exact hq HB.out GE119.out) hb); clear HO_8; clear HO_9; clear HO_17; clear HO_21; clear HO_22; clear HO_23; clear BK119; clear HB; have HO_8 := n0_; have HO_9 := n1_; have HO_17 := n2_; have HO_21 := n3_; have HO_22 := n4_; have HO_23 := n5_; have HO169 := n6_; have BK119 := n7_; have HB := n8_; clear n0_ n1_ n2_ n3_ n4_ n5_ n6_ n7_ n8_; (try clear hb); (try clear hb2); (try clear hk); (try clear hi); (try clear ho0); have hcz81_0 : w80.cell? ⟨gb119, 0, none⟩ = some (.int .i64 0) := (qQa BK119.out 0).trans rfl; have hcz81_1 : w80.cell? ⟨gb119, 1, none⟩ = some (.int .i64 0) := (qQa BK119.out 1).trans rfl; have hcz81_2 : w80.cell? ⟨gb119, 2, none⟩ = some (.int .i64 0) := (qQa BK119.out 2).trans rfl; have hcz81_3 : w80.cell? ⟨gb119, 3, none⟩ = some (.int .i64 0) := (qQa BK119.out 3).trans rfl; have hfz81_0 := qQi BK119.out 0; have hfz81_1 := qQi BK119.out 1; have hfz81_2 := qQi BK119.out 2; have hfz81_3 := qQi BK119.out 3))
      go_loopg [4, 163] k5 (fun kq v4 v163 w' => ∃ (x4_6 : List (S43)) (x163_6 : Int) (x120000_6 : Int) (x120001_6 : Int) (x120002_6 : Int) (x120003_6 : Int), v163 = .int .i64 x163_6 ∧ Aside0 (qQg.l4 kq l0 x4_6 x21_5 x22_5 x23_5 t125 (t125.length : Int) x163_6 x120000_6 x120001_6 x120002_6 x120003_6 = some (r1, r2, r3, r4, r5, r6)) ∧ Aside0 (kq ≤ k5) ∧ Aside0 (Kd.R k43 43 w' w.heap.size (fun _ => True) v4 x4_6) ∧ Aside0 (Kd.R (Kd.int .i64) 2 w' w.heap.size (fun k_ => some k_ ≠ (v153 : Value).ownBlock ∧ some k_ ≠ (v156 : Value).ownBlock) v150 x21_5) ∧ Aside0 (Kd.R (Kd.int .i64) 2 w' w.heap.size (fun k_ => some k_ ≠ (v150 : Value).ownBlock ∧ some k_ ≠ (v156 : Value).ownBlock) v153 x22_5) ∧ Aside0 (Kd.R (Kd.int .i64) 2 w' w.heap.size (fun k_ => some k_ ≠ (v150 : Value).ownBlock ∧ some k_ ≠ (v153 : Value).ownBlock) v156 x23_5) ∧ Aside0 (Kd.R (Kd.int .i64) 3 w' w.heap.size (fun _ => True) (.slice Ao25 t125.length co25) t125) ∧ Aside0 (w'.heap[gb119]? = some (.cells #[.int .i64 x120000_6, .int .i64 x120001_6, .int .i64 x120002_6, .int .i64 x120003_6] 26 (0, 0))) ∧ Aside0 (Below w.heap.size w w'))
      case atStart => exact ⟨(t167), (0), (0), (0), (0), (t145), (by first | rfl | (simp; done) | (simp [*]; done)), H', ⟨Nat.le_refl _⟩, ⟨by (with_reducible repeat (first | apply Kd.qQs | apply Kd.qQq | apply Kd.qQt)); exact Kd.qQv (Kd.R_far (p := ⟨gb119, 3, none⟩) (Kd.qZc HO169.out BK119.out (by decide)) (fun _ hk => hk.2) (.int .i64 t145)) (fun _ hk => trivial)⟩, ⟨by (with_reducible repeat (first | apply Kd.qQs | apply Kd.qQq | apply Kd.qQt)); exact Kd.qQv (Kd.R_far (p := ⟨gb119, 3, none⟩) (Kd.qZc HO_21.out BK119.out (by decide)) (fun _ hk => hk.2) (.int .i64 t145)) (fun _ hk => ⟨hk.1.2.1, hk.1.2.2⟩)⟩, ⟨by (with_reducible repeat (first | apply Kd.qQs | apply Kd.qQq | apply Kd.qQt)); exact Kd.qQv (Kd.R_far (p := ⟨gb119, 3, none⟩) (Kd.qZc HO_22.out BK119.out (by decide)) (fun _ hk => hk.2) (.int .i64 t145)) (fun _ hk => ⟨hk.1.2.1, hk.1.2.2⟩)⟩, ⟨by (with_reducible repeat (first | apply Kd.qQs | apply Kd.qQq | apply Kd.qQt)); exact Kd.qQv (Kd.R_far (p := ⟨gb119, 3, none⟩) (Kd.qZc HO_23.out BK119.out (by decide)) (fun _ hk => hk.2) (.int .i64 t145)) (fun _ hk => ⟨hk.1.2.1, hk.1.2.2⟩)⟩, ⟨by (with_reducible repeat (first | apply Kd.qQs | apply Kd.qQq | apply Kd.qQt)); exact Kd.qQv (Kd.R_far (p := ⟨gb119, 3, none⟩) (Kd.qZc HO_9.out BK119.out (by decide)) (fun _ hk => hk.2) (.int .i64 t145)) (fun _ hk => trivial)⟩, ⟨by (with_reducible repeat (first | refine qQm ?_ _ | refine qQk ?_ | refine qQo ?_ _)); refine qQ1 (cs := #[.int .i64 0, .int .i64 0, .int .i64 0, .int .i64 0]) ?_ 3 _ rfl; (with_reducible repeat (first | refine qQm ?_ _ | refine qQk ?_ | refine qQo ?_ _)); exact BK119.out⟩, ⟨by exact hq HB.out GE119.out⟩⟩
      case round =>
       as_aux_lemma =>
       clear H'
       try clear c7
       try clear c27
       try clear c55
       try clear c55b0
       try clear c56
       try clear c56b0
       try clear c57
       try clear c57b0
       try clear c58
       try clear c58b0
       try clear c59
       try clear c59b0
       try clear c61
       try clear c61b0
       try clear c62
       try clear c62b0
       try clear c64
       try clear c64b0
       try clear c65
       try clear c65b0
       try clear c66
       try clear c66b0
       try clear c67
       try clear c67b0
       try clear p68 q68
       try clear c69
       try clear c69b0
       try clear c70
       try clear c70b0
       try clear p71 q71
       try clear c72
       try clear c72b0
       try clear p73 q73
       try clear hcz81_0
       try clear hcz81_1
       try clear hcz81_2
       try clear hcz81_3
       try clear hfz81_0
       try clear hfz81_1
       try clear hfz81_2
       try clear hfz81_3
       try clear hx158_0
       try clear hx159_0
       try clear hx160_0
       try clear hx161_0
       try clear hx162_0
       try clear hx163_0
       try clear hx68_0
       try clear hx71_0
       try clear hx73_0
       try clear p158
       try clear p159
       try clear p160
       try clear p161
       try clear p162
       try clear p163
       try clear p68
       try clear p71
       try clear p73
       try clear q158
       try clear q159
       try clear q160
       try clear q161
       try clear q162
       try clear q163
       try clear q68
       try clear q71
       try clear q73
       obtain ⟨x4_6, x163_6, x120000_6, x120001_6, x120002_6, x120003_6, rfl, HA, HK6, HO_4, HO_21, HO_22, HO_23, HO_161, BK119, HB⟩ := hrel
       rcases gk with _ | k6
       ·exact absurd HA.out (by simp [qQg.l4])
       have H := HA.out
       clear HA
       simp only [qQg.l4] at H
       by_cases c82 : x163_6 < (t125.length : Int)
       case neg =>
        rw [if_neg c82] at H
        have c82b0 : decide (x163_6 < (t125.length : Int)) = false := decide_eq_false c82
        clear c82
        simp only [Option.some.injEq, Prod.mk.injEq] at H
        obtain ⟨rfl, rfl, rfl, rfl, rfl, rfl⟩ := H
        try go_wp2
        have n0_ := am (Kd.qQt HO_4.out)
        have n1_ := am (Kd.qQt HO_21.out)
        have n2_ := am (Kd.qQt HO_22.out)
        have n3_ := am (Kd.qQt HO_23.out)
        have n4_ := am (Kd.qQt HO_161.out)
        have n5_ := am (qQk BK119.out)
        have n6_ := am (qZg HB.out)
        clear HO_4 HO_21 HO_22 HO_23 HO_161 BK119 HB
        have HO_4 := n0_
        have HO_21 := n1_
        have HO_22 := n2_
        have HO_23 := n3_
        have HO_161 := n4_
        have BK119 := n5_
        have HB := n6_
        clear n0_ n1_ n2_ n3_ n4_ n5_ n6_
        as_aux_lemma =>
        refine start_ (n := 5) (S := fun w' => w'.cell? ⟨gb119, 0, none⟩ = some (.int .i64 x120000_6) ∧ w'.cell? ⟨gb119, 1, none⟩ = some (.int .i64 x120001_6) ∧ w'.cell? ⟨gb119, 2, none⟩ = some (.int .i64 x120002_6) ∧ w'.cell? ⟨gb119, 3, none⟩ = some (.int .i64 x120003_6)) (ds := [3]) (qQg.fl 5 0) (by kernel_rfl) rfl rfl ⟨(qQa BK119.out 0).trans rfl, (qQa BK119.out 1).trans rfl, (qQa BK119.out 2).trans rfl, (qQa BK119.out 3).trans rfl⟩ (fun hHeld => ?_)
        generalize wr.drew = w117 at HO_4 HO_21 HO_22 HO_23 HO_161 BK119 HB hHeld ⊢
        refine pure_ (i := 0) (N := some 219) (v := ?_) (a' := ?_) (qQg.fl 5 1) rfl rfl (by kernel_rfl) (fun _ _ _ h => h) (Or.inl ⟨by rfl, ?_⟩) ?_ ?_
        rotate_left
        ·intro w'
         go_simp
         with_reducible rfl
        rotate_left
        ·exact pu
        refine pure_ (i := 2) (N := some 4) (v := ?_) (a' := ?_) (qQg.fl 5 5) rfl rfl (by kernel_rfl) (fun _ _ _ h => h) (Or.inl ⟨by rfl, ?_⟩) ?_ ?_
        rotate_left
        ·intro w'
         go_simp
         with_reducible rfl
        rotate_left
        ·exact pu
        refine take_ (i := 1) (N := some 220) (v := ?_) (a' := ?_) (qQg.fl 5 7) rfl rfl (by kernel_rfl) (fun _ _ _ h => h) (Or.inl ⟨by rfl, ?_⟩) hHeld ?_ ?_
        rotate_left
        ·rintro w' ⟨s0, s1, s2, s3⟩
         go_simp
         with_reducible rfl
        rotate_left
        ·exact pu
        refine last_ (i := 3) (N := none) (qQg.fl 5 15) rfl rfl (by kernel_rfl) (by decide) (fun K hK => ?_)
        have hs118 : w117.cell? ⟨gb119, 0, none⟩ = some (.int .i64 x120000_6) := (qQa BK119.out 0).trans rfl
        have hfs118 := qQi BK119.out 0
        have hs119 : w117.cell? ⟨gb119, 1, none⟩ = some (.int .i64 x120001_6) := (qQa BK119.out 1).trans rfl
        have hfs119 := qQi BK119.out 1
        have hs120 : w117.cell? ⟨gb119, 2, none⟩ = some (.int .i64 x120002_6) := (qQa BK119.out 2).trans rfl
        have hfs120 := qQi BK119.out 2
        have hs121 : w117.cell? ⟨gb119, 3, none⟩ = some (.int .i64 x120003_6) := (qQa BK119.out 3).trans rfl
        have hfs121 := qQi BK119.out 3
        refine skip_ (w1 := ?_) (by rfl) rfl ?_ ?_
        rotate_left
        ·go_simp
         rfl
        refine hK.out _ _ ?_
        clear hK K
        refine pure_ (i := 4) (N := some 6) (v := ?_) (a' := ?_) (qQg.fl 5 31) rfl rfl (by kernel_rfl) (fun _ _ _ h => h) (Or.inl ⟨by rfl, ?_⟩) ?_ ?_
        rotate_left
        ·intro w'
         go_simp
         with_reducible rfl
        rotate_left
        ·exact pu
        refine done_ (by kernel_rfl) ?_
        try go_wp2
        refine bodyPost_ret (qXg (rs := [.tmp 4, .cell 5 26, .tmp 6]) rfl (by simp) (.tmp (.cell gb119 26 #[.int .i64 x120000_6, .int .i64 x120001_6, .int .i64 x120002_6, .int .i64 x120003_6] (0, 0) _ rfl (by (with_reducible repeat (first | refine qQm ?_ _ | refine qQk ?_ | refine qQo ?_ _)); refine qQ1 (cs := #[.int .i64 x120000_6, .int .i64 x120001_6, .int .i64 x120002_6, .int .i64 x120003_6]) ?_ 3 _ rfl; (with_reducible repeat (first | refine qQm ?_ _ | refine qQk ?_ | refine qQo ?_ _)); refine qQ1 (cs := #[.int .i64 x120000_6, .int .i64 x120001_6, .int .i64 x120002_6, .int .i64 x120003_6]) ?_ 2 _ rfl; (with_reducible repeat (first | refine qQm ?_ _ | refine qQk ?_ | refine qQo ?_ _)); refine qQ1 (cs := #[.int .i64 x120000_6, .int .i64 x120001_6, .int .i64 x120002_6, .int .i64 x120003_6]) ?_ 1 _ rfl; (with_reducible repeat (first | refine qQm ?_ _ | refine qQk ?_ | refine qQo ?_ _)); refine qQ1 (cs := #[.int .i64 x120000_6, .int .i64 x120001_6, .int .i64 x120002_6, .int .i64 x120003_6]) ?_ 0 _ rfl; (with_reducible repeat (first | refine qQm ?_ _ | refine qQk ?_ | refine qQo ?_ _)); exact BK119.out) Try.underlying26 rfl (by kernel_rfl) (.tmp .nil)))) rfl ?_
        exact ⟨_, er, by (with_reducible repeat (first | apply Kd.qQs | apply Kd.qQq | apply Kd.qQt)); exact Kd.qQv (Kd.R_far (p := ⟨gb119, 3, none⟩) (Kd.R_far (p := ⟨gb119, 2, none⟩) (Kd.R_far (p := ⟨gb119, 1, none⟩) (Kd.R_far (p := ⟨gb119, 0, none⟩) (Kd.qZc HO_4.out BK119.out (by decide)) (fun _ hk => hk.2) (.int .i64 x120000_6)) (fun _ hk => hk.2) (.int .i64 x120001_6)) (fun _ hk => hk.2) (.int .i64 x120002_6)) (fun _ hk => hk.2) (.int .i64 x120003_6)) (fun _ hk => trivial), by exact hq HB.out GE119.out⟩
       rw [if_pos c82] at H
       have c82b0 : decide (x163_6 < (t125.length : Int)) = true := decide_eq_true c82
       clear c82
       by_cases c83 : 0 ≤ x163_6
       case neg =>
        rw [if_neg c83] at H
        exact absurd H (by simp)
       rw [if_pos c83] at H
       have c83b0 : decide (0 ≤ x163_6) = true := decide_eq_true c83
       clear c83
       by_cases c84 : x163_6 < (t125.length : Int)
       case neg =>
        rw [if_neg c84] at H
        exact absurd H (by simp)
       rw [if_pos c84] at H
       have c84b0 : decide (x163_6 < (t125.length : Int)) = true := decide_eq_true c84
       clear c84
       by_cases c85 : 0 ≤ (rd t125 x163_6)
       case neg =>
        rw [if_neg c85] at H
        exact absurd H (by simp)
       rw [if_pos c85] at H
       have c85b0 : decide (0 ≤ (rd t125 x163_6)) = true := decide_eq_true c85
       clear c85
       by_cases c86 : (rd t125 x163_6) < (l0.length : Int)
       case neg =>
        rw [if_neg c86] at H
        exact absurd H (by simp)
       rw [if_pos c86] at H
       have c86b0 : decide ((rd t125 x163_6) < (l0.length : Int)) = true := decide_eq_true c86
       clear c86
       by_cases c87 : (rd t125 x163_6) < (x21_5.length : Int)
       case neg =>
        rw [if_neg c87] at H
        exact absurd H (by simp)
       rw [if_pos c87] at H
       have c87b0 : decide ((rd t125 x163_6) < (x21_5.length : Int)) = true := decide_eq_true c87
       clear c87
       by_cases c88 : (rd t125 x163_6) < (x22_5.length : Int)
       case neg =>
        rw [if_neg c88] at H
        exact absurd H (by simp)
       rw [if_pos c88] at H
       have c88b0 : decide ((rd t125 x163_6) < (x22_5.length : Int)) = true := decide_eq_true c88
       clear c88
       by_cases c89 : (rd t125 x163_6) < (x23_5.length : Int)
       case neg =>
        rw [if_neg c89] at H
        exact absurd H (by simp)
       rw [if_pos c89] at H
       have c89b0 : decide ((rd t125 x163_6) < (x23_5.length : Int)) = true := decide_eq_true c89
       clear c89
       replace H := Option.bind_eq_some_iff.mp H
       obtain ⟨⟨t175, t176, t177, t178, t179, t180, t181, t182, t183, t184, t185, t186, t187, t188⟩, A900, H⟩ := H
       replace H : (if (rd t125 x163_6) < (x4_6.length : Int) then (if t188 = 0 then (qQg.l4 k6 l0 (x4_6.set ((rd t125 x163_6) : Int).toNat (⟨t175, t176, t177, t178, t179, t180, t181, t182, t183, t184, t185, t186, t187⟩ : S43)) x21_5 x22_5 x23_5 t125 (t125.length : Int) (wrap64 (x163_6 + 1)) (wrap64 (x120000_6 + (rd x21_5 (rd t125 x163_6)))) (wrap64 (x120001_6 + (rd x22_5 (rd t125 x163_6)))) (wrap64 (x120002_6 + (rd x23_5 (rd t125 x163_6)))) x120003_6) else (some (([] : List (S43)), 0, 0, 0, 0, t188))) else (none)) = some (r1, r2, r3, r4, r5, r6) := H
       have A90 := am A900
       clear A900
       by_cases c91 : (rd t125 x163_6) < (x4_6.length : Int)
       case neg =>
        rw [if_neg c91] at H
        exact absurd H (by simp)
       rw [if_pos c91] at H
       have c91b0 : decide ((rd t125 x163_6) < (x4_6.length : Int)) = true := decide_eq_true c91
       clear c91
       obtain ⟨y189, hy189⟩ : ∃ y_ : List (S43), y_ = (x4_6.set ((rd t125 x163_6) : Int).toNat (⟨t175, t176, t177, t178, t179, t180, t181, t182, t183, t184, t185, t186, t187⟩ : S43)) := ⟨_, rfl⟩
       replace H : (if t188 = 0 then (qQg.l4 k6 l0 y189 x21_5 x22_5 x23_5 t125 (t125.length : Int) (wrap64 (x163_6 + 1)) (wrap64 (x120000_6 + (rd x21_5 (rd t125 x163_6)))) (wrap64 (x120001_6 + (rd x22_5 (rd t125 x163_6)))) (wrap64 (x120002_6 + (rd x23_5 (rd t125 x163_6)))) x120003_6) else (some (([] : List (S43)), 0, 0, 0, 0, t188))) = some (r1, r2, r3, r4, r5, r6) := by first | (rw [hy189]; with_reducible exact H) | (have H2_ := (Option.bind_some _ _).symm.trans H; rw [hy189]; with_reducible exact H2_) | (have H2_ := (Option.bind_some _ _).symm.trans H; with_reducible exact H2_) | with_reducible exact H | (rw [hy189]; exact H) | exact H
       have Ny189 := am hy189
       clear hy189
       by_cases c93 : t188 = 0
       case neg =>
        rw [if_neg c93] at H
        have c93b0 : (t188 == 0) = false := beq_eq_false_iff_ne.mpr c93
        have c93b1 : (t188 != 0) = true := bne_iff_ne.mpr c93
        simp only [Option.some.injEq, Prod.mk.injEq] at H
        obtain ⟨rfl, rfl, rfl, rfl, rfl, rfl⟩ := H
        have p170 : 0 ≤ (x163_6 : Int) := yd
        have q170 : x163_6 < (t125.length : Int) := yd
        obtain ⟨ad170, e170, hx170_0⟩ := Kd.qYa (Kd.qQx HO_161.out).2.2 x163_6 p170 q170
        cases e170
        replace p170 := eq_true p170
        replace q170 := eq_true q170
        try go_wp2
        have n0_ := am (Kd.qQt HO_4.out)
        have n1_ := am (Kd.qQt HO_21.out)
        have n2_ := am (Kd.qQt HO_22.out)
        have n3_ := am (Kd.qQt HO_23.out)
        have n4_ := am (Kd.qQt HO_161.out)
        have n5_ := am (qQk BK119.out)
        have n6_ := am (qZg HB.out)
        clear HO_4 HO_21 HO_22 HO_23 HO_161 BK119 HB
        have HO_4 := n0_
        have HO_21 := n1_
        have HO_22 := n2_
        have HO_23 := n3_
        have HO_161 := n4_
        have BK119 := n5_
        have HB := n6_
        clear n0_ n1_ n2_ n3_ n4_ n5_ n6_
        have p171 : 0 ≤ ((rd t125 x163_6) : Int) := yd
        have q171 : (rd t125 x163_6) < (l0.length : Int) := yd
        obtain ⟨ad171, e171, hx171_0, hx171_1, hx171_2, hx171_3, hx171_4, hx171_5, hx171_6, hx171_7, hx171_8, hx171_9, hx171_10, hx171_11, hx171_12⟩ := qYl HR0.out (rd t125 x163_6) p171 q171
        have hw171_12 := hx171_12
        have hw171_11 := hx171_11
        have hw171_10 := hx171_10
        have hw171_9 := hx171_9
        have hw171_8 := hx171_8
        have hw171_7 := hx171_7
        have hw171_6 := hx171_6
        have hw171_5 := hx171_5
        have hw171_4 := hx171_4
        have hw171_3 := hx171_3
        have hw171_2 := hx171_2
        have hw171_1 := hx171_1
        have hw171_0 := hx171_0
        cases e171
        replace hx171_0 := hxb HB.out hx171_0
        replace hx171_1 := hxb HB.out hx171_1
        replace hx171_2 := hxb HB.out hx171_2
        replace hx171_3 := hxb HB.out hx171_3
        replace hx171_4 := hxb HB.out hx171_4
        replace hx171_5 := hxb HB.out hx171_5
        replace hx171_6 := hxb HB.out hx171_6
        replace hx171_7 := hxb HB.out hx171_7
        replace hx171_8 := hxb HB.out hx171_8
        replace hx171_9 := hxb HB.out hx171_9
        replace hx171_10 := hxb HB.out hx171_10
        replace hx171_11 := hxb HB.out hx171_11
        replace hx171_12 := hxb HB.out hx171_12
        replace p171 := eq_true p171
        replace q171 := eq_true q171
        obtain ⟨Ao110, co110, eo110⟩ := Kd.qZ8 HO_21.out
        (first | subst eo110 | (injection eo110 with f1_ f2_ f3_; have f4_ := f1_.symm; have f5_ := f3_.symm; clear f1_ f2_ f3_; subst f4_; subst f5_))
        have p172 : 0 ≤ ((rd t125 x163_6) : Int) := yd
        have q172 : (rd t125 x163_6) < (x21_5.length : Int) := yd
        obtain ⟨ad172, e172, hx172_0⟩ := Kd.qYa (Kd.qQx HO_21.out).2.2 (rd t125 x163_6) p172 q172
        cases e172
        replace p172 := eq_true p172
        replace q172 := eq_true q172
        obtain ⟨Ao111, co111, eo111⟩ := Kd.qZ8 HO_22.out
        (first | subst eo111 | (injection eo111 with f1_ f2_ f3_; have f4_ := f1_.symm; have f5_ := f3_.symm; clear f1_ f2_ f3_; subst f4_; subst f5_))
        have p173 : 0 ≤ ((rd t125 x163_6) : Int) := yd
        have q173 : (rd t125 x163_6) < (x22_5.length : Int) := yd
        obtain ⟨ad173, e173, hx173_0⟩ := Kd.qYa (Kd.qQx HO_22.out).2.2 (rd t125 x163_6) p173 q173
        cases e173
        replace p173 := eq_true p173
        replace q173 := eq_true q173
        obtain ⟨Ao112, co112, eo112⟩ := Kd.qZ8 HO_23.out
        (first | subst eo112 | (injection eo112 with f1_ f2_ f3_; have f4_ := f1_.symm; have f5_ := f3_.symm; clear f1_ f2_ f3_; subst f4_; subst f5_))
        have p174 : 0 ≤ ((rd t125 x163_6) : Int) := yd
        have q174 : (rd t125 x163_6) < (x23_5.length : Int) := yd
        obtain ⟨ad174, e174, hx174_0⟩ := Kd.qYa (Kd.qQx HO_23.out).2.2 (rd t125 x163_6) p174 q174
        cases e174
        replace p174 := eq_true p174
        replace q174 := eq_true q174
        as_aux_lemma =>
        refine start_ (n := 25) (S := fun w' => w'.cell? (ad171.add (((rd t125 x163_6)).toNat * 13)) = some (.int .i64 ((qQc l0 (rd t125 x163_6)).f0)) ∧ w'.cell? ⟨(ad171.add (((rd t125 x163_6)).toNat * 13)).block, (ad171.add (((rd t125 x163_6)).toNat * 13)).off + 1, none⟩ = some (.int .i64 ((qQc l0 (rd t125 x163_6)).f1)) ∧ w'.cell? ⟨(ad171.add (((rd t125 x163_6)).toNat * 13)).block, (ad171.add (((rd t125 x163_6)).toNat * 13)).off + 2, none⟩ = some (.int .i64 ((qQc l0 (rd t125 x163_6)).f2)) ∧ w'.cell? ⟨(ad171.add (((rd t125 x163_6)).toNat * 13)).block, (ad171.add (((rd t125 x163_6)).toNat * 13)).off + 3, none⟩ = some (.int .i64 ((qQc l0 (rd t125 x163_6)).f3)) ∧ w'.cell? ⟨(ad171.add (((rd t125 x163_6)).toNat * 13)).block, (ad171.add (((rd t125 x163_6)).toNat * 13)).off + 4, none⟩ = some (.int .i64 ((qQc l0 (rd t125 x163_6)).f4)) ∧ w'.cell? ⟨(ad171.add (((rd t125 x163_6)).toNat * 13)).block, (ad171.add (((rd t125 x163_6)).toNat * 13)).off + 5, none⟩ = some (.int .i64 ((qQc l0 (rd t125 x163_6)).f5)) ∧ w'.cell? ⟨(ad171.add (((rd t125 x163_6)).toNat * 13)).block, (ad171.add (((rd t125 x163_6)).toNat * 13)).off + 6, none⟩ = some (.bool ((qQc l0 (rd t125 x163_6)).f6)) ∧ w'.cell? ⟨(ad171.add (((rd t125 x163_6)).toNat * 13)).block, (ad171.add (((rd t125 x163_6)).toNat * 13)).off + 7, none⟩ = some (.int .i64 ((qQc l0 (rd t125 x163_6)).f7)) ∧ w'.cell? ⟨(ad171.add (((rd t125 x163_6)).toNat * 13)).block, (ad171.add (((rd t125 x163_6)).toNat * 13)).off + 8, none⟩ = some (.int .i64 ((qQc l0 (rd t125 x163_6)).f8)) ∧ w'.cell? ⟨(ad171.add (((rd t125 x163_6)).toNat * 13)).block, (ad171.add (((rd t125 x163_6)).toNat * 13)).off + 9, none⟩ = some (.int .i64 ((qQc l0 (rd t125 x163_6)).f9)) ∧ w'.cell? ⟨(ad171.add (((rd t125 x163_6)).toNat * 13)).block, (ad171.add (((rd t125 x163_6)).toNat * 13)).off + 10, none⟩ = some (.int .i64 ((qQc l0 (rd t125 x163_6)).f10)) ∧ w'.cell? ⟨(ad171.add (((rd t125 x163_6)).toNat * 13)).block, (ad171.add (((rd t125 x163_6)).toNat * 13)).off + 11, none⟩ = some (.int .i64 ((qQc l0 (rd t125 x163_6)).f11)) ∧ w'.cell? ⟨(ad171.add (((rd t125 x163_6)).toNat * 13)).block, (ad171.add (((rd t125 x163_6)).toNat * 13)).off + 12, none⟩ = some (.int .i64 ((qQc l0 (rd t125 x163_6)).f12)) ∧ w'.cell? (ad172.add ((rd t125 x163_6)).toNat) = some (.int .i64 (rd x21_5 (rd t125 x163_6))) ∧ w'.cell? (ad173.add ((rd t125 x163_6)).toNat) = some (.int .i64 (rd x22_5 (rd t125 x163_6))) ∧ w'.cell? (ad174.add ((rd t125 x163_6)).toNat) = some (.int .i64 (rd x23_5 (rd t125 x163_6)))) (ds := [23]) (qQg.fl 25 0) (by kernel_rfl) rfl rfl ⟨(hxb HB.out hw171_0), (hxb HB.out hw171_1), (hxb HB.out hw171_2), (hxb HB.out hw171_3), (hxb HB.out hw171_4), (hxb HB.out hw171_5), (hxb HB.out hw171_6), (hxb HB.out hw171_7), (hxb HB.out hw171_8), (hxb HB.out hw171_9), (hxb HB.out hw171_10), (hxb HB.out hw171_11), (hxb HB.out hw171_12), hx172_0, hx173_0, hx174_0⟩ (fun hHeld => ?_); refine qYg qQg.tab37 qQg.bits37 (fun HT_ HW_ => ?_)
        generalize wr.drew = w109 at HO_4 HO_21 HO_22 HO_23 HO_161 BK119 HB hx171_0 hx171_1 hx171_10 hx171_11 hx171_12 hx171_2 hx171_3 hx171_4 hx171_5 hx171_6 hx171_7 hx171_8 hx171_9 hx172_0 hx173_0 hx174_0 hHeld ⊢
        refine qQg.y 0 168 25 1 HT_.out ?_
        refine qQg.y 1 169 25 3 HT_.out ?_
        refine qQg.y 2 170 25 7 HT_.out ?_
        refine qQg.y 3 171 25 15 HT_.out ?_
        refine qQg.y 4 172 25 31 HT_.out ?_
        refine qQg.y 6 174 25 95 HT_.out ?_
        refine qQg.y 7 175 25 223 HT_.out ?_
        refine qQg.y 8 176 25 479 HT_.out ?_
        refine qQg.y 10 178 25 1503 HT_.out ?_
        refine qQg.y 11 179 25 3551 HT_.out ?_
        refine qQg.y 12 180 25 7647 HT_.out ?_
        refine qQg.y 14 182 25 24031 HT_.out ?_
        refine qQg.y 15 183 25 56799 HT_.out ?_
        refine qQg.y 16 184 25 122335 HT_.out ?_
        refine qQg.t 5 173 25 122367 HT_.out HW_.out hHeld ?_
        refine qQg.t 9 177 25 122879 HT_.out HW_.out hHeld ?_
        refine qQg.t 13 181 25 131071 HT_.out HW_.out hHeld ?_
        refine qQg.t 17 185 25 262143 HT_.out HW_.out hHeld ?_
        refine one_ (i := 18) (N := some 186) (qQg.fl 25 524287) rfl rfl (qZ3 HT_.out (by kernel_rfl)) (by decide) (fun K hK => ?_)
        refine goes_ Try.func28 (by kernel_rfl) rfl #[.agg #[.int .i64 ((qQc l0 (rd t125 x163_6)).f0), .int .i64 ((qQc l0 (rd t125 x163_6)).f1), .int .i64 ((qQc l0 (rd t125 x163_6)).f2), .int .i64 ((qQc l0 (rd t125 x163_6)).f3), .int .i64 ((qQc l0 (rd t125 x163_6)).f4), .int .i64 ((qQc l0 (rd t125 x163_6)).f5), .bool ((qQc l0 (rd t125 x163_6)).f6), .int .i64 ((qQc l0 (rd t125 x163_6)).f7), .int .i64 ((qQc l0 (rd t125 x163_6)).f8), .int .i64 ((qQc l0 (rd t125 x163_6)).f9), .int .i64 ((qQc l0 (rd t125 x163_6)).f10), .int .i64 ((qQc l0 (rd t125 x163_6)).f11), .int .i64 ((qQc l0 (rd t125 x163_6)).f12)], .int .i64 (rd x21_5 (rd t125 x163_6)), .int .i64 (rd x22_5 (rd t125 x163_6)), .int .i64 (rd x23_5 (rd t125 x163_6))] (by rfl) rfl rfl ml ?_
        with_reducible refine (qZr.calls k6 ((qQc l0 (rd t125 x163_6)).f0) ((qQc l0 (rd t125 x163_6)).f1) ((qQc l0 (rd t125 x163_6)).f2) ((qQc l0 (rd t125 x163_6)).f3) ((qQc l0 (rd t125 x163_6)).f4) ((qQc l0 (rd t125 x163_6)).f5) ((qQc l0 (rd t125 x163_6)).f6) ((qQc l0 (rd t125 x163_6)).f7) ((qQc l0 (rd t125 x163_6)).f8) ((qQc l0 (rd t125 x163_6)).f9) ((qQc l0 (rd t125 x163_6)).f10) ((qQc l0 (rd t125 x163_6)).f11) ((qQc l0 (rd t125 x163_6)).f12) (rd x21_5 (rd t125 x163_6)) (rd x22_5 (rd t125 x163_6)) (rd x23_5 (rd t125 x163_6)) t175 t176 t177 t178 t179 t180 t181 t182 t183 t184 t185 t186 t187 t188 _ A90.out).mono ?_
        rintro e w113 ⟨rfl, hb⟩
        have HS13_ := hxb hb (hHeld.2.2.2.2.2.2.2.2.2.2.2.2.2.1)
        have HS14_ := hxb hb (hHeld.2.2.2.2.2.2.2.2.2.2.2.2.2.2.1)
        have HS15_ := hxb hb (hHeld.2.2.2.2.2.2.2.2.2.2.2.2.2.2.2)
        refine ⟨_, rfl, ?_⟩
        have n0_ := am (Kd.qQw (by exact Rq HO_4.out) hb)
        have n1_ := am (Kd.qQw (by exact Rq HO_21.out) hb)
        have n2_ := am (Kd.qQw (by exact Rq HO_22.out) hb)
        have n3_ := am (Kd.qQw (by exact Rq HO_23.out) hb)
        have n4_ := am (Kd.qQw (by exact Rq HO_161.out) hb)
        have n5_ := am (qQu (g := gb119) (Up.up BK119.out) hb)
        have n6_ := am (qQn (by exact hq HB.out GE119.out) hb)
        clear HO_4 HO_21 HO_22 HO_23 HO_161 BK119 HB
        have HO_4 := n0_
        have HO_21 := n1_
        have HO_22 := n2_
        have HO_23 := n3_
        have HO_161 := n4_
        have BK119 := n5_
        have HB := n6_
        clear n0_ n1_ n2_ n3_ n4_ n5_ n6_
        (try clear hb)
        (try clear hb2)
        (try clear hk)
        (try clear hi)
        have p92 : 0 ≤ ((rd t125 x163_6) : Int) := yd
        have q92 : ((rd t125 x163_6) : Int) < ((x4_6.length : Int) : Int) := yd
        obtain ⟨go92, co92, eo92, gb92, gl92, cl92, HG92⟩ := Kd.qWu HO_4.out (by omega)
        (first | cases eo92 | (injection eo92 with ea_ en_ ec_; (first | subst ea_ | (injection ea_ with ea_; subst ea_)); subst ec_; clear en_))
        have GB92 := am gb92
        have GG92 := am HG92
        clear gb92 gl92 HG92
        obtain ⟨ce92, hcl92, hM92, hcc92, hfr92⟩ := Kd.qXy HO_4.out z43 ((rd t125 x163_6) : Int) p92 q92
        obtain rfl := qWh hM92
        have hx92_0 : World.cell? _ ⟨go92, ((rd t125 x163_6) : Int).toNat * 13, none⟩ = some (.int .i64 ((qQc x4_6 (rd t125 x163_6)).f0)) := hcc92 0 _ rfl
        have hx92_1 : World.cell? _ ⟨go92, ((rd t125 x163_6) : Int).toNat * 13 + 1, none⟩ = some (.int .i64 ((qQc x4_6 (rd t125 x163_6)).f1)) := hcc92 1 _ rfl
        have hx92_2 : World.cell? _ ⟨go92, ((rd t125 x163_6) : Int).toNat * 13 + 2, none⟩ = some (.int .i64 ((qQc x4_6 (rd t125 x163_6)).f2)) := hcc92 2 _ rfl
        have hx92_3 : World.cell? _ ⟨go92, ((rd t125 x163_6) : Int).toNat * 13 + 3, none⟩ = some (.int .i64 ((qQc x4_6 (rd t125 x163_6)).f3)) := hcc92 3 _ rfl
        have hx92_4 : World.cell? _ ⟨go92, ((rd t125 x163_6) : Int).toNat * 13 + 4, none⟩ = some (.int .i64 ((qQc x4_6 (rd t125 x163_6)).f4)) := hcc92 4 _ rfl
        have hx92_5 : World.cell? _ ⟨go92, ((rd t125 x163_6) : Int).toNat * 13 + 5, none⟩ = some (.int .i64 ((qQc x4_6 (rd t125 x163_6)).f5)) := hcc92 5 _ rfl
        have hx92_6 : World.cell? _ ⟨go92, ((rd t125 x163_6) : Int).toNat * 13 + 6, none⟩ = some (.bool ((qQc x4_6 (rd t125 x163_6)).f6)) := hcc92 6 _ rfl
        have hx92_7 : World.cell? _ ⟨go92, ((rd t125 x163_6) : Int).toNat * 13 + 7, none⟩ = some (.int .i64 ((qQc x4_6 (rd t125 x163_6)).f7)) := hcc92 7 _ rfl
        have hx92_8 : World.cell? _ ⟨go92, ((rd t125 x163_6) : Int).toNat * 13 + 8, none⟩ = some (.int .i64 ((qQc x4_6 (rd t125 x163_6)).f8)) := hcc92 8 _ rfl
        have hx92_9 : World.cell? _ ⟨go92, ((rd t125 x163_6) : Int).toNat * 13 + 9, none⟩ = some (.int .i64 ((qQc x4_6 (rd t125 x163_6)).f9)) := hcc92 9 _ rfl
        have hx92_10 : World.cell? _ ⟨go92, ((rd t125 x163_6) : Int).toNat * 13 + 10, none⟩ = some (.int .i64 ((qQc x4_6 (rd t125 x163_6)).f10)) := hcc92 10 _ rfl
        have hx92_11 : World.cell? _ ⟨go92, ((rd t125 x163_6) : Int).toNat * 13 + 11, none⟩ = some (.int .i64 ((qQc x4_6 (rd t125 x163_6)).f11)) := hcc92 11 _ rfl
        have hx92_12 : World.cell? _ ⟨go92, ((rd t125 x163_6) : Int).toNat * 13 + 12, none⟩ = some (.int .i64 ((qQc x4_6 (rd t125 x163_6)).f12)) := hcc92 12 _ rfl
        have hf92_0 : World.frozen? _ ⟨go92, ((rd t125 x163_6) : Int).toNat * 13, none⟩ = false := hfr92 0
        have hf92_1 : World.frozen? _ ⟨go92, ((rd t125 x163_6) : Int).toNat * 13 + 1, none⟩ = false := hfr92 1
        have hf92_2 : World.frozen? _ ⟨go92, ((rd t125 x163_6) : Int).toNat * 13 + 2, none⟩ = false := hfr92 2
        have hf92_3 : World.frozen? _ ⟨go92, ((rd t125 x163_6) : Int).toNat * 13 + 3, none⟩ = false := hfr92 3
        have hf92_4 : World.frozen? _ ⟨go92, ((rd t125 x163_6) : Int).toNat * 13 + 4, none⟩ = false := hfr92 4
        have hf92_5 : World.frozen? _ ⟨go92, ((rd t125 x163_6) : Int).toNat * 13 + 5, none⟩ = false := hfr92 5
        have hf92_6 : World.frozen? _ ⟨go92, ((rd t125 x163_6) : Int).toNat * 13 + 6, none⟩ = false := hfr92 6
        have hf92_7 : World.frozen? _ ⟨go92, ((rd t125 x163_6) : Int).toNat * 13 + 7, none⟩ = false := hfr92 7
        have hf92_8 : World.frozen? _ ⟨go92, ((rd t125 x163_6) : Int).toNat * 13 + 8, none⟩ = false := hfr92 8
        have hf92_9 : World.frozen? _ ⟨go92, ((rd t125 x163_6) : Int).toNat * 13 + 9, none⟩ = false := hfr92 9
        have hf92_10 : World.frozen? _ ⟨go92, ((rd t125 x163_6) : Int).toNat * 13 + 10, none⟩ = false := hfr92 10
        have hf92_11 : World.frozen? _ ⟨go92, ((rd t125 x163_6) : Int).toNat * 13 + 11, none⟩ = false := hfr92 11
        have hf92_12 : World.frozen? _ ⟨go92, ((rd t125 x163_6) : Int).toNat * 13 + 12, none⟩ = false := hfr92 12
        clear hcl92 hcc92 hfr92 hM92
        replace p92 := eq_true p92
        replace q92 := eq_true q92
        obtain ⟨ce114, hcl114, hM114, hcc114, hfr114⟩ := Kd.qXy HO_4.out z43 ((rd t125 x163_6) : Int) (yd) (by have h_ : ((rd t125 x163_6) : Int) < ((x4_6.length : Int) : Int) := yd; first | exact h_ | (have e_ := (Kd.qQx HO_4.out).1; omega) | simpa using h_)
        obtain rfl := qWh hM114
        have HP114 := (Kd.R_seg HO_4.out ((rd t125 x163_6) : Int) (yd) (by have h_ : ((rd t125 x163_6) : Int) < ((x4_6.length : Int) : Int) := yd; first | exact h_ | (have e_ := (Kd.qQx HO_4.out).1; omega) | simpa using h_) (seg := [.int .i64 t175, .int .i64 t176, .int .i64 t177, .int .i64 t178, .int .i64 t179, .int .i64 t180, .bool t181, .int .i64 t182, .int .i64 t183, .int .i64 t184, .int .i64 t185, .int .i64 t186, .int .i64 t187]) (j := 0) hcl114 hcc114 (show 13 ≤ 13 from by decide) (x' := (⟨t175, t176, t177, t178, t179, t180, t181, t182, t183, t184, t185, t186, t187⟩ : S43)) (qWp _ _ _ (⟨t175, t176, t177, t178, t179, t180, t181, t182, t183, t184, t185, t186, t187⟩ : S43) ) (fun _ hk => hk)).1
        rw [← Ny189.out] at HP114
        have HQ114 := am HP114
        clear hcl114 hcc114 hfr114 hM114 HP114
        refine hK.out _ _ ⟨(hxb HB.out hw171_0), (hxb HB.out hw171_1), (hxb HB.out hw171_2), (hxb HB.out hw171_3), (hxb HB.out hw171_4), (hxb HB.out hw171_5), (hxb HB.out hw171_6), (hxb HB.out hw171_7), (hxb HB.out hw171_8), (hxb HB.out hw171_9), (hxb HB.out hw171_10), (hxb HB.out hw171_11), (hxb HB.out hw171_12), HS13_, HS14_, HS15_⟩ (fun hHeld => ?_)
        clear hK K
        refine norm_ (a' := ?_) ?_ ?_
        rotate_left
        ·show Act.put _ (some 186) _ = _
         exact pu
        refine qQg.y 19 167 25 1048575 HT_.out ?_
        refine qQg.y 20 187 25 2097151 HT_.out ?_
        refine qQg.y 21 188 25 4194303 HT_.out ?_
        refine qQg.y 22 189 25 8388607 HT_.out ?_
        refine last_ (i := 23) (N := none) (qQg.fl 25 16777215) rfl rfl (qZ3 HT_.out (by kernel_rfl)) (by decide) (fun K hK => ?_)
        refine skip_ (w1 := ((((((((((((w113.setCell ⟨go92, ((rd t125 x163_6) : Int).toNat * 13, none⟩ (.int .i64 t175)).setCell ⟨go92, ((rd t125 x163_6) : Int).toNat * 13 + 1, none⟩ (.int .i64 t176)).setCell ⟨go92, ((rd t125 x163_6) : Int).toNat * 13 + 2, none⟩ (.int .i64 t177)).setCell ⟨go92, ((rd t125 x163_6) : Int).toNat * 13 + 3, none⟩ (.int .i64 t178)).setCell ⟨go92, ((rd t125 x163_6) : Int).toNat * 13 + 4, none⟩ (.int .i64 t179)).setCell ⟨go92, ((rd t125 x163_6) : Int).toNat * 13 + 5, none⟩ (.int .i64 t180)).setCell ⟨go92, ((rd t125 x163_6) : Int).toNat * 13 + 6, none⟩ (.bool t181)).setCell ⟨go92, ((rd t125 x163_6) : Int).toNat * 13 + 7, none⟩ (.int .i64 t182)).setCell ⟨go92, ((rd t125 x163_6) : Int).toNat * 13 + 8, none⟩ (.int .i64 t183)).setCell ⟨go92, ((rd t125 x163_6) : Int).toNat * 13 + 9, none⟩ (.int .i64 t184)).setCell ⟨go92, ((rd t125 x163_6) : Int).toNat * 13 + 10, none⟩ (.int .i64 t185)).setCell ⟨go92, ((rd t125 x163_6) : Int).toNat * 13 + 11, none⟩ (.int .i64 t186)).setCell ⟨go92, ((rd t125 x163_6) : Int).toNat * 13 + 12, none⟩ (.int .i64 t187)) (by rfl) rfl (st13 (w := w113) (g := go92) (o := ((rd t125 x163_6) : Int).toNat * 13) (a0 := t175) (a1 := t176) (a2 := t177) (a3 := t178) (a4 := t179) (a5 := t180) (a6 := t181) (a7 := t182) (a8 := t183) (a9 := t184) (a10 := t185) (a11 := t186) (a12 := t187) (p := .tmp 189) (v := .tmp 187) rfl rfl rfl hx92_0 hx92_1 hx92_2 hx92_3 hx92_4 hx92_5 hx92_6 hx92_7 hx92_8 hx92_9 hx92_10 hx92_11 hx92_12 hf92_0 hf92_1 hf92_2 hf92_3 hf92_4 hf92_5 hf92_6 hf92_7 hf92_8 hf92_9 hf92_10 hf92_11 hf92_12) ?_
        refine hK.out _ _ ?_
        clear hK K
        refine qQg.y 24 19 25 33554431 HT_.out ?_
        refine done_ (qYw HT_.out (by kernel_rfl)) ?_
        try simp only [show ∀ (w_ : World) (n_ : Nat) (p_ : Addr) (v_ : Value), (w_.drewN n_).setCell p_ v_ = (w_.setCell p_ v_).drewN n_ from fun _ _ _ _ => rfl]
        generalize hW_ : (((((((((((((w113.setCell ⟨go92, ((rd t125 x163_6) : Int).toNat * 13, none⟩ (.int .i64 t175)).setCell ⟨go92, ((rd t125 x163_6) : Int).toNat * 13 + 1, none⟩ (.int .i64 t176)).setCell ⟨go92, ((rd t125 x163_6) : Int).toNat * 13 + 2, none⟩ (.int .i64 t177)).setCell ⟨go92, ((rd t125 x163_6) : Int).toNat * 13 + 3, none⟩ (.int .i64 t178)).setCell ⟨go92, ((rd t125 x163_6) : Int).toNat * 13 + 4, none⟩ (.int .i64 t179)).setCell ⟨go92, ((rd t125 x163_6) : Int).toNat * 13 + 5, none⟩ (.int .i64 t180)).setCell ⟨go92, ((rd t125 x163_6) : Int).toNat * 13 + 6, none⟩ (.bool t181)).setCell ⟨go92, ((rd t125 x163_6) : Int).toNat * 13 + 7, none⟩ (.int .i64 t182)).setCell ⟨go92, ((rd t125 x163_6) : Int).toNat * 13 + 8, none⟩ (.int .i64 t183)).setCell ⟨go92, ((rd t125 x163_6) : Int).toNat * 13 + 9, none⟩ (.int .i64 t184)).setCell ⟨go92, ((rd t125 x163_6) : Int).toNat * 13 + 10, none⟩ (.int .i64 t185)).setCell ⟨go92, ((rd t125 x163_6) : Int).toNat * 13 + 11, none⟩ (.int .i64 t186)).setCell ⟨go92, ((rd t125 x163_6) : Int).toNat * 13 + 12, none⟩ (.int .i64 t187)) = w115
        have n0_ : Aside0 (Kd.R k43 43 w115 w.heap.size (fun _ => True) (.slice (some ⟨go92, 0, none⟩) x4_6.length co92) y189) := ⟨by rw [← hW_]; (with_reducible repeat (first | apply Kd.qQs | apply Kd.qQq | apply Kd.qQt)); exact HQ114.out⟩
        have n1_ : Aside0 (Kd.R (Kd.int .i64) 2 w115 w.heap.size (fun k_ => some k_ ≠ (.slice (some ad173) x22_5.length co111 : Value).ownBlock ∧ some k_ ≠ (.slice (some ad174) x23_5.length co112 : Value).ownBlock) (.slice (some ad172) x21_5.length co110) x21_5) := ⟨by rw [← hW_]; (with_reducible repeat (first | apply Kd.qQs | apply Kd.qQq | apply Kd.qQt)); exact Kd.qQv (qXz (Kd.qZc HO_21.out GG92.out (by decide)) (fun _ hk => hk.2)) (fun _ hk => ⟨hk.1.1, hk.1.2⟩)⟩
        have n2_ : Aside0 (Kd.R (Kd.int .i64) 2 w115 w.heap.size (fun k_ => some k_ ≠ (.slice (some ad172) x21_5.length co110 : Value).ownBlock ∧ some k_ ≠ (.slice (some ad174) x23_5.length co112 : Value).ownBlock) (.slice (some ad173) x22_5.length co111) x22_5) := ⟨by rw [← hW_]; (with_reducible repeat (first | apply Kd.qQs | apply Kd.qQq | apply Kd.qQt)); exact Kd.qQv (qXz (Kd.qZc HO_22.out GG92.out (by decide)) (fun _ hk => hk.2)) (fun _ hk => ⟨hk.1.1, hk.1.2⟩)⟩
        have n3_ : Aside0 (Kd.R (Kd.int .i64) 2 w115 w.heap.size (fun k_ => some k_ ≠ (.slice (some ad172) x21_5.length co110 : Value).ownBlock ∧ some k_ ≠ (.slice (some ad173) x22_5.length co111 : Value).ownBlock) (.slice (some ad174) x23_5.length co112) x23_5) := ⟨by rw [← hW_]; (with_reducible repeat (first | apply Kd.qQs | apply Kd.qQq | apply Kd.qQt)); exact Kd.qQv (qXz (Kd.qZc HO_23.out GG92.out (by decide)) (fun _ hk => hk.2)) (fun _ hk => ⟨hk.1.1, hk.1.2⟩)⟩
        have n4_ : Aside0 (Kd.R (Kd.int .i64) 3 w115 w.heap.size (fun _ => True) (.slice (some ad170) t125.length co25) t125) := ⟨by rw [← hW_]; (with_reducible repeat (first | apply Kd.qQs | apply Kd.qQq | apply Kd.qQt)); exact Kd.qQv (qXz (Kd.qZc HO_161.out GG92.out (by decide)) (fun _ hk => hk.2)) (fun _ hk => trivial)⟩
        have n5_ : Aside0 (w115.heap[gb119]? = some (.cells #[.int .i64 x120000_6, .int .i64 x120001_6, .int .i64 x120002_6, .int .i64 x120003_6] 26 (0, 0))) := ⟨by rw [← hW_]; exact qV6 BK119.out (by have h_ := Kd.R_ne HO_4.out BK119.out (by decide); intro e_; exact h_ (by rw [e_]; rfl))⟩
        have n6_ : Aside0 (Below w.heap.size w w115) := ⟨by rw [← hW_]; repeat (first | (with_reducible first | exact HB.out | apply qZ0 | apply qZh | apply qZg | refine qZv ?_ GB92.out | refine qZv ?_ GE119.out) | exact HB.out)⟩
        (try clear HO_4)
        (try clear HO_21)
        (try clear HO_22)
        (try clear HO_23)
        (try clear HO_161)
        (try clear BK119)
        (try clear HB)
        clear hW_
        have HO_4 := n0_
        have HO_21 := n1_
        have HO_22 := n2_
        have HO_23 := n3_
        have HO_161 := n4_
        have BK119 := n5_
        have HB := n6_
        clear n0_ n1_ n2_ n3_ n4_ n5_ n6_
        have hcz116_0 : w115.cell? ⟨gb119, 0, none⟩ = some (.int .i64 x120000_6) := (qQa BK119.out 0).trans rfl
        have hcz116_1 : w115.cell? ⟨gb119, 1, none⟩ = some (.int .i64 x120001_6) := (qQa BK119.out 1).trans rfl
        have hcz116_2 : w115.cell? ⟨gb119, 2, none⟩ = some (.int .i64 x120002_6) := (qQa BK119.out 2).trans rfl
        have hcz116_3 : w115.cell? ⟨gb119, 3, none⟩ = some (.int .i64 x120003_6) := (qQa BK119.out 3).trans rfl
        have hfz116_0 := qQi BK119.out 0
        have hfz116_1 := qQi BK119.out 1
        have hfz116_2 := qQi BK119.out 2
        have hfz116_3 := qQi BK119.out 3
        iterate 26 (first | go_values | go_skip | go_guarded | go_step | go_upon | go_back)
        refine qKu (w' := ((((w115.setCell ⟨gb119, 0, none⟩ (.int .i64 0)).setCell ⟨gb119, 1, none⟩ (.int .i64 0)).setCell ⟨gb119, 2, none⟩ (.int .i64 0)).setCell ⟨gb119, 3, none⟩ (.int .i64 0))) rfl (st4b (w := w115) (g := gb119) (a0 := 0) (a1 := 0) (a2 := 0) (a3 := 0) (p := .tmp 5) (v := .tmp 192) rfl rfl rfl BK119.out rfl) ?_
        try go_wp2
        refine bodyPost_ret (qXg (rs := [.tmp 4, .cell 5 26, .tmp 6]) rfl (by simp) (.tmp (.cell gb119 26 #[.int .i64 0, .int .i64 0, .int .i64 0, .int .i64 0] (0, 0) _ rfl (by (with_reducible repeat (first | refine qQm ?_ _ | refine qQk ?_ | refine qQo ?_ _)); refine qQ1 (cs := #[.int .i64 0, .int .i64 0, .int .i64 0, .int .i64 x120003_6]) ?_ 3 _ rfl; (with_reducible repeat (first | refine qQm ?_ _ | refine qQk ?_ | refine qQo ?_ _)); refine qQ1 (cs := #[.int .i64 0, .int .i64 0, .int .i64 x120002_6, .int .i64 x120003_6]) ?_ 2 _ rfl; (with_reducible repeat (first | refine qQm ?_ _ | refine qQk ?_ | refine qQo ?_ _)); refine qQ1 (cs := #[.int .i64 0, .int .i64 x120001_6, .int .i64 x120002_6, .int .i64 x120003_6]) ?_ 1 _ rfl; (with_reducible repeat (first | refine qQm ?_ _ | refine qQk ?_ | refine qQo ?_ _)); refine qQ1 (cs := #[.int .i64 x120000_6, .int .i64 x120001_6, .int .i64 x120002_6, .int .i64 x120003_6]) ?_ 0 _ rfl; (with_reducible repeat (first | refine qQm ?_ _ | refine qQk ?_ | refine qQo ?_ _)); exact BK119.out) Try.underlying26 rfl (by kernel_rfl) (.tmp .nil)))) rfl ?_
        exact ⟨_, er, by first | exact Kd.R_nil _ _ _ _ _ | exact Kd.N_nil _ _ _ _ _ | exact Kd.V_nil _ _ _ _ _ | exact Kd.Q_nil _ _ _ _ _ | exact Kd.S_nil _ _ _ _ _, by exact hq HB.out GE119.out⟩
       rw [if_pos c93] at H
       have c93b0 : (t188 == 0) = true := beq_iff_eq.mpr c93
       have c93b1 : (t188 != 0) = false := bne_eq_false_iff_eq.mpr c93
       clear c93
       have H' := am H
       clear H
       have p170 : 0 ≤ (x163_6 : Int) := yd
       have q170 : x163_6 < (t125.length : Int) := yd
       obtain ⟨ad170, e170, hx170_0⟩ := Kd.qYa (Kd.qQx HO_161.out).2.2 x163_6 p170 q170
       cases e170
       replace p170 := eq_true p170
       replace q170 := eq_true q170
       try go_wp2
       have n0_ := am (Kd.qQt HO_4.out)
       have n1_ := am (Kd.qQt HO_21.out)
       have n2_ := am (Kd.qQt HO_22.out)
       have n3_ := am (Kd.qQt HO_23.out)
       have n4_ := am (Kd.qQt HO_161.out)
       have n5_ := am (qQk BK119.out)
       have n6_ := am (qZg HB.out)
       clear HO_4 HO_21 HO_22 HO_23 HO_161 BK119 HB
       have HO_4 := n0_
       have HO_21 := n1_
       have HO_22 := n2_
       have HO_23 := n3_
       have HO_161 := n4_
       have BK119 := n5_
       have HB := n6_
       clear n0_ n1_ n2_ n3_ n4_ n5_ n6_
       have p171 : 0 ≤ ((rd t125 x163_6) : Int) := yd
       have q171 : (rd t125 x163_6) < (l0.length : Int) := yd
       obtain ⟨ad171, e171, hx171_0, hx171_1, hx171_2, hx171_3, hx171_4, hx171_5, hx171_6, hx171_7, hx171_8, hx171_9, hx171_10, hx171_11, hx171_12⟩ := qYl HR0.out (rd t125 x163_6) p171 q171
       have hw171_12 := hx171_12
       have hw171_11 := hx171_11
       have hw171_10 := hx171_10
       have hw171_9 := hx171_9
       have hw171_8 := hx171_8
       have hw171_7 := hx171_7
       have hw171_6 := hx171_6
       have hw171_5 := hx171_5
       have hw171_4 := hx171_4
       have hw171_3 := hx171_3
       have hw171_2 := hx171_2
       have hw171_1 := hx171_1
       have hw171_0 := hx171_0
       cases e171
       replace hx171_0 := hxb HB.out hx171_0
       replace hx171_1 := hxb HB.out hx171_1
       replace hx171_2 := hxb HB.out hx171_2
       replace hx171_3 := hxb HB.out hx171_3
       replace hx171_4 := hxb HB.out hx171_4
       replace hx171_5 := hxb HB.out hx171_5
       replace hx171_6 := hxb HB.out hx171_6
       replace hx171_7 := hxb HB.out hx171_7
       replace hx171_8 := hxb HB.out hx171_8
       replace hx171_9 := hxb HB.out hx171_9
       replace hx171_10 := hxb HB.out hx171_10
       replace hx171_11 := hxb HB.out hx171_11
       replace hx171_12 := hxb HB.out hx171_12
       replace p171 := eq_true p171
       replace q171 := eq_true q171
       obtain ⟨Ao95, co95, eo95⟩ := Kd.qZ8 HO_21.out
       (first | subst eo95 | (injection eo95 with f1_ f2_ f3_; have f4_ := f1_.symm; have f5_ := f3_.symm; clear f1_ f2_ f3_; subst f4_; subst f5_))
       have p172 : 0 ≤ ((rd t125 x163_6) : Int) := yd
       have q172 : (rd t125 x163_6) < (x21_5.length : Int) := yd
       obtain ⟨ad172, e172, hx172_0⟩ := Kd.qYa (Kd.qQx HO_21.out).2.2 (rd t125 x163_6) p172 q172
       cases e172
       replace p172 := eq_true p172
       replace q172 := eq_true q172
       obtain ⟨Ao96, co96, eo96⟩ := Kd.qZ8 HO_22.out
       (first | subst eo96 | (injection eo96 with f1_ f2_ f3_; have f4_ := f1_.symm; have f5_ := f3_.symm; clear f1_ f2_ f3_; subst f4_; subst f5_))
       have p173 : 0 ≤ ((rd t125 x163_6) : Int) := yd
       have q173 : (rd t125 x163_6) < (x22_5.length : Int) := yd
       obtain ⟨ad173, e173, hx173_0⟩ := Kd.qYa (Kd.qQx HO_22.out).2.2 (rd t125 x163_6) p173 q173
       cases e173
       replace p173 := eq_true p173
       replace q173 := eq_true q173
       obtain ⟨Ao97, co97, eo97⟩ := Kd.qZ8 HO_23.out
       (first | subst eo97 | (injection eo97 with f1_ f2_ f3_; have f4_ := f1_.symm; have f5_ := f3_.symm; clear f1_ f2_ f3_; subst f4_; subst f5_))
       have p174 : 0 ≤ ((rd t125 x163_6) : Int) := yd
       have q174 : (rd t125 x163_6) < (x23_5.length : Int) := yd
       obtain ⟨ad174, e174, hx174_0⟩ := Kd.qYa (Kd.qQx HO_23.out).2.2 (rd t125 x163_6) p174 q174
       cases e174
       replace p174 := eq_true p174
       replace q174 := eq_true q174
       as_aux_lemma =>
       refine start_ (n := 25) (S := fun w' => w'.cell? (ad171.add (((rd t125 x163_6)).toNat * 13)) = some (.int .i64 ((qQc l0 (rd t125 x163_6)).f0)) ∧ w'.cell? ⟨(ad171.add (((rd t125 x163_6)).toNat * 13)).block, (ad171.add (((rd t125 x163_6)).toNat * 13)).off + 1, none⟩ = some (.int .i64 ((qQc l0 (rd t125 x163_6)).f1)) ∧ w'.cell? ⟨(ad171.add (((rd t125 x163_6)).toNat * 13)).block, (ad171.add (((rd t125 x163_6)).toNat * 13)).off + 2, none⟩ = some (.int .i64 ((qQc l0 (rd t125 x163_6)).f2)) ∧ w'.cell? ⟨(ad171.add (((rd t125 x163_6)).toNat * 13)).block, (ad171.add (((rd t125 x163_6)).toNat * 13)).off + 3, none⟩ = some (.int .i64 ((qQc l0 (rd t125 x163_6)).f3)) ∧ w'.cell? ⟨(ad171.add (((rd t125 x163_6)).toNat * 13)).block, (ad171.add (((rd t125 x163_6)).toNat * 13)).off + 4, none⟩ = some (.int .i64 ((qQc l0 (rd t125 x163_6)).f4)) ∧ w'.cell? ⟨(ad171.add (((rd t125 x163_6)).toNat * 13)).block, (ad171.add (((rd t125 x163_6)).toNat * 13)).off + 5, none⟩ = some (.int .i64 ((qQc l0 (rd t125 x163_6)).f5)) ∧ w'.cell? ⟨(ad171.add (((rd t125 x163_6)).toNat * 13)).block, (ad171.add (((rd t125 x163_6)).toNat * 13)).off + 6, none⟩ = some (.bool ((qQc l0 (rd t125 x163_6)).f6)) ∧ w'.cell? ⟨(ad171.add (((rd t125 x163_6)).toNat * 13)).block, (ad171.add (((rd t125 x163_6)).toNat * 13)).off + 7, none⟩ = some (.int .i64 ((qQc l0 (rd t125 x163_6)).f7)) ∧ w'.cell? ⟨(ad171.add (((rd t125 x163_6)).toNat * 13)).block, (ad171.add (((rd t125 x163_6)).toNat * 13)).off + 8, none⟩ = some (.int .i64 ((qQc l0 (rd t125 x163_6)).f8)) ∧ w'.cell? ⟨(ad171.add (((rd t125 x163_6)).toNat * 13)).block, (ad171.add (((rd t125 x163_6)).toNat * 13)).off + 9, none⟩ = some (.int .i64 ((qQc l0 (rd t125 x163_6)).f9)) ∧ w'.cell? ⟨(ad171.add (((rd t125 x163_6)).toNat * 13)).block, (ad171.add (((rd t125 x163_6)).toNat * 13)).off + 10, none⟩ = some (.int .i64 ((qQc l0 (rd t125 x163_6)).f10)) ∧ w'.cell? ⟨(ad171.add (((rd t125 x163_6)).toNat * 13)).block, (ad171.add (((rd t125 x163_6)).toNat * 13)).off + 11, none⟩ = some (.int .i64 ((qQc l0 (rd t125 x163_6)).f11)) ∧ w'.cell? ⟨(ad171.add (((rd t125 x163_6)).toNat * 13)).block, (ad171.add (((rd t125 x163_6)).toNat * 13)).off + 12, none⟩ = some (.int .i64 ((qQc l0 (rd t125 x163_6)).f12)) ∧ w'.cell? (ad172.add ((rd t125 x163_6)).toNat) = some (.int .i64 (rd x21_5 (rd t125 x163_6))) ∧ w'.cell? (ad173.add ((rd t125 x163_6)).toNat) = some (.int .i64 (rd x22_5 (rd t125 x163_6))) ∧ w'.cell? (ad174.add ((rd t125 x163_6)).toNat) = some (.int .i64 (rd x23_5 (rd t125 x163_6)))) (ds := [23]) (qQg.fl 25 0) (by kernel_rfl) rfl rfl ⟨(hxb HB.out hw171_0), (hxb HB.out hw171_1), (hxb HB.out hw171_2), (hxb HB.out hw171_3), (hxb HB.out hw171_4), (hxb HB.out hw171_5), (hxb HB.out hw171_6), (hxb HB.out hw171_7), (hxb HB.out hw171_8), (hxb HB.out hw171_9), (hxb HB.out hw171_10), (hxb HB.out hw171_11), (hxb HB.out hw171_12), hx172_0, hx173_0, hx174_0⟩ (fun hHeld => ?_); refine qYg qQg.tab37 qQg.bits37 (fun HT_ HW_ => ?_)
       generalize wr.drew = w94 at HO_4 HO_21 HO_22 HO_23 HO_161 BK119 HB hx171_0 hx171_1 hx171_10 hx171_11 hx171_12 hx171_2 hx171_3 hx171_4 hx171_5 hx171_6 hx171_7 hx171_8 hx171_9 hx172_0 hx173_0 hx174_0 hHeld ⊢
       refine qQg.y 0 168 25 1 HT_.out ?_
       refine qQg.y 1 169 25 3 HT_.out ?_
       refine qQg.y 2 170 25 7 HT_.out ?_
       refine qQg.y 3 171 25 15 HT_.out ?_
       refine qQg.y 4 172 25 31 HT_.out ?_
       refine qQg.y 6 174 25 95 HT_.out ?_
       refine qQg.y 7 175 25 223 HT_.out ?_
       refine qQg.y 8 176 25 479 HT_.out ?_
       refine qQg.y 10 178 25 1503 HT_.out ?_
       refine qQg.y 11 179 25 3551 HT_.out ?_
       refine qQg.y 12 180 25 7647 HT_.out ?_
       refine qQg.y 14 182 25 24031 HT_.out ?_
       refine qQg.y 15 183 25 56799 HT_.out ?_
       refine qQg.y 16 184 25 122335 HT_.out ?_
       refine qQg.t 5 173 25 122367 HT_.out HW_.out hHeld ?_
       refine qQg.t 9 177 25 122879 HT_.out HW_.out hHeld ?_
       refine qQg.t 13 181 25 131071 HT_.out HW_.out hHeld ?_
       refine qQg.t 17 185 25 262143 HT_.out HW_.out hHeld ?_
       refine one_ (i := 18) (N := some 186) (qQg.fl 25 524287) rfl rfl (qZ3 HT_.out (by kernel_rfl)) (by decide) (fun K hK => ?_)
       refine goes_ Try.func28 (by kernel_rfl) rfl #[.agg #[.int .i64 ((qQc l0 (rd t125 x163_6)).f0), .int .i64 ((qQc l0 (rd t125 x163_6)).f1), .int .i64 ((qQc l0 (rd t125 x163_6)).f2), .int .i64 ((qQc l0 (rd t125 x163_6)).f3), .int .i64 ((qQc l0 (rd t125 x163_6)).f4), .int .i64 ((qQc l0 (rd t125 x163_6)).f5), .bool ((qQc l0 (rd t125 x163_6)).f6), .int .i64 ((qQc l0 (rd t125 x163_6)).f7), .int .i64 ((qQc l0 (rd t125 x163_6)).f8), .int .i64 ((qQc l0 (rd t125 x163_6)).f9), .int .i64 ((qQc l0 (rd t125 x163_6)).f10), .int .i64 ((qQc l0 (rd t125 x163_6)).f11), .int .i64 ((qQc l0 (rd t125 x163_6)).f12)], .int .i64 (rd x21_5 (rd t125 x163_6)), .int .i64 (rd x22_5 (rd t125 x163_6)), .int .i64 (rd x23_5 (rd t125 x163_6))] (by rfl) rfl rfl ml ?_
       with_reducible refine (qZr.calls k6 ((qQc l0 (rd t125 x163_6)).f0) ((qQc l0 (rd t125 x163_6)).f1) ((qQc l0 (rd t125 x163_6)).f2) ((qQc l0 (rd t125 x163_6)).f3) ((qQc l0 (rd t125 x163_6)).f4) ((qQc l0 (rd t125 x163_6)).f5) ((qQc l0 (rd t125 x163_6)).f6) ((qQc l0 (rd t125 x163_6)).f7) ((qQc l0 (rd t125 x163_6)).f8) ((qQc l0 (rd t125 x163_6)).f9) ((qQc l0 (rd t125 x163_6)).f10) ((qQc l0 (rd t125 x163_6)).f11) ((qQc l0 (rd t125 x163_6)).f12) (rd x21_5 (rd t125 x163_6)) (rd x22_5 (rd t125 x163_6)) (rd x23_5 (rd t125 x163_6)) t175 t176 t177 t178 t179 t180 t181 t182 t183 t184 t185 t186 t187 t188 _ A90.out).mono ?_
       rintro e w98 ⟨rfl, hb⟩
       have HS13_ := hxb hb (hHeld.2.2.2.2.2.2.2.2.2.2.2.2.2.1)
       have HS14_ := hxb hb (hHeld.2.2.2.2.2.2.2.2.2.2.2.2.2.2.1)
       have HS15_ := hxb hb (hHeld.2.2.2.2.2.2.2.2.2.2.2.2.2.2.2)
       refine ⟨_, rfl, ?_⟩
       have n0_ := am (Kd.qQw (by exact Rq HO_4.out) hb)
       have n1_ := am (Kd.qQw (by exact Rq HO_21.out) hb)
       have n2_ := am (Kd.qQw (by exact Rq HO_22.out) hb)
       have n3_ := am (Kd.qQw (by exact Rq HO_23.out) hb)
       have n4_ := am (Kd.qQw (by exact Rq HO_161.out) hb)
       have n5_ := am (qQu (g := gb119) (Up.up BK119.out) hb)
       have n6_ := am (qQn (by exact hq HB.out GE119.out) hb)
       clear HO_4 HO_21 HO_22 HO_23 HO_161 BK119 HB
       have HO_4 := n0_
       have HO_21 := n1_
       have HO_22 := n2_
       have HO_23 := n3_
       have HO_161 := n4_
       have BK119 := n5_
       have HB := n6_
       clear n0_ n1_ n2_ n3_ n4_ n5_ n6_
       (try clear hb)
       (try clear hb2)
       (try clear hk)
       (try clear hi)
       have p92 : 0 ≤ ((rd t125 x163_6) : Int) := yd
       have q92 : ((rd t125 x163_6) : Int) < ((x4_6.length : Int) : Int) := yd
       obtain ⟨go92, co92, eo92, gb92, gl92, cl92, HG92⟩ := Kd.qWu HO_4.out (by omega)
       (first | cases eo92 | (injection eo92 with ea_ en_ ec_; (first | subst ea_ | (injection ea_ with ea_; subst ea_)); subst ec_; clear en_))
       have GB92 := am gb92
       have GG92 := am HG92
       clear gb92 gl92 HG92
       obtain ⟨ce92, hcl92, hM92, hcc92, hfr92⟩ := Kd.qXy HO_4.out z43 ((rd t125 x163_6) : Int) p92 q92
       obtain rfl := qWh hM92
       have hx92_0 : World.cell? _ ⟨go92, ((rd t125 x163_6) : Int).toNat * 13, none⟩ = some (.int .i64 ((qQc x4_6 (rd t125 x163_6)).f0)) := hcc92 0 _ rfl
       have hx92_1 : World.cell? _ ⟨go92, ((rd t125 x163_6) : Int).toNat * 13 + 1, none⟩ = some (.int .i64 ((qQc x4_6 (rd t125 x163_6)).f1)) := hcc92 1 _ rfl
       have hx92_2 : World.cell? _ ⟨go92, ((rd t125 x163_6) : Int).toNat * 13 + 2, none⟩ = some (.int .i64 ((qQc x4_6 (rd t125 x163_6)).f2)) := hcc92 2 _ rfl
       have hx92_3 : World.cell? _ ⟨go92, ((rd t125 x163_6) : Int).toNat * 13 + 3, none⟩ = some (.int .i64 ((qQc x4_6 (rd t125 x163_6)).f3)) := hcc92 3 _ rfl
       have hx92_4 : World.cell? _ ⟨go92, ((rd t125 x163_6) : Int).toNat * 13 + 4, none⟩ = some (.int .i64 ((qQc x4_6 (rd t125 x163_6)).f4)) := hcc92 4 _ rfl
       have hx92_5 : World.cell? _ ⟨go92, ((rd t125 x163_6) : Int).toNat * 13 + 5, none⟩ = some (.int .i64 ((qQc x4_6 (rd t125 x163_6)).f5)) := hcc92 5 _ rfl
       have hx92_6 : World.cell? _ ⟨go92, ((rd t125 x163_6) : Int).toNat * 13 + 6, none⟩ = some (.bool ((qQc x4_6 (rd t125 x163_6)).f6)) := hcc92 6 _ rfl
       have hx92_7 : World.cell? _ ⟨go92, ((rd t125 x163_6) : Int).toNat * 13 + 7, none⟩ = some (.int .i64 ((qQc x4_6 (rd t125 x163_6)).f7)) := hcc92 7 _ rfl
       have hx92_8 : World.cell? _ ⟨go92, ((rd t125 x163_6) : Int).toNat * 13 + 8, none⟩ = some (.int .i64 ((qQc x4_6 (rd t125 x163_6)).f8)) := hcc92 8 _ rfl
       have hx92_9 : World.cell? _ ⟨go92, ((rd t125 x163_6) : Int).toNat * 13 + 9, none⟩ = some (.int .i64 ((qQc x4_6 (rd t125 x163_6)).f9)) := hcc92 9 _ rfl
       have hx92_10 : World.cell? _ ⟨go92, ((rd t125 x163_6) : Int).toNat * 13 + 10, none⟩ = some (.int .i64 ((qQc x4_6 (rd t125 x163_6)).f10)) := hcc92 10 _ rfl
       have hx92_11 : World.cell? _ ⟨go92, ((rd t125 x163_6) : Int).toNat * 13 + 11, none⟩ = some (.int .i64 ((qQc x4_6 (rd t125 x163_6)).f11)) := hcc92 11 _ rfl
       have hx92_12 : World.cell? _ ⟨go92, ((rd t125 x163_6) : Int).toNat * 13 + 12, none⟩ = some (.int .i64 ((qQc x4_6 (rd t125 x163_6)).f12)) := hcc92 12 _ rfl
       have hf92_0 : World.frozen? _ ⟨go92, ((rd t125 x163_6) : Int).toNat * 13, none⟩ = false := hfr92 0
       have hf92_1 : World.frozen? _ ⟨go92, ((rd t125 x163_6) : Int).toNat * 13 + 1, none⟩ = false := hfr92 1
       have hf92_2 : World.frozen? _ ⟨go92, ((rd t125 x163_6) : Int).toNat * 13 + 2, none⟩ = false := hfr92 2
       have hf92_3 : World.frozen? _ ⟨go92, ((rd t125 x163_6) : Int).toNat * 13 + 3, none⟩ = false := hfr92 3
       have hf92_4 : World.frozen? _ ⟨go92, ((rd t125 x163_6) : Int).toNat * 13 + 4, none⟩ = false := hfr92 4
       have hf92_5 : World.frozen? _ ⟨go92, ((rd t125 x163_6) : Int).toNat * 13 + 5, none⟩ = false := hfr92 5
       have hf92_6 : World.frozen? _ ⟨go92, ((rd t125 x163_6) : Int).toNat * 13 + 6, none⟩ = false := hfr92 6
       have hf92_7 : World.frozen? _ ⟨go92, ((rd t125 x163_6) : Int).toNat * 13 + 7, none⟩ = false := hfr92 7
       have hf92_8 : World.frozen? _ ⟨go92, ((rd t125 x163_6) : Int).toNat * 13 + 8, none⟩ = false := hfr92 8
       have hf92_9 : World.frozen? _ ⟨go92, ((rd t125 x163_6) : Int).toNat * 13 + 9, none⟩ = false := hfr92 9
       have hf92_10 : World.frozen? _ ⟨go92, ((rd t125 x163_6) : Int).toNat * 13 + 10, none⟩ = false := hfr92 10
       have hf92_11 : World.frozen? _ ⟨go92, ((rd t125 x163_6) : Int).toNat * 13 + 11, none⟩ = false := hfr92 11
       have hf92_12 : World.frozen? _ ⟨go92, ((rd t125 x163_6) : Int).toNat * 13 + 12, none⟩ = false := hfr92 12
       clear hcl92 hcc92 hfr92 hM92
       replace p92 := eq_true p92
       replace q92 := eq_true q92
       obtain ⟨ce99, hcl99, hM99, hcc99, hfr99⟩ := Kd.qXy HO_4.out z43 ((rd t125 x163_6) : Int) (yd) (by have h_ : ((rd t125 x163_6) : Int) < ((x4_6.length : Int) : Int) := yd; first | exact h_ | (have e_ := (Kd.qQx HO_4.out).1; omega) | simpa using h_)
       obtain rfl := qWh hM99
       have HP99 := (Kd.R_seg HO_4.out ((rd t125 x163_6) : Int) (yd) (by have h_ : ((rd t125 x163_6) : Int) < ((x4_6.length : Int) : Int) := yd; first | exact h_ | (have e_ := (Kd.qQx HO_4.out).1; omega) | simpa using h_) (seg := [.int .i64 t175, .int .i64 t176, .int .i64 t177, .int .i64 t178, .int .i64 t179, .int .i64 t180, .bool t181, .int .i64 t182, .int .i64 t183, .int .i64 t184, .int .i64 t185, .int .i64 t186, .int .i64 t187]) (j := 0) hcl99 hcc99 (show 13 ≤ 13 from by decide) (x' := (⟨t175, t176, t177, t178, t179, t180, t181, t182, t183, t184, t185, t186, t187⟩ : S43)) (qWp _ _ _ (⟨t175, t176, t177, t178, t179, t180, t181, t182, t183, t184, t185, t186, t187⟩ : S43) ) (fun _ hk => hk)).1
       rw [← Ny189.out] at HP99
       have HQ99 := am HP99
       clear hcl99 hcc99 hfr99 hM99 HP99
       refine hK.out _ _ ⟨(hxb HB.out hw171_0), (hxb HB.out hw171_1), (hxb HB.out hw171_2), (hxb HB.out hw171_3), (hxb HB.out hw171_4), (hxb HB.out hw171_5), (hxb HB.out hw171_6), (hxb HB.out hw171_7), (hxb HB.out hw171_8), (hxb HB.out hw171_9), (hxb HB.out hw171_10), (hxb HB.out hw171_11), (hxb HB.out hw171_12), HS13_, HS14_, HS15_⟩ (fun hHeld => ?_)
       clear hK K
       refine norm_ (a' := ?_) ?_ ?_
       rotate_left
       ·show Act.put _ (some 186) _ = _
        exact pu
       refine qQg.y 19 167 25 1048575 HT_.out ?_
       refine qQg.y 20 187 25 2097151 HT_.out ?_
       refine qQg.y 21 188 25 4194303 HT_.out ?_
       refine qQg.y 22 189 25 8388607 HT_.out ?_
       refine last_ (i := 23) (N := none) (qQg.fl 25 16777215) rfl rfl (qZ3 HT_.out (by kernel_rfl)) (by decide) (fun K hK => ?_)
       refine skip_ (w1 := ((((((((((((w98.setCell ⟨go92, ((rd t125 x163_6) : Int).toNat * 13, none⟩ (.int .i64 t175)).setCell ⟨go92, ((rd t125 x163_6) : Int).toNat * 13 + 1, none⟩ (.int .i64 t176)).setCell ⟨go92, ((rd t125 x163_6) : Int).toNat * 13 + 2, none⟩ (.int .i64 t177)).setCell ⟨go92, ((rd t125 x163_6) : Int).toNat * 13 + 3, none⟩ (.int .i64 t178)).setCell ⟨go92, ((rd t125 x163_6) : Int).toNat * 13 + 4, none⟩ (.int .i64 t179)).setCell ⟨go92, ((rd t125 x163_6) : Int).toNat * 13 + 5, none⟩ (.int .i64 t180)).setCell ⟨go92, ((rd t125 x163_6) : Int).toNat * 13 + 6, none⟩ (.bool t181)).setCell ⟨go92, ((rd t125 x163_6) : Int).toNat * 13 + 7, none⟩ (.int .i64 t182)).setCell ⟨go92, ((rd t125 x163_6) : Int).toNat * 13 + 8, none⟩ (.int .i64 t183)).setCell ⟨go92, ((rd t125 x163_6) : Int).toNat * 13 + 9, none⟩ (.int .i64 t184)).setCell ⟨go92, ((rd t125 x163_6) : Int).toNat * 13 + 10, none⟩ (.int .i64 t185)).setCell ⟨go92, ((rd t125 x163_6) : Int).toNat * 13 + 11, none⟩ (.int .i64 t186)).setCell ⟨go92, ((rd t125 x163_6) : Int).toNat * 13 + 12, none⟩ (.int .i64 t187)) (by rfl) rfl (st13 (w := w98) (g := go92) (o := ((rd t125 x163_6) : Int).toNat * 13) (a0 := t175) (a1 := t176) (a2 := t177) (a3 := t178) (a4 := t179) (a5 := t180) (a6 := t181) (a7 := t182) (a8 := t183) (a9 := t184) (a10 := t185) (a11 := t186) (a12 := t187) (p := .tmp 189) (v := .tmp 187) rfl rfl rfl hx92_0 hx92_1 hx92_2 hx92_3 hx92_4 hx92_5 hx92_6 hx92_7 hx92_8 hx92_9 hx92_10 hx92_11 hx92_12 hf92_0 hf92_1 hf92_2 hf92_3 hf92_4 hf92_5 hf92_6 hf92_7 hf92_8 hf92_9 hf92_10 hf92_11 hf92_12) ?_
       refine hK.out _ _ ?_
       clear hK K
       refine qQg.y 24 19 25 33554431 HT_.out ?_
       refine done_ (qYw HT_.out (by kernel_rfl)) ?_
       try simp only [show ∀ (w_ : World) (n_ : Nat) (p_ : Addr) (v_ : Value), (w_.drewN n_).setCell p_ v_ = (w_.setCell p_ v_).drewN n_ from fun _ _ _ _ => rfl]
       generalize hW_ : (((((((((((((w98.setCell ⟨go92, ((rd t125 x163_6) : Int).toNat * 13, none⟩ (.int .i64 t175)).setCell ⟨go92, ((rd t125 x163_6) : Int).toNat * 13 + 1, none⟩ (.int .i64 t176)).setCell ⟨go92, ((rd t125 x163_6) : Int).toNat * 13 + 2, none⟩ (.int .i64 t177)).setCell ⟨go92, ((rd t125 x163_6) : Int).toNat * 13 + 3, none⟩ (.int .i64 t178)).setCell ⟨go92, ((rd t125 x163_6) : Int).toNat * 13 + 4, none⟩ (.int .i64 t179)).setCell ⟨go92, ((rd t125 x163_6) : Int).toNat * 13 + 5, none⟩ (.int .i64 t180)).setCell ⟨go92, ((rd t125 x163_6) : Int).toNat * 13 + 6, none⟩ (.bool t181)).setCell ⟨go92, ((rd t125 x163_6) : Int).toNat * 13 + 7, none⟩ (.int .i64 t182)).setCell ⟨go92, ((rd t125 x163_6) : Int).toNat * 13 + 8, none⟩ (.int .i64 t183)).setCell ⟨go92, ((rd t125 x163_6) : Int).toNat * 13 + 9, none⟩ (.int .i64 t184)).setCell ⟨go92, ((rd t125 x163_6) : Int).toNat * 13 + 10, none⟩ (.int .i64 t185)).setCell ⟨go92, ((rd t125 x163_6) : Int).toNat * 13 + 11, none⟩ (.int .i64 t186)).setCell ⟨go92, ((rd t125 x163_6) : Int).toNat * 13 + 12, none⟩ (.int .i64 t187)) = w100
       have n0_ : Aside0 (Kd.R k43 43 w100 w.heap.size (fun _ => True) (.slice (some ⟨go92, 0, none⟩) x4_6.length co92) y189) := ⟨by rw [← hW_]; (with_reducible repeat (first | apply Kd.qQs | apply Kd.qQq | apply Kd.qQt)); exact HQ99.out⟩
       have n1_ : Aside0 (Kd.R (Kd.int .i64) 2 w100 w.heap.size (fun k_ => some k_ ≠ (.slice (some ad173) x22_5.length co96 : Value).ownBlock ∧ some k_ ≠ (.slice (some ad174) x23_5.length co97 : Value).ownBlock) (.slice (some ad172) x21_5.length co95) x21_5) := ⟨by rw [← hW_]; (with_reducible repeat (first | apply Kd.qQs | apply Kd.qQq | apply Kd.qQt)); exact Kd.qQv (qXz (Kd.qZc HO_21.out GG92.out (by decide)) (fun _ hk => hk.2)) (fun _ hk => ⟨hk.1.1, hk.1.2⟩)⟩
       have n2_ : Aside0 (Kd.R (Kd.int .i64) 2 w100 w.heap.size (fun k_ => some k_ ≠ (.slice (some ad172) x21_5.length co95 : Value).ownBlock ∧ some k_ ≠ (.slice (some ad174) x23_5.length co97 : Value).ownBlock) (.slice (some ad173) x22_5.length co96) x22_5) := ⟨by rw [← hW_]; (with_reducible repeat (first | apply Kd.qQs | apply Kd.qQq | apply Kd.qQt)); exact Kd.qQv (qXz (Kd.qZc HO_22.out GG92.out (by decide)) (fun _ hk => hk.2)) (fun _ hk => ⟨hk.1.1, hk.1.2⟩)⟩
       have n3_ : Aside0 (Kd.R (Kd.int .i64) 2 w100 w.heap.size (fun k_ => some k_ ≠ (.slice (some ad172) x21_5.length co95 : Value).ownBlock ∧ some k_ ≠ (.slice (some ad173) x22_5.length co96 : Value).ownBlock) (.slice (some ad174) x23_5.length co97) x23_5) := ⟨by rw [← hW_]; (with_reducible repeat (first | apply Kd.qQs | apply Kd.qQq | apply Kd.qQt)); exact Kd.qQv (qXz (Kd.qZc HO_23.out GG92.out (by decide)) (fun _ hk => hk.2)) (fun _ hk => ⟨hk.1.1, hk.1.2⟩)⟩
       have n4_ : Aside0 (Kd.R (Kd.int .i64) 3 w100 w.heap.size (fun _ => True) (.slice (some ad170) t125.length co25) t125) := ⟨by rw [← hW_]; (with_reducible repeat (first | apply Kd.qQs | apply Kd.qQq | apply Kd.qQt)); exact Kd.qQv (qXz (Kd.qZc HO_161.out GG92.out (by decide)) (fun _ hk => hk.2)) (fun _ hk => trivial)⟩
       have n5_ : Aside0 (w100.heap[gb119]? = some (.cells #[.int .i64 x120000_6, .int .i64 x120001_6, .int .i64 x120002_6, .int .i64 x120003_6] 26 (0, 0))) := ⟨by rw [← hW_]; exact qV6 BK119.out (by have h_ := Kd.R_ne HO_4.out BK119.out (by decide); intro e_; exact h_ (by rw [e_]; rfl))⟩
       have n6_ : Aside0 (Below w.heap.size w w100) := ⟨by rw [← hW_]; repeat (first | (with_reducible first | exact HB.out | apply qZ0 | apply qZh | apply qZg | refine qZv ?_ GB92.out | refine qZv ?_ GE119.out) | exact HB.out)⟩
       (try clear HO_4)
       (try clear HO_21)
       (try clear HO_22)
       (try clear HO_23)
       (try clear HO_161)
       (try clear BK119)
       (try clear HB)
       clear hW_
       have HO_4 := n0_
       have HO_21 := n1_
       have HO_22 := n2_
       have HO_23 := n3_
       have HO_161 := n4_
       have BK119 := n5_
       have HB := n6_
       clear n0_ n1_ n2_ n3_ n4_ n5_ n6_
       try go_wp2
       have n0_ := am (Kd.qQt HO_4.out)
       have n1_ := am (Kd.qQt HO_21.out)
       have n2_ := am (Kd.qQt HO_22.out)
       have n3_ := am (Kd.qQt HO_23.out)
       have n4_ := am (Kd.qQt HO_161.out)
       have n5_ := am (qQk BK119.out)
       have n6_ := am (qZg HB.out)
       clear HO_4 HO_21 HO_22 HO_23 HO_161 BK119 HB
       have HO_4 := n0_
       have HO_21 := n1_
       have HO_22 := n2_
       have HO_23 := n3_
       have HO_161 := n4_
       have BK119 := n5_
       have HB := n6_
       clear n0_ n1_ n2_ n3_ n4_ n5_ n6_
       have p190 : 0 ≤ ((rd t125 x163_6) : Int) := yd
       have q190 : (rd t125 x163_6) < (x21_5.length : Int) := yd
       obtain ⟨ad190, e190, hx190_0⟩ := Kd.qYa (Kd.qQx HO_21.out).2.2 (rd t125 x163_6) p190 q190
       obtain rfl : ad172 = ad190 := (by injection e190)
       replace p190 := eq_true p190
       replace q190 := eq_true q190
       as_aux_lemma =>
       refine start_ (n := 9) (S := fun w' => w'.cell? ⟨gb119, 0, none⟩ = some (.int .i64 x120000_6) ∧ w'.cell? ⟨gb119, 1, none⟩ = some (.int .i64 x120001_6) ∧ w'.cell? ⟨gb119, 2, none⟩ = some (.int .i64 x120002_6) ∧ w'.cell? ⟨gb119, 3, none⟩ = some (.int .i64 x120003_6) ∧ w'.cell? (ad172.add ((rd t125 x163_6)).toNat) = some (.int .i64 (rd x21_5 (rd t125 x163_6)))) (ds := [8]) (qQg.fl 9 0) (by kernel_rfl) rfl rfl ⟨(qQa BK119.out 0).trans rfl, (qQa BK119.out 1).trans rfl, (qQa BK119.out 2).trans rfl, (qQa BK119.out 3).trans rfl, hx190_0⟩ (fun hHeld => ?_); refine qYg qQg.tab40 qQg.bits40 (fun HT_ HW_ => ?_)
       generalize w100.drew = w101 at HO_4 HO_21 HO_22 HO_23 HO_161 BK119 HB hx190_0 hHeld ⊢
       refine qQg.y 0 194 9 1 HT_.out ?_
       refine qQg.y 2 196 9 5 HT_.out ?_
       refine qQg.y 3 197 9 13 HT_.out ?_
       refine qQg.y 4 198 9 29 HT_.out ?_
       refine qQg.t 1 195 9 31 HT_.out HW_.out hHeld ?_
       refine qQg.t 5 199 9 63 HT_.out HW_.out hHeld ?_
       refine qQg.y 6 200 9 127 HT_.out ?_
       refine qQg.y 7 201 9 255 HT_.out ?_
       refine last_ (i := 8) (N := none) (qQg.fl 9 511) rfl rfl (qZ3 HT_.out (by kernel_rfl)) (by decide) (fun K hK => ?_)
       have hs102 : w101.cell? ⟨gb119, 0, none⟩ = some (.int .i64 x120000_6) := (qQa BK119.out 0).trans rfl
       have hfs102 := qQi BK119.out 0
       refine skip_ (w1 := ?_) (by rfl) rfl ?_ ?_
       rotate_left
       ·go_simp
        rfl
       refine hK.out _ _ ?_
       clear hK K
       refine done_ (qYw HT_.out (by kernel_rfl)) ?_
       try go_wp2
       try simp only [show ∀ (w_ : World) (n_ : Nat) (p_ : Addr) (v_ : Value), (w_.drewN n_).setCell p_ v_ = (w_.setCell p_ v_).drewN n_ from fun _ _ _ _ => rfl]
       generalize hW_ : (w101.setCell ⟨gb119, 0, none⟩ (.int .i64 (wrap64 (x120000_6 + (rd x21_5 (rd t125 x163_6)))))) = w103
       have n0_ : Aside0 (Kd.R k43 43 w103 w.heap.size (fun _ => True) (.slice (some ⟨go92, 0, none⟩) x4_6.length co92) y189) := ⟨by rw [← hW_]; (with_reducible repeat (first | apply Kd.qQs | apply Kd.qQq | apply Kd.qQt)); exact Kd.qQv (Kd.R_far (p := ⟨gb119, 0, none⟩) (Kd.qZc HO_4.out BK119.out (by decide)) (fun _ hk => hk.2) (.int .i64 (wrap64 (x120000_6 + (rd x21_5 (rd t125 x163_6)))))) (fun _ hk => trivial)⟩
       have n1_ : Aside0 (Kd.R (Kd.int .i64) 2 w103 w.heap.size (fun k_ => some k_ ≠ (.slice (some ad173) x22_5.length co96 : Value).ownBlock ∧ some k_ ≠ (.slice (some ad174) x23_5.length co97 : Value).ownBlock) (.slice (some ad172) x21_5.length co95) x21_5) := ⟨by rw [← hW_]; (with_reducible repeat (first | apply Kd.qQs | apply Kd.qQq | apply Kd.qQt)); exact Kd.qQv (Kd.R_far (p := ⟨gb119, 0, none⟩) (Kd.qZc HO_21.out BK119.out (by decide)) (fun _ hk => hk.2) (.int .i64 (wrap64 (x120000_6 + (rd x21_5 (rd t125 x163_6)))))) (fun _ hk => ⟨hk.1.1, hk.1.2⟩)⟩
       have n2_ : Aside0 (Kd.R (Kd.int .i64) 2 w103 w.heap.size (fun k_ => some k_ ≠ (.slice (some ad172) x21_5.length co95 : Value).ownBlock ∧ some k_ ≠ (.slice (some ad174) x23_5.length co97 : Value).ownBlock) (.slice (some ad173) x22_5.length co96) x22_5) := ⟨by rw [← hW_]; (with_reducible repeat (first | apply Kd.qQs | apply Kd.qQq | apply Kd.qQt)); exact Kd.qQv (Kd.R_far (p := ⟨gb119, 0, none⟩) (Kd.qZc HO_22.out BK119.out (by decide)) (fun _ hk => hk.2) (.int .i64 (wrap64 (x120000_6 + (rd x21_5 (rd t125 x163_6)))))) (fun _ hk => ⟨hk.1.1, hk.1.2⟩)⟩
       have n3_ : Aside0 (Kd.R (Kd.int .i64) 2 w103 w.heap.size (fun k_ => some k_ ≠ (.slice (some ad172) x21_5.length co95 : Value).ownBlock ∧ some k_ ≠ (.slice (some ad173) x22_5.length co96 : Value).ownBlock) (.slice (some ad174) x23_5.length co97) x23_5) := ⟨by rw [← hW_]; (with_reducible repeat (first | apply Kd.qQs | apply Kd.qQq | apply Kd.qQt)); exact Kd.qQv (Kd.R_far (p := ⟨gb119, 0, none⟩) (Kd.qZc HO_23.out BK119.out (by decide)) (fun _ hk => hk.2) (.int .i64 (wrap64 (x120000_6 + (rd x21_5 (rd t125 x163_6)))))) (fun _ hk => ⟨hk.1.1, hk.1.2⟩)⟩
       have n4_ : Aside0 (Kd.R (Kd.int .i64) 3 w103 w.heap.size (fun _ => True) (.slice (some ad170) t125.length co25) t125) := ⟨by rw [← hW_]; (with_reducible repeat (first | apply Kd.qQs | apply Kd.qQq | apply Kd.qQt)); exact Kd.qQv (Kd.R_far (p := ⟨gb119, 0, none⟩) (Kd.qZc HO_161.out BK119.out (by decide)) (fun _ hk => hk.2) (.int .i64 (wrap64 (x120000_6 + (rd x21_5 (rd t125 x163_6)))))) (fun _ hk => trivial)⟩
       have n5_ : Aside0 (w103.heap[gb119]? = some (.cells #[.int .i64 (wrap64 (x120000_6 + (rd x21_5 (rd t125 x163_6)))), .int .i64 x120001_6, .int .i64 x120002_6, .int .i64 x120003_6] 26 (0, 0))) := ⟨by rw [← hW_]; (with_reducible repeat (first | refine qQm ?_ _ | refine qQk ?_ | refine qQo ?_ _)); refine qQ1 (cs := #[.int .i64 x120000_6, .int .i64 x120001_6, .int .i64 x120002_6, .int .i64 x120003_6]) ?_ 0 _ rfl; (with_reducible repeat (first | refine qQm ?_ _ | refine qQk ?_ | refine qQo ?_ _)); exact BK119.out⟩
       have n6_ : Aside0 (Below w.heap.size w w103) := ⟨by rw [← hW_]; repeat (first | (with_reducible first | exact HB.out | apply qZ0 | apply qZh | apply qZg | refine qZv ?_ GE119.out) | exact HB.out)⟩
       (try clear HO_4)
       (try clear HO_21)
       (try clear HO_22)
       (try clear HO_23)
       (try clear HO_161)
       (try clear BK119)
       (try clear HB)
       clear hW_
       have HO_4 := n0_
       have HO_21 := n1_
       have HO_22 := n2_
       have HO_23 := n3_
       have HO_161 := n4_
       have BK119 := n5_
       have HB := n6_
       clear n0_ n1_ n2_ n3_ n4_ n5_ n6_
       have n0_ := am (Kd.qQt HO_4.out)
       have n1_ := am (Kd.qQt HO_21.out)
       have n2_ := am (Kd.qQt HO_22.out)
       have n3_ := am (Kd.qQt HO_23.out)
       have n4_ := am (Kd.qQt HO_161.out)
       have n5_ := am (qQk BK119.out)
       have n6_ := am (qZg HB.out)
       clear HO_4 HO_21 HO_22 HO_23 HO_161 BK119 HB
       have HO_4 := n0_
       have HO_21 := n1_
       have HO_22 := n2_
       have HO_23 := n3_
       have HO_161 := n4_
       have BK119 := n5_
       have HB := n6_
       clear n0_ n1_ n2_ n3_ n4_ n5_ n6_
       have p191 : 0 ≤ ((rd t125 x163_6) : Int) := yd
       have q191 : (rd t125 x163_6) < (x22_5.length : Int) := yd
       obtain ⟨ad191, e191, hx191_0⟩ := Kd.qYa (Kd.qQx HO_22.out).2.2 (rd t125 x163_6) p191 q191
       obtain rfl : ad173 = ad191 := (by injection e191)
       replace p191 := eq_true p191
       replace q191 := eq_true q191
       as_aux_lemma =>
       refine start_ (n := 9) (S := fun w' => w'.cell? ⟨gb119, 0, none⟩ = some (.int .i64 (wrap64 (x120000_6 + (rd x21_5 (rd t125 x163_6))))) ∧ w'.cell? ⟨gb119, 1, none⟩ = some (.int .i64 x120001_6) ∧ w'.cell? ⟨gb119, 2, none⟩ = some (.int .i64 x120002_6) ∧ w'.cell? ⟨gb119, 3, none⟩ = some (.int .i64 x120003_6) ∧ w'.cell? (ad173.add ((rd t125 x163_6)).toNat) = some (.int .i64 (rd x22_5 (rd t125 x163_6)))) (ds := [8]) (qQg.fl 9 0) (by kernel_rfl) rfl rfl ⟨(qQa BK119.out 0).trans rfl, (qQa BK119.out 1).trans rfl, (qQa BK119.out 2).trans rfl, (qQa BK119.out 3).trans rfl, hx191_0⟩ (fun hHeld => ?_); refine qYg qQg.tab41 qQg.bits41 (fun HT_ HW_ => ?_)
       generalize w103.drew = w104 at HO_4 HO_21 HO_22 HO_23 HO_161 BK119 HB hx191_0 hHeld ⊢
       refine qQg.y 0 202 9 1 HT_.out ?_
       refine qQg.y 2 204 9 5 HT_.out ?_
       refine qQg.y 3 205 9 13 HT_.out ?_
       refine qQg.y 4 206 9 29 HT_.out ?_
       refine qQg.t 1 203 9 31 HT_.out HW_.out hHeld ?_
       refine qQg.t 5 207 9 63 HT_.out HW_.out hHeld ?_
       refine qQg.y 6 208 9 127 HT_.out ?_
       refine qQg.y 7 209 9 255 HT_.out ?_
       refine last_ (i := 8) (N := none) (qQg.fl 9 511) rfl rfl (qZ3 HT_.out (by kernel_rfl)) (by decide) (fun K hK => ?_)
       have hs105 : w104.cell? ⟨gb119, 1, none⟩ = some (.int .i64 x120001_6) := (qQa BK119.out 1).trans rfl
       have hfs105 := qQi BK119.out 1
       refine skip_ (w1 := ?_) (by rfl) rfl ?_ ?_
       rotate_left
       ·go_simp
        rfl
       refine hK.out _ _ ?_
       clear hK K
       refine done_ (qYw HT_.out (by kernel_rfl)) ?_
       try go_wp2
       try simp only [show ∀ (w_ : World) (n_ : Nat) (p_ : Addr) (v_ : Value), (w_.drewN n_).setCell p_ v_ = (w_.setCell p_ v_).drewN n_ from fun _ _ _ _ => rfl]
       generalize hW_ : (w104.setCell ⟨gb119, 1, none⟩ (.int .i64 (wrap64 (x120001_6 + (rd x22_5 (rd t125 x163_6)))))) = w106
       have n0_ : Aside0 (Kd.R k43 43 w106 w.heap.size (fun _ => True) (.slice (some ⟨go92, 0, none⟩) x4_6.length co92) y189) := ⟨by rw [← hW_]; (with_reducible repeat (first | apply Kd.qQs | apply Kd.qQq | apply Kd.qQt)); exact Kd.qQv (Kd.R_far (p := ⟨gb119, 1, none⟩) (Kd.qZc HO_4.out BK119.out (by decide)) (fun _ hk => hk.2) (.int .i64 (wrap64 (x120001_6 + (rd x22_5 (rd t125 x163_6)))))) (fun _ hk => trivial)⟩
       have n1_ : Aside0 (Kd.R (Kd.int .i64) 2 w106 w.heap.size (fun k_ => some k_ ≠ (.slice (some ad173) x22_5.length co96 : Value).ownBlock ∧ some k_ ≠ (.slice (some ad174) x23_5.length co97 : Value).ownBlock) (.slice (some ad172) x21_5.length co95) x21_5) := ⟨by rw [← hW_]; (with_reducible repeat (first | apply Kd.qQs | apply Kd.qQq | apply Kd.qQt)); exact Kd.qQv (Kd.R_far (p := ⟨gb119, 1, none⟩) (Kd.qZc HO_21.out BK119.out (by decide)) (fun _ hk => hk.2) (.int .i64 (wrap64 (x120001_6 + (rd x22_5 (rd t125 x163_6)))))) (fun _ hk => ⟨hk.1.1, hk.1.2⟩)⟩
       have n2_ : Aside0 (Kd.R (Kd.int .i64) 2 w106 w.heap.size (fun k_ => some k_ ≠ (.slice (some ad172) x21_5.length co95 : Value).ownBlock ∧ some k_ ≠ (.slice (some ad174) x23_5.length co97 : Value).ownBlock) (.slice (some ad173) x22_5.length co96) x22_5) := ⟨by rw [← hW_]; (with_reducible repeat (first | apply Kd.qQs | apply Kd.qQq | apply Kd.qQt)); exact Kd.qQv (Kd.R_far (p := ⟨gb119, 1, none⟩) (Kd.qZc HO_22.out BK119.out (by decide)) (fun _ hk => hk.2) (.int .i64 (wrap64 (x120001_6 + (rd x22_5 (rd t125 x163_6)))))) (fun _ hk => ⟨hk.1.1, hk.1.2⟩)⟩
       have n3_ : Aside0 (Kd.R (Kd.int .i64) 2 w106 w.heap.size (fun k_ => some k_ ≠ (.slice (some ad172) x21_5.length co95 : Value).ownBlock ∧ some k_ ≠ (.slice (some ad173) x22_5.length co96 : Value).ownBlock) (.slice (some ad174) x23_5.length co97) x23_5) := ⟨by rw [← hW_]; (with_reducible repeat (first | apply Kd.qQs | apply Kd.qQq | apply Kd.qQt)); exact Kd.qQv (Kd.R_far (p := ⟨gb119, 1, none⟩) (Kd.qZc HO_23.out BK119.out (by decide)) (fun _ hk => hk.2) (.int .i64 (wrap64 (x120001_6 + (rd x22_5 (rd t125 x163_6)))))) (fun _ hk => ⟨hk.1.1, hk.1.2⟩)⟩
       have n4_ : Aside0 (Kd.R (Kd.int .i64) 3 w106 w.heap.size (fun _ => True) (.slice (some ad170) t125.length co25) t125) := ⟨by rw [← hW_]; (with_reducible repeat (first | apply Kd.qQs | apply Kd.qQq | apply Kd.qQt)); exact Kd.qQv (Kd.R_far (p := ⟨gb119, 1, none⟩) (Kd.qZc HO_161.out BK119.out (by decide)) (fun _ hk => hk.2) (.int .i64 (wrap64 (x120001_6 + (rd x22_5 (rd t125 x163_6)))))) (fun _ hk => trivial)⟩
       have n5_ : Aside0 (w106.heap[gb119]? = some (.cells #[.int .i64 (wrap64 (x120000_6 + (rd x21_5 (rd t125 x163_6)))), .int .i64 (wrap64 (x120001_6 + (rd x22_5 (rd t125 x163_6)))), .int .i64 x120002_6, .int .i64 x120003_6] 26 (0, 0))) := ⟨by rw [← hW_]; (with_reducible repeat (first | refine qQm ?_ _ | refine qQk ?_ | refine qQo ?_ _)); refine qQ1 (cs := #[.int .i64 (wrap64 (x120000_6 + (rd x21_5 (rd t125 x163_6)))), .int .i64 x120001_6, .int .i64 x120002_6, .int .i64 x120003_6]) ?_ 1 _ rfl; (with_reducible repeat (first | refine qQm ?_ _ | refine qQk ?_ | refine qQo ?_ _)); exact BK119.out⟩
       have n6_ : Aside0 (Below w.heap.size w w106) := ⟨by rw [← hW_]; repeat (first | (with_reducible first | exact HB.out | apply qZ0 | apply qZh | apply qZg | refine qZv ?_ GE119.out) | exact HB.out)⟩
       (try clear HO_4)
       (try clear HO_21)
       (try clear HO_22)
       (try clear HO_23)
       (try clear HO_161)
       (try clear BK119)
       (try clear HB)
       clear hW_
       have HO_4 := n0_
       have HO_21 := n1_
       have HO_22 := n2_
       have HO_23 := n3_
       have HO_161 := n4_
       have BK119 := n5_
       have HB := n6_
       clear n0_ n1_ n2_ n3_ n4_ n5_ n6_
       have n0_ := am (Kd.qQt HO_4.out)
       have n1_ := am (Kd.qQt HO_21.out)
       have n2_ := am (Kd.qQt HO_22.out)
       have n3_ := am (Kd.qQt HO_23.out)
       have n4_ := am (Kd.qQt HO_161.out)
       have n5_ := am (qQk BK119.out)
       have n6_ := am (qZg HB.out)
       clear HO_4 HO_21 HO_22 HO_23 HO_161 BK119 HB
       have HO_4 := n0_
       have HO_21 := n1_
       have HO_22 := n2_
       have HO_23 := n3_
       have HO_161 := n4_
       have BK119 := n5_
       have HB := n6_
       clear n0_ n1_ n2_ n3_ n4_ n5_ n6_
       have p192 : 0 ≤ ((rd t125 x163_6) : Int) := yd
       have q192 : (rd t125 x163_6) < (x23_5.length : Int) := yd
       obtain ⟨ad192, e192, hx192_0⟩ := Kd.qYa (Kd.qQx HO_23.out).2.2 (rd t125 x163_6) p192 q192
       obtain rfl : ad174 = ad192 := (by injection e192)
       replace p192 := eq_true p192
       replace q192 := eq_true q192
       as_aux_lemma =>
       refine start_ (n := 9) (S := fun w' => w'.cell? ⟨gb119, 0, none⟩ = some (.int .i64 (wrap64 (x120000_6 + (rd x21_5 (rd t125 x163_6))))) ∧ w'.cell? ⟨gb119, 1, none⟩ = some (.int .i64 (wrap64 (x120001_6 + (rd x22_5 (rd t125 x163_6))))) ∧ w'.cell? ⟨gb119, 2, none⟩ = some (.int .i64 x120002_6) ∧ w'.cell? ⟨gb119, 3, none⟩ = some (.int .i64 x120003_6) ∧ w'.cell? (ad174.add ((rd t125 x163_6)).toNat) = some (.int .i64 (rd x23_5 (rd t125 x163_6)))) (ds := [8]) (qQg.fl 9 0) (by kernel_rfl) rfl rfl ⟨(qQa BK119.out 0).trans rfl, (qQa BK119.out 1).trans rfl, (qQa BK119.out 2).trans rfl, (qQa BK119.out 3).trans rfl, hx192_0⟩ (fun hHeld => ?_); refine qYg qQg.tab42 qQg.bits42 (fun HT_ HW_ => ?_)
       generalize w106.drew = w107 at HO_4 HO_21 HO_22 HO_23 HO_161 BK119 HB hx192_0 hHeld ⊢
       refine qQg.y 0 210 9 1 HT_.out ?_
       refine qQg.y 2 212 9 5 HT_.out ?_
       refine qQg.y 3 213 9 13 HT_.out ?_
       refine qQg.y 4 214 9 29 HT_.out ?_
       refine qQg.t 1 211 9 31 HT_.out HW_.out hHeld ?_
       refine qQg.t 5 215 9 63 HT_.out HW_.out hHeld ?_
       refine qQg.y 6 216 9 127 HT_.out ?_
       refine qQg.y 7 217 9 255 HT_.out ?_
       refine last_ (i := 8) (N := none) (qQg.fl 9 511) rfl rfl (qZ3 HT_.out (by kernel_rfl)) (by decide) (fun K hK => ?_)
       have hs108 : w107.cell? ⟨gb119, 2, none⟩ = some (.int .i64 x120002_6) := (qQa BK119.out 2).trans rfl
       have hfs108 := qQi BK119.out 2
       refine skip_ (w1 := ?_) (by rfl) rfl ?_ ?_
       rotate_left
       ·go_simp
        rfl
       refine hK.out _ _ ?_
       clear hK K
       refine done_ (qYw HT_.out (by kernel_rfl)) ?_
       try go_wp2
       go_roundg k6
       case measure => have := HJ3.out; have := HK2.out; have := HK3.out; have := HK4.out; have := HK5.out; have := HK6.out; omega
       case rel => exact ⟨(y189), (wrap64 (x163_6 + 1)), (wrap64 (x120000_6 + (rd x21_5 (rd t125 x163_6)))), (wrap64 (x120001_6 + (rd x22_5 (rd t125 x163_6)))), (wrap64 (x120002_6 + (rd x23_5 (rd t125 x163_6)))), (x120003_6), (by first | rfl | (simp; done) | (simp [*]; done)), H', ⟨by have := HJ3.out; have := HK2.out; have := HK3.out; have := HK4.out; have := HK5.out; have := HK6.out; omega⟩, ⟨by (with_reducible repeat (first | apply Kd.qQs | apply Kd.qQq | apply Kd.qQt)); exact Kd.qQv (Kd.R_far (p := ⟨gb119, 2, none⟩) (Kd.qZc HO_4.out BK119.out (by decide)) (fun _ hk => hk.2) (.int .i64 (wrap64 (x120002_6 + (rd x23_5 (rd t125 x163_6)))))) (fun _ hk => trivial)⟩, ⟨by (with_reducible repeat (first | apply Kd.qQs | apply Kd.qQq | apply Kd.qQt)); exact Kd.qQv (Kd.R_far (p := ⟨gb119, 2, none⟩) (Kd.qZc HO_21.out BK119.out (by decide)) (fun _ hk => hk.2) (.int .i64 (wrap64 (x120002_6 + (rd x23_5 (rd t125 x163_6)))))) (fun _ hk => ⟨hk.1.1, hk.1.2⟩)⟩, ⟨by (with_reducible repeat (first | apply Kd.qQs | apply Kd.qQq | apply Kd.qQt)); exact Kd.qQv (Kd.R_far (p := ⟨gb119, 2, none⟩) (Kd.qZc HO_22.out BK119.out (by decide)) (fun _ hk => hk.2) (.int .i64 (wrap64 (x120002_6 + (rd x23_5 (rd t125 x163_6)))))) (fun _ hk => ⟨hk.1.1, hk.1.2⟩)⟩, ⟨by (with_reducible repeat (first | apply Kd.qQs | apply Kd.qQq | apply Kd.qQt)); exact Kd.qQv (Kd.R_far (p := ⟨gb119, 2, none⟩) (Kd.qZc HO_23.out BK119.out (by decide)) (fun _ hk => hk.2) (.int .i64 (wrap64 (x120002_6 + (rd x23_5 (rd t125 x163_6)))))) (fun _ hk => ⟨hk.1.1, hk.1.2⟩)⟩, ⟨by (with_reducible repeat (first | apply Kd.qQs | apply Kd.qQq | apply Kd.qQt)); exact Kd.qQv (Kd.R_far (p := ⟨gb119, 2, none⟩) (Kd.qZc HO_161.out BK119.out (by decide)) (fun _ hk => hk.2) (.int .i64 (wrap64 (x120002_6 + (rd x23_5 (rd t125 x163_6)))))) (fun _ hk => trivial)⟩, ⟨by (with_reducible repeat (first | refine qQm ?_ _ | refine qQk ?_ | refine qQo ?_ _)); refine qQ1 (cs := #[.int .i64 (wrap64 (x120000_6 + (rd x21_5 (rd t125 x163_6)))), .int .i64 (wrap64 (x120001_6 + (rd x22_5 (rd t125 x163_6)))), .int .i64 x120002_6, .int .i64 x120003_6]) ?_ 2 _ rfl; (with_reducible repeat (first | refine qQm ?_ _ | refine qQk ?_ | refine qQo ?_ _)); exact BK119.out⟩, ⟨by exact hq HB.out GE119.out⟩⟩
end Go.Proofs.Yteemomncbcpdjaa.P
