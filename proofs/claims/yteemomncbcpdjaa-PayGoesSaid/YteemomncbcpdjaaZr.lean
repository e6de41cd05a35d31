/- A part of a proof. -/
import Derived.Test.YteemomncbcpdjaaZaa
import Derived.Test.YteemomncbcpdjaaPx10
import Derived.Test.YteemomncbcpdjaaPx11
import Derived.Test.YteemomncbcpdjaaPx12
import Derived.Test.YteemomncbcpdjaaPx9
import Derived.Test.YteemomncbcpdjaaZo
import Derived.Test.YteemomncbcpdjaaZst
import Derived.Test.YteemomncbcpdjaaZsu
import Derived.Test.YteemomncbcpdjaaZsv
namespace Go.Proofs.Yteemomncbcpdjaa.P
open Go.RowKit W.PrintWords W.PrintLast W.PrintMore
attribute [local go_sem] qZs qZq qZ5 qZ6 qZk qZl qZt qZp
set_option linter.unusedVariables false
set_option linter.unusedSimpArgs false
structure SP3 where
 f0 : Int
 f1 : Int
 f2 : Int
def zP3 : SP3 := ⟨(0 : Int), (0 : Int), (0 : Int)⟩
def kP3 : Kd SP3 := Kd.iso (Kd.pair (Kd.int .i64) (Kd.pair (Kd.int .i64) (Kd.int .i64))) (fun x : SP3 => (x.f0, x.f1, x.f2))
theorem qXc {w : World} {base : Nat} {ok : Nat → Prop} {x : SP3} {cs : List Value} (h : kP3.M w base ok x cs) : cs = [.int .i64 x.f0, .int .i64 x.f1, .int .i64 x.f2] := by
 obtain ⟨_, _, rfl, rfl, ⟨_, _, rfl, rfl, rfl⟩⟩ := h
 exact rfl
theorem qVq (w : World) (base : Nat) (ok : Nat → Prop) (x : SP3) : kP3.M w base ok x [.int .i64 x.f0, .int .i64 x.f1, .int .i64 x.f2] := ⟨[.int .i64 x.f0], [.int .i64 x.f1, .int .i64 x.f2], rfl, rfl, ⟨[.int .i64 x.f1], [.int .i64 x.f2], rfl, rfl, rfl⟩⟩
def qQ0 (xs : List SP3) (i : Int) : SP3 := xs.getD i.toNat zP3
def P3.zero : Array Value := (List.replicate 48 (Value.int .i64 0)).toArray
theorem P3.zi : Try.t61.zero.map (fun z => z.cells.toList) = some (List.replicate 48 (Value.int .i64 0)) := by kernel_rfl
theorem P3.zero_ (W : World) : Sem.run Try.prog (Instr.alloc 61 true (Value.tuple #[])) W = .ok (.pointer (some ⟨W.heap.size, 0, none⟩)) (W.alloc (.cells P3.zero 61 (0, 0))) := by
 obtain ⟨z, hz, h⟩ := Option.map_eq_some_iff.1 P3.zi
 have hc : z.cells = P3.zero := Array.toList_inj.1 h
 simp [Instr.alloc, zeroValue, newVar, newRow, hz, hc]
theorem P3.alloc_ (W : World) {ev : Operand → Value} {o : Oper} (ho : o.op = .alloc 61 := by rfl) : (execOp ev o).run Try.prog W = .ok (.value (.pointer (some ⟨W.heap.size, 0, none⟩))) (W.alloc (.cells P3.zero 61 (0, 0))) := by
 simp [execOp, ho, P3.zero_]
theorem P3.made {w : World} {base g : Nat} (hb : base ≤ g) (h : w.heap[g]? = some (.cells P3.zero 61 (0, 0))) : Kd.R kP3 61 w base (fun _ => True) (.slice (some ⟨g, 0, none⟩) 16 16) (List.replicate 16 zP3) := by
 refine ⟨fun _ _ => trivial, List.replicate 48 (Value.int .i64 0), ⟨by simp [kP3, Kd.iso, Kd.pair, Kd.int, Kd.scalar], .inr ⟨g, 16, P3.zero, by simp, hb, h, Nat.le_refl _, by decide, by simp [P3.zero, kP3, Kd.iso, Kd.pair, Kd.int, Kd.scalar], by simp [P3.zero, kP3, Kd.iso, Kd.pair, Kd.int, Kd.scalar]⟩⟩, ?_⟩
 refine ⟨by simp [kP3, Kd.iso, Kd.pair, Kd.int, Kd.scalar], fun j p hj => ?_⟩
 have hjl : j < 16 := by have := (List.getElem?_eq_some_iff.1 hj).1; simpa using this
 have hp : p = zP3 := by have := (List.getElem?_eq_some_iff.1 hj).2; rw [List.getElem_replicate] at this; exact this.symm
 subst hp
 have e : ((List.replicate 48 (Value.int .i64 0)).drop (j * 3)).take 3 = [.int .i64 0, .int .i64 0, .int .i64 0] := by
  rw [List.drop_replicate, List.take_replicate, show min 3 (48 - j * 3) = 3 by omega]; rfl
 show kP3.M _ _ _ zP3 (((List.replicate 48 (Value.int .i64 0)).drop (j * 3)).take 3)
 rw [e]
 exact qVq _ _ _ zP3
theorem P3.form {a b n c : Nat} (h : Value.slice (some ⟨a, 0, none⟩) 16 16 = .slice (some ⟨b, 0, none⟩) n c) : b = a := by
 injection h with h1 h2 h3
 injection h1 with h1
 injection h1 with h1
 exact h1.symm
theorem P3.at_ {w : World} {base g : Nat} {ok : Nat → Prop} {xs : List SP3} (h : Kd.R kP3 61 w base ok (.slice (some ⟨g, 0, none⟩) 16 16) xs) (i : Int) (h0 : 0 ≤ i) (h1 : i < xs.length) :
  w.cell? ⟨g, (i).toNat * 3, none⟩ = some (.int .i64 (qQ0 xs i).f0) ∧ w.cell? ⟨g, (i).toNat * 3 + 1, none⟩ = some (.int .i64 (qQ0 xs i).f1) ∧ w.cell? ⟨g, (i).toNat * 3 + 2, none⟩ = some (.int .i64 (qQ0 xs i).f2) := by
 obtain ⟨ce, hcl, hM, hcc, hfr⟩ := Kd.qXy h zP3 i h0 (by have e_ := (Kd.qQx h).1; omega)
 obtain rfl := qXc hM
 exact ⟨hcc 0 _ rfl, hcc 1 _ rfl, hcc 2 _ rfl⟩
theorem far13 {w : World} {g h j : Nat} (hne : h ≠ g) {v0 v1 v2 v3 v4 v5 v6 v7 v8 v9 v10 v11 v12 : Value} : ((((((((((((((w).setCell ⟨g, 0, none⟩ v0).setCell ⟨g, 1, none⟩ v1).setCell ⟨g, 2, none⟩ v2).setCell ⟨g, 3, none⟩ v3).setCell ⟨g, 4, none⟩ v4).setCell ⟨g, 5, none⟩ v5).setCell ⟨g, 6, none⟩ v6).setCell ⟨g, 7, none⟩ v7).setCell ⟨g, 8, none⟩ v8).setCell ⟨g, 9, none⟩ v9).setCell ⟨g, 10, none⟩ v10).setCell ⟨g, 11, none⟩ v11).setCell ⟨g, 12, none⟩ v12).cell? ⟨h, j, none⟩ = w.cell? ⟨h, j, none⟩ := by
 iterate 13 rw [cell_far (by exact hne)]
mutual
def qQe.j0 : Nat → List (S43) → Int → Bool → Option ((List (S43)) × Int × Int × Int × Int × Int)
 | 0, _, _, _ => none
 | k + 1, x0, x1, x34 => if x34 = true then (some (([] : List (S43)), 0, 0, 0, 0, 1)) else (if 16 ≤ 11728124029610 then (qQe.l0 k x0 x1 (List.replicate 16 zP3) 0) else (none))
def qQe.l0 : Nat → List (S43) → Int → List (SP3) → Int → Option ((List (S43)) × Int × Int × Int × Int × Int)
 | 0, _, _, _, _ => none
 | k + 1, x0, x1, x6, x7 => if x7 < (x0.length : Int) then (if 0 ≤ x7 then ((qQd.f k ((qQc x0 x7).f0) ((qQc x0 x7).f1) ((qQc x0 x7).f2) ((qQc x0 x7).f3) ((qQc x0 x7).f4) ((qQc x0 x7).f5) ((qQc x0 x7).f6) ((qQc x0 x7).f7) ((qQc x0 x7).f8) ((qQc x0 x7).f9) ((qQc x0 x7).f10) ((qQc x0 x7).f11) ((qQc x0 x7).f12)).bind fun t122 => (if t122 = true then (qQe.l0 k x0 x1 x6 (wrap64 (x7 + 1))) else (some (([] : List (S43)), 0, 0, 0, 0, 1)))) else (none)) else ((qQf.f k x0).bind fun t124 => ((qQz.f k x0).bind fun t127 => (qQe.l1 k x0 x6 x1 t124 t127 0 0 0 0 0)))
def qQe.l1 : Nat → List (S43) → List (SP3) → Int → List Int → List Int → Int → Int → Int → Int → Int → Option ((List (S43)) × Int × Int × Int × Int × Int)
 | 0, _, _, _, _, _, _, _, _, _, _ => none
 | k + 1, x0, x6, x9, x10, x11, x12, x124000, x124001, x124002, x124003 => if x12 < (x10.length : Int) then (if 0 ≤ x12 then (if 0 ≤ (rd x10 x12) then (if (rd x10 x12) < (x0.length : Int) then (if (rd x10 x12) < (x6.length : Int) then (qQe.l1 k x0 (x6.set ((rd x10 x12) : Int).toNat (⟨mn x9 ((qQc x0 (rd x10 x12)).f4), (qQ0 x6 (rd x10 x12)).f1, (qQ0 x6 (rd x10 x12)).f2⟩ : SP3)) (wrap64 (x9 - (mn x9 ((qQc x0 (rd x10 x12)).f4)))) x10 x11 (wrap64 (x12 + 1)) (wrap64 (x124000 + (mn x9 ((qQc x0 (rd x10 x12)).f4)))) x124001 x124002 x124003) else (none)) else (none)) else (none)) else (none)) else (qQe.l2 k x0 x6 x9 x11 0 x124000 x124001 x124002 x124003)
def qQe.l2 : Nat → List (S43) → List (SP3) → Int → List Int → Int → Int → Int → Int → Int → Option ((List (S43)) × Int × Int × Int × Int × Int)
 | 0, _, _, _, _, _, _, _, _, _ => none
 | k + 1, x0, x6, x9, x11, x14, x124000, x124001, x124002, x124003 => if x14 < (x11.length : Int) then (if 0 ≤ x14 then (if 0 ≤ (rd x11 x14) then (if (rd x11 x14) < (x0.length : Int) then ((qZa.f ((qQc x0 (rd x11 x14)).f2)).bind fun t136 => (if (rd x11 x14) < (x6.length : Int) then (qQe.l2 k x0 (x6.set ((rd x11 x14) : Int).toNat (⟨(qQ0 x6 (rd x11 x14)).f0, mn x9 t136, (qQ0 x6 (rd x11 x14)).f2⟩ : SP3)) (wrap64 (x9 - (mn x9 t136))) x11 (wrap64 (x14 + 1)) x124000 (wrap64 (x124001 + (mn x9 t136))) x124002 x124003) else (none))) else (none)) else (none)) else (none)) else (qQe.l3 k x0 x6 x9 x11 0 x124000 x124001 x124002 x124003)
def qQe.l3 : Nat → List (S43) → List (SP3) → Int → List Int → Int → Int → Int → Int → Int → Option ((List (S43)) × Int × Int × Int × Int × Int)
 | 0, _, _, _, _, _, _, _, _, _ => none
 | k + 1, x0, x6, x9, x11, x16, x124000, x124001, x124002, x124003 => if x16 < (x11.length : Int) then (if 0 ≤ x16 then (if 0 ≤ (rd x11 x16) then (if (rd x11 x16) < (x0.length : Int) then (if (rd x11 x16) < (x6.length : Int) then (qQe.l3 k x0 (x6.set ((rd x11 x16) : Int).toNat (⟨(qQ0 x6 (rd x11 x16)).f0, (qQ0 x6 (rd x11 x16)).f1, mn x9 ((qQc x0 (rd x11 x16)).f1)⟩ : SP3)) (wrap64 (x9 - (mn x9 ((qQc x0 (rd x11 x16)).f1)))) x11 (wrap64 (x16 + 1)) x124000 x124001 (wrap64 (x124002 + (mn x9 ((qQc x0 (rd x11 x16)).f1)))) x124003) else (none)) else (none)) else (none)) else (none)) else (qQe.l4 k x0 x6 ([] : List (S43)) 0 x124000 x124001 x124002 x9)
def qQe.l4 : Nat → List (S43) → List (SP3) → List (S43) → Int → Int → Int → Int → Int → Option ((List (S43)) × Int × Int × Int × Int × Int)
 | 0, _, _, _, _, _, _, _, _ => none
 | k + 1, x0, x6, x18, x19, x124000, x124001, x124002, x124003 => if x19 < (x0.length : Int) then (if 0 ≤ x19 then (if ((qQc x0 x19).f8) = 0 then (if x19 < (x6.length : Int) then ((qQp.f k ((qQc x0 x19).f0) ((qQc x0 x19).f1) ((qQc x0 x19).f2) ((qQc x0 x19).f3) ((qQc x0 x19).f4) ((qQc x0 x19).f5) ((qQc x0 x19).f6) ((qQc x0 x19).f7) ((qQc x0 x19).f8) ((qQc x0 x19).f9) ((qQc x0 x19).f10) ((qQc x0 x19).f11) ((qQc x0 x19).f12) ((qQ0 x6 x19).f0) ((qQ0 x6 x19).f1) ((qQ0 x6 x19).f2)).bind fun bt148 => (if bt148.2.2.2.2.2.2.2.2.2.2.2.2.2 = 0 then (if x18.length < 1353245080339 then (qQe.l4 k x0 x6 (x18 ++ [(⟨bt148.1, bt148.2.1, bt148.2.2.1, bt148.2.2.2.1, bt148.2.2.2.2.1, bt148.2.2.2.2.2.1, bt148.2.2.2.2.2.2.1, bt148.2.2.2.2.2.2.2.1, bt148.2.2.2.2.2.2.2.2.1, bt148.2.2.2.2.2.2.2.2.2.1, bt148.2.2.2.2.2.2.2.2.2.2.1, bt148.2.2.2.2.2.2.2.2.2.2.2.1, bt148.2.2.2.2.2.2.2.2.2.2.2.2.1⟩ : S43)]) (wrap64 (x19 + 1)) x124000 x124001 x124002 x124003) else (none)) else (some (([] : List (S43)), 0, 0, 0, 0, bt148.2.2.2.2.2.2.2.2.2.2.2.2.2)))) else (none)) else (if x18.length < 1353245080339 then (qQe.l4 k x0 x6 (x18 ++ [(⟨(qQc x0 x19).f0, (qQc x0 x19).f1, (qQc x0 x19).f2, (qQc x0 x19).f3, (qQc x0 x19).f4, (qQc x0 x19).f5, (qQc x0 x19).f6, (qQc x0 x19).f7, (qQc x0 x19).f8, (qQc x0 x19).f9, (qQc x0 x19).f10, (qQc x0 x19).f11, (qQc x0 x19).f12⟩ : S43)]) (wrap64 (x19 + 1)) x124000 x124001 x124002 x124003) else (none))) else (none)) else (some (x18, x124000, x124001, x124002, x124003, 0))
end
def qQe.f (k : Nat) (l0 : List (S43)) (a1 : Int) : Option ((List (S43)) × Int × Int × Int × Int × Int) := if (l0.length : Int) > 16 then (qQe.j0 k l0 a1 true) else (if a1 < 0 then (qQe.j0 k l0 a1 true) else ((qZ1.f a1).bind fun t117 => (qQe.j0 k l0 a1 (!t117))))
def qQe.T40 : Bool × List (List Nat × List Nat) := (true, [([], []), ([], []), ([1], [1]), ([2], [2]), ([3], [3]), ([], []), ([5], [5]), ([6], [6]), ([7], [7]), ([], []), ([9], [9]), ([10], [10]), ([11], [11]), ([0, 4, 8, 12], [0, 4, 8, 12]), ([13], [13]), ([14], [14]), ([14], [14]), ([], []), ([17, 15, 13, 0, 1, 2, 3, 4, 5, 6, 7, 8, 9, 10, 11, 12, 13, 14, 15, 17], [15, 17]), ([16, 18, 0, 1, 2, 3, 4, 5, 6, 7, 8, 9, 10, 11, 12, 13, 14, 15, 16, 17, 18], [16])])
def qQe.B40 : List Nat := [0, 0, 2, 6, 14, 0, 32, 96, 224, 0, 512, 1536, 3584, 8191, 16383, 32767, 32767, 0, 196607, 98303]
theorem qQe.tab40 : rtab .any (opsOf Try.f10 40) = qQe.T40 := by kernel_rfl
theorem qQe.bits40 : waitsOk qQe.T40.2 qQe.B40 = true := by kernel_rfl
section
variable {P : Program} {ops : Array Oper} {Q : Exit → Act → World → Prop} {S : World → Prop} {ds : List Nat} {fuel : Nat} {a a' : Act} {w : World} {oi : Oper} {v : Value} {T : Bool × List (List Nat × List Nat)} {B : List Nat}
def qQe.fl (n m : Nat) : Array Bool := ((List.range n).map fun j => m.testBit j).toArray
theorem qQe.y (i N n m : Nat) {l : Array Bool} (hT : rtab .any ops = T) (h : wpAnyLast P .any ops Q S ds fuel (qQe.fl n m) a' w)
  (hi : ops[i]? = some oi := by rfl) (hN : oi.dst = some N := by rfl) (hc : anyT T l.toList (qQe.fl n m).toList i = true := by kernel_rfl)
  (hQ : ∀ c a w, Q (.panic c) (a.put oi.dst v) w → Q (.panic c) a w := by exact fun _ _ _ h => h) (hw : Region.wanted oi (yielded ops a.tmps) = true := by rfl)
  (hy : ∀ w, (execOp a.eval oi).run P w = .ok (.value v) w := by (intro w'; go_simp; with_reducible rfl)) (ha : a.put (some N) v = a' := by (simp only [Act.put, List.setIfInBounds_toArray, List.set_cons_zero, List.set_cons_succ, i64_w, i32_w]; rfl)) :
  wpAnyLast P .any ops Q S ds (fuel + 1) l a w := pure_ (N := some N) (qQe.fl n m) hi hN (qWn hT hc) hQ (Or.inl ⟨hw, hy⟩) ha h
theorem qQe.t (i N n m : Nat) {l : Array Bool} (hT : rtab .any ops = T) (hB : waitsOk T.2 B = true) (hS : S w) (h : wpAnyLast P .any ops Q S ds fuel (qQe.fl n m) a' w)
  (hi : ops[i]? = some oi := by rfl) (hN : oi.dst = some N := by rfl) (hc : takeW T B ds l.toList (qQe.fl n m).toList i = true := by kernel_rfl)
  (hQ : ∀ c a w, Q (.panic c) (a.put oi.dst v) w → Q (.panic c) a w := by exact fun _ _ _ h => h) (hw : Region.wanted oi (yielded ops a.tmps) = true := by rfl)
  (hy : ∀ w, S w → (execOp a.eval oi).run P w = .ok (.value v) w := by (intro w' hs_; (try dsimp only at hs_); go_simp; with_reducible rfl)) (ha : a.put (some N) v = a' := by (simp only [Act.put, List.setIfInBounds_toArray, List.set_cons_zero, List.set_cons_succ, i64_w, i32_w]; rfl)) :
  wpAnyLast P .any ops Q S ds (fuel + 1) l a w := take_ (N := some N) (qQe.fl n m) hi hN (qXu hT hB hc) hQ (Or.inl ⟨hw, hy⟩) hS ha h
end
set_option maxHeartbeats 100000000 in
set_option maxRecDepth 100000 in
theorem qQe.calls (k : Nat) (A0 : Option Addr) (c0 : Nat) (l0 : List (S43)) (a1 : Int) (r1 : List (S43)) (r2 : Int) (r3 : Int) (r4 : Int) (r5 : Int) (r6 : Int) (w : World) (hr0 : Kd.C k43 w A0 l0.length l0) (hc0 : l0.length ≤ c0) (h : qQe.f k l0 a1 = some (r1, r2, r3, r4, r5, r6)) :
  Calls Try.prog 10 #[.slice A0 l0.length c0, .int .i64 a1] w fun e w' => ∃ v0_ : Value, e = .returned (.tuple #[.agg #[v0_, .int .i64 r2, .int .i64 r3, .int .i64 r4, .int .i64 r5], .int .i64 r6]) ∧ Kd.R k43 43 w' w.heap.size (fun _ => True) v0_ r1 ∧ Below w.heap.size w w' := by
 have hu31 := Try.underlying31
 have hu43 := Try.underlying43
 have hu26 := Try.underlying26
 have HR0 := am hr0
 have HC0 := am hc0
 clear hr0 hc0
 have HB := am (Below.refl w.heap.size w)
 have H : (if (l0.length : Int) > 16 then (qQe.j0 k l0 a1 true) else (if a1 < 0 then (qQe.j0 k l0 a1 true) else ((qZ1.f a1).bind fun t117 => (qQe.j0 k l0 a1 (!t117))))) = some (r1, r2, r3, r4, r5, r6) := h
 clear h
 have HC3 := am H
 clear H
 go_enter Try.func10, Try.ntmps10
 go_upto_region 1 with (first | ((with_reducible refine qZj (N := 4) rfl ?_); refine qZu ?hg (N := 4) ?hd (cs := #[.slice none 0 0, .int .i64 0, .int .i64 0, .int .i64 0, .int .i64 0]) (t := 31) ?hr ?_; (case hd => rfl); (case hg => rfl); (case hr => first | (go_simp; done) | (go_simp; rfl)); intro gb116 hg w4 hbox hb; have n0_ := am (qQn (by exact h0q HB.out) hb); have n1_ := am (hbox); have n2_ := am ((by rw [hg]; exact (qQh (by exact h0q HB.out)) : w.heap.size ≤ gb116)); have n3_ := am ((by rw [hg]; exact (qQh (by exact h0q HB.out)) : w.heap.size ≤ gb116)); clear HB; have HB := n0_; have BK116 := n1_; have GW116 := n2_; have GE116 := n3_; clear n0_ n1_ n2_ n3_; clear hb hbox hg))
 (try simp only [Act.put, List.setIfInBounds_toArray, List.set_cons_zero, List.set_cons_succ])
 go_cut [34] (fun v34 wc => ∃ (kq : Nat) (x34_2 : Bool), v34 = .bool x34_2 ∧ Aside0 (qQe.j0 kq l0 a1 x34_2 = some (r1, r2, r3, r4, r5, r6)) ∧ Aside0 (kq ≤ k) ∧ Aside0 (wc.heap[gb116]? = some (.cells #[(.slice none 0 0), .int .i64 0, .int .i64 0, .int .i64 0, .int .i64 0] 31 (0, 0))) ∧ Aside0 (Below w.heap.size w wc))
 case first =>
  have H := HC3.out
  clear HC3
  by_cases c5 : (l0.length : Int) > 16
  ·rw [if_pos c5] at H
   have c5b0 : decide (16 < (l0.length : Int)) = true := decide_eq_true c5
   have c5b1 : decide (16 < l0.length) = true := decide_eq_true (by omega)
   clear c5
   (first | rw [c5b0] | (simp only [i64_w, i32_w]; rw [c5b0]) | skip)
   have H' := am H
   clear H
   go_wp2
   go_meet
   case rel => exact ⟨_, (true), (by first | rfl | (simp; done) | (simp [*]; done)), H', ⟨by first | omega | exact Nat.le_refl _⟩, ⟨by exact bb BK116.out⟩, ⟨by exact h1q HB.out GE116.out⟩⟩
  rw [if_neg c5] at H
  have c5b0 : decide (16 < (l0.length : Int)) = false := decide_eq_false c5
  have c5b1 : decide (16 < l0.length) = false := decide_eq_false (by omega)
  clear c5
  (first | rw [c5b0] | (simp only [i64_w, i32_w]; rw [c5b0]) | skip)
  by_cases c6 : a1 < 0
  ·rw [if_pos c6] at H
   have c6b0 : decide (a1 < 0) = true := decide_eq_true c6
   clear c6
   have H' := am H
   clear H
   go_wp2
   go_meet
   case rel => exact ⟨_, (true), (by first | rfl | (simp; done) | (simp [*]; done)), H', ⟨by first | omega | exact Nat.le_refl _⟩, ⟨by exact bb BK116.out⟩, ⟨by exact h1q HB.out GE116.out⟩⟩
  rw [if_neg c6] at H
  have c6b0 : decide (a1 < 0) = false := decide_eq_false c6
  clear c6
  replace H := Option.bind_eq_some_iff.mp H
  obtain ⟨t117, A70, H⟩ := H
  replace H : (qQe.j0 k l0 a1 (!t117)) = some (r1, r2, r3, r4, r5, r6) := H
  have A7 := am A70
  clear A70
  have H' := am H
  clear H
  go_wp2_with (first | (go_at_call 29; (with_reducible refine (qZ1.calls a1 t117 _ A7.out).mono ?_); rintro e w' ⟨rfl, ⟨nd, rfl⟩⟩))
  go_meet
  case rel => exact ⟨_, (!t117), (by first | rfl | (simp; done) | (simp [*]; done)), H', ⟨by first | omega | exact Nat.le_refl _⟩, ⟨by exact bb BK116.out⟩, ⟨by exact h1q HB.out GE116.out⟩⟩
 case rest =>
  as_aux_lemma =>
  clear HC3
  try clear c5
  try clear c5b0 c5b1
  try clear c6
  try clear c6b0
  obtain ⟨kq, x34_2, rfl, HA, HJ2, BK116, HB⟩ := hcut
  rcases kq with _ | kj2
  ·exact absurd HA.out (by simp [qQe.j0])
  have H := HA.out
  clear HA
  simp only [qQe.j0] at H
  by_cases c8 : x34_2 = true
  ·subst c8
   have H1 : (some (([] : List (S43)), 0, 0, 0, 0, 1)) = some (r1, r2, r3, r4, r5, r6) := by rw [if_pos rfl] at H; exact H
   clear H
   have H := H1
   clear H1
   simp only [Option.some.injEq, Prod.mk.injEq] at H
   obtain ⟨rfl, rfl, rfl, rfl, rfl, rfl⟩ := H
   have hz9 := lc5_ BK116.out
   go_wp2
   refine bodyPost_ret (qYq rfl _ _ gb116 31 #[.slice none 0 0, .int .i64 0, .int .i64 0, .int .i64 0, .int .i64 0] (0, 0) _ rfl (by (with_reducible repeat (first | refine qQm ?_ _ | refine qQk ?_ | refine qQo ?_ _)); refine qQ1 (cs := #[.slice none 0 0, .int .i64 0, .int .i64 0, .int .i64 0, .int .i64 0]) ?_ 4 _ rfl; (with_reducible repeat (first | refine qQm ?_ _ | refine qQk ?_ | refine qQo ?_ _)); refine qQ1 (cs := #[.slice none 0 0, .int .i64 0, .int .i64 0, .int .i64 0, .int .i64 0]) ?_ 3 _ rfl; (with_reducible repeat (first | refine qQm ?_ _ | refine qQk ?_ | refine qQo ?_ _)); refine qQ1 (cs := #[.slice none 0 0, .int .i64 0, .int .i64 0, .int .i64 0, .int .i64 0]) ?_ 2 _ rfl; (with_reducible repeat (first | refine qQm ?_ _ | refine qQk ?_ | refine qQo ?_ _)); refine qQ1 (cs := #[.slice none 0 0, .int .i64 0, .int .i64 0, .int .i64 0, .int .i64 0]) ?_ 1 _ rfl; (with_reducible repeat (first | refine qQm ?_ _ | refine qQk ?_ | refine qQo ?_ _)); refine qQ1 (cs := #[.slice none 0 0, .int .i64 0, .int .i64 0, .int .i64 0, .int .i64 0]) ?_ 0 _ rfl; (with_reducible repeat (first | refine qQm ?_ _ | refine qQk ?_ | refine qQo ?_ _)); exact BK116.out) Try.underlying31 rfl (by kernel_rfl)) rfl ?_
   exact ⟨_, er, by first | exact Kd.R_nil _ _ _ _ _ | exact Kd.N_nil _ _ _ _ _ | exact Kd.V_nil _ _ _ _ _ | exact Kd.Q_nil _ _ _ _ _ | exact Kd.S_nil _ _ _ _ _, by exact h1q HB.out GE116.out⟩
  replace c8 := Bool.eq_false_iff.mpr c8
  subst c8
  have H1 : (if 16 ≤ 11728124029610 then (qQe.l0 kj2 l0 a1 (List.replicate 16 zP3) 0) else (none)) = some (r1, r2, r3, r4, r5, r6) := by rw [if_neg (show ¬ (false = true) by decide)] at H; exact H
  clear H
  have H := H1
  clear H1
  by_cases c10 : 16 ≤ 11728124029610
  case neg =>
   rw [if_neg c10] at H
   exact absurd H (by simp)
  rw [if_pos c10] at H
  have c10b0 := eq_true c10
  have c10b1 : decide (16 ≤ 11728124029610) = true := decide_eq_true c10
  clear c10
  obtain ⟨y118, hy118⟩ : ∃ y_ : List (SP3), y_ = (List.replicate 16 zP3) := ⟨_, rfl⟩
  replace H : (qQe.l0 kj2 l0 a1 y118 0) = some (r1, r2, r3, r4, r5, r6) := by first | (rw [hy118]; with_reducible exact H) | (have H2_ := (Option.bind_some _ _).symm.trans H; rw [hy118]; with_reducible exact H2_) | (have H2_ := (Option.bind_some _ _).symm.trans H; with_reducible exact H2_) | with_reducible exact H | (rw [hy118]; exact H) | exact H
  have Ny118 := am hy118
  clear hy118
  have H' := am H
  clear H
  go_wp2_with (first | ((with_reducible refine qZj (N := 6) rfl ?_); refine qZu ?hg (N := 6) ?hd (cs := P3.zero) (t := 61) ?hr ?_; (case hd => rfl); (case hg => rfl); (case hr => exact P3.alloc_ _); intro gp hgq w11 hbox hb; have ho12 := P3.made (Nat.le_of_eq hgq.symm) hbox; rw [← Ny118.out] at ho12; clear hbox hgq; have n0_ := am (Kd.qZe ho12 (qQh (by exact h1q HB.out GE116.out))); have n1_ := am (qQu (g := gb116) (Up.up BK116.out) hb); have n2_ := am (qQn (by exact h1q HB.out GE116.out) hb); clear BK116; clear HB; have HO120 := n0_; have BK116 := n1_; have HB := n2_; clear n0_ n1_ n2_; clear hb ho12))
  go_loopg [7] kj2 (fun kq v7 w' => ∃ (x7_2 : Int) (x117001_2 : Int) (x117002_2 : Int) (x117003_2 : Int) (x117004_2 : Int), v7 = .int .i64 x7_2 ∧ Aside0 (qQe.l0 kq l0 a1 y118 x7_2 = some (r1, r2, r3, r4, r5, r6)) ∧ Aside0 (kq ≤ kj2) ∧ Aside0 (Kd.R kP3 61 w' w.heap.size (fun _ => True) (.slice (some ⟨gp, 0, none⟩) 16 16) y118) ∧ Aside0 (w'.heap[gb116]? = some (.cells #[(.slice none 0 0), .int .i64 x117001_2, .int .i64 x117002_2, .int .i64 x117003_2, .int .i64 x117004_2] 31 (0, 0))) ∧ Aside0 (Below w.heap.size w w'))
  case atStart => exact ⟨(0), (0), (0), (0), (0), (by first | rfl | (simp; done) | (simp [*]; done)), H', ⟨Nat.le_refl _⟩, ⟨by exact rq HO120.out⟩, ⟨by exact bb BK116.out⟩, ⟨by exact h1q HB.out GE116.out⟩⟩
  case round =>
   as_aux_lemma =>
   clear H'
   try clear c5
   try clear c5b0 c5b1
   try clear c6
   try clear c6b0
   try clear c8
   try clear c10
   try clear c10b0 c10b1
   try clear hz9
   obtain ⟨x7_2, x117001_2, x117002_2, x117003_2, x117004_2, rfl, HA, HK2, HO_6, BK116, HB⟩ := hrel
   rcases gk with _ | k2
   ·exact absurd HA.out (by simp [qQe.l0])
   have H := HA.out
   clear HA
   simp only [qQe.l0] at H
   by_cases c13 : x7_2 < (l0.length : Int)
   ·rw [if_pos c13] at H
    have c13b0 : decide (x7_2 < (l0.length : Int)) = true := decide_eq_true c13
    clear c13
    by_cases c14 : 0 ≤ x7_2
    case neg =>
     rw [if_neg c14] at H
     exact absurd H (by simp)
    rw [if_pos c14] at H
    have c14b0 : decide (0 ≤ x7_2) = true := decide_eq_true c14
    clear c14
    replace H := Option.bind_eq_some_iff.mp H
    obtain ⟨t122, A150, H⟩ := H
    replace H : (if t122 = true then (qQe.l0 k2 l0 a1 y118 (wrap64 (x7_2 + 1))) else (some (([] : List (S43)), 0, 0, 0, 0, 1))) = some (r1, r2, r3, r4, r5, r6) := H
    have A15 := am A150
    clear A150
    by_cases c16 : t122 = true
    ·subst c16
     have H1 : (qQe.l0 k2 l0 a1 y118 (wrap64 (x7_2 + 1))) = some (r1, r2, r3, r4, r5, r6) := by rw [if_pos rfl] at H; exact H
     clear H
     have H := H1
     clear H1
     have H' := am H
     clear H
     have p121 : 0 ≤ (x7_2 : Int) := yd
     have q121 : x7_2 < (l0.length : Int) := yd
     obtain ⟨ad121, e121, hx121_0, hx121_1, hx121_2, hx121_3, hx121_4, hx121_5, hx121_6, hx121_7, hx121_8, hx121_9, hx121_10, hx121_11, hx121_12⟩ := qYl HR0.out x7_2 p121 q121
     cases e121
     replace hx121_0 := hxb HB.out hx121_0
     replace hx121_1 := hxb HB.out hx121_1
     replace hx121_2 := hxb HB.out hx121_2
     replace hx121_3 := hxb HB.out hx121_3
     replace hx121_4 := hxb HB.out hx121_4
     replace hx121_5 := hxb HB.out hx121_5
     replace hx121_6 := hxb HB.out hx121_6
     replace hx121_7 := hxb HB.out hx121_7
     replace hx121_8 := hxb HB.out hx121_8
     replace hx121_9 := hxb HB.out hx121_9
     replace hx121_10 := hxb HB.out hx121_10
     replace hx121_11 := hxb HB.out hx121_11
     replace hx121_12 := hxb HB.out hx121_12
     replace p121 := eq_true p121
     replace q121 := eq_true q121
     go_wp2_with (first | ((with_reducible refine qQ4 (f := 30) rfl ?_); refine goesL_ (some 46) rfl rfl Try.func30 (by kernel_rfl) rfl #[.agg #[.int .i64 ((qQc l0 x7_2).f0), .int .i64 ((qQc l0 x7_2).f1), .int .i64 ((qQc l0 x7_2).f2), .int .i64 ((qQc l0 x7_2).f3), .int .i64 ((qQc l0 x7_2).f4), .int .i64 ((qQc l0 x7_2).f5), .bool ((qQc l0 x7_2).f6), .int .i64 ((qQc l0 x7_2).f7), .int .i64 ((qQc l0 x7_2).f8), .int .i64 ((qQc l0 x7_2).f9), .int .i64 ((qQc l0 x7_2).f10), .int .i64 ((qQc l0 x7_2).f11), .int .i64 ((qQc l0 x7_2).f12)]] rfl ml ?_; (with_reducible refine (qQd.calls k2 ((qQc l0 x7_2).f0) ((qQc l0 x7_2).f1) ((qQc l0 x7_2).f2) ((qQc l0 x7_2).f3) ((qQc l0 x7_2).f4) ((qQc l0 x7_2).f5) ((qQc l0 x7_2).f6) ((qQc l0 x7_2).f7) ((qQc l0 x7_2).f8) ((qQc l0 x7_2).f9) ((qQc l0 x7_2).f10) ((qQc l0 x7_2).f11) ((qQc l0 x7_2).f12) true _ A15.out).mono ?_); rintro e w17 ⟨rfl, hb⟩; refine ⟨_, rfl, ?_⟩; have n0_ := am (Kd.qQw (by exact rq HO_6.out) hb); have n1_ := am (qQu (g := gb116) (Up.up BK116.out) hb); have n2_ := am (qQn (by exact h1q HB.out GE116.out) hb); clear HO_6; clear BK116; clear HB; have HO_6 := n0_; have BK116 := n1_; have HB := n2_; clear n0_ n1_ n2_; (try clear hb); (try clear hb2); (try clear hk); (try clear hi)))
     go_roundg k2
     case measure => have := HJ2.out; have := HK2.out; omega
     case rel => exact ⟨(wrap64 (x7_2 + 1)), (x117001_2), (x117002_2), (x117003_2), (x117004_2), (by first | rfl | (simp; done) | (simp [*]; done)), H', ⟨by have := HJ2.out; have := HK2.out; omega⟩, ⟨by exact rq HO_6.out⟩, ⟨by exact bb BK116.out⟩, ⟨by exact h1q HB.out GE116.out⟩⟩
    replace c16 := Bool.eq_false_iff.mpr c16
    subst c16
    have H1 : (some (([] : List (S43)), 0, 0, 0, 0, 1)) = some (r1, r2, r3, r4, r5, r6) := by rw [if_neg (show ¬ (false = true) by decide)] at H; exact H
    clear H
    have H := H1
    clear H1
    simp only [Option.some.injEq, Prod.mk.injEq] at H
    obtain ⟨rfl, rfl, rfl, rfl, rfl, rfl⟩ := H
    have p121 : 0 ≤ (x7_2 : Int) := yd
    have q121 : x7_2 < (l0.length : Int) := yd
    obtain ⟨ad121, e121, hx121_0, hx121_1, hx121_2, hx121_3, hx121_4, hx121_5, hx121_6, hx121_7, hx121_8, hx121_9, hx121_10, hx121_11, hx121_12⟩ := qYl HR0.out x7_2 p121 q121
    cases e121
    replace hx121_0 := hxb HB.out hx121_0
    replace hx121_1 := hxb HB.out hx121_1
    replace hx121_2 := hxb HB.out hx121_2
    replace hx121_3 := hxb HB.out hx121_3
    replace hx121_4 := hxb HB.out hx121_4
    replace hx121_5 := hxb HB.out hx121_5
    replace hx121_6 := hxb HB.out hx121_6
    replace hx121_7 := hxb HB.out hx121_7
    replace hx121_8 := hxb HB.out hx121_8
    replace hx121_9 := hxb HB.out hx121_9
    replace hx121_10 := hxb HB.out hx121_10
    replace hx121_11 := hxb HB.out hx121_11
    replace hx121_12 := hxb HB.out hx121_12
    replace p121 := eq_true p121
    replace q121 := eq_true q121
    go_wp2_with (first | ((with_reducible refine qQ4 (f := 30) rfl ?_); refine goesL_ (some 46) rfl rfl Try.func30 (by kernel_rfl) rfl #[.agg #[.int .i64 ((qQc l0 x7_2).f0), .int .i64 ((qQc l0 x7_2).f1), .int .i64 ((qQc l0 x7_2).f2), .int .i64 ((qQc l0 x7_2).f3), .int .i64 ((qQc l0 x7_2).f4), .int .i64 ((qQc l0 x7_2).f5), .bool ((qQc l0 x7_2).f6), .int .i64 ((qQc l0 x7_2).f7), .int .i64 ((qQc l0 x7_2).f8), .int .i64 ((qQc l0 x7_2).f9), .int .i64 ((qQc l0 x7_2).f10), .int .i64 ((qQc l0 x7_2).f11), .int .i64 ((qQc l0 x7_2).f12)]] rfl ml ?_; (with_reducible refine (qQd.calls k2 ((qQc l0 x7_2).f0) ((qQc l0 x7_2).f1) ((qQc l0 x7_2).f2) ((qQc l0 x7_2).f3) ((qQc l0 x7_2).f4) ((qQc l0 x7_2).f5) ((qQc l0 x7_2).f6) ((qQc l0 x7_2).f7) ((qQc l0 x7_2).f8) ((qQc l0 x7_2).f9) ((qQc l0 x7_2).f10) ((qQc l0 x7_2).f11) ((qQc l0 x7_2).f12) false _ A15.out).mono ?_); rintro e w18 ⟨rfl, hb⟩; refine ⟨_, rfl, ?_⟩; have n0_ := am (Kd.qQw (by exact rq HO_6.out) hb); have n1_ := am (qQu (g := gb116) (Up.up BK116.out) hb); have n2_ := am (qQn (by exact h1q HB.out GE116.out) hb); clear HO_6; clear BK116; clear HB; have HO_6 := n0_; have BK116 := n1_; have HB := n2_; clear n0_ n1_ n2_; (try clear hb); (try clear hb2); (try clear hk); (try clear hi); have hcz19_0 : w18.cell? ⟨gb116, 0, none⟩ = some (.slice none 0 0) := (qQa BK116.out 0).trans rfl; have hcz19_1 : w18.cell? ⟨gb116, 1, none⟩ = some (.int .i64 x117001_2) := (qQa BK116.out 1).trans rfl; have hcz19_2 : w18.cell? ⟨gb116, 2, none⟩ = some (.int .i64 x117002_2) := (qQa BK116.out 2).trans rfl; have hcz19_3 : w18.cell? ⟨gb116, 3, none⟩ = some (.int .i64 x117003_2) := (qQa BK116.out 3).trans rfl; have hcz19_4 : w18.cell? ⟨gb116, 4, none⟩ = some (.int .i64 x117004_2) := (qQa BK116.out 4).trans rfl; have hfz19_0 := qQi BK116.out 0; have hfz19_1 := qQi BK116.out 1; have hfz19_2 := qQi BK116.out 2; have hfz19_3 := qQi BK116.out 3; have hfz19_4 := qQi BK116.out 4))
    refine bodyPost_ret (qYq rfl _ _ gb116 31 #[.slice none 0 0, .int .i64 0, .int .i64 0, .int .i64 0, .int .i64 0] (0, 0) _ rfl (by (with_reducible repeat (first | refine qQm ?_ _ | refine qQk ?_ | refine qQo ?_ _)); refine qQ1 (cs := #[.slice none 0 0, .int .i64 0, .int .i64 0, .int .i64 0, .int .i64 x117004_2]) ?_ 4 _ rfl; (with_reducible repeat (first | refine qQm ?_ _ | refine qQk ?_ | refine qQo ?_ _)); refine qQ1 (cs := #[.slice none 0 0, .int .i64 0, .int .i64 0, .int .i64 x117003_2, .int .i64 x117004_2]) ?_ 3 _ rfl; (with_reducible repeat (first | refine qQm ?_ _ | refine qQk ?_ | refine qQo ?_ _)); refine qQ1 (cs := #[.slice none 0 0, .int .i64 0, .int .i64 x117002_2, .int .i64 x117003_2, .int .i64 x117004_2]) ?_ 2 _ rfl; (with_reducible repeat (first | refine qQm ?_ _ | refine qQk ?_ | refine qQo ?_ _)); refine qQ1 (cs := #[.slice none 0 0, .int .i64 x117001_2, .int .i64 x117002_2, .int .i64 x117003_2, .int .i64 x117004_2]) ?_ 1 _ rfl; (with_reducible repeat (first | refine qQm ?_ _ | refine qQk ?_ | refine qQo ?_ _)); refine qQ1 (cs := #[.slice none 0 0, .int .i64 x117001_2, .int .i64 x117002_2, .int .i64 x117003_2, .int .i64 x117004_2]) ?_ 0 _ rfl; (with_reducible repeat (first | refine qQm ?_ _ | refine qQk ?_ | refine qQo ?_ _)); exact BK116.out) Try.underlying31 rfl (by kernel_rfl)) rfl ?_
    exact ⟨_, er, by first | exact Kd.R_nil _ _ _ _ _ | exact Kd.N_nil _ _ _ _ _ | exact Kd.V_nil _ _ _ _ _ | exact Kd.Q_nil _ _ _ _ _ | exact Kd.S_nil _ _ _ _ _, by exact h1q HB.out GE116.out⟩
   rw [if_neg c13] at H
   have c13b0 : decide (x7_2 < (l0.length : Int)) = false := decide_eq_false c13
   clear c13
   replace H := Option.bind_eq_some_iff.mp H
   obtain ⟨t124, A200, H⟩ := H
   replace H : ((qQz.f k2 l0).bind fun t127 => (qQe.l1 k2 l0 y118 a1 t124 t127 0 0 0 0 0)) = some (r1, r2, r3, r4, r5, r6) := H
   have A20 := am A200
   clear A200
   replace H := Option.bind_eq_some_iff.mp H
   obtain ⟨t127, A210, H⟩ := H
   replace H : (qQe.l1 k2 l0 y118 a1 t124 t127 0 0 0 0 0) = some (r1, r2, r3, r4, r5, r6) := H
   have A21 := am A210
   clear A210
   have H' := am H
   clear H
   go_wp2_with (first | ((with_reducible refine qZj (N := 8) rfl ?_); refine qZu ?hg (N := 8) ?hd (cs := #[.int .i64 0, .int .i64 0, .int .i64 0, .int .i64 0]) (t := 26) ?hr ?_; (case hd => rfl); (case hg => rfl); (case hr => first | (go_simp; done) | (go_simp; rfl)); intro gb123 hg w22 hbox hb; have n0_ := am (Kd.qQw (by exact rq HO_6.out) hb); have n1_ := am (qQu (g := gb116) (Up.up BK116.out) hb); have n2_ := am (qQn (by exact h1q HB.out GE116.out) hb); have n3_ := am (hbox); have n4_ := am ((by rw [hg]; exact (qQh (by exact h1q HB.out GE116.out)) : w.heap.size ≤ gb123)); have n5_ := am ((by rw [hg]; exact (qQh (by exact h1q HB.out GE116.out)) : w.heap.size ≤ gb123)); have n6_ := am ((by rw [hg]; exact Nat.ne_of_lt (qZd (g := gb116) (Up.up BK116.out)) : gb116 ≠ gb123)); have n7_ := am ((by rw [hg]; exact Nat.ne_of_gt (qZd (g := gb116) (Up.up BK116.out)) : gb123 ≠ gb116)); clear HO_6; clear BK116; clear HB; have HO_6 := n0_; have BK116 := n1_; have HB := n2_; have BK123 := n3_; have GW123 := n4_; have GE123 := n5_; have NB116_123 := n6_; have NB123_116 := n7_; clear n0_ n1_ n2_ n3_ n4_ n5_ n6_ n7_; clear hb hbox hg) | ((with_reducible refine qQ4 (f := 31) rfl ?_); refine goesL_ (some 51) rfl rfl Try.func31 (by kernel_rfl) rfl #[.slice A0 l0.length c0] rfl ml ?_; (with_reducible refine (qQf.calls k2 _ _ l0 t124 _ ?side1 ?side2 A20.out).mono ?_); (case side1 => exact cq ((Kd.qZw HR0.out HB.out))); (case side2 => exact HC0.out); rintro e w23 ⟨v125, rfl, ho0, hb⟩; refine ⟨_, rfl, ?_⟩; have n0_ := am (Kd.qQw (by exact rq HO_6.out) hb); have n1_ := am (Kd.qZe ho0 (qQh (by exact h2q HB.out GE116.out GE123.out))); have n2_ := am (qQu (g := gb116) (Up.up BK116.out) hb); have n3_ := am (qQu (g := gb123) (Up.up BK123.out) hb); have n4_ := am (qQn (by exact h2q HB.out GE116.out GE123.out) hb); clear HO_6; clear BK116; clear BK123; clear HB; have HO_6 := n0_; have HO126 := n1_; have BK116 := n2_; have BK123 := n3_; have HB := n4_; clear n0_ n1_ n2_ n3_ n4_; (try clear hb); (try clear hb2); (try clear hk); (try clear hi); (try clear ho0)) | ((with_reducible refine qQ4 (f := 13) rfl ?_); refine goesL_ (some 53) rfl rfl Try.func13 (by kernel_rfl) rfl #[.slice A0 l0.length c0] rfl ml ?_; (with_reducible refine (qQz.calls k2 _ _ l0 t127 _ ?side1 ?side2 A21.out).mono ?_); (case side1 => exact cq ((Kd.qZw HR0.out HB.out))); (case side2 => exact HC0.out); rintro e w24 ⟨v128, rfl, ho0, hb⟩; refine ⟨_, rfl, ?_⟩; have n0_ := am (Kd.qQw (by exact rq HO_6.out) hb); have n1_ := am (Kd.qQ7 (by exact rq HO126.out) (Kd.qZo ho0) hb); have n2_ := am (Kd.qZe (Kd.qZn ho0 (Kd.R_lt (by exact rq HO126.out))) (qQh (by exact h2q HB.out GE116.out GE123.out))); have n3_ := am (qQu (g := gb116) (Up.up BK116.out) hb); have n4_ := am (qQu (g := gb123) (Up.up BK123.out) hb); have n5_ := am (qQn (by exact h2q HB.out GE116.out GE123.out) hb); clear HO_6; clear HO126; clear BK116; clear BK123; clear HB; have HO_6 := n0_; have HO126 := n1_; have HO129 := n2_; have BK116 := n3_; have BK123 := n4_; have HB := n5_; clear n0_ n1_ n2_ n3_ n4_ n5_; (try clear hb); (try clear hb2); (try clear hk); (try clear hi); (try clear ho0)))
   go_loopg [9, 12] k2 (fun kq v9 v12 w' => ∃ (x6_3 : List (SP3)) (x9_3 : Int) (x12_3 : Int) (x124000_3 : Int), v9 = .int .i64 x9_3 ∧ v12 = .int .i64 x12_3 ∧ Aside0 (qQe.l1 kq l0 x6_3 x9_3 t124 t127 x12_3 x124000_3 0 0 0 = some (r1, r2, r3, r4, r5, r6)) ∧ Aside0 (kq ≤ k2) ∧ Aside0 (Kd.R kP3 61 w' w.heap.size (fun _ => True) (.slice (some ⟨gp, 0, none⟩) 16 16) x6_3) ∧ Aside0 (Kd.R (Kd.int .i64) 3 w' w.heap.size (fun k_ => some k_ ≠ (v128 : Value).ownBlock) v125 t124) ∧ Aside0 (Kd.R (Kd.int .i64) 3 w' w.heap.size (fun k_ => some k_ ≠ (v125 : Value).ownBlock) v128 t127) ∧ Aside0 (w'.heap[gb116]? = some (.cells #[(.slice none 0 0), .int .i64 x117001_2, .int .i64 x117002_2, .int .i64 x117003_2, .int .i64 x117004_2] 31 (0, 0))) ∧ Aside0 (w'.heap[gb123]? = some (.cells #[.int .i64 x124000_3, .int .i64 0, .int .i64 0, .int .i64 0] 26 (0, 0))) ∧ Aside0 (Below w.heap.size w w'))
   case atStart => exact ⟨(y118), (a1), (0), (0), (by first | rfl | (simp; done) | (simp [*]; done)), (by first | rfl | (simp; done) | (simp [*]; done)), H', ⟨Nat.le_refl _⟩, ⟨by exact rq HO_6.out⟩, ⟨by (with_reducible repeat (first | apply Kd.qQs | apply Kd.qQq | apply Kd.qQt)); exact Kd.qQv HO126.out (fun _ hk => hk.2)⟩, ⟨by (with_reducible repeat (first | apply Kd.qQs | apply Kd.qQq | apply Kd.qQt)); exact Kd.qQv HO129.out (fun _ hk => hk.2)⟩, ⟨by exact bb BK116.out⟩, ⟨by exact bb BK123.out⟩, ⟨by exact h2q HB.out GE116.out GE123.out⟩⟩
   case round =>
    as_aux_lemma =>
    clear H'
    try clear c5
    try clear c5b0 c5b1
    try clear c6
    try clear c6b0
    try clear c8
    try clear c10
    try clear c10b0 c10b1
    try clear c13
    try clear c13b0
    try clear c14
    try clear c14b0
    try clear c16
    try clear hcz19_0
    try clear hcz19_1
    try clear hcz19_2
    try clear hcz19_3
    try clear hcz19_4
    try clear hz9
    try clear hfz19_0
    try clear hfz19_1
    try clear hfz19_2
    try clear hfz19_3
    try clear hfz19_4
    try clear hx121_0 hx121_1 hx121_10 hx121_11 hx121_12 hx121_2 hx121_3 hx121_4 hx121_5 hx121_6 hx121_7 hx121_8 hx121_9
    try clear p121 q121
    obtain ⟨x6_3, x9_3, x12_3, x124000_3, rfl, rfl, HA, HK3, HO_6, HO_10, HO_11, BK116, BK123, HB⟩ := hrel
    rcases gk with _ | k3
    ·exact absurd HA.out (by simp [qQe.l1])
    have H := HA.out
    clear HA
    simp only [qQe.l1] at H
    by_cases c25 : x12_3 < (t124.length : Int)
    ·rw [if_pos c25] at H
     have c25b0 : decide (x12_3 < (t124.length : Int)) = true := decide_eq_true c25
     clear c25
     by_cases c26 : 0 ≤ x12_3
     case neg =>
      rw [if_neg c26] at H
      exact absurd H (by simp)
     rw [if_pos c26] at H
     have c26b0 : decide (0 ≤ x12_3) = true := decide_eq_true c26
     clear c26
     by_cases c27 : 0 ≤ (rd t124 x12_3)
     case neg =>
      rw [if_neg c27] at H
      exact absurd H (by simp)
     rw [if_pos c27] at H
     have c27b0 : decide (0 ≤ (rd t124 x12_3)) = true := decide_eq_true c27
     clear c27
     by_cases c28 : (rd t124 x12_3) < (l0.length : Int)
     case neg =>
      rw [if_neg c28] at H
      exact absurd H (by simp)
     rw [if_pos c28] at H
     have c28b0 : decide ((rd t124 x12_3) < (l0.length : Int)) = true := decide_eq_true c28
     clear c28
     obtain ⟨ji29, hji29⟩ : ∃ j_ : Int, (mn x9_3 ((qQc l0 (rd t124 x12_3)).f4)) = j_ := ⟨_, rfl⟩
     replace H : (if (rd t124 x12_3) < (x6_3.length : Int) then (qQe.l1 k3 l0 (x6_3.set ((rd t124 x12_3) : Int).toNat (⟨ji29, (qQ0 x6_3 (rd t124 x12_3)).f1, (qQ0 x6_3 (rd t124 x12_3)).f2⟩ : SP3)) (wrap64 (x9_3 - (ji29))) t124 t127 (wrap64 (x12_3 + 1)) (wrap64 (x124000_3 + (ji29))) 0 0 0) else (none)) = some (r1, r2, r3, r4, r5, r6) := by first | (rw [hji29] at H; exact H) | (simp only [hji29] at H ⊢; exact H)
     have hji29_ : (if ((qQc l0 (rd t124 x12_3)).f4) < x9_3 then ((qQc l0 (rd t124 x12_3)).f4) else x9_3) = ji29 := hji29
     by_cases c30 : (rd t124 x12_3) < (x6_3.length : Int)
     case neg =>
      rw [if_neg c30] at H
      exact absurd H (by simp)
     rw [if_pos c30] at H
     have c30b0 : decide ((rd t124 x12_3) < (x6_3.length : Int)) = true := decide_eq_true c30
     clear c30
     obtain ⟨y133, hy133⟩ : ∃ y_ : List (SP3), y_ = (x6_3.set ((rd t124 x12_3) : Int).toNat (⟨ji29, (qQ0 x6_3 (rd t124 x12_3)).f1, (qQ0 x6_3 (rd t124 x12_3)).f2⟩ : SP3)) := ⟨_, rfl⟩
     replace H : (qQe.l1 k3 l0 y133 (wrap64 (x9_3 - (ji29))) t124 t127 (wrap64 (x12_3 + 1)) (wrap64 (x124000_3 + (ji29))) 0 0 0) = some (r1, r2, r3, r4, r5, r6) := by first | (rw [hy133]; with_reducible exact H) | (have H2_ := (Option.bind_some _ _).symm.trans H; rw [hy133]; with_reducible exact H2_) | (have H2_ := (Option.bind_some _ _).symm.trans H; with_reducible exact H2_) | with_reducible exact H | (rw [hy133]; exact H) | exact H
     have Ny133 := am hy133
     clear hy133
     have H' := am H
     clear H
     obtain ⟨Ao32, co32, eo32⟩ := Kd.qZ8 HO_10.out
     subst eo32
     have p130 : 0 ≤ (x12_3 : Int) := yd
     have q130 : x12_3 < (t124.length : Int) := yd
     obtain ⟨ad130, e130, hx130_0⟩ := Kd.qYa (Kd.qQx HO_10.out).2.2 x12_3 p130 q130
     cases e130
     replace p130 := eq_true p130
     replace q130 := eq_true q130
     have p131 : 0 ≤ ((rd t124 x12_3) : Int) := yd
     have q131 : (rd t124 x12_3) < (l0.length : Int) := yd
     obtain ⟨ad131, e131, hx131_0, hx131_1, hx131_2, hx131_3, hx131_4, hx131_5, hx131_6, hx131_7, hx131_8, hx131_9, hx131_10, hx131_11, hx131_12⟩ := qYl HR0.out (rd t124 x12_3) p131 q131
     cases e131
     replace hx131_0 := hxb HB.out hx131_0
     replace hx131_1 := hxb HB.out hx131_1
     replace hx131_2 := hxb HB.out hx131_2
     replace hx131_3 := hxb HB.out hx131_3
     replace hx131_4 := hxb HB.out hx131_4
     replace hx131_5 := hxb HB.out hx131_5
     replace hx131_6 := hxb HB.out hx131_6
     replace hx131_7 := hxb HB.out hx131_7
     replace hx131_8 := hxb HB.out hx131_8
     replace hx131_9 := hxb HB.out hx131_9
     replace hx131_10 := hxb HB.out hx131_10
     replace hx131_11 := hxb HB.out hx131_11
     replace hx131_12 := hxb HB.out hx131_12
     replace p131 := eq_true p131
     replace q131 := eq_true q131
     have p132 : 0 ≤ (x12_3 : Int) := yd
     have q132 : x12_3 < (t124.length : Int) := yd
     obtain ⟨ad132, e132, hx132_0⟩ := Kd.qYa (Kd.qQx HO_10.out).2.2 x12_3 p132 q132
     obtain rfl : ad130 = ad132 := (by injection e132)
     replace p132 := eq_true p132
     replace q132 := eq_true q132
     have p31 : 0 ≤ ((rd t124 x12_3) : Int) := yd
     have q31 : ((rd t124 x12_3) : Int) < ((x6_3.length : Int) : Int) := yd
     obtain ⟨go31, co31, eo31, gb31, gl31, cl31, HG31⟩ := Kd.qWu HO_6.out (by omega)
     have e1_ := P3.form eo31
     rw [e1_] at gb31 gl31 HG31
     clear e1_ eo31
     have GB31 := am gb31
     have GG31 := am HG31
     clear gb31 gl31 HG31
     obtain ⟨ce31, hcl31, hM31, hcc31, hfr31⟩ := Kd.qXy HO_6.out zP3 ((rd t124 x12_3) : Int) p31 (by have e_ := (Kd.qQx HO_6.out).1; omega)
     have qa31 := eq_true (show ((rd t124 x12_3) : Int) < 16 by have e_ := (Kd.qQx HO_6.out).1; omega)
     obtain rfl := qXc hM31
     have hx31_0 : wr.cell? ⟨gp, ((rd t124 x12_3) : Int).toNat * 3, none⟩ = some (.int .i64 ((qQ0 x6_3 (rd t124 x12_3)).f0)) := hcc31 0 _ rfl
     have hx31_1 : wr.cell? ⟨gp, ((rd t124 x12_3) : Int).toNat * 3 + 1, none⟩ = some (.int .i64 ((qQ0 x6_3 (rd t124 x12_3)).f1)) := hcc31 1 _ rfl
     have hx31_2 : wr.cell? ⟨gp, ((rd t124 x12_3) : Int).toNat * 3 + 2, none⟩ = some (.int .i64 ((qQ0 x6_3 (rd t124 x12_3)).f2)) := hcc31 2 _ rfl
     have hf31_0 : wr.frozen? ⟨gp, ((rd t124 x12_3) : Int).toNat * 3, none⟩ = false := hfr31 0
     have hf31_1 : wr.frozen? ⟨gp, ((rd t124 x12_3) : Int).toNat * 3 + 1, none⟩ = false := hfr31 1
     have hf31_2 : wr.frozen? ⟨gp, ((rd t124 x12_3) : Int).toNat * 3 + 2, none⟩ = false := hfr31 2
     clear hcl31 hcc31 hfr31 hM31
     replace p31 := eq_true p31
     replace q31 := eq_true q31
     have HX33 := am (show Kd.R kP3 61 wr w.heap.size (fun _ => True) (.slice (some ⟨gp, 0, none⟩) 16 16) x6_3 from (by exact rq HO_6.out))
     obtain ⟨ce33, hcl33, hM33, hcc33, hfr33⟩ := Kd.qXy HX33.out zP3 ((rd t124 x12_3) : Int) (yd) (by have h_ : ((rd t124 x12_3) : Int) < ((x6_3.length : Int) : Int) := yd; first | exact h_ | (have e_ := (Kd.qQx HO_6.out).1; omega) | simpa using h_)
     obtain rfl := qXc hM33
     have HP33 := Kd.R_seg HX33.out ((rd t124 x12_3) : Int) (yd) (by have h_ : ((rd t124 x12_3) : Int) < ((x6_3.length : Int) : Int) := yd; first | exact h_ | (have e_ := (Kd.qQx HO_6.out).1; omega) | simpa using h_) (seg := [.int .i64 ji29]) (j := 0) hcl33 hcc33 (show 1 ≤ 3 from by decide) (x' := (⟨ji29, (qQ0 x6_3 (rd t124 x12_3)).f1, (qQ0 x6_3 (rd t124 x12_3)).f2⟩ : SP3)) (qVq _ _ _ (⟨ji29, (qQ0 x6_3 (rd t124 x12_3)).f1, (qQ0 x6_3 (rd t124 x12_3)).f2⟩ : SP3) ) (fun _ hk => hk)
     have hx33_0 := hcc33 0 _ rfl
     (try simp only [show (kP3).sz = 3 from rfl, Nat.mul_one, Nat.add_zero] at hx33_0)
     have hf33_0 := hfr33 0
     (try simp only [show (kP3).sz = 3 from rfl, Nat.mul_one, Nat.add_zero] at hf33_0)
     clear hcl33 hcc33 hfr33 hM33
     go_wp2_with (first | ((with_reducible refine qWo (t := 2) (p := 76) rfl ?_); refine qX5 (t := 2) (p := 76) (v := ?vo_w34) (w1 := (wr.setCell ⟨gp, ((rd t124 x12_3) : Int).toNat * 3, none⟩ (.int .i64 ji29))) ?hg ?ho ?hn ?hr ?_; (case ho => rfl); (case hg => rfl); (case hn => rfl); (case hr => first | (go_simp; done) | (go_simp; rfl)); intro w34 hw; have hg : wr.grownBy w34 (some gp) := (by rw [hw]; exact HP33.2); have hp_ : Kd.R kP3 61 w34 w.heap.size (fun _ => True) (.slice (some ⟨gp, 0, none⟩) 16 16) y133 := (by rw [hw, Ny133.out]; exact HP33.1); clear HP33; have n0_ := am (hp_); have n1_ := am (Kd.qYz (v := (.slice (some ⟨gp, 0, none⟩) 16 16)) (by exact rq HO_10.out) (Kd.qYy HO_6.out) (by decide) hg); have n2_ := am (Kd.qYz (v := (.slice (some ⟨gp, 0, none⟩) 16 16)) (by exact rq HO_11.out) (Kd.qYy HO_6.out) (by decide) hg); have n3_ := am (qYc (g := gb116) (Up.up BK116.out) hg (Kd.R_ne HO_6.out BK116.out (by decide))); have n4_ := am (qYc (g := gb123) (Up.up BK123.out) hg (Kd.R_ne HO_6.out BK123.out (by decide))); have n5_ := am ((by rw [hw]; exact qZv (HB.out) GB31.out : Below w.heap.size w w34)); clear HO_6; clear HO_10; clear HO_11; clear BK116; clear BK123; clear HB; have HO_6 := n0_; have HO_10 := n1_; have HO_11 := n2_; have BK116 := n3_; have BK123 := n4_; have HB := n5_; clear n0_ n1_ n2_ n3_ n4_ n5_; clear hg hw hp_; have hnb35 := NB123_116.out; have hnc35 := NB116_123.out; have hz36 := lc4_ BK123.out))
     go_roundg k3
     case measure => have := HJ2.out; have := HK2.out; have := HK3.out; omega
     case rel => exact ⟨(y133), (wrap64 (x9_3 - (ji29))), (wrap64 (x12_3 + 1)), (wrap64 (x124000_3 + (ji29))), (by first | rfl | (simp; done) | (simp only [← hji29] <;> (first | rfl | simp)) | (simp [*]; done)), (by first | rfl | (simp; done) | (simp [*]; done)), H', ⟨by have := HJ2.out; have := HK2.out; have := HK3.out; omega⟩, ⟨by (with_reducible repeat (first | apply Kd.qQs | apply Kd.qQq | apply Kd.qQt)); exact Kd.qQv (Kd.R_far (p := ⟨gb123, 0, none⟩) (Kd.qZc HO_6.out BK123.out (by decide)) (fun _ hk => hk.2) (.int .i64 (wrap64 (x124000_3 + (ji29))))) (fun _ hk => trivial)⟩, ⟨by (with_reducible repeat (first | apply Kd.qQs | apply Kd.qQq | apply Kd.qQt)); exact Kd.qQv (Kd.R_far (p := ⟨gb123, 0, none⟩) (Kd.qZc HO_10.out BK123.out (by decide)) (fun _ hk => hk.2) (.int .i64 (wrap64 (x124000_3 + (ji29))))) (fun _ hk => hk.1)⟩, ⟨by (with_reducible repeat (first | apply Kd.qQs | apply Kd.qQq | apply Kd.qQt)); exact Kd.qQv (Kd.R_far (p := ⟨gb123, 0, none⟩) (Kd.qZc HO_11.out BK123.out (by decide)) (fun _ hk => hk.2) (.int .i64 (wrap64 (x124000_3 + (ji29))))) (fun _ hk => hk.1)⟩, ⟨by (with_reducible repeat (first | refine qQm ?_ _ | refine qQk ?_ | refine qQo ?_ _)); refine qZi ?_ NB116_123.out _; (with_reducible repeat (first | refine qQm ?_ _ | refine qQk ?_ | refine qQo ?_ _)); exact BK116.out⟩, ⟨by (with_reducible repeat (first | refine qQm ?_ _ | refine qQk ?_ | refine qQo ?_ _)); refine qQ1 (cs := #[.int .i64 x124000_3, .int .i64 0, .int .i64 0, .int .i64 0]) ?_ 0 _ rfl; (with_reducible repeat (first | refine qQm ?_ _ | refine qQk ?_ | refine qQo ?_ _)); exact BK123.out⟩, ⟨by exact h2q HB.out GE116.out GE123.out⟩⟩
    rw [if_neg c25] at H
    have c25b0 : decide (x12_3 < (t124.length : Int)) = false := decide_eq_false c25
    clear c25
    have H' := am H
    clear H
    obtain ⟨Ao37, co37, eo37⟩ := Kd.qZ8 HO_10.out
    subst eo37
    go_wp2
    go_loopg [9, 14] k3 (fun kq v9 v14 w' => ∃ (x6_4 : List (SP3)) (x9_4 : Int) (x14_4 : Int) (x124001_4 : Int), v9 = .int .i64 x9_4 ∧ v14 = .int .i64 x14_4 ∧ Aside0 (qQe.l2 kq l0 x6_4 x9_4 t127 x14_4 x124000_3 x124001_4 0 0 = some (r1, r2, r3, r4, r5, r6)) ∧ Aside0 (kq ≤ k3) ∧ Aside0 (Kd.R kP3 61 w' w.heap.size (fun _ => True) (.slice (some ⟨gp, 0, none⟩) 16 16) x6_4) ∧ Aside0 (Kd.R (Kd.int .i64) 3 w' w.heap.size (fun _ => True) v128 t127) ∧ Aside0 (w'.heap[gb116]? = some (.cells #[(.slice none 0 0), .int .i64 x117001_2, .int .i64 x117002_2, .int .i64 x117003_2, .int .i64 x117004_2] 31 (0, 0))) ∧ Aside0 (w'.heap[gb123]? = some (.cells #[.int .i64 x124000_3, .int .i64 x124001_4, .int .i64 0, .int .i64 0] 26 (0, 0))) ∧ Aside0 (Below w.heap.size w w'))
    case atStart => exact ⟨(x6_3), (x9_3), (0), (0), (by first | rfl | (simp; done) | (simp [*]; done)), (by first | rfl | (simp; done) | (simp [*]; done)), H', ⟨Nat.le_refl _⟩, ⟨by exact rq HO_6.out⟩, ⟨by (with_reducible repeat (first | apply Kd.qQs | apply Kd.qQq | apply Kd.qQt)); exact Kd.qQv HO_11.out (fun _ hk => trivial)⟩, ⟨by exact bb BK116.out⟩, ⟨by exact bb BK123.out⟩, ⟨by exact h2q HB.out GE116.out GE123.out⟩⟩
    case round =>
     as_aux_lemma =>
     clear H'
     try clear c5
     try clear c5b0 c5b1
     try clear c6
     try clear c6b0
     try clear c8
     try clear c10
     try clear c10b0 c10b1
     try clear c13
     try clear c13b0
     try clear c14
     try clear c14b0
     try clear c16
     try clear c25
     try clear c25b0
     try clear c26
     try clear c26b0
     try clear c27
     try clear c27b0
     try clear c28
     try clear c28b0
     try clear c30
     try clear c30b0
     try clear p31 q31
     try clear hcz19_0
     try clear hcz19_1
     try clear hcz19_2
     try clear hcz19_3
     try clear hcz19_4
     try clear hz36
     try clear hz9
     try clear hfz19_0
     try clear hfz19_1
     try clear hfz19_2
     try clear hfz19_3
     try clear hfz19_4
     try clear hx121_0 hx121_1 hx121_10 hx121_11 hx121_12 hx121_2 hx121_3 hx121_4 hx121_5 hx121_6 hx121_7 hx121_8 hx121_9
     try clear hx130_0
     try clear hx131_0 hx131_1 hx131_10 hx131_11 hx131_12 hx131_2 hx131_3 hx131_4 hx131_5 hx131_6 hx131_7 hx131_8 hx131_9
     try clear hx132_0
     try clear hx31_0
     try clear hx31_1
     try clear hx31_2
     try clear hx33_0
     try clear p121
     try clear p130
     try clear p131
     try clear p132
     try clear p31
     try clear q121
     try clear q130
     try clear q131
     try clear q132
     try clear q31
     obtain ⟨x6_4, x9_4, x14_4, x124001_4, rfl, rfl, HA, HK4, HO_6, HO_11, BK116, BK123, HB⟩ := hrel
     rcases gk with _ | k4
     ·exact absurd HA.out (by simp [qQe.l2])
     have H := HA.out
     clear HA
     simp only [qQe.l2] at H
     by_cases c38 : x14_4 < (t127.length : Int)
     ·rw [if_pos c38] at H
      have c38b0 : decide (x14_4 < (t127.length : Int)) = true := decide_eq_true c38
      clear c38
      by_cases c39 : 0 ≤ x14_4
      case neg =>
       rw [if_neg c39] at H
       exact absurd H (by simp)
      rw [if_pos c39] at H
      have c39b0 : decide (0 ≤ x14_4) = true := decide_eq_true c39
      clear c39
      by_cases c40 : 0 ≤ (rd t127 x14_4)
      case neg =>
       rw [if_neg c40] at H
       exact absurd H (by simp)
      rw [if_pos c40] at H
      have c40b0 : decide (0 ≤ (rd t127 x14_4)) = true := decide_eq_true c40
      clear c40
      by_cases c41 : (rd t127 x14_4) < (l0.length : Int)
      case neg =>
       rw [if_neg c41] at H
       exact absurd H (by simp)
      rw [if_pos c41] at H
      have c41b0 : decide ((rd t127 x14_4) < (l0.length : Int)) = true := decide_eq_true c41
      clear c41
      replace H := Option.bind_eq_some_iff.mp H
      obtain ⟨t136, A420, H⟩ := H
      replace H : (if (rd t127 x14_4) < (x6_4.length : Int) then (qQe.l2 k4 l0 (x6_4.set ((rd t127 x14_4) : Int).toNat (⟨(qQ0 x6_4 (rd t127 x14_4)).f0, mn x9_4 t136, (qQ0 x6_4 (rd t127 x14_4)).f2⟩ : SP3)) (wrap64 (x9_4 - (mn x9_4 t136))) t127 (wrap64 (x14_4 + 1)) x124000_3 (wrap64 (x124001_4 + (mn x9_4 t136))) 0 0) else (none)) = some (r1, r2, r3, r4, r5, r6) := H
      have A42 := am A420
      clear A420
      obtain ⟨ji43, hji43⟩ : ∃ j_ : Int, (mn x9_4 t136) = j_ := ⟨_, rfl⟩
      replace H : (if (rd t127 x14_4) < (x6_4.length : Int) then (qQe.l2 k4 l0 (x6_4.set ((rd t127 x14_4) : Int).toNat (⟨(qQ0 x6_4 (rd t127 x14_4)).f0, ji43, (qQ0 x6_4 (rd t127 x14_4)).f2⟩ : SP3)) (wrap64 (x9_4 - (ji43))) t127 (wrap64 (x14_4 + 1)) x124000_3 (wrap64 (x124001_4 + (ji43))) 0 0) else (none)) = some (r1, r2, r3, r4, r5, r6) := by first | (rw [hji43] at H; exact H) | (simp only [hji43] at H ⊢; exact H)
      (try rw [hji43] at A42)
      have hji43_ : (if t136 < x9_4 then t136 else x9_4) = ji43 := hji43
      by_cases c44 : (rd t127 x14_4) < (x6_4.length : Int)
      case neg =>
       rw [if_neg c44] at H
       exact absurd H (by simp)
      rw [if_pos c44] at H
      have c44b0 : decide ((rd t127 x14_4) < (x6_4.length : Int)) = true := decide_eq_true c44
      clear c44
      obtain ⟨y138, hy138⟩ : ∃ y_ : List (SP3), y_ = (x6_4.set ((rd t127 x14_4) : Int).toNat (⟨(qQ0 x6_4 (rd t127 x14_4)).f0, ji43, (qQ0 x6_4 (rd t127 x14_4)).f2⟩ : SP3)) := ⟨_, rfl⟩
      replace H : (qQe.l2 k4 l0 y138 (wrap64 (x9_4 - (ji43))) t127 (wrap64 (x14_4 + 1)) x124000_3 (wrap64 (x124001_4 + (ji43))) 0 0) = some (r1, r2, r3, r4, r5, r6) := by first | (rw [hy138]; with_reducible exact H) | (have H2_ := (Option.bind_some _ _).symm.trans H; rw [hy138]; with_reducible exact H2_) | (have H2_ := (Option.bind_some _ _).symm.trans H; with_reducible exact H2_) | with_reducible exact H | (rw [hy138]; exact H) | exact H
      have Ny138 := am hy138
      clear hy138
      have H' := am H
      clear H
      obtain ⟨Ao46, co46, eo46⟩ := Kd.qZ8 HO_11.out
      subst eo46
      have p134 : 0 ≤ (x14_4 : Int) := yd
      have q134 : x14_4 < (t127.length : Int) := yd
      obtain ⟨ad134, e134, hx134_0⟩ := Kd.qYa (Kd.qQx HO_11.out).2.2 x14_4 p134 q134
      cases e134
      replace p134 := eq_true p134
      replace q134 := eq_true q134
      have p135 : 0 ≤ ((rd t127 x14_4) : Int) := yd
      have q135 : (rd t127 x14_4) < (l0.length : Int) := yd
      obtain ⟨ad135, e135, hx135_0, hx135_1, hx135_2, hx135_3, hx135_4, hx135_5, hx135_6, hx135_7, hx135_8, hx135_9, hx135_10, hx135_11, hx135_12⟩ := qYl HR0.out (rd t127 x14_4) p135 q135
      cases e135
      replace hx135_0 := hxb HB.out hx135_0
      replace hx135_1 := hxb HB.out hx135_1
      replace hx135_2 := hxb HB.out hx135_2
      replace hx135_3 := hxb HB.out hx135_3
      replace hx135_4 := hxb HB.out hx135_4
      replace hx135_5 := hxb HB.out hx135_5
      replace hx135_6 := hxb HB.out hx135_6
      replace hx135_7 := hxb HB.out hx135_7
      replace hx135_8 := hxb HB.out hx135_8
      replace hx135_9 := hxb HB.out hx135_9
      replace hx135_10 := hxb HB.out hx135_10
      replace hx135_11 := hxb HB.out hx135_11
      replace hx135_12 := hxb HB.out hx135_12
      replace p135 := eq_true p135
      replace q135 := eq_true q135
      go_wp2_with (first | ((with_reducible refine qQ4 (f := 32) rfl ?_); refine goesL_ (some 100) rfl rfl Try.func32 (by kernel_rfl) rfl #[.int .i64 ((qQc l0 (rd t127 x14_4)).f2)] rfl ml ?_; (with_reducible refine (qZa.calls ((qQc l0 (rd t127 x14_4)).f2) t136 _ A42.out).mono ?_); rintro e w' ⟨rfl, ⟨nd, rfl⟩⟩; refine ⟨_, rfl, ?_⟩; (try (rw [qK3 wr]; generalize hq_ : World.drewN wr _ = wr; have n0_ : Aside0 (Kd.R (Kd.int .i64) 3 wr w.heap.size (fun _ => True) (.slice (some ad134) t127.length co46) t127) := ⟨by rw [← hq_]; exact (by exact rq HO_11.out)⟩; have n1_ : Aside0 (Kd.R kP3 61 wr w.heap.size (fun _ => True) (.slice (some ⟨gp, 0, none⟩) 16 16) x6_4) := ⟨by rw [← hq_]; exact (by exact rq HO_6.out)⟩; have n2_ : Aside0 (wr.heap[gb116]? = some (.cells #[.slice none 0 0, .int .i64 x117001_2, .int .i64 x117002_2, .int .i64 x117003_2, .int .i64 x117004_2] 31 (0, 0))) := ⟨by rw [← hq_]; exact (Up.up BK116.out)⟩; have n3_ : Aside0 (wr.heap[gb123]? = some (.cells #[.int .i64 x124000_3, .int .i64 x124001_4, .int .i64 0, .int .i64 0] 26 (0, 0))) := ⟨by rw [← hq_]; exact (Up.up BK123.out)⟩; have n4_ : Aside0 (Below w.heap.size w wr) := ⟨by rw [← hq_]; exact (by exact h2q HB.out GE116.out GE123.out)⟩; clear HO_11 HO_6 BK116 BK123 HB hq_; have HO_11 := n0_; have HO_6 := n1_; have BK116 := n2_; have BK123 := n3_; have HB := n4_; clear n0_ n1_ n2_ n3_ n4_)); have p137 : 0 ≤ (x14_4 : Int) := yd; have q137 : x14_4 < (t127.length : Int) := yd; obtain ⟨ad137, e137, hx137_0⟩ := Kd.qYa (Kd.qQx HO_11.out).2.2 x14_4 p137 q137; obtain rfl : ad134 = ad137 := (by injection e137); replace p137 := eq_true p137; replace q137 := eq_true q137; have p45 : 0 ≤ ((rd t127 x14_4) : Int) := yd; have q45 : ((rd t127 x14_4) : Int) < ((x6_4.length : Int) : Int) := yd; obtain ⟨go45, co45, eo45, gb45, gl45, cl45, HG45⟩ := Kd.qWu HO_6.out (by omega); have e1_ := P3.form eo45; rw [e1_] at gb45 gl45 HG45; clear e1_ eo45; have GB45 := am gb45; have GG45 := am HG45; clear gb45 gl45 HG45; obtain ⟨ce45, hcl45, hM45, hcc45, hfr45⟩ := Kd.qXy HO_6.out zP3 ((rd t127 x14_4) : Int) p45 (by have e_ := (Kd.qQx HO_6.out).1; omega); have qa45 := eq_true (show ((rd t127 x14_4) : Int) < 16 by have e_ := (Kd.qQx HO_6.out).1; omega); obtain rfl := qXc hM45; have hx45_0 : wr.cell? ⟨gp, ((rd t127 x14_4) : Int).toNat * 3, none⟩ = some (.int .i64 ((qQ0 x6_4 (rd t127 x14_4)).f0)) := hcc45 0 _ rfl; have hx45_1 : wr.cell? ⟨gp, ((rd t127 x14_4) : Int).toNat * 3 + 1, none⟩ = some (.int .i64 ((qQ0 x6_4 (rd t127 x14_4)).f1)) := hcc45 1 _ rfl; have hx45_2 : wr.cell? ⟨gp, ((rd t127 x14_4) : Int).toNat * 3 + 2, none⟩ = some (.int .i64 ((qQ0 x6_4 (rd t127 x14_4)).f2)) := hcc45 2 _ rfl; have hf45_0 : wr.frozen? ⟨gp, ((rd t127 x14_4) : Int).toNat * 3, none⟩ = false := hfr45 0; have hf45_1 : wr.frozen? ⟨gp, ((rd t127 x14_4) : Int).toNat * 3 + 1, none⟩ = false := hfr45 1; have hf45_2 : wr.frozen? ⟨gp, ((rd t127 x14_4) : Int).toNat * 3 + 2, none⟩ = false := hfr45 2; clear hcl45 hcc45 hfr45 hM45; replace p45 := eq_true p45; replace q45 := eq_true q45; have HX47 := am (show Kd.R kP3 61 wr w.heap.size (fun _ => True) (.slice (some ⟨gp, 0, none⟩) 16 16) x6_4 from (by exact rq HO_6.out)); obtain ⟨ce47, hcl47, hM47, hcc47, hfr47⟩ := Kd.qXy HX47.out zP3 ((rd t127 x14_4) : Int) (yd) (by have h_ : ((rd t127 x14_4) : Int) < ((x6_4.length : Int) : Int) := yd; first | exact h_ | (have e_ := (Kd.qQx HO_6.out).1; omega) | simpa using h_); obtain rfl := qXc hM47; have HP47 := Kd.R_seg HX47.out ((rd t127 x14_4) : Int) (yd) (by have h_ : ((rd t127 x14_4) : Int) < ((x6_4.length : Int) : Int) := yd; first | exact h_ | (have e_ := (Kd.qQx HO_6.out).1; omega) | simpa using h_) (seg := [.int .i64 ji43]) (j := 1) hcl47 hcc47 (show 2 ≤ 3 from by decide) (x' := (⟨(qQ0 x6_4 (rd t127 x14_4)).f0, ji43, (qQ0 x6_4 (rd t127 x14_4)).f2⟩ : SP3)) (qVq _ _ _ (⟨(qQ0 x6_4 (rd t127 x14_4)).f0, ji43, (qQ0 x6_4 (rd t127 x14_4)).f2⟩ : SP3) ) (fun _ hk => hk); have hx47_1 := hcc47 1 _ rfl; (try simp only [show (kP3).sz = 3 from rfl, Nat.mul_one, Nat.add_zero] at hx47_1); have hf47_1 := hfr47 1; (try simp only [show (kP3).sz = 3 from rfl, Nat.mul_one, Nat.add_zero] at hf47_1); clear hcl47 hcc47 hfr47 hM47) | ((with_reducible refine qWo (t := 2) (p := 108) rfl ?_); refine qX5 (t := 2) (p := 108) (v := ?vo_w48) (w1 := (wr.setCell ⟨gp, ((rd t127 x14_4) : Int).toNat * 3 + 1, none⟩ (.int .i64 ji43))) ?hg ?ho ?hn ?hr ?_; (case ho => rfl); (case hg => rfl); (case hn => rfl); (case hr => first | (go_simp; done) | (go_simp; rfl)); intro w48 hw; have hg : wr.grownBy w48 (some gp) := (by rw [hw]; exact HP47.2); have hp_ : Kd.R kP3 61 w48 w.heap.size (fun _ => True) (.slice (some ⟨gp, 0, none⟩) 16 16) y138 := (by rw [hw, Ny138.out]; exact HP47.1); clear HP47; have n0_ := am (hp_); have n1_ := am (Kd.qYz (v := (.slice (some ⟨gp, 0, none⟩) 16 16)) (by exact rq HO_11.out) (Kd.qYy HO_6.out) (by decide) hg); have n2_ := am (qYc (g := gb116) (Up.up BK116.out) hg (Kd.R_ne HO_6.out BK116.out (by decide))); have n3_ := am (qYc (g := gb123) (Up.up BK123.out) hg (Kd.R_ne HO_6.out BK123.out (by decide))); have n4_ := am ((by rw [hw]; exact qZv (HB.out) GB45.out : Below w.heap.size w w48)); clear HO_6; clear HO_11; clear BK116; clear BK123; clear HB; have HO_6 := n0_; have HO_11 := n1_; have BK116 := n2_; have BK123 := n3_; have HB := n4_; clear n0_ n1_ n2_ n3_ n4_; clear hg hw hp_; have hnb49 := NB123_116.out; have hnc49 := NB116_123.out; have hcz50_0 : w48.cell? ⟨gb123, 0, none⟩ = some (.int .i64 x124000_3) := (qQa BK123.out 0).trans rfl; have hcz50_1 : w48.cell? ⟨gb123, 1, none⟩ = some (.int .i64 x124001_4) := (qQa BK123.out 1).trans rfl; have hcz50_2 : w48.cell? ⟨gb123, 2, none⟩ = some (.int .i64 0) := (qQa BK123.out 2).trans rfl; have hcz50_3 : w48.cell? ⟨gb123, 3, none⟩ = some (.int .i64 0) := (qQa BK123.out 3).trans rfl; have hfz50_0 := qQi BK123.out 0; have hfz50_1 := qQi BK123.out 1; have hfz50_2 := qQi BK123.out 2; have hfz50_3 := qQi BK123.out 3))
      go_roundg k4
      case measure => have := HJ2.out; have := HK2.out; have := HK3.out; have := HK4.out; omega
      case rel => exact ⟨(y138), (wrap64 (x9_4 - (ji43))), (wrap64 (x14_4 + 1)), (wrap64 (x124001_4 + (ji43))), (by first | rfl | (simp; done) | (simp only [← hji43] <;> (first | rfl | simp)) | (simp [*]; done)), (by first | rfl | (simp; done) | (simp [*]; done)), H', ⟨by have := HJ2.out; have := HK2.out; have := HK3.out; have := HK4.out; omega⟩, ⟨by (with_reducible repeat (first | apply Kd.qQs | apply Kd.qQq | apply Kd.qQt)); exact Kd.qQv (Kd.R_far (p := ⟨gb123, 1, none⟩) (Kd.qZc HO_6.out BK123.out (by decide)) (fun _ hk => hk.2) (.int .i64 (wrap64 (x124001_4 + (ji43))))) (fun _ hk => trivial)⟩, ⟨by (with_reducible repeat (first | apply Kd.qQs | apply Kd.qQq | apply Kd.qQt)); exact Kd.qQv (Kd.R_far (p := ⟨gb123, 1, none⟩) (Kd.qZc HO_11.out BK123.out (by decide)) (fun _ hk => hk.2) (.int .i64 (wrap64 (x124001_4 + (ji43))))) (fun _ hk => trivial)⟩, ⟨by (with_reducible repeat (first | refine qQm ?_ _ | refine qQk ?_ | refine qQo ?_ _)); refine qZi ?_ NB116_123.out _; (with_reducible repeat (first | refine qQm ?_ _ | refine qQk ?_ | refine qQo ?_ _)); exact BK116.out⟩, ⟨by (with_reducible repeat (first | refine qQm ?_ _ | refine qQk ?_ | refine qQo ?_ _)); refine qQ1 (cs := #[.int .i64 x124000_3, .int .i64 x124001_4, .int .i64 0, .int .i64 0]) ?_ 1 _ rfl; (with_reducible repeat (first | refine qQm ?_ _ | refine qQk ?_ | refine qQo ?_ _)); exact BK123.out⟩, ⟨by exact h2q HB.out GE116.out GE123.out⟩⟩
     rw [if_neg c38] at H
     have c38b0 : decide (x14_4 < (t127.length : Int)) = false := decide_eq_false c38
     clear c38
     have H' := am H
     clear H
     obtain ⟨Ao51, co51, eo51⟩ := Kd.qZ8 HO_11.out
     subst eo51
     go_wp2
     go_loopg [9, 16] k4 (fun kq v9 v16 w' => ∃ (x6_5 : List (SP3)) (x9_5 : Int) (x16_5 : Int) (x124002_5 : Int), v9 = .int .i64 x9_5 ∧ v16 = .int .i64 x16_5 ∧ Aside0 (qQe.l3 kq l0 x6_5 x9_5 t127 x16_5 x124000_3 x124001_4 x124002_5 0 = some (r1, r2, r3, r4, r5, r6)) ∧ Aside0 (kq ≤ k4) ∧ Aside0 (Kd.R kP3 61 w' w.heap.size (fun _ => True) (.slice (some ⟨gp, 0, none⟩) 16 16) x6_5) ∧ Aside0 (Kd.R (Kd.int .i64) 3 w' w.heap.size (fun _ => True) (.slice Ao51 t127.length co51) t127) ∧ Aside0 (w'.heap[gb116]? = some (.cells #[(.slice none 0 0), .int .i64 x117001_2, .int .i64 x117002_2, .int .i64 x117003_2, .int .i64 x117004_2] 31 (0, 0))) ∧ Aside0 (w'.heap[gb123]? = some (.cells #[.int .i64 x124000_3, .int .i64 x124001_4, .int .i64 x124002_5, .int .i64 0] 26 (0, 0))) ∧ Aside0 (Below w.heap.size w w'))
     case atStart => exact ⟨(x6_4), (x9_4), (0), (0), (by first | rfl | (simp; done) | (simp [*]; done)), (by first | rfl | (simp; done) | (simp [*]; done)), H', ⟨Nat.le_refl _⟩, ⟨by exact rq HO_6.out⟩, ⟨by exact rq HO_11.out⟩, ⟨by exact bb BK116.out⟩, ⟨by exact bb BK123.out⟩, ⟨by exact h2q HB.out GE116.out GE123.out⟩⟩
     case round =>
      as_aux_lemma =>
      clear H'
      try clear c5
      try clear c5b0 c5b1
      try clear c6
      try clear c6b0
      try clear c8
      try clear c10
      try clear c10b0 c10b1
      try clear c13
      try clear c13b0
      try clear c14
      try clear c14b0
      try clear c16
      try clear c25
      try clear c25b0
      try clear c26
      try clear c26b0
      try clear c27
      try clear c27b0
      try clear c28
      try clear c28b0
      try clear c30
      try clear c30b0
      try clear p31 q31
      try clear c38
      try clear c38b0
      try clear c39
      try clear c39b0
      try clear c40
      try clear c40b0
      try clear c41
      try clear c41b0
      try clear c44
      try clear c44b0
      try clear p45 q45
      try clear hcz19_0
      try clear hcz19_1
      try clear hcz19_2
      try clear hcz19_3
      try clear hcz19_4
      try clear hz36
      try clear hcz50_0
      try clear hcz50_1
      try clear hcz50_2
      try clear hcz50_3
      try clear hz9
      try clear hfz19_0
      try clear hfz19_1
      try clear hfz19_2
      try clear hfz19_3
      try clear hfz19_4
      try clear hfz50_0
      try clear hfz50_1
      try clear hfz50_2
      try clear hfz50_3
      try clear hx121_0 hx121_1 hx121_10 hx121_11 hx121_12 hx121_2 hx121_3 hx121_4 hx121_5 hx121_6 hx121_7 hx121_8 hx121_9
      try clear hx130_0
      try clear hx131_0 hx131_1 hx131_10 hx131_11 hx131_12 hx131_2 hx131_3 hx131_4 hx131_5 hx131_6 hx131_7 hx131_8 hx131_9
      try clear hx132_0
      try clear hx134_0
      try clear hx135_0 hx135_1 hx135_10 hx135_11 hx135_12 hx135_2 hx135_3 hx135_4 hx135_5 hx135_6 hx135_7 hx135_8 hx135_9
      try clear hx137_0
      try clear hx31_0
      try clear hx31_1
      try clear hx31_2
      try clear hx33_0
      try clear hx45_0
      try clear hx45_1
      try clear hx45_2
      try clear hx47_1
      try clear p121
      try clear p130
      try clear p131
      try clear p132
      try clear p134
      try clear p135
      try clear p137
      try clear p31
      try clear p45
      try clear q121
      try clear q130
      try clear q131
      try clear q132
      try clear q134
      try clear q135
      try clear q137
      try clear q31
      try clear q45
      obtain ⟨x6_5, x9_5, x16_5, x124002_5, rfl, rfl, HA, HK5, HO_6, HO_11, BK116, BK123, HB⟩ := hrel
      rcases gk with _ | k5
      ·exact absurd HA.out (by simp [qQe.l3])
      have H := HA.out
      clear HA
      simp only [qQe.l3] at H
      by_cases c52 : x16_5 < (t127.length : Int)
      ·rw [if_pos c52] at H
       have c52b0 : decide (x16_5 < (t127.length : Int)) = true := decide_eq_true c52
       clear c52
       by_cases c53 : 0 ≤ x16_5
       case neg =>
        rw [if_neg c53] at H
        exact absurd H (by simp)
       rw [if_pos c53] at H
       have c53b0 : decide (0 ≤ x16_5) = true := decide_eq_true c53
       clear c53
       by_cases c54 : 0 ≤ (rd t127 x16_5)
       case neg =>
        rw [if_neg c54] at H
        exact absurd H (by simp)
       rw [if_pos c54] at H
       have c54b0 : decide (0 ≤ (rd t127 x16_5)) = true := decide_eq_true c54
       clear c54
       by_cases c55 : (rd t127 x16_5) < (l0.length : Int)
       case neg =>
        rw [if_neg c55] at H
        exact absurd H (by simp)
       rw [if_pos c55] at H
       have c55b0 : decide ((rd t127 x16_5) < (l0.length : Int)) = true := decide_eq_true c55
       clear c55
       obtain ⟨ji56, hji56⟩ : ∃ j_ : Int, (mn x9_5 ((qQc l0 (rd t127 x16_5)).f1)) = j_ := ⟨_, rfl⟩
       replace H : (if (rd t127 x16_5) < (x6_5.length : Int) then (qQe.l3 k5 l0 (x6_5.set ((rd t127 x16_5) : Int).toNat (⟨(qQ0 x6_5 (rd t127 x16_5)).f0, (qQ0 x6_5 (rd t127 x16_5)).f1, ji56⟩ : SP3)) (wrap64 (x9_5 - (ji56))) t127 (wrap64 (x16_5 + 1)) x124000_3 x124001_4 (wrap64 (x124002_5 + (ji56))) 0) else (none)) = some (r1, r2, r3, r4, r5, r6) := by first | (rw [hji56] at H; exact H) | (simp only [hji56] at H ⊢; exact H)
       have hji56_ : (if ((qQc l0 (rd t127 x16_5)).f1) < x9_5 then ((qQc l0 (rd t127 x16_5)).f1) else x9_5) = ji56 := hji56
       by_cases c57 : (rd t127 x16_5) < (x6_5.length : Int)
       case neg =>
        rw [if_neg c57] at H
        exact absurd H (by simp)
       rw [if_pos c57] at H
       have c57b0 : decide ((rd t127 x16_5) < (x6_5.length : Int)) = true := decide_eq_true c57
       clear c57
       obtain ⟨y142, hy142⟩ : ∃ y_ : List (SP3), y_ = (x6_5.set ((rd t127 x16_5) : Int).toNat (⟨(qQ0 x6_5 (rd t127 x16_5)).f0, (qQ0 x6_5 (rd t127 x16_5)).f1, ji56⟩ : SP3)) := ⟨_, rfl⟩
       replace H : (qQe.l3 k5 l0 y142 (wrap64 (x9_5 - (ji56))) t127 (wrap64 (x16_5 + 1)) x124000_3 x124001_4 (wrap64 (x124002_5 + (ji56))) 0) = some (r1, r2, r3, r4, r5, r6) := by first | (rw [hy142]; with_reducible exact H) | (have H2_ := (Option.bind_some _ _).symm.trans H; rw [hy142]; with_reducible exact H2_) | (have H2_ := (Option.bind_some _ _).symm.trans H; with_reducible exact H2_) | with_reducible exact H | (rw [hy142]; exact H) | exact H
       have Ny142 := am hy142
       clear hy142
       have H' := am H
       clear H
       have p139 : 0 ≤ (x16_5 : Int) := yd
       have q139 : x16_5 < (t127.length : Int) := yd
       obtain ⟨ad139, e139, hx139_0⟩ := Kd.qYa (Kd.qQx HO_11.out).2.2 x16_5 p139 q139
       cases e139
       replace p139 := eq_true p139
       replace q139 := eq_true q139
       have p140 : 0 ≤ ((rd t127 x16_5) : Int) := yd
       have q140 : (rd t127 x16_5) < (l0.length : Int) := yd
       obtain ⟨ad140, e140, hx140_0, hx140_1, hx140_2, hx140_3, hx140_4, hx140_5, hx140_6, hx140_7, hx140_8, hx140_9, hx140_10, hx140_11, hx140_12⟩ := qYl HR0.out (rd t127 x16_5) p140 q140
       cases e140
       replace hx140_0 := hxb HB.out hx140_0
       replace hx140_1 := hxb HB.out hx140_1
       replace hx140_2 := hxb HB.out hx140_2
       replace hx140_3 := hxb HB.out hx140_3
       replace hx140_4 := hxb HB.out hx140_4
       replace hx140_5 := hxb HB.out hx140_5
       replace hx140_6 := hxb HB.out hx140_6
       replace hx140_7 := hxb HB.out hx140_7
       replace hx140_8 := hxb HB.out hx140_8
       replace hx140_9 := hxb HB.out hx140_9
       replace hx140_10 := hxb HB.out hx140_10
       replace hx140_11 := hxb HB.out hx140_11
       replace hx140_12 := hxb HB.out hx140_12
       replace p140 := eq_true p140
       replace q140 := eq_true q140
       have p141 : 0 ≤ (x16_5 : Int) := yd
       have q141 : x16_5 < (t127.length : Int) := yd
       obtain ⟨ad141, e141, hx141_0⟩ := Kd.qYa (Kd.qQx HO_11.out).2.2 x16_5 p141 q141
       obtain rfl : ad139 = ad141 := (by injection e141)
       replace p141 := eq_true p141
       replace q141 := eq_true q141
       have p58 : 0 ≤ ((rd t127 x16_5) : Int) := yd
       have q58 : ((rd t127 x16_5) : Int) < ((x6_5.length : Int) : Int) := yd
       obtain ⟨go58, co58, eo58, gb58, gl58, cl58, HG58⟩ := Kd.qWu HO_6.out (by omega)
       have e1_ := P3.form eo58
       rw [e1_] at gb58 gl58 HG58
       clear e1_ eo58
       have GB58 := am gb58
       have GG58 := am HG58
       clear gb58 gl58 HG58
       obtain ⟨ce58, hcl58, hM58, hcc58, hfr58⟩ := Kd.qXy HO_6.out zP3 ((rd t127 x16_5) : Int) p58 (by have e_ := (Kd.qQx HO_6.out).1; omega)
       have qa58 := eq_true (show ((rd t127 x16_5) : Int) < 16 by have e_ := (Kd.qQx HO_6.out).1; omega)
       obtain rfl := qXc hM58
       have hx58_0 : wr.cell? ⟨gp, ((rd t127 x16_5) : Int).toNat * 3, none⟩ = some (.int .i64 ((qQ0 x6_5 (rd t127 x16_5)).f0)) := hcc58 0 _ rfl
       have hx58_1 : wr.cell? ⟨gp, ((rd t127 x16_5) : Int).toNat * 3 + 1, none⟩ = some (.int .i64 ((qQ0 x6_5 (rd t127 x16_5)).f1)) := hcc58 1 _ rfl
       have hx58_2 : wr.cell? ⟨gp, ((rd t127 x16_5) : Int).toNat * 3 + 2, none⟩ = some (.int .i64 ((qQ0 x6_5 (rd t127 x16_5)).f2)) := hcc58 2 _ rfl
       have hf58_0 : wr.frozen? ⟨gp, ((rd t127 x16_5) : Int).toNat * 3, none⟩ = false := hfr58 0
       have hf58_1 : wr.frozen? ⟨gp, ((rd t127 x16_5) : Int).toNat * 3 + 1, none⟩ = false := hfr58 1
       have hf58_2 : wr.frozen? ⟨gp, ((rd t127 x16_5) : Int).toNat * 3 + 2, none⟩ = false := hfr58 2
       clear hcl58 hcc58 hfr58 hM58
       replace p58 := eq_true p58
       replace q58 := eq_true q58
       have HX59 := am (show Kd.R kP3 61 wr w.heap.size (fun _ => True) (.slice (some ⟨gp, 0, none⟩) 16 16) x6_5 from (by exact rq HO_6.out))
       obtain ⟨ce59, hcl59, hM59, hcc59, hfr59⟩ := Kd.qXy HX59.out zP3 ((rd t127 x16_5) : Int) (yd) (by have h_ : ((rd t127 x16_5) : Int) < ((x6_5.length : Int) : Int) := yd; first | exact h_ | (have e_ := (Kd.qQx HO_6.out).1; omega) | simpa using h_)
       obtain rfl := qXc hM59
       have HP59 := Kd.R_seg HX59.out ((rd t127 x16_5) : Int) (yd) (by have h_ : ((rd t127 x16_5) : Int) < ((x6_5.length : Int) : Int) := yd; first | exact h_ | (have e_ := (Kd.qQx HO_6.out).1; omega) | simpa using h_) (seg := [.int .i64 ji56]) (j := 2) hcl59 hcc59 (show 3 ≤ 3 from by decide) (x' := (⟨(qQ0 x6_5 (rd t127 x16_5)).f0, (qQ0 x6_5 (rd t127 x16_5)).f1, ji56⟩ : SP3)) (qVq _ _ _ (⟨(qQ0 x6_5 (rd t127 x16_5)).f0, (qQ0 x6_5 (rd t127 x16_5)).f1, ji56⟩ : SP3) ) (fun _ hk => hk)
       have hx59_2 := hcc59 2 _ rfl
       (try simp only [show (kP3).sz = 3 from rfl, Nat.mul_one, Nat.add_zero] at hx59_2)
       have hf59_2 := hfr59 2
       (try simp only [show (kP3).sz = 3 from rfl, Nat.mul_one, Nat.add_zero] at hf59_2)
       clear hcl59 hcc59 hfr59 hM59
       go_wp2_with (first | ((with_reducible refine qWo (t := 2) (p := 139) rfl ?_); refine qX5 (t := 2) (p := 139) (v := ?vo_w60) (w1 := (wr.setCell ⟨gp, ((rd t127 x16_5) : Int).toNat * 3 + 2, none⟩ (.int .i64 ji56))) ?hg ?ho ?hn ?hr ?_; (case ho => rfl); (case hg => rfl); (case hn => rfl); (case hr => first | (go_simp; done) | (go_simp; rfl)); intro w60 hw; have hg : wr.grownBy w60 (some gp) := (by rw [hw]; exact HP59.2); have hp_ : Kd.R kP3 61 w60 w.heap.size (fun _ => True) (.slice (some ⟨gp, 0, none⟩) 16 16) y142 := (by rw [hw, Ny142.out]; exact HP59.1); clear HP59; have n0_ := am (hp_); have n1_ := am (Kd.qYz (v := (.slice (some ⟨gp, 0, none⟩) 16 16)) (by exact rq HO_11.out) (Kd.qYy HO_6.out) (by decide) hg); have n2_ := am (qYc (g := gb116) (Up.up BK116.out) hg (Kd.R_ne HO_6.out BK116.out (by decide))); have n3_ := am (qYc (g := gb123) (Up.up BK123.out) hg (Kd.R_ne HO_6.out BK123.out (by decide))); have n4_ := am ((by rw [hw]; exact qZv (HB.out) GB58.out : Below w.heap.size w w60)); clear HO_6; clear HO_11; clear BK116; clear BK123; clear HB; have HO_6 := n0_; have HO_11 := n1_; have BK116 := n2_; have BK123 := n3_; have HB := n4_; clear n0_ n1_ n2_ n3_ n4_; clear hg hw hp_; have hnb61 := NB123_116.out; have hnc61 := NB116_123.out; have hcz62_0 : w60.cell? ⟨gb123, 0, none⟩ = some (.int .i64 x124000_3) := (qQa BK123.out 0).trans rfl; have hcz62_1 : w60.cell? ⟨gb123, 1, none⟩ = some (.int .i64 x124001_4) := (qQa BK123.out 1).trans rfl; have hcz62_2 : w60.cell? ⟨gb123, 2, none⟩ = some (.int .i64 x124002_5) := (qQa BK123.out 2).trans rfl; have hcz62_3 : w60.cell? ⟨gb123, 3, none⟩ = some (.int .i64 0) := (qQa BK123.out 3).trans rfl; have hfz62_0 := qQi BK123.out 0; have hfz62_1 := qQi BK123.out 1; have hfz62_2 := qQi BK123.out 2; have hfz62_3 := qQi BK123.out 3))
       go_roundg k5
       case measure => have := HJ2.out; have := HK2.out; have := HK3.out; have := HK4.out; have := HK5.out; omega
       case rel => exact ⟨(y142), (wrap64 (x9_5 - (ji56))), (wrap64 (x16_5 + 1)), (wrap64 (x124002_5 + (ji56))), (by first | rfl | (simp; done) | (simp only [← hji56] <;> (first | rfl | simp)) | (simp [*]; done)), (by first | rfl | (simp; done) | (simp [*]; done)), H', ⟨by have := HJ2.out; have := HK2.out; have := HK3.out; have := HK4.out; have := HK5.out; omega⟩, ⟨by (with_reducible repeat (first | apply Kd.qQs | apply Kd.qQq | apply Kd.qQt)); exact Kd.qQv (Kd.R_far (p := ⟨gb123, 2, none⟩) (Kd.qZc HO_6.out BK123.out (by decide)) (fun _ hk => hk.2) (.int .i64 (wrap64 (x124002_5 + (ji56))))) (fun _ hk => trivial)⟩, ⟨by (with_reducible repeat (first | apply Kd.qQs | apply Kd.qQq | apply Kd.qQt)); exact Kd.qQv (Kd.R_far (p := ⟨gb123, 2, none⟩) (Kd.qZc HO_11.out BK123.out (by decide)) (fun _ hk => hk.2) (.int .i64 (wrap64 (x124002_5 + (ji56))))) (fun _ hk => trivial)⟩, ⟨by (with_reducible repeat (first | refine qQm ?_ _ | refine qQk ?_ | refine qQo ?_ _)); refine qZi ?_ NB116_123.out _; (with_reducible repeat (first | refine qQm ?_ _ | refine qQk ?_ | refine qQo ?_ _)); exact BK116.out⟩, ⟨by (with_reducible repeat (first | refine qQm ?_ _ | refine qQk ?_ | refine qQo ?_ _)); refine qQ1 (cs := #[.int .i64 x124000_3, .int .i64 x124001_4, .int .i64 x124002_5, .int .i64 0]) ?_ 2 _ rfl; (with_reducible repeat (first | refine qQm ?_ _ | refine qQk ?_ | refine qQo ?_ _)); exact BK123.out⟩, ⟨by exact h2q HB.out GE116.out GE123.out⟩⟩
      rw [if_neg c52] at H
      have c52b0 : decide (x16_5 < (t127.length : Int)) = false := decide_eq_false c52
      clear c52
      have H' := am H
      clear H
      have hnb63 := NB123_116.out
      have hnc63 := NB116_123.out
      have hcz64_0 : wr.cell? ⟨gb123, 0, none⟩ = some (.int .i64 x124000_3) := (qQa BK123.out 0).trans rfl
      have hcz64_1 : wr.cell? ⟨gb123, 1, none⟩ = some (.int .i64 x124001_4) := (qQa BK123.out 1).trans rfl
      have hcz64_2 : wr.cell? ⟨gb123, 2, none⟩ = some (.int .i64 x124002_5) := (qQa BK123.out 2).trans rfl
      have hcz64_3 : wr.cell? ⟨gb123, 3, none⟩ = some (.int .i64 0) := (qQa BK123.out 3).trans rfl
      have hfz64_0 := qQi BK123.out 0
      have hfz64_1 := qQi BK123.out 1
      have hfz64_2 := qQi BK123.out 2
      have hfz64_3 := qQi BK123.out 3
      go_wp2
      go_loopg [18, 19] k5 (fun kq v18 v19 w' => ∃ (x18_6 : List (S43)) (x19_6 : Int) (x117001_6 : Int) (x117002_6 : Int) (x117003_6 : Int) (x117004_6 : Int), v19 = .int .i64 x19_6 ∧ Aside0 (qQe.l4 kq l0 x6_5 x18_6 x19_6 x124000_3 x124001_4 x124002_5 x9_5 = some (r1, r2, r3, r4, r5, r6)) ∧ Aside0 (kq ≤ k5) ∧ Aside0 (Kd.R kP3 61 w' w.heap.size (fun _ => True) (.slice (some ⟨gp, 0, none⟩) 16 16) x6_5) ∧ Aside0 (Kd.R k43 43 w' w.heap.size (fun _ => True) v18 x18_6) ∧ Aside0 (w'.heap[gb116]? = some (.cells #[(.slice none 0 0), .int .i64 x117001_6, .int .i64 x117002_6, .int .i64 x117003_6, .int .i64 x117004_6] 31 (0, 0))) ∧ Aside0 (w'.heap[gb123]? = some (.cells #[.int .i64 x124000_3, .int .i64 x124001_4, .int .i64 x124002_5, .int .i64 x9_5] 26 (0, 0))) ∧ Aside0 (Below w.heap.size w w'))
      case atStart => exact ⟨(([] : List (S43))), (0), (x117001_2), (x117002_2), (x117003_2), (x117004_2), (by first | rfl | (simp; done) | (simp [*]; done)), H', ⟨Nat.le_refl _⟩, ⟨by (with_reducible repeat (first | apply Kd.qQs | apply Kd.qQq | apply Kd.qQt)); exact Kd.qQv (Kd.R_far (p := ⟨gb123, 3, none⟩) (Kd.qZc HO_6.out BK123.out (by decide)) (fun _ hk => hk.2) (.int .i64 x9_5)) (fun _ hk => trivial)⟩, ⟨by first | exact Kd.R_nil _ _ _ _ _ | exact Kd.N_nil _ _ _ _ _ | exact Kd.V_nil _ _ _ _ _ | exact Kd.Q_nil _ _ _ _ _ | exact Kd.S_nil _ _ _ _ _⟩, ⟨by (with_reducible repeat (first | refine qQm ?_ _ | refine qQk ?_ | refine qQo ?_ _)); refine qZi ?_ NB116_123.out _; (with_reducible repeat (first | refine qQm ?_ _ | refine qQk ?_ | refine qQo ?_ _)); exact BK116.out⟩, ⟨by (with_reducible repeat (first | refine qQm ?_ _ | refine qQk ?_ | refine qQo ?_ _)); refine qQ1 (cs := #[.int .i64 x124000_3, .int .i64 x124001_4, .int .i64 x124002_5, .int .i64 0]) ?_ 3 _ rfl; (with_reducible repeat (first | refine qQm ?_ _ | refine qQk ?_ | refine qQo ?_ _)); exact BK123.out⟩, ⟨by exact h2q HB.out GE116.out GE123.out⟩⟩
      case round =>
       as_aux_lemma =>
       clear H'
       try clear c5
       try clear c5b0 c5b1
       try clear c6
       try clear c6b0
       try clear c8
       try clear c10
       try clear c10b0 c10b1
       try clear c13
       try clear c13b0
       try clear c14
       try clear c14b0
       try clear c16
       try clear c25
       try clear c25b0
       try clear c26
       try clear c26b0
       try clear c27
       try clear c27b0
       try clear c28
       try clear c28b0
       try clear c30
       try clear c30b0
       try clear p31 q31
       try clear c38
       try clear c38b0
       try clear c39
       try clear c39b0
       try clear c40
       try clear c40b0
       try clear c41
       try clear c41b0
       try clear c44
       try clear c44b0
       try clear p45 q45
       try clear c52
       try clear c52b0
       try clear c53
       try clear c53b0
       try clear c54
       try clear c54b0
       try clear c55
       try clear c55b0
       try clear c57
       try clear c57b0
       try clear p58 q58
       try clear hcz19_0
       try clear hcz19_1
       try clear hcz19_2
       try clear hcz19_3
       try clear hcz19_4
       try clear hz36
       try clear hcz50_0
       try clear hcz50_1
       try clear hcz50_2
       try clear hcz50_3
       try clear hcz62_0
       try clear hcz62_1
       try clear hcz62_2
       try clear hcz62_3
       try clear hcz64_0
       try clear hcz64_1
       try clear hcz64_2
       try clear hcz64_3
       try clear hz9
       try clear hfz19_0
       try clear hfz19_1
       try clear hfz19_2
       try clear hfz19_3
       try clear hfz19_4
       try clear hfz50_0
       try clear hfz50_1
       try clear hfz50_2
       try clear hfz50_3
       try clear hfz62_0
       try clear hfz62_1
       try clear hfz62_2
       try clear hfz62_3
       try clear hfz64_0
       try clear hfz64_1
       try clear hfz64_2
       try clear hfz64_3
       try clear hx121_0 hx121_1 hx121_10 hx121_11 hx121_12 hx121_2 hx121_3 hx121_4 hx121_5 hx121_6 hx121_7 hx121_8 hx121_9
       try clear hx130_0
       try clear hx131_0 hx131_1 hx131_10 hx131_11 hx131_12 hx131_2 hx131_3 hx131_4 hx131_5 hx131_6 hx131_7 hx131_8 hx131_9
       try clear hx132_0
       try clear hx134_0
       try clear hx135_0 hx135_1 hx135_10 hx135_11 hx135_12 hx135_2 hx135_3 hx135_4 hx135_5 hx135_6 hx135_7 hx135_8 hx135_9
       try clear hx137_0
       try clear hx139_0
       try clear hx140_0 hx140_1 hx140_10 hx140_11 hx140_12 hx140_2 hx140_3 hx140_4 hx140_5 hx140_6 hx140_7 hx140_8 hx140_9
       try clear hx141_0
       try clear hx31_0
       try clear hx31_1
       try clear hx31_2
       try clear hx33_0
       try clear hx45_0
       try clear hx45_1
       try clear hx45_2
       try clear hx47_1
       try clear hx58_0
       try clear hx58_1
       try clear hx58_2
       try clear hx59_2
       try clear p121
       try clear p130
       try clear p131
       try clear p132
       try clear p134
       try clear p135
       try clear p137
       try clear p139
       try clear p140
       try clear p141
       try clear p31
       try clear p45
       try clear p58
       try clear q121
       try clear q130
       try clear q131
       try clear q132
       try clear q134
       try clear q135
       try clear q137
       try clear q139
       try clear q140
       try clear q141
       try clear q31
       try clear q45
       try clear q58
       obtain ⟨x18_6, x19_6, x117001_6, x117002_6, x117003_6, x117004_6, rfl, HA, HK6, HO_6, HO_18, BK116, BK123, HB⟩ := hrel
       rcases gk with _ | k6
       ·exact absurd HA.out (by simp [qQe.l4])
       have H := HA.out
       clear HA
       simp only [qQe.l4] at H
       by_cases c65 : x19_6 < (l0.length : Int)
       case neg =>
        rw [if_neg c65] at H
        have c65b0 : decide (x19_6 < (l0.length : Int)) = false := decide_eq_false c65
        clear c65
        simp only [Option.some.injEq, Prod.mk.injEq] at H
        obtain ⟨rfl, rfl, rfl, rfl, rfl, rfl⟩ := H
        have hnb133 := NB123_116.out
        have hnc133 := NB116_123.out
        have hcz134_0 : wr.cell? ⟨gb123, 0, none⟩ = some (.int .i64 x124000_3) := (qQa BK123.out 0).trans rfl
        have hcz134_1 : wr.cell? ⟨gb123, 1, none⟩ = some (.int .i64 x124001_4) := (qQa BK123.out 1).trans rfl
        have hcz134_2 : wr.cell? ⟨gb123, 2, none⟩ = some (.int .i64 x124002_5) := (qQa BK123.out 2).trans rfl
        have hcz134_3 : wr.cell? ⟨gb123, 3, none⟩ = some (.int .i64 x9_5) := (qQa BK123.out 3).trans rfl
        have hfz134_0 := qQi BK123.out 0
        have hfz134_1 := qQi BK123.out 1
        have hfz134_2 := qQi BK123.out 2
        have hfz134_3 := qQi BK123.out 3
        obtain ⟨Ao135, co135, eo135⟩ := Kd.qZ8 HO_18.out
        subst eo135
        have hcz136_0 : wr.cell? ⟨gb116, 0, none⟩ = some (.slice none 0 0) := (qQa BK116.out 0).trans rfl
        have hcz136_1 : wr.cell? ⟨gb116, 1, none⟩ = some (.int .i64 x117001_6) := (qQa BK116.out 1).trans rfl
        have hcz136_2 : wr.cell? ⟨gb116, 2, none⟩ = some (.int .i64 x117002_6) := (qQa BK116.out 2).trans rfl
        have hcz136_3 : wr.cell? ⟨gb116, 3, none⟩ = some (.int .i64 x117003_6) := (qQa BK116.out 3).trans rfl
        have hcz136_4 : wr.cell? ⟨gb116, 4, none⟩ = some (.int .i64 x117004_6) := (qQa BK116.out 4).trans rfl
        have hfz136_0 := qQi BK116.out 0
        have hfz136_1 := qQi BK116.out 1
        have hfz136_2 := qQi BK116.out 2
        have hfz136_3 := qQi BK116.out 3
        have hfz136_4 := qQi BK116.out 4
        go_wp2
        refine bodyPost_ret (qYq rfl _ _ gb116 31 #[.slice Ao135 x18_6.length co135, .int .i64 x124000_3, .int .i64 x124001_4, .int .i64 x124002_5, .int .i64 x9_5] (0, 0) _ rfl (by (with_reducible repeat (first | refine qQm ?_ _ | refine qQk ?_ | refine qQo ?_ _)); refine qQ1 (cs := #[.slice Ao135 x18_6.length co135, .int .i64 x124000_3, .int .i64 x124001_4, .int .i64 x124002_5, .int .i64 x117004_6]) ?_ 4 _ rfl; (with_reducible repeat (first | refine qQm ?_ _ | refine qQk ?_ | refine qQo ?_ _)); refine qQ1 (cs := #[.slice Ao135 x18_6.length co135, .int .i64 x124000_3, .int .i64 x124001_4, .int .i64 x117003_6, .int .i64 x117004_6]) ?_ 3 _ rfl; (with_reducible repeat (first | refine qQm ?_ _ | refine qQk ?_ | refine qQo ?_ _)); refine qQ1 (cs := #[.slice Ao135 x18_6.length co135, .int .i64 x124000_3, .int .i64 x117002_6, .int .i64 x117003_6, .int .i64 x117004_6]) ?_ 2 _ rfl; (with_reducible repeat (first | refine qQm ?_ _ | refine qQk ?_ | refine qQo ?_ _)); refine qQ1 (cs := #[.slice Ao135 x18_6.length co135, .int .i64 x117001_6, .int .i64 x117002_6, .int .i64 x117003_6, .int .i64 x117004_6]) ?_ 1 _ rfl; (with_reducible repeat (first | refine qQm ?_ _ | refine qQk ?_ | refine qQo ?_ _)); refine qQ1 (cs := #[.slice none 0 0, .int .i64 x117001_6, .int .i64 x117002_6, .int .i64 x117003_6, .int .i64 x117004_6]) ?_ 0 _ rfl; (with_reducible repeat (first | refine qQm ?_ _ | refine qQk ?_ | refine qQo ?_ _)); exact BK116.out) Try.underlying31 rfl (by kernel_rfl)) rfl ?_
        exact ⟨_, er, by (with_reducible repeat (first | apply Kd.qQs | apply Kd.qQq | apply Kd.qQt)); exact Kd.qQv (Kd.R_far (p := ⟨gb116, 4, none⟩) (Kd.R_far (p := ⟨gb116, 3, none⟩) (Kd.R_far (p := ⟨gb116, 2, none⟩) (Kd.R_far (p := ⟨gb116, 1, none⟩) (Kd.R_far (p := ⟨gb116, 0, none⟩) (Kd.qZc HO_18.out BK116.out (by decide)) (fun _ hk => hk.2) (.slice Ao135 x18_6.length co135)) (fun _ hk => hk.2) (.int .i64 x124000_3)) (fun _ hk => hk.2) (.int .i64 x124001_4)) (fun _ hk => hk.2) (.int .i64 x124002_5)) (fun _ hk => hk.2) (.int .i64 x9_5)) (fun _ hk => trivial), by exact h2q HB.out GE116.out GE123.out⟩
       rw [if_pos c65] at H
       have c65b0 : decide (x19_6 < (l0.length : Int)) = true := decide_eq_true c65
       clear c65
       by_cases c66 : 0 ≤ x19_6
       case neg =>
        rw [if_neg c66] at H
        exact absurd H (by simp)
       rw [if_pos c66] at H
       have c66b0 : decide (0 ≤ x19_6) = true := decide_eq_true c66
       clear c66
       by_cases c67 : ((qQc l0 x19_6).f8) = 0
       case neg =>
        rw [if_neg c67] at H
        have c67b0 : (((qQc l0 x19_6).f8) == 0) = false := beq_eq_false_iff_ne.mpr c67
        have c67b1 : (((qQc l0 x19_6).f8) != 0) = true := bne_iff_ne.mpr c67
        by_cases c127 : x18_6.length < 1353245080339
        case neg =>
         rw [if_neg c127] at H
         exact absurd H (by simp)
        rw [if_pos c127] at H
        have LMc127 := am c127
        clear c127
        obtain ⟨y166, hy166⟩ : ∃ y_ : List (S43), y_ = (x18_6 ++ [(⟨(qQc l0 x19_6).f0, (qQc l0 x19_6).f1, (qQc l0 x19_6).f2, (qQc l0 x19_6).f3, (qQc l0 x19_6).f4, (qQc l0 x19_6).f5, (qQc l0 x19_6).f6, (qQc l0 x19_6).f7, (qQc l0 x19_6).f8, (qQc l0 x19_6).f9, (qQc l0 x19_6).f10, (qQc l0 x19_6).f11, (qQc l0 x19_6).f12⟩ : S43)]) := ⟨_, rfl⟩
        replace H : (qQe.l4 k6 l0 x6_5 y166 (wrap64 (x19_6 + 1)) x124000_3 x124001_4 x124002_5 x9_5) = some (r1, r2, r3, r4, r5, r6) := by first | (rw [hy166]; with_reducible exact H) | (have H2_ := (Option.bind_some _ _).symm.trans H; rw [hy166]; with_reducible exact H2_) | (have H2_ := (Option.bind_some _ _).symm.trans H; with_reducible exact H2_) | with_reducible exact H | (rw [hy166]; exact H) | exact H
        have Ny166 := am hy166
        clear hy166
        have H' := am H
        clear H
        have p143 : 0 ≤ (x19_6 : Int) := yd
        have q143 : x19_6 < (l0.length : Int) := yd
        obtain ⟨ad143, e143, hx143_0, hx143_1, hx143_2, hx143_3, hx143_4, hx143_5, hx143_6, hx143_7, hx143_8, hx143_9, hx143_10, hx143_11, hx143_12⟩ := qYl HR0.out x19_6 p143 q143
        cases e143
        replace hx143_0 := hxb HB.out hx143_0
        replace hx143_1 := hxb HB.out hx143_1
        replace hx143_2 := hxb HB.out hx143_2
        replace hx143_3 := hxb HB.out hx143_3
        replace hx143_4 := hxb HB.out hx143_4
        replace hx143_5 := hxb HB.out hx143_5
        replace hx143_6 := hxb HB.out hx143_6
        replace hx143_7 := hxb HB.out hx143_7
        replace hx143_8 := hxb HB.out hx143_8
        replace hx143_9 := hxb HB.out hx143_9
        replace hx143_10 := hxb HB.out hx143_10
        replace hx143_11 := hxb HB.out hx143_11
        replace hx143_12 := hxb HB.out hx143_12
        replace p143 := eq_true p143
        replace q143 := eq_true q143
        go_wp2_with (first | ((with_reducible refine qZj (N := 20) rfl ?_); refine qZu ?hg (N := 20) ?hd (cs := #[.int .i64 0, .int .i64 0, .int .i64 0, .int .i64 0, .int .i64 0, .int .i64 0, .bool false, .int .i64 0, .int .i64 0, .int .i64 0, .int .i64 0, .int .i64 0, .int .i64 0]) (t := 43) ?hr ?_; (case hd => rfl); (case hg => rfl); (case hr => first | (go_simp; done) | (go_simp; rfl)); intro gb144 hg w128 hbox hb; have n0_ := am (Kd.qQw (by exact rq HO_6.out) hb); have n1_ := am (Kd.qQw (Kd.qXm (by exact rq HO_18.out) gb144 (Nat.le_of_eq hg.symm)) hb); have n2_ := am (qQu (g := gb116) (Up.up BK116.out) hb); have n3_ := am (qQu (g := gb123) (Up.up BK123.out) hb); have n4_ := am (qQn (by exact h2q HB.out GE116.out GE123.out) hb); have n5_ := am (hbox); have n6_ := am ((by rw [hg]; exact (qQh (by exact h2q HB.out GE116.out GE123.out)) : w.heap.size ≤ gb144)); have n7_ := am ((by rw [hg]; exact (qQh (by exact h2q HB.out GE116.out GE123.out)) : w.heap.size ≤ gb144)); have n8_ := am ((by rw [hg]; exact Nat.ne_of_lt (qZd (g := gb116) (Up.up BK116.out)) : gb116 ≠ gb144)); have n9_ := am ((by rw [hg]; exact Nat.ne_of_gt (qZd (g := gb116) (Up.up BK116.out)) : gb144 ≠ gb116)); have n10_ := am ((by rw [hg]; exact Nat.ne_of_lt (qZd (g := gb123) (Up.up BK123.out)) : gb123 ≠ gb144)); have n11_ := am ((by rw [hg]; exact Nat.ne_of_gt (qZd (g := gb123) (Up.up BK123.out)) : gb144 ≠ gb123)); clear HO_6; clear HO_18; clear BK116; clear BK123; clear HB; have HO_6 := n0_; have HO_18 := n1_; have BK116 := n2_; have BK123 := n3_; have HB := n4_; have BK144 := n5_; have GW144 := n6_; have GE144 := n7_; have NB116_144 := n8_; have NB144_116 := n9_; have NB123_144 := n10_; have NB144_123 := n11_; clear n0_ n1_ n2_ n3_ n4_ n5_ n6_ n7_ n8_ n9_ n10_ n11_; clear hb hbox hg) | ((with_reducible refine qWj (t := 43) (p := .tmp 20) (v := .tmp 159) rfl ?_); (refine qWb (a' := ?_) ?ha_ ?_; (case ha_ => first | (show Act.put _ _ _ = _; simp only [Act.put, List.setIfInBounds_toArray, List.set_cons_zero, List.set_cons_succ]; rfl) | rfl)); refine qWv (g := gb144) (a0 := ((qQc l0 x19_6).f0)) (a1 := ((qQc l0 x19_6).f1)) (a2 := ((qQc l0 x19_6).f2)) (a3 := ((qQc l0 x19_6).f3)) (a4 := ((qQc l0 x19_6).f4)) (a5 := ((qQc l0 x19_6).f5)) (a6 := ((qQc l0 x19_6).f6)) (a7 := ((qQc l0 x19_6).f7)) (a8 := ((qQc l0 x19_6).f8)) (a9 := ((qQc l0 x19_6).f9)) (a10 := ((qQc l0 x19_6).f10)) (a11 := ((qQc l0 x19_6).f11)) (a12 := ((qQc l0 x19_6).f12)) (p := .tmp 20) (v := .tmp 159) rfl rfl rfl rfl rfl BK144.out rfl ?_; intro w1281 hW_; have n0_ : Aside0 (Kd.R kP3 61 w1281 w.heap.size (fun _ => True) (.slice (some ⟨gp, 0, none⟩) 16 16) x6_5) := ⟨Kd.qQv (qXv hW_ (Kd.qZc HO_6.out BK144.out (by decide)) (fun _ hk => hk.2)) (fun _ _ => trivial)⟩; have n1_ : Aside0 (Kd.R k43 43 w1281 w.heap.size (fun k_ => k_ ≠ gb144) u18 x18_6) := ⟨qXv hW_ (Kd.qQv HO_18.out (fun _ hk => hk.2)) (fun _ hk => hk)⟩; have n2_ := am (qYm hW_ BK116.out NB116_144.out); have n3_ := am (qYm hW_ BK123.out NB123_144.out); have n4_ := am (qX1 hW_ BK144.out); have n5_ := am (qXb hW_ HB.out GE144.out); clear HO_6 HO_18 BK116 BK123 BK144 HB hW_; have HO_6 := n0_; have HO_18 := n1_; have BK116 := n2_; have BK123 := n3_; have BK144 := n4_; have HB := n5_; clear n0_ n1_ n2_ n3_ n4_ n5_) | ((with_reducible refine qWq (t := 3) (p := .tmp 160) rfl ?_); refine qY8 (a' := ?_) rfl (ld3 (w := w1281) (g := gb144) (k := 8) (v := .int .i64 ((qQc l0 x19_6).f8)) (p := .tmp 160) rfl rfl ((qQa BK144.out 8).trans rfl)) ?ha_ ?_; (case ha_ => first | (show Act.put _ _ _ = _; simp only [Act.put, List.setIfInBounds_toArray, List.set_cons_zero, List.set_cons_succ]; rfl) | rfl)) | ((with_reducible refine qWq (t := 43) (p := .tmp 20) rfl ?_); refine qY8 (a' := ?_) rfl (ld43 (w := w1281) (g := gb144) (p := .tmp 20) rfl rfl BK144.out rfl) ?ha_ ?_; (case ha_ => first | (show Act.put _ _ _ = _; simp only [Act.put, List.setIfInBounds_toArray, List.set_cons_zero, List.set_cons_succ]; rfl) | rfl)) | ((with_reducible refine gt_bs (t := 22) (n := 1) rfl ?_); refine qY8 (a' := ?_) (W' := w1281.alloc (.cells #[.int .i64 ((qQc l0 x19_6).f0), .int .i64 ((qQc l0 x19_6).f1), .int .i64 ((qQc l0 x19_6).f2), .int .i64 ((qQc l0 x19_6).f3), .int .i64 ((qQc l0 x19_6).f4), .int .i64 ((qQc l0 x19_6).f5), .bool ((qQc l0 x19_6).f6), .int .i64 ((qQc l0 x19_6).f7), .int .i64 ((qQc l0 x19_6).f8), .int .i64 ((qQc l0 x19_6).f9), .int .i64 ((qQc l0 x19_6).f10), .int .i64 ((qQc l0 x19_6).f11), .int .i64 ((qQc l0 x19_6).f12)] 43 (0, 0))) rfl (bs22 (w := w1281) (a0 := ((qQc l0 x19_6).f0)) (a1 := ((qQc l0 x19_6).f1)) (a2 := ((qQc l0 x19_6).f2)) (a3 := ((qQc l0 x19_6).f3)) (a4 := ((qQc l0 x19_6).f4)) (a5 := ((qQc l0 x19_6).f5)) (a6 := ((qQc l0 x19_6).f6)) (a7 := ((qQc l0 x19_6).f7)) (a8 := ((qQc l0 x19_6).f8)) (a9 := ((qQc l0 x19_6).f9)) (a10 := ((qQc l0 x19_6).f10)) (a11 := ((qQc l0 x19_6).f11)) (a12 := ((qQc l0 x19_6).f12)) (p := .tmp 186) rfl rfl) ?ha_ ?_; (case ha_ => first | (show Act.put _ _ _ = _; simp only [Act.put, List.setIfInBounds_toArray, List.set_cons_zero, List.set_cons_succ]; rfl) | rfl)) | ((with_reducible refine qYj (b := .append) (xs := #[.tmp 185, .tmp 187]) rfl ?_); at_builtin; refine Kd.qXr k43 (w0 := w) w.heap.size rfl (.tmp 185) (.tmp 187) 22 43 (.agg #[(.int .i64 0), (.int .i64 0), (.int .i64 0), (.int .i64 0), (.int .i64 0), (.int .i64 0), (.bool false), (.int .i64 0), (.int .i64 0), (.int .i64 0), (.int .i64 0), (.int .i64 0), (.int .i64 0)]) 104 rfl Try.underlying22 info43 rfl (by decide) (by omega) u18 x18_6 (⟨(qQc l0 x19_6).f0, (qQc l0 x19_6).f1, (qQc l0 x19_6).f2, (qQc l0 x19_6).f3, (qQc l0 x19_6).f4, (qQc l0 x19_6).f5, (qQc l0 x19_6).f6, (qQc l0 x19_6).f7, (qQc l0 x19_6).f8, (qQc l0 x19_6).f9, (qQc l0 x19_6).f10, (qQc l0 x19_6).f11, (qQc l0 x19_6).f12⟩ : S43) [.int .i64 ((qQc l0 x19_6).f0), .int .i64 ((qQc l0 x19_6).f1), .int .i64 ((qQc l0 x19_6).f2), .int .i64 ((qQc l0 x19_6).f3), .int .i64 ((qQc l0 x19_6).f4), .int .i64 ((qQc l0 x19_6).f5), .bool ((qQc l0 x19_6).f6), .int .i64 ((qQc l0 x19_6).f7), .int .i64 ((qQc l0 x19_6).f8), .int .i64 ((qQc l0 x19_6).f9), .int .i64 ((qQc l0 x19_6).f10), .int .i64 ((qQc l0 x19_6).f11), .int .i64 ((qQc l0 x19_6).f12)] (fun k_ => k_ ≠ gb144) (fun _ => False) rfl (by first | (go_simp; done) | (go_simp; rfl)) ?aP (fun _ hk => hk.elim) ?aF ?aO ?aB ?aS ?aL ?_; (case aP => exact qWp _ _ _ (⟨(qQc l0 x19_6).f0, (qQc l0 x19_6).f1, (qQc l0 x19_6).f2, (qQc l0 x19_6).f3, (qQc l0 x19_6).f4, (qQc l0 x19_6).f5, (qQc l0 x19_6).f6, (qQc l0 x19_6).f7, (qQc l0 x19_6).f8, (qQc l0 x19_6).f9, (qQc l0 x19_6).f10, (qQc l0 x19_6).f11, (qQc l0 x19_6).f12⟩ : S43)); (case aB => exact (by exact hq HB.out GE116.out)); (case aF => exact (fun k_ hk => Kd.freshB (g := gb144) (o := .cells #[.int .i64 ((qQc l0 x19_6).f0), .int .i64 ((qQc l0 x19_6).f1), .int .i64 ((qQc l0 x19_6).f2), .int .i64 ((qQc l0 x19_6).f3), .int .i64 ((qQc l0 x19_6).f4), .int .i64 ((qQc l0 x19_6).f5), .bool ((qQc l0 x19_6).f6), .int .i64 ((qQc l0 x19_6).f7), .int .i64 ((qQc l0 x19_6).f8), .int .i64 ((qQc l0 x19_6).f9), .int .i64 ((qQc l0 x19_6).f10), .int .i64 ((qQc l0 x19_6).f11), .int .i64 ((qQc l0 x19_6).f12)] 43 (0, 0)) (by exact bq BK144.out) k_ hk)); (case aO => exact (by exact Rq HO_18.out)); (case aS => exact (qQh (by exact hq HB.out GE116.out))); (case aL => have := LMc127.out; omega); intro v167 w132 ho hb hg hat; rw [← Ny166.out] at ho; have n0_ := am (Kd.qYz (by exact Rq HO_6.out) (Kd.qYy (by exact Rq HO_18.out)) (by decide) hg); have n1_ := am (qYc (g := gb116) (o := .cells #[.slice none 0 0, .int .i64 x117001_6, .int .i64 x117002_6, .int .i64 x117003_6, .int .i64 x117004_6] 31 (0, 0)) (by exact bq BK116.out) hg (Kd.R_ne HO_18.out BK116.out (by decide))); have n2_ := am (qYc (g := gb123) (o := .cells #[.int .i64 x124000_3, .int .i64 x124001_4, .int .i64 x124002_5, .int .i64 x9_5] 26 (0, 0)) (by exact bq BK123.out) hg (Kd.R_ne HO_18.out BK123.out (by decide))); have n3_ := am (qYc (g := gb144) (o := .cells #[.int .i64 ((qQc l0 x19_6).f0), .int .i64 ((qQc l0 x19_6).f1), .int .i64 ((qQc l0 x19_6).f2), .int .i64 ((qQc l0 x19_6).f3), .int .i64 ((qQc l0 x19_6).f4), .int .i64 ((qQc l0 x19_6).f5), .bool ((qQc l0 x19_6).f6), .int .i64 ((qQc l0 x19_6).f7), .int .i64 ((qQc l0 x19_6).f8), .int .i64 ((qQc l0 x19_6).f9), .int .i64 ((qQc l0 x19_6).f10), .int .i64 ((qQc l0 x19_6).f11), .int .i64 ((qQc l0 x19_6).f12)] 43 (0, 0)) (by exact bq BK144.out) hg (Kd.qJ8 HO_18.out (fun _ hk => hk))); have n4_ := am (hb); have n5_ := am (ho); clear HO_6 BK116 BK123 BK144 HB HO_18; have HO_6 := n0_; have BK116 := n1_; have BK123 := n2_; have BK144 := n3_; have HB := n4_; have HO168 := n5_; clear n0_ n1_ n2_ n3_ n4_ n5_; clear ho hb hg hat))
        go_roundg k6
        case measure => have := HJ2.out; have := HK2.out; have := HK3.out; have := HK4.out; have := HK5.out; have := HK6.out; omega
        case rel => exact ⟨(y166), (wrap64 (x19_6 + 1)), (x117001_6), (x117002_6), (x117003_6), (x117004_6), (by first | rfl | (simp; done) | (simp [*]; done)), H', ⟨by have := HJ2.out; have := HK2.out; have := HK3.out; have := HK4.out; have := HK5.out; have := HK6.out; omega⟩, ⟨by exact rq HO_6.out⟩, ⟨by (with_reducible repeat (first | apply Kd.qQs | apply Kd.qQq | apply Kd.qQt)); exact Kd.qQv HO168.out (fun _ hk => trivial)⟩, ⟨by exact bb BK116.out⟩, ⟨by exact bb BK123.out⟩, ⟨by exact h3q HB.out GE116.out GE123.out GE144.out⟩⟩
       rw [if_pos c67] at H
       have c67b0 : (((qQc l0 x19_6).f8) == 0) = true := beq_iff_eq.mpr c67
       have c67b1 : (((qQc l0 x19_6).f8) != 0) = false := bne_eq_false_iff_eq.mpr c67
       clear c67
       by_cases c68 : x19_6 < (x6_5.length : Int)
       case neg =>
        rw [if_neg c68] at H
        exact absurd H (by simp)
       rw [if_pos c68] at H
       have c68b0 : decide (x19_6 < (x6_5.length : Int)) = true := decide_eq_true c68
       clear c68
       replace H := Option.bind_eq_some_iff.mp H
       obtain ⟨⟨t148, t149, t150, t151, t152, t153, t154, t155, t156, t157, t158, t159, t160, t161⟩, A690, H⟩ := H
       replace H : (if t161 = 0 then (if x18_6.length < 1353245080339 then (qQe.l4 k6 l0 x6_5 (x18_6 ++ [(⟨t148, t149, t150, t151, t152, t153, t154, t155, t156, t157, t158, t159, t160⟩ : S43)]) (wrap64 (x19_6 + 1)) x124000_3 x124001_4 x124002_5 x9_5) else (none)) else (some (([] : List (S43)), 0, 0, 0, 0, t161))) = some (r1, r2, r3, r4, r5, r6) := H
       have A69 := am A690
       clear A690
       by_cases c70 : t161 = 0
       case neg =>
        rw [if_neg c70] at H
        have c70b0 : (t161 == 0) = false := beq_eq_false_iff_ne.mpr c70
        have c70b1 : (t161 != 0) = true := bne_iff_ne.mpr c70
        simp only [Option.some.injEq, Prod.mk.injEq] at H
        obtain ⟨rfl, rfl, rfl, rfl, rfl, rfl⟩ := H
        have p143 : 0 ≤ (x19_6 : Int) := yd
        have q143 : x19_6 < (l0.length : Int) := yd
        obtain ⟨ad143, e143, hx143_0, hx143_1, hx143_2, hx143_3, hx143_4, hx143_5, hx143_6, hx143_7, hx143_8, hx143_9, hx143_10, hx143_11, hx143_12⟩ := qYl HR0.out x19_6 p143 q143
        cases e143
        replace hx143_0 := hxb HB.out hx143_0
        replace hx143_1 := hxb HB.out hx143_1
        replace hx143_2 := hxb HB.out hx143_2
        replace hx143_3 := hxb HB.out hx143_3
        replace hx143_4 := hxb HB.out hx143_4
        replace hx143_5 := hxb HB.out hx143_5
        replace hx143_6 := hxb HB.out hx143_6
        replace hx143_7 := hxb HB.out hx143_7
        replace hx143_8 := hxb HB.out hx143_8
        replace hx143_9 := hxb HB.out hx143_9
        replace hx143_10 := hxb HB.out hx143_10
        replace hx143_11 := hxb HB.out hx143_11
        replace hx143_12 := hxb HB.out hx143_12
        replace p143 := eq_true p143
        replace q143 := eq_true q143
        go_wp2_with (first | ((with_reducible refine qZj (N := 20) rfl ?_); refine qZu ?hg (N := 20) ?hd (cs := #[.int .i64 0, .int .i64 0, .int .i64 0, .int .i64 0, .int .i64 0, .int .i64 0, .bool false, .int .i64 0, .int .i64 0, .int .i64 0, .int .i64 0, .int .i64 0, .int .i64 0]) (t := 43) ?hr ?_; (case hd => rfl); (case hg => rfl); (case hr => first | (go_simp; done) | (go_simp; rfl)); intro gb144 hg w101 hbox hb; have n0_ := am (Kd.qQw (by exact rq HO_6.out) hb); have n1_ := am (Kd.qQw (Kd.qXm (by exact rq HO_18.out) gb144 (Nat.le_of_eq hg.symm)) hb); have n2_ := am (qQu (g := gb116) (Up.up BK116.out) hb); have n3_ := am (qQu (g := gb123) (Up.up BK123.out) hb); have n4_ := am (qQn (by exact h2q HB.out GE116.out GE123.out) hb); have n5_ := am (hbox); have n6_ := am ((by rw [hg]; exact (qQh (by exact h2q HB.out GE116.out GE123.out)) : w.heap.size ≤ gb144)); have n7_ := am ((by rw [hg]; exact (qQh (by exact h2q HB.out GE116.out GE123.out)) : w.heap.size ≤ gb144)); have n8_ := am ((by rw [hg]; exact Nat.ne_of_lt (qZd (g := gb116) (Up.up BK116.out)) : gb116 ≠ gb144)); have n9_ := am ((by rw [hg]; exact Nat.ne_of_gt (qZd (g := gb116) (Up.up BK116.out)) : gb144 ≠ gb116)); have n10_ := am ((by rw [hg]; exact Nat.ne_of_lt (qZd (g := gb123) (Up.up BK123.out)) : gb123 ≠ gb144)); have n11_ := am ((by rw [hg]; exact Nat.ne_of_gt (qZd (g := gb123) (Up.up BK123.out)) : gb144 ≠ gb123)); clear HO_6; clear HO_18; clear BK116; clear BK123; clear HB; have HO_6 := n0_; have HO_18 := n1_; have BK116 := n2_; have BK123 := n3_; have HB := n4_; have BK144 := n5_; have GW144 := n6_; have GE144 := n7_; have NB116_144 := n8_; have NB144_116 := n9_; have NB123_144 := n10_; have NB144_123 := n11_; clear n0_ n1_ n2_ n3_ n4_ n5_ n6_ n7_ n8_ n9_ n10_ n11_; clear hb hbox hg) | ((with_reducible refine qWj (t := 43) (p := .tmp 20) (v := .tmp 159) rfl ?_); (refine qWb (a' := ?_) ?ha_ ?_; (case ha_ => first | (show Act.put _ _ _ = _; simp only [Act.put, List.setIfInBounds_toArray, List.set_cons_zero, List.set_cons_succ]; rfl) | rfl)); refine qWv (g := gb144) (a0 := ((qQc l0 x19_6).f0)) (a1 := ((qQc l0 x19_6).f1)) (a2 := ((qQc l0 x19_6).f2)) (a3 := ((qQc l0 x19_6).f3)) (a4 := ((qQc l0 x19_6).f4)) (a5 := ((qQc l0 x19_6).f5)) (a6 := ((qQc l0 x19_6).f6)) (a7 := ((qQc l0 x19_6).f7)) (a8 := ((qQc l0 x19_6).f8)) (a9 := ((qQc l0 x19_6).f9)) (a10 := ((qQc l0 x19_6).f10)) (a11 := ((qQc l0 x19_6).f11)) (a12 := ((qQc l0 x19_6).f12)) (p := .tmp 20) (v := .tmp 159) rfl rfl rfl rfl rfl BK144.out rfl ?_; intro w105 hW_; have n0_ : Aside0 (Kd.R kP3 61 w105 w.heap.size (fun _ => True) (.slice (some ⟨gp, 0, none⟩) 16 16) x6_5) := ⟨Kd.qQv (qXv hW_ (Kd.qZc HO_6.out BK144.out (by decide)) (fun _ hk => hk.2)) (fun _ _ => trivial)⟩; have n1_ : Aside0 (Kd.R k43 43 w105 w.heap.size (fun k_ => k_ ≠ gb144) u18 x18_6) := ⟨qXv hW_ (Kd.qQv HO_18.out (fun _ hk => hk.2)) (fun _ hk => hk)⟩; have n2_ := am (qYm hW_ BK116.out NB116_144.out); have n3_ := am (qYm hW_ BK123.out NB123_144.out); have n4_ := am (qX1 hW_ BK144.out); have n5_ := am (qXb hW_ HB.out GE144.out); clear HO_6 HO_18 BK116 BK123 BK144 HB hW_; have HO_6 := n0_; have HO_18 := n1_; have BK116 := n2_; have BK123 := n3_; have BK144 := n4_; have HB := n5_; clear n0_ n1_ n2_ n3_ n4_ n5_) | ((with_reducible refine qWq (t := 3) (p := .tmp 160) rfl ?_); refine qY8 (a' := ?_) rfl (ld3 (w := w105) (g := gb144) (k := 8) (v := .int .i64 ((qQc l0 x19_6).f8)) (p := .tmp 160) rfl rfl ((qQa BK144.out 8).trans rfl)) ?ha_ ?_; (case ha_ => first | (show Act.put _ _ _ = _; simp only [Act.put, List.setIfInBounds_toArray, List.set_cons_zero, List.set_cons_succ]; rfl) | rfl)))
        have n0_ := am (Kd.qQt HO_6.out)
        have n1_ := am (Kd.qQt HO_18.out)
        have n2_ := am (qQk BK116.out)
        have n3_ := am (qQk BK123.out)
        have n4_ := am (qQk BK144.out)
        have n5_ := am (qZg HB.out)
        clear HO_6 HO_18 BK116 BK123 BK144 HB
        have HO_6 := n0_
        have HO_18 := n1_
        have BK116 := n2_
        have BK123 := n3_
        have BK144 := n4_
        have HB := n5_
        clear n0_ n1_ n2_ n3_ n4_ n5_
        have p145 : 0 ≤ (x19_6 : Int) := yd
        have q145 : x19_6 < (x6_5.length : Int) := yd
        obtain ⟨hx145_0, hx145_1, hx145_2⟩ := P3.at_ HO_6.out x19_6 p145 q145
        have qa145 := eq_true (show x19_6 < 16 by have e_ := (Kd.qQx HO_6.out).1; omega)
        replace p145 := eq_true p145
        replace q145 := eq_true q145
        have p146 : 0 ≤ (x19_6 : Int) := yd
        have q146 : x19_6 < (x6_5.length : Int) := yd
        obtain ⟨hx146_0, hx146_1, hx146_2⟩ := P3.at_ HO_6.out x19_6 p146 q146
        have qa146 := eq_true (show x19_6 < 16 by have e_ := (Kd.qQx HO_6.out).1; omega)
        replace p146 := eq_true p146
        replace q146 := eq_true q146
        have p147 : 0 ≤ (x19_6 : Int) := yd
        have q147 : x19_6 < (x6_5.length : Int) := yd
        obtain ⟨hx147_0, hx147_1, hx147_2⟩ := P3.at_ HO_6.out x19_6 p147 q147
        have qa147 := eq_true (show x19_6 < 16 by have e_ := (Kd.qQx HO_6.out).1; omega)
        replace p147 := eq_true p147
        replace q147 := eq_true q147
        as_aux_lemma =>
        refine start_ (n := 20) (S := fun w' => w'.cell? ⟨gb144, 0, none⟩ = some (.int .i64 ((qQc l0 x19_6).f0)) ∧ w'.cell? ⟨gb144, 1, none⟩ = some (.int .i64 ((qQc l0 x19_6).f1)) ∧ w'.cell? ⟨gb144, 2, none⟩ = some (.int .i64 ((qQc l0 x19_6).f2)) ∧ w'.cell? ⟨gb144, 3, none⟩ = some (.int .i64 ((qQc l0 x19_6).f3)) ∧ w'.cell? ⟨gb144, 4, none⟩ = some (.int .i64 ((qQc l0 x19_6).f4)) ∧ w'.cell? ⟨gb144, 5, none⟩ = some (.int .i64 ((qQc l0 x19_6).f5)) ∧ w'.cell? ⟨gb144, 6, none⟩ = some (.bool ((qQc l0 x19_6).f6)) ∧ w'.cell? ⟨gb144, 7, none⟩ = some (.int .i64 ((qQc l0 x19_6).f7)) ∧ w'.cell? ⟨gb144, 8, none⟩ = some (.int .i64 ((qQc l0 x19_6).f8)) ∧ w'.cell? ⟨gb144, 9, none⟩ = some (.int .i64 ((qQc l0 x19_6).f9)) ∧ w'.cell? ⟨gb144, 10, none⟩ = some (.int .i64 ((qQc l0 x19_6).f10)) ∧ w'.cell? ⟨gb144, 11, none⟩ = some (.int .i64 ((qQc l0 x19_6).f11)) ∧ w'.cell? ⟨gb144, 12, none⟩ = some (.int .i64 ((qQc l0 x19_6).f12)) ∧ w'.cell? ⟨gp, (x19_6).toNat * 3, none⟩ = some (.int .i64 ((qQ0 x6_5 x19_6).f0)) ∧ w'.cell? ⟨gp, (x19_6).toNat * 3 + 1, none⟩ = some (.int .i64 ((qQ0 x6_5 x19_6).f1)) ∧ w'.cell? ⟨gp, (x19_6).toNat * 3 + 2, none⟩ = some (.int .i64 ((qQ0 x6_5 x19_6).f2)) ∧ w'.cell? ⟨gp, (x19_6).toNat * 3, none⟩ = some (.int .i64 ((qQ0 x6_5 x19_6).f0)) ∧ w'.cell? ⟨gp, (x19_6).toNat * 3 + 1, none⟩ = some (.int .i64 ((qQ0 x6_5 x19_6).f1)) ∧ w'.cell? ⟨gp, (x19_6).toNat * 3 + 2, none⟩ = some (.int .i64 ((qQ0 x6_5 x19_6).f2)) ∧ w'.cell? ⟨gp, (x19_6).toNat * 3, none⟩ = some (.int .i64 ((qQ0 x6_5 x19_6).f0)) ∧ w'.cell? ⟨gp, (x19_6).toNat * 3 + 1, none⟩ = some (.int .i64 ((qQ0 x6_5 x19_6).f1)) ∧ w'.cell? ⟨gp, (x19_6).toNat * 3 + 2, none⟩ = some (.int .i64 ((qQ0 x6_5 x19_6).f2))) (ds := []) (qQe.fl 20 0) (by kernel_rfl) rfl rfl ⟨(qQa BK144.out 0).trans rfl, (qQa BK144.out 1).trans rfl, (qQa BK144.out 2).trans rfl, (qQa BK144.out 3).trans rfl, (qQa BK144.out 4).trans rfl, (qQa BK144.out 5).trans rfl, (qQa BK144.out 6).trans rfl, (qQa BK144.out 7).trans rfl, (qQa BK144.out 8).trans rfl, (qQa BK144.out 9).trans rfl, (qQa BK144.out 10).trans rfl, (qQa BK144.out 11).trans rfl, (qQa BK144.out 12).trans rfl, hx145_0, hx145_1, hx145_2, hx146_0, hx146_1, hx146_2, hx147_0, hx147_1, hx147_2⟩ (fun hHeld => ?_); refine qYg qQe.tab40 qQe.bits40 (fun HT_ HW_ => ?_)
        generalize w105.drew = w106 at HO_6 HO_18 BK116 BK123 BK144 HB hx145_0 hx145_1 hx145_2 hx146_0 hx146_1 hx146_2 hx147_0 hx147_1 hx147_2 hHeld ⊢
        refine qQe.y 1 165 20 2 HT_.out ?_
        refine qQe.y 2 166 20 6 HT_.out ?_
        refine qQe.y 3 167 20 14 HT_.out ?_
        refine qQe.y 5 169 20 46 HT_.out ?_
        refine qQe.y 6 170 20 110 HT_.out ?_
        refine qQe.y 7 171 20 238 HT_.out ?_
        refine qQe.y 9 173 20 750 HT_.out ?_
        refine qQe.y 10 174 20 1774 HT_.out ?_
        refine qQe.y 11 175 20 3822 HT_.out ?_
        refine qQe.t 0 164 20 3823 HT_.out HW_.out hHeld ?_
        refine qQe.t 4 168 20 3839 HT_.out HW_.out hHeld ?_
        refine qQe.t 8 172 20 4095 HT_.out HW_.out hHeld ?_
        refine qQe.t 12 176 20 8191 HT_.out HW_.out hHeld ?_
        refine join_ (σ := Nat) 2 (qQe.fl 20 262143) (fun s_ => [(177, .tuple #[.agg #[.int .i64 t148, .int .i64 t149, .int .i64 t150, .int .i64 t151, .int .i64 t152, .int .i64 t153, .bool t154, .int .i64 t155, .int .i64 t156, .int .i64 t157, .int .i64 t158, .int .i64 t159, .int .i64 t160], .int .i64 t161]), (21, .pointer (some ⟨s_, 0, none⟩)), (163, .tuple #[.agg #[.int .i64 t148, .int .i64 t149, .int .i64 t150, .int .i64 t151, .int .i64 t152, .int .i64 t153, .bool t154, .int .i64 t155, .int .i64 t156, .int .i64 t157, .int .i64 t158, .int .i64 t159, .int .i64 t160], .int .i64 t161]), (178, .agg #[.int .i64 t148, .int .i64 t149, .int .i64 t150, .int .i64 t151, .int .i64 t152, .int .i64 t153, .bool t154, .int .i64 t155, .int .i64 t156, .int .i64 t157, .int .i64 t158, .int .i64 t159, .int .i64 t160]), (179, .int .i64 t161)]) (fun s_ w' => (w'.cell? ⟨gb144, 0, none⟩ = some (.int .i64 ((qQc l0 x19_6).f0)) ∧ w'.cell? ⟨gb144, 1, none⟩ = some (.int .i64 ((qQc l0 x19_6).f1)) ∧ w'.cell? ⟨gb144, 2, none⟩ = some (.int .i64 ((qQc l0 x19_6).f2)) ∧ w'.cell? ⟨gb144, 3, none⟩ = some (.int .i64 ((qQc l0 x19_6).f3)) ∧ w'.cell? ⟨gb144, 4, none⟩ = some (.int .i64 ((qQc l0 x19_6).f4)) ∧ w'.cell? ⟨gb144, 5, none⟩ = some (.int .i64 ((qQc l0 x19_6).f5)) ∧ w'.cell? ⟨gb144, 6, none⟩ = some (.bool ((qQc l0 x19_6).f6)) ∧ w'.cell? ⟨gb144, 7, none⟩ = some (.int .i64 ((qQc l0 x19_6).f7)) ∧ w'.cell? ⟨gb144, 8, none⟩ = some (.int .i64 ((qQc l0 x19_6).f8)) ∧ w'.cell? ⟨gb144, 9, none⟩ = some (.int .i64 ((qQc l0 x19_6).f9)) ∧ w'.cell? ⟨gb144, 10, none⟩ = some (.int .i64 ((qQc l0 x19_6).f10)) ∧ w'.cell? ⟨gb144, 11, none⟩ = some (.int .i64 ((qQc l0 x19_6).f11)) ∧ w'.cell? ⟨gb144, 12, none⟩ = some (.int .i64 ((qQc l0 x19_6).f12)) ∧ w'.cell? ⟨gp, (x19_6).toNat * 3, none⟩ = some (.int .i64 ((qQ0 x6_5 x19_6).f0)) ∧ w'.cell? ⟨gp, (x19_6).toNat * 3 + 1, none⟩ = some (.int .i64 ((qQ0 x6_5 x19_6).f1)) ∧ w'.cell? ⟨gp, (x19_6).toNat * 3 + 2, none⟩ = some (.int .i64 ((qQ0 x6_5 x19_6).f2)) ∧ w'.cell? ⟨gp, (x19_6).toNat * 3, none⟩ = some (.int .i64 ((qQ0 x6_5 x19_6).f0)) ∧ w'.cell? ⟨gp, (x19_6).toNat * 3 + 1, none⟩ = some (.int .i64 ((qQ0 x6_5 x19_6).f1)) ∧ w'.cell? ⟨gp, (x19_6).toNat * 3 + 2, none⟩ = some (.int .i64 ((qQ0 x6_5 x19_6).f2)) ∧ w'.cell? ⟨gp, (x19_6).toNat * 3, none⟩ = some (.int .i64 ((qQ0 x6_5 x19_6).f0)) ∧ w'.cell? ⟨gp, (x19_6).toNat * 3 + 1, none⟩ = some (.int .i64 ((qQ0 x6_5 x19_6).f1)) ∧ w'.cell? ⟨gp, (x19_6).toNat * 3 + 2, none⟩ = some (.int .i64 ((qQ0 x6_5 x19_6).f2))) ∧ (Kd.R k43 43 w' w.heap.size (fun k_ => k_ ≠ gb144 ∧ k_ ≠ s_) u18 x18_6) ∧ (Kd.R kP3 61 w' w.heap.size (fun _ => True) (.slice (some ⟨gp, 0, none⟩) 16 16) x6_5) ∧ (w'.heap[gb116]? = some (.cells #[.slice none 0 0, .int .i64 x117001_6, .int .i64 x117002_6, .int .i64 x117003_6, .int .i64 x117004_6] 31 (0, 0))) ∧ (w'.heap[gb123]? = some (.cells #[.int .i64 x124000_3, .int .i64 x124001_4, .int .i64 x124002_5, .int .i64 x9_5] 26 (0, 0))) ∧ (w'.heap[gb144]? = some (.cells #[.int .i64 ((qQc l0 x19_6).f0), .int .i64 ((qQc l0 x19_6).f1), .int .i64 ((qQc l0 x19_6).f2), .int .i64 ((qQc l0 x19_6).f3), .int .i64 ((qQc l0 x19_6).f4), .int .i64 ((qQc l0 x19_6).f5), .bool ((qQc l0 x19_6).f6), .int .i64 ((qQc l0 x19_6).f7), .int .i64 ((qQc l0 x19_6).f8), .int .i64 ((qQc l0 x19_6).f9), .int .i64 ((qQc l0 x19_6).f10), .int .i64 ((qQc l0 x19_6).f11), .int .i64 ((qQc l0 x19_6).f12)] 43 (0, 0))) ∧ (w'.heap[s_]? = some (.cells #[.int .i64 0, .int .i64 0, .int .i64 0, .int .i64 0, .int .i64 0, .int .i64 0, .bool false, .int .i64 0, .int .i64 0, .int .i64 0, .int .i64 0, .int .i64 0, .int .i64 0] 43 (0, 0))) ∧ (w.heap.size ≤ s_) ∧ (w.heap.size ≤ s_) ∧ (gb116 ≠ s_) ∧ (s_ ≠ gb116) ∧ (gb123 ≠ s_) ∧ (s_ ≠ gb123) ∧ (gb144 ≠ s_) ∧ (s_ ≠ gb144) ∧ (Below w.heap.size w w')) ?_ ?_
        rotate_left
        ·intro hCont
         refine two_ (i := 13) (j := 17) (Ni := some 177) (Nj := some 21) (qQe.fl 20 16383) (qQe.fl 20 139263) rfl rfl rfl rfl (qXj HT_.out (by kernel_rfl)) (by decide) (by decide) (fun K hK => ?_) (fun K hK => ?_)
         ·skip
          refine goes_ Try.func33 (by kernel_rfl) rfl #[.agg #[.int .i64 ((qQc l0 x19_6).f0), .int .i64 ((qQc l0 x19_6).f1), .int .i64 ((qQc l0 x19_6).f2), .int .i64 ((qQc l0 x19_6).f3), .int .i64 ((qQc l0 x19_6).f4), .int .i64 ((qQc l0 x19_6).f5), .bool ((qQc l0 x19_6).f6), .int .i64 ((qQc l0 x19_6).f7), .int .i64 ((qQc l0 x19_6).f8), .int .i64 ((qQc l0 x19_6).f9), .int .i64 ((qQc l0 x19_6).f10), .int .i64 ((qQc l0 x19_6).f11), .int .i64 ((qQc l0 x19_6).f12)], .int .i64 ((qQ0 x6_5 x19_6).f0), .int .i64 ((qQ0 x6_5 x19_6).f1), .int .i64 ((qQ0 x6_5 x19_6).f2)] (by rfl) rfl rfl ml ?_
          with_reducible refine (qQp.calls k6 ((qQc l0 x19_6).f0) ((qQc l0 x19_6).f1) ((qQc l0 x19_6).f2) ((qQc l0 x19_6).f3) ((qQc l0 x19_6).f4) ((qQc l0 x19_6).f5) ((qQc l0 x19_6).f6) ((qQc l0 x19_6).f7) ((qQc l0 x19_6).f8) ((qQc l0 x19_6).f9) ((qQc l0 x19_6).f10) ((qQc l0 x19_6).f11) ((qQc l0 x19_6).f12) ((qQ0 x6_5 x19_6).f0) ((qQ0 x6_5 x19_6).f1) ((qQ0 x6_5 x19_6).f2) t148 t149 t150 t151 t152 t153 t154 t155 t156 t157 t158 t159 t160 t161 _ A69.out).mono ?_
          rintro e w108 ⟨rfl, hb⟩
          have HS13_ := hxb hb (hHeld.2.2.2.2.2.2.2.2.2.2.2.2.2.1)
          have HS14_ := hxb hb (hHeld.2.2.2.2.2.2.2.2.2.2.2.2.2.2.1)
          have HS15_ := hxb hb (hHeld.2.2.2.2.2.2.2.2.2.2.2.2.2.2.2.1)
          have HS16_ := hxb hb (hHeld.2.2.2.2.2.2.2.2.2.2.2.2.2.2.2.2.1)
          have HS17_ := hxb hb (hHeld.2.2.2.2.2.2.2.2.2.2.2.2.2.2.2.2.2.1)
          have HS18_ := hxb hb (hHeld.2.2.2.2.2.2.2.2.2.2.2.2.2.2.2.2.2.2.1)
          have HS19_ := hxb hb (hHeld.2.2.2.2.2.2.2.2.2.2.2.2.2.2.2.2.2.2.2.1)
          have HS20_ := hxb hb (hHeld.2.2.2.2.2.2.2.2.2.2.2.2.2.2.2.2.2.2.2.2.1)
          have HS21_ := hxb hb (hHeld.2.2.2.2.2.2.2.2.2.2.2.2.2.2.2.2.2.2.2.2.2)
          refine ⟨_, rfl, ?_⟩
          have n0_ := am (Kd.qQw (by exact rq HO_6.out) hb)
          have n1_ := am (Kd.qQw (by exact rq HO_18.out) hb)
          have n2_ := am (qQu (g := gb116) (Up.up BK116.out) hb)
          have n3_ := am (qQu (g := gb123) (Up.up BK123.out) hb)
          have n4_ := am (qQu (g := gb144) (Up.up BK144.out) hb)
          have n5_ := am (qQn (by exact h3q HB.out GE116.out GE123.out GE144.out) hb)
          clear HO_6 HO_18 BK116 BK123 BK144 HB
          have HO_6 := n0_
          have HO_18 := n1_
          have BK116 := n2_
          have BK123 := n3_
          have BK144 := n4_
          have HB := n5_
          clear n0_ n1_ n2_ n3_ n4_ n5_
          (try clear hb)
          (try clear hb2)
          (try clear hk)
          (try clear hi)
          refine hK.out _ _ ⟨(qQa BK144.out 0).trans rfl, (qQa BK144.out 1).trans rfl, (qQa BK144.out 2).trans rfl, (qQa BK144.out 3).trans rfl, (qQa BK144.out 4).trans rfl, (qQa BK144.out 5).trans rfl, (qQa BK144.out 6).trans rfl, (qQa BK144.out 7).trans rfl, (qQa BK144.out 8).trans rfl, (qQa BK144.out 9).trans rfl, (qQa BK144.out 10).trans rfl, (qQa BK144.out 11).trans rfl, (qQa BK144.out 12).trans rfl, HS13_, HS14_, HS15_, HS16_, HS17_, HS18_, HS19_, HS20_, HS21_⟩ (fun hHeld => ?_)
          clear hK K
          refine norm_ (a' := ?_) ?_ ?_
          rotate_left
          ·show Act.put _ (some 177) _ = _
           exact pu
          refine qQe.y 14 163 20 32767 HT_.out ?_
          refine qQe.y 15 178 20 65535 HT_.out ?_
          refine qQe.y 16 179 20 131071 HT_.out ?_
          refine one_ (i := 17) (N := some 21) (qQe.fl 20 262143) rfl rfl (qZ3 HT_.out (by kernel_rfl)) (by decide) (fun K hK => ?_)
          refine qWy ?hg (N := 21) ?hd (cs := #[.int .i64 0, .int .i64 0, .int .i64 0, .int .i64 0, .int .i64 0, .int .i64 0, .bool false, .int .i64 0, .int .i64 0, .int .i64 0, .int .i64 0, .int .i64 0, .int .i64 0]) (t := 43) ?hr ?_; (case hd => rfl); (case hg => rfl); (case hr => first | (go_simp; done) | (go_simp; rfl))
          intro gb162 hg w109 hbox hb
          have HS13_ := hxb hb (hHeld.2.2.2.2.2.2.2.2.2.2.2.2.2.1)
          have HS14_ := hxb hb (hHeld.2.2.2.2.2.2.2.2.2.2.2.2.2.2.1)
          have HS15_ := hxb hb (hHeld.2.2.2.2.2.2.2.2.2.2.2.2.2.2.2.1)
          have HS16_ := hxb hb (hHeld.2.2.2.2.2.2.2.2.2.2.2.2.2.2.2.2.1)
          have HS17_ := hxb hb (hHeld.2.2.2.2.2.2.2.2.2.2.2.2.2.2.2.2.2.1)
          have HS18_ := hxb hb (hHeld.2.2.2.2.2.2.2.2.2.2.2.2.2.2.2.2.2.2.1)
          have HS19_ := hxb hb (hHeld.2.2.2.2.2.2.2.2.2.2.2.2.2.2.2.2.2.2.2.1)
          have HS20_ := hxb hb (hHeld.2.2.2.2.2.2.2.2.2.2.2.2.2.2.2.2.2.2.2.2.1)
          have HS21_ := hxb hb (hHeld.2.2.2.2.2.2.2.2.2.2.2.2.2.2.2.2.2.2.2.2.2)
          have n0_ := am (Kd.qQw (by exact rq HO_6.out) hb)
          have n1_ := am (Kd.qQw (Kd.qXm (by exact rq HO_18.out) gb162 (Nat.le_of_eq hg.symm)) hb)
          have n2_ := am (qQu (g := gb116) (Up.up BK116.out) hb)
          have n3_ := am (qQu (g := gb123) (Up.up BK123.out) hb)
          have n4_ := am (qQu (g := gb144) (Up.up BK144.out) hb)
          have n5_ := am (qQn (by exact h3q HB.out GE116.out GE123.out GE144.out) hb)
          have n6_ := am (hbox)
          have n7_ := am ((by rw [hg]; exact (qQh (by exact h3q HB.out GE116.out GE123.out GE144.out)) : w.heap.size ≤ gb162))
          have n8_ := am ((by rw [hg]; exact (qQh (by exact h3q HB.out GE116.out GE123.out GE144.out)) : w.heap.size ≤ gb162))
          have n9_ := am ((by rw [hg]; exact Nat.ne_of_lt (qZd (g := gb116) (Up.up BK116.out)) : gb116 ≠ gb162))
          have n10_ := am ((by rw [hg]; exact Nat.ne_of_gt (qZd (g := gb116) (Up.up BK116.out)) : gb162 ≠ gb116))
          have n11_ := am ((by rw [hg]; exact Nat.ne_of_lt (qZd (g := gb123) (Up.up BK123.out)) : gb123 ≠ gb162))
          have n12_ := am ((by rw [hg]; exact Nat.ne_of_gt (qZd (g := gb123) (Up.up BK123.out)) : gb162 ≠ gb123))
          have n13_ := am ((by rw [hg]; exact Nat.ne_of_lt (qZd (g := gb144) (Up.up BK144.out)) : gb144 ≠ gb162))
          have n14_ := am ((by rw [hg]; exact Nat.ne_of_gt (qZd (g := gb144) (Up.up BK144.out)) : gb162 ≠ gb144))
          clear HO_6 HO_18 BK116 BK123 BK144 HB
          have HO_6 := n0_
          have HO_18 := n1_
          have BK116 := n2_
          have BK123 := n3_
          have BK144 := n4_
          have HB := n5_
          have BK162 := n6_
          have GW162 := n7_
          have GE162 := n8_
          have NB116_162 := n9_
          have NB162_116 := n10_
          have NB123_162 := n11_
          have NB162_123 := n12_
          have NB144_162 := n13_
          have NB162_144 := n14_
          clear n0_ n1_ n2_ n3_ n4_ n5_ n6_ n7_ n8_ n9_ n10_ n11_ n12_ n13_ n14_ hb hbox hg
          refine hK.out _ _ ⟨(qQa BK144.out 0).trans rfl, (qQa BK144.out 1).trans rfl, (qQa BK144.out 2).trans rfl, (qQa BK144.out 3).trans rfl, (qQa BK144.out 4).trans rfl, (qQa BK144.out 5).trans rfl, (qQa BK144.out 6).trans rfl, (qQa BK144.out 7).trans rfl, (qQa BK144.out 8).trans rfl, (qQa BK144.out 9).trans rfl, (qQa BK144.out 10).trans rfl, (qQa BK144.out 11).trans rfl, (qQa BK144.out 12).trans rfl, HS13_, HS14_, HS15_, HS16_, HS17_, HS18_, HS19_, HS20_, HS21_⟩ (fun hHeld => ?_)
          clear hK K
          refine norm_ (a' := ?_) ?_ ?_
          rotate_left
          ·show Act.put _ (some 21) _ = _
           exact pu
          exact norm_ (by simp only [putAll, Act.put, List.setIfInBounds_toArray, List.set_cons_zero, List.set_cons_succ]) (hCont (gb162) _ ⟨hHeld, (by exact rq HO_18.out), (by exact rq HO_6.out), (Up.up BK116.out), (Up.up BK123.out), (Up.up BK144.out), (Up.up BK162.out), GW162.out, GE162.out, NB116_162.out, NB162_116.out, NB123_162.out, NB162_123.out, NB144_162.out, NB162_144.out, (by exact h4q HB.out GE116.out GE123.out GE144.out GE162.out)⟩)
         ·skip
          refine qWy ?hg (N := 21) ?hd (cs := #[.int .i64 0, .int .i64 0, .int .i64 0, .int .i64 0, .int .i64 0, .int .i64 0, .bool false, .int .i64 0, .int .i64 0, .int .i64 0, .int .i64 0, .int .i64 0, .int .i64 0]) (t := 43) ?hr ?_; (case hd => rfl); (case hg => rfl); (case hr => first | (go_simp; done) | (go_simp; rfl))
          intro gb162 hg w108 hbox hb
          have HS13_ := hxb hb (hHeld.2.2.2.2.2.2.2.2.2.2.2.2.2.1)
          have HS14_ := hxb hb (hHeld.2.2.2.2.2.2.2.2.2.2.2.2.2.2.1)
          have HS15_ := hxb hb (hHeld.2.2.2.2.2.2.2.2.2.2.2.2.2.2.2.1)
          have HS16_ := hxb hb (hHeld.2.2.2.2.2.2.2.2.2.2.2.2.2.2.2.2.1)
          have HS17_ := hxb hb (hHeld.2.2.2.2.2.2.2.2.2.2.2.2.2.2.2.2.2.1)
          have HS18_ := hxb hb (hHeld.2.2.2.2.2.2.2.2.2.2.2.2.2.2.2.2.2.2.1)
          have HS19_ := hxb hb (hHeld.2.2.2.2.2.2.2.2.2.2.2.2.2.2.2.2.2.2.2.1)
          have HS20_ := hxb hb (hHeld.2.2.2.2.2.2.2.2.2.2.2.2.2.2.2.2.2.2.2.2.1)
          have HS21_ := hxb hb (hHeld.2.2.2.2.2.2.2.2.2.2.2.2.2.2.2.2.2.2.2.2.2)
          have n0_ := am (Kd.qQw (by exact rq HO_6.out) hb)
          have n1_ := am (Kd.qQw (Kd.qXm (by exact rq HO_18.out) gb162 (Nat.le_of_eq hg.symm)) hb)
          have n2_ := am (qQu (g := gb116) (Up.up BK116.out) hb)
          have n3_ := am (qQu (g := gb123) (Up.up BK123.out) hb)
          have n4_ := am (qQu (g := gb144) (Up.up BK144.out) hb)
          have n5_ := am (qQn (by exact h3q HB.out GE116.out GE123.out GE144.out) hb)
          have n6_ := am (hbox)
          have n7_ := am ((by rw [hg]; exact (qQh (by exact h3q HB.out GE116.out GE123.out GE144.out)) : w.heap.size ≤ gb162))
          have n8_ := am ((by rw [hg]; exact (qQh (by exact h3q HB.out GE116.out GE123.out GE144.out)) : w.heap.size ≤ gb162))
          have n9_ := am ((by rw [hg]; exact Nat.ne_of_lt (qZd (g := gb116) (Up.up BK116.out)) : gb116 ≠ gb162))
          have n10_ := am ((by rw [hg]; exact Nat.ne_of_gt (qZd (g := gb116) (Up.up BK116.out)) : gb162 ≠ gb116))
          have n11_ := am ((by rw [hg]; exact Nat.ne_of_lt (qZd (g := gb123) (Up.up BK123.out)) : gb123 ≠ gb162))
          have n12_ := am ((by rw [hg]; exact Nat.ne_of_gt (qZd (g := gb123) (Up.up BK123.out)) : gb162 ≠ gb123))
          have n13_ := am ((by rw [hg]; exact Nat.ne_of_lt (qZd (g := gb144) (Up.up BK144.out)) : gb144 ≠ gb162))
          have n14_ := am ((by rw [hg]; exact Nat.ne_of_gt (qZd (g := gb144) (Up.up BK144.out)) : gb162 ≠ gb144))
          clear HO_6 HO_18 BK116 BK123 BK144 HB
          have HO_6 := n0_
          have HO_18 := n1_
          have BK116 := n2_
          have BK123 := n3_
          have BK144 := n4_
          have HB := n5_
          have BK162 := n6_
          have GW162 := n7_
          have GE162 := n8_
          have NB116_162 := n9_
          have NB162_116 := n10_
          have NB123_162 := n11_
          have NB162_123 := n12_
          have NB144_162 := n13_
          have NB162_144 := n14_
          clear n0_ n1_ n2_ n3_ n4_ n5_ n6_ n7_ n8_ n9_ n10_ n11_ n12_ n13_ n14_ hb hbox hg
          refine hK.out _ _ ⟨(qQa BK144.out 0).trans rfl, (qQa BK144.out 1).trans rfl, (qQa BK144.out 2).trans rfl, (qQa BK144.out 3).trans rfl, (qQa BK144.out 4).trans rfl, (qQa BK144.out 5).trans rfl, (qQa BK144.out 6).trans rfl, (qQa BK144.out 7).trans rfl, (qQa BK144.out 8).trans rfl, (qQa BK144.out 9).trans rfl, (qQa BK144.out 10).trans rfl, (qQa BK144.out 11).trans rfl, (qQa BK144.out 12).trans rfl, HS13_, HS14_, HS15_, HS16_, HS17_, HS18_, HS19_, HS20_, HS21_⟩ (fun hHeld => ?_)
          clear hK K
          refine norm_ (a' := ?_) ?_ ?_
          rotate_left
          ·show Act.put _ (some 21) _ = _
           exact pu
          refine one_ (i := 13) (N := some 177) (qQe.fl 20 147455) rfl rfl (qZ3 HT_.out (by kernel_rfl)) (by decide) (fun K hK => ?_)
          refine goes_ Try.func33 (by kernel_rfl) rfl #[.agg #[.int .i64 ((qQc l0 x19_6).f0), .int .i64 ((qQc l0 x19_6).f1), .int .i64 ((qQc l0 x19_6).f2), .int .i64 ((qQc l0 x19_6).f3), .int .i64 ((qQc l0 x19_6).f4), .int .i64 ((qQc l0 x19_6).f5), .bool ((qQc l0 x19_6).f6), .int .i64 ((qQc l0 x19_6).f7), .int .i64 ((qQc l0 x19_6).f8), .int .i64 ((qQc l0 x19_6).f9), .int .i64 ((qQc l0 x19_6).f10), .int .i64 ((qQc l0 x19_6).f11), .int .i64 ((qQc l0 x19_6).f12)], .int .i64 ((qQ0 x6_5 x19_6).f0), .int .i64 ((qQ0 x6_5 x19_6).f1), .int .i64 ((qQ0 x6_5 x19_6).f2)] (by rfl) rfl rfl ml ?_
          with_reducible refine (qQp.calls k6 ((qQc l0 x19_6).f0) ((qQc l0 x19_6).f1) ((qQc l0 x19_6).f2) ((qQc l0 x19_6).f3) ((qQc l0 x19_6).f4) ((qQc l0 x19_6).f5) ((qQc l0 x19_6).f6) ((qQc l0 x19_6).f7) ((qQc l0 x19_6).f8) ((qQc l0 x19_6).f9) ((qQc l0 x19_6).f10) ((qQc l0 x19_6).f11) ((qQc l0 x19_6).f12) ((qQ0 x6_5 x19_6).f0) ((qQ0 x6_5 x19_6).f1) ((qQ0 x6_5 x19_6).f2) t148 t149 t150 t151 t152 t153 t154 t155 t156 t157 t158 t159 t160 t161 _ A69.out).mono ?_
          rintro e w109 ⟨rfl, hb⟩
          have HS13_ := hxb hb (hHeld.2.2.2.2.2.2.2.2.2.2.2.2.2.1)
          have HS14_ := hxb hb (hHeld.2.2.2.2.2.2.2.2.2.2.2.2.2.2.1)
          have HS15_ := hxb hb (hHeld.2.2.2.2.2.2.2.2.2.2.2.2.2.2.2.1)
          have HS16_ := hxb hb (hHeld.2.2.2.2.2.2.2.2.2.2.2.2.2.2.2.2.1)
          have HS17_ := hxb hb (hHeld.2.2.2.2.2.2.2.2.2.2.2.2.2.2.2.2.2.1)
          have HS18_ := hxb hb (hHeld.2.2.2.2.2.2.2.2.2.2.2.2.2.2.2.2.2.2.1)
          have HS19_ := hxb hb (hHeld.2.2.2.2.2.2.2.2.2.2.2.2.2.2.2.2.2.2.2.1)
          have HS20_ := hxb hb (hHeld.2.2.2.2.2.2.2.2.2.2.2.2.2.2.2.2.2.2.2.2.1)
          have HS21_ := hxb hb (hHeld.2.2.2.2.2.2.2.2.2.2.2.2.2.2.2.2.2.2.2.2.2)
          refine ⟨_, rfl, ?_⟩
          have n0_ := am (Kd.qQw (by exact rq HO_6.out) hb)
          have n1_ := am (Kd.qQw (by exact rq HO_18.out) hb)
          have n2_ := am (qQu (g := gb116) (Up.up BK116.out) hb)
          have n3_ := am (qQu (g := gb123) (Up.up BK123.out) hb)
          have n4_ := am (qQu (g := gb144) (Up.up BK144.out) hb)
          have n5_ := am (qQu (g := gb162) (Up.up BK162.out) hb)
          have n6_ := am (qQn (by exact h4q HB.out GE116.out GE123.out GE144.out GE162.out) hb)
          clear HO_6 HO_18 BK116 BK123 BK144 BK162 HB
          have HO_6 := n0_
          have HO_18 := n1_
          have BK116 := n2_
          have BK123 := n3_
          have BK144 := n4_
          have BK162 := n5_
          have HB := n6_
          clear n0_ n1_ n2_ n3_ n4_ n5_ n6_
          (try clear hb)
          (try clear hb2)
          (try clear hk)
          (try clear hi)
          refine hK.out _ _ ⟨(qQa BK144.out 0).trans rfl, (qQa BK144.out 1).trans rfl, (qQa BK144.out 2).trans rfl, (qQa BK144.out 3).trans rfl, (qQa BK144.out 4).trans rfl, (qQa BK144.out 5).trans rfl, (qQa BK144.out 6).trans rfl, (qQa BK144.out 7).trans rfl, (qQa BK144.out 8).trans rfl, (qQa BK144.out 9).trans rfl, (qQa BK144.out 10).trans rfl, (qQa BK144.out 11).trans rfl, (qQa BK144.out 12).trans rfl, HS13_, HS14_, HS15_, HS16_, HS17_, HS18_, HS19_, HS20_, HS21_⟩ (fun hHeld => ?_)
          clear hK K
          refine norm_ (a' := ?_) ?_ ?_
          rotate_left
          ·show Act.put _ (some 177) _ = _
           exact pu
          refine qQe.y 14 163 20 163839 HT_.out ?_
          refine qQe.y 15 178 20 196607 HT_.out ?_
          refine qQe.y 16 179 20 262143 HT_.out ?_
          exact norm_ (by simp only [putAll, Act.put, List.setIfInBounds_toArray, List.set_cons_zero, List.set_cons_succ]) (hCont (gb162) _ ⟨hHeld, (by exact rq HO_18.out), (by exact rq HO_6.out), (Up.up BK116.out), (Up.up BK123.out), (Up.up BK144.out), (Up.up BK162.out), GW162.out, GE162.out, NB116_162.out, NB162_116.out, NB123_162.out, NB162_123.out, NB144_162.out, NB162_144.out, (by exact h4q HB.out GE116.out GE123.out GE144.out GE162.out)⟩)
        rintro gb162 w110 ⟨hS_, h0_, h1_, h2_, h3_, h4_, h5_, h6_, h7_, h8_, h9_, h10_, h11_, h12_, h13_, h14_⟩
        have n0_ : Aside0 (Kd.R k43 43 w110 w.heap.size (fun k_ => k_ ≠ gb144 ∧ k_ ≠ gb162) u18 x18_6) := ⟨h0_⟩
        have n1_ : Aside0 (Kd.R kP3 61 w110 w.heap.size (fun _ => True) (.slice (some ⟨gp, 0, none⟩) 16 16) x6_5) := ⟨h1_⟩
        have n2_ : Aside0 (w110.heap[gb116]? = some (.cells #[.slice none 0 0, .int .i64 x117001_6, .int .i64 x117002_6, .int .i64 x117003_6, .int .i64 x117004_6] 31 (0, 0))) := ⟨h2_⟩
        have n3_ : Aside0 (w110.heap[gb123]? = some (.cells #[.int .i64 x124000_3, .int .i64 x124001_4, .int .i64 x124002_5, .int .i64 x9_5] 26 (0, 0))) := ⟨h3_⟩
        have n4_ : Aside0 (w110.heap[gb144]? = some (.cells #[.int .i64 ((qQc l0 x19_6).f0), .int .i64 ((qQc l0 x19_6).f1), .int .i64 ((qQc l0 x19_6).f2), .int .i64 ((qQc l0 x19_6).f3), .int .i64 ((qQc l0 x19_6).f4), .int .i64 ((qQc l0 x19_6).f5), .bool ((qQc l0 x19_6).f6), .int .i64 ((qQc l0 x19_6).f7), .int .i64 ((qQc l0 x19_6).f8), .int .i64 ((qQc l0 x19_6).f9), .int .i64 ((qQc l0 x19_6).f10), .int .i64 ((qQc l0 x19_6).f11), .int .i64 ((qQc l0 x19_6).f12)] 43 (0, 0))) := ⟨h4_⟩
        have n5_ : Aside0 (w110.heap[gb162]? = some (.cells #[.int .i64 0, .int .i64 0, .int .i64 0, .int .i64 0, .int .i64 0, .int .i64 0, .bool false, .int .i64 0, .int .i64 0, .int .i64 0, .int .i64 0, .int .i64 0, .int .i64 0] 43 (0, 0))) := ⟨h5_⟩
        have n6_ : Aside0 (w.heap.size ≤ gb162) := ⟨h6_⟩
        have n7_ : Aside0 (w.heap.size ≤ gb162) := ⟨h7_⟩
        have n8_ : Aside0 (gb116 ≠ gb162) := ⟨h8_⟩
        have n9_ : Aside0 (gb162 ≠ gb116) := ⟨h9_⟩
        have n10_ : Aside0 (gb123 ≠ gb162) := ⟨h10_⟩
        have n11_ : Aside0 (gb162 ≠ gb123) := ⟨h11_⟩
        have n12_ : Aside0 (gb144 ≠ gb162) := ⟨h12_⟩
        have n13_ : Aside0 (gb162 ≠ gb144) := ⟨h13_⟩
        have n14_ : Aside0 (Below w.heap.size w w110) := ⟨h14_⟩
        clear HO_6 HO_18 BK116 BK123 BK144 HB h0_ h1_ h2_ h3_ h4_ h5_ h6_ h7_ h8_ h9_ h10_ h11_ h12_ h13_ h14_
        have HO_18 := n0_
        have HO_6 := n1_
        have BK116 := n2_
        have BK123 := n3_
        have BK144 := n4_
        have BK162 := n5_
        have GW162 := n6_
        have GE162 := n7_
        have NB116_162 := n8_
        have NB162_116 := n9_
        have NB123_162 := n10_
        have NB162_123 := n11_
        have NB144_162 := n12_
        have NB162_144 := n13_
        have HB := n14_
        clear n0_ n1_ n2_ n3_ n4_ n5_ n6_ n7_ n8_ n9_ n10_ n11_ n12_ n13_ n14_
        have hHeld : w110.cell? ⟨gb144, 0, none⟩ = some (.int .i64 ((qQc l0 x19_6).f0)) ∧ w110.cell? ⟨gb144, 1, none⟩ = some (.int .i64 ((qQc l0 x19_6).f1)) ∧ w110.cell? ⟨gb144, 2, none⟩ = some (.int .i64 ((qQc l0 x19_6).f2)) ∧ w110.cell? ⟨gb144, 3, none⟩ = some (.int .i64 ((qQc l0 x19_6).f3)) ∧ w110.cell? ⟨gb144, 4, none⟩ = some (.int .i64 ((qQc l0 x19_6).f4)) ∧ w110.cell? ⟨gb144, 5, none⟩ = some (.int .i64 ((qQc l0 x19_6).f5)) ∧ w110.cell? ⟨gb144, 6, none⟩ = some (.bool ((qQc l0 x19_6).f6)) ∧ w110.cell? ⟨gb144, 7, none⟩ = some (.int .i64 ((qQc l0 x19_6).f7)) ∧ w110.cell? ⟨gb144, 8, none⟩ = some (.int .i64 ((qQc l0 x19_6).f8)) ∧ w110.cell? ⟨gb144, 9, none⟩ = some (.int .i64 ((qQc l0 x19_6).f9)) ∧ w110.cell? ⟨gb144, 10, none⟩ = some (.int .i64 ((qQc l0 x19_6).f10)) ∧ w110.cell? ⟨gb144, 11, none⟩ = some (.int .i64 ((qQc l0 x19_6).f11)) ∧ w110.cell? ⟨gb144, 12, none⟩ = some (.int .i64 ((qQc l0 x19_6).f12)) ∧ w110.cell? ⟨gp, (x19_6).toNat * 3, none⟩ = some (.int .i64 ((qQ0 x6_5 x19_6).f0)) ∧ w110.cell? ⟨gp, (x19_6).toNat * 3 + 1, none⟩ = some (.int .i64 ((qQ0 x6_5 x19_6).f1)) ∧ w110.cell? ⟨gp, (x19_6).toNat * 3 + 2, none⟩ = some (.int .i64 ((qQ0 x6_5 x19_6).f2)) ∧ w110.cell? ⟨gp, (x19_6).toNat * 3, none⟩ = some (.int .i64 ((qQ0 x6_5 x19_6).f0)) ∧ w110.cell? ⟨gp, (x19_6).toNat * 3 + 1, none⟩ = some (.int .i64 ((qQ0 x6_5 x19_6).f1)) ∧ w110.cell? ⟨gp, (x19_6).toNat * 3 + 2, none⟩ = some (.int .i64 ((qQ0 x6_5 x19_6).f2)) ∧ w110.cell? ⟨gp, (x19_6).toNat * 3, none⟩ = some (.int .i64 ((qQ0 x6_5 x19_6).f0)) ∧ w110.cell? ⟨gp, (x19_6).toNat * 3 + 1, none⟩ = some (.int .i64 ((qQ0 x6_5 x19_6).f1)) ∧ w110.cell? ⟨gp, (x19_6).toNat * 3 + 2, none⟩ = some (.int .i64 ((qQ0 x6_5 x19_6).f2)) := hS_
        refine norm_ (a' := ?_) ?_ ?_
        rotate_left
        ·simp only [putAll, Act.put, List.setIfInBounds_toArray, List.set_cons_zero, List.set_cons_succ]
         rfl
        refine one_ (i := 18) (N := none) (qQe.fl 20 524287) rfl rfl (qZ3 HT_.out (by kernel_rfl)) (by decide) (fun K hK => ?_)
        refine skip_ (w1 := (((((((((((((w110).setCell ⟨gb162, 0, none⟩ (.int .i64 t148)).setCell ⟨gb162, 1, none⟩ (.int .i64 t149)).setCell ⟨gb162, 2, none⟩ (.int .i64 t150)).setCell ⟨gb162, 3, none⟩ (.int .i64 t151)).setCell ⟨gb162, 4, none⟩ (.int .i64 t152)).setCell ⟨gb162, 5, none⟩ (.int .i64 t153)).setCell ⟨gb162, 6, none⟩ (.bool t154)).setCell ⟨gb162, 7, none⟩ (.int .i64 t155)).setCell ⟨gb162, 8, none⟩ (.int .i64 t156)).setCell ⟨gb162, 9, none⟩ (.int .i64 t157)).setCell ⟨gb162, 10, none⟩ (.int .i64 t158)).setCell ⟨gb162, 11, none⟩ (.int .i64 t159)).setCell ⟨gb162, 12, none⟩ (.int .i64 t160)) (by rfl) rfl (st13b (w := w110) (g := gb162) (a0 := t148) (a1 := t149) (a2 := t150) (a3 := t151) (a4 := t152) (a5 := t153) (a6 := t154) (a7 := t155) (a8 := t156) (a9 := t157) (a10 := t158) (a11 := t159) (a12 := t160) (p := .tmp 21) (v := .tmp 178) rfl rfl rfl BK162.out rfl) ?_
        refine hK.out _ _ ⟨((far13 NB144_162.out).trans (hHeld.1)), ((far13 NB144_162.out).trans (hHeld.2.1)), ((far13 NB144_162.out).trans (hHeld.2.2.1)), ((far13 NB144_162.out).trans (hHeld.2.2.2.1)), ((far13 NB144_162.out).trans (hHeld.2.2.2.2.1)), ((far13 NB144_162.out).trans (hHeld.2.2.2.2.2.1)), ((far13 NB144_162.out).trans (hHeld.2.2.2.2.2.2.1)), ((far13 NB144_162.out).trans (hHeld.2.2.2.2.2.2.2.1)), ((far13 NB144_162.out).trans (hHeld.2.2.2.2.2.2.2.2.1)), ((far13 NB144_162.out).trans (hHeld.2.2.2.2.2.2.2.2.2.1)), ((far13 NB144_162.out).trans (hHeld.2.2.2.2.2.2.2.2.2.2.1)), ((far13 NB144_162.out).trans (hHeld.2.2.2.2.2.2.2.2.2.2.2.1)), ((far13 NB144_162.out).trans (hHeld.2.2.2.2.2.2.2.2.2.2.2.2.1)), ((far13 (by first | exact Kd.qQ6 (Kd.R_ne HO_6.out BK162.out (by decide)) | (rw [add_block]; exact Kd.qQ6 (Kd.R_ne HO_6.out BK162.out (by decide))) | (show (Addr.add _ _).block ≠ _; rw [add_block]; exact Kd.qQ6 (Kd.R_ne HO_6.out BK162.out (by decide))) | (dsimp only; exact Kd.qQ6 (Kd.R_ne HO_6.out BK162.out (by decide))))).trans (hHeld.2.2.2.2.2.2.2.2.2.2.2.2.2.1)), ((far13 (by first | exact Kd.qQ6 (Kd.R_ne HO_6.out BK162.out (by decide)) | (rw [add_block]; exact Kd.qQ6 (Kd.R_ne HO_6.out BK162.out (by decide))) | (show (Addr.add _ _).block ≠ _; rw [add_block]; exact Kd.qQ6 (Kd.R_ne HO_6.out BK162.out (by decide))) | (dsimp only; exact Kd.qQ6 (Kd.R_ne HO_6.out BK162.out (by decide))))).trans (hHeld.2.2.2.2.2.2.2.2.2.2.2.2.2.2.1)), ((far13 (by first | exact Kd.qQ6 (Kd.R_ne HO_6.out BK162.out (by decide)) | (rw [add_block]; exact Kd.qQ6 (Kd.R_ne HO_6.out BK162.out (by decide))) | (show (Addr.add _ _).block ≠ _; rw [add_block]; exact Kd.qQ6 (Kd.R_ne HO_6.out BK162.out (by decide))) | (dsimp only; exact Kd.qQ6 (Kd.R_ne HO_6.out BK162.out (by decide))))).trans (hHeld.2.2.2.2.2.2.2.2.2.2.2.2.2.2.2.1)), ((far13 (by first | exact Kd.qQ6 (Kd.R_ne HO_6.out BK162.out (by decide)) | (rw [add_block]; exact Kd.qQ6 (Kd.R_ne HO_6.out BK162.out (by decide))) | (show (Addr.add _ _).block ≠ _; rw [add_block]; exact Kd.qQ6 (Kd.R_ne HO_6.out BK162.out (by decide))) | (dsimp only; exact Kd.qQ6 (Kd.R_ne HO_6.out BK162.out (by decide))))).trans (hHeld.2.2.2.2.2.2.2.2.2.2.2.2.2.2.2.2.1)), ((far13 (by first | exact Kd.qQ6 (Kd.R_ne HO_6.out BK162.out (by decide)) | (rw [add_block]; exact Kd.qQ6 (Kd.R_ne HO_6.out BK162.out (by decide))) | (show (Addr.add _ _).block ≠ _; rw [add_block]; exact Kd.qQ6 (Kd.R_ne HO_6.out BK162.out (by decide))) | (dsimp only; exact Kd.qQ6 (Kd.R_ne HO_6.out BK162.out (by decide))))).trans (hHeld.2.2.2.2.2.2.2.2.2.2.2.2.2.2.2.2.2.1)), ((far13 (by first | exact Kd.qQ6 (Kd.R_ne HO_6.out BK162.out (by decide)) | (rw [add_block]; exact Kd.qQ6 (Kd.R_ne HO_6.out BK162.out (by decide))) | (show (Addr.add _ _).block ≠ _; rw [add_block]; exact Kd.qQ6 (Kd.R_ne HO_6.out BK162.out (by decide))) | (dsimp only; exact Kd.qQ6 (Kd.R_ne HO_6.out BK162.out (by decide))))).trans (hHeld.2.2.2.2.2.2.2.2.2.2.2.2.2.2.2.2.2.2.1)), ((far13 (by first | exact Kd.qQ6 (Kd.R_ne HO_6.out BK162.out (by decide)) | (rw [add_block]; exact Kd.qQ6 (Kd.R_ne HO_6.out BK162.out (by decide))) | (show (Addr.add _ _).block ≠ _; rw [add_block]; exact Kd.qQ6 (Kd.R_ne HO_6.out BK162.out (by decide))) | (dsimp only; exact Kd.qQ6 (Kd.R_ne HO_6.out BK162.out (by decide))))).trans (hHeld.2.2.2.2.2.2.2.2.2.2.2.2.2.2.2.2.2.2.2.1)), ((far13 (by first | exact Kd.qQ6 (Kd.R_ne HO_6.out BK162.out (by decide)) | (rw [add_block]; exact Kd.qQ6 (Kd.R_ne HO_6.out BK162.out (by decide))) | (show (Addr.add _ _).block ≠ _; rw [add_block]; exact Kd.qQ6 (Kd.R_ne HO_6.out BK162.out (by decide))) | (dsimp only; exact Kd.qQ6 (Kd.R_ne HO_6.out BK162.out (by decide))))).trans (hHeld.2.2.2.2.2.2.2.2.2.2.2.2.2.2.2.2.2.2.2.2.1)), ((far13 (by first | exact Kd.qQ6 (Kd.R_ne HO_6.out BK162.out (by decide)) | (rw [add_block]; exact Kd.qQ6 (Kd.R_ne HO_6.out BK162.out (by decide))) | (show (Addr.add _ _).block ≠ _; rw [add_block]; exact Kd.qQ6 (Kd.R_ne HO_6.out BK162.out (by decide))) | (dsimp only; exact Kd.qQ6 (Kd.R_ne HO_6.out BK162.out (by decide))))).trans (hHeld.2.2.2.2.2.2.2.2.2.2.2.2.2.2.2.2.2.2.2.2.2))⟩ (fun hHeld => ?_)
        clear hK K
        refine qQe.y 19 22 20 1048575 HT_.out ?_
        refine done_ (qYw HT_.out (by kernel_rfl)) ?_
        clear hHeld
        generalize hW_ : (((((((((((((w110).setCell ⟨gb162, 0, none⟩ (.int .i64 t148)).setCell ⟨gb162, 1, none⟩ (.int .i64 t149)).setCell ⟨gb162, 2, none⟩ (.int .i64 t150)).setCell ⟨gb162, 3, none⟩ (.int .i64 t151)).setCell ⟨gb162, 4, none⟩ (.int .i64 t152)).setCell ⟨gb162, 5, none⟩ (.int .i64 t153)).setCell ⟨gb162, 6, none⟩ (.bool t154)).setCell ⟨gb162, 7, none⟩ (.int .i64 t155)).setCell ⟨gb162, 8, none⟩ (.int .i64 t156)).setCell ⟨gb162, 9, none⟩ (.int .i64 t157)).setCell ⟨gb162, 10, none⟩ (.int .i64 t158)).setCell ⟨gb162, 11, none⟩ (.int .i64 t159)).setCell ⟨gb162, 12, none⟩ (.int .i64 t160) = w1101
        have n0_ : Aside0 (Kd.R kP3 61 w1101 w.heap.size (fun _ => True) (.slice (some ⟨gp, 0, none⟩) 16 16) x6_5) := ⟨Kd.qQv (qXv hW_ (Kd.qZc HO_6.out BK162.out (by decide)) (fun _ hk => hk.2)) (fun _ _ => trivial)⟩
        have n1_ : Aside0 (Kd.R k43 43 w1101 w.heap.size (fun k_ => k_ ≠ gb144 ∧ k_ ≠ gb162) u18 x18_6) := ⟨qXv hW_ HO_18.out (fun _ hk => hk.2)⟩
        have n2_ := am (qYm hW_ BK116.out NB116_162.out)
        have n3_ := am (qYm hW_ BK123.out NB123_162.out)
        have n4_ := am (qYm hW_ BK144.out NB144_162.out)
        have n5_ := am (qX1 hW_ BK162.out)
        have n6_ := am (qXb hW_ HB.out GE162.out)
        clear HO_6 HO_18 BK116 BK123 BK144 BK162 HB hW_
        have HO_6 := n0_
        have HO_18 := n1_
        have BK116 := n2_
        have BK123 := n3_
        have BK144 := n4_
        have BK162 := n5_
        have HB := n6_
        clear n0_ n1_ n2_ n3_ n4_ n5_ n6_
        go_wp2_with (first | ((with_reducible refine qWj (t := 31) (p := .tmp 4) (v := .tmp 182) rfl ?_); (refine qWb (a' := ?_) ?ha_ ?_; (case ha_ => first | (show Act.put _ _ _ = _; simp only [Act.put, List.setIfInBounds_toArray, List.set_cons_zero, List.set_cons_succ]; rfl) | rfl)); refine qVx (W' := (((((w1101).setCell ⟨gb116, 0, none⟩ (.slice none 0 0)).setCell ⟨gb116, 1, none⟩ (.int .i64 0)).setCell ⟨gb116, 2, none⟩ (.int .i64 0)).setCell ⟨gb116, 3, none⟩ (.int .i64 0)).setCell ⟨gb116, 4, none⟩ (.int .i64 0)) rfl rfl (st5b (w := w1101) (g := gb116) (a0 := .slice none 0 0) (a1 := 0) (a2 := 0) (a3 := 0) (a4 := 0) (p := .tmp 4) (v := .tmp 182) rfl rfl rfl BK116.out rfl rfl rfl) ?_))
        refine bodyPost_ret (qYq rfl _ _ gb116 31 #[.slice none 0 0, .int .i64 0, .int .i64 0, .int .i64 0, .int .i64 0] (0, 0) _ rfl (by (with_reducible repeat (first | refine qQm ?_ _ | refine qQk ?_ | refine qQo ?_ _)); refine qQ1 (cs := #[.slice none 0 0, .int .i64 0, .int .i64 0, .int .i64 0, .int .i64 x117004_6]) ?_ 4 _ rfl; (with_reducible repeat (first | refine qQm ?_ _ | refine qQk ?_ | refine qQo ?_ _)); refine qQ1 (cs := #[.slice none 0 0, .int .i64 0, .int .i64 0, .int .i64 x117003_6, .int .i64 x117004_6]) ?_ 3 _ rfl; (with_reducible repeat (first | refine qQm ?_ _ | refine qQk ?_ | refine qQo ?_ _)); refine qQ1 (cs := #[.slice none 0 0, .int .i64 0, .int .i64 x117002_6, .int .i64 x117003_6, .int .i64 x117004_6]) ?_ 2 _ rfl; (with_reducible repeat (first | refine qQm ?_ _ | refine qQk ?_ | refine qQo ?_ _)); refine qQ1 (cs := #[.slice none 0 0, .int .i64 x117001_6, .int .i64 x117002_6, .int .i64 x117003_6, .int .i64 x117004_6]) ?_ 1 _ rfl; (with_reducible repeat (first | refine qQm ?_ _ | refine qQk ?_ | refine qQo ?_ _)); refine qQ1 (cs := #[.slice none 0 0, .int .i64 x117001_6, .int .i64 x117002_6, .int .i64 x117003_6, .int .i64 x117004_6]) ?_ 0 _ rfl; (with_reducible repeat (first | refine qQm ?_ _ | refine qQk ?_ | refine qQo ?_ _)); exact BK116.out) Try.underlying31 rfl (by kernel_rfl)) rfl ?_
        exact ⟨_, er, by first | exact Kd.R_nil _ _ _ _ _ | exact Kd.N_nil _ _ _ _ _ | exact Kd.V_nil _ _ _ _ _ | exact Kd.Q_nil _ _ _ _ _ | exact Kd.S_nil _ _ _ _ _, by exact h4q HB.out GE116.out GE123.out GE144.out GE162.out⟩
       rw [if_pos c70] at H
       have c70b0 : (t161 == 0) = true := beq_iff_eq.mpr c70
       have c70b1 : (t161 != 0) = false := bne_eq_false_iff_eq.mpr c70
       clear c70
       by_cases c71 : x18_6.length < 1353245080339
       case neg =>
        rw [if_neg c71] at H
        exact absurd H (by simp)
       rw [if_pos c71] at H
       have LMc71 := am c71
       clear c71
       obtain ⟨y163, hy163⟩ : ∃ y_ : List (S43), y_ = (x18_6 ++ [(⟨t148, t149, t150, t151, t152, t153, t154, t155, t156, t157, t158, t159, t160⟩ : S43)]) := ⟨_, rfl⟩
       replace H : (qQe.l4 k6 l0 x6_5 y163 (wrap64 (x19_6 + 1)) x124000_3 x124001_4 x124002_5 x9_5) = some (r1, r2, r3, r4, r5, r6) := by first | (rw [hy163]; with_reducible exact H) | (have H2_ := (Option.bind_some _ _).symm.trans H; rw [hy163]; with_reducible exact H2_) | (have H2_ := (Option.bind_some _ _).symm.trans H; with_reducible exact H2_) | with_reducible exact H | (rw [hy163]; exact H) | exact H
       have Ny163 := am hy163
       clear hy163
       have H' := am H
       clear H
       have p143 : 0 ≤ (x19_6 : Int) := yd
       have q143 : x19_6 < (l0.length : Int) := yd
       obtain ⟨ad143, e143, hx143_0, hx143_1, hx143_2, hx143_3, hx143_4, hx143_5, hx143_6, hx143_7, hx143_8, hx143_9, hx143_10, hx143_11, hx143_12⟩ := qYl HR0.out x19_6 p143 q143
       cases e143
       replace hx143_0 := hxb HB.out hx143_0
       replace hx143_1 := hxb HB.out hx143_1
       replace hx143_2 := hxb HB.out hx143_2
       replace hx143_3 := hxb HB.out hx143_3
       replace hx143_4 := hxb HB.out hx143_4
       replace hx143_5 := hxb HB.out hx143_5
       replace hx143_6 := hxb HB.out hx143_6
       replace hx143_7 := hxb HB.out hx143_7
       replace hx143_8 := hxb HB.out hx143_8
       replace hx143_9 := hxb HB.out hx143_9
       replace hx143_10 := hxb HB.out hx143_10
       replace hx143_11 := hxb HB.out hx143_11
       replace hx143_12 := hxb HB.out hx143_12
       replace p143 := eq_true p143
       replace q143 := eq_true q143
       go_wp2_with (first | ((with_reducible refine qZj (N := 20) rfl ?_); refine qZu ?hg (N := 20) ?hd (cs := #[.int .i64 0, .int .i64 0, .int .i64 0, .int .i64 0, .int .i64 0, .int .i64 0, .bool false, .int .i64 0, .int .i64 0, .int .i64 0, .int .i64 0, .int .i64 0, .int .i64 0]) (t := 43) ?hr ?_; (case hd => rfl); (case hg => rfl); (case hr => first | (go_simp; done) | (go_simp; rfl)); intro gb144 hg w72 hbox hb; have n0_ := am (Kd.qQw (by exact rq HO_6.out) hb); have n1_ := am (Kd.qQw (Kd.qXm (by exact rq HO_18.out) gb144 (Nat.le_of_eq hg.symm)) hb); have n2_ := am (qQu (g := gb116) (Up.up BK116.out) hb); have n3_ := am (qQu (g := gb123) (Up.up BK123.out) hb); have n4_ := am (qQn (by exact h2q HB.out GE116.out GE123.out) hb); have n5_ := am (hbox); have n6_ := am ((by rw [hg]; exact (qQh (by exact h2q HB.out GE116.out GE123.out)) : w.heap.size ≤ gb144)); have n7_ := am ((by rw [hg]; exact (qQh (by exact h2q HB.out GE116.out GE123.out)) : w.heap.size ≤ gb144)); have n8_ := am ((by rw [hg]; exact Nat.ne_of_lt (qZd (g := gb116) (Up.up BK116.out)) : gb116 ≠ gb144)); have n9_ := am ((by rw [hg]; exact Nat.ne_of_gt (qZd (g := gb116) (Up.up BK116.out)) : gb144 ≠ gb116)); have n10_ := am ((by rw [hg]; exact Nat.ne_of_lt (qZd (g := gb123) (Up.up BK123.out)) : gb123 ≠ gb144)); have n11_ := am ((by rw [hg]; exact Nat.ne_of_gt (qZd (g := gb123) (Up.up BK123.out)) : gb144 ≠ gb123)); clear HO_6; clear HO_18; clear BK116; clear BK123; clear HB; have HO_6 := n0_; have HO_18 := n1_; have BK116 := n2_; have BK123 := n3_; have HB := n4_; have BK144 := n5_; have GW144 := n6_; have GE144 := n7_; have NB116_144 := n8_; have NB144_116 := n9_; have NB123_144 := n10_; have NB144_123 := n11_; clear n0_ n1_ n2_ n3_ n4_ n5_ n6_ n7_ n8_ n9_ n10_ n11_; clear hb hbox hg) | ((with_reducible refine qWj (t := 43) (p := .tmp 20) (v := .tmp 159) rfl ?_); (refine qWb (a' := ?_) ?ha_ ?_; (case ha_ => first | (show Act.put _ _ _ = _; simp only [Act.put, List.setIfInBounds_toArray, List.set_cons_zero, List.set_cons_succ]; rfl) | rfl)); refine qWv (g := gb144) (a0 := ((qQc l0 x19_6).f0)) (a1 := ((qQc l0 x19_6).f1)) (a2 := ((qQc l0 x19_6).f2)) (a3 := ((qQc l0 x19_6).f3)) (a4 := ((qQc l0 x19_6).f4)) (a5 := ((qQc l0 x19_6).f5)) (a6 := ((qQc l0 x19_6).f6)) (a7 := ((qQc l0 x19_6).f7)) (a8 := ((qQc l0 x19_6).f8)) (a9 := ((qQc l0 x19_6).f9)) (a10 := ((qQc l0 x19_6).f10)) (a11 := ((qQc l0 x19_6).f11)) (a12 := ((qQc l0 x19_6).f12)) (p := .tmp 20) (v := .tmp 159) rfl rfl rfl rfl rfl BK144.out rfl ?_; intro w76 hW_; have n0_ : Aside0 (Kd.R kP3 61 w76 w.heap.size (fun _ => True) (.slice (some ⟨gp, 0, none⟩) 16 16) x6_5) := ⟨Kd.qQv (qXv hW_ (Kd.qZc HO_6.out BK144.out (by decide)) (fun _ hk => hk.2)) (fun _ _ => trivial)⟩; have n1_ : Aside0 (Kd.R k43 43 w76 w.heap.size (fun k_ => k_ ≠ gb144) u18 x18_6) := ⟨qXv hW_ (Kd.qQv HO_18.out (fun _ hk => hk.2)) (fun _ hk => hk)⟩; have n2_ := am (qYm hW_ BK116.out NB116_144.out); have n3_ := am (qYm hW_ BK123.out NB123_144.out); have n4_ := am (qX1 hW_ BK144.out); have n5_ := am (qXb hW_ HB.out GE144.out); clear HO_6 HO_18 BK116 BK123 BK144 HB hW_; have HO_6 := n0_; have HO_18 := n1_; have BK116 := n2_; have BK123 := n3_; have BK144 := n4_; have HB := n5_; clear n0_ n1_ n2_ n3_ n4_ n5_) | ((with_reducible refine qWq (t := 3) (p := .tmp 160) rfl ?_); refine qY8 (a' := ?_) rfl (ld3 (w := w76) (g := gb144) (k := 8) (v := .int .i64 ((qQc l0 x19_6).f8)) (p := .tmp 160) rfl rfl ((qQa BK144.out 8).trans rfl)) ?ha_ ?_; (case ha_ => first | (show Act.put _ _ _ = _; simp only [Act.put, List.setIfInBounds_toArray, List.set_cons_zero, List.set_cons_succ]; rfl) | rfl)))
       have n0_ := am (Kd.qQt HO_6.out)
       have n1_ := am (Kd.qQt HO_18.out)
       have n2_ := am (qQk BK116.out)
       have n3_ := am (qQk BK123.out)
       have n4_ := am (qQk BK144.out)
       have n5_ := am (qZg HB.out)
       clear HO_6 HO_18 BK116 BK123 BK144 HB
       have HO_6 := n0_
       have HO_18 := n1_
       have BK116 := n2_
       have BK123 := n3_
       have BK144 := n4_
       have HB := n5_
       clear n0_ n1_ n2_ n3_ n4_ n5_
       have p145 : 0 ≤ (x19_6 : Int) := yd
       have q145 : x19_6 < (x6_5.length : Int) := yd
       obtain ⟨hx145_0, hx145_1, hx145_2⟩ := P3.at_ HO_6.out x19_6 p145 q145
       have qa145 := eq_true (show x19_6 < 16 by have e_ := (Kd.qQx HO_6.out).1; omega)
       replace p145 := eq_true p145
       replace q145 := eq_true q145
       have p146 : 0 ≤ (x19_6 : Int) := yd
       have q146 : x19_6 < (x6_5.length : Int) := yd
       obtain ⟨hx146_0, hx146_1, hx146_2⟩ := P3.at_ HO_6.out x19_6 p146 q146
       have qa146 := eq_true (show x19_6 < 16 by have e_ := (Kd.qQx HO_6.out).1; omega)
       replace p146 := eq_true p146
       replace q146 := eq_true q146
       have p147 : 0 ≤ (x19_6 : Int) := yd
       have q147 : x19_6 < (x6_5.length : Int) := yd
       obtain ⟨hx147_0, hx147_1, hx147_2⟩ := P3.at_ HO_6.out x19_6 p147 q147
       have qa147 := eq_true (show x19_6 < 16 by have e_ := (Kd.qQx HO_6.out).1; omega)
       replace p147 := eq_true p147
       replace q147 := eq_true q147
       as_aux_lemma =>
       refine start_ (n := 20) (S := fun w' => w'.cell? ⟨gb144, 0, none⟩ = some (.int .i64 ((qQc l0 x19_6).f0)) ∧ w'.cell? ⟨gb144, 1, none⟩ = some (.int .i64 ((qQc l0 x19_6).f1)) ∧ w'.cell? ⟨gb144, 2, none⟩ = some (.int .i64 ((qQc l0 x19_6).f2)) ∧ w'.cell? ⟨gb144, 3, none⟩ = some (.int .i64 ((qQc l0 x19_6).f3)) ∧ w'.cell? ⟨gb144, 4, none⟩ = some (.int .i64 ((qQc l0 x19_6).f4)) ∧ w'.cell? ⟨gb144, 5, none⟩ = some (.int .i64 ((qQc l0 x19_6).f5)) ∧ w'.cell? ⟨gb144, 6, none⟩ = some (.bool ((qQc l0 x19_6).f6)) ∧ w'.cell? ⟨gb144, 7, none⟩ = some (.int .i64 ((qQc l0 x19_6).f7)) ∧ w'.cell? ⟨gb144, 8, none⟩ = some (.int .i64 ((qQc l0 x19_6).f8)) ∧ w'.cell? ⟨gb144, 9, none⟩ = some (.int .i64 ((qQc l0 x19_6).f9)) ∧ w'.cell? ⟨gb144, 10, none⟩ = some (.int .i64 ((qQc l0 x19_6).f10)) ∧ w'.cell? ⟨gb144, 11, none⟩ = some (.int .i64 ((qQc l0 x19_6).f11)) ∧ w'.cell? ⟨gb144, 12, none⟩ = some (.int .i64 ((qQc l0 x19_6).f12)) ∧ w'.cell? ⟨gp, (x19_6).toNat * 3, none⟩ = some (.int .i64 ((qQ0 x6_5 x19_6).f0)) ∧ w'.cell? ⟨gp, (x19_6).toNat * 3 + 1, none⟩ = some (.int .i64 ((qQ0 x6_5 x19_6).f1)) ∧ w'.cell? ⟨gp, (x19_6).toNat * 3 + 2, none⟩ = some (.int .i64 ((qQ0 x6_5 x19_6).f2)) ∧ w'.cell? ⟨gp, (x19_6).toNat * 3, none⟩ = some (.int .i64 ((qQ0 x6_5 x19_6).f0)) ∧ w'.cell? ⟨gp, (x19_6).toNat * 3 + 1, none⟩ = some (.int .i64 ((qQ0 x6_5 x19_6).f1)) ∧ w'.cell? ⟨gp, (x19_6).toNat * 3 + 2, none⟩ = some (.int .i64 ((qQ0 x6_5 x19_6).f2)) ∧ w'.cell? ⟨gp, (x19_6).toNat * 3, none⟩ = some (.int .i64 ((qQ0 x6_5 x19_6).f0)) ∧ w'.cell? ⟨gp, (x19_6).toNat * 3 + 1, none⟩ = some (.int .i64 ((qQ0 x6_5 x19_6).f1)) ∧ w'.cell? ⟨gp, (x19_6).toNat * 3 + 2, none⟩ = some (.int .i64 ((qQ0 x6_5 x19_6).f2))) (ds := []) (qQe.fl 20 0) (by kernel_rfl) rfl rfl ⟨(qQa BK144.out 0).trans rfl, (qQa BK144.out 1).trans rfl, (qQa BK144.out 2).trans rfl, (qQa BK144.out 3).trans rfl, (qQa BK144.out 4).trans rfl, (qQa BK144.out 5).trans rfl, (qQa BK144.out 6).trans rfl, (qQa BK144.out 7).trans rfl, (qQa BK144.out 8).trans rfl, (qQa BK144.out 9).trans rfl, (qQa BK144.out 10).trans rfl, (qQa BK144.out 11).trans rfl, (qQa BK144.out 12).trans rfl, hx145_0, hx145_1, hx145_2, hx146_0, hx146_1, hx146_2, hx147_0, hx147_1, hx147_2⟩ (fun hHeld => ?_); refine qYg qQe.tab40 qQe.bits40 (fun HT_ HW_ => ?_)
       generalize w76.drew = w77 at HO_6 HO_18 BK116 BK123 BK144 HB hx145_0 hx145_1 hx145_2 hx146_0 hx146_1 hx146_2 hx147_0 hx147_1 hx147_2 hHeld ⊢
       refine qQe.y 1 165 20 2 HT_.out ?_
       refine qQe.y 2 166 20 6 HT_.out ?_
       refine qQe.y 3 167 20 14 HT_.out ?_
       refine qQe.y 5 169 20 46 HT_.out ?_
       refine qQe.y 6 170 20 110 HT_.out ?_
       refine qQe.y 7 171 20 238 HT_.out ?_
       refine qQe.y 9 173 20 750 HT_.out ?_
       refine qQe.y 10 174 20 1774 HT_.out ?_
       refine qQe.y 11 175 20 3822 HT_.out ?_
       refine qQe.t 0 164 20 3823 HT_.out HW_.out hHeld ?_
       refine qQe.t 4 168 20 3839 HT_.out HW_.out hHeld ?_
       refine qQe.t 8 172 20 4095 HT_.out HW_.out hHeld ?_
       refine qQe.t 12 176 20 8191 HT_.out HW_.out hHeld ?_
       refine join_ (σ := Nat) 2 (qQe.fl 20 262143) (fun s_ => [(177, .tuple #[.agg #[.int .i64 t148, .int .i64 t149, .int .i64 t150, .int .i64 t151, .int .i64 t152, .int .i64 t153, .bool t154, .int .i64 t155, .int .i64 t156, .int .i64 t157, .int .i64 t158, .int .i64 t159, .int .i64 t160], .int .i64 t161]), (21, .pointer (some ⟨s_, 0, none⟩)), (163, .tuple #[.agg #[.int .i64 t148, .int .i64 t149, .int .i64 t150, .int .i64 t151, .int .i64 t152, .int .i64 t153, .bool t154, .int .i64 t155, .int .i64 t156, .int .i64 t157, .int .i64 t158, .int .i64 t159, .int .i64 t160], .int .i64 t161]), (178, .agg #[.int .i64 t148, .int .i64 t149, .int .i64 t150, .int .i64 t151, .int .i64 t152, .int .i64 t153, .bool t154, .int .i64 t155, .int .i64 t156, .int .i64 t157, .int .i64 t158, .int .i64 t159, .int .i64 t160]), (179, .int .i64 t161)]) (fun s_ w' => (w'.cell? ⟨gb144, 0, none⟩ = some (.int .i64 ((qQc l0 x19_6).f0)) ∧ w'.cell? ⟨gb144, 1, none⟩ = some (.int .i64 ((qQc l0 x19_6).f1)) ∧ w'.cell? ⟨gb144, 2, none⟩ = some (.int .i64 ((qQc l0 x19_6).f2)) ∧ w'.cell? ⟨gb144, 3, none⟩ = some (.int .i64 ((qQc l0 x19_6).f3)) ∧ w'.cell? ⟨gb144, 4, none⟩ = some (.int .i64 ((qQc l0 x19_6).f4)) ∧ w'.cell? ⟨gb144, 5, none⟩ = some (.int .i64 ((qQc l0 x19_6).f5)) ∧ w'.cell? ⟨gb144, 6, none⟩ = some (.bool ((qQc l0 x19_6).f6)) ∧ w'.cell? ⟨gb144, 7, none⟩ = some (.int .i64 ((qQc l0 x19_6).f7)) ∧ w'.cell? ⟨gb144, 8, none⟩ = some (.int .i64 ((qQc l0 x19_6).f8)) ∧ w'.cell? ⟨gb144, 9, none⟩ = some (.int .i64 ((qQc l0 x19_6).f9)) ∧ w'.cell? ⟨gb144, 10, none⟩ = some (.int .i64 ((qQc l0 x19_6).f10)) ∧ w'.cell? ⟨gb144, 11, none⟩ = some (.int .i64 ((qQc l0 x19_6).f11)) ∧ w'.cell? ⟨gb144, 12, none⟩ = some (.int .i64 ((qQc l0 x19_6).f12)) ∧ w'.cell? ⟨gp, (x19_6).toNat * 3, none⟩ = some (.int .i64 ((qQ0 x6_5 x19_6).f0)) ∧ w'.cell? ⟨gp, (x19_6).toNat * 3 + 1, none⟩ = some (.int .i64 ((qQ0 x6_5 x19_6).f1)) ∧ w'.cell? ⟨gp, (x19_6).toNat * 3 + 2, none⟩ = some (.int .i64 ((qQ0 x6_5 x19_6).f2)) ∧ w'.cell? ⟨gp, (x19_6).toNat * 3, none⟩ = some (.int .i64 ((qQ0 x6_5 x19_6).f0)) ∧ w'.cell? ⟨gp, (x19_6).toNat * 3 + 1, none⟩ = some (.int .i64 ((qQ0 x6_5 x19_6).f1)) ∧ w'.cell? ⟨gp, (x19_6).toNat * 3 + 2, none⟩ = some (.int .i64 ((qQ0 x6_5 x19_6).f2)) ∧ w'.cell? ⟨gp, (x19_6).toNat * 3, none⟩ = some (.int .i64 ((qQ0 x6_5 x19_6).f0)) ∧ w'.cell? ⟨gp, (x19_6).toNat * 3 + 1, none⟩ = some (.int .i64 ((qQ0 x6_5 x19_6).f1)) ∧ w'.cell? ⟨gp, (x19_6).toNat * 3 + 2, none⟩ = some (.int .i64 ((qQ0 x6_5 x19_6).f2))) ∧ (Kd.R k43 43 w' w.heap.size (fun k_ => k_ ≠ gb144 ∧ k_ ≠ s_) u18 x18_6) ∧ (Kd.R kP3 61 w' w.heap.size (fun _ => True) (.slice (some ⟨gp, 0, none⟩) 16 16) x6_5) ∧ (w'.heap[gb116]? = some (.cells #[.slice none 0 0, .int .i64 x117001_6, .int .i64 x117002_6, .int .i64 x117003_6, .int .i64 x117004_6] 31 (0, 0))) ∧ (w'.heap[gb123]? = some (.cells #[.int .i64 x124000_3, .int .i64 x124001_4, .int .i64 x124002_5, .int .i64 x9_5] 26 (0, 0))) ∧ (w'.heap[gb144]? = some (.cells #[.int .i64 ((qQc l0 x19_6).f0), .int .i64 ((qQc l0 x19_6).f1), .int .i64 ((qQc l0 x19_6).f2), .int .i64 ((qQc l0 x19_6).f3), .int .i64 ((qQc l0 x19_6).f4), .int .i64 ((qQc l0 x19_6).f5), .bool ((qQc l0 x19_6).f6), .int .i64 ((qQc l0 x19_6).f7), .int .i64 ((qQc l0 x19_6).f8), .int .i64 ((qQc l0 x19_6).f9), .int .i64 ((qQc l0 x19_6).f10), .int .i64 ((qQc l0 x19_6).f11), .int .i64 ((qQc l0 x19_6).f12)] 43 (0, 0))) ∧ (w'.heap[s_]? = some (.cells #[.int .i64 0, .int .i64 0, .int .i64 0, .int .i64 0, .int .i64 0, .int .i64 0, .bool false, .int .i64 0, .int .i64 0, .int .i64 0, .int .i64 0, .int .i64 0, .int .i64 0] 43 (0, 0))) ∧ (w.heap.size ≤ s_) ∧ (w.heap.size ≤ s_) ∧ (gb116 ≠ s_) ∧ (s_ ≠ gb116) ∧ (gb123 ≠ s_) ∧ (s_ ≠ gb123) ∧ (gb144 ≠ s_) ∧ (s_ ≠ gb144) ∧ (Below w.heap.size w w')) ?_ ?_
       rotate_left
       ·intro hCont
        refine two_ (i := 13) (j := 17) (Ni := some 177) (Nj := some 21) (qQe.fl 20 16383) (qQe.fl 20 139263) rfl rfl rfl rfl (qXj HT_.out (by kernel_rfl)) (by decide) (by decide) (fun K hK => ?_) (fun K hK => ?_)
        ·skip
         refine goes_ Try.func33 (by kernel_rfl) rfl #[.agg #[.int .i64 ((qQc l0 x19_6).f0), .int .i64 ((qQc l0 x19_6).f1), .int .i64 ((qQc l0 x19_6).f2), .int .i64 ((qQc l0 x19_6).f3), .int .i64 ((qQc l0 x19_6).f4), .int .i64 ((qQc l0 x19_6).f5), .bool ((qQc l0 x19_6).f6), .int .i64 ((qQc l0 x19_6).f7), .int .i64 ((qQc l0 x19_6).f8), .int .i64 ((qQc l0 x19_6).f9), .int .i64 ((qQc l0 x19_6).f10), .int .i64 ((qQc l0 x19_6).f11), .int .i64 ((qQc l0 x19_6).f12)], .int .i64 ((qQ0 x6_5 x19_6).f0), .int .i64 ((qQ0 x6_5 x19_6).f1), .int .i64 ((qQ0 x6_5 x19_6).f2)] (by rfl) rfl rfl ml ?_
         with_reducible refine (qQp.calls k6 ((qQc l0 x19_6).f0) ((qQc l0 x19_6).f1) ((qQc l0 x19_6).f2) ((qQc l0 x19_6).f3) ((qQc l0 x19_6).f4) ((qQc l0 x19_6).f5) ((qQc l0 x19_6).f6) ((qQc l0 x19_6).f7) ((qQc l0 x19_6).f8) ((qQc l0 x19_6).f9) ((qQc l0 x19_6).f10) ((qQc l0 x19_6).f11) ((qQc l0 x19_6).f12) ((qQ0 x6_5 x19_6).f0) ((qQ0 x6_5 x19_6).f1) ((qQ0 x6_5 x19_6).f2) t148 t149 t150 t151 t152 t153 t154 t155 t156 t157 t158 t159 t160 t161 _ A69.out).mono ?_
         rintro e w79 ⟨rfl, hb⟩
         have HS13_ := hxb hb (hHeld.2.2.2.2.2.2.2.2.2.2.2.2.2.1)
         have HS14_ := hxb hb (hHeld.2.2.2.2.2.2.2.2.2.2.2.2.2.2.1)
         have HS15_ := hxb hb (hHeld.2.2.2.2.2.2.2.2.2.2.2.2.2.2.2.1)
         have HS16_ := hxb hb (hHeld.2.2.2.2.2.2.2.2.2.2.2.2.2.2.2.2.1)
         have HS17_ := hxb hb (hHeld.2.2.2.2.2.2.2.2.2.2.2.2.2.2.2.2.2.1)
         have HS18_ := hxb hb (hHeld.2.2.2.2.2.2.2.2.2.2.2.2.2.2.2.2.2.2.1)
         have HS19_ := hxb hb (hHeld.2.2.2.2.2.2.2.2.2.2.2.2.2.2.2.2.2.2.2.1)
         have HS20_ := hxb hb (hHeld.2.2.2.2.2.2.2.2.2.2.2.2.2.2.2.2.2.2.2.2.1)
         have HS21_ := hxb hb (hHeld.2.2.2.2.2.2.2.2.2.2.2.2.2.2.2.2.2.2.2.2.2)
         refine ⟨_, rfl, ?_⟩
         have n0_ := am (Kd.qQw (by exact rq HO_6.out) hb)
         have n1_ := am (Kd.qQw (by exact rq HO_18.out) hb)
         have n2_ := am (qQu (g := gb116) (Up.up BK116.out) hb)
         have n3_ := am (qQu (g := gb123) (Up.up BK123.out) hb)
         have n4_ := am (qQu (g := gb144) (Up.up BK144.out) hb)
         have n5_ := am (qQn (by exact h3q HB.out GE116.out GE123.out GE144.out) hb)
         clear HO_6 HO_18 BK116 BK123 BK144 HB
         have HO_6 := n0_
         have HO_18 := n1_
         have BK116 := n2_
         have BK123 := n3_
         have BK144 := n4_
         have HB := n5_
         clear n0_ n1_ n2_ n3_ n4_ n5_
         (try clear hb)
         (try clear hb2)
         (try clear hk)
         (try clear hi)
         refine hK.out _ _ ⟨(qQa BK144.out 0).trans rfl, (qQa BK144.out 1).trans rfl, (qQa BK144.out 2).trans rfl, (qQa BK144.out 3).trans rfl, (qQa BK144.out 4).trans rfl, (qQa BK144.out 5).trans rfl, (qQa BK144.out 6).trans rfl, (qQa BK144.out 7).trans rfl, (qQa BK144.out 8).trans rfl, (qQa BK144.out 9).trans rfl, (qQa BK144.out 10).trans rfl, (qQa BK144.out 11).trans rfl, (qQa BK144.out 12).trans rfl, HS13_, HS14_, HS15_, HS16_, HS17_, HS18_, HS19_, HS20_, HS21_⟩ (fun hHeld => ?_)
         clear hK K
         refine norm_ (a' := ?_) ?_ ?_
         rotate_left
         ·show Act.put _ (some 177) _ = _
          exact pu
         refine qQe.y 14 163 20 32767 HT_.out ?_
         refine qQe.y 15 178 20 65535 HT_.out ?_
         refine qQe.y 16 179 20 131071 HT_.out ?_
         refine one_ (i := 17) (N := some 21) (qQe.fl 20 262143) rfl rfl (qZ3 HT_.out (by kernel_rfl)) (by decide) (fun K hK => ?_)
         refine qWy ?hg (N := 21) ?hd (cs := #[.int .i64 0, .int .i64 0, .int .i64 0, .int .i64 0, .int .i64 0, .int .i64 0, .bool false, .int .i64 0, .int .i64 0, .int .i64 0, .int .i64 0, .int .i64 0, .int .i64 0]) (t := 43) ?hr ?_; (case hd => rfl); (case hg => rfl); (case hr => first | (go_simp; done) | (go_simp; rfl))
         intro gb162 hg w80 hbox hb
         have HS13_ := hxb hb (hHeld.2.2.2.2.2.2.2.2.2.2.2.2.2.1)
         have HS14_ := hxb hb (hHeld.2.2.2.2.2.2.2.2.2.2.2.2.2.2.1)
         have HS15_ := hxb hb (hHeld.2.2.2.2.2.2.2.2.2.2.2.2.2.2.2.1)
         have HS16_ := hxb hb (hHeld.2.2.2.2.2.2.2.2.2.2.2.2.2.2.2.2.1)
         have HS17_ := hxb hb (hHeld.2.2.2.2.2.2.2.2.2.2.2.2.2.2.2.2.2.1)
         have HS18_ := hxb hb (hHeld.2.2.2.2.2.2.2.2.2.2.2.2.2.2.2.2.2.2.1)
         have HS19_ := hxb hb (hHeld.2.2.2.2.2.2.2.2.2.2.2.2.2.2.2.2.2.2.2.1)
         have HS20_ := hxb hb (hHeld.2.2.2.2.2.2.2.2.2.2.2.2.2.2.2.2.2.2.2.2.1)
         have HS21_ := hxb hb (hHeld.2.2.2.2.2.2.2.2.2.2.2.2.2.2.2.2.2.2.2.2.2)
         have n0_ := am (Kd.qQw (by exact rq HO_6.out) hb)
         have n1_ := am (Kd.qQw (Kd.qXm (by exact rq HO_18.out) gb162 (Nat.le_of_eq hg.symm)) hb)
         have n2_ := am (qQu (g := gb116) (Up.up BK116.out) hb)
         have n3_ := am (qQu (g := gb123) (Up.up BK123.out) hb)
         have n4_ := am (qQu (g := gb144) (Up.up BK144.out) hb)
         have n5_ := am (qQn (by exact h3q HB.out GE116.out GE123.out GE144.out) hb)
         have n6_ := am (hbox)
         have n7_ := am ((by rw [hg]; exact (qQh (by exact h3q HB.out GE116.out GE123.out GE144.out)) : w.heap.size ≤ gb162))
         have n8_ := am ((by rw [hg]; exact (qQh (by exact h3q HB.out GE116.out GE123.out GE144.out)) : w.heap.size ≤ gb162))
         have n9_ := am ((by rw [hg]; exact Nat.ne_of_lt (qZd (g := gb116) (Up.up BK116.out)) : gb116 ≠ gb162))
         have n10_ := am ((by rw [hg]; exact Nat.ne_of_gt (qZd (g := gb116) (Up.up BK116.out)) : gb162 ≠ gb116))
         have n11_ := am ((by rw [hg]; exact Nat.ne_of_lt (qZd (g := gb123) (Up.up BK123.out)) : gb123 ≠ gb162))
         have n12_ := am ((by rw [hg]; exact Nat.ne_of_gt (qZd (g := gb123) (Up.up BK123.out)) : gb162 ≠ gb123))
         have n13_ := am ((by rw [hg]; exact Nat.ne_of_lt (qZd (g := gb144) (Up.up BK144.out)) : gb144 ≠ gb162))
         have n14_ := am ((by rw [hg]; exact Nat.ne_of_gt (qZd (g := gb144) (Up.up BK144.out)) : gb162 ≠ gb144))
         clear HO_6 HO_18 BK116 BK123 BK144 HB
         have HO_6 := n0_
         have HO_18 := n1_
         have BK116 := n2_
         have BK123 := n3_
         have BK144 := n4_
         have HB := n5_
         have BK162 := n6_
         have GW162 := n7_
         have GE162 := n8_
         have NB116_162 := n9_
         have NB162_116 := n10_
         have NB123_162 := n11_
         have NB162_123 := n12_
         have NB144_162 := n13_
         have NB162_144 := n14_
         clear n0_ n1_ n2_ n3_ n4_ n5_ n6_ n7_ n8_ n9_ n10_ n11_ n12_ n13_ n14_ hb hbox hg
         refine hK.out _ _ ⟨(qQa BK144.out 0).trans rfl, (qQa BK144.out 1).trans rfl, (qQa BK144.out 2).trans rfl, (qQa BK144.out 3).trans rfl, (qQa BK144.out 4).trans rfl, (qQa BK144.out 5).trans rfl, (qQa BK144.out 6).trans rfl, (qQa BK144.out 7).trans rfl, (qQa BK144.out 8).trans rfl, (qQa BK144.out 9).trans rfl, (qQa BK144.out 10).trans rfl, (qQa BK144.out 11).trans rfl, (qQa BK144.out 12).trans rfl, HS13_, HS14_, HS15_, HS16_, HS17_, HS18_, HS19_, HS20_, HS21_⟩ (fun hHeld => ?_)
         clear hK K
         refine norm_ (a' := ?_) ?_ ?_
         rotate_left
         ·show Act.put _ (some 21) _ = _
          exact pu
         exact norm_ (by simp only [putAll, Act.put, List.setIfInBounds_toArray, List.set_cons_zero, List.set_cons_succ]) (hCont (gb162) _ ⟨hHeld, (by exact rq HO_18.out), (by exact rq HO_6.out), (Up.up BK116.out), (Up.up BK123.out), (Up.up BK144.out), (Up.up BK162.out), GW162.out, GE162.out, NB116_162.out, NB162_116.out, NB123_162.out, NB162_123.out, NB144_162.out, NB162_144.out, (by exact h4q HB.out GE116.out GE123.out GE144.out GE162.out)⟩)
        ·skip
         refine qWy ?hg (N := 21) ?hd (cs := #[.int .i64 0, .int .i64 0, .int .i64 0, .int .i64 0, .int .i64 0, .int .i64 0, .bool false, .int .i64 0, .int .i64 0, .int .i64 0, .int .i64 0, .int .i64 0, .int .i64 0]) (t := 43) ?hr ?_; (case hd => rfl); (case hg => rfl); (case hr => first | (go_simp; done) | (go_simp; rfl))
         intro gb162 hg w79 hbox hb
         have HS13_ := hxb hb (hHeld.2.2.2.2.2.2.2.2.2.2.2.2.2.1)
         have HS14_ := hxb hb (hHeld.2.2.2.2.2.2.2.2.2.2.2.2.2.2.1)
         have HS15_ := hxb hb (hHeld.2.2.2.2.2.2.2.2.2.2.2.2.2.2.2.1)
         have HS16_ := hxb hb (hHeld.2.2.2.2.2.2.2.2.2.2.2.2.2.2.2.2.1)
         have HS17_ := hxb hb (hHeld.2.2.2.2.2.2.2.2.2.2.2.2.2.2.2.2.2.1)
         have HS18_ := hxb hb (hHeld.2.2.2.2.2.2.2.2.2.2.2.2.2.2.2.2.2.2.1)
         have HS19_ := hxb hb (hHeld.2.2.2.2.2.2.2.2.2.2.2.2.2.2.2.2.2.2.2.1)
         have HS20_ := hxb hb (hHeld.2.2.2.2.2.2.2.2.2.2.2.2.2.2.2.2.2.2.2.2.1)
         have HS21_ := hxb hb (hHeld.2.2.2.2.2.2.2.2.2.2.2.2.2.2.2.2.2.2.2.2.2)
         have n0_ := am (Kd.qQw (by exact rq HO_6.out) hb)
         have n1_ := am (Kd.qQw (Kd.qXm (by exact rq HO_18.out) gb162 (Nat.le_of_eq hg.symm)) hb)
         have n2_ := am (qQu (g := gb116) (Up.up BK116.out) hb)
         have n3_ := am (qQu (g := gb123) (Up.up BK123.out) hb)
         have n4_ := am (qQu (g := gb144) (Up.up BK144.out) hb)
         have n5_ := am (qQn (by exact h3q HB.out GE116.out GE123.out GE144.out) hb)
         have n6_ := am (hbox)
         have n7_ := am ((by rw [hg]; exact (qQh (by exact h3q HB.out GE116.out GE123.out GE144.out)) : w.heap.size ≤ gb162))
         have n8_ := am ((by rw [hg]; exact (qQh (by exact h3q HB.out GE116.out GE123.out GE144.out)) : w.heap.size ≤ gb162))
         have n9_ := am ((by rw [hg]; exact Nat.ne_of_lt (qZd (g := gb116) (Up.up BK116.out)) : gb116 ≠ gb162))
         have n10_ := am ((by rw [hg]; exact Nat.ne_of_gt (qZd (g := gb116) (Up.up BK116.out)) : gb162 ≠ gb116))
         have n11_ := am ((by rw [hg]; exact Nat.ne_of_lt (qZd (g := gb123) (Up.up BK123.out)) : gb123 ≠ gb162))
         have n12_ := am ((by rw [hg]; exact Nat.ne_of_gt (qZd (g := gb123) (Up.up BK123.out)) : gb162 ≠ gb123))
         have n13_ := am ((by rw [hg]; exact Nat.ne_of_lt (qZd (g := gb144) (Up.up BK144.out)) : gb144 ≠ gb162))
         have n14_ := am ((by rw [hg]; exact Nat.ne_of_gt (qZd (g := gb144) (Up.up BK144.out)) : gb162 ≠ gb144))
         clear HO_6 HO_18 BK116 BK123 BK144 HB
         have HO_6 := n0_
         have HO_18 := n1_
         have BK116 := n2_
         have BK123 := n3_
         have BK144 := n4_
         have HB := n5_
         have BK162 := n6_
         have GW162 := n7_
         have GE162 := n8_
         have NB116_162 := n9_
         have NB162_116 := n10_
         have NB123_162 := n11_
         have NB162_123 := n12_
         have NB144_162 := n13_
         have NB162_144 := n14_
         clear n0_ n1_ n2_ n3_ n4_ n5_ n6_ n7_ n8_ n9_ n10_ n11_ n12_ n13_ n14_ hb hbox hg
         refine hK.out _ _ ⟨(qQa BK144.out 0).trans rfl, (qQa BK144.out 1).trans rfl, (qQa BK144.out 2).trans rfl, (qQa BK144.out 3).trans rfl, (qQa BK144.out 4).trans rfl, (qQa BK144.out 5).trans rfl, (qQa BK144.out 6).trans rfl, (qQa BK144.out 7).trans rfl, (qQa BK144.out 8).trans rfl, (qQa BK144.out 9).trans rfl, (qQa BK144.out 10).trans rfl, (qQa BK144.out 11).trans rfl, (qQa BK144.out 12).trans rfl, HS13_, HS14_, HS15_, HS16_, HS17_, HS18_, HS19_, HS20_, HS21_⟩ (fun hHeld => ?_)
         clear hK K
         refine norm_ (a' := ?_) ?_ ?_
         rotate_left
         ·show Act.put _ (some 21) _ = _
          exact pu
         refine one_ (i := 13) (N := some 177) (qQe.fl 20 147455) rfl rfl (qZ3 HT_.out (by kernel_rfl)) (by decide) (fun K hK => ?_)
         refine goes_ Try.func33 (by kernel_rfl) rfl #[.agg #[.int .i64 ((qQc l0 x19_6).f0), .int .i64 ((qQc l0 x19_6).f1), .int .i64 ((qQc l0 x19_6).f2), .int .i64 ((qQc l0 x19_6).f3), .int .i64 ((qQc l0 x19_6).f4), .int .i64 ((qQc l0 x19_6).f5), .bool ((qQc l0 x19_6).f6), .int .i64 ((qQc l0 x19_6).f7), .int .i64 ((qQc l0 x19_6).f8), .int .i64 ((qQc l0 x19_6).f9), .int .i64 ((qQc l0 x19_6).f10), .int .i64 ((qQc l0 x19_6).f11), .int .i64 ((qQc l0 x19_6).f12)], .int .i64 ((qQ0 x6_5 x19_6).f0), .int .i64 ((qQ0 x6_5 x19_6).f1), .int .i64 ((qQ0 x6_5 x19_6).f2)] (by rfl) rfl rfl ml ?_
         with_reducible refine (qQp.calls k6 ((qQc l0 x19_6).f0) ((qQc l0 x19_6).f1) ((qQc l0 x19_6).f2) ((qQc l0 x19_6).f3) ((qQc l0 x19_6).f4) ((qQc l0 x19_6).f5) ((qQc l0 x19_6).f6) ((qQc l0 x19_6).f7) ((qQc l0 x19_6).f8) ((qQc l0 x19_6).f9) ((qQc l0 x19_6).f10) ((qQc l0 x19_6).f11) ((qQc l0 x19_6).f12) ((qQ0 x6_5 x19_6).f0) ((qQ0 x6_5 x19_6).f1) ((qQ0 x6_5 x19_6).f2) t148 t149 t150 t151 t152 t153 t154 t155 t156 t157 t158 t159 t160 t161 _ A69.out).mono ?_
         rintro e w80 ⟨rfl, hb⟩
         have HS13_ := hxb hb (hHeld.2.2.2.2.2.2.2.2.2.2.2.2.2.1)
         have HS14_ := hxb hb (hHeld.2.2.2.2.2.2.2.2.2.2.2.2.2.2.1)
         have HS15_ := hxb hb (hHeld.2.2.2.2.2.2.2.2.2.2.2.2.2.2.2.1)
         have HS16_ := hxb hb (hHeld.2.2.2.2.2.2.2.2.2.2.2.2.2.2.2.2.1)
         have HS17_ := hxb hb (hHeld.2.2.2.2.2.2.2.2.2.2.2.2.2.2.2.2.2.1)
         have HS18_ := hxb hb (hHeld.2.2.2.2.2.2.2.2.2.2.2.2.2.2.2.2.2.2.1)
         have HS19_ := hxb hb (hHeld.2.2.2.2.2.2.2.2.2.2.2.2.2.2.2.2.2.2.2.1)
         have HS20_ := hxb hb (hHeld.2.2.2.2.2.2.2.2.2.2.2.2.2.2.2.2.2.2.2.2.1)
         have HS21_ := hxb hb (hHeld.2.2.2.2.2.2.2.2.2.2.2.2.2.2.2.2.2.2.2.2.2)
         refine ⟨_, rfl, ?_⟩
         have n0_ := am (Kd.qQw (by exact rq HO_6.out) hb)
         have n1_ := am (Kd.qQw (by exact rq HO_18.out) hb)
         have n2_ := am (qQu (g := gb116) (Up.up BK116.out) hb)
         have n3_ := am (qQu (g := gb123) (Up.up BK123.out) hb)
         have n4_ := am (qQu (g := gb144) (Up.up BK144.out) hb)
         have n5_ := am (qQu (g := gb162) (Up.up BK162.out) hb)
         have n6_ := am (qQn (by exact h4q HB.out GE116.out GE123.out GE144.out GE162.out) hb)
         clear HO_6 HO_18 BK116 BK123 BK144 BK162 HB
         have HO_6 := n0_
         have HO_18 := n1_
         have BK116 := n2_
         have BK123 := n3_
         have BK144 := n4_
         have BK162 := n5_
         have HB := n6_
         clear n0_ n1_ n2_ n3_ n4_ n5_ n6_
         (try clear hb)
         (try clear hb2)
         (try clear hk)
         (try clear hi)
         refine hK.out _ _ ⟨(qQa BK144.out 0).trans rfl, (qQa BK144.out 1).trans rfl, (qQa BK144.out 2).trans rfl, (qQa BK144.out 3).trans rfl, (qQa BK144.out 4).trans rfl, (qQa BK144.out 5).trans rfl, (qQa BK144.out 6).trans rfl, (qQa BK144.out 7).trans rfl, (qQa BK144.out 8).trans rfl, (qQa BK144.out 9).trans rfl, (qQa BK144.out 10).trans rfl, (qQa BK144.out 11).trans rfl, (qQa BK144.out 12).trans rfl, HS13_, HS14_, HS15_, HS16_, HS17_, HS18_, HS19_, HS20_, HS21_⟩ (fun hHeld => ?_)
         clear hK K
         refine norm_ (a' := ?_) ?_ ?_
         rotate_left
         ·show Act.put _ (some 177) _ = _
          exact pu
         refine qQe.y 14 163 20 163839 HT_.out ?_
         refine qQe.y 15 178 20 196607 HT_.out ?_
         refine qQe.y 16 179 20 262143 HT_.out ?_
         exact norm_ (by simp only [putAll, Act.put, List.setIfInBounds_toArray, List.set_cons_zero, List.set_cons_succ]) (hCont (gb162) _ ⟨hHeld, (by exact rq HO_18.out), (by exact rq HO_6.out), (Up.up BK116.out), (Up.up BK123.out), (Up.up BK144.out), (Up.up BK162.out), GW162.out, GE162.out, NB116_162.out, NB162_116.out, NB123_162.out, NB162_123.out, NB144_162.out, NB162_144.out, (by exact h4q HB.out GE116.out GE123.out GE144.out GE162.out)⟩)
       rintro gb162 w81 ⟨hS_, h0_, h1_, h2_, h3_, h4_, h5_, h6_, h7_, h8_, h9_, h10_, h11_, h12_, h13_, h14_⟩
       have n0_ : Aside0 (Kd.R k43 43 w81 w.heap.size (fun k_ => k_ ≠ gb144 ∧ k_ ≠ gb162) u18 x18_6) := ⟨h0_⟩
       have n1_ : Aside0 (Kd.R kP3 61 w81 w.heap.size (fun _ => True) (.slice (some ⟨gp, 0, none⟩) 16 16) x6_5) := ⟨h1_⟩
       have n2_ : Aside0 (w81.heap[gb116]? = some (.cells #[.slice none 0 0, .int .i64 x117001_6, .int .i64 x117002_6, .int .i64 x117003_6, .int .i64 x117004_6] 31 (0, 0))) := ⟨h2_⟩
       have n3_ : Aside0 (w81.heap[gb123]? = some (.cells #[.int .i64 x124000_3, .int .i64 x124001_4, .int .i64 x124002_5, .int .i64 x9_5] 26 (0, 0))) := ⟨h3_⟩
       have n4_ : Aside0 (w81.heap[gb144]? = some (.cells #[.int .i64 ((qQc l0 x19_6).f0), .int .i64 ((qQc l0 x19_6).f1), .int .i64 ((qQc l0 x19_6).f2), .int .i64 ((qQc l0 x19_6).f3), .int .i64 ((qQc l0 x19_6).f4), .int .i64 ((qQc l0 x19_6).f5), .bool ((qQc l0 x19_6).f6), .int .i64 ((qQc l0 x19_6).f7), .int .i64 ((qQc l0 x19_6).f8), .int .i64 ((qQc l0 x19_6).f9), .int .i64 ((qQc l0 x19_6).f10), .int .i64 ((qQc l0 x19_6).f11), .int .i64 ((qQc l0 x19_6).f12)] 43 (0, 0))) := ⟨h4_⟩
       have n5_ : Aside0 (w81.heap[gb162]? = some (.cells #[.int .i64 0, .int .i64 0, .int .i64 0, .int .i64 0, .int .i64 0, .int .i64 0, .bool false, .int .i64 0, .int .i64 0, .int .i64 0, .int .i64 0, .int .i64 0, .int .i64 0] 43 (0, 0))) := ⟨h5_⟩
       have n6_ : Aside0 (w.heap.size ≤ gb162) := ⟨h6_⟩
       have n7_ : Aside0 (w.heap.size ≤ gb162) := ⟨h7_⟩
       have n8_ : Aside0 (gb116 ≠ gb162) := ⟨h8_⟩
       have n9_ : Aside0 (gb162 ≠ gb116) := ⟨h9_⟩
       have n10_ : Aside0 (gb123 ≠ gb162) := ⟨h10_⟩
       have n11_ : Aside0 (gb162 ≠ gb123) := ⟨h11_⟩
       have n12_ : Aside0 (gb144 ≠ gb162) := ⟨h12_⟩
       have n13_ : Aside0 (gb162 ≠ gb144) := ⟨h13_⟩
       have n14_ : Aside0 (Below w.heap.size w w81) := ⟨h14_⟩
       clear HO_6 HO_18 BK116 BK123 BK144 HB h0_ h1_ h2_ h3_ h4_ h5_ h6_ h7_ h8_ h9_ h10_ h11_ h12_ h13_ h14_
       have HO_18 := n0_
       have HO_6 := n1_
       have BK116 := n2_
       have BK123 := n3_
       have BK144 := n4_
       have BK162 := n5_
       have GW162 := n6_
       have GE162 := n7_
       have NB116_162 := n8_
       have NB162_116 := n9_
       have NB123_162 := n10_
       have NB162_123 := n11_
       have NB144_162 := n12_
       have NB162_144 := n13_
       have HB := n14_
       clear n0_ n1_ n2_ n3_ n4_ n5_ n6_ n7_ n8_ n9_ n10_ n11_ n12_ n13_ n14_
       have hHeld : w81.cell? ⟨gb144, 0, none⟩ = some (.int .i64 ((qQc l0 x19_6).f0)) ∧ w81.cell? ⟨gb144, 1, none⟩ = some (.int .i64 ((qQc l0 x19_6).f1)) ∧ w81.cell? ⟨gb144, 2, none⟩ = some (.int .i64 ((qQc l0 x19_6).f2)) ∧ w81.cell? ⟨gb144, 3, none⟩ = some (.int .i64 ((qQc l0 x19_6).f3)) ∧ w81.cell? ⟨gb144, 4, none⟩ = some (.int .i64 ((qQc l0 x19_6).f4)) ∧ w81.cell? ⟨gb144, 5, none⟩ = some (.int .i64 ((qQc l0 x19_6).f5)) ∧ w81.cell? ⟨gb144, 6, none⟩ = some (.bool ((qQc l0 x19_6).f6)) ∧ w81.cell? ⟨gb144, 7, none⟩ = some (.int .i64 ((qQc l0 x19_6).f7)) ∧ w81.cell? ⟨gb144, 8, none⟩ = some (.int .i64 ((qQc l0 x19_6).f8)) ∧ w81.cell? ⟨gb144, 9, none⟩ = some (.int .i64 ((qQc l0 x19_6).f9)) ∧ w81.cell? ⟨gb144, 10, none⟩ = some (.int .i64 ((qQc l0 x19_6).f10)) ∧ w81.cell? ⟨gb144, 11, none⟩ = some (.int .i64 ((qQc l0 x19_6).f11)) ∧ w81.cell? ⟨gb144, 12, none⟩ = some (.int .i64 ((qQc l0 x19_6).f12)) ∧ w81.cell? ⟨gp, (x19_6).toNat * 3, none⟩ = some (.int .i64 ((qQ0 x6_5 x19_6).f0)) ∧ w81.cell? ⟨gp, (x19_6).toNat * 3 + 1, none⟩ = some (.int .i64 ((qQ0 x6_5 x19_6).f1)) ∧ w81.cell? ⟨gp, (x19_6).toNat * 3 + 2, none⟩ = some (.int .i64 ((qQ0 x6_5 x19_6).f2)) ∧ w81.cell? ⟨gp, (x19_6).toNat * 3, none⟩ = some (.int .i64 ((qQ0 x6_5 x19_6).f0)) ∧ w81.cell? ⟨gp, (x19_6).toNat * 3 + 1, none⟩ = some (.int .i64 ((qQ0 x6_5 x19_6).f1)) ∧ w81.cell? ⟨gp, (x19_6).toNat * 3 + 2, none⟩ = some (.int .i64 ((qQ0 x6_5 x19_6).f2)) ∧ w81.cell? ⟨gp, (x19_6).toNat * 3, none⟩ = some (.int .i64 ((qQ0 x6_5 x19_6).f0)) ∧ w81.cell? ⟨gp, (x19_6).toNat * 3 + 1, none⟩ = some (.int .i64 ((qQ0 x6_5 x19_6).f1)) ∧ w81.cell? ⟨gp, (x19_6).toNat * 3 + 2, none⟩ = some (.int .i64 ((qQ0 x6_5 x19_6).f2)) := hS_
       refine norm_ (a' := ?_) ?_ ?_
       rotate_left
       ·simp only [putAll, Act.put, List.setIfInBounds_toArray, List.set_cons_zero, List.set_cons_succ]
        rfl
       refine one_ (i := 18) (N := none) (qQe.fl 20 524287) rfl rfl (qZ3 HT_.out (by kernel_rfl)) (by decide) (fun K hK => ?_)
       refine skip_ (w1 := (((((((((((((w81).setCell ⟨gb162, 0, none⟩ (.int .i64 t148)).setCell ⟨gb162, 1, none⟩ (.int .i64 t149)).setCell ⟨gb162, 2, none⟩ (.int .i64 t150)).setCell ⟨gb162, 3, none⟩ (.int .i64 t151)).setCell ⟨gb162, 4, none⟩ (.int .i64 t152)).setCell ⟨gb162, 5, none⟩ (.int .i64 t153)).setCell ⟨gb162, 6, none⟩ (.bool t154)).setCell ⟨gb162, 7, none⟩ (.int .i64 t155)).setCell ⟨gb162, 8, none⟩ (.int .i64 t156)).setCell ⟨gb162, 9, none⟩ (.int .i64 t157)).setCell ⟨gb162, 10, none⟩ (.int .i64 t158)).setCell ⟨gb162, 11, none⟩ (.int .i64 t159)).setCell ⟨gb162, 12, none⟩ (.int .i64 t160)) (by rfl) rfl (st13b (w := w81) (g := gb162) (a0 := t148) (a1 := t149) (a2 := t150) (a3 := t151) (a4 := t152) (a5 := t153) (a6 := t154) (a7 := t155) (a8 := t156) (a9 := t157) (a10 := t158) (a11 := t159) (a12 := t160) (p := .tmp 21) (v := .tmp 178) rfl rfl rfl BK162.out rfl) ?_
       refine hK.out _ _ ⟨((far13 NB144_162.out).trans (hHeld.1)), ((far13 NB144_162.out).trans (hHeld.2.1)), ((far13 NB144_162.out).trans (hHeld.2.2.1)), ((far13 NB144_162.out).trans (hHeld.2.2.2.1)), ((far13 NB144_162.out).trans (hHeld.2.2.2.2.1)), ((far13 NB144_162.out).trans (hHeld.2.2.2.2.2.1)), ((far13 NB144_162.out).trans (hHeld.2.2.2.2.2.2.1)), ((far13 NB144_162.out).trans (hHeld.2.2.2.2.2.2.2.1)), ((far13 NB144_162.out).trans (hHeld.2.2.2.2.2.2.2.2.1)), ((far13 NB144_162.out).trans (hHeld.2.2.2.2.2.2.2.2.2.1)), ((far13 NB144_162.out).trans (hHeld.2.2.2.2.2.2.2.2.2.2.1)), ((far13 NB144_162.out).trans (hHeld.2.2.2.2.2.2.2.2.2.2.2.1)), ((far13 NB144_162.out).trans (hHeld.2.2.2.2.2.2.2.2.2.2.2.2.1)), ((far13 (by first | exact Kd.qQ6 (Kd.R_ne HO_6.out BK162.out (by decide)) | (rw [add_block]; exact Kd.qQ6 (Kd.R_ne HO_6.out BK162.out (by decide))) | (show (Addr.add _ _).block ≠ _; rw [add_block]; exact Kd.qQ6 (Kd.R_ne HO_6.out BK162.out (by decide))) | (dsimp only; exact Kd.qQ6 (Kd.R_ne HO_6.out BK162.out (by decide))))).trans (hHeld.2.2.2.2.2.2.2.2.2.2.2.2.2.1)), ((far13 (by first | exact Kd.qQ6 (Kd.R_ne HO_6.out BK162.out (by decide)) | (rw [add_block]; exact Kd.qQ6 (Kd.R_ne HO_6.out BK162.out (by decide))) | (show (Addr.add _ _).block ≠ _; rw [add_block]; exact Kd.qQ6 (Kd.R_ne HO_6.out BK162.out (by decide))) | (dsimp only; exact Kd.qQ6 (Kd.R_ne HO_6.out BK162.out (by decide))))).trans (hHeld.2.2.2.2.2.2.2.2.2.2.2.2.2.2.1)), ((far13 (by first | exact Kd.qQ6 (Kd.R_ne HO_6.out BK162.out (by decide)) | (rw [add_block]; exact Kd.qQ6 (Kd.R_ne HO_6.out BK162.out (by decide))) | (show (Addr.add _ _).block ≠ _; rw [add_block]; exact Kd.qQ6 (Kd.R_ne HO_6.out BK162.out (by decide))) | (dsimp only; exact Kd.qQ6 (Kd.R_ne HO_6.out BK162.out (by decide))))).trans (hHeld.2.2.2.2.2.2.2.2.2.2.2.2.2.2.2.1)), ((far13 (by first | exact Kd.qQ6 (Kd.R_ne HO_6.out BK162.out (by decide)) | (rw [add_block]; exact Kd.qQ6 (Kd.R_ne HO_6.out BK162.out (by decide))) | (show (Addr.add _ _).block ≠ _; rw [add_block]; exact Kd.qQ6 (Kd.R_ne HO_6.out BK162.out (by decide))) | (dsimp only; exact Kd.qQ6 (Kd.R_ne HO_6.out BK162.out (by decide))))).trans (hHeld.2.2.2.2.2.2.2.2.2.2.2.2.2.2.2.2.1)), ((far13 (by first | exact Kd.qQ6 (Kd.R_ne HO_6.out BK162.out (by decide)) | (rw [add_block]; exact Kd.qQ6 (Kd.R_ne HO_6.out BK162.out (by decide))) | (show (Addr.add _ _).block ≠ _; rw [add_block]; exact Kd.qQ6 (Kd.R_ne HO_6.out BK162.out (by decide))) | (dsimp only; exact Kd.qQ6 (Kd.R_ne HO_6.out BK162.out (by decide))))).trans (hHeld.2.2.2.2.2.2.2.2.2.2.2.2.2.2.2.2.2.1)), ((far13 (by first | exact Kd.qQ6 (Kd.R_ne HO_6.out BK162.out (by decide)) | (rw [add_block]; exact Kd.qQ6 (Kd.R_ne HO_6.out BK162.out (by decide))) | (show (Addr.add _ _).block ≠ _; rw [add_block]; exact Kd.qQ6 (Kd.R_ne HO_6.out BK162.out (by decide))) | (dsimp only; exact Kd.qQ6 (Kd.R_ne HO_6.out BK162.out (by decide))))).trans (hHeld.2.2.2.2.2.2.2.2.2.2.2.2.2.2.2.2.2.2.1)), ((far13 (by first | exact Kd.qQ6 (Kd.R_ne HO_6.out BK162.out (by decide)) | (rw [add_block]; exact Kd.qQ6 (Kd.R_ne HO_6.out BK162.out (by decide))) | (show (Addr.add _ _).block ≠ _; rw [add_block]; exact Kd.qQ6 (Kd.R_ne HO_6.out BK162.out (by decide))) | (dsimp only; exact Kd.qQ6 (Kd.R_ne HO_6.out BK162.out (by decide))))).trans (hHeld.2.2.2.2.2.2.2.2.2.2.2.2.2.2.2.2.2.2.2.1)), ((far13 (by first | exact Kd.qQ6 (Kd.R_ne HO_6.out BK162.out (by decide)) | (rw [add_block]; exact Kd.qQ6 (Kd.R_ne HO_6.out BK162.out (by decide))) | (show (Addr.add _ _).block ≠ _; rw [add_block]; exact Kd.qQ6 (Kd.R_ne HO_6.out BK162.out (by decide))) | (dsimp only; exact Kd.qQ6 (Kd.R_ne HO_6.out BK162.out (by decide))))).trans (hHeld.2.2.2.2.2.2.2.2.2.2.2.2.2.2.2.2.2.2.2.2.1)), ((far13 (by first | exact Kd.qQ6 (Kd.R_ne HO_6.out BK162.out (by decide)) | (rw [add_block]; exact Kd.qQ6 (Kd.R_ne HO_6.out BK162.out (by decide))) | (show (Addr.add _ _).block ≠ _; rw [add_block]; exact Kd.qQ6 (Kd.R_ne HO_6.out BK162.out (by decide))) | (dsimp only; exact Kd.qQ6 (Kd.R_ne HO_6.out BK162.out (by decide))))).trans (hHeld.2.2.2.2.2.2.2.2.2.2.2.2.2.2.2.2.2.2.2.2.2))⟩ (fun hHeld => ?_)
       clear hK K
       refine qQe.y 19 22 20 1048575 HT_.out ?_
       refine done_ (qYw HT_.out (by kernel_rfl)) ?_
       clear hHeld
       generalize hW_ : (((((((((((((w81).setCell ⟨gb162, 0, none⟩ (.int .i64 t148)).setCell ⟨gb162, 1, none⟩ (.int .i64 t149)).setCell ⟨gb162, 2, none⟩ (.int .i64 t150)).setCell ⟨gb162, 3, none⟩ (.int .i64 t151)).setCell ⟨gb162, 4, none⟩ (.int .i64 t152)).setCell ⟨gb162, 5, none⟩ (.int .i64 t153)).setCell ⟨gb162, 6, none⟩ (.bool t154)).setCell ⟨gb162, 7, none⟩ (.int .i64 t155)).setCell ⟨gb162, 8, none⟩ (.int .i64 t156)).setCell ⟨gb162, 9, none⟩ (.int .i64 t157)).setCell ⟨gb162, 10, none⟩ (.int .i64 t158)).setCell ⟨gb162, 11, none⟩ (.int .i64 t159)).setCell ⟨gb162, 12, none⟩ (.int .i64 t160) = w811
       have n0_ : Aside0 (Kd.R kP3 61 w811 w.heap.size (fun _ => True) (.slice (some ⟨gp, 0, none⟩) 16 16) x6_5) := ⟨Kd.qQv (qXv hW_ (Kd.qZc HO_6.out BK162.out (by decide)) (fun _ hk => hk.2)) (fun _ _ => trivial)⟩
       have n1_ : Aside0 (Kd.R k43 43 w811 w.heap.size (fun k_ => k_ ≠ gb144 ∧ k_ ≠ gb162) u18 x18_6) := ⟨qXv hW_ HO_18.out (fun _ hk => hk.2)⟩
       have n2_ := am (qYm hW_ BK116.out NB116_162.out)
       have n3_ := am (qYm hW_ BK123.out NB123_162.out)
       have n4_ := am (qYm hW_ BK144.out NB144_162.out)
       have n5_ := am (qX1 hW_ BK162.out)
       have n6_ := am (qXb hW_ HB.out GE162.out)
       clear HO_6 HO_18 BK116 BK123 BK144 BK162 HB hW_
       have HO_6 := n0_
       have HO_18 := n1_
       have BK116 := n2_
       have BK123 := n3_
       have BK144 := n4_
       have BK162 := n5_
       have HB := n6_
       clear n0_ n1_ n2_ n3_ n4_ n5_ n6_
       go_wp2_with (first | ((with_reducible refine qWj (t := 43) (p := .tmp 20) (v := .tmp 184) rfl ?_); (refine qWb (a' := ?_) ?ha_ ?_; (case ha_ => first | (show Act.put _ _ _ = _; simp only [Act.put, List.setIfInBounds_toArray, List.set_cons_zero, List.set_cons_succ]; rfl) | rfl)); refine qWv (g := gb144) (a0 := t148) (a1 := t149) (a2 := t150) (a3 := t151) (a4 := t152) (a5 := t153) (a6 := t154) (a7 := t155) (a8 := t156) (a9 := t157) (a10 := t158) (a11 := t159) (a12 := t160) (p := .tmp 20) (v := .tmp 184) rfl rfl rfl rfl rfl BK144.out rfl ?_; intro w8111 hW_; have n0_ : Aside0 (Kd.R kP3 61 w8111 w.heap.size (fun _ => True) (.slice (some ⟨gp, 0, none⟩) 16 16) x6_5) := ⟨Kd.qQv (qXv hW_ (Kd.qZc HO_6.out BK144.out (by decide)) (fun _ hk => hk.2)) (fun _ _ => trivial)⟩; have n1_ : Aside0 (Kd.R k43 43 w8111 w.heap.size (fun k_ => k_ ≠ gb144 ∧ k_ ≠ gb162) u18 x18_6) := ⟨qXv hW_ HO_18.out (fun _ hk => hk.1)⟩; have n2_ := am (qYm hW_ BK116.out NB116_144.out); have n3_ := am (qYm hW_ BK123.out NB123_144.out); have n4_ := am (qYm hW_ BK162.out NB162_144.out); have n5_ := am (qX1 hW_ BK144.out); have n6_ := am (qXb hW_ HB.out GE144.out); clear HO_6 HO_18 BK116 BK123 BK162 BK144 HB hW_; have HO_6 := n0_; have HO_18 := n1_; have BK116 := n2_; have BK123 := n3_; have BK162 := n4_; have BK144 := n5_; have HB := n6_; clear n0_ n1_ n2_ n3_ n4_ n5_ n6_) | ((with_reducible refine qWq (t := 43) (p := .tmp 21) rfl ?_); refine qY8 (a' := ?_) rfl (ld43 (w := w811) (g := gb162) (p := .tmp 21) rfl rfl BK162.out rfl) ?ha_ ?_; (case ha_ => first | (show Act.put _ _ _ = _; simp only [Act.put, List.setIfInBounds_toArray, List.set_cons_zero, List.set_cons_succ]; rfl) | rfl)) | ((with_reducible refine qWq (t := 43) (p := .tmp 20) rfl ?_); refine qY8 (a' := ?_) rfl (ld43 (w := w8111) (g := gb144) (p := .tmp 20) rfl rfl BK144.out rfl) ?ha_ ?_; (case ha_ => first | (show Act.put _ _ _ = _; simp only [Act.put, List.setIfInBounds_toArray, List.set_cons_zero, List.set_cons_succ]; rfl) | rfl)) | ((with_reducible refine gt_bs (t := 22) (n := 1) rfl ?_); refine qY8 (a' := ?_) (W' := w8111.alloc (.cells #[.int .i64 t148, .int .i64 t149, .int .i64 t150, .int .i64 t151, .int .i64 t152, .int .i64 t153, .bool t154, .int .i64 t155, .int .i64 t156, .int .i64 t157, .int .i64 t158, .int .i64 t159, .int .i64 t160] 43 (0, 0))) rfl (bs22 (w := w8111) (a0 := t148) (a1 := t149) (a2 := t150) (a3 := t151) (a4 := t152) (a5 := t153) (a6 := t154) (a7 := t155) (a8 := t156) (a9 := t157) (a10 := t158) (a11 := t159) (a12 := t160) (p := .tmp 186) rfl rfl) ?ha_ ?_; (case ha_ => first | (show Act.put _ _ _ = _; simp only [Act.put, List.setIfInBounds_toArray, List.set_cons_zero, List.set_cons_succ]; rfl) | rfl)) | ((with_reducible refine qYj (b := .append) (xs := #[.tmp 185, .tmp 187]) rfl ?_); at_builtin; refine Kd.qXr k43 (w0 := w) w.heap.size rfl (.tmp 185) (.tmp 187) 22 43 (.agg #[(.int .i64 0), (.int .i64 0), (.int .i64 0), (.int .i64 0), (.int .i64 0), (.int .i64 0), (.bool false), (.int .i64 0), (.int .i64 0), (.int .i64 0), (.int .i64 0), (.int .i64 0), (.int .i64 0)]) 104 rfl Try.underlying22 info43 rfl (by decide) (by omega) u18 x18_6 (⟨t148, t149, t150, t151, t152, t153, t154, t155, t156, t157, t158, t159, t160⟩ : S43) [.int .i64 t148, .int .i64 t149, .int .i64 t150, .int .i64 t151, .int .i64 t152, .int .i64 t153, .bool t154, .int .i64 t155, .int .i64 t156, .int .i64 t157, .int .i64 t158, .int .i64 t159, .int .i64 t160] (fun k_ => k_ ≠ gb144 ∧ k_ ≠ gb162) (fun _ => False) rfl (by first | (go_simp; done) | (go_simp; rfl)) ?aP (fun _ hk => hk.elim) ?aF ?aO ?aB ?aS ?aL ?_; (case aP => exact qWp _ _ _ (⟨t148, t149, t150, t151, t152, t153, t154, t155, t156, t157, t158, t159, t160⟩ : S43)); (case aB => exact (by exact hq HB.out GE116.out)); (case aF => exact (fun k_ hk => ⟨Kd.freshB (g := gb144) (o := .cells #[.int .i64 t148, .int .i64 t149, .int .i64 t150, .int .i64 t151, .int .i64 t152, .int .i64 t153, .bool t154, .int .i64 t155, .int .i64 t156, .int .i64 t157, .int .i64 t158, .int .i64 t159, .int .i64 t160] 43 (0, 0)) (by exact bq BK144.out) k_ hk, Kd.freshB (g := gb162) (o := .cells #[.int .i64 t148, .int .i64 t149, .int .i64 t150, .int .i64 t151, .int .i64 t152, .int .i64 t153, .bool t154, .int .i64 t155, .int .i64 t156, .int .i64 t157, .int .i64 t158, .int .i64 t159, .int .i64 t160] 43 (0, 0)) (by exact bq BK162.out) k_ hk⟩)); (case aO => exact (by exact Rq HO_18.out)); (case aS => exact (qQh (by exact hq HB.out GE116.out))); (case aL => have := LMc71.out; omega); intro v164 w100 ho hb hg hat; rw [← Ny163.out] at ho; have n0_ := am (Kd.qYz (by exact Rq HO_6.out) (Kd.qYy (by exact Rq HO_18.out)) (by decide) hg); have n1_ := am (qYc (g := gb116) (o := .cells #[.slice none 0 0, .int .i64 x117001_6, .int .i64 x117002_6, .int .i64 x117003_6, .int .i64 x117004_6] 31 (0, 0)) (by exact bq BK116.out) hg (Kd.R_ne HO_18.out BK116.out (by decide))); have n2_ := am (qYc (g := gb123) (o := .cells #[.int .i64 x124000_3, .int .i64 x124001_4, .int .i64 x124002_5, .int .i64 x9_5] 26 (0, 0)) (by exact bq BK123.out) hg (Kd.R_ne HO_18.out BK123.out (by decide))); have n3_ := am (qYc (g := gb144) (o := .cells #[.int .i64 t148, .int .i64 t149, .int .i64 t150, .int .i64 t151, .int .i64 t152, .int .i64 t153, .bool t154, .int .i64 t155, .int .i64 t156, .int .i64 t157, .int .i64 t158, .int .i64 t159, .int .i64 t160] 43 (0, 0)) (by exact bq BK144.out) hg (Kd.qJ8 HO_18.out (fun _ hk => hk.1))); have n4_ := am (qYc (g := gb162) (o := .cells #[.int .i64 t148, .int .i64 t149, .int .i64 t150, .int .i64 t151, .int .i64 t152, .int .i64 t153, .bool t154, .int .i64 t155, .int .i64 t156, .int .i64 t157, .int .i64 t158, .int .i64 t159, .int .i64 t160] 43 (0, 0)) (by exact bq BK162.out) hg (Kd.qJ8 HO_18.out (fun _ hk => hk.2))); have n5_ := am (hb); have n6_ := am (ho); clear HO_6 BK116 BK123 BK144 BK162 HB HO_18; have HO_6 := n0_; have BK116 := n1_; have BK123 := n2_; have BK144 := n3_; have BK162 := n4_; have HB := n5_; have HO165 := n6_; clear n0_ n1_ n2_ n3_ n4_ n5_ n6_; clear ho hb hg hat))
       go_roundg k6
       case measure => have := HJ2.out; have := HK2.out; have := HK3.out; have := HK4.out; have := HK5.out; have := HK6.out; omega
       case rel => exact ⟨(y163), (wrap64 (x19_6 + 1)), (x117001_6), (x117002_6), (x117003_6), (x117004_6), (by first | rfl | (simp; done) | (simp [*]; done)), H', ⟨by have := HJ2.out; have := HK2.out; have := HK3.out; have := HK4.out; have := HK5.out; have := HK6.out; omega⟩, ⟨by exact rq HO_6.out⟩, ⟨by (with_reducible repeat (first | apply Kd.qQs | apply Kd.qQq | apply Kd.qQt)); exact Kd.qQv HO165.out (fun _ hk => trivial)⟩, ⟨by exact bb BK116.out⟩, ⟨by exact bb BK123.out⟩, ⟨by exact h4q HB.out GE116.out GE123.out GE144.out GE162.out⟩⟩
end Go.Proofs.Yteemomncbcpdjaa.P
