/- Several texts as one (written by a program): what the walks and the plain laws come to, one behind the other. -/
import Derived.Test.YtlhcohipnieidaaGreatQa
import Derived.Test.YtlhcohipnieidaaGreatQc
import Derived.Test.YtlhcohipnieidaaGreatQd
import Derived.Test.YtlhcohipnieidaaGreatQb
namespace Go.Proofs.YtlhcohipnieidaaGreat.P
open Go.RowKit W.PrintWords W.PrintLast W.PrintMore
attribute [local go_sem] qXg qXd qXq qXr qY2 qY1 qXe qXf
set_option linter.unusedVariables false
set_option linter.unusedSimpArgs false
mutual
def qQz.j0 : Nat → Int → List Int → List Int → Bool → Int → List Int → Int → List (S48) → Int → Int → Int → Int → List (S54) → Int → Int → Int → Int → Int → Int → Option (List Int × List Int × Int)
 | 0, _, _, _, _, _, _, _, _, _, _, _, _, _, _, _, _, _, _, _ => none
 | k + 1, x2, x6, x7, x31, x238000, x238001, x239000, x239001, x239002, x239003, x239004, x239005, x239006, x239007, x239008, x239009, x239010, x239011, x239012 => if x31 = true then (some (([] : List Int), ([] : List Int), 1)) else (qQz.l0 k x2 x6 x7 ([] : List (S48)) x239001 (x239001.length : Int) 0 x238000 x238001 x239000 x239001 x239002 x239003 x239004 x239005 x239006 x239007 x239008 x239009 x239010 x239011 x239012)
def qQz.l0 : Nat → Int → List Int → List Int → List (S48) → List (S48) → Int → Int → Int → List Int → Int → List (S48) → Int → Int → Int → Int → List (S54) → Int → Int → Int → Int → Int → Int → Option (List Int × List Int × Int)
 | 0, _, _, _, _, _, _, _, _, _, _, _, _, _, _, _, _, _, _, _, _, _, _ => none
 | k + 1, x2, x6, x7, x9, x33, x34, x35, x238000, x238001, x239000, x239001, x239002, x239003, x239004, x239005, x239006, x239007, x239008, x239009, x239010, x239011, x239012 => if x35 < x34 then (if 0 ≤ x35 then (if x35 < (x33.length : Int) then ((qYf.f ((qQa x33 x35).f0) ((qQa x33 x35).f1) ((qQa x33 x35).f2) ((qQa x33 x35).f3) ((qQa x33 x35).f4) ((qQa x33 x35).f5) ((qQa x33 x35).f6) ((qQa x33 x35).f7) ((qQa x33 x35).f8) ((qQa x33 x35).f9) ((qQa x33 x35).f10) ((qQa x33 x35).f11) ((qQa x33 x35).f12)).bind fun t244 => (if t244 = true then (if x9.length < 1353245080339 then (if x6.length < 17592186044416 then (qQz.l0 k x2 (x6 ++ [(qQa x33 x35).f0]) x7 (x9 ++ [(⟨(qQa x33 x35).f0, (qQa x33 x35).f1, (qQa x33 x35).f2, (qQa x33 x35).f3, (qQa x33 x35).f4, (qQa x33 x35).f5, (qQa x33 x35).f6, (qQa x33 x35).f7, (qQa x33 x35).f8, (qQa x33 x35).f9, (qQa x33 x35).f10, (qQa x33 x35).f11, (qQa x33 x35).f12⟩ : S48)]) x33 x34 (wrap64 (x35 + 1)) x238000 x238001 x239000 x239001 x239002 x239003 x239004 x239005 x239006 x239007 x239008 x239009 x239010 x239011 x239012) else (none)) else (none)) else (qQz.l0 k x2 x6 x7 x9 x33 x34 (wrap64 (x35 + 1)) x238000 x238001 x239000 x239001 x239002 x239003 x239004 x239005 x239006 x239007 x239008 x239009 x239010 x239011 x239012))) else (none)) else (none)) else (if (x9.length : Int) = 0 then (some (([] : List Int), ([] : List Int), 0)) else ((qX2.f k x239000 x239001 x239002 x239003 x239004 x239005 x239006 x239007 x239008 x239009 x239010 x239011 x239012 x2).bind fun t251 => (if 0 ≤ (x9.length : Int) then (if ((x9.length : Int) : Int).toNat ≤ 35184372088832 then (if t251 = 4 then ((qZu.f k x238000 x238001 x239000 x239001 x239002 x239003 x239004 x239005 x239006 x239007 x239008 x239009 x239010 x239011 x239012 x9).bind fun bt255 => (if bt255.2 = 0 then (qQz.j2 k x2 x6 x7 x9 t251 bt255.1) else (some (([] : List Int), ([] : List Int), bt255.2)))) else (qQz.j2 k x2 x6 x7 x9 t251 (List.replicate ((x9.length : Int) : Int).toNat 0))) else (none)) else (none))))
def qQz.j2 : Nat → Int → List Int → List Int → List (S48) → Int → List Int → Option (List Int × List Int × Int)
 | 0, _, _, _, _, _, _ => none
 | k + 1, x2, x6, x7, x9, x12, x13 => qQz.l1 k x2 x6 x7 x12 x13 x9 (x9.length : Int) 0
def qQz.l1 : Nat → Int → List Int → List Int → Int → List Int → List (S48) → Int → Int → Option (List Int × List Int × Int)
 | 0, _, _, _, _, _, _, _, _ => none
 | k + 1, x2, x6, x7, x12, x13, x72, x73, x74 => if x74 < x73 then (if 0 ≤ x74 then (if x74 < (x72.length : Int) then (if x74 < (x13.length : Int) then (if x12 = 4 then ((qYk.f k ((qQa x72 x74).f0) ((qQa x72 x74).f1) ((qQa x72 x74).f2) ((qQa x72 x74).f3) ((qQa x72 x74).f4) ((qQa x72 x74).f5) ((qQa x72 x74).f6) ((qQa x72 x74).f7) ((qQa x72 x74).f8) ((qQa x72 x74).f9) ((qQa x72 x74).f10) ((qQa x72 x74).f11) ((qQa x72 x74).f12) (rd x13 x74)).bind fun bt262 => (if bt262.2 = 0 then (if x7.length < 17592186044416 then (qQz.l1 k x2 x6 (x7 ++ [bt262.1]) x12 x13 x72 x73 (wrap64 (x74 + 1))) else (none)) else (some (([] : List Int), ([] : List Int), bt262.2)))) else ((qZ8.f k ((qQa x72 x74).f0) ((qQa x72 x74).f1) ((qQa x72 x74).f2) ((qQa x72 x74).f3) ((qQa x72 x74).f4) ((qQa x72 x74).f5) ((qQa x72 x74).f6) ((qQa x72 x74).f7) ((qQa x72 x74).f8) ((qQa x72 x74).f9) ((qQa x72 x74).f10) ((qQa x72 x74).f11) ((qQa x72 x74).f12) x12 x2).bind fun bt267 => (if bt267.2 = 0 then (if x7.length < 17592186044416 then (qQz.l1 k x2 x6 (x7 ++ [bt267.1]) x12 x13 x72 x73 (wrap64 (x74 + 1))) else (none)) else (some (([] : List Int), ([] : List Int), bt267.2))))) else (none)) else (none)) else (none)) else (some (x6, x7, 0))
end
def qQz.f (k : Nat) (a0_0 : Int) (l0_1 : List Int) (a1_0 : Int) (l1_1 : List (S48)) (a1_2 : Int) (a1_3 : Int) (a1_4 : Int) (a1_5 : Int) (l1_6 : List (S54)) (a1_7 : Int) (a1_8 : Int) (a1_9 : Int) (a1_10 : Int) (a1_11 : Int) (a1_12 : Int) (a2 : Int) : Option (List Int × List Int × Int) := (qZj.f k l0_1).bind fun t239 => (if t239 = true then ((qZm.f a2).bind fun t240 => (if t240 = true then ((qYg.f k l1_1).bind fun t241 => (qQz.j0 k a2 ([] : List Int) ([] : List Int) t241 a0_0 l0_1 a1_0 l1_1 a1_2 a1_3 a1_4 a1_5 l1_6 a1_7 a1_8 a1_9 a1_10 a1_11 a1_12)) else (qQz.j0 k a2 ([] : List Int) ([] : List Int) true a0_0 l0_1 a1_0 l1_1 a1_2 a1_3 a1_4 a1_5 l1_6 a1_7 a1_8 a1_9 a1_10 a1_11 a1_12))) else (qQz.j0 k a2 ([] : List Int) ([] : List Int) true a0_0 l0_1 a1_0 l1_1 a1_2 a1_3 a1_4 a1_5 l1_6 a1_7 a1_8 a1_9 a1_10 a1_11 a1_12))
set_option maxHeartbeats 8000000 in
set_option maxRecDepth 100000 in
theorem qQz.calls (k : Nat) (a0_0 : Int) (A0_1 : Option Addr) (c0_1 : Nat) (l0_1 : List Int) (a1_0 : Int) (A1_1 : Option Addr) (c1_1 : Nat) (l1_1 : List (S48)) (a1_2 : Int) (a1_3 : Int) (a1_4 : Int) (a1_5 : Int) (A1_6 : Option Addr) (c1_6 : Nat) (l1_6 : List (S54)) (a1_7 : Int) (a1_8 : Int) (a1_9 : Int) (a1_10 : Int) (a1_11 : Int) (a1_12 : Int) (a2 : Int) (r1 : List Int) (r2 : List Int) (r3 : Int) (w : World) (hr0_1 : Kd.C (Kd.int .i64) w A0_1 l0_1.length l0_1) (hc0_1 : l0_1.length ≤ c0_1) (hr1_1 : Kd.C k48 w A1_1 l1_1.length l1_1) (hc1_1 : l1_1.length ≤ c1_1) (hr1_6 : Kd.C k54 w A1_6 l1_6.length l1_6) (hc1_6 : l1_6.length ≤ c1_6) (h : qQz.f k a0_0 l0_1 a1_0 l1_1 a1_2 a1_3 a1_4 a1_5 l1_6 a1_7 a1_8 a1_9 a1_10 a1_11 a1_12 a2 = some (r1, r2, r3)) :
  Calls Tryz.prog 8 #[.agg #[.int .i64 a0_0, .slice A0_1 l0_1.length c0_1], .agg #[.int .i64 a1_0, .slice A1_1 l1_1.length c1_1, .int .i64 a1_2, .int .i64 a1_3, .int .i64 a1_4, .int .i64 a1_5, .slice A1_6 l1_6.length c1_6, .int .i64 a1_7, .int .i64 a1_8, .int .i64 a1_9, .int .i64 a1_10, .int .i64 a1_11, .int .i64 a1_12], .int .i64 a2] w fun e w' => ∃ v0_ v1_ : Value, e = .returned (.tuple #[v0_, v1_, .int .i64 r3]) ∧ Kd.R (Kd.int .i64) 3 w' w.heap.size (fun _ => True) v0_ r1 ∧ Kd.R (Kd.int .i64) 2 w' w.heap.size (fun _ => True) v1_ r2 ∧ Below w.heap.size w w' := by
 have hu37 := Tryz.underlying37
 have hu28 := Tryz.underlying28
 have hu48 := Tryz.underlying48
 have HR0_1 := am hr0_1
 have HC0_1 := am hc0_1
 clear hr0_1 hc0_1
 have HR1_1 := am hr1_1
 have HC1_1 := am hc1_1
 clear hr1_1 hc1_1
 have HR1_6 := am hr1_6
 have HC1_6 := am hc1_6
 clear hr1_6 hc1_6
 have HB := am (Below.refl w.heap.size w)
 have H : ((qZj.f k l0_1).bind fun t239 => (if t239 = true then ((qZm.f a2).bind fun t240 => (if t240 = true then ((qYg.f k l1_1).bind fun t241 => (qQz.j0 k a2 ([] : List Int) ([] : List Int) t241 a0_0 l0_1 a1_0 l1_1 a1_2 a1_3 a1_4 a1_5 l1_6 a1_7 a1_8 a1_9 a1_10 a1_11 a1_12)) else (qQz.j0 k a2 ([] : List Int) ([] : List Int) true a0_0 l0_1 a1_0 l1_1 a1_2 a1_3 a1_4 a1_5 l1_6 a1_7 a1_8 a1_9 a1_10 a1_11 a1_12))) else (qQz.j0 k a2 ([] : List Int) ([] : List Int) true a0_0 l0_1 a1_0 l1_1 a1_2 a1_3 a1_4 a1_5 l1_6 a1_7 a1_8 a1_9 a1_10 a1_11 a1_12))) = some (r1, r2, r3) := h
 clear h
 have HC4 := am H
 clear H
 go_enter Tryz.func8, Tryz.ntmps8
 go_upto_region 1 with (first | ((with_reducible refine qQ0 (N := 3) rfl ?_); refine qQs ?hg (N := 3) ?hd (cs := #[.int .i64 a0_0, .slice A0_1 l0_1.length c0_1]) (t := 37) ?hr ?_; (case hd => rfl); (case hg => rfl); (case hr => first | (go_simp; done) | (go_simp; rfl)); intro gb237 hg w5 hbox hb; have n0_ := am (qQb (by exact h0q HB.out) hb); have n1_ := am (hbox); have n2_ := am ((by rw [hg]; exact (qQd (by exact h0q HB.out)) : w.heap.size ≤ gb237)); have n3_ := am ((by rw [hg]; exact (qQd (by exact h0q HB.out)) : w.heap.size ≤ gb237)); clear HB; have HB := n0_; have BK237 := n1_; have GW237 := n2_; have GE237 := n3_; clear n0_ n1_ n2_ n3_; clear hb hbox hg) | ((with_reducible refine qQ0 (N := 4) rfl ?_); refine qQs ?hg (N := 4) ?hd (cs := #[.int .i64 a1_0, .slice A1_1 l1_1.length c1_1, .int .i64 a1_2, .int .i64 a1_3, .int .i64 a1_4, .int .i64 a1_5, .slice A1_6 l1_6.length c1_6, .int .i64 a1_7, .int .i64 a1_8, .int .i64 a1_9, .int .i64 a1_10, .int .i64 a1_11, .int .i64 a1_12]) (t := 28) ?hr ?_; (case hd => rfl); (case hg => rfl); (case hr => first | (go_simp; done) | (go_simp; rfl)); intro gb238 hg w6 hbox hb; have n0_ := am (qQg (g := gb237) (Up.up BK237.out) hb); have n1_ := am (qQb (by exact h1q HB.out GE237.out) hb); have n2_ := am (hbox); have n3_ := am ((by rw [hg]; exact (qQd (by exact h1q HB.out GE237.out)) : w.heap.size ≤ gb238)); have n4_ := am ((by rw [hg]; exact (qQd (by exact h1q HB.out GE237.out)) : w.heap.size ≤ gb238)); have n5_ := am ((by rw [hg]; exact Nat.ne_of_lt (qZr (g := gb237) (Up.up BK237.out)) : gb237 ≠ gb238)); have n6_ := am ((by rw [hg]; exact Nat.ne_of_gt (qZr (g := gb237) (Up.up BK237.out)) : gb238 ≠ gb237)); clear BK237; clear HB; have BK237 := n0_; have HB := n1_; have BK238 := n2_; have GW238 := n3_; have GE238 := n4_; have NB237_238 := n5_; have NB238_237 := n6_; clear n0_ n1_ n2_ n3_ n4_ n5_ n6_; clear hb hbox hg))
 (try simp only [Act.put, List.setIfInBounds_toArray, List.set_cons_zero, List.set_cons_succ])
 go_cut [31] (fun v31 wc => ∃ (kq : Nat) (x31_3 : Bool), v31 = .bool x31_3 ∧ Aside0 (qQz.j0 kq a2 ([] : List Int) ([] : List Int) x31_3 a0_0 l0_1 a1_0 l1_1 a1_2 a1_3 a1_4 a1_5 l1_6 a1_7 a1_8 a1_9 a1_10 a1_11 a1_12 = some (r1, r2, r3)) ∧ Aside0 (kq ≤ k) ∧ Aside0 (Kd.R (Kd.int .i64) 3 wc w.heap.size (fun _ => True) (.slice none 0 0) ([] : List Int)) ∧ Aside0 (Kd.R (Kd.int .i64) 2 wc w.heap.size (fun _ => True) (.slice none 0 0) ([] : List Int)) ∧ Aside0 (wc.heap[gb237]? = some (.cells #[.int .i64 a0_0, (.slice A0_1 l0_1.length c0_1)] 37 (0, 0))) ∧ Aside0 (wc.heap[gb238]? = some (.cells #[.int .i64 a1_0, (.slice A1_1 l1_1.length c1_1), .int .i64 a1_2, .int .i64 a1_3, .int .i64 a1_4, .int .i64 a1_5, (.slice A1_6 l1_6.length c1_6), .int .i64 a1_7, .int .i64 a1_8, .int .i64 a1_9, .int .i64 a1_10, .int .i64 a1_11, .int .i64 a1_12] 28 (0, 0))) ∧ Aside0 (Below w.heap.size w wc))
 case first =>
  have H := HC4.out
  clear HC4
  replace H := Option.bind_eq_some_iff.mp H
  obtain ⟨t239, A70, H⟩ := H
  replace H : (if t239 = true then ((qZm.f a2).bind fun t240 => (if t240 = true then ((qYg.f k l1_1).bind fun t241 => (qQz.j0 k a2 ([] : List Int) ([] : List Int) t241 a0_0 l0_1 a1_0 l1_1 a1_2 a1_3 a1_4 a1_5 l1_6 a1_7 a1_8 a1_9 a1_10 a1_11 a1_12)) else (qQz.j0 k a2 ([] : List Int) ([] : List Int) true a0_0 l0_1 a1_0 l1_1 a1_2 a1_3 a1_4 a1_5 l1_6 a1_7 a1_8 a1_9 a1_10 a1_11 a1_12))) else (qQz.j0 k a2 ([] : List Int) ([] : List Int) true a0_0 l0_1 a1_0 l1_1 a1_2 a1_3 a1_4 a1_5 l1_6 a1_7 a1_8 a1_9 a1_10 a1_11 a1_12)) = some (r1, r2, r3) := H
  have A7 := am A70
  clear A70
  by_cases c8 : t239 = true
  ·subst c8
   have H1 : ((qZm.f a2).bind fun t240 => (if t240 = true then ((qYg.f k l1_1).bind fun t241 => (qQz.j0 k a2 ([] : List Int) ([] : List Int) t241 a0_0 l0_1 a1_0 l1_1 a1_2 a1_3 a1_4 a1_5 l1_6 a1_7 a1_8 a1_9 a1_10 a1_11 a1_12)) else (qQz.j0 k a2 ([] : List Int) ([] : List Int) true a0_0 l0_1 a1_0 l1_1 a1_2 a1_3 a1_4 a1_5 l1_6 a1_7 a1_8 a1_9 a1_10 a1_11 a1_12))) = some (r1, r2, r3) := by rw [if_pos rfl] at H; exact H
   clear H
   have H := H1
   clear H1
   replace H := Option.bind_eq_some_iff.mp H
   obtain ⟨t240, A90, H⟩ := H
   replace H : (if t240 = true then ((qYg.f k l1_1).bind fun t241 => (qQz.j0 k a2 ([] : List Int) ([] : List Int) t241 a0_0 l0_1 a1_0 l1_1 a1_2 a1_3 a1_4 a1_5 l1_6 a1_7 a1_8 a1_9 a1_10 a1_11 a1_12)) else (qQz.j0 k a2 ([] : List Int) ([] : List Int) true a0_0 l0_1 a1_0 l1_1 a1_2 a1_3 a1_4 a1_5 l1_6 a1_7 a1_8 a1_9 a1_10 a1_11 a1_12)) = some (r1, r2, r3) := H
   have A9 := am A90
   clear A90
   by_cases c10 : t240 = true
   ·subst c10
    have H1 : ((qYg.f k l1_1).bind fun t241 => (qQz.j0 k a2 ([] : List Int) ([] : List Int) t241 a0_0 l0_1 a1_0 l1_1 a1_2 a1_3 a1_4 a1_5 l1_6 a1_7 a1_8 a1_9 a1_10 a1_11 a1_12)) = some (r1, r2, r3) := by rw [if_pos rfl] at H; exact H
    clear H
    have H := H1
    clear H1
    replace H := Option.bind_eq_some_iff.mp H
    obtain ⟨t241, A110, H⟩ := H
    replace H : (qQz.j0 k a2 ([] : List Int) ([] : List Int) t241 a0_0 l0_1 a1_0 l1_1 a1_2 a1_3 a1_4 a1_5 l1_6 a1_7 a1_8 a1_9 a1_10 a1_11 a1_12) = some (r1, r2, r3) := H
    have A11 := am A110
    clear A110
    have H' := am H
    clear H
    have hnb12 := NB237_238.out
    have hnc12 := NB238_237.out
    have hcz13_0 : w6.cell? ⟨gb237, 0, none⟩ = some (.int .i64 a0_0) := (qQc BK237.out 0).trans rfl
    have hcz13_1 : w6.cell? ⟨gb237, 1, none⟩ = some (.slice A0_1 l0_1.length c0_1) := (qQc BK237.out 1).trans rfl
    have hfz13_0 := qQi BK237.out 0
    have hfz13_1 := qQi BK237.out 1
    go_wp2_with (first | ((with_reducible refine qQh (f := 22) rfl ?_); refine goesL_ (some 20) rfl rfl Tryz.func22 (by kernel_rfl) rfl #[.slice A0_1 l0_1.length c0_1] rfl ml ?_; (with_reducible refine (qZj.calls k _ _ l0_1 true _ ?side1 ?side2 A7.out).mono ?_); (case side1 => exact cq ((Kd.qZq HR0_1.out HB.out))); (case side2 => exact HC0_1.out); rintro e w' ⟨rfl, ⟨nd, rfl⟩⟩; refine ⟨_, rfl, ?_⟩) | (go_at_call 23; (with_reducible refine (qZm.calls a2 true _ A9.out).mono ?_); rintro e w' ⟨rfl, ⟨nd, rfl⟩⟩; have hz14 := lc13 BK238.out) | (go_at_call 24; (with_reducible refine (qYg.calls k _ _ l1_1 t241 _ ?side1 ?side2 A11.out).mono ?_); (case side1 => repeat (first | exact (Kd.qZq HR1_1.out (by exact h2q HB.out GE237.out GE238.out)) | (with_reducible refine Kd.zY8 ?_ _) | (with_reducible refine Kd.zQw ?_ _) | (with_reducible refine Kd.zW3 ?_))); (case side2 => exact HC1_1.out); rintro e w15 ⟨rfl, hb⟩; have n0_ := am (qQg (g := gb237) (Up.up BK237.out) hb); have n1_ := am (qQg (g := gb238) (Up.up BK238.out) hb); have n2_ := am (qQb (by exact h2q HB.out GE237.out GE238.out) hb); clear BK237; clear BK238; clear HB; have BK237 := n0_; have BK238 := n1_; have HB := n2_; clear n0_ n1_ n2_; (try clear hb); (try clear hb2); (try clear hk); (try clear hi)))
    go_meet
    case rel => exact ⟨_, (t241), (by first | rfl | (simp; done) | (simp [*]; done)), H', ⟨by first | omega | exact Nat.le_refl _⟩, ⟨by first | exact Kd.R_nil _ _ _ _ _ | exact Kd.N_nil _ _ _ _ _ | exact Kd.V_nil _ _ _ _ _ | exact Kd.Q_nil _ _ _ _ _ | exact Kd.S_nil _ _ _ _ _⟩, ⟨by first | exact Kd.R_nil _ _ _ _ _ | exact Kd.N_nil _ _ _ _ _ | exact Kd.V_nil _ _ _ _ _ | exact Kd.Q_nil _ _ _ _ _ | exact Kd.S_nil _ _ _ _ _⟩, ⟨by exact bb BK237.out⟩, ⟨by exact bb BK238.out⟩, ⟨by exact h2q HB.out GE237.out GE238.out⟩⟩
   ·replace c10 := Bool.eq_false_iff.mpr c10
    subst c10
    have H1 : (qQz.j0 k a2 ([] : List Int) ([] : List Int) true a0_0 l0_1 a1_0 l1_1 a1_2 a1_3 a1_4 a1_5 l1_6 a1_7 a1_8 a1_9 a1_10 a1_11 a1_12) = some (r1, r2, r3) := by rw [if_neg (show ¬ (false = true) by decide)] at H; exact H
    clear H
    have H := H1
    clear H1
    have H' := am H
    clear H
    have hnb16 := NB237_238.out
    have hnc16 := NB238_237.out
    have hcz17_0 : w6.cell? ⟨gb237, 0, none⟩ = some (.int .i64 a0_0) := (qQc BK237.out 0).trans rfl
    have hcz17_1 : w6.cell? ⟨gb237, 1, none⟩ = some (.slice A0_1 l0_1.length c0_1) := (qQc BK237.out 1).trans rfl
    have hfz17_0 := qQi BK237.out 0
    have hfz17_1 := qQi BK237.out 1
    go_wp2_with (first | ((with_reducible refine qQh (f := 22) rfl ?_); refine goesL_ (some 20) rfl rfl Tryz.func22 (by kernel_rfl) rfl #[.slice A0_1 l0_1.length c0_1] rfl ml ?_; (with_reducible refine (qZj.calls k _ _ l0_1 true _ ?side1 ?side2 A7.out).mono ?_); (case side1 => exact cq ((Kd.qZq HR0_1.out HB.out))); (case side2 => exact HC0_1.out); rintro e w' ⟨rfl, ⟨nd, rfl⟩⟩; refine ⟨_, rfl, ?_⟩) | (go_at_call 23; (with_reducible refine (qZm.calls a2 false _ A9.out).mono ?_); rintro e w' ⟨rfl, ⟨nd, rfl⟩⟩))
    go_meet
    case rel => exact ⟨_, (true), (by first | rfl | (simp; done) | (simp [*]; done)), H', ⟨by first | omega | exact Nat.le_refl _⟩, ⟨by first | exact Kd.R_nil _ _ _ _ _ | exact Kd.N_nil _ _ _ _ _ | exact Kd.V_nil _ _ _ _ _ | exact Kd.Q_nil _ _ _ _ _ | exact Kd.S_nil _ _ _ _ _⟩, ⟨by first | exact Kd.R_nil _ _ _ _ _ | exact Kd.N_nil _ _ _ _ _ | exact Kd.V_nil _ _ _ _ _ | exact Kd.Q_nil _ _ _ _ _ | exact Kd.S_nil _ _ _ _ _⟩, ⟨by exact bb BK237.out⟩, ⟨by exact bb BK238.out⟩, ⟨by exact h2q HB.out GE237.out GE238.out⟩⟩
  ·replace c8 := Bool.eq_false_iff.mpr c8
   subst c8
   have H1 : (qQz.j0 k a2 ([] : List Int) ([] : List Int) true a0_0 l0_1 a1_0 l1_1 a1_2 a1_3 a1_4 a1_5 l1_6 a1_7 a1_8 a1_9 a1_10 a1_11 a1_12) = some (r1, r2, r3) := by rw [if_neg (show ¬ (false = true) by decide)] at H; exact H
   clear H
   have H := H1
   clear H1
   have H' := am H
   clear H
   have hnb18 := NB237_238.out
   have hnc18 := NB238_237.out
   have hcz19_0 : w6.cell? ⟨gb237, 0, none⟩ = some (.int .i64 a0_0) := (qQc BK237.out 0).trans rfl
   have hcz19_1 : w6.cell? ⟨gb237, 1, none⟩ = some (.slice A0_1 l0_1.length c0_1) := (qQc BK237.out 1).trans rfl
   have hfz19_0 := qQi BK237.out 0
   have hfz19_1 := qQi BK237.out 1
   go_wp2_with (first | ((with_reducible refine qQh (f := 22) rfl ?_); refine goesL_ (some 20) rfl rfl Tryz.func22 (by kernel_rfl) rfl #[.slice A0_1 l0_1.length c0_1] rfl ml ?_; (with_reducible refine (qZj.calls k _ _ l0_1 false _ ?side1 ?side2 A7.out).mono ?_); (case side1 => exact cq ((Kd.qZq HR0_1.out HB.out))); (case side2 => exact HC0_1.out); rintro e w' ⟨rfl, ⟨nd, rfl⟩⟩; refine ⟨_, rfl, ?_⟩))
   go_meet
   case rel => exact ⟨_, (true), (by first | rfl | (simp; done) | (simp [*]; done)), H', ⟨by first | omega | exact Nat.le_refl _⟩, ⟨by first | exact Kd.R_nil _ _ _ _ _ | exact Kd.N_nil _ _ _ _ _ | exact Kd.V_nil _ _ _ _ _ | exact Kd.Q_nil _ _ _ _ _ | exact Kd.S_nil _ _ _ _ _⟩, ⟨by first | exact Kd.R_nil _ _ _ _ _ | exact Kd.N_nil _ _ _ _ _ | exact Kd.V_nil _ _ _ _ _ | exact Kd.Q_nil _ _ _ _ _ | exact Kd.S_nil _ _ _ _ _⟩, ⟨by exact bb BK237.out⟩, ⟨by exact bb BK238.out⟩, ⟨by exact h2q HB.out GE237.out GE238.out⟩⟩
 case rest =>
  clear HC4
  try clear c8
  try clear c10
  try clear hcz13_0
  try clear hcz13_1
  try clear hz14
  try clear hcz17_0
  try clear hcz17_1
  try clear hcz19_0
  try clear hcz19_1
  try clear hfz13_0
  try clear hfz13_1
  try clear hfz17_0
  try clear hfz17_1
  try clear hfz19_0
  try clear hfz19_1
  obtain ⟨kq, x31_3, rfl, HA, HJ3, HO_6, HO_7, BK237, BK238, HB⟩ := hcut
  rcases kq with _ | kj3
  ·exact absurd HA.out (by simp [qQz.j0])
  have H := HA.out
  clear HA
  simp only [qQz.j0] at H
  by_cases c20 : x31_3 = true
  ·subst c20
   have H1 : (some (([] : List Int), ([] : List Int), 1)) = some (r1, r2, r3) := by rw [if_pos rfl] at H; exact H
   clear H
   have H := H1
   clear H1
   simp only [Option.some.injEq, Prod.mk.injEq] at H
   obtain ⟨rfl, rfl, rfl⟩ := H
   go_wp2
   go_ret3
   exact ⟨_, _, er, by first | exact Kd.R_nil _ _ _ _ _ | exact Kd.N_nil _ _ _ _ _ | exact Kd.V_nil _ _ _ _ _ | exact Kd.Q_nil _ _ _ _ _ | exact Kd.S_nil _ _ _ _ _, by first | exact Kd.R_nil _ _ _ _ _ | exact Kd.N_nil _ _ _ _ _ | exact Kd.V_nil _ _ _ _ _ | exact Kd.Q_nil _ _ _ _ _ | exact Kd.S_nil _ _ _ _ _, by exact h2q HB.out GE237.out GE238.out⟩
  ·replace c20 := Bool.eq_false_iff.mpr c20
   subst c20
   have H1 : (qQz.l0 kj3 a2 ([] : List Int) ([] : List Int) ([] : List (S48)) l1_1 (l1_1.length : Int) 0 a0_0 l0_1 a1_0 l1_1 a1_2 a1_3 a1_4 a1_5 l1_6 a1_7 a1_8 a1_9 a1_10 a1_11 a1_12) = some (r1, r2, r3) := by rw [if_neg (show ¬ (false = true) by decide)] at H; exact H
   clear H
   have H := H1
   clear H1
   have H' := am H
   clear H
   have hnb21 := NB238_237.out
   have hnc21 := NB237_238.out
   have hz22 := lc13 BK238.out
   go_wp2
   go_loopg [6, 9, 35] kj3 (fun kq v6 v9 v35 w' => ∃ (x6_2 : List Int) (x9_2 : List (S48)) (x35_2 : Int), v35 = .int .i64 x35_2 ∧ Aside0 (qQz.l0 kq a2 x6_2 ([] : List Int) x9_2 l1_1 (l1_1.length : Int) x35_2 a0_0 l0_1 a1_0 l1_1 a1_2 a1_3 a1_4 a1_5 l1_6 a1_7 a1_8 a1_9 a1_10 a1_11 a1_12 = some (r1, r2, r3)) ∧ Aside0 (kq ≤ kj3) ∧ Aside0 (Kd.R (Kd.int .i64) 3 w' w.heap.size (fun _ => True) v6 x6_2) ∧ Aside0 (Kd.R (Kd.int .i64) 2 w' w.heap.size (fun _ => True) (.slice none 0 0) ([] : List Int)) ∧ Aside0 (Kd.R k48 48 w' w.heap.size (fun _ => True) v9 x9_2) ∧ Aside0 (w'.heap[gb237]? = some (.cells #[.int .i64 a0_0, (.slice A0_1 l0_1.length c0_1)] 37 (0, 0))) ∧ Aside0 (w'.heap[gb238]? = some (.cells #[.int .i64 a1_0, (.slice A1_1 l1_1.length c1_1), .int .i64 a1_2, .int .i64 a1_3, .int .i64 a1_4, .int .i64 a1_5, (.slice A1_6 l1_6.length c1_6), .int .i64 a1_7, .int .i64 a1_8, .int .i64 a1_9, .int .i64 a1_10, .int .i64 a1_11, .int .i64 a1_12] 28 (0, 0))) ∧ Aside0 (Below w.heap.size w w'))
   case atStart => exact ⟨(([] : List Int)), (([] : List (S48))), (0), (by first | rfl | (simp; done) | (simp [*]; done)), H', ⟨Nat.le_refl _⟩, ⟨by exact rq HO_6.out⟩, ⟨by exact rq HO_7.out⟩, ⟨by first | exact Kd.R_nil _ _ _ _ _ | exact Kd.N_nil _ _ _ _ _ | exact Kd.V_nil _ _ _ _ _ | exact Kd.Q_nil _ _ _ _ _ | exact Kd.S_nil _ _ _ _ _⟩, ⟨by exact bb BK237.out⟩, ⟨by exact bb BK238.out⟩, ⟨by exact h2q HB.out GE237.out GE238.out⟩⟩
   case round =>
    clear H'
    try clear c8
    try clear c10
    try clear c20
    try clear hcz13_0
    try clear hcz13_1
    try clear hz14
    try clear hcz17_0
    try clear hcz17_1
    try clear hcz19_0
    try clear hcz19_1
    try clear hz22
    try clear hfz13_0
    try clear hfz13_1
    try clear hfz17_0
    try clear hfz17_1
    try clear hfz19_0
    try clear hfz19_1
    obtain ⟨x6_2, x9_2, x35_2, rfl, HA, HK2, HO_6, HO_7, HO_9, BK237, BK238, HB⟩ := hrel
    rcases gk with _ | k2
    ·exact absurd HA.out (by simp [qQz.l0])
    have H := HA.out
    clear HA
    simp only [qQz.l0] at H
    by_cases c23 : x35_2 < (l1_1.length : Int)
    ·rw [if_pos c23] at H
     have c23b0 : decide (x35_2 < (l1_1.length : Int)) = true := decide_eq_true c23
     clear c23
     by_cases c24 : 0 ≤ x35_2
     ·rw [if_pos c24] at H
      have c24b0 : decide (0 ≤ x35_2) = true := decide_eq_true c24
      clear c24
      by_cases c25 : x35_2 < (l1_1.length : Int)
      ·rw [if_pos c25] at H
       have c25b0 : decide (x35_2 < (l1_1.length : Int)) = true := decide_eq_true c25
       clear c25
       replace H := Option.bind_eq_some_iff.mp H
       obtain ⟨t244, A260, H⟩ := H
       replace H : (if t244 = true then (if x9_2.length < 1353245080339 then (if x6_2.length < 17592186044416 then (qQz.l0 k2 a2 (x6_2 ++ [(qQa l1_1 x35_2).f0]) ([] : List Int) (x9_2 ++ [(⟨(qQa l1_1 x35_2).f0, (qQa l1_1 x35_2).f1, (qQa l1_1 x35_2).f2, (qQa l1_1 x35_2).f3, (qQa l1_1 x35_2).f4, (qQa l1_1 x35_2).f5, (qQa l1_1 x35_2).f6, (qQa l1_1 x35_2).f7, (qQa l1_1 x35_2).f8, (qQa l1_1 x35_2).f9, (qQa l1_1 x35_2).f10, (qQa l1_1 x35_2).f11, (qQa l1_1 x35_2).f12⟩ : S48)]) l1_1 (l1_1.length : Int) (wrap64 (x35_2 + 1)) a0_0 l0_1 a1_0 l1_1 a1_2 a1_3 a1_4 a1_5 l1_6 a1_7 a1_8 a1_9 a1_10 a1_11 a1_12) else (none)) else (none)) else (qQz.l0 k2 a2 x6_2 ([] : List Int) x9_2 l1_1 (l1_1.length : Int) (wrap64 (x35_2 + 1)) a0_0 l0_1 a1_0 l1_1 a1_2 a1_3 a1_4 a1_5 l1_6 a1_7 a1_8 a1_9 a1_10 a1_11 a1_12)) = some (r1, r2, r3) := H
       have A26 := am A260
       clear A260
       by_cases c27 : t244 = true
       ·subst c27
        have H1 : (if x9_2.length < 1353245080339 then (if x6_2.length < 17592186044416 then (qQz.l0 k2 a2 (x6_2 ++ [(qQa l1_1 x35_2).f0]) ([] : List Int) (x9_2 ++ [(⟨(qQa l1_1 x35_2).f0, (qQa l1_1 x35_2).f1, (qQa l1_1 x35_2).f2, (qQa l1_1 x35_2).f3, (qQa l1_1 x35_2).f4, (qQa l1_1 x35_2).f5, (qQa l1_1 x35_2).f6, (qQa l1_1 x35_2).f7, (qQa l1_1 x35_2).f8, (qQa l1_1 x35_2).f9, (qQa l1_1 x35_2).f10, (qQa l1_1 x35_2).f11, (qQa l1_1 x35_2).f12⟩ : S48)]) l1_1 (l1_1.length : Int) (wrap64 (x35_2 + 1)) a0_0 l0_1 a1_0 l1_1 a1_2 a1_3 a1_4 a1_5 l1_6 a1_7 a1_8 a1_9 a1_10 a1_11 a1_12) else (none)) else (none)) = some (r1, r2, r3) := by rw [if_pos rfl] at H; exact H
        clear H
        have H := H1
        clear H1
        by_cases c28 : x9_2.length < 1353245080339
        ·rw [if_pos c28] at H
         have LMc28 := am c28
         clear c28
         obtain ⟨y245, hy245⟩ : ∃ y_ : List (S48), y_ = (x9_2 ++ [(⟨(qQa l1_1 x35_2).f0, (qQa l1_1 x35_2).f1, (qQa l1_1 x35_2).f2, (qQa l1_1 x35_2).f3, (qQa l1_1 x35_2).f4, (qQa l1_1 x35_2).f5, (qQa l1_1 x35_2).f6, (qQa l1_1 x35_2).f7, (qQa l1_1 x35_2).f8, (qQa l1_1 x35_2).f9, (qQa l1_1 x35_2).f10, (qQa l1_1 x35_2).f11, (qQa l1_1 x35_2).f12⟩ : S48)]) := ⟨_, rfl⟩
         replace H : (if x6_2.length < 17592186044416 then (qQz.l0 k2 a2 (x6_2 ++ [(qQa l1_1 x35_2).f0]) ([] : List Int) y245 l1_1 (l1_1.length : Int) (wrap64 (x35_2 + 1)) a0_0 l0_1 a1_0 l1_1 a1_2 a1_3 a1_4 a1_5 l1_6 a1_7 a1_8 a1_9 a1_10 a1_11 a1_12) else (none)) = some (r1, r2, r3) := by first | (rw [hy245]; with_reducible exact H) | (have H2_ := (Option.bind_some _ _).symm.trans H; rw [hy245]; with_reducible exact H2_) | (have H2_ := (Option.bind_some _ _).symm.trans H; with_reducible exact H2_) | with_reducible exact H | (rw [hy245]; exact H) | exact H
         have Ny245 := am hy245
         clear hy245
         by_cases c29 : x6_2.length < 17592186044416
         ·rw [if_pos c29] at H
          have LMc29 := am c29
          clear c29
          obtain ⟨y248, hy248⟩ : ∃ y_ : List Int, y_ = (x6_2 ++ [(qQa l1_1 x35_2).f0]) := ⟨_, rfl⟩
          replace H : (qQz.l0 k2 a2 y248 ([] : List Int) y245 l1_1 (l1_1.length : Int) (wrap64 (x35_2 + 1)) a0_0 l0_1 a1_0 l1_1 a1_2 a1_3 a1_4 a1_5 l1_6 a1_7 a1_8 a1_9 a1_10 a1_11 a1_12) = some (r1, r2, r3) := by first | (rw [hy248]; with_reducible exact H) | (have H2_ := (Option.bind_some _ _).symm.trans H; rw [hy248]; with_reducible exact H2_) | (have H2_ := (Option.bind_some _ _).symm.trans H; with_reducible exact H2_) | with_reducible exact H | (rw [hy248]; exact H) | exact H
          have Ny248 := am hy248
          clear hy248
          have H' := am H
          clear H
          have p242 : 0 ≤ (x35_2 : Int) := yd
          have q242 : x35_2 < (l1_1.length : Int) := yd
          obtain ⟨ad242, e242, hx242_0, hx242_1, hx242_2, hx242_3, hx242_4, hx242_5, hx242_6, hx242_7, hx242_8, hx242_9, hx242_10, hx242_11, hx242_12⟩ := qY8 HR1_1.out x35_2 p242 q242
          cases e242
          replace hx242_0 := hxb HB.out hx242_0
          replace hx242_1 := hxb HB.out hx242_1
          replace hx242_2 := hxb HB.out hx242_2
          replace hx242_3 := hxb HB.out hx242_3
          replace hx242_4 := hxb HB.out hx242_4
          replace hx242_5 := hxb HB.out hx242_5
          replace hx242_6 := hxb HB.out hx242_6
          replace hx242_7 := hxb HB.out hx242_7
          replace hx242_8 := hxb HB.out hx242_8
          replace hx242_9 := hxb HB.out hx242_9
          replace hx242_10 := hxb HB.out hx242_10
          replace hx242_11 := hxb HB.out hx242_11
          replace hx242_12 := hxb HB.out hx242_12
          replace p242 := eq_true p242
          replace q242 := eq_true q242
          go_wp2_with (first | ((with_reducible refine qQ0 (N := 11) rfl ?_); refine qQs ?hg (N := 11) ?hd (cs := #[.int .i64 0, .int .i64 0, .int .i64 0, .int .i64 0, .int .i64 0, .int .i64 0, .bool false, .int .i64 0, .int .i64 0, .int .i64 0, .int .i64 0, .int .i64 0, .int .i64 0]) (t := 48) ?hr ?_; (case hd => rfl); (case hg => rfl); (case hr => first | (go_simp; done) | (go_simp; rfl)); intro gb243 hg w30 hbox hb; have n0_ := am (Kd.qQt (by exact rq HO_6.out) hb); have n1_ := am (Kd.qQt (by exact rq HO_7.out) hb); have n2_ := am (Kd.qQt (Kd.qWt (by exact rq HO_9.out) gb243 (Nat.le_of_eq hg.symm)) hb); have n3_ := am (qQg (g := gb237) (Up.up BK237.out) hb); have n4_ := am (qQg (g := gb238) (Up.up BK238.out) hb); have n5_ := am (qQb (by exact h2q HB.out GE237.out GE238.out) hb); have n6_ := am (hbox); have n7_ := am ((by rw [hg]; exact (qQd (by exact h2q HB.out GE237.out GE238.out)) : w.heap.size ≤ gb243)); have n8_ := am ((by rw [hg]; exact (qQd (by exact h2q HB.out GE237.out GE238.out)) : w.heap.size ≤ gb243)); have n9_ := am ((by rw [hg]; exact Nat.ne_of_lt (qZr (g := gb237) (Up.up BK237.out)) : gb237 ≠ gb243)); have n10_ := am ((by rw [hg]; exact Nat.ne_of_gt (qZr (g := gb237) (Up.up BK237.out)) : gb243 ≠ gb237)); have n11_ := am ((by rw [hg]; exact Nat.ne_of_lt (qZr (g := gb238) (Up.up BK238.out)) : gb238 ≠ gb243)); have n12_ := am ((by rw [hg]; exact Nat.ne_of_gt (qZr (g := gb238) (Up.up BK238.out)) : gb243 ≠ gb238)); clear HO_6; clear HO_7; clear HO_9; clear BK237; clear BK238; clear HB; have HO_6 := n0_; have HO_7 := n1_; have HO_9 := n2_; have BK237 := n3_; have BK238 := n4_; have HB := n5_; have BK243 := n6_; have GW243 := n7_; have GE243 := n8_; have NB237_243 := n9_; have NB243_237 := n10_; have NB238_243 := n11_; have NB243_238 := n12_; clear n0_ n1_ n2_ n3_ n4_ n5_ n6_ n7_ n8_ n9_ n10_ n11_ n12_; clear hb hbox hg; have hnb31 := NB243_237.out; have hnc31 := NB237_243.out; have hnb32 := NB243_238.out; have hnc32 := NB238_243.out; have hz33 := lc13 BK243.out) | ((with_reducible refine qQh (f := 27) rfl ?_); refine goesL_ (some 40) rfl rfl Tryz.func27 (by kernel_rfl) rfl #[.agg #[.int .i64 ((qQa l1_1 x35_2).f0), .int .i64 ((qQa l1_1 x35_2).f1), .int .i64 ((qQa l1_1 x35_2).f2), .int .i64 ((qQa l1_1 x35_2).f3), .int .i64 ((qQa l1_1 x35_2).f4), .int .i64 ((qQa l1_1 x35_2).f5), .bool ((qQa l1_1 x35_2).f6), .int .i64 ((qQa l1_1 x35_2).f7), .int .i64 ((qQa l1_1 x35_2).f8), .int .i64 ((qQa l1_1 x35_2).f9), .int .i64 ((qQa l1_1 x35_2).f10), .int .i64 ((qQa l1_1 x35_2).f11), .int .i64 ((qQa l1_1 x35_2).f12)]] rfl ml ?_; (with_reducible refine (qYf.calls ((qQa l1_1 x35_2).f0) ((qQa l1_1 x35_2).f1) ((qQa l1_1 x35_2).f2) ((qQa l1_1 x35_2).f3) ((qQa l1_1 x35_2).f4) ((qQa l1_1 x35_2).f5) ((qQa l1_1 x35_2).f6) ((qQa l1_1 x35_2).f7) ((qQa l1_1 x35_2).f8) ((qQa l1_1 x35_2).f9) ((qQa l1_1 x35_2).f10) ((qQa l1_1 x35_2).f11) ((qQa l1_1 x35_2).f12) true _ A26.out).mono ?_); rintro e w34 ⟨rfl, hb⟩; refine ⟨_, rfl, ?_⟩; have n0_ := am (Kd.qQt (by (with_reducible repeat (first | apply Kd.qZz | apply Kd.qZ0 | apply Kd.qYi)); exact (Kd.qZ2 (R_far13b (Kd.qY7 HO_6.out BK243.out (by decide)) (fun _ hk => hk.2)) (fun _ h_ => h_.1))) hb); have n1_ := am (Kd.qQt (by (with_reducible repeat (first | apply Kd.qZz | apply Kd.qZ0 | apply Kd.qYi)); exact (Kd.qZ2 (R_far13b (Kd.qY7 HO_7.out BK243.out (by decide)) (fun _ hk => hk.2)) (fun _ h_ => h_.1))) hb); have n2_ := am (Kd.qQt (by (with_reducible repeat (first | apply Kd.qZz | apply Kd.qZ0 | apply Kd.qYi)); exact (Kd.qZ2 (R_far13b (Kd.qZ2 HO_9.out (fun k_ hk => (⟨hk, hk.2⟩ : _ ∧ k_ ≠ gb243))) (fun _ hk => hk.2)) (fun _ h_ => h_.1))) hb); have n3_ := am (qQg (g := gb237) (o := .cells #[.int .i64 a0_0, .slice A0_1 l0_1.length c0_1] 37 (0, 0)) (by (iterate 13 ((with_reducible repeat (first | refine qQj ?_ _ | refine qQv ?_ | refine qQm ?_ _)); refine qYr ?_ NB237_243.out _)); (with_reducible repeat (first | refine qQj ?_ _ | refine qQv ?_ | refine qQm ?_ _)); exact BK237.out) hb); have n4_ := am (qQg (g := gb238) (o := .cells #[.int .i64 a1_0, .slice (some ad242) l1_1.length c1_1, .int .i64 a1_2, .int .i64 a1_3, .int .i64 a1_4, .int .i64 a1_5, .slice A1_6 l1_6.length c1_6, .int .i64 a1_7, .int .i64 a1_8, .int .i64 a1_9, .int .i64 a1_10, .int .i64 a1_11, .int .i64 a1_12] 28 (0, 0)) (by (iterate 13 ((with_reducible repeat (first | refine qQj ?_ _ | refine qQv ?_ | refine qQm ?_ _)); refine qYr ?_ NB238_243.out _)); (with_reducible repeat (first | refine qQj ?_ _ | refine qQv ?_ | refine qQm ?_ _)); exact BK238.out) hb); have n5_ := am (qQg (g := gb243) (o := .cells #[.int .i64 ((qQa l1_1 x35_2).f0), .int .i64 ((qQa l1_1 x35_2).f1), .int .i64 ((qQa l1_1 x35_2).f2), .int .i64 ((qQa l1_1 x35_2).f3), .int .i64 ((qQa l1_1 x35_2).f4), .int .i64 ((qQa l1_1 x35_2).f5), .bool ((qQa l1_1 x35_2).f6), .int .i64 ((qQa l1_1 x35_2).f7), .int .i64 ((qQa l1_1 x35_2).f8), .int .i64 ((qQa l1_1 x35_2).f9), .int .i64 ((qQa l1_1 x35_2).f10), .int .i64 ((qQa l1_1 x35_2).f11), .int .i64 ((qQa l1_1 x35_2).f12)] 48 (0, 0)) (by (with_reducible repeat (first | refine qQj ?_ _ | refine qQv ?_ | refine qQm ?_ _)); apply blk_put13b; (with_reducible repeat (first | refine qQj ?_ _ | refine qQv ?_ | refine qQm ?_ _)); exact BK243.out) hb); have n6_ := am (qQb (by exact h3q HB.out GE237.out GE238.out GE243.out) hb); clear HO_6; clear HO_7; clear HO_9; clear BK237; clear BK238; clear BK243; clear HB; have HO_6 := n0_; have HO_7 := n1_; have HO_9 := n2_; have BK237 := n3_; have BK238 := n4_; have BK243 := n5_; have HB := n6_; clear n0_ n1_ n2_ n3_ n4_ n5_ n6_; (try clear hb); (try clear hb2); (try clear hk); (try clear hi); have hz35 := lc13 BK243.out) | ((with_reducible refine qX5 (b := .append) (xs := #[.tmp 41, .tmp 43]) rfl ?_); at_builtin; refine Kd.qVn k48 (w0 := w) w.heap.size rfl (.tmp 41) (.tmp 43) 23 48 (.agg #[(.int .i64 0), (.int .i64 0), (.int .i64 0), (.int .i64 0), (.int .i64 0), (.int .i64 0), (.bool false), (.int .i64 0), (.int .i64 0), (.int .i64 0), (.int .i64 0), (.int .i64 0), (.int .i64 0)]) 104 rfl Tryz.underlying23 info48 rfl (by decide) (by omega) u9 x9_2 (⟨(qQa l1_1 x35_2).f0, (qQa l1_1 x35_2).f1, (qQa l1_1 x35_2).f2, (qQa l1_1 x35_2).f3, (qQa l1_1 x35_2).f4, (qQa l1_1 x35_2).f5, (qQa l1_1 x35_2).f6, (qQa l1_1 x35_2).f7, (qQa l1_1 x35_2).f8, (qQa l1_1 x35_2).f9, (qQa l1_1 x35_2).f10, (qQa l1_1 x35_2).f11, (qQa l1_1 x35_2).f12⟩ : S48) [.int .i64 ((qQa l1_1 x35_2).f0), .int .i64 ((qQa l1_1 x35_2).f1), .int .i64 ((qQa l1_1 x35_2).f2), .int .i64 ((qQa l1_1 x35_2).f3), .int .i64 ((qQa l1_1 x35_2).f4), .int .i64 ((qQa l1_1 x35_2).f5), .bool ((qQa l1_1 x35_2).f6), .int .i64 ((qQa l1_1 x35_2).f7), .int .i64 ((qQa l1_1 x35_2).f8), .int .i64 ((qQa l1_1 x35_2).f9), .int .i64 ((qQa l1_1 x35_2).f10), .int .i64 ((qQa l1_1 x35_2).f11), .int .i64 ((qQa l1_1 x35_2).f12)] (fun k_ => k_ ≠ gb243) (fun _ => False) rfl rfl ?aP (fun _ hk => hk.elim) ?aF ?aO ?aB ?aS ?aL ?_; (case aP => exact zYj _ _ _ (⟨(qQa l1_1 x35_2).f0, (qQa l1_1 x35_2).f1, (qQa l1_1 x35_2).f2, (qQa l1_1 x35_2).f3, (qQa l1_1 x35_2).f4, (qQa l1_1 x35_2).f5, (qQa l1_1 x35_2).f6, (qQa l1_1 x35_2).f7, (qQa l1_1 x35_2).f8, (qQa l1_1 x35_2).f9, (qQa l1_1 x35_2).f10, (qQa l1_1 x35_2).f11, (qQa l1_1 x35_2).f12⟩ : S48)); (case aB => exact (by exact h3q HB.out GE237.out GE238.out GE243.out)); (case aF => exact (fun k_ hk => Kd.freshB (g := gb243) (Up.up BK243.out) k_ hk)); (case aO => exact (by (with_reducible repeat (first | apply Kd.qZz | apply Kd.qZ0 | apply Kd.qYi)); exact Kd.qZ2 HO_9.out (fun _ hk => hk.2))); (case aS => exact (qQd (by exact h3q HB.out GE237.out GE238.out GE243.out))); (case aL => have := LMc28.out; omega); intro v246 w36 ho hb hg hat; rw [← Ny245.out] at ho; have n0_ := am (Kd.qX9 (by exact rq HO_6.out) (Kd.qX8 (by exact rq HO_9.out)) (by decide) hg); have n1_ := am (Kd.qX9 (by exact rq HO_7.out) (Kd.qX8 (by exact rq HO_9.out)) (by decide) hg); have n2_ := am (qYs (g := gb237) (Up.up BK237.out) hg (Kd.R_ne HO_9.out BK237.out (by decide))); have n3_ := am (qYs (g := gb238) (Up.up BK238.out) hg (Kd.R_ne HO_9.out BK238.out (by decide))); have n4_ := am (qYs (g := gb243) (Up.up BK243.out) hg (Kd.R_away HO_9.out (fun _ hk => hk.2))); have n5_ := am (hb); have n6_ := am (ho); clear HO_6; clear HO_7; clear BK237; clear BK238; clear BK243; clear HB; clear HO_9; have HO_6 := n0_; have HO_7 := n1_; have BK237 := n2_; have BK238 := n3_; have BK243 := n4_; have HB := n5_; have HO247 := n6_; clear n0_ n1_ n2_ n3_ n4_ n5_ n6_; clear ho hb hg hat; have hz37 := lc13 BK243.out) | ((with_reducible refine qX5 (b := .append) (xs := #[.tmp 45, .tmp 48]) rfl ?_); at_builtin; refine Kd.qVn (Kd.int .i64) (w0 := w) w.heap.size rfl (.tmp 45) (.tmp 48) 32 3 (.int .i64 0) 8 rfl Tryz.underlying32 info3 rfl (by decide) (by omega) u6 x6_2 ((qQa l1_1 x35_2).f0) [.int .i64 ((qQa l1_1 x35_2).f0)] (fun _ => True) (fun _ => False) rfl rfl ?aP (fun _ hk => hk.elim) ?aF ?aO ?aB ?aS ?aL ?_; (case aP => exact rfl); (case aB => exact (by exact h3q HB.out GE237.out GE238.out GE243.out)); (case aF => exact (fun _ _ => trivial)); (case aO => exact (by exact rq HO_6.out)); (case aS => exact (qQd (by exact h3q HB.out GE237.out GE238.out GE243.out))); (case aL => have := LMc29.out; omega); intro v249 w38 ho hb hg hat; rw [← Ny248.out] at ho; have n0_ := am (Kd.qX9 (by exact rq HO_7.out) (Kd.qX8 (by exact rq HO_6.out)) (by decide) hg); have n1_ := am (qYs (g := gb237) (Up.up BK237.out) hg (Kd.R_ne HO_6.out BK237.out (by decide))); have n2_ := am (qYs (g := gb238) (Up.up BK238.out) hg (Kd.R_ne HO_6.out BK238.out (by decide))); have n3_ := am (qYs (g := gb243) (Up.up BK243.out) hg (Kd.R_ne HO_6.out BK243.out (by decide))); have n4_ := am (Kd.qX9 (by exact rq HO247.out) (Kd.qX8 (by exact rq HO_6.out)) (by decide) hg); have n5_ := am (hb); have n6_ := am (ho); clear HO_7; clear BK237; clear BK238; clear BK243; clear HO247; clear HB; clear HO_6; have HO_7 := n0_; have BK237 := n1_; have BK238 := n2_; have BK243 := n3_; have HO247 := n4_; have HB := n5_; have HO250 := n6_; clear n0_ n1_ n2_ n3_ n4_ n5_ n6_; clear ho hb hg hat))
          go_roundg k2
          case measure => have := HJ3.out; have := HK2.out; omega
          case rel => exact ⟨(y248), (y245), (wrap64 (x35_2 + 1)), (by first | rfl | (simp; done) | (simp [*]; done)), H', ⟨by have := HJ3.out; have := HK2.out; omega⟩, ⟨by exact rq HO250.out⟩, ⟨by exact rq HO_7.out⟩, ⟨by (with_reducible repeat (first | apply Kd.qZz | apply Kd.qZ0 | apply Kd.qYi)); exact Kd.qZ2 HO247.out (fun _ hk => trivial)⟩, ⟨by exact bb BK237.out⟩, ⟨by exact bb BK238.out⟩, ⟨by exact h3q HB.out GE237.out GE238.out GE243.out⟩⟩
         ·rw [if_neg c29] at H
          exact absurd H (by simp)
        ·rw [if_neg c28] at H
         exact absurd H (by simp)
       ·replace c27 := Bool.eq_false_iff.mpr c27
        subst c27
        have H1 : (qQz.l0 k2 a2 x6_2 ([] : List Int) x9_2 l1_1 (l1_1.length : Int) (wrap64 (x35_2 + 1)) a0_0 l0_1 a1_0 l1_1 a1_2 a1_3 a1_4 a1_5 l1_6 a1_7 a1_8 a1_9 a1_10 a1_11 a1_12) = some (r1, r2, r3) := by rw [if_neg (show ¬ (false = true) by decide)] at H; exact H
        clear H
        have H := H1
        clear H1
        have H' := am H
        clear H
        have p242 : 0 ≤ (x35_2 : Int) := yd
        have q242 : x35_2 < (l1_1.length : Int) := yd
        obtain ⟨ad242, e242, hx242_0, hx242_1, hx242_2, hx242_3, hx242_4, hx242_5, hx242_6, hx242_7, hx242_8, hx242_9, hx242_10, hx242_11, hx242_12⟩ := qY8 HR1_1.out x35_2 p242 q242
        cases e242
        replace hx242_0 := hxb HB.out hx242_0
        replace hx242_1 := hxb HB.out hx242_1
        replace hx242_2 := hxb HB.out hx242_2
        replace hx242_3 := hxb HB.out hx242_3
        replace hx242_4 := hxb HB.out hx242_4
        replace hx242_5 := hxb HB.out hx242_5
        replace hx242_6 := hxb HB.out hx242_6
        replace hx242_7 := hxb HB.out hx242_7
        replace hx242_8 := hxb HB.out hx242_8
        replace hx242_9 := hxb HB.out hx242_9
        replace hx242_10 := hxb HB.out hx242_10
        replace hx242_11 := hxb HB.out hx242_11
        replace hx242_12 := hxb HB.out hx242_12
        replace p242 := eq_true p242
        replace q242 := eq_true q242
        go_wp2_with (first | ((with_reducible refine qQ0 (N := 11) rfl ?_); refine qQs ?hg (N := 11) ?hd (cs := #[.int .i64 0, .int .i64 0, .int .i64 0, .int .i64 0, .int .i64 0, .int .i64 0, .bool false, .int .i64 0, .int .i64 0, .int .i64 0, .int .i64 0, .int .i64 0, .int .i64 0]) (t := 48) ?hr ?_; (case hd => rfl); (case hg => rfl); (case hr => first | (go_simp; done) | (go_simp; rfl)); intro gb243 hg w39 hbox hb; have n0_ := am (Kd.qQt (by exact rq HO_6.out) hb); have n1_ := am (Kd.qQt (by exact rq HO_7.out) hb); have n2_ := am (Kd.qQt (Kd.qWt (by exact rq HO_9.out) gb243 (Nat.le_of_eq hg.symm)) hb); have n3_ := am (qQg (g := gb237) (Up.up BK237.out) hb); have n4_ := am (qQg (g := gb238) (Up.up BK238.out) hb); have n5_ := am (qQb (by exact h2q HB.out GE237.out GE238.out) hb); have n6_ := am (hbox); have n7_ := am ((by rw [hg]; exact (qQd (by exact h2q HB.out GE237.out GE238.out)) : w.heap.size ≤ gb243)); have n8_ := am ((by rw [hg]; exact (qQd (by exact h2q HB.out GE237.out GE238.out)) : w.heap.size ≤ gb243)); have n9_ := am ((by rw [hg]; exact Nat.ne_of_lt (qZr (g := gb237) (Up.up BK237.out)) : gb237 ≠ gb243)); have n10_ := am ((by rw [hg]; exact Nat.ne_of_gt (qZr (g := gb237) (Up.up BK237.out)) : gb243 ≠ gb237)); have n11_ := am ((by rw [hg]; exact Nat.ne_of_lt (qZr (g := gb238) (Up.up BK238.out)) : gb238 ≠ gb243)); have n12_ := am ((by rw [hg]; exact Nat.ne_of_gt (qZr (g := gb238) (Up.up BK238.out)) : gb243 ≠ gb238)); clear HO_6; clear HO_7; clear HO_9; clear BK237; clear BK238; clear HB; have HO_6 := n0_; have HO_7 := n1_; have HO_9 := n2_; have BK237 := n3_; have BK238 := n4_; have HB := n5_; have BK243 := n6_; have GW243 := n7_; have GE243 := n8_; have NB237_243 := n9_; have NB243_237 := n10_; have NB238_243 := n11_; have NB243_238 := n12_; clear n0_ n1_ n2_ n3_ n4_ n5_ n6_ n7_ n8_ n9_ n10_ n11_ n12_; clear hb hbox hg; have hnb40 := NB243_237.out; have hnc40 := NB237_243.out; have hnb41 := NB243_238.out; have hnc41 := NB238_243.out; have hz42 := lc13 BK243.out) | ((with_reducible refine qQh (f := 27) rfl ?_); refine goesL_ (some 40) rfl rfl Tryz.func27 (by kernel_rfl) rfl #[.agg #[.int .i64 ((qQa l1_1 x35_2).f0), .int .i64 ((qQa l1_1 x35_2).f1), .int .i64 ((qQa l1_1 x35_2).f2), .int .i64 ((qQa l1_1 x35_2).f3), .int .i64 ((qQa l1_1 x35_2).f4), .int .i64 ((qQa l1_1 x35_2).f5), .bool ((qQa l1_1 x35_2).f6), .int .i64 ((qQa l1_1 x35_2).f7), .int .i64 ((qQa l1_1 x35_2).f8), .int .i64 ((qQa l1_1 x35_2).f9), .int .i64 ((qQa l1_1 x35_2).f10), .int .i64 ((qQa l1_1 x35_2).f11), .int .i64 ((qQa l1_1 x35_2).f12)]] rfl ml ?_; (with_reducible refine (qYf.calls ((qQa l1_1 x35_2).f0) ((qQa l1_1 x35_2).f1) ((qQa l1_1 x35_2).f2) ((qQa l1_1 x35_2).f3) ((qQa l1_1 x35_2).f4) ((qQa l1_1 x35_2).f5) ((qQa l1_1 x35_2).f6) ((qQa l1_1 x35_2).f7) ((qQa l1_1 x35_2).f8) ((qQa l1_1 x35_2).f9) ((qQa l1_1 x35_2).f10) ((qQa l1_1 x35_2).f11) ((qQa l1_1 x35_2).f12) false _ A26.out).mono ?_); rintro e w43 ⟨rfl, hb⟩; refine ⟨_, rfl, ?_⟩; have n0_ := am (Kd.qQt (by (with_reducible repeat (first | apply Kd.qZz | apply Kd.qZ0 | apply Kd.qYi)); exact (Kd.qZ2 (R_far13b (Kd.qY7 HO_6.out BK243.out (by decide)) (fun _ hk => hk.2)) (fun _ h_ => h_.1))) hb); have n1_ := am (Kd.qQt (by (with_reducible repeat (first | apply Kd.qZz | apply Kd.qZ0 | apply Kd.qYi)); exact (Kd.qZ2 (R_far13b (Kd.qY7 HO_7.out BK243.out (by decide)) (fun _ hk => hk.2)) (fun _ h_ => h_.1))) hb); have n2_ := am (Kd.qQt (by (with_reducible repeat (first | apply Kd.qZz | apply Kd.qZ0 | apply Kd.qYi)); exact (Kd.qZ2 (R_far13b (Kd.qZ2 HO_9.out (fun k_ hk => (⟨hk, hk.2⟩ : _ ∧ k_ ≠ gb243))) (fun _ hk => hk.2)) (fun _ h_ => h_.1))) hb); have n3_ := am (qQg (g := gb237) (o := .cells #[.int .i64 a0_0, .slice A0_1 l0_1.length c0_1] 37 (0, 0)) (by (iterate 13 ((with_reducible repeat (first | refine qQj ?_ _ | refine qQv ?_ | refine qQm ?_ _)); refine qYr ?_ NB237_243.out _)); (with_reducible repeat (first | refine qQj ?_ _ | refine qQv ?_ | refine qQm ?_ _)); exact BK237.out) hb); have n4_ := am (qQg (g := gb238) (o := .cells #[.int .i64 a1_0, .slice (some ad242) l1_1.length c1_1, .int .i64 a1_2, .int .i64 a1_3, .int .i64 a1_4, .int .i64 a1_5, .slice A1_6 l1_6.length c1_6, .int .i64 a1_7, .int .i64 a1_8, .int .i64 a1_9, .int .i64 a1_10, .int .i64 a1_11, .int .i64 a1_12] 28 (0, 0)) (by (iterate 13 ((with_reducible repeat (first | refine qQj ?_ _ | refine qQv ?_ | refine qQm ?_ _)); refine qYr ?_ NB238_243.out _)); (with_reducible repeat (first | refine qQj ?_ _ | refine qQv ?_ | refine qQm ?_ _)); exact BK238.out) hb); have n5_ := am (qQg (g := gb243) (o := .cells #[.int .i64 ((qQa l1_1 x35_2).f0), .int .i64 ((qQa l1_1 x35_2).f1), .int .i64 ((qQa l1_1 x35_2).f2), .int .i64 ((qQa l1_1 x35_2).f3), .int .i64 ((qQa l1_1 x35_2).f4), .int .i64 ((qQa l1_1 x35_2).f5), .bool ((qQa l1_1 x35_2).f6), .int .i64 ((qQa l1_1 x35_2).f7), .int .i64 ((qQa l1_1 x35_2).f8), .int .i64 ((qQa l1_1 x35_2).f9), .int .i64 ((qQa l1_1 x35_2).f10), .int .i64 ((qQa l1_1 x35_2).f11), .int .i64 ((qQa l1_1 x35_2).f12)] 48 (0, 0)) (by (with_reducible repeat (first | refine qQj ?_ _ | refine qQv ?_ | refine qQm ?_ _)); apply blk_put13b; (with_reducible repeat (first | refine qQj ?_ _ | refine qQv ?_ | refine qQm ?_ _)); exact BK243.out) hb); have n6_ := am (qQb (by exact h3q HB.out GE237.out GE238.out GE243.out) hb); clear HO_6; clear HO_7; clear HO_9; clear BK237; clear BK238; clear BK243; clear HB; have HO_6 := n0_; have HO_7 := n1_; have HO_9 := n2_; have BK237 := n3_; have BK238 := n4_; have BK243 := n5_; have HB := n6_; clear n0_ n1_ n2_ n3_ n4_ n5_ n6_; (try clear hb); (try clear hb2); (try clear hk); (try clear hi)))
        go_roundg k2
        case measure => have := HJ3.out; have := HK2.out; omega
        case rel => exact ⟨(x6_2), (x9_2), (wrap64 (x35_2 + 1)), (by first | rfl | (simp; done) | (simp [*]; done)), H', ⟨by have := HJ3.out; have := HK2.out; omega⟩, ⟨by exact rq HO_6.out⟩, ⟨by exact rq HO_7.out⟩, ⟨by (with_reducible repeat (first | apply Kd.qZz | apply Kd.qZ0 | apply Kd.qYi)); exact Kd.qZ2 HO_9.out (fun _ hk => trivial)⟩, ⟨by exact bb BK237.out⟩, ⟨by exact bb BK238.out⟩, ⟨by exact h3q HB.out GE237.out GE238.out GE243.out⟩⟩
      ·rw [if_neg c25] at H
       exact absurd H (by simp)
     ·rw [if_neg c24] at H
      exact absurd H (by simp)
    ·rw [if_neg c23] at H
     have c23b0 : decide (x35_2 < (l1_1.length : Int)) = false := decide_eq_false c23
     clear c23
     by_cases c44 : (x9_2.length : Int) = 0
     ·rw [if_pos c44] at H
      have c44b0 : ((x9_2.length : Int) == 0) = true := beq_iff_eq.mpr c44
      have c44b1 : ((x9_2.length : Int) != 0) = false := bne_eq_false_iff_eq.mpr c44
      clear c44
      simp only [Option.some.injEq, Prod.mk.injEq] at H
      obtain ⟨rfl, rfl, rfl⟩ := H
      obtain ⟨Ao45, co45, eo45⟩ := Kd.qYy HO_9.out
      subst eo45
      go_wp2
      go_ret3
      exact ⟨_, _, er, by first | exact Kd.R_nil _ _ _ _ _ | exact Kd.N_nil _ _ _ _ _ | exact Kd.V_nil _ _ _ _ _ | exact Kd.Q_nil _ _ _ _ _ | exact Kd.S_nil _ _ _ _ _, by first | exact Kd.R_nil _ _ _ _ _ | exact Kd.N_nil _ _ _ _ _ | exact Kd.V_nil _ _ _ _ _ | exact Kd.Q_nil _ _ _ _ _ | exact Kd.S_nil _ _ _ _ _, by exact h2q HB.out GE237.out GE238.out⟩
     ·rw [if_neg c44] at H
      have c44b0 : ((x9_2.length : Int) == 0) = false := beq_eq_false_iff_ne.mpr c44
      have c44b1 : ((x9_2.length : Int) != 0) = true := bne_iff_ne.mpr c44
      have c44b2 : ¬ (x9_2 = []) := fun h_ => c44 (by rw [h_]; rfl)
      replace H := Option.bind_eq_some_iff.mp H
      obtain ⟨t251, A460, H⟩ := H
      replace H : (if 0 ≤ (x9_2.length : Int) then (if ((x9_2.length : Int) : Int).toNat ≤ 35184372088832 then (if t251 = 4 then ((qZu.f k2 a0_0 l0_1 a1_0 l1_1 a1_2 a1_3 a1_4 a1_5 l1_6 a1_7 a1_8 a1_9 a1_10 a1_11 a1_12 x9_2).bind fun bt255 => (if bt255.2 = 0 then (qQz.j2 k2 a2 x6_2 ([] : List Int) x9_2 t251 bt255.1) else (some (([] : List Int), ([] : List Int), bt255.2)))) else (qQz.j2 k2 a2 x6_2 ([] : List Int) x9_2 t251 (List.replicate ((x9_2.length : Int) : Int).toNat 0))) else (none)) else (none)) = some (r1, r2, r3) := H
      have A46 := am A460
      clear A460
      by_cases c47 : 0 ≤ (x9_2.length : Int)
      ·rw [if_pos c47] at H
       have c47b0 := eq_true c47
       have c47b1 : decide (0 ≤ (x9_2.length : Int)) = true := decide_eq_true c47
       clear c47
       by_cases c48 : ((x9_2.length : Int) : Int).toNat ≤ 35184372088832
       ·rw [if_pos c48] at H
        have c48b0 := eq_true c48
        have c48b1 : decide (((x9_2.length : Int) : Int).toNat ≤ 35184372088832) = true := decide_eq_true c48
        clear c48
        obtain ⟨y252, hy252⟩ : ∃ y_ : List Int, y_ = (List.replicate ((x9_2.length : Int) : Int).toNat 0) := ⟨_, rfl⟩
        replace H : (if t251 = 4 then ((qZu.f k2 a0_0 l0_1 a1_0 l1_1 a1_2 a1_3 a1_4 a1_5 l1_6 a1_7 a1_8 a1_9 a1_10 a1_11 a1_12 x9_2).bind fun bt255 => (if bt255.2 = 0 then (qQz.j2 k2 a2 x6_2 ([] : List Int) x9_2 t251 bt255.1) else (some (([] : List Int), ([] : List Int), bt255.2)))) else (qQz.j2 k2 a2 x6_2 ([] : List Int) x9_2 t251 y252)) = some (r1, r2, r3) := by first | (rw [hy252]; with_reducible exact H) | (have H2_ := (Option.bind_some _ _).symm.trans H; rw [hy252]; with_reducible exact H2_) | (have H2_ := (Option.bind_some _ _).symm.trans H; with_reducible exact H2_) | with_reducible exact H | (rw [hy252]; exact H) | exact H
        have Ny252 := am hy252
        clear hy252
        have HC49 := am H
        clear H
        obtain ⟨Ao50, co50, eo50⟩ := Kd.qYy HO_9.out
        subst eo50
        have hnb51 := NB238_237.out
        have hnc51 := NB237_238.out
        have hz52 := lc13 BK238.out
        go_upto_if 61 with (first | ((with_reducible refine qQh (f := 28) rfl ?_); refine goesL_ (some 56) rfl rfl Tryz.func28 (by kernel_rfl) rfl #[.agg #[.int .i64 a1_0, .slice A1_1 l1_1.length c1_1, .int .i64 a1_2, .int .i64 a1_3, .int .i64 a1_4, .int .i64 a1_5, .slice A1_6 l1_6.length c1_6, .int .i64 a1_7, .int .i64 a1_8, .int .i64 a1_9, .int .i64 a1_10, .int .i64 a1_11, .int .i64 a1_12], .int .i64 a2] rfl ml ?_; (with_reducible refine (qX2.calls k2 a1_0 _ _ l1_1 a1_2 a1_3 a1_4 a1_5 _ _ l1_6 a1_7 a1_8 a1_9 a1_10 a1_11 a1_12 a2 t251 _ ?side1 ?side2 ?side3 ?side4 A46.out).mono ?_); (case side1 => exact cq ((Kd.qZq HR1_1.out HB.out))); (case side2 => exact HC1_1.out); (case side3 => exact cq ((Kd.qZq HR1_6.out HB.out))); (case side4 => exact HC1_6.out); rintro e w53 ⟨rfl, hb⟩; refine ⟨_, rfl, ?_⟩; have n0_ := am (Kd.qQt (by exact rq HO_6.out) hb); have n1_ := am (Kd.qQt (by exact rq HO_7.out) hb); have n2_ := am (Kd.qQt (by exact rq HO_9.out) hb); have n3_ := am (qQg (g := gb237) (Up.up BK237.out) hb); have n4_ := am (qQg (g := gb238) (Up.up BK238.out) hb); have n5_ := am (qQb (by exact h2q HB.out GE237.out GE238.out) hb); clear HO_6; clear HO_7; clear HO_9; clear BK237; clear BK238; clear HB; have HO_6 := n0_; have HO_7 := n1_; have HO_9 := n2_; have BK237 := n3_; have BK238 := n4_; have HB := n5_; clear n0_ n1_ n2_ n3_ n4_ n5_; (try clear hb); (try clear hb2); (try clear hk); (try clear hi)) | ((with_reducible refine qQ0 (N := 59) rfl ?_); refine Kd.zWz (Kd.int .i64) _ 2 rfl (N := 59) rfl 22 _ _ rfl (x9_2.length : Int) rfl rfl Tryz.underlying22 (.int .i64 0) 8 info2 rfl (by decide) (by omega) 0 (ok := fun _ => True) (okp := fun _ => True) rfl (fun _ hk => hk) trivial (yd) (Nat.le_trans (Nat.mul_le_mul_right _ (yd : (x9_2.length : Int).toNat ≤ 35184372088832)) (by omega)) (Below.refl _ _) (Nat.le_refl _) ?_; intro v253 w54 ho55 hb hg_ hnew_; clear hg_ hnew_; (first | rw [← Ny252.out] at ho55 | (simp only [Int.reduceToNat] at ho55; rw [← Ny252.out] at ho55)); have n0_ := am (Kd.qQt (by exact rq HO_6.out) hb); have n1_ := am (Kd.qXv (by exact rq HO_7.out) (Kd.qWw ho55) hb); have n2_ := am (Kd.qQt (by exact rq HO_9.out) hb); have n3_ := am (Kd.qYx (Kd.qWu ho55 (Kd.R_lt (by exact rq HO_7.out))) (qQd (by exact h2q HB.out GE237.out GE238.out))); have n4_ := am (qQg (g := gb237) (Up.up BK237.out) hb); have n5_ := am (qQg (g := gb238) (Up.up BK238.out) hb); have n6_ := am (qQb (by exact h2q HB.out GE237.out GE238.out) hb); clear HO_6; clear HO_7; clear HO_9; clear BK237; clear BK238; clear HB; have HO_6 := n0_; have HO_7 := n1_; have HO_9 := n2_; have HO254 := n3_; have BK237 := n4_; have BK238 := n5_; have HB := n6_; clear n0_ n1_ n2_ n3_ n4_ n5_ n6_; clear hb ho55))
        (try simp only [Act.put, List.setIfInBounds_toArray, List.set_cons_zero, List.set_cons_succ])
        go_cut [6, 7, 13] (fun v6 v7 v13 wc => ∃ (kq : Nat) (x6_48 : List Int) (x7_48 : List Int) (x13_48 : List Int), Aside0 (qQz.j2 kq a2 x6_48 x7_48 x9_2 t251 x13_48 = some (r1, r2, r3)) ∧ Aside0 (kq ≤ k2) ∧ Aside0 (Kd.R (Kd.int .i64) 3 wc w.heap.size (fun _ => True) v6 x6_48) ∧ Aside0 (Kd.R (Kd.int .i64) 2 wc w.heap.size (fun k_ => some k_ ≠ (v13 : Value).ownBlock) v7 x7_48) ∧ Aside0 (Kd.R k48 48 wc w.heap.size (fun _ => True) (.slice Ao50 x9_2.length co50) x9_2) ∧ Aside0 (Kd.R (Kd.int .i64) 2 wc w.heap.size (fun k_ => some k_ ≠ (v7 : Value).ownBlock) v13 x13_48) ∧ Aside0 (wc.heap[gb237]? = some (.cells #[.int .i64 a0_0, (.slice A0_1 l0_1.length c0_1)] 37 (0, 0))) ∧ Aside0 (wc.heap[gb238]? = some (.cells #[.int .i64 a1_0, (.slice A1_1 l1_1.length c1_1), .int .i64 a1_2, .int .i64 a1_3, .int .i64 a1_4, .int .i64 a1_5, (.slice A1_6 l1_6.length c1_6), .int .i64 a1_7, .int .i64 a1_8, .int .i64 a1_9, .int .i64 a1_10, .int .i64 a1_11, .int .i64 a1_12] 28 (0, 0))) ∧ Aside0 (Below w.heap.size w wc))
        case first =>
         have H := HC49.out
         clear HC49
         by_cases c56 : t251 = 4
         ·rw [if_pos c56] at H
          have c56b0 : (t251 == 4) = true := beq_iff_eq.mpr c56
          have c56b1 : (t251 != 4) = false := bne_eq_false_iff_eq.mpr c56
          clear c56
          (first | rw [c56b0] | (simp only [i64_w, i32_w]; rw [c56b0]) | skip)
          replace H := Option.bind_eq_some_iff.mp H
          obtain ⟨⟨t255, t258⟩, A570, H⟩ := H
          replace H : (if t258 = 0 then (qQz.j2 k2 a2 x6_2 ([] : List Int) x9_2 t251 t255) else (some (([] : List Int), ([] : List Int), t258))) = some (r1, r2, r3) := H
          have A57 := am A570
          clear A570
          by_cases c58 : t258 = 0
          ·rw [if_pos c58] at H
           have c58b0 : (t258 == 0) = true := beq_iff_eq.mpr c58
           have c58b1 : (t258 != 0) = false := bne_eq_false_iff_eq.mpr c58
           clear c58
           have H' := am H
           clear H
           have hnb59 := NB237_238.out
           have hnc59 := NB238_237.out
           have hcz60_0 : w54.cell? ⟨gb237, 0, none⟩ = some (.int .i64 a0_0) := (qQc BK237.out 0).trans rfl
           have hcz60_1 : w54.cell? ⟨gb237, 1, none⟩ = some (.slice A0_1 l0_1.length c0_1) := (qQc BK237.out 1).trans rfl
           have hfz60_0 := qQi BK237.out 0
           have hfz60_1 := qQi BK237.out 1
           have hz61 := lc13 BK238.out
           go_wp2_with (first | ((with_reducible refine qQh (f := 29) rfl ?_); refine goesL_ (some 66) rfl rfl Tryz.func29 (by kernel_rfl) rfl #[.agg #[.int .i64 a0_0, .slice A0_1 l0_1.length c0_1], .agg #[.int .i64 a1_0, .slice A1_1 l1_1.length c1_1, .int .i64 a1_2, .int .i64 a1_3, .int .i64 a1_4, .int .i64 a1_5, .slice A1_6 l1_6.length c1_6, .int .i64 a1_7, .int .i64 a1_8, .int .i64 a1_9, .int .i64 a1_10, .int .i64 a1_11, .int .i64 a1_12], .slice Ao50 x9_2.length co50] rfl ml ?_; (with_reducible refine (qZu.calls k2 a0_0 _ _ l0_1 a1_0 _ _ l1_1 a1_2 a1_3 a1_4 a1_5 _ _ l1_6 a1_7 a1_8 a1_9 a1_10 a1_11 a1_12 _ _ x9_2 t255 t258 _ ?side1 ?side2 ?side3 ?side4 ?side5 ?side6 ?side7 ?side8 A57.out).mono ?_); (case side1 => exact cq ((Kd.qZq HR0_1.out HB.out))); (case side2 => exact HC0_1.out); (case side3 => exact cq ((Kd.qZq HR1_1.out HB.out))); (case side4 => exact HC1_1.out); (case side5 => exact cq ((Kd.qZq HR1_6.out HB.out))); (case side6 => exact HC1_6.out); (case side7 => exact cq ((Kd.qZe HO_9.out).2.2)); (case side8 => exact (Kd.qZe HO_9.out).2.1); rintro e w62 ⟨v256, rfl, ho0, hb⟩; refine ⟨_, rfl, ?_⟩; have n0_ := am (Kd.qQt (by exact rq HO_6.out) hb); have n1_ := am (Kd.qXv (by exact rq HO_7.out) (Kd.qWw ho0) hb); have n2_ := am (Kd.qQt (by exact rq HO_9.out) hb); have n3_ := am (Kd.qXv (by exact rq HO254.out) (Kd.qWw ho0) hb); have n4_ := am (Kd.qYx (Kd.qWu (Kd.qWu ho0 (Kd.R_lt (by exact rq HO_7.out))) (Kd.R_lt (by exact rq HO254.out))) (qQd (by exact h2q HB.out GE237.out GE238.out))); have n5_ := am (qQg (g := gb237) (Up.up BK237.out) hb); have n6_ := am (qQg (g := gb238) (Up.up BK238.out) hb); have n7_ := am (qQb (by exact h2q HB.out GE237.out GE238.out) hb); clear HO_6; clear HO_7; clear HO_9; clear HO254; clear BK237; clear BK238; clear HB; have HO_6 := n0_; have HO_7 := n1_; have HO_9 := n2_; have HO254 := n3_; have HO257 := n4_; have BK237 := n5_; have BK238 := n6_; have HB := n7_; clear n0_ n1_ n2_ n3_ n4_ n5_ n6_ n7_; (try clear hb); (try clear hb2); (try clear hk); (try clear hi); (try clear ho0)))
           go_meet
           case rel => exact ⟨_, (x6_2), (([] : List Int)), (t255), H', ⟨by have := HJ3.out; have := HK2.out; first | omega | exact Nat.le_refl _⟩, ⟨by exact rq HO_6.out⟩, ⟨by (with_reducible repeat (first | apply Kd.qZz | apply Kd.qZ0 | apply Kd.qYi)); exact Kd.qZ2 HO_7.out (fun _ hk => hk.2)⟩, ⟨by exact rq HO_9.out⟩, ⟨by (with_reducible repeat (first | apply Kd.qZz | apply Kd.qZ0 | apply Kd.qYi)); exact Kd.qZ2 HO257.out (fun _ hk => hk.1.2)⟩, ⟨by exact bb BK237.out⟩, ⟨by exact bb BK238.out⟩, ⟨by exact h2q HB.out GE237.out GE238.out⟩⟩
          ·rw [if_neg c58] at H
           have c58b0 : (t258 == 0) = false := beq_eq_false_iff_ne.mpr c58
           have c58b1 : (t258 != 0) = true := bne_iff_ne.mpr c58
           simp only [Option.some.injEq, Prod.mk.injEq] at H
           obtain ⟨rfl, rfl, rfl⟩ := H
           have hnb63 := NB237_238.out
           have hnc63 := NB238_237.out
           have hcz64_0 : w54.cell? ⟨gb237, 0, none⟩ = some (.int .i64 a0_0) := (qQc BK237.out 0).trans rfl
           have hcz64_1 : w54.cell? ⟨gb237, 1, none⟩ = some (.slice A0_1 l0_1.length c0_1) := (qQc BK237.out 1).trans rfl
           have hfz64_0 := qQi BK237.out 0
           have hfz64_1 := qQi BK237.out 1
           have hz65 := lc13 BK238.out
           go_wp2_with (first | ((with_reducible refine qQh (f := 29) rfl ?_); refine goesL_ (some 66) rfl rfl Tryz.func29 (by kernel_rfl) rfl #[.agg #[.int .i64 a0_0, .slice A0_1 l0_1.length c0_1], .agg #[.int .i64 a1_0, .slice A1_1 l1_1.length c1_1, .int .i64 a1_2, .int .i64 a1_3, .int .i64 a1_4, .int .i64 a1_5, .slice A1_6 l1_6.length c1_6, .int .i64 a1_7, .int .i64 a1_8, .int .i64 a1_9, .int .i64 a1_10, .int .i64 a1_11, .int .i64 a1_12], .slice Ao50 x9_2.length co50] rfl ml ?_; (with_reducible refine (qZu.calls k2 a0_0 _ _ l0_1 a1_0 _ _ l1_1 a1_2 a1_3 a1_4 a1_5 _ _ l1_6 a1_7 a1_8 a1_9 a1_10 a1_11 a1_12 _ _ x9_2 t255 t258 _ ?side1 ?side2 ?side3 ?side4 ?side5 ?side6 ?side7 ?side8 A57.out).mono ?_); (case side1 => exact cq ((Kd.qZq HR0_1.out HB.out))); (case side2 => exact HC0_1.out); (case side3 => exact cq ((Kd.qZq HR1_1.out HB.out))); (case side4 => exact HC1_1.out); (case side5 => exact cq ((Kd.qZq HR1_6.out HB.out))); (case side6 => exact HC1_6.out); (case side7 => exact cq ((Kd.qZe HO_9.out).2.2)); (case side8 => exact (Kd.qZe HO_9.out).2.1); rintro e w66 ⟨v256, rfl, ho0, hb⟩; refine ⟨_, rfl, ?_⟩; have n0_ := am (Kd.qQt (by exact rq HO_6.out) hb); have n1_ := am (Kd.qXv (by exact rq HO_7.out) (Kd.qWw ho0) hb); have n2_ := am (Kd.qQt (by exact rq HO_9.out) hb); have n3_ := am (Kd.qXv (by exact rq HO254.out) (Kd.qWw ho0) hb); have n4_ := am (Kd.qYx (Kd.qWu (Kd.qWu ho0 (Kd.R_lt (by exact rq HO_7.out))) (Kd.R_lt (by exact rq HO254.out))) (qQd (by exact h2q HB.out GE237.out GE238.out))); have n5_ := am (qQg (g := gb237) (Up.up BK237.out) hb); have n6_ := am (qQg (g := gb238) (Up.up BK238.out) hb); have n7_ := am (qQb (by exact h2q HB.out GE237.out GE238.out) hb); clear HO_6; clear HO_7; clear HO_9; clear HO254; clear BK237; clear BK238; clear HB; have HO_6 := n0_; have HO_7 := n1_; have HO_9 := n2_; have HO254 := n3_; have HO257 := n4_; have BK237 := n5_; have BK238 := n6_; have HB := n7_; clear n0_ n1_ n2_ n3_ n4_ n5_ n6_ n7_; (try clear hb); (try clear hb2); (try clear hk); (try clear hi); (try clear ho0)))
           go_ret3
           exact ⟨_, _, er, by first | exact Kd.R_nil _ _ _ _ _ | exact Kd.N_nil _ _ _ _ _ | exact Kd.V_nil _ _ _ _ _ | exact Kd.Q_nil _ _ _ _ _ | exact Kd.S_nil _ _ _ _ _, by first | exact Kd.R_nil _ _ _ _ _ | exact Kd.N_nil _ _ _ _ _ | exact Kd.V_nil _ _ _ _ _ | exact Kd.Q_nil _ _ _ _ _ | exact Kd.S_nil _ _ _ _ _, by exact h2q HB.out GE237.out GE238.out⟩
         ·rw [if_neg c56] at H
          have c56b0 : (t251 == 4) = false := beq_eq_false_iff_ne.mpr c56
          have c56b1 : (t251 != 4) = true := bne_iff_ne.mpr c56
          (first | rw [c56b0] | (simp only [i64_w, i32_w]; rw [c56b0]) | skip)
          have H' := am H
          clear H
          go_wp2
          go_meet
          case rel => exact ⟨_, (x6_2), (([] : List Int)), (y252), H', ⟨by have := HJ3.out; have := HK2.out; first | omega | exact Nat.le_refl _⟩, ⟨by exact rq HO_6.out⟩, ⟨by (with_reducible repeat (first | apply Kd.qZz | apply Kd.qZ0 | apply Kd.qYi)); exact Kd.qZ2 HO_7.out (fun _ hk => hk.2)⟩, ⟨by exact rq HO_9.out⟩, ⟨by (with_reducible repeat (first | apply Kd.qZz | apply Kd.qZ0 | apply Kd.qYi)); exact Kd.qZ2 HO254.out (fun _ hk => hk.2)⟩, ⟨by exact bb BK237.out⟩, ⟨by exact bb BK238.out⟩, ⟨by exact h2q HB.out GE237.out GE238.out⟩⟩
        case rest =>
         clear HC49
         try clear c8
         try clear c10
         try clear c20
         try clear c23
         try clear c23b0
         try clear c24
         try clear c24b0
         try clear c25
         try clear c25b0
         try clear c27
         try clear c28
         try clear c29
         try clear c44
         try clear c44b0 c44b1
         try clear c44b2
         try clear c47
         try clear c47b0 c47b1
         try clear c48
         try clear c48b0 c48b1
         try clear c56
         try clear c56b0 c56b1
         try clear c58
         try clear c58b0 c58b1
         try clear hcz13_0
         try clear hcz13_1
         try clear hz14
         try clear hcz17_0
         try clear hcz17_1
         try clear hcz19_0
         try clear hcz19_1
         try clear hz22
         try clear hz33
         try clear hz35
         try clear hz37
         try clear hz42
         try clear hz52
         try clear hcz60_0
         try clear hcz60_1
         try clear hz61
         try clear hcz64_0
         try clear hcz64_1
         try clear hz65
         try clear hfz13_0
         try clear hfz13_1
         try clear hfz17_0
         try clear hfz17_1
         try clear hfz19_0
         try clear hfz19_1
         try clear hfz60_0
         try clear hfz60_1
         try clear hfz64_0
         try clear hfz64_1
         try clear hx242_0 hx242_1 hx242_10 hx242_11 hx242_12 hx242_2 hx242_3 hx242_4 hx242_5 hx242_6 hx242_7 hx242_8 hx242_9
         try clear p242 q242
         obtain ⟨kq, x6_48, x7_48, x13_48, HA, HJ48, HO_6, HO_7, HO_9, HO_13, BK237, BK238, HB⟩ := hcut
         rcases kq with _ | kj48
         ·exact absurd HA.out (by simp [qQz.j2])
         have H := HA.out
         clear HA
         simp only [qQz.j2] at H
         have H' := am H
         clear H
         go_wp2
         go_loopg [6, 7, 74] kj48 (fun kq v6 v7 v74 w' => ∃ (x6_4 : List Int) (x7_4 : List Int) (x74_4 : Int), v74 = .int .i64 x74_4 ∧ Aside0 (qQz.l1 kq a2 x6_4 x7_4 t251 x13_48 x9_2 (x9_2.length : Int) x74_4 = some (r1, r2, r3)) ∧ Aside0 (kq ≤ kj48) ∧ Aside0 (Kd.R (Kd.int .i64) 3 w' w.heap.size (fun _ => True) v6 x6_4) ∧ Aside0 (Kd.R (Kd.int .i64) 2 w' w.heap.size (fun k_ => some k_ ≠ (u13 : Value).ownBlock) v7 x7_4) ∧ Aside0 (Kd.R (Kd.int .i64) 2 w' w.heap.size (fun k_ => some k_ ≠ (v7 : Value).ownBlock) u13 x13_48) ∧ Aside0 (Kd.R k48 48 w' w.heap.size (fun _ => True) (.slice Ao50 x9_2.length co50) x9_2) ∧ Aside0 (w'.heap[gb237]? = some (.cells #[.int .i64 a0_0, (.slice A0_1 l0_1.length c0_1)] 37 (0, 0))) ∧ Aside0 (w'.heap[gb238]? = some (.cells #[.int .i64 a1_0, (.slice A1_1 l1_1.length c1_1), .int .i64 a1_2, .int .i64 a1_3, .int .i64 a1_4, .int .i64 a1_5, (.slice A1_6 l1_6.length c1_6), .int .i64 a1_7, .int .i64 a1_8, .int .i64 a1_9, .int .i64 a1_10, .int .i64 a1_11, .int .i64 a1_12] 28 (0, 0))) ∧ Aside0 (Below w.heap.size w w'))
         case atStart => exact ⟨(x6_48), (x7_48), (0), (by first | rfl | (simp; done) | (simp [*]; done)), H', ⟨Nat.le_refl _⟩, ⟨by exact rq HO_6.out⟩, ⟨by exact rq HO_7.out⟩, ⟨by exact rq HO_13.out⟩, ⟨by exact rq HO_9.out⟩, ⟨by exact bb BK237.out⟩, ⟨by exact bb BK238.out⟩, ⟨by exact h2q HB.out GE237.out GE238.out⟩⟩
         case round =>
          clear H'
          try clear c8
          try clear c10
          try clear c20
          try clear c23
          try clear c23b0
          try clear c24
          try clear c24b0
          try clear c25
          try clear c25b0
          try clear c27
          try clear c28
          try clear c29
          try clear c44
          try clear c44b0 c44b1
          try clear c44b2
          try clear c47
          try clear c47b0 c47b1
          try clear c48
          try clear c48b0 c48b1
          try clear c56
          try clear c56b0 c56b1
          try clear c58
          try clear c58b0 c58b1
          try clear hcz13_0
          try clear hcz13_1
          try clear hz14
          try clear hcz17_0
          try clear hcz17_1
          try clear hcz19_0
          try clear hcz19_1
          try clear hz22
          try clear hz33
          try clear hz35
          try clear hz37
          try clear hz42
          try clear hz52
          try clear hcz60_0
          try clear hcz60_1
          try clear hz61
          try clear hcz64_0
          try clear hcz64_1
          try clear hz65
          try clear hfz13_0
          try clear hfz13_1
          try clear hfz17_0
          try clear hfz17_1
          try clear hfz19_0
          try clear hfz19_1
          try clear hfz60_0
          try clear hfz60_1
          try clear hfz64_0
          try clear hfz64_1
          try clear hx242_0 hx242_1 hx242_10 hx242_11 hx242_12 hx242_2 hx242_3 hx242_4 hx242_5 hx242_6 hx242_7 hx242_8 hx242_9
          try clear p242 q242
          obtain ⟨x6_4, x7_4, x74_4, rfl, HA, HK4, HO_6, HO_7, HO_13, HO_72, BK237, BK238, HB⟩ := hrel
          rcases gk with _ | k4
          ·exact absurd HA.out (by simp [qQz.l1])
          have H := HA.out
          clear HA
          simp only [qQz.l1] at H
          by_cases c67 : x74_4 < (x9_2.length : Int)
          ·rw [if_pos c67] at H
           have c67b0 : decide (x74_4 < (x9_2.length : Int)) = true := decide_eq_true c67
           clear c67
           by_cases c68 : 0 ≤ x74_4
           ·rw [if_pos c68] at H
            have c68b0 : decide (0 ≤ x74_4) = true := decide_eq_true c68
            clear c68
            by_cases c69 : x74_4 < (x9_2.length : Int)
            ·rw [if_pos c69] at H
             have c69b0 : decide (x74_4 < (x9_2.length : Int)) = true := decide_eq_true c69
             clear c69
             by_cases c70 : x74_4 < (x13_48.length : Int)
             ·rw [if_pos c70] at H
              have c70b0 : decide (x74_4 < (x13_48.length : Int)) = true := decide_eq_true c70
              clear c70
              by_cases c71 : t251 = 4
              ·rw [if_pos c71] at H
               have c71b0 : (t251 == 4) = true := beq_iff_eq.mpr c71
               have c71b1 : (t251 != 4) = false := bne_eq_false_iff_eq.mpr c71
               clear c71
               replace H := Option.bind_eq_some_iff.mp H
               obtain ⟨⟨t262, t263⟩, A720, H⟩ := H
               replace H : (if t263 = 0 then (if x7_4.length < 17592186044416 then (qQz.l1 k4 a2 x6_4 (x7_4 ++ [t262]) t251 x13_48 x9_2 (x9_2.length : Int) (wrap64 (x74_4 + 1))) else (none)) else (some (([] : List Int), ([] : List Int), t263))) = some (r1, r2, r3) := H
               have A72 := am A720
               clear A720
               by_cases c73 : t263 = 0
               ·rw [if_pos c73] at H
                have c73b0 : (t263 == 0) = true := beq_iff_eq.mpr c73
                have c73b1 : (t263 != 0) = false := bne_eq_false_iff_eq.mpr c73
                clear c73
                by_cases c74 : x7_4.length < 17592186044416
                ·rw [if_pos c74] at H
                 have LMc74 := am c74
                 clear c74
                 obtain ⟨y264, hy264⟩ : ∃ y_ : List Int, y_ = (x7_4 ++ [t262]) := ⟨_, rfl⟩
                 replace H : (qQz.l1 k4 a2 x6_4 y264 t251 x13_48 x9_2 (x9_2.length : Int) (wrap64 (x74_4 + 1))) = some (r1, r2, r3) := by first | (rw [hy264]; with_reducible exact H) | (have H2_ := (Option.bind_some _ _).symm.trans H; rw [hy264]; with_reducible exact H2_) | (have H2_ := (Option.bind_some _ _).symm.trans H; with_reducible exact H2_) | with_reducible exact H | (rw [hy264]; exact H) | exact H
                 have Ny264 := am hy264
                 clear hy264
                 have H' := am H
                 clear H
                 have p259 : 0 ≤ (x74_4 : Int) := yd
                 have q259 : x74_4 < (x9_2.length : Int) := yd
                 obtain ⟨ad259, e259, hx259_0, hx259_1, hx259_2, hx259_3, hx259_4, hx259_5, hx259_6, hx259_7, hx259_8, hx259_9, hx259_10, hx259_11, hx259_12⟩ := qY8 (Kd.qZe HO_72.out).2.2 x74_4 p259 q259
                 cases e259
                 replace p259 := eq_true p259
                 replace q259 := eq_true q259
                 go_wp2_with (first | ((with_reducible refine qQ0 (N := 15) rfl ?_); refine qQs ?hg (N := 15) ?hd (cs := #[.int .i64 0, .int .i64 0, .int .i64 0, .int .i64 0, .int .i64 0, .int .i64 0, .bool false, .int .i64 0, .int .i64 0, .int .i64 0, .int .i64 0, .int .i64 0, .int .i64 0]) (t := 48) ?hr ?_; (case hd => rfl); (case hg => rfl); (case hr => first | (go_simp; done) | (go_simp; rfl)); intro gb260 hg w75 hbox hb; have n0_ := am (Kd.qQt (by exact rq HO_6.out) hb); have n1_ := am (Kd.qQt (by exact rq HO_7.out) hb); have n2_ := am (Kd.qQt (by exact rq HO_13.out) hb); have n3_ := am (Kd.qQt (Kd.qWt (by exact rq HO_72.out) gb260 (Nat.le_of_eq hg.symm)) hb); have n4_ := am (qQg (g := gb237) (Up.up BK237.out) hb); have n5_ := am (qQg (g := gb238) (Up.up BK238.out) hb); have n6_ := am (qQb (by exact h2q HB.out GE237.out GE238.out) hb); have n7_ := am (hbox); have n8_ := am ((by rw [hg]; exact (qQd (by exact h2q HB.out GE237.out GE238.out)) : w.heap.size ≤ gb260)); have n9_ := am ((by rw [hg]; exact (qQd (by exact h2q HB.out GE237.out GE238.out)) : w.heap.size ≤ gb260)); have n10_ := am ((by rw [hg]; exact Nat.ne_of_lt (qZr (g := gb237) (Up.up BK237.out)) : gb237 ≠ gb260)); have n11_ := am ((by rw [hg]; exact Nat.ne_of_gt (qZr (g := gb237) (Up.up BK237.out)) : gb260 ≠ gb237)); have n12_ := am ((by rw [hg]; exact Nat.ne_of_lt (qZr (g := gb238) (Up.up BK238.out)) : gb238 ≠ gb260)); have n13_ := am ((by rw [hg]; exact Nat.ne_of_gt (qZr (g := gb238) (Up.up BK238.out)) : gb260 ≠ gb238)); clear HO_6; clear HO_7; clear HO_13; clear HO_72; clear BK237; clear BK238; clear HB; have HO_6 := n0_; have HO_7 := n1_; have HO_13 := n2_; have HO_72 := n3_; have BK237 := n4_; have BK238 := n5_; have HB := n6_; have BK260 := n7_; have GW260 := n8_; have GE260 := n9_; have NB237_260 := n10_; have NB260_237 := n11_; have NB238_260 := n12_; have NB260_238 := n13_; clear n0_ n1_ n2_ n3_ n4_ n5_ n6_ n7_ n8_ n9_ n10_ n11_ n12_ n13_; clear hb hbox hg; have hnb76 := NB260_237.out; have hnc76 := NB237_260.out; have hnb77 := NB260_238.out; have hnc77 := NB238_260.out; have hz78 := lc13 BK260.out; obtain ⟨Ao79, co79, eo79⟩ := Kd.qYy HO_13.out; subst eo79; have p261 : 0 ≤ (x74_4 : Int) := yd; have q261 : x74_4 < (x13_48.length : Int) := yd; obtain ⟨ad261, e261, hx261_0⟩ := Kd.qZx (Kd.qZe HO_13.out).2.2 x74_4 p261 q261; cases e261; have hn261_0 : ad261.block ≠ gb260 := Kd.qZt (Kd.R_ne HO_13.out BK260.out (by decide)); have hn261_1 : ad261.block ≠ gb260 := Kd.qZt (Kd.R_ne HO_13.out BK260.out (by decide)); have hn261_2 : ad261.block ≠ gb260 := Kd.qZt (Kd.R_ne HO_13.out BK260.out (by decide)); have hn261_3 : ad261.block ≠ gb260 := Kd.qZt (Kd.R_ne HO_13.out BK260.out (by decide)); have hn261_4 : ad261.block ≠ gb260 := Kd.qZt (Kd.R_ne HO_13.out BK260.out (by decide)); have hn261_5 : ad261.block ≠ gb260 := Kd.qZt (Kd.R_ne HO_13.out BK260.out (by decide)); have hn261_6 : ad261.block ≠ gb260 := Kd.qZt (Kd.R_ne HO_13.out BK260.out (by decide)); have hn261_7 : ad261.block ≠ gb260 := Kd.qZt (Kd.R_ne HO_13.out BK260.out (by decide)); have hn261_8 : ad261.block ≠ gb260 := Kd.qZt (Kd.R_ne HO_13.out BK260.out (by decide)); have hn261_9 : ad261.block ≠ gb260 := Kd.qZt (Kd.R_ne HO_13.out BK260.out (by decide)); have hn261_10 : ad261.block ≠ gb260 := Kd.qZt (Kd.R_ne HO_13.out BK260.out (by decide)); have hn261_11 : ad261.block ≠ gb260 := Kd.qZt (Kd.R_ne HO_13.out BK260.out (by decide)); have hn261_12 : ad261.block ≠ gb260 := Kd.qZt (Kd.R_ne HO_13.out BK260.out (by decide)); replace hx261_0 := (cell_far (p := ⟨gb260, 0, none⟩) (by first | (rw [add_block]; exact hn261_0) | (show (Addr.add _ _).block ≠ _; rw [add_block]; exact hn261_0) | exact hn261_0) (.int .i64 ((qQa x9_2 x74_4).f0))).trans hx261_0; replace hx261_0 := (cell_far (p := ⟨gb260, 1, none⟩) (by first | (rw [add_block]; exact hn261_1) | (show (Addr.add _ _).block ≠ _; rw [add_block]; exact hn261_1) | exact hn261_1) (.int .i64 ((qQa x9_2 x74_4).f1))).trans hx261_0; replace hx261_0 := (cell_far (p := ⟨gb260, 2, none⟩) (by first | (rw [add_block]; exact hn261_2) | (show (Addr.add _ _).block ≠ _; rw [add_block]; exact hn261_2) | exact hn261_2) (.int .i64 ((qQa x9_2 x74_4).f2))).trans hx261_0; replace hx261_0 := (cell_far (p := ⟨gb260, 3, none⟩) (by first | (rw [add_block]; exact hn261_3) | (show (Addr.add _ _).block ≠ _; rw [add_block]; exact hn261_3) | exact hn261_3) (.int .i64 ((qQa x9_2 x74_4).f3))).trans hx261_0; replace hx261_0 := (cell_far (p := ⟨gb260, 4, none⟩) (by first | (rw [add_block]; exact hn261_4) | (show (Addr.add _ _).block ≠ _; rw [add_block]; exact hn261_4) | exact hn261_4) (.int .i64 ((qQa x9_2 x74_4).f4))).trans hx261_0; replace hx261_0 := (cell_far (p := ⟨gb260, 5, none⟩) (by first | (rw [add_block]; exact hn261_5) | (show (Addr.add _ _).block ≠ _; rw [add_block]; exact hn261_5) | exact hn261_5) (.int .i64 ((qQa x9_2 x74_4).f5))).trans hx261_0; replace hx261_0 := (cell_far (p := ⟨gb260, 6, none⟩) (by first | (rw [add_block]; exact hn261_6) | (show (Addr.add _ _).block ≠ _; rw [add_block]; exact hn261_6) | exact hn261_6) (.bool ((qQa x9_2 x74_4).f6))).trans hx261_0; replace hx261_0 := (cell_far (p := ⟨gb260, 7, none⟩) (by first | (rw [add_block]; exact hn261_7) | (show (Addr.add _ _).block ≠ _; rw [add_block]; exact hn261_7) | exact hn261_7) (.int .i64 ((qQa x9_2 x74_4).f7))).trans hx261_0; replace hx261_0 := (cell_far (p := ⟨gb260, 8, none⟩) (by first | (rw [add_block]; exact hn261_8) | (show (Addr.add _ _).block ≠ _; rw [add_block]; exact hn261_8) | exact hn261_8) (.int .i64 ((qQa x9_2 x74_4).f8))).trans hx261_0; replace hx261_0 := (cell_far (p := ⟨gb260, 9, none⟩) (by first | (rw [add_block]; exact hn261_9) | (show (Addr.add _ _).block ≠ _; rw [add_block]; exact hn261_9) | exact hn261_9) (.int .i64 ((qQa x9_2 x74_4).f9))).trans hx261_0; replace hx261_0 := (cell_far (p := ⟨gb260, 10, none⟩) (by first | (rw [add_block]; exact hn261_10) | (show (Addr.add _ _).block ≠ _; rw [add_block]; exact hn261_10) | exact hn261_10) (.int .i64 ((qQa x9_2 x74_4).f10))).trans hx261_0; replace hx261_0 := (cell_far (p := ⟨gb260, 11, none⟩) (by first | (rw [add_block]; exact hn261_11) | (show (Addr.add _ _).block ≠ _; rw [add_block]; exact hn261_11) | exact hn261_11) (.int .i64 ((qQa x9_2 x74_4).f11))).trans hx261_0; replace hx261_0 := (cell_far (p := ⟨gb260, 12, none⟩) (by first | (rw [add_block]; exact hn261_12) | (show (Addr.add _ _).block ≠ _; rw [add_block]; exact hn261_12) | exact hn261_12) (.int .i64 ((qQa x9_2 x74_4).f12))).trans hx261_0; clear hn261_0; clear hn261_1; clear hn261_2; clear hn261_3; clear hn261_4; clear hn261_5; clear hn261_6; clear hn261_7; clear hn261_8; clear hn261_9; clear hn261_10; clear hn261_11; clear hn261_12; replace p261 := eq_true p261; replace q261 := eq_true q261) | ((with_reducible refine qQh (f := 30) rfl ?_); refine goesL_ (some 88) rfl rfl Tryz.func30 (by kernel_rfl) rfl #[.agg #[.int .i64 ((qQa x9_2 x74_4).f0), .int .i64 ((qQa x9_2 x74_4).f1), .int .i64 ((qQa x9_2 x74_4).f2), .int .i64 ((qQa x9_2 x74_4).f3), .int .i64 ((qQa x9_2 x74_4).f4), .int .i64 ((qQa x9_2 x74_4).f5), .bool ((qQa x9_2 x74_4).f6), .int .i64 ((qQa x9_2 x74_4).f7), .int .i64 ((qQa x9_2 x74_4).f8), .int .i64 ((qQa x9_2 x74_4).f9), .int .i64 ((qQa x9_2 x74_4).f10), .int .i64 ((qQa x9_2 x74_4).f11), .int .i64 ((qQa x9_2 x74_4).f12)], .int .i64 (rd x13_48 x74_4)] rfl ml ?_; (with_reducible refine (qYk.calls k4 ((qQa x9_2 x74_4).f0) ((qQa x9_2 x74_4).f1) ((qQa x9_2 x74_4).f2) ((qQa x9_2 x74_4).f3) ((qQa x9_2 x74_4).f4) ((qQa x9_2 x74_4).f5) ((qQa x9_2 x74_4).f6) ((qQa x9_2 x74_4).f7) ((qQa x9_2 x74_4).f8) ((qQa x9_2 x74_4).f9) ((qQa x9_2 x74_4).f10) ((qQa x9_2 x74_4).f11) ((qQa x9_2 x74_4).f12) (rd x13_48 x74_4) t262 t263 _ A72.out).mono ?_); rintro e w80 ⟨rfl, hb⟩; refine ⟨_, rfl, ?_⟩; have n0_ := am (Kd.qQt (by (with_reducible repeat (first | apply Kd.qZz | apply Kd.qZ0 | apply Kd.qYi)); exact (Kd.qZ2 (R_far13b (Kd.qY7 HO_6.out BK260.out (by decide)) (fun _ hk => hk.2)) (fun _ h_ => h_.1))) hb); have n1_ := am (Kd.qQt (by (with_reducible repeat (first | apply Kd.qZz | apply Kd.qZ0 | apply Kd.qYi)); exact (Kd.qZ2 (R_far13b (Kd.qY7 HO_7.out BK260.out (by decide)) (fun _ hk => hk.2)) (fun _ h_ => h_.1))) hb); have n2_ := am (Kd.qQt (by (with_reducible repeat (first | apply Kd.qZz | apply Kd.qZ0 | apply Kd.qYi)); exact (Kd.qZ2 (R_far13b (Kd.qY7 HO_13.out BK260.out (by decide)) (fun _ hk => hk.2)) (fun _ h_ => h_.1))) hb); have n3_ := am (Kd.qQt (by (with_reducible repeat (first | apply Kd.qZz | apply Kd.qZ0 | apply Kd.qYi)); exact (Kd.qZ2 (R_far13b (Kd.qZ2 HO_72.out (fun k_ hk => (⟨hk, hk.2⟩ : _ ∧ k_ ≠ gb260))) (fun _ hk => hk.2)) (fun _ h_ => h_.1))) hb); have n4_ := am (qQg (g := gb237) (o := .cells #[.int .i64 a0_0, .slice A0_1 l0_1.length c0_1] 37 (0, 0)) (by (iterate 13 ((with_reducible repeat (first | refine qQj ?_ _ | refine qQv ?_ | refine qQm ?_ _)); refine qYr ?_ NB237_260.out _)); (with_reducible repeat (first | refine qQj ?_ _ | refine qQv ?_ | refine qQm ?_ _)); exact BK237.out) hb); have n5_ := am (qQg (g := gb238) (o := .cells #[.int .i64 a1_0, .slice A1_1 l1_1.length c1_1, .int .i64 a1_2, .int .i64 a1_3, .int .i64 a1_4, .int .i64 a1_5, .slice A1_6 l1_6.length c1_6, .int .i64 a1_7, .int .i64 a1_8, .int .i64 a1_9, .int .i64 a1_10, .int .i64 a1_11, .int .i64 a1_12] 28 (0, 0)) (by (iterate 13 ((with_reducible repeat (first | refine qQj ?_ _ | refine qQv ?_ | refine qQm ?_ _)); refine qYr ?_ NB238_260.out _)); (with_reducible repeat (first | refine qQj ?_ _ | refine qQv ?_ | refine qQm ?_ _)); exact BK238.out) hb); have n6_ := am (qQg (g := gb260) (o := .cells #[.int .i64 ((qQa x9_2 x74_4).f0), .int .i64 ((qQa x9_2 x74_4).f1), .int .i64 ((qQa x9_2 x74_4).f2), .int .i64 ((qQa x9_2 x74_4).f3), .int .i64 ((qQa x9_2 x74_4).f4), .int .i64 ((qQa x9_2 x74_4).f5), .bool ((qQa x9_2 x74_4).f6), .int .i64 ((qQa x9_2 x74_4).f7), .int .i64 ((qQa x9_2 x74_4).f8), .int .i64 ((qQa x9_2 x74_4).f9), .int .i64 ((qQa x9_2 x74_4).f10), .int .i64 ((qQa x9_2 x74_4).f11), .int .i64 ((qQa x9_2 x74_4).f12)] 48 (0, 0)) (by (with_reducible repeat (first | refine qQj ?_ _ | refine qQv ?_ | refine qQm ?_ _)); apply blk_put13b; (with_reducible repeat (first | refine qQj ?_ _ | refine qQv ?_ | refine qQm ?_ _)); exact BK260.out) hb); have n7_ := am (qQb (by exact h3q HB.out GE237.out GE238.out GE260.out) hb); clear HO_6; clear HO_7; clear HO_13; clear HO_72; clear BK237; clear BK238; clear BK260; clear HB; have HO_6 := n0_; have HO_7 := n1_; have HO_13 := n2_; have HO_72 := n3_; have BK237 := n4_; have BK238 := n5_; have BK260 := n6_; have HB := n7_; clear n0_ n1_ n2_ n3_ n4_ n5_ n6_ n7_; (try clear hb); (try clear hb2); (try clear hk); (try clear hi)) | ((with_reducible refine qX5 (b := .append) (xs := #[.tmp 101, .tmp 103]) rfl ?_); at_builtin; refine Kd.qVn (Kd.int .i64) (w0 := w) w.heap.size rfl (.tmp 101) (.tmp 103) 22 2 (.int .i64 0) 8 rfl Tryz.underlying22 info2 rfl (by decide) (by omega) u7 x7_4 t262 [.int .i64 t262] (fun k_ => some k_ ≠ (.slice (some ad261) x13_48.length co79 : Value).ownBlock) (fun _ => False) rfl rfl ?aP (fun _ hk => hk.elim) ?aF ?aO ?aB ?aS ?aL ?_; (case aP => exact rfl); (case aB => exact (by exact h3q HB.out GE237.out GE238.out GE260.out)); (case aF => exact (fun k_ hk => Kd.fresh' (Kd.R_lt (by exact rq HO_13.out)) k_ hk)); (case aO => exact (by exact rq HO_7.out)); (case aS => exact (qQd (by exact h3q HB.out GE237.out GE238.out GE260.out))); (case aL => have := LMc74.out; omega); intro v265 w81 ho hb hg hat; rw [← Ny264.out] at ho; have n0_ := am (Kd.qX9 (by exact rq HO_6.out) (Kd.qX8 (by exact rq HO_7.out)) (by decide) hg); have n1_ := am (Kd.zXd (ok := (fun _ => True)) (by (with_reducible repeat (first | apply Kd.qZz | apply Kd.qZ0 | apply Kd.qYi)); exact Kd.qZ2 HO_13.out (fun _ hk => ⟨trivial, hk⟩)) hg hat); have n2_ := am (Kd.qX9 (by exact rq HO_72.out) (Kd.qX8 (by exact rq HO_7.out)) (by decide) hg); have n3_ := am (qYs (g := gb237) (Up.up BK237.out) hg (Kd.R_ne HO_7.out BK237.out (by decide))); have n4_ := am (qYs (g := gb238) (Up.up BK238.out) hg (Kd.R_ne HO_7.out BK238.out (by decide))); have n5_ := am (qYs (g := gb260) (Up.up BK260.out) hg (Kd.R_ne HO_7.out BK260.out (by decide))); have n6_ := am (hb); have n7_ := am (ho); clear HO_6; clear HO_13; clear HO_72; clear BK237; clear BK238; clear BK260; clear HB; clear HO_7; have HO_6 := n0_; have HO_13 := n1_; have HO_72 := n2_; have BK237 := n3_; have BK238 := n4_; have BK260 := n5_; have HB := n6_; have HO266 := n7_; clear n0_ n1_ n2_ n3_ n4_ n5_ n6_ n7_; clear ho hb hg hat))
                 go_roundg k4
                 case measure => have := HJ3.out; have := HK2.out; have := HJ48.out; have := HK4.out; omega
                 case rel => exact ⟨(x6_4), (y264), (wrap64 (x74_4 + 1)), (by first | rfl | (simp; done) | (simp [*]; done)), H', ⟨by have := HJ3.out; have := HK2.out; have := HJ48.out; have := HK4.out; omega⟩, ⟨by exact rq HO_6.out⟩, ⟨by exact rq HO266.out⟩, ⟨by (with_reducible repeat (first | apply Kd.qZz | apply Kd.qZ0 | apply Kd.qYi)); exact Kd.qZ2 HO_13.out (fun _ hk => hk.2)⟩, ⟨by (with_reducible repeat (first | apply Kd.qZz | apply Kd.qZ0 | apply Kd.qYi)); exact Kd.qZ2 HO_72.out (fun _ hk => trivial)⟩, ⟨by exact bb BK237.out⟩, ⟨by exact bb BK238.out⟩, ⟨by exact h3q HB.out GE237.out GE238.out GE260.out⟩⟩
                ·rw [if_neg c74] at H
                 exact absurd H (by simp)
               ·rw [if_neg c73] at H
                have c73b0 : (t263 == 0) = false := beq_eq_false_iff_ne.mpr c73
                have c73b1 : (t263 != 0) = true := bne_iff_ne.mpr c73
                simp only [Option.some.injEq, Prod.mk.injEq] at H
                obtain ⟨rfl, rfl, rfl⟩ := H
                have p259 : 0 ≤ (x74_4 : Int) := yd
                have q259 : x74_4 < (x9_2.length : Int) := yd
                obtain ⟨ad259, e259, hx259_0, hx259_1, hx259_2, hx259_3, hx259_4, hx259_5, hx259_6, hx259_7, hx259_8, hx259_9, hx259_10, hx259_11, hx259_12⟩ := qY8 (Kd.qZe HO_72.out).2.2 x74_4 p259 q259
                cases e259
                replace p259 := eq_true p259
                replace q259 := eq_true q259
                go_wp2_with (first | ((with_reducible refine qQ0 (N := 15) rfl ?_); refine qQs ?hg (N := 15) ?hd (cs := #[.int .i64 0, .int .i64 0, .int .i64 0, .int .i64 0, .int .i64 0, .int .i64 0, .bool false, .int .i64 0, .int .i64 0, .int .i64 0, .int .i64 0, .int .i64 0, .int .i64 0]) (t := 48) ?hr ?_; (case hd => rfl); (case hg => rfl); (case hr => first | (go_simp; done) | (go_simp; rfl)); intro gb260 hg w82 hbox hb; have n0_ := am (Kd.qQt (by exact rq HO_6.out) hb); have n1_ := am (Kd.qQt (by exact rq HO_7.out) hb); have n2_ := am (Kd.qQt (by exact rq HO_13.out) hb); have n3_ := am (Kd.qQt (Kd.qWt (by exact rq HO_72.out) gb260 (Nat.le_of_eq hg.symm)) hb); have n4_ := am (qQg (g := gb237) (Up.up BK237.out) hb); have n5_ := am (qQg (g := gb238) (Up.up BK238.out) hb); have n6_ := am (qQb (by exact h2q HB.out GE237.out GE238.out) hb); have n7_ := am (hbox); have n8_ := am ((by rw [hg]; exact (qQd (by exact h2q HB.out GE237.out GE238.out)) : w.heap.size ≤ gb260)); have n9_ := am ((by rw [hg]; exact (qQd (by exact h2q HB.out GE237.out GE238.out)) : w.heap.size ≤ gb260)); have n10_ := am ((by rw [hg]; exact Nat.ne_of_lt (qZr (g := gb237) (Up.up BK237.out)) : gb237 ≠ gb260)); have n11_ := am ((by rw [hg]; exact Nat.ne_of_gt (qZr (g := gb237) (Up.up BK237.out)) : gb260 ≠ gb237)); have n12_ := am ((by rw [hg]; exact Nat.ne_of_lt (qZr (g := gb238) (Up.up BK238.out)) : gb238 ≠ gb260)); have n13_ := am ((by rw [hg]; exact Nat.ne_of_gt (qZr (g := gb238) (Up.up BK238.out)) : gb260 ≠ gb238)); clear HO_6; clear HO_7; clear HO_13; clear HO_72; clear BK237; clear BK238; clear HB; have HO_6 := n0_; have HO_7 := n1_; have HO_13 := n2_; have HO_72 := n3_; have BK237 := n4_; have BK238 := n5_; have HB := n6_; have BK260 := n7_; have GW260 := n8_; have GE260 := n9_; have NB237_260 := n10_; have NB260_237 := n11_; have NB238_260 := n12_; have NB260_238 := n13_; clear n0_ n1_ n2_ n3_ n4_ n5_ n6_ n7_ n8_ n9_ n10_ n11_ n12_ n13_; clear hb hbox hg; have hnb83 := NB260_237.out; have hnc83 := NB237_260.out; have hnb84 := NB260_238.out; have hnc84 := NB238_260.out; have hz85 := lc13 BK260.out; obtain ⟨Ao86, co86, eo86⟩ := Kd.qYy HO_13.out; subst eo86; have p261 : 0 ≤ (x74_4 : Int) := yd; have q261 : x74_4 < (x13_48.length : Int) := yd; obtain ⟨ad261, e261, hx261_0⟩ := Kd.qZx (Kd.qZe HO_13.out).2.2 x74_4 p261 q261; cases e261; have hn261_0 : ad261.block ≠ gb260 := Kd.qZt (Kd.R_ne HO_13.out BK260.out (by decide)); have hn261_1 : ad261.block ≠ gb260 := Kd.qZt (Kd.R_ne HO_13.out BK260.out (by decide)); have hn261_2 : ad261.block ≠ gb260 := Kd.qZt (Kd.R_ne HO_13.out BK260.out (by decide)); have hn261_3 : ad261.block ≠ gb260 := Kd.qZt (Kd.R_ne HO_13.out BK260.out (by decide)); have hn261_4 : ad261.block ≠ gb260 := Kd.qZt (Kd.R_ne HO_13.out BK260.out (by decide)); have hn261_5 : ad261.block ≠ gb260 := Kd.qZt (Kd.R_ne HO_13.out BK260.out (by decide)); have hn261_6 : ad261.block ≠ gb260 := Kd.qZt (Kd.R_ne HO_13.out BK260.out (by decide)); have hn261_7 : ad261.block ≠ gb260 := Kd.qZt (Kd.R_ne HO_13.out BK260.out (by decide)); have hn261_8 : ad261.block ≠ gb260 := Kd.qZt (Kd.R_ne HO_13.out BK260.out (by decide)); have hn261_9 : ad261.block ≠ gb260 := Kd.qZt (Kd.R_ne HO_13.out BK260.out (by decide)); have hn261_10 : ad261.block ≠ gb260 := Kd.qZt (Kd.R_ne HO_13.out BK260.out (by decide)); have hn261_11 : ad261.block ≠ gb260 := Kd.qZt (Kd.R_ne HO_13.out BK260.out (by decide)); have hn261_12 : ad261.block ≠ gb260 := Kd.qZt (Kd.R_ne HO_13.out BK260.out (by decide)); replace hx261_0 := (cell_far (p := ⟨gb260, 0, none⟩) (by first | (rw [add_block]; exact hn261_0) | (show (Addr.add _ _).block ≠ _; rw [add_block]; exact hn261_0) | exact hn261_0) (.int .i64 ((qQa x9_2 x74_4).f0))).trans hx261_0; replace hx261_0 := (cell_far (p := ⟨gb260, 1, none⟩) (by first | (rw [add_block]; exact hn261_1) | (show (Addr.add _ _).block ≠ _; rw [add_block]; exact hn261_1) | exact hn261_1) (.int .i64 ((qQa x9_2 x74_4).f1))).trans hx261_0; replace hx261_0 := (cell_far (p := ⟨gb260, 2, none⟩) (by first | (rw [add_block]; exact hn261_2) | (show (Addr.add _ _).block ≠ _; rw [add_block]; exact hn261_2) | exact hn261_2) (.int .i64 ((qQa x9_2 x74_4).f2))).trans hx261_0; replace hx261_0 := (cell_far (p := ⟨gb260, 3, none⟩) (by first | (rw [add_block]; exact hn261_3) | (show (Addr.add _ _).block ≠ _; rw [add_block]; exact hn261_3) | exact hn261_3) (.int .i64 ((qQa x9_2 x74_4).f3))).trans hx261_0; replace hx261_0 := (cell_far (p := ⟨gb260, 4, none⟩) (by first | (rw [add_block]; exact hn261_4) | (show (Addr.add _ _).block ≠ _; rw [add_block]; exact hn261_4) | exact hn261_4) (.int .i64 ((qQa x9_2 x74_4).f4))).trans hx261_0; replace hx261_0 := (cell_far (p := ⟨gb260, 5, none⟩) (by first | (rw [add_block]; exact hn261_5) | (show (Addr.add _ _).block ≠ _; rw [add_block]; exact hn261_5) | exact hn261_5) (.int .i64 ((qQa x9_2 x74_4).f5))).trans hx261_0; replace hx261_0 := (cell_far (p := ⟨gb260, 6, none⟩) (by first | (rw [add_block]; exact hn261_6) | (show (Addr.add _ _).block ≠ _; rw [add_block]; exact hn261_6) | exact hn261_6) (.bool ((qQa x9_2 x74_4).f6))).trans hx261_0; replace hx261_0 := (cell_far (p := ⟨gb260, 7, none⟩) (by first | (rw [add_block]; exact hn261_7) | (show (Addr.add _ _).block ≠ _; rw [add_block]; exact hn261_7) | exact hn261_7) (.int .i64 ((qQa x9_2 x74_4).f7))).trans hx261_0; replace hx261_0 := (cell_far (p := ⟨gb260, 8, none⟩) (by first | (rw [add_block]; exact hn261_8) | (show (Addr.add _ _).block ≠ _; rw [add_block]; exact hn261_8) | exact hn261_8) (.int .i64 ((qQa x9_2 x74_4).f8))).trans hx261_0; replace hx261_0 := (cell_far (p := ⟨gb260, 9, none⟩) (by first | (rw [add_block]; exact hn261_9) | (show (Addr.add _ _).block ≠ _; rw [add_block]; exact hn261_9) | exact hn261_9) (.int .i64 ((qQa x9_2 x74_4).f9))).trans hx261_0; replace hx261_0 := (cell_far (p := ⟨gb260, 10, none⟩) (by first | (rw [add_block]; exact hn261_10) | (show (Addr.add _ _).block ≠ _; rw [add_block]; exact hn261_10) | exact hn261_10) (.int .i64 ((qQa x9_2 x74_4).f10))).trans hx261_0; replace hx261_0 := (cell_far (p := ⟨gb260, 11, none⟩) (by first | (rw [add_block]; exact hn261_11) | (show (Addr.add _ _).block ≠ _; rw [add_block]; exact hn261_11) | exact hn261_11) (.int .i64 ((qQa x9_2 x74_4).f11))).trans hx261_0; replace hx261_0 := (cell_far (p := ⟨gb260, 12, none⟩) (by first | (rw [add_block]; exact hn261_12) | (show (Addr.add _ _).block ≠ _; rw [add_block]; exact hn261_12) | exact hn261_12) (.int .i64 ((qQa x9_2 x74_4).f12))).trans hx261_0; clear hn261_0; clear hn261_1; clear hn261_2; clear hn261_3; clear hn261_4; clear hn261_5; clear hn261_6; clear hn261_7; clear hn261_8; clear hn261_9; clear hn261_10; clear hn261_11; clear hn261_12; replace p261 := eq_true p261; replace q261 := eq_true q261) | ((with_reducible refine qQh (f := 30) rfl ?_); refine goesL_ (some 88) rfl rfl Tryz.func30 (by kernel_rfl) rfl #[.agg #[.int .i64 ((qQa x9_2 x74_4).f0), .int .i64 ((qQa x9_2 x74_4).f1), .int .i64 ((qQa x9_2 x74_4).f2), .int .i64 ((qQa x9_2 x74_4).f3), .int .i64 ((qQa x9_2 x74_4).f4), .int .i64 ((qQa x9_2 x74_4).f5), .bool ((qQa x9_2 x74_4).f6), .int .i64 ((qQa x9_2 x74_4).f7), .int .i64 ((qQa x9_2 x74_4).f8), .int .i64 ((qQa x9_2 x74_4).f9), .int .i64 ((qQa x9_2 x74_4).f10), .int .i64 ((qQa x9_2 x74_4).f11), .int .i64 ((qQa x9_2 x74_4).f12)], .int .i64 (rd x13_48 x74_4)] rfl ml ?_; (with_reducible refine (qYk.calls k4 ((qQa x9_2 x74_4).f0) ((qQa x9_2 x74_4).f1) ((qQa x9_2 x74_4).f2) ((qQa x9_2 x74_4).f3) ((qQa x9_2 x74_4).f4) ((qQa x9_2 x74_4).f5) ((qQa x9_2 x74_4).f6) ((qQa x9_2 x74_4).f7) ((qQa x9_2 x74_4).f8) ((qQa x9_2 x74_4).f9) ((qQa x9_2 x74_4).f10) ((qQa x9_2 x74_4).f11) ((qQa x9_2 x74_4).f12) (rd x13_48 x74_4) t262 t263 _ A72.out).mono ?_); rintro e w87 ⟨rfl, hb⟩; refine ⟨_, rfl, ?_⟩; have n0_ := am (Kd.qQt (by (with_reducible repeat (first | apply Kd.qZz | apply Kd.qZ0 | apply Kd.qYi)); exact (Kd.qZ2 (R_far13b (Kd.qY7 HO_6.out BK260.out (by decide)) (fun _ hk => hk.2)) (fun _ h_ => h_.1))) hb); have n1_ := am (Kd.qQt (by (with_reducible repeat (first | apply Kd.qZz | apply Kd.qZ0 | apply Kd.qYi)); exact (Kd.qZ2 (R_far13b (Kd.qY7 HO_7.out BK260.out (by decide)) (fun _ hk => hk.2)) (fun _ h_ => h_.1))) hb); have n2_ := am (Kd.qQt (by (with_reducible repeat (first | apply Kd.qZz | apply Kd.qZ0 | apply Kd.qYi)); exact (Kd.qZ2 (R_far13b (Kd.qY7 HO_13.out BK260.out (by decide)) (fun _ hk => hk.2)) (fun _ h_ => h_.1))) hb); have n3_ := am (Kd.qQt (by (with_reducible repeat (first | apply Kd.qZz | apply Kd.qZ0 | apply Kd.qYi)); exact (Kd.qZ2 (R_far13b (Kd.qZ2 HO_72.out (fun k_ hk => (⟨hk, hk.2⟩ : _ ∧ k_ ≠ gb260))) (fun _ hk => hk.2)) (fun _ h_ => h_.1))) hb); have n4_ := am (qQg (g := gb237) (o := .cells #[.int .i64 a0_0, .slice A0_1 l0_1.length c0_1] 37 (0, 0)) (by (iterate 13 ((with_reducible repeat (first | refine qQj ?_ _ | refine qQv ?_ | refine qQm ?_ _)); refine qYr ?_ NB237_260.out _)); (with_reducible repeat (first | refine qQj ?_ _ | refine qQv ?_ | refine qQm ?_ _)); exact BK237.out) hb); have n5_ := am (qQg (g := gb238) (o := .cells #[.int .i64 a1_0, .slice A1_1 l1_1.length c1_1, .int .i64 a1_2, .int .i64 a1_3, .int .i64 a1_4, .int .i64 a1_5, .slice A1_6 l1_6.length c1_6, .int .i64 a1_7, .int .i64 a1_8, .int .i64 a1_9, .int .i64 a1_10, .int .i64 a1_11, .int .i64 a1_12] 28 (0, 0)) (by (iterate 13 ((with_reducible repeat (first | refine qQj ?_ _ | refine qQv ?_ | refine qQm ?_ _)); refine qYr ?_ NB238_260.out _)); (with_reducible repeat (first | refine qQj ?_ _ | refine qQv ?_ | refine qQm ?_ _)); exact BK238.out) hb); have n6_ := am (qQg (g := gb260) (o := .cells #[.int .i64 ((qQa x9_2 x74_4).f0), .int .i64 ((qQa x9_2 x74_4).f1), .int .i64 ((qQa x9_2 x74_4).f2), .int .i64 ((qQa x9_2 x74_4).f3), .int .i64 ((qQa x9_2 x74_4).f4), .int .i64 ((qQa x9_2 x74_4).f5), .bool ((qQa x9_2 x74_4).f6), .int .i64 ((qQa x9_2 x74_4).f7), .int .i64 ((qQa x9_2 x74_4).f8), .int .i64 ((qQa x9_2 x74_4).f9), .int .i64 ((qQa x9_2 x74_4).f10), .int .i64 ((qQa x9_2 x74_4).f11), .int .i64 ((qQa x9_2 x74_4).f12)] 48 (0, 0)) (by (with_reducible repeat (first | refine qQj ?_ _ | refine qQv ?_ | refine qQm ?_ _)); apply blk_put13b; (with_reducible repeat (first | refine qQj ?_ _ | refine qQv ?_ | refine qQm ?_ _)); exact BK260.out) hb); have n7_ := am (qQb (by exact h3q HB.out GE237.out GE238.out GE260.out) hb); clear HO_6; clear HO_7; clear HO_13; clear HO_72; clear BK237; clear BK238; clear BK260; clear HB; have HO_6 := n0_; have HO_7 := n1_; have HO_13 := n2_; have HO_72 := n3_; have BK237 := n4_; have BK238 := n5_; have BK260 := n6_; have HB := n7_; clear n0_ n1_ n2_ n3_ n4_ n5_ n6_ n7_; (try clear hb); (try clear hb2); (try clear hk); (try clear hi)))
                go_ret3
                exact ⟨_, _, er, by first | exact Kd.R_nil _ _ _ _ _ | exact Kd.N_nil _ _ _ _ _ | exact Kd.V_nil _ _ _ _ _ | exact Kd.Q_nil _ _ _ _ _ | exact Kd.S_nil _ _ _ _ _, by first | exact Kd.R_nil _ _ _ _ _ | exact Kd.N_nil _ _ _ _ _ | exact Kd.V_nil _ _ _ _ _ | exact Kd.Q_nil _ _ _ _ _ | exact Kd.S_nil _ _ _ _ _, by exact h3q HB.out GE237.out GE238.out GE260.out⟩
              ·rw [if_neg c71] at H
               have c71b0 : (t251 == 4) = false := beq_eq_false_iff_ne.mpr c71
               have c71b1 : (t251 != 4) = true := bne_iff_ne.mpr c71
               replace H := Option.bind_eq_some_iff.mp H
               obtain ⟨⟨t267, t268⟩, A880, H⟩ := H
               replace H : (if t268 = 0 then (if x7_4.length < 17592186044416 then (qQz.l1 k4 a2 x6_4 (x7_4 ++ [t267]) t251 x13_48 x9_2 (x9_2.length : Int) (wrap64 (x74_4 + 1))) else (none)) else (some (([] : List Int), ([] : List Int), t268))) = some (r1, r2, r3) := H
               have A88 := am A880
               clear A880
               by_cases c89 : t268 = 0
               ·rw [if_pos c89] at H
                have c89b0 : (t268 == 0) = true := beq_iff_eq.mpr c89
                have c89b1 : (t268 != 0) = false := bne_eq_false_iff_eq.mpr c89
                clear c89
                by_cases c90 : x7_4.length < 17592186044416
                ·rw [if_pos c90] at H
                 have LMc90 := am c90
                 clear c90
                 obtain ⟨y269, hy269⟩ : ∃ y_ : List Int, y_ = (x7_4 ++ [t267]) := ⟨_, rfl⟩
                 replace H : (qQz.l1 k4 a2 x6_4 y269 t251 x13_48 x9_2 (x9_2.length : Int) (wrap64 (x74_4 + 1))) = some (r1, r2, r3) := by first | (rw [hy269]; with_reducible exact H) | (have H2_ := (Option.bind_some _ _).symm.trans H; rw [hy269]; with_reducible exact H2_) | (have H2_ := (Option.bind_some _ _).symm.trans H; with_reducible exact H2_) | with_reducible exact H | (rw [hy269]; exact H) | exact H
                 have Ny269 := am hy269
                 clear hy269
                 have H' := am H
                 clear H
                 have p259 : 0 ≤ (x74_4 : Int) := yd
                 have q259 : x74_4 < (x9_2.length : Int) := yd
                 obtain ⟨ad259, e259, hx259_0, hx259_1, hx259_2, hx259_3, hx259_4, hx259_5, hx259_6, hx259_7, hx259_8, hx259_9, hx259_10, hx259_11, hx259_12⟩ := qY8 (Kd.qZe HO_72.out).2.2 x74_4 p259 q259
                 cases e259
                 replace p259 := eq_true p259
                 replace q259 := eq_true q259
                 go_wp2_with (first | ((with_reducible refine qQ0 (N := 15) rfl ?_); refine qQs ?hg (N := 15) ?hd (cs := #[.int .i64 0, .int .i64 0, .int .i64 0, .int .i64 0, .int .i64 0, .int .i64 0, .bool false, .int .i64 0, .int .i64 0, .int .i64 0, .int .i64 0, .int .i64 0, .int .i64 0]) (t := 48) ?hr ?_; (case hd => rfl); (case hg => rfl); (case hr => first | (go_simp; done) | (go_simp; rfl)); intro gb260 hg w91 hbox hb; have n0_ := am (Kd.qQt (by exact rq HO_6.out) hb); have n1_ := am (Kd.qQt (by exact rq HO_7.out) hb); have n2_ := am (Kd.qQt (by exact rq HO_13.out) hb); have n3_ := am (Kd.qQt (Kd.qWt (by exact rq HO_72.out) gb260 (Nat.le_of_eq hg.symm)) hb); have n4_ := am (qQg (g := gb237) (Up.up BK237.out) hb); have n5_ := am (qQg (g := gb238) (Up.up BK238.out) hb); have n6_ := am (qQb (by exact h2q HB.out GE237.out GE238.out) hb); have n7_ := am (hbox); have n8_ := am ((by rw [hg]; exact (qQd (by exact h2q HB.out GE237.out GE238.out)) : w.heap.size ≤ gb260)); have n9_ := am ((by rw [hg]; exact (qQd (by exact h2q HB.out GE237.out GE238.out)) : w.heap.size ≤ gb260)); have n10_ := am ((by rw [hg]; exact Nat.ne_of_lt (qZr (g := gb237) (Up.up BK237.out)) : gb237 ≠ gb260)); have n11_ := am ((by rw [hg]; exact Nat.ne_of_gt (qZr (g := gb237) (Up.up BK237.out)) : gb260 ≠ gb237)); have n12_ := am ((by rw [hg]; exact Nat.ne_of_lt (qZr (g := gb238) (Up.up BK238.out)) : gb238 ≠ gb260)); have n13_ := am ((by rw [hg]; exact Nat.ne_of_gt (qZr (g := gb238) (Up.up BK238.out)) : gb260 ≠ gb238)); clear HO_6; clear HO_7; clear HO_13; clear HO_72; clear BK237; clear BK238; clear HB; have HO_6 := n0_; have HO_7 := n1_; have HO_13 := n2_; have HO_72 := n3_; have BK237 := n4_; have BK238 := n5_; have HB := n6_; have BK260 := n7_; have GW260 := n8_; have GE260 := n9_; have NB237_260 := n10_; have NB260_237 := n11_; have NB238_260 := n12_; have NB260_238 := n13_; clear n0_ n1_ n2_ n3_ n4_ n5_ n6_ n7_ n8_ n9_ n10_ n11_ n12_ n13_; clear hb hbox hg; have hnb92 := NB260_237.out; have hnc92 := NB237_260.out; have hnb93 := NB260_238.out; have hnc93 := NB238_260.out; have hz94 := lc13 BK260.out; obtain ⟨Ao95, co95, eo95⟩ := Kd.qYy HO_13.out; subst eo95; have p261 : 0 ≤ (x74_4 : Int) := yd; have q261 : x74_4 < (x13_48.length : Int) := yd; obtain ⟨ad261, e261, hx261_0⟩ := Kd.qZx (Kd.qZe HO_13.out).2.2 x74_4 p261 q261; cases e261; have hn261_0 : ad261.block ≠ gb260 := Kd.qZt (Kd.R_ne HO_13.out BK260.out (by decide)); have hn261_1 : ad261.block ≠ gb260 := Kd.qZt (Kd.R_ne HO_13.out BK260.out (by decide)); have hn261_2 : ad261.block ≠ gb260 := Kd.qZt (Kd.R_ne HO_13.out BK260.out (by decide)); have hn261_3 : ad261.block ≠ gb260 := Kd.qZt (Kd.R_ne HO_13.out BK260.out (by decide)); have hn261_4 : ad261.block ≠ gb260 := Kd.qZt (Kd.R_ne HO_13.out BK260.out (by decide)); have hn261_5 : ad261.block ≠ gb260 := Kd.qZt (Kd.R_ne HO_13.out BK260.out (by decide)); have hn261_6 : ad261.block ≠ gb260 := Kd.qZt (Kd.R_ne HO_13.out BK260.out (by decide)); have hn261_7 : ad261.block ≠ gb260 := Kd.qZt (Kd.R_ne HO_13.out BK260.out (by decide)); have hn261_8 : ad261.block ≠ gb260 := Kd.qZt (Kd.R_ne HO_13.out BK260.out (by decide)); have hn261_9 : ad261.block ≠ gb260 := Kd.qZt (Kd.R_ne HO_13.out BK260.out (by decide)); have hn261_10 : ad261.block ≠ gb260 := Kd.qZt (Kd.R_ne HO_13.out BK260.out (by decide)); have hn261_11 : ad261.block ≠ gb260 := Kd.qZt (Kd.R_ne HO_13.out BK260.out (by decide)); have hn261_12 : ad261.block ≠ gb260 := Kd.qZt (Kd.R_ne HO_13.out BK260.out (by decide)); replace hx261_0 := (cell_far (p := ⟨gb260, 0, none⟩) (by first | (rw [add_block]; exact hn261_0) | (show (Addr.add _ _).block ≠ _; rw [add_block]; exact hn261_0) | exact hn261_0) (.int .i64 ((qQa x9_2 x74_4).f0))).trans hx261_0; replace hx261_0 := (cell_far (p := ⟨gb260, 1, none⟩) (by first | (rw [add_block]; exact hn261_1) | (show (Addr.add _ _).block ≠ _; rw [add_block]; exact hn261_1) | exact hn261_1) (.int .i64 ((qQa x9_2 x74_4).f1))).trans hx261_0; replace hx261_0 := (cell_far (p := ⟨gb260, 2, none⟩) (by first | (rw [add_block]; exact hn261_2) | (show (Addr.add _ _).block ≠ _; rw [add_block]; exact hn261_2) | exact hn261_2) (.int .i64 ((qQa x9_2 x74_4).f2))).trans hx261_0; replace hx261_0 := (cell_far (p := ⟨gb260, 3, none⟩) (by first | (rw [add_block]; exact hn261_3) | (show (Addr.add _ _).block ≠ _; rw [add_block]; exact hn261_3) | exact hn261_3) (.int .i64 ((qQa x9_2 x74_4).f3))).trans hx261_0; replace hx261_0 := (cell_far (p := ⟨gb260, 4, none⟩) (by first | (rw [add_block]; exact hn261_4) | (show (Addr.add _ _).block ≠ _; rw [add_block]; exact hn261_4) | exact hn261_4) (.int .i64 ((qQa x9_2 x74_4).f4))).trans hx261_0; replace hx261_0 := (cell_far (p := ⟨gb260, 5, none⟩) (by first | (rw [add_block]; exact hn261_5) | (show (Addr.add _ _).block ≠ _; rw [add_block]; exact hn261_5) | exact hn261_5) (.int .i64 ((qQa x9_2 x74_4).f5))).trans hx261_0; replace hx261_0 := (cell_far (p := ⟨gb260, 6, none⟩) (by first | (rw [add_block]; exact hn261_6) | (show (Addr.add _ _).block ≠ _; rw [add_block]; exact hn261_6) | exact hn261_6) (.bool ((qQa x9_2 x74_4).f6))).trans hx261_0; replace hx261_0 := (cell_far (p := ⟨gb260, 7, none⟩) (by first | (rw [add_block]; exact hn261_7) | (show (Addr.add _ _).block ≠ _; rw [add_block]; exact hn261_7) | exact hn261_7) (.int .i64 ((qQa x9_2 x74_4).f7))).trans hx261_0; replace hx261_0 := (cell_far (p := ⟨gb260, 8, none⟩) (by first | (rw [add_block]; exact hn261_8) | (show (Addr.add _ _).block ≠ _; rw [add_block]; exact hn261_8) | exact hn261_8) (.int .i64 ((qQa x9_2 x74_4).f8))).trans hx261_0; replace hx261_0 := (cell_far (p := ⟨gb260, 9, none⟩) (by first | (rw [add_block]; exact hn261_9) | (show (Addr.add _ _).block ≠ _; rw [add_block]; exact hn261_9) | exact hn261_9) (.int .i64 ((qQa x9_2 x74_4).f9))).trans hx261_0; replace hx261_0 := (cell_far (p := ⟨gb260, 10, none⟩) (by first | (rw [add_block]; exact hn261_10) | (show (Addr.add _ _).block ≠ _; rw [add_block]; exact hn261_10) | exact hn261_10) (.int .i64 ((qQa x9_2 x74_4).f10))).trans hx261_0; replace hx261_0 := (cell_far (p := ⟨gb260, 11, none⟩) (by first | (rw [add_block]; exact hn261_11) | (show (Addr.add _ _).block ≠ _; rw [add_block]; exact hn261_11) | exact hn261_11) (.int .i64 ((qQa x9_2 x74_4).f11))).trans hx261_0; replace hx261_0 := (cell_far (p := ⟨gb260, 12, none⟩) (by first | (rw [add_block]; exact hn261_12) | (show (Addr.add _ _).block ≠ _; rw [add_block]; exact hn261_12) | exact hn261_12) (.int .i64 ((qQa x9_2 x74_4).f12))).trans hx261_0; clear hn261_0; clear hn261_1; clear hn261_2; clear hn261_3; clear hn261_4; clear hn261_5; clear hn261_6; clear hn261_7; clear hn261_8; clear hn261_9; clear hn261_10; clear hn261_11; clear hn261_12; replace p261 := eq_true p261; replace q261 := eq_true q261) | ((with_reducible refine qQh (f := 18) rfl ?_); refine goesL_ (some 95) rfl rfl Tryz.func18 (by kernel_rfl) rfl #[.agg #[.int .i64 ((qQa x9_2 x74_4).f0), .int .i64 ((qQa x9_2 x74_4).f1), .int .i64 ((qQa x9_2 x74_4).f2), .int .i64 ((qQa x9_2 x74_4).f3), .int .i64 ((qQa x9_2 x74_4).f4), .int .i64 ((qQa x9_2 x74_4).f5), .bool ((qQa x9_2 x74_4).f6), .int .i64 ((qQa x9_2 x74_4).f7), .int .i64 ((qQa x9_2 x74_4).f8), .int .i64 ((qQa x9_2 x74_4).f9), .int .i64 ((qQa x9_2 x74_4).f10), .int .i64 ((qQa x9_2 x74_4).f11), .int .i64 ((qQa x9_2 x74_4).f12)], .int .i64 t251, .int .i64 a2] rfl ml ?_; (with_reducible refine (qZ8.calls k4 ((qQa x9_2 x74_4).f0) ((qQa x9_2 x74_4).f1) ((qQa x9_2 x74_4).f2) ((qQa x9_2 x74_4).f3) ((qQa x9_2 x74_4).f4) ((qQa x9_2 x74_4).f5) ((qQa x9_2 x74_4).f6) ((qQa x9_2 x74_4).f7) ((qQa x9_2 x74_4).f8) ((qQa x9_2 x74_4).f9) ((qQa x9_2 x74_4).f10) ((qQa x9_2 x74_4).f11) ((qQa x9_2 x74_4).f12) t251 a2 t267 t268 _ A88.out).mono ?_); rintro e w96 ⟨rfl, hb⟩; refine ⟨_, rfl, ?_⟩; have n0_ := am (Kd.qQt (by (with_reducible repeat (first | apply Kd.qZz | apply Kd.qZ0 | apply Kd.qYi)); exact (Kd.qZ2 (R_far13b (Kd.qY7 HO_6.out BK260.out (by decide)) (fun _ hk => hk.2)) (fun _ h_ => h_.1))) hb); have n1_ := am (Kd.qQt (by (with_reducible repeat (first | apply Kd.qZz | apply Kd.qZ0 | apply Kd.qYi)); exact (Kd.qZ2 (R_far13b (Kd.qY7 HO_7.out BK260.out (by decide)) (fun _ hk => hk.2)) (fun _ h_ => h_.1))) hb); have n2_ := am (Kd.qQt (by (with_reducible repeat (first | apply Kd.qZz | apply Kd.qZ0 | apply Kd.qYi)); exact (Kd.qZ2 (R_far13b (Kd.qY7 HO_13.out BK260.out (by decide)) (fun _ hk => hk.2)) (fun _ h_ => h_.1))) hb); have n3_ := am (Kd.qQt (by (with_reducible repeat (first | apply Kd.qZz | apply Kd.qZ0 | apply Kd.qYi)); exact (Kd.qZ2 (R_far13b (Kd.qZ2 HO_72.out (fun k_ hk => (⟨hk, hk.2⟩ : _ ∧ k_ ≠ gb260))) (fun _ hk => hk.2)) (fun _ h_ => h_.1))) hb); have n4_ := am (qQg (g := gb237) (o := .cells #[.int .i64 a0_0, .slice A0_1 l0_1.length c0_1] 37 (0, 0)) (by (iterate 13 ((with_reducible repeat (first | refine qQj ?_ _ | refine qQv ?_ | refine qQm ?_ _)); refine qYr ?_ NB237_260.out _)); (with_reducible repeat (first | refine qQj ?_ _ | refine qQv ?_ | refine qQm ?_ _)); exact BK237.out) hb); have n5_ := am (qQg (g := gb238) (o := .cells #[.int .i64 a1_0, .slice A1_1 l1_1.length c1_1, .int .i64 a1_2, .int .i64 a1_3, .int .i64 a1_4, .int .i64 a1_5, .slice A1_6 l1_6.length c1_6, .int .i64 a1_7, .int .i64 a1_8, .int .i64 a1_9, .int .i64 a1_10, .int .i64 a1_11, .int .i64 a1_12] 28 (0, 0)) (by (iterate 13 ((with_reducible repeat (first | refine qQj ?_ _ | refine qQv ?_ | refine qQm ?_ _)); refine qYr ?_ NB238_260.out _)); (with_reducible repeat (first | refine qQj ?_ _ | refine qQv ?_ | refine qQm ?_ _)); exact BK238.out) hb); have n6_ := am (qQg (g := gb260) (o := .cells #[.int .i64 ((qQa x9_2 x74_4).f0), .int .i64 ((qQa x9_2 x74_4).f1), .int .i64 ((qQa x9_2 x74_4).f2), .int .i64 ((qQa x9_2 x74_4).f3), .int .i64 ((qQa x9_2 x74_4).f4), .int .i64 ((qQa x9_2 x74_4).f5), .bool ((qQa x9_2 x74_4).f6), .int .i64 ((qQa x9_2 x74_4).f7), .int .i64 ((qQa x9_2 x74_4).f8), .int .i64 ((qQa x9_2 x74_4).f9), .int .i64 ((qQa x9_2 x74_4).f10), .int .i64 ((qQa x9_2 x74_4).f11), .int .i64 ((qQa x9_2 x74_4).f12)] 48 (0, 0)) (by (with_reducible repeat (first | refine qQj ?_ _ | refine qQv ?_ | refine qQm ?_ _)); apply blk_put13b; (with_reducible repeat (first | refine qQj ?_ _ | refine qQv ?_ | refine qQm ?_ _)); exact BK260.out) hb); have n7_ := am (qQb (by exact h3q HB.out GE237.out GE238.out GE260.out) hb); clear HO_6; clear HO_7; clear HO_13; clear HO_72; clear BK237; clear BK238; clear BK260; clear HB; have HO_6 := n0_; have HO_7 := n1_; have HO_13 := n2_; have HO_72 := n3_; have BK237 := n4_; have BK238 := n5_; have BK260 := n6_; have HB := n7_; clear n0_ n1_ n2_ n3_ n4_ n5_ n6_ n7_; (try clear hb); (try clear hb2); (try clear hk); (try clear hi)) | ((with_reducible refine qX5 (b := .append) (xs := #[.tmp 101, .tmp 103]) rfl ?_); at_builtin; refine Kd.qVn (Kd.int .i64) (w0 := w) w.heap.size rfl (.tmp 101) (.tmp 103) 22 2 (.int .i64 0) 8 rfl Tryz.underlying22 info2 rfl (by decide) (by omega) u7 x7_4 t267 [.int .i64 t267] (fun k_ => some k_ ≠ (.slice (some ad261) x13_48.length co95 : Value).ownBlock) (fun _ => False) rfl rfl ?aP (fun _ hk => hk.elim) ?aF ?aO ?aB ?aS ?aL ?_; (case aP => exact rfl); (case aB => exact (by exact h3q HB.out GE237.out GE238.out GE260.out)); (case aF => exact (fun k_ hk => Kd.fresh' (Kd.R_lt (by exact rq HO_13.out)) k_ hk)); (case aO => exact (by exact rq HO_7.out)); (case aS => exact (qQd (by exact h3q HB.out GE237.out GE238.out GE260.out))); (case aL => have := LMc90.out; omega); intro v270 w97 ho hb hg hat; rw [← Ny269.out] at ho; have n0_ := am (Kd.qX9 (by exact rq HO_6.out) (Kd.qX8 (by exact rq HO_7.out)) (by decide) hg); have n1_ := am (Kd.zXd (ok := (fun _ => True)) (by (with_reducible repeat (first | apply Kd.qZz | apply Kd.qZ0 | apply Kd.qYi)); exact Kd.qZ2 HO_13.out (fun _ hk => ⟨trivial, hk⟩)) hg hat); have n2_ := am (Kd.qX9 (by exact rq HO_72.out) (Kd.qX8 (by exact rq HO_7.out)) (by decide) hg); have n3_ := am (qYs (g := gb237) (Up.up BK237.out) hg (Kd.R_ne HO_7.out BK237.out (by decide))); have n4_ := am (qYs (g := gb238) (Up.up BK238.out) hg (Kd.R_ne HO_7.out BK238.out (by decide))); have n5_ := am (qYs (g := gb260) (Up.up BK260.out) hg (Kd.R_ne HO_7.out BK260.out (by decide))); have n6_ := am (hb); have n7_ := am (ho); clear HO_6; clear HO_13; clear HO_72; clear BK237; clear BK238; clear BK260; clear HB; clear HO_7; have HO_6 := n0_; have HO_13 := n1_; have HO_72 := n2_; have BK237 := n3_; have BK238 := n4_; have BK260 := n5_; have HB := n6_; have HO271 := n7_; clear n0_ n1_ n2_ n3_ n4_ n5_ n6_ n7_; clear ho hb hg hat))
                 go_roundg k4
                 case measure => have := HJ3.out; have := HK2.out; have := HJ48.out; have := HK4.out; omega
                 case rel => exact ⟨(x6_4), (y269), (wrap64 (x74_4 + 1)), (by first | rfl | (simp; done) | (simp [*]; done)), H', ⟨by have := HJ3.out; have := HK2.out; have := HJ48.out; have := HK4.out; omega⟩, ⟨by exact rq HO_6.out⟩, ⟨by exact rq HO271.out⟩, ⟨by (with_reducible repeat (first | apply Kd.qZz | apply Kd.qZ0 | apply Kd.qYi)); exact Kd.qZ2 HO_13.out (fun _ hk => hk.2)⟩, ⟨by (with_reducible repeat (first | apply Kd.qZz | apply Kd.qZ0 | apply Kd.qYi)); exact Kd.qZ2 HO_72.out (fun _ hk => trivial)⟩, ⟨by exact bb BK237.out⟩, ⟨by exact bb BK238.out⟩, ⟨by exact h3q HB.out GE237.out GE238.out GE260.out⟩⟩
                ·rw [if_neg c90] at H
                 exact absurd H (by simp)
               ·rw [if_neg c89] at H
                have c89b0 : (t268 == 0) = false := beq_eq_false_iff_ne.mpr c89
                have c89b1 : (t268 != 0) = true := bne_iff_ne.mpr c89
                simp only [Option.some.injEq, Prod.mk.injEq] at H
                obtain ⟨rfl, rfl, rfl⟩ := H
                have p259 : 0 ≤ (x74_4 : Int) := yd
                have q259 : x74_4 < (x9_2.length : Int) := yd
                obtain ⟨ad259, e259, hx259_0, hx259_1, hx259_2, hx259_3, hx259_4, hx259_5, hx259_6, hx259_7, hx259_8, hx259_9, hx259_10, hx259_11, hx259_12⟩ := qY8 (Kd.qZe HO_72.out).2.2 x74_4 p259 q259
                cases e259
                replace p259 := eq_true p259
                replace q259 := eq_true q259
                go_wp2_with (first | ((with_reducible refine qQ0 (N := 15) rfl ?_); refine qQs ?hg (N := 15) ?hd (cs := #[.int .i64 0, .int .i64 0, .int .i64 0, .int .i64 0, .int .i64 0, .int .i64 0, .bool false, .int .i64 0, .int .i64 0, .int .i64 0, .int .i64 0, .int .i64 0, .int .i64 0]) (t := 48) ?hr ?_; (case hd => rfl); (case hg => rfl); (case hr => first | (go_simp; done) | (go_simp; rfl)); intro gb260 hg w98 hbox hb; have n0_ := am (Kd.qQt (by exact rq HO_6.out) hb); have n1_ := am (Kd.qQt (by exact rq HO_7.out) hb); have n2_ := am (Kd.qQt (by exact rq HO_13.out) hb); have n3_ := am (Kd.qQt (Kd.qWt (by exact rq HO_72.out) gb260 (Nat.le_of_eq hg.symm)) hb); have n4_ := am (qQg (g := gb237) (Up.up BK237.out) hb); have n5_ := am (qQg (g := gb238) (Up.up BK238.out) hb); have n6_ := am (qQb (by exact h2q HB.out GE237.out GE238.out) hb); have n7_ := am (hbox); have n8_ := am ((by rw [hg]; exact (qQd (by exact h2q HB.out GE237.out GE238.out)) : w.heap.size ≤ gb260)); have n9_ := am ((by rw [hg]; exact (qQd (by exact h2q HB.out GE237.out GE238.out)) : w.heap.size ≤ gb260)); have n10_ := am ((by rw [hg]; exact Nat.ne_of_lt (qZr (g := gb237) (Up.up BK237.out)) : gb237 ≠ gb260)); have n11_ := am ((by rw [hg]; exact Nat.ne_of_gt (qZr (g := gb237) (Up.up BK237.out)) : gb260 ≠ gb237)); have n12_ := am ((by rw [hg]; exact Nat.ne_of_lt (qZr (g := gb238) (Up.up BK238.out)) : gb238 ≠ gb260)); have n13_ := am ((by rw [hg]; exact Nat.ne_of_gt (qZr (g := gb238) (Up.up BK238.out)) : gb260 ≠ gb238)); clear HO_6; clear HO_7; clear HO_13; clear HO_72; clear BK237; clear BK238; clear HB; have HO_6 := n0_; have HO_7 := n1_; have HO_13 := n2_; have HO_72 := n3_; have BK237 := n4_; have BK238 := n5_; have HB := n6_; have BK260 := n7_; have GW260 := n8_; have GE260 := n9_; have NB237_260 := n10_; have NB260_237 := n11_; have NB238_260 := n12_; have NB260_238 := n13_; clear n0_ n1_ n2_ n3_ n4_ n5_ n6_ n7_ n8_ n9_ n10_ n11_ n12_ n13_; clear hb hbox hg; have hnb99 := NB260_237.out; have hnc99 := NB237_260.out; have hnb100 := NB260_238.out; have hnc100 := NB238_260.out; have hz101 := lc13 BK260.out; obtain ⟨Ao102, co102, eo102⟩ := Kd.qYy HO_13.out; subst eo102; have p261 : 0 ≤ (x74_4 : Int) := yd; have q261 : x74_4 < (x13_48.length : Int) := yd; obtain ⟨ad261, e261, hx261_0⟩ := Kd.qZx (Kd.qZe HO_13.out).2.2 x74_4 p261 q261; cases e261; have hn261_0 : ad261.block ≠ gb260 := Kd.qZt (Kd.R_ne HO_13.out BK260.out (by decide)); have hn261_1 : ad261.block ≠ gb260 := Kd.qZt (Kd.R_ne HO_13.out BK260.out (by decide)); have hn261_2 : ad261.block ≠ gb260 := Kd.qZt (Kd.R_ne HO_13.out BK260.out (by decide)); have hn261_3 : ad261.block ≠ gb260 := Kd.qZt (Kd.R_ne HO_13.out BK260.out (by decide)); have hn261_4 : ad261.block ≠ gb260 := Kd.qZt (Kd.R_ne HO_13.out BK260.out (by decide)); have hn261_5 : ad261.block ≠ gb260 := Kd.qZt (Kd.R_ne HO_13.out BK260.out (by decide)); have hn261_6 : ad261.block ≠ gb260 := Kd.qZt (Kd.R_ne HO_13.out BK260.out (by decide)); have hn261_7 : ad261.block ≠ gb260 := Kd.qZt (Kd.R_ne HO_13.out BK260.out (by decide)); have hn261_8 : ad261.block ≠ gb260 := Kd.qZt (Kd.R_ne HO_13.out BK260.out (by decide)); have hn261_9 : ad261.block ≠ gb260 := Kd.qZt (Kd.R_ne HO_13.out BK260.out (by decide)); have hn261_10 : ad261.block ≠ gb260 := Kd.qZt (Kd.R_ne HO_13.out BK260.out (by decide)); have hn261_11 : ad261.block ≠ gb260 := Kd.qZt (Kd.R_ne HO_13.out BK260.out (by decide)); have hn261_12 : ad261.block ≠ gb260 := Kd.qZt (Kd.R_ne HO_13.out BK260.out (by decide)); replace hx261_0 := (cell_far (p := ⟨gb260, 0, none⟩) (by first | (rw [add_block]; exact hn261_0) | (show (Addr.add _ _).block ≠ _; rw [add_block]; exact hn261_0) | exact hn261_0) (.int .i64 ((qQa x9_2 x74_4).f0))).trans hx261_0; replace hx261_0 := (cell_far (p := ⟨gb260, 1, none⟩) (by first | (rw [add_block]; exact hn261_1) | (show (Addr.add _ _).block ≠ _; rw [add_block]; exact hn261_1) | exact hn261_1) (.int .i64 ((qQa x9_2 x74_4).f1))).trans hx261_0; replace hx261_0 := (cell_far (p := ⟨gb260, 2, none⟩) (by first | (rw [add_block]; exact hn261_2) | (show (Addr.add _ _).block ≠ _; rw [add_block]; exact hn261_2) | exact hn261_2) (.int .i64 ((qQa x9_2 x74_4).f2))).trans hx261_0; replace hx261_0 := (cell_far (p := ⟨gb260, 3, none⟩) (by first | (rw [add_block]; exact hn261_3) | (show (Addr.add _ _).block ≠ _; rw [add_block]; exact hn261_3) | exact hn261_3) (.int .i64 ((qQa x9_2 x74_4).f3))).trans hx261_0; replace hx261_0 := (cell_far (p := ⟨gb260, 4, none⟩) (by first | (rw [add_block]; exact hn261_4) | (show (Addr.add _ _).block ≠ _; rw [add_block]; exact hn261_4) | exact hn261_4) (.int .i64 ((qQa x9_2 x74_4).f4))).trans hx261_0; replace hx261_0 := (cell_far (p := ⟨gb260, 5, none⟩) (by first | (rw [add_block]; exact hn261_5) | (show (Addr.add _ _).block ≠ _; rw [add_block]; exact hn261_5) | exact hn261_5) (.int .i64 ((qQa x9_2 x74_4).f5))).trans hx261_0; replace hx261_0 := (cell_far (p := ⟨gb260, 6, none⟩) (by first | (rw [add_block]; exact hn261_6) | (show (Addr.add _ _).block ≠ _; rw [add_block]; exact hn261_6) | exact hn261_6) (.bool ((qQa x9_2 x74_4).f6))).trans hx261_0; replace hx261_0 := (cell_far (p := ⟨gb260, 7, none⟩) (by first | (rw [add_block]; exact hn261_7) | (show (Addr.add _ _).block ≠ _; rw [add_block]; exact hn261_7) | exact hn261_7) (.int .i64 ((qQa x9_2 x74_4).f7))).trans hx261_0; replace hx261_0 := (cell_far (p := ⟨gb260, 8, none⟩) (by first | (rw [add_block]; exact hn261_8) | (show (Addr.add _ _).block ≠ _; rw [add_block]; exact hn261_8) | exact hn261_8) (.int .i64 ((qQa x9_2 x74_4).f8))).trans hx261_0; replace hx261_0 := (cell_far (p := ⟨gb260, 9, none⟩) (by first | (rw [add_block]; exact hn261_9) | (show (Addr.add _ _).block ≠ _; rw [add_block]; exact hn261_9) | exact hn261_9) (.int .i64 ((qQa x9_2 x74_4).f9))).trans hx261_0; replace hx261_0 := (cell_far (p := ⟨gb260, 10, none⟩) (by first | (rw [add_block]; exact hn261_10) | (show (Addr.add _ _).block ≠ _; rw [add_block]; exact hn261_10) | exact hn261_10) (.int .i64 ((qQa x9_2 x74_4).f10))).trans hx261_0; replace hx261_0 := (cell_far (p := ⟨gb260, 11, none⟩) (by first | (rw [add_block]; exact hn261_11) | (show (Addr.add _ _).block ≠ _; rw [add_block]; exact hn261_11) | exact hn261_11) (.int .i64 ((qQa x9_2 x74_4).f11))).trans hx261_0; replace hx261_0 := (cell_far (p := ⟨gb260, 12, none⟩) (by first | (rw [add_block]; exact hn261_12) | (show (Addr.add _ _).block ≠ _; rw [add_block]; exact hn261_12) | exact hn261_12) (.int .i64 ((qQa x9_2 x74_4).f12))).trans hx261_0; clear hn261_0; clear hn261_1; clear hn261_2; clear hn261_3; clear hn261_4; clear hn261_5; clear hn261_6; clear hn261_7; clear hn261_8; clear hn261_9; clear hn261_10; clear hn261_11; clear hn261_12; replace p261 := eq_true p261; replace q261 := eq_true q261) | ((with_reducible refine qQh (f := 18) rfl ?_); refine goesL_ (some 95) rfl rfl Tryz.func18 (by kernel_rfl) rfl #[.agg #[.int .i64 ((qQa x9_2 x74_4).f0), .int .i64 ((qQa x9_2 x74_4).f1), .int .i64 ((qQa x9_2 x74_4).f2), .int .i64 ((qQa x9_2 x74_4).f3), .int .i64 ((qQa x9_2 x74_4).f4), .int .i64 ((qQa x9_2 x74_4).f5), .bool ((qQa x9_2 x74_4).f6), .int .i64 ((qQa x9_2 x74_4).f7), .int .i64 ((qQa x9_2 x74_4).f8), .int .i64 ((qQa x9_2 x74_4).f9), .int .i64 ((qQa x9_2 x74_4).f10), .int .i64 ((qQa x9_2 x74_4).f11), .int .i64 ((qQa x9_2 x74_4).f12)], .int .i64 t251, .int .i64 a2] rfl ml ?_; (with_reducible refine (qZ8.calls k4 ((qQa x9_2 x74_4).f0) ((qQa x9_2 x74_4).f1) ((qQa x9_2 x74_4).f2) ((qQa x9_2 x74_4).f3) ((qQa x9_2 x74_4).f4) ((qQa x9_2 x74_4).f5) ((qQa x9_2 x74_4).f6) ((qQa x9_2 x74_4).f7) ((qQa x9_2 x74_4).f8) ((qQa x9_2 x74_4).f9) ((qQa x9_2 x74_4).f10) ((qQa x9_2 x74_4).f11) ((qQa x9_2 x74_4).f12) t251 a2 t267 t268 _ A88.out).mono ?_); rintro e w103 ⟨rfl, hb⟩; refine ⟨_, rfl, ?_⟩; have n0_ := am (Kd.qQt (by (with_reducible repeat (first | apply Kd.qZz | apply Kd.qZ0 | apply Kd.qYi)); exact (Kd.qZ2 (R_far13b (Kd.qY7 HO_6.out BK260.out (by decide)) (fun _ hk => hk.2)) (fun _ h_ => h_.1))) hb); have n1_ := am (Kd.qQt (by (with_reducible repeat (first | apply Kd.qZz | apply Kd.qZ0 | apply Kd.qYi)); exact (Kd.qZ2 (R_far13b (Kd.qY7 HO_7.out BK260.out (by decide)) (fun _ hk => hk.2)) (fun _ h_ => h_.1))) hb); have n2_ := am (Kd.qQt (by (with_reducible repeat (first | apply Kd.qZz | apply Kd.qZ0 | apply Kd.qYi)); exact (Kd.qZ2 (R_far13b (Kd.qY7 HO_13.out BK260.out (by decide)) (fun _ hk => hk.2)) (fun _ h_ => h_.1))) hb); have n3_ := am (Kd.qQt (by (with_reducible repeat (first | apply Kd.qZz | apply Kd.qZ0 | apply Kd.qYi)); exact (Kd.qZ2 (R_far13b (Kd.qZ2 HO_72.out (fun k_ hk => (⟨hk, hk.2⟩ : _ ∧ k_ ≠ gb260))) (fun _ hk => hk.2)) (fun _ h_ => h_.1))) hb); have n4_ := am (qQg (g := gb237) (o := .cells #[.int .i64 a0_0, .slice A0_1 l0_1.length c0_1] 37 (0, 0)) (by (iterate 13 ((with_reducible repeat (first | refine qQj ?_ _ | refine qQv ?_ | refine qQm ?_ _)); refine qYr ?_ NB237_260.out _)); (with_reducible repeat (first | refine qQj ?_ _ | refine qQv ?_ | refine qQm ?_ _)); exact BK237.out) hb); have n5_ := am (qQg (g := gb238) (o := .cells #[.int .i64 a1_0, .slice A1_1 l1_1.length c1_1, .int .i64 a1_2, .int .i64 a1_3, .int .i64 a1_4, .int .i64 a1_5, .slice A1_6 l1_6.length c1_6, .int .i64 a1_7, .int .i64 a1_8, .int .i64 a1_9, .int .i64 a1_10, .int .i64 a1_11, .int .i64 a1_12] 28 (0, 0)) (by (iterate 13 ((with_reducible repeat (first | refine qQj ?_ _ | refine qQv ?_ | refine qQm ?_ _)); refine qYr ?_ NB238_260.out _)); (with_reducible repeat (first | refine qQj ?_ _ | refine qQv ?_ | refine qQm ?_ _)); exact BK238.out) hb); have n6_ := am (qQg (g := gb260) (o := .cells #[.int .i64 ((qQa x9_2 x74_4).f0), .int .i64 ((qQa x9_2 x74_4).f1), .int .i64 ((qQa x9_2 x74_4).f2), .int .i64 ((qQa x9_2 x74_4).f3), .int .i64 ((qQa x9_2 x74_4).f4), .int .i64 ((qQa x9_2 x74_4).f5), .bool ((qQa x9_2 x74_4).f6), .int .i64 ((qQa x9_2 x74_4).f7), .int .i64 ((qQa x9_2 x74_4).f8), .int .i64 ((qQa x9_2 x74_4).f9), .int .i64 ((qQa x9_2 x74_4).f10), .int .i64 ((qQa x9_2 x74_4).f11), .int .i64 ((qQa x9_2 x74_4).f12)] 48 (0, 0)) (by (with_reducible repeat (first | refine qQj ?_ _ | refine qQv ?_ | refine qQm ?_ _)); apply blk_put13b; (with_reducible repeat (first | refine qQj ?_ _ | refine qQv ?_ | refine qQm ?_ _)); exact BK260.out) hb); have n7_ := am (qQb (by exact h3q HB.out GE237.out GE238.out GE260.out) hb); clear HO_6; clear HO_7; clear HO_13; clear HO_72; clear BK237; clear BK238; clear BK260; clear HB; have HO_6 := n0_; have HO_7 := n1_; have HO_13 := n2_; have HO_72 := n3_; have BK237 := n4_; have BK238 := n5_; have BK260 := n6_; have HB := n7_; clear n0_ n1_ n2_ n3_ n4_ n5_ n6_ n7_; (try clear hb); (try clear hb2); (try clear hk); (try clear hi)))
                go_ret3
                exact ⟨_, _, er, by first | exact Kd.R_nil _ _ _ _ _ | exact Kd.N_nil _ _ _ _ _ | exact Kd.V_nil _ _ _ _ _ | exact Kd.Q_nil _ _ _ _ _ | exact Kd.S_nil _ _ _ _ _, by first | exact Kd.R_nil _ _ _ _ _ | exact Kd.N_nil _ _ _ _ _ | exact Kd.V_nil _ _ _ _ _ | exact Kd.Q_nil _ _ _ _ _ | exact Kd.S_nil _ _ _ _ _, by exact h3q HB.out GE237.out GE238.out GE260.out⟩
             ·rw [if_neg c70] at H
              exact absurd H (by simp)
            ·rw [if_neg c69] at H
             exact absurd H (by simp)
           ·rw [if_neg c68] at H
            exact absurd H (by simp)
          ·rw [if_neg c67] at H
           have c67b0 : decide (x74_4 < (x9_2.length : Int)) = false := decide_eq_false c67
           clear c67
           simp only [Option.some.injEq, Prod.mk.injEq] at H
           obtain ⟨rfl, rfl, rfl⟩ := H
           go_wp2
           go_ret3
           exact ⟨_, _, er, by (with_reducible repeat (first | apply Kd.qZz | apply Kd.qZ0 | apply Kd.qYi)); exact HO_6.out, by (with_reducible repeat (first | apply Kd.qZz | apply Kd.qZ0 | apply Kd.qYi)); exact Kd.qZ2 HO_7.out (fun _ hk => trivial), by exact h2q HB.out GE237.out GE238.out⟩
       ·rw [if_neg c48] at H
        exact absurd H (by simp)
      ·rw [if_neg c47] at H
       exact absurd H (by simp)
def qZf.f (a0_0 : Int) (a0_1 : Int) (a0_2 : Int) (a0_3 : Int) (a0_4 : Int) (a0_5 : Int) (a0_6 : Bool) (a0_7 : Int) (a0_8 : Int) (a0_9 : Int) (a0_10 : Int) (a0_11 : Int) (a0_12 : Int) : Option (Bool) := if a0_8 = 0 then (some (a0_7 == 5)) else (some false)
set_option maxHeartbeats 8000000 in
set_option maxRecDepth 100000 in
theorem qZf.calls (a0_0 : Int) (a0_1 : Int) (a0_2 : Int) (a0_3 : Int) (a0_4 : Int) (a0_5 : Int) (a0_6 : Bool) (a0_7 : Int) (a0_8 : Int) (a0_9 : Int) (a0_10 : Int) (a0_11 : Int) (a0_12 : Int) (r : Bool) (w : World) (h : qZf.f a0_0 a0_1 a0_2 a0_3 a0_4 a0_5 a0_6 a0_7 a0_8 a0_9 a0_10 a0_11 a0_12 = some r) :
  Calls Tryz.prog 13 #[.agg #[.int .i64 a0_0, .int .i64 a0_1, .int .i64 a0_2, .int .i64 a0_3, .int .i64 a0_4, .int .i64 a0_5, .bool a0_6, .int .i64 a0_7, .int .i64 a0_8, .int .i64 a0_9, .int .i64 a0_10, .int .i64 a0_11, .int .i64 a0_12]] w fun e w' => e = .returned (.bool r) ∧ Below w.heap.size w w' := by
 have hu48 := Tryz.underlying48
 have HB := am (Below.refl w.heap.size w)
 have H : (if a0_8 = 0 then (some (a0_7 == 5)) else (some false)) = some r := h
 clear h
 by_cases c2 : a0_8 = 0
 ·rw [if_pos c2] at H
  have c2b0 : (a0_8 == 0) = true := beq_iff_eq.mpr c2
  have c2b1 : (a0_8 != 0) = false := bne_eq_false_iff_eq.mpr c2
  clear c2
  obtain rfl := Option.some.inj H
  go_enter Tryz.func13, Tryz.ntmps13
  go_wp2_with (first | ((with_reducible refine qQ0 (N := 1) rfl ?_); refine qQs ?hg (N := 1) ?hd (cs := #[.int .i64 a0_0, .int .i64 a0_1, .int .i64 a0_2, .int .i64 a0_3, .int .i64 a0_4, .int .i64 a0_5, .bool a0_6, .int .i64 a0_7, .int .i64 a0_8, .int .i64 a0_9, .int .i64 a0_10, .int .i64 a0_11, .int .i64 a0_12]) (t := 48) ?hr ?_; (case hd => rfl); (case hg => rfl); (case hr => first | (go_simp; done) | (go_simp; rfl)); intro gb356 hg w3 hbox hb; have n0_ := am (qQb (by exact h0q HB.out) hb); have n1_ := am (hbox); have n2_ := am ((by rw [hg]; exact (qQd (by exact h0q HB.out)) : w.heap.size ≤ gb356)); have n3_ := am ((by rw [hg]; exact (qQd (by exact h0q HB.out)) : w.heap.size ≤ gb356)); clear HB; have HB := n0_; have BK356 := n1_; have GW356 := n2_; have GE356 := n3_; clear n0_ n1_ n2_ n3_; clear hb hbox hg; have hz4 := lc13 BK356.out))
  go_ret
  exact ⟨er, by exact h1q HB.out GE356.out⟩
 ·rw [if_neg c2] at H
  have c2b0 : (a0_8 == 0) = false := beq_eq_false_iff_ne.mpr c2
  have c2b1 : (a0_8 != 0) = true := bne_iff_ne.mpr c2
  obtain rfl := Option.some.inj H
  go_enter Tryz.func13, Tryz.ntmps13
  go_wp2_with (first | ((with_reducible refine qQ0 (N := 1) rfl ?_); refine qQs ?hg (N := 1) ?hd (cs := #[.int .i64 a0_0, .int .i64 a0_1, .int .i64 a0_2, .int .i64 a0_3, .int .i64 a0_4, .int .i64 a0_5, .bool a0_6, .int .i64 a0_7, .int .i64 a0_8, .int .i64 a0_9, .int .i64 a0_10, .int .i64 a0_11, .int .i64 a0_12]) (t := 48) ?hr ?_; (case hd => rfl); (case hg => rfl); (case hr => first | (go_simp; done) | (go_simp; rfl)); intro gb356 hg w5 hbox hb; have n0_ := am (qQb (by exact h0q HB.out) hb); have n1_ := am (hbox); have n2_ := am ((by rw [hg]; exact (qQd (by exact h0q HB.out)) : w.heap.size ≤ gb356)); have n3_ := am ((by rw [hg]; exact (qQd (by exact h0q HB.out)) : w.heap.size ≤ gb356)); clear HB; have HB := n0_; have BK356 := n1_; have GW356 := n2_; have GE356 := n3_; clear n0_ n1_ n2_ n3_; clear hb hbox hg; have hz6 := lc13 BK356.out))
  go_ret
  exact ⟨er, by exact h1q HB.out GE356.out⟩
def qYo.f (a0 : Int) : Option (Bool) := if a0 ≥ 0 then (some (decide (a0 ≤ 87658))) else (some false)
set_option maxHeartbeats 8000000 in
set_option maxRecDepth 100000 in
theorem qYo.calls (a0 : Int) (r : Bool) (w : World) (h : qYo.f a0 = some r) :
  Calls Tryz.prog 32 #[.int .i64 a0] w fun e w' => e = .returned (.bool r) ∧ Drawn0 w w' := by
 have H : (if a0 ≥ 0 then (some (decide (a0 ≤ 87658))) else (some false)) = some r := h
 clear h
 by_cases c2 : a0 ≥ 0
 ·rw [if_pos c2] at H
  have c2b0 : decide (0 ≤ a0) = true := decide_eq_true c2
  clear c2
  obtain rfl := Option.some.inj H
  go_enter Tryz.func32, Tryz.ntmps32
  go_wp2
  go_ret
  exact ⟨by first | rfl | (simp; done) | (simp [*]; done), by repeat (first | exact Drawn0.refl _ | apply Drawn0.step)⟩
 ·rw [if_neg c2] at H
  have c2b0 : decide (0 ≤ a0) = false := decide_eq_false c2
  clear c2
  obtain rfl := Option.some.inj H
  go_enter Tryz.func32, Tryz.ntmps32
  go_wp2
  go_ret
  exact ⟨by first | rfl | (simp; done) | (simp [*]; done), by repeat (first | exact Drawn0.refl _ | apply Drawn0.step)⟩
def qYl.f (a0 : Int) : Option (Bool) := if (Int.tmod a0 4) = 0 then (if (Int.tmod a0 100) = 0 then (some ((Int.tmod a0 400) == 0)) else (some true)) else (some ((Int.tmod a0 400) == 0))
set_option maxHeartbeats 8000000 in
set_option maxRecDepth 100000 in
theorem qYl.calls (a0 : Int) (r : Bool) (w : World) (h : qYl.f a0 = some r) :
  Calls Tryz.prog 90 #[.int .i64 a0] w fun e w' => e = .returned (.bool r) ∧ Drawn0 w w' := by
 have H : (if (Int.tmod a0 4) = 0 then (if (Int.tmod a0 100) = 0 then (some ((Int.tmod a0 400) == 0)) else (some true)) else (some ((Int.tmod a0 400) == 0))) = some r := h
 clear h
 by_cases c2 : (Int.tmod a0 4) = 0
 ·rw [if_pos c2] at H
  have c2b0 : ((Int.tmod a0 4) == 0) = true := beq_iff_eq.mpr c2
  have c2b1 : ((Int.tmod a0 4) != 0) = false := bne_eq_false_iff_eq.mpr c2
  clear c2
  by_cases c3 : (Int.tmod a0 100) = 0
  ·rw [if_pos c3] at H
   have c3b0 : ((Int.tmod a0 100) == 0) = true := beq_iff_eq.mpr c3
   have c3b1 : ((Int.tmod a0 100) != 0) = false := bne_eq_false_iff_eq.mpr c3
   clear c3
   obtain rfl := Option.some.inj H
   go_enter Tryz.func90, Tryz.ntmps90
   go_wp2
   go_ret
   exact ⟨by first | rfl | (simp; done) | (simp [*]; done), by repeat (first | exact Drawn0.refl _ | apply Drawn0.step)⟩
  ·rw [if_neg c3] at H
   have c3b0 : ((Int.tmod a0 100) == 0) = false := beq_eq_false_iff_ne.mpr c3
   have c3b1 : ((Int.tmod a0 100) != 0) = true := bne_iff_ne.mpr c3
   obtain rfl := Option.some.inj H
   go_enter Tryz.func90, Tryz.ntmps90
   go_wp2
   go_ret
   exact ⟨by first | rfl | (simp; done) | (simp [*]; done), by repeat (first | exact Drawn0.refl _ | apply Drawn0.step)⟩
 ·rw [if_neg c2] at H
  have c2b0 : ((Int.tmod a0 4) == 0) = false := beq_eq_false_iff_ne.mpr c2
  have c2b1 : ((Int.tmod a0 4) != 0) = true := bne_iff_ne.mpr c2
  obtain rfl := Option.some.inj H
  go_enter Tryz.func90, Tryz.ntmps90
  go_wp2
  go_ret
  exact ⟨by first | rfl | (simp; done) | (simp [*]; done), by repeat (first | exact Drawn0.refl _ | apply Drawn0.step)⟩
mutual
def qQn.j0 : Nat → Int → Int → Bool → Option (Int)
 | 0, _, _, _ => none
 | k + 1, x0, x5, x6 => if x6 = true then (some 31) else (if x5 = 4 then (qQn.j1 k x0 x5 (x5 == 4)) else (if x5 = 6 then (qQn.j1 k x0 x5 (x5 == 6)) else (if x5 = 9 then (qQn.j1 k x0 x5 (x5 == 9)) else (qQn.j1 k x0 x5 (x5 == 11)))))
def qQn.j1 : Nat → Int → Int → Bool → Option (Int)
 | 0, _, _, _ => none
 | k + 1, x0, x5, x14 => if x14 = true then (some 30) else (if x5 = 2 then ((qYl.f x0).bind fun t357 => (if t357 = true then (some 29) else (some 28))) else (some 0))
end
def qQn.f (k : Nat) (a0 : Int) (a1 : Int) : Option (Int) := if a1 = 1 then (qQn.j0 k a0 a1 (a1 == 1)) else (if a1 = 3 then (qQn.j0 k a0 a1 (a1 == 3)) else (if a1 = 5 then (qQn.j0 k a0 a1 (a1 == 5)) else (if a1 = 7 then (qQn.j0 k a0 a1 (a1 == 7)) else (if a1 = 8 then (qQn.j0 k a0 a1 (a1 == 8)) else (if a1 = 10 then (qQn.j0 k a0 a1 (a1 == 10)) else (qQn.j0 k a0 a1 (a1 == 12)))))))
set_option maxHeartbeats 8000000 in
set_option maxRecDepth 100000 in
theorem qQn.calls (k : Nat) (a0 : Int) (a1 : Int) (r : Int) (w : World) (h : qQn.f k a0 a1 = some r) :
  Calls Tryz.prog 62 #[.int .i64 a0, .int .i64 a1] w fun e w' => e = .returned (.int .i64 r) ∧ Drawn0 w w' := by
 have H : (if a1 = 1 then (qQn.j0 k a0 a1 (a1 == 1)) else (if a1 = 3 then (qQn.j0 k a0 a1 (a1 == 3)) else (if a1 = 5 then (qQn.j0 k a0 a1 (a1 == 5)) else (if a1 = 7 then (qQn.j0 k a0 a1 (a1 == 7)) else (if a1 = 8 then (qQn.j0 k a0 a1 (a1 == 8)) else (if a1 = 10 then (qQn.j0 k a0 a1 (a1 == 10)) else (qQn.j0 k a0 a1 (a1 == 12)))))))) = some r := h
 clear h
 have HC3 := am H
 clear H
 go_enter Tryz.func62, Tryz.ntmps62
 go_upto_if 6 with (fail)
 go_cut [6] (fun v6 wc => ∃ (kq : Nat) (x6_2 : Bool), v6 = .bool x6_2 ∧ Aside0 (qQn.j0 kq a0 a1 x6_2 = some r) ∧ Aside0 (kq ≤ k) ∧ Drawn0 w wc)
 case first =>
  have H := HC3.out
  clear HC3
  by_cases c4 : a1 = 1
  ·rw [if_pos c4] at H
   have c4b0 : (a1 == 1) = true := beq_iff_eq.mpr c4
   have c4b1 : (a1 != 1) = false := bne_eq_false_iff_eq.mpr c4
   clear c4
   (first | rw [c4b0] | (simp only [i64_w, i32_w]; rw [c4b0]) | skip)
   have H' := am H
   clear H
   go_wp2
   go_meet
   case rel => exact ⟨_, ((a1 == 1)), (by first | rfl | (simp; done) | (simp [*]; done)), H', ⟨by first | omega | exact Nat.le_refl _⟩, by repeat (first | exact Drawn0.refl _ | apply Drawn0.step)⟩
  ·rw [if_neg c4] at H
   have c4b0 : (a1 == 1) = false := beq_eq_false_iff_ne.mpr c4
   have c4b1 : (a1 != 1) = true := bne_iff_ne.mpr c4
   (first | rw [c4b0] | (simp only [i64_w, i32_w]; rw [c4b0]) | skip)
   by_cases c5 : a1 = 3
   ·rw [if_pos c5] at H
    have c5b0 : (a1 == 3) = true := beq_iff_eq.mpr c5
    have c5b1 : (a1 != 3) = false := bne_eq_false_iff_eq.mpr c5
    clear c5
    have H' := am H
    clear H
    go_wp2
    go_meet
    case rel => exact ⟨_, ((a1 == 3)), (by first | rfl | (simp; done) | (simp [*]; done)), H', ⟨by first | omega | exact Nat.le_refl _⟩, by repeat (first | exact Drawn0.refl _ | apply Drawn0.step)⟩
   ·rw [if_neg c5] at H
    have c5b0 : (a1 == 3) = false := beq_eq_false_iff_ne.mpr c5
    have c5b1 : (a1 != 3) = true := bne_iff_ne.mpr c5
    by_cases c6 : a1 = 5
    ·rw [if_pos c6] at H
     have c6b0 : (a1 == 5) = true := beq_iff_eq.mpr c6
     have c6b1 : (a1 != 5) = false := bne_eq_false_iff_eq.mpr c6
     clear c6
     have H' := am H
     clear H
     go_wp2
     go_meet
     case rel => exact ⟨_, ((a1 == 5)), (by first | rfl | (simp; done) | (simp [*]; done)), H', ⟨by first | omega | exact Nat.le_refl _⟩, by repeat (first | exact Drawn0.refl _ | apply Drawn0.step)⟩
    ·rw [if_neg c6] at H
     have c6b0 : (a1 == 5) = false := beq_eq_false_iff_ne.mpr c6
     have c6b1 : (a1 != 5) = true := bne_iff_ne.mpr c6
     by_cases c7 : a1 = 7
     ·rw [if_pos c7] at H
      have c7b0 : (a1 == 7) = true := beq_iff_eq.mpr c7
      have c7b1 : (a1 != 7) = false := bne_eq_false_iff_eq.mpr c7
      clear c7
      have H' := am H
      clear H
      go_wp2
      go_meet
      case rel => exact ⟨_, ((a1 == 7)), (by first | rfl | (simp; done) | (simp [*]; done)), H', ⟨by first | omega | exact Nat.le_refl _⟩, by repeat (first | exact Drawn0.refl _ | apply Drawn0.step)⟩
     ·rw [if_neg c7] at H
      have c7b0 : (a1 == 7) = false := beq_eq_false_iff_ne.mpr c7
      have c7b1 : (a1 != 7) = true := bne_iff_ne.mpr c7
      by_cases c8 : a1 = 8
      ·rw [if_pos c8] at H
       have c8b0 : (a1 == 8) = true := beq_iff_eq.mpr c8
       have c8b1 : (a1 != 8) = false := bne_eq_false_iff_eq.mpr c8
       clear c8
       have H' := am H
       clear H
       go_wp2
       go_meet
       case rel => exact ⟨_, ((a1 == 8)), (by first | rfl | (simp; done) | (simp [*]; done)), H', ⟨by first | omega | exact Nat.le_refl _⟩, by repeat (first | exact Drawn0.refl _ | apply Drawn0.step)⟩
      ·rw [if_neg c8] at H
       have c8b0 : (a1 == 8) = false := beq_eq_false_iff_ne.mpr c8
       have c8b1 : (a1 != 8) = true := bne_iff_ne.mpr c8
       by_cases c9 : a1 = 10
       ·rw [if_pos c9] at H
        have c9b0 : (a1 == 10) = true := beq_iff_eq.mpr c9
        have c9b1 : (a1 != 10) = false := bne_eq_false_iff_eq.mpr c9
        clear c9
        have H' := am H
        clear H
        go_wp2
        go_meet
        case rel => exact ⟨_, ((a1 == 10)), (by first | rfl | (simp; done) | (simp [*]; done)), H', ⟨by first | omega | exact Nat.le_refl _⟩, by repeat (first | exact Drawn0.refl _ | apply Drawn0.step)⟩
       ·rw [if_neg c9] at H
        have c9b0 : (a1 == 10) = false := beq_eq_false_iff_ne.mpr c9
        have c9b1 : (a1 != 10) = true := bne_iff_ne.mpr c9
        have H' := am H
        clear H
        go_wp2
        go_meet
        case rel => exact ⟨_, ((a1 == 12)), (by first | rfl | (simp; done) | (simp [*]; done)), H', ⟨by first | omega | exact Nat.le_refl _⟩, by repeat (first | exact Drawn0.refl _ | apply Drawn0.step)⟩
 case rest =>
  clear HC3
  try clear c4
  try clear c4b0 c4b1
  try clear c5
  try clear c5b0 c5b1
  try clear c6
  try clear c6b0 c6b1
  try clear c7
  try clear c7b0 c7b1
  try clear c8
  try clear c8b0 c8b1
  try clear c9
  try clear c9b0 c9b1
  obtain ⟨kq, x6_2, rfl, HA, HJ2, ⟨mc2, rfl⟩⟩ := hcut
  rcases kq with _ | kj2
  ·exact absurd HA.out (by simp [qQn.j0])
  have H := HA.out
  clear HA
  simp only [qQn.j0] at H
  by_cases c10 : x6_2 = true
  ·subst c10
   have H1 : (some 31) = some r := by rw [if_pos rfl] at H; exact H
   clear H
   have H := H1
   clear H1
   obtain rfl := Option.some.inj H
   go_wp2
   go_ret
   exact ⟨by first | rfl | (simp; done) | (simp [*]; done), by repeat (first | exact Drawn0.refl _ | apply Drawn0.step)⟩
  ·replace c10 := Bool.eq_false_iff.mpr c10
   subst c10
   have H1 : (if a1 = 4 then (qQn.j1 kj2 a0 a1 (a1 == 4)) else (if a1 = 6 then (qQn.j1 kj2 a0 a1 (a1 == 6)) else (if a1 = 9 then (qQn.j1 kj2 a0 a1 (a1 == 9)) else (qQn.j1 kj2 a0 a1 (a1 == 11))))) = some r := by rw [if_neg (show ¬ (false = true) by decide)] at H; exact H
   clear H
   have H := H1
   clear H1
   have HC11 := am H
   clear H
   go_upto_if 14 with (fail)
   go_cut [14] (fun v14 wc => ∃ (kq : Nat) (x14_10 : Bool), v14 = .bool x14_10 ∧ Aside0 (qQn.j1 kq a0 a1 x14_10 = some r) ∧ Aside0 (kq ≤ kj2) ∧ Drawn0 w wc)
   case first =>
    have H := HC11.out
    clear HC11
    by_cases c12 : a1 = 4
    ·rw [if_pos c12] at H
     have c12b0 : (a1 == 4) = true := beq_iff_eq.mpr c12
     have c12b1 : (a1 != 4) = false := bne_eq_false_iff_eq.mpr c12
     clear c12
     (first | rw [c12b0] | (simp only [i64_w, i32_w]; rw [c12b0]) | skip)
     have H' := am H
     clear H
     go_wp2
     go_meet
     case rel => exact ⟨_, ((a1 == 4)), (by first | rfl | (simp; done) | (simp [*]; done)), H', ⟨by have := HJ2.out; first | omega | exact Nat.le_refl _⟩, by repeat (first | exact Drawn0.refl _ | apply Drawn0.step)⟩
    ·rw [if_neg c12] at H
     have c12b0 : (a1 == 4) = false := beq_eq_false_iff_ne.mpr c12
     have c12b1 : (a1 != 4) = true := bne_iff_ne.mpr c12
     (first | rw [c12b0] | (simp only [i64_w, i32_w]; rw [c12b0]) | skip)
     by_cases c13 : a1 = 6
     ·rw [if_pos c13] at H
      have c13b0 : (a1 == 6) = true := beq_iff_eq.mpr c13
      have c13b1 : (a1 != 6) = false := bne_eq_false_iff_eq.mpr c13
      clear c13
      have H' := am H
      clear H
      go_wp2
      go_meet
      case rel => exact ⟨_, ((a1 == 6)), (by first | rfl | (simp; done) | (simp [*]; done)), H', ⟨by have := HJ2.out; first | omega | exact Nat.le_refl _⟩, by repeat (first | exact Drawn0.refl _ | apply Drawn0.step)⟩
     ·rw [if_neg c13] at H
      have c13b0 : (a1 == 6) = false := beq_eq_false_iff_ne.mpr c13
      have c13b1 : (a1 != 6) = true := bne_iff_ne.mpr c13
      by_cases c14 : a1 = 9
      ·rw [if_pos c14] at H
       have c14b0 : (a1 == 9) = true := beq_iff_eq.mpr c14
       have c14b1 : (a1 != 9) = false := bne_eq_false_iff_eq.mpr c14
       clear c14
       have H' := am H
       clear H
       go_wp2
       go_meet
       case rel => exact ⟨_, ((a1 == 9)), (by first | rfl | (simp; done) | (simp [*]; done)), H', ⟨by have := HJ2.out; first | omega | exact Nat.le_refl _⟩, by repeat (first | exact Drawn0.refl _ | apply Drawn0.step)⟩
      ·rw [if_neg c14] at H
       have c14b0 : (a1 == 9) = false := beq_eq_false_iff_ne.mpr c14
       have c14b1 : (a1 != 9) = true := bne_iff_ne.mpr c14
       have H' := am H
       clear H
       go_wp2
       go_meet
       case rel => exact ⟨_, ((a1 == 11)), (by first | rfl | (simp; done) | (simp [*]; done)), H', ⟨by have := HJ2.out; first | omega | exact Nat.le_refl _⟩, by repeat (first | exact Drawn0.refl _ | apply Drawn0.step)⟩
   case rest =>
    clear HC11
    try clear c4
    try clear c4b0 c4b1
    try clear c5
    try clear c5b0 c5b1
    try clear c6
    try clear c6b0 c6b1
    try clear c7
    try clear c7b0 c7b1
    try clear c8
    try clear c8b0 c8b1
    try clear c9
    try clear c9b0 c9b1
    try clear c10
    try clear c12
    try clear c12b0 c12b1
    try clear c13
    try clear c13b0 c13b1
    try clear c14
    try clear c14b0 c14b1
    obtain ⟨kq, x14_10, rfl, HA, HJ10, ⟨mc10, rfl⟩⟩ := hcut
    rcases kq with _ | kj10
    ·exact absurd HA.out (by simp [qQn.j1])
    have H := HA.out
    clear HA
    simp only [qQn.j1] at H
    by_cases c15 : x14_10 = true
    ·subst c15
     have H1 : (some 30) = some r := by rw [if_pos rfl] at H; exact H
     clear H
     have H := H1
     clear H1
     obtain rfl := Option.some.inj H
     go_wp2
     go_ret
     exact ⟨by first | rfl | (simp; done) | (simp [*]; done), by repeat (first | exact Drawn0.refl _ | apply Drawn0.step)⟩
    ·replace c15 := Bool.eq_false_iff.mpr c15
     subst c15
     have H1 : (if a1 = 2 then ((qYl.f a0).bind fun t357 => (if t357 = true then (some 29) else (some 28))) else (some 0)) = some r := by rw [if_neg (show ¬ (false = true) by decide)] at H; exact H
     clear H
     have H := H1
     clear H1
     by_cases c16 : a1 = 2
     ·rw [if_pos c16] at H
      have c16b0 : (a1 == 2) = true := beq_iff_eq.mpr c16
      have c16b1 : (a1 != 2) = false := bne_eq_false_iff_eq.mpr c16
      clear c16
      replace H := Option.bind_eq_some_iff.mp H
      obtain ⟨t357, A170, H⟩ := H
      replace H : (if t357 = true then (some 29) else (some 28)) = some r := H
      have A17 := am A170
      clear A170
      by_cases c18 : t357 = true
      ·subst c18
       have H1 : (some 29) = some r := by rw [if_pos rfl] at H; exact H
       clear H
       have H := H1
       clear H1
       obtain rfl := Option.some.inj H
       go_wp2_with (first | ((with_reducible refine qQh (f := 90) rfl ?_); refine goesL_ (some 22) rfl rfl Tryz.func90 (by kernel_rfl) rfl #[.int .i64 a0] rfl ml ?_; (with_reducible refine (qYl.calls a0 true _ A17.out).mono ?_); rintro e w' ⟨rfl, ⟨nd, rfl⟩⟩; refine ⟨_, rfl, ?_⟩))
       go_ret
       exact ⟨by first | rfl | (simp; done) | (simp [*]; done), by repeat (first | exact Drawn0.refl _ | apply Drawn0.step)⟩
      ·replace c18 := Bool.eq_false_iff.mpr c18
       subst c18
       have H1 : (some 28) = some r := by rw [if_neg (show ¬ (false = true) by decide)] at H; exact H
       clear H
       have H := H1
       clear H1
       obtain rfl := Option.some.inj H
       go_wp2_with (first | ((with_reducible refine qQh (f := 90) rfl ?_); refine goesL_ (some 22) rfl rfl Tryz.func90 (by kernel_rfl) rfl #[.int .i64 a0] rfl ml ?_; (with_reducible refine (qYl.calls a0 false _ A17.out).mono ?_); rintro e w' ⟨rfl, ⟨nd, rfl⟩⟩; refine ⟨_, rfl, ?_⟩))
       go_ret
       exact ⟨by first | rfl | (simp; done) | (simp [*]; done), by repeat (first | exact Drawn0.refl _ | apply Drawn0.step)⟩
     ·rw [if_neg c16] at H
      have c16b0 : (a1 == 2) = false := beq_eq_false_iff_ne.mpr c16
      have c16b1 : (a1 != 2) = true := bne_iff_ne.mpr c16
      obtain rfl := Option.some.inj H
      go_wp2
      go_ret
      exact ⟨by first | rfl | (simp; done) | (simp [*]; done), by repeat (first | exact Drawn0.refl _ | apply Drawn0.step)⟩
def qQ6.l0 : Nat → Int → Int → Option (Int × Int × Int × Int)
 | 0, _, _ => none
 | k + 1, x0, x4 => (qQn.f k (wrap64 (1960 + (wrap64 (Int.tdiv x4 12)))) (wrap64 (1 + (Int.tmod x4 12)))).bind fun t360 => (if x0 ≥ t360 then ((qQn.f k (wrap64 (1960 + (wrap64 (Int.tdiv x4 12)))) (wrap64 (1 + (Int.tmod x4 12)))).bind fun t361 => (qQ6.l0 k (wrap64 (x0 - t361)) (wrap64 (x4 + 1)))) else (some (wrap64 (1960 + (wrap64 (Int.tdiv x4 12))), wrap64 (1 + (Int.tmod x4 12)), wrap64 (x0 + 1), 0)))
def qQ6.f (k : Nat) (a0 : Int) : Option (Int × Int × Int × Int) := (qYo.f a0).bind fun t359 => (if t359 = true then (qQ6.l0 k a0 0) else (some (0, 0, 0, 15)))
set_option maxHeartbeats 8000000 in
set_option maxRecDepth 100000 in
theorem qQ6.calls (k : Nat) (a0 : Int) (r1 : Int) (r2 : Int) (r3 : Int) (r4 : Int) (w : World) (h : qQ6.f k a0 = some (r1, r2, r3, r4)) :
  Calls Tryz.prog 60 #[.int .i64 a0] w fun e w' => e = .returned (.tuple #[.agg #[.int .i64 r1, .int .i64 r2, .int .i64 r3], .int .i64 r4]) ∧ Below w.heap.size w w' := by
 have hu97 := Tryz.underlying97
 have HB := am (Below.refl w.heap.size w)
 have H : ((qYo.f a0).bind fun t359 => (if t359 = true then (qQ6.l0 k a0 0) else (some (0, 0, 0, 15)))) = some (r1, r2, r3, r4) := h
 clear h
 replace H := Option.bind_eq_some_iff.mp H
 obtain ⟨t359, A20, H⟩ := H
 replace H : (if t359 = true then (qQ6.l0 k a0 0) else (some (0, 0, 0, 15))) = some (r1, r2, r3, r4) := H
 have A2 := am A20
 clear A20
 by_cases c3 : t359 = true
 ·subst c3
  have H1 : (qQ6.l0 k a0 0) = some (r1, r2, r3, r4) := by rw [if_pos rfl] at H; exact H
  clear H
  have H := H1
  clear H1
  have H' := am H
  clear H
  go_enter Tryz.func60, Tryz.ntmps60
  go_wp2_with (first | ((with_reducible refine qQ0 (N := 2) rfl ?_); refine qQs ?hg (N := 2) ?hd (cs := #[.int .i64 0, .int .i64 0, .int .i64 0]) (t := 97) ?hr ?_; (case hd => rfl); (case hg => rfl); (case hr => first | (go_simp; done) | (go_simp; rfl)); intro gb358 hg w4 hbox hb; have n0_ := am (qQb (by exact h0q HB.out) hb); have n1_ := am (hbox); have n2_ := am ((by rw [hg]; exact (qQd (by exact h0q HB.out)) : w.heap.size ≤ gb358)); have n3_ := am ((by rw [hg]; exact (qQd (by exact h0q HB.out)) : w.heap.size ≤ gb358)); clear HB; have HB := n0_; have BK358 := n1_; have GW358 := n2_; have GE358 := n3_; clear n0_ n1_ n2_ n3_; clear hb hbox hg) | ((with_reducible refine qQh (f := 32) rfl ?_); refine goesL_ (some 6) rfl rfl Tryz.func32 (by kernel_rfl) rfl #[.int .i64 a0] rfl ml ?_; (with_reducible refine (qYo.calls a0 true _ A2.out).mono ?_); rintro e w' ⟨rfl, ⟨nd, rfl⟩⟩; refine ⟨_, rfl, ?_⟩))
  go_loopg [0, 4] k (fun kq v0 v4 w' => ∃ (x0_1 : Int) (x4_1 : Int), v0 = .int .i64 x0_1 ∧ v4 = .int .i64 x4_1 ∧ Aside0 (qQ6.l0 kq x0_1 x4_1 = some (r1, r2, r3, r4)) ∧ Aside0 (kq ≤ k) ∧ Aside0 (w'.heap[gb358]? = some (.cells #[.int .i64 0, .int .i64 0, .int .i64 0] 97 (0, 0))) ∧ Aside0 (Below w.heap.size w w'))
  case atStart => exact ⟨(a0), (0), (by first | rfl | (simp; done) | (simp [*]; done)), (by first | rfl | (simp; done) | (simp [*]; done)), H', ⟨Nat.le_refl _⟩, ⟨by exact bb BK358.out⟩, ⟨by exact h1q HB.out GE358.out⟩⟩
  case round =>
   clear H'
   try clear c3
   obtain ⟨x0_1, x4_1, rfl, rfl, HA, HK1, BK358, HB⟩ := hrel
   rcases gk with _ | k1
   ·exact absurd HA.out (by simp [qQ6.l0])
   have H := HA.out
   clear HA
   simp only [qQ6.l0] at H
   replace H := Option.bind_eq_some_iff.mp H
   obtain ⟨t360, A50, H⟩ := H
   replace H : (if x0_1 ≥ t360 then ((qQn.f k1 (wrap64 (1960 + (wrap64 (Int.tdiv x4_1 12)))) (wrap64 (1 + (Int.tmod x4_1 12)))).bind fun t361 => (qQ6.l0 k1 (wrap64 (x0_1 - t361)) (wrap64 (x4_1 + 1)))) else (some (wrap64 (1960 + (wrap64 (Int.tdiv x4_1 12))), wrap64 (1 + (Int.tmod x4_1 12)), wrap64 (x0_1 + 1), 0))) = some (r1, r2, r3, r4) := H
   have A5 := am A50
   clear A50
   by_cases c6 : x0_1 ≥ t360
   ·rw [if_pos c6] at H
    have c6b0 : decide (t360 ≤ x0_1) = true := decide_eq_true c6
    clear c6
    replace H := Option.bind_eq_some_iff.mp H
    obtain ⟨t361, A70, H⟩ := H
    replace H : (qQ6.l0 k1 (wrap64 (x0_1 - t361)) (wrap64 (x4_1 + 1))) = some (r1, r2, r3, r4) := H
    have A7 := am A70
    clear A70
    have H' := am H
    clear H
    go_wp2_with (first | ((with_reducible refine qQh (f := 62) rfl ?_); refine goesL_ (some 16) rfl rfl Tryz.func62 (by kernel_rfl) rfl #[.int .i64 (wrap64 (1960 + (wrap64 (Int.tdiv x4_1 12)))), .int .i64 (wrap64 (1 + (Int.tmod x4_1 12)))] rfl ml ?_; (with_reducible refine (qQn.calls k1 (wrap64 (1960 + (wrap64 (Int.tdiv x4_1 12)))) (wrap64 (1 + (Int.tmod x4_1 12))) t360 _ A5.out).mono ?_); rintro e w' ⟨rfl, ⟨nd, rfl⟩⟩; refine ⟨_, rfl, ?_⟩) | ((with_reducible refine qQh (f := 62) rfl ?_); refine goesL_ (some 25) rfl rfl Tryz.func62 (by kernel_rfl) rfl #[.int .i64 (wrap64 (1960 + (wrap64 (Int.tdiv x4_1 12)))), .int .i64 (wrap64 (1 + (Int.tmod x4_1 12)))] rfl ml ?_; (with_reducible refine (qQn.calls k1 (wrap64 (1960 + (wrap64 (Int.tdiv x4_1 12)))) (wrap64 (1 + (Int.tmod x4_1 12))) t361 _ A7.out).mono ?_); rintro e w' ⟨rfl, ⟨nd, rfl⟩⟩; refine ⟨_, rfl, ?_⟩))
    go_roundg k1
    case measure => have := HK1.out; omega
    case rel => exact ⟨(wrap64 (x0_1 - t361)), (wrap64 (x4_1 + 1)), (by first | rfl | (simp; done) | (simp [*]; done)), (by first | rfl | (simp; done) | (simp [*]; done)), H', ⟨by have := HK1.out; omega⟩, ⟨by exact bb BK358.out⟩, ⟨by exact h1q HB.out GE358.out⟩⟩
   ·rw [if_neg c6] at H
    have c6b0 : decide (t360 ≤ x0_1) = false := decide_eq_false c6
    clear c6
    simp only [Option.some.injEq, Prod.mk.injEq] at H
    obtain ⟨rfl, rfl, rfl, rfl⟩ := H
    go_wp2_with (first | ((with_reducible refine qQh (f := 62) rfl ?_); refine goesL_ (some 16) rfl rfl Tryz.func62 (by kernel_rfl) rfl #[.int .i64 (wrap64 (1960 + (wrap64 (Int.tdiv x4_1 12)))), .int .i64 (wrap64 (1 + (Int.tmod x4_1 12)))] rfl ml ?_; (with_reducible refine (qQn.calls k1 (wrap64 (1960 + (wrap64 (Int.tdiv x4_1 12)))) (wrap64 (1 + (Int.tmod x4_1 12))) t360 _ A5.out).mono ?_); rintro e w' ⟨rfl, ⟨nd, rfl⟩⟩; refine ⟨_, rfl, ?_⟩; (try (rw [qWp wr]; generalize hq_ : World.drewN wr _ = wr; have n0_ : Aside0 (wr.heap[gb358]? = some (.cells #[.int .i64 0, .int .i64 0, .int .i64 0] 97 (0, 0))) := ⟨by rw [← hq_]; exact (Up.up BK358.out)⟩; have n1_ : Aside0 (Below w.heap.size w wr) := ⟨by rw [← hq_]; exact (by exact h1q HB.out GE358.out)⟩; clear BK358 HB hq_; have BK358 := n0_; have HB := n1_; clear n0_ n1_)); have hcz8_0 : wr.cell? ⟨gb358, 0, none⟩ = some (.int .i64 0) := (qQc BK358.out 0).trans rfl; have hcz8_1 : wr.cell? ⟨gb358, 1, none⟩ = some (.int .i64 0) := (qQc BK358.out 1).trans rfl; have hcz8_2 : wr.cell? ⟨gb358, 2, none⟩ = some (.int .i64 0) := (qQc BK358.out 2).trans rfl; have hfz8_0 := qQi BK358.out 0; have hfz8_1 := qQi BK358.out 1; have hfz8_2 := qQi BK358.out 2))
    refine bodyPost_ret (qXt rfl _ _ gb358 97 #[.int .i64 (wrap64 (1960 + (wrap64 (Int.tdiv x4_1 12)))), .int .i64 (wrap64 (1 + (Int.tmod x4_1 12))), .int .i64 (wrap64 (x0_1 + 1))] (0, 0) _ rfl (by (with_reducible repeat (first | refine qQj ?_ _ | refine qQv ?_ | refine qQm ?_ _)); refine qZ6 (cs := #[.int .i64 (wrap64 (1960 + (wrap64 (Int.tdiv x4_1 12)))), .int .i64 (wrap64 (1 + (Int.tmod x4_1 12))), .int .i64 0]) ?_ 2 _ rfl; (with_reducible repeat (first | refine qQj ?_ _ | refine qQv ?_ | refine qQm ?_ _)); refine qZ6 (cs := #[.int .i64 (wrap64 (1960 + (wrap64 (Int.tdiv x4_1 12)))), .int .i64 0, .int .i64 0]) ?_ 1 _ rfl; (with_reducible repeat (first | refine qQj ?_ _ | refine qQv ?_ | refine qQm ?_ _)); refine qZ6 (cs := #[.int .i64 0, .int .i64 0, .int .i64 0]) ?_ 0 _ rfl; (with_reducible repeat (first | refine qQj ?_ _ | refine qQv ?_ | refine qQm ?_ _)); exact BK358.out) Tryz.underlying97 rfl (by kernel_rfl)) rfl ?_
    exact ⟨er, by exact h1q HB.out GE358.out⟩
 ·replace c3 := Bool.eq_false_iff.mpr c3
  subst c3
  have H1 : (some (0, 0, 0, 15)) = some (r1, r2, r3, r4) := by rw [if_neg (show ¬ (false = true) by decide)] at H; exact H
  clear H
  have H := H1
  clear H1
  simp only [Option.some.injEq, Prod.mk.injEq] at H
  obtain ⟨rfl, rfl, rfl, rfl⟩ := H
  go_enter Tryz.func60, Tryz.ntmps60
  go_wp2_with (first | ((with_reducible refine qQ0 (N := 2) rfl ?_); refine qQs ?hg (N := 2) ?hd (cs := #[.int .i64 0, .int .i64 0, .int .i64 0]) (t := 97) ?hr ?_; (case hd => rfl); (case hg => rfl); (case hr => first | (go_simp; done) | (go_simp; rfl)); intro gb358 hg w9 hbox hb; have n0_ := am (qQb (by exact h0q HB.out) hb); have n1_ := am (hbox); have n2_ := am ((by rw [hg]; exact (qQd (by exact h0q HB.out)) : w.heap.size ≤ gb358)); have n3_ := am ((by rw [hg]; exact (qQd (by exact h0q HB.out)) : w.heap.size ≤ gb358)); clear HB; have HB := n0_; have BK358 := n1_; have GW358 := n2_; have GE358 := n3_; clear n0_ n1_ n2_ n3_; clear hb hbox hg) | ((with_reducible refine qQh (f := 32) rfl ?_); refine goesL_ (some 6) rfl rfl Tryz.func32 (by kernel_rfl) rfl #[.int .i64 a0] rfl ml ?_; (with_reducible refine (qYo.calls a0 false _ A2.out).mono ?_); rintro e w' ⟨rfl, ⟨nd, rfl⟩⟩; refine ⟨_, rfl, ?_⟩; (try (rw [qWp w9]; generalize hq_ : World.drewN w9 _ = w9; have n0_ : Aside0 (w9.heap[gb358]? = some (.cells #[.int .i64 0, .int .i64 0, .int .i64 0] 97 (0, 0))) := ⟨by rw [← hq_]; exact (Up.up BK358.out)⟩; have n1_ : Aside0 (Below w.heap.size w w9) := ⟨by rw [← hq_]; exact (by exact h1q HB.out GE358.out)⟩; clear BK358 HB hq_; have BK358 := n0_; have HB := n1_; clear n0_ n1_)); have hcz10_0 : w9.cell? ⟨gb358, 0, none⟩ = some (.int .i64 0) := (qQc BK358.out 0).trans rfl; have hcz10_1 : w9.cell? ⟨gb358, 1, none⟩ = some (.int .i64 0) := (qQc BK358.out 1).trans rfl; have hcz10_2 : w9.cell? ⟨gb358, 2, none⟩ = some (.int .i64 0) := (qQc BK358.out 2).trans rfl; have hfz10_0 := qQi BK358.out 0; have hfz10_1 := qQi BK358.out 1; have hfz10_2 := qQi BK358.out 2))
  refine bodyPost_ret (qXt rfl _ _ gb358 97 #[.int .i64 0, .int .i64 0, .int .i64 0] (0, 0) _ rfl (by (with_reducible repeat (first | refine qQj ?_ _ | refine qQv ?_ | refine qQm ?_ _)); refine qZ6 (cs := #[.int .i64 0, .int .i64 0, .int .i64 0]) ?_ 2 _ rfl; (with_reducible repeat (first | refine qQj ?_ _ | refine qQv ?_ | refine qQm ?_ _)); refine qZ6 (cs := #[.int .i64 0, .int .i64 0, .int .i64 0]) ?_ 1 _ rfl; (with_reducible repeat (first | refine qQj ?_ _ | refine qQv ?_ | refine qQm ?_ _)); refine qZ6 (cs := #[.int .i64 0, .int .i64 0, .int .i64 0]) ?_ 0 _ rfl; (with_reducible repeat (first | refine qQj ?_ _ | refine qQv ?_ | refine qQm ?_ _)); exact BK358.out) Tryz.underlying97 rfl (by kernel_rfl)) rfl ?_
  exact ⟨er, by exact h1q HB.out GE358.out⟩
def qQ8.l0 : Nat → Int → Int → Int → Option (Int)
 | 0, _, _, _ => none
 | k + 1, x0, x3, x4 => if x4 < x0 then ((qQn.f k (wrap64 (1960 + (wrap64 (Int.tdiv x4 12)))) (wrap64 (1 + (Int.tmod x4 12)))).bind fun t362 => (qQ8.l0 k x0 (wrap64 (x3 + t362)) (wrap64 (x4 + 1)))) else (some x3)
def qQ8.f (k : Nat) (a0 : Int) : Option (Int) := qQ8.l0 k a0 0 0
set_option maxHeartbeats 8000000 in
set_option maxRecDepth 100000 in
theorem qQ8.calls (k : Nat) (a0 : Int) (r : Int) (w : World) (h : qQ8.f k a0 = some r) :
  Calls Tryz.prog 61 #[.int .i64 a0] w fun e w' => e = .returned (.int .i64 r) ∧ Drawn0 w w' := by
 have H : (qQ8.l0 k a0 0 0) = some r := h
 clear h
 have H' := am H
 clear H
 go_enter Tryz.func61, Tryz.ntmps61
 go_wp2
 go_loopg [3, 4] k (fun kq v3 v4 w' => ∃ (x3_1 : Int) (x4_1 : Int), v3 = .int .i64 x3_1 ∧ v4 = .int .i64 x4_1 ∧ Aside0 (qQ8.l0 kq a0 x3_1 x4_1 = some r) ∧ Aside0 (kq ≤ k) ∧ Drawn0 w w')
 case atStart => exact ⟨(0), (0), (by first | rfl | (simp; done) | (simp [*]; done)), (by first | rfl | (simp; done) | (simp [*]; done)), H', ⟨Nat.le_refl _⟩, by repeat (first | exact Drawn0.refl _ | apply Drawn0.step)⟩
 case round =>
  clear H'
  obtain ⟨x3_1, x4_1, rfl, rfl, HA, HK1, ⟨m1, rfl⟩⟩ := hrel
  rcases gk with _ | k1
  ·exact absurd HA.out (by simp [qQ8.l0])
  have H := HA.out
  clear HA
  simp only [qQ8.l0] at H
  by_cases c2 : x4_1 < a0
  ·rw [if_pos c2] at H
   have c2b0 : decide (x4_1 < a0) = true := decide_eq_true c2
   clear c2
   replace H := Option.bind_eq_some_iff.mp H
   obtain ⟨t362, A30, H⟩ := H
   replace H : (qQ8.l0 k1 a0 (wrap64 (x3_1 + t362)) (wrap64 (x4_1 + 1))) = some r := H
   have A3 := am A30
   clear A30
   have H' := am H
   clear H
   go_wp2_with (first | ((with_reducible refine qQh (f := 62) rfl ?_); refine goesL_ (some 17) rfl rfl Tryz.func62 (by kernel_rfl) rfl #[.int .i64 (wrap64 (1960 + (wrap64 (Int.tdiv x4_1 12)))), .int .i64 (wrap64 (1 + (Int.tmod x4_1 12)))] rfl ml ?_; (with_reducible refine (qQn.calls k1 (wrap64 (1960 + (wrap64 (Int.tdiv x4_1 12)))) (wrap64 (1 + (Int.tmod x4_1 12))) t362 _ A3.out).mono ?_); rintro e w' ⟨rfl, ⟨nd, rfl⟩⟩; refine ⟨_, rfl, ?_⟩))
   go_roundg k1
   case measure => have := HK1.out; omega
   case rel => exact ⟨(wrap64 (x3_1 + t362)), (wrap64 (x4_1 + 1)), (by first | rfl | (simp; done) | (simp [*]; done)), (by first | rfl | (simp; done) | (simp [*]; done)), H', ⟨by have := HK1.out; omega⟩, by repeat (first | exact Drawn0.refl _ | apply Drawn0.step)⟩
  ·rw [if_neg c2] at H
   have c2b0 : decide (x4_1 < a0) = false := decide_eq_false c2
   clear c2
   obtain rfl := Option.some.inj H
   go_wp2
   go_ret
   exact ⟨by first | rfl | (simp; done) | (simp [*]; done), by repeat (first | exact Drawn0.refl _ | apply Drawn0.step)⟩
mutual
def qQw.j0 : Nat → Int → Bool → Int → Int → Int → Option (Int × Int)
 | 0, _, _, _, _, _ => none
 | k + 1, x1, x23, x368000, x368001, x368002 => if x23 = true then (some (0, 15)) else (if (wrap64 ((wrap64 ((wrap64 ((wrap64 (12 * (wrap64 (x368000 - 1960)))) + x368001)) - 1)) + x1)) < 0 then (qQw.j1 k (wrap64 ((wrap64 ((wrap64 ((wrap64 (12 * (wrap64 (x368000 - 1960)))) + x368001)) - 1)) + x1)) true x368000 x368001 x368002) else (qQw.j1 k (wrap64 ((wrap64 ((wrap64 ((wrap64 (12 * (wrap64 (x368000 - 1960)))) + x368001)) - 1)) + x1)) (decide ((wrap64 ((wrap64 ((wrap64 ((wrap64 (12 * (wrap64 (x368000 - 1960)))) + x368001)) - 1)) + x1)) > 2879)) x368000 x368001 x368002))
def qQw.j1 : Nat → Int → Bool → Int → Int → Int → Option (Int × Int)
 | 0, _, _, _, _, _ => none
 | k + 1, x8, x39, x368000, x368001, x368002 => if x39 = true then (some (0, 15)) else ((qQ8.f k x8).bind fun t368 => ((qQn.f k (wrap64 (1960 + (wrap64 (Int.tdiv x8 12)))) (wrap64 (1 + (Int.tmod x8 12)))).bind fun t369 => (some (wrap64 ((wrap64 (t368 + (mn x368002 t369))) - 1), 0))))
end
def qQw.f (k : Nat) (a0 : Int) (a1 : Int) : Option (Int × Int) := (qQ6.f k a0).bind fun bt363 => (if bt363.2.2.2 = 0 then (if a1 > 2879 then (qQw.j0 k a1 true bt363.1 bt363.2.1 bt363.2.2.1) else (qQw.j0 k a1 (decide (a1 < (-2879))) bt363.1 bt363.2.1 bt363.2.2.1)) else (qQw.j0 k a1 true bt363.1 bt363.2.1 bt363.2.2.1))
set_option maxHeartbeats 8000000 in
set_option maxRecDepth 100000 in
theorem qQw.calls (k : Nat) (a0 : Int) (a1 : Int) (r1 : Int) (r2 : Int) (w : World) (h : qQw.f k a0 a1 = some (r1, r2)) :
  Calls Tryz.prog 41 #[.int .i64 a0, .int .i64 a1] w fun e w' => e = .returned (.tuple #[.int .i64 r1, .int .i64 r2]) ∧ Below w.heap.size w w' := by
 have hu97 := Tryz.underlying97
 have HB := am (Below.refl w.heap.size w)
 have H : ((qQ6.f k a0).bind fun bt363 => (if bt363.2.2.2 = 0 then (if a1 > 2879 then (qQw.j0 k a1 true bt363.1 bt363.2.1 bt363.2.2.1) else (qQw.j0 k a1 (decide (a1 < (-2879))) bt363.1 bt363.2.1 bt363.2.2.1)) else (qQw.j0 k a1 true bt363.1 bt363.2.1 bt363.2.2.1))) = some (r1, r2) := h
 clear h
 replace H := Option.bind_eq_some_iff.mp H
 obtain ⟨⟨t363, t364, t365, t366⟩, A30, H⟩ := H
 replace H : (if t366 = 0 then (if a1 > 2879 then (qQw.j0 k a1 true t363 t364 t365) else (qQw.j0 k a1 (decide (a1 < (-2879))) t363 t364 t365)) else (qQw.j0 k a1 true t363 t364 t365)) = some (r1, r2) := H
 have A3 := am A30
 clear A30
 have HC4 := am H
 clear H
 go_enter Tryz.func41, Tryz.ntmps41
 go_upto_region 2 with (first | (go_at_call 60; (with_reducible refine (qQ6.calls k a0 t363 t364 t365 t366 _ A3.out).mono ?_); rintro e w5 ⟨rfl, hb⟩; have n0_ := am (qQb (by exact h0q HB.out) hb); clear HB; have HB := n0_; clear n0_; (try clear hb); (try clear hb2); (try clear hk); (try clear hi)) | ((with_reducible refine qQ0 (N := 6) rfl ?_); refine qQs ?hg (N := 6) ?hd (cs := #[.int .i64 0, .int .i64 0, .int .i64 0]) (t := 97) ?hr ?_; (case hd => rfl); (case hg => rfl); (case hr => first | (go_simp; done) | (go_simp; rfl)); intro gb367 hg w6 hbox hb; have n0_ := am (qQb (by exact h0q HB.out) hb); have n1_ := am (hbox); have n2_ := am ((by rw [hg]; exact (qQd (by exact h0q HB.out)) : w.heap.size ≤ gb367)); have n3_ := am ((by rw [hg]; exact (qQd (by exact h0q HB.out)) : w.heap.size ≤ gb367)); clear HB; have HB := n0_; have BK367 := n1_; have GW367 := n2_; have GE367 := n3_; clear n0_ n1_ n2_ n3_; clear hb hbox hg; have hcz7_0 : w6.cell? ⟨gb367, 0, none⟩ = some (.int .i64 0) := (qQc BK367.out 0).trans rfl; have hcz7_1 : w6.cell? ⟨gb367, 1, none⟩ = some (.int .i64 0) := (qQc BK367.out 1).trans rfl; have hcz7_2 : w6.cell? ⟨gb367, 2, none⟩ = some (.int .i64 0) := (qQc BK367.out 2).trans rfl; have hfz7_0 := qQi BK367.out 0; have hfz7_1 := qQi BK367.out 1; have hfz7_2 := qQi BK367.out 2))
 repeat (go_quiet (first | (go_at_call 60; (first | (with_reducible refine (qQ6.calls k a0 t363 t364 t365 t366 _ A3.out).mono ?_) | (simp only [i64_w, i32_w]; with_reducible refine (qQ6.calls k a0 t363 t364 t365 t366 _ A3.out).mono ?_)); rintro e w5 ⟨rfl, hb⟩; have n0_ := am (qQb (by exact h0q HB.out) hb); clear HB; have HB := n0_; clear n0_; (try clear hb); (try clear hb2); (try clear hk); (try clear hi)) | ((with_reducible refine qQ0 (N := 6) rfl ?_); refine qQs ?hg (N := 6) ?hd (cs := #[.int .i64 0, .int .i64 0, .int .i64 0]) (t := 97) ?hr ?_; (case hd => rfl); (case hg => rfl); (case hr => first | (go_simp; done) | (go_simp; rfl)); intro gb367 hg w6 hbox hb; have n0_ := am (qQb (by exact h0q HB.out) hb); have n1_ := am (hbox); have n2_ := am ((by rw [hg]; exact (qQd (by exact h0q HB.out)) : w.heap.size ≤ gb367)); have n3_ := am ((by rw [hg]; exact (qQd (by exact h0q HB.out)) : w.heap.size ≤ gb367)); clear HB; have HB := n0_; have BK367 := n1_; have GW367 := n2_; have GE367 := n3_; clear n0_ n1_ n2_ n3_; clear hb hbox hg; have hcz7_0 : w6.cell? ⟨gb367, 0, none⟩ = some (.int .i64 0) := (qQc BK367.out 0).trans rfl; have hcz7_1 : w6.cell? ⟨gb367, 1, none⟩ = some (.int .i64 0) := (qQc BK367.out 1).trans rfl; have hcz7_2 : w6.cell? ⟨gb367, 2, none⟩ = some (.int .i64 0) := (qQc BK367.out 2).trans rfl; have hfz7_0 := qQi BK367.out 0; have hfz7_1 := qQi BK367.out 1; have hfz7_2 := qQi BK367.out 2)); go_upto_region 2 with (first | (go_at_call 60; (first | (with_reducible refine (qQ6.calls k a0 t363 t364 t365 t366 _ A3.out).mono ?_) | (simp only [i64_w, i32_w]; with_reducible refine (qQ6.calls k a0 t363 t364 t365 t366 _ A3.out).mono ?_)); rintro e w5 ⟨rfl, hb⟩; have n0_ := am (qQb (by exact h0q HB.out) hb); clear HB; have HB := n0_; clear n0_; (try clear hb); (try clear hb2); (try clear hk); (try clear hi)) | ((with_reducible refine qQ0 (N := 6) rfl ?_); refine qQs ?hg (N := 6) ?hd (cs := #[.int .i64 0, .int .i64 0, .int .i64 0]) (t := 97) ?hr ?_; (case hd => rfl); (case hg => rfl); (case hr => first | (go_simp; done) | (go_simp; rfl)); intro gb367 hg w6 hbox hb; have n0_ := am (qQb (by exact h0q HB.out) hb); have n1_ := am (hbox); have n2_ := am ((by rw [hg]; exact (qQd (by exact h0q HB.out)) : w.heap.size ≤ gb367)); have n3_ := am ((by rw [hg]; exact (qQd (by exact h0q HB.out)) : w.heap.size ≤ gb367)); clear HB; have HB := n0_; have BK367 := n1_; have GW367 := n2_; have GE367 := n3_; clear n0_ n1_ n2_ n3_; clear hb hbox hg; have hcz7_0 : w6.cell? ⟨gb367, 0, none⟩ = some (.int .i64 0) := (qQc BK367.out 0).trans rfl; have hcz7_1 : w6.cell? ⟨gb367, 1, none⟩ = some (.int .i64 0) := (qQc BK367.out 1).trans rfl; have hcz7_2 : w6.cell? ⟨gb367, 2, none⟩ = some (.int .i64 0) := (qQc BK367.out 2).trans rfl; have hfz7_0 := qQi BK367.out 0; have hfz7_1 := qQi BK367.out 1; have hfz7_2 := qQi BK367.out 2)))
 (try simp only [Act.put, List.setIfInBounds_toArray, List.set_cons_zero, List.set_cons_succ])
 go_cut [23] (fun v23 wc => ∃ (kq : Nat) (x23_3 : Bool), v23 = .bool x23_3 ∧ Aside0 (qQw.j0 kq a1 x23_3 t363 t364 t365 = some (r1, r2)) ∧ Aside0 (kq ≤ k) ∧ Aside0 (wc.heap[gb367]? = some (.cells #[.int .i64 t363, .int .i64 t364, .int .i64 t365] 97 (0, 0))) ∧ Aside0 (Below w.heap.size w wc))
 case first =>
  have H := HC4.out
  clear HC4
  by_cases c8 : t366 = 0
  ·rw [if_pos c8] at H
   have c8b0 : (t366 == 0) = true := beq_iff_eq.mpr c8
   have c8b1 : (t366 != 0) = false := bne_eq_false_iff_eq.mpr c8
   clear c8
   (first | rw [c8b0] | (simp only [i64_w, i32_w]; rw [c8b0]) | skip)
   by_cases c9 : a1 > 2879
   ·rw [if_pos c9] at H
    have c9b0 : decide (2879 < a1) = true := decide_eq_true c9
    clear c9
    have H' := am H
    clear H
    go_wp2
    repeat (go_quiet (fail); try go_wp2)
    go_meet
    case rel => exact ⟨_, (true), (by first | rfl | (simp [i64_w, i32_w, qQq, qQr]; done) | (simp; done) | (simp [*]; done)), H', ⟨by first | omega | exact Nat.le_refl _⟩, ⟨by (with_reducible repeat (first | refine qQj ?_ _ | refine qQv ?_ | refine qQm ?_ _)); refine qZ6 (cs := #[.int .i64 t363, .int .i64 t364, .int .i64 0]) ?_ 2 _ rfl; (with_reducible repeat (first | refine qQj ?_ _ | refine qQv ?_ | refine qQm ?_ _)); refine qZ6 (cs := #[.int .i64 t363, .int .i64 0, .int .i64 0]) ?_ 1 _ rfl; (with_reducible repeat (first | refine qQj ?_ _ | refine qQv ?_ | refine qQm ?_ _)); refine qZ6 (cs := #[.int .i64 0, .int .i64 0, .int .i64 0]) ?_ 0 _ rfl; (with_reducible repeat (first | refine qQj ?_ _ | refine qQv ?_ | refine qQm ?_ _)); exact BK367.out⟩, ⟨by exact h1q HB.out GE367.out⟩⟩
   ·rw [if_neg c9] at H
    have c9b0 : decide (2879 < a1) = false := decide_eq_false c9
    clear c9
    have H' := am H
    clear H
    go_wp2
    repeat (go_quiet (fail); try go_wp2)
    go_meet
    case rel => exact ⟨_, (decide (a1 < (-2879))), (by first | rfl | (simp [i64_w, i32_w, qQq, qQr]; done) | (simp; done) | (simp [*]; done)), H', ⟨by first | omega | exact Nat.le_refl _⟩, ⟨by (with_reducible repeat (first | refine qQj ?_ _ | refine qQv ?_ | refine qQm ?_ _)); refine qZ6 (cs := #[.int .i64 t363, .int .i64 t364, .int .i64 0]) ?_ 2 _ rfl; (with_reducible repeat (first | refine qQj ?_ _ | refine qQv ?_ | refine qQm ?_ _)); refine qZ6 (cs := #[.int .i64 t363, .int .i64 0, .int .i64 0]) ?_ 1 _ rfl; (with_reducible repeat (first | refine qQj ?_ _ | refine qQv ?_ | refine qQm ?_ _)); refine qZ6 (cs := #[.int .i64 0, .int .i64 0, .int .i64 0]) ?_ 0 _ rfl; (with_reducible repeat (first | refine qQj ?_ _ | refine qQv ?_ | refine qQm ?_ _)); exact BK367.out⟩, ⟨by exact h1q HB.out GE367.out⟩⟩
  ·rw [if_neg c8] at H
   have c8b0 : (t366 == 0) = false := beq_eq_false_iff_ne.mpr c8
   have c8b1 : (t366 != 0) = true := bne_iff_ne.mpr c8
   (first | rw [c8b0] | (simp only [i64_w, i32_w]; rw [c8b0]) | skip)
   have H' := am H
   clear H
   go_wp2
   repeat (go_quiet (fail); try go_wp2)
   go_meet
   case rel => exact ⟨_, (true), (by first | rfl | (simp [i64_w, i32_w, qQq, qQr]; done) | (simp; done) | (simp [*]; done)), H', ⟨by first | omega | exact Nat.le_refl _⟩, ⟨by (with_reducible repeat (first | refine qQj ?_ _ | refine qQv ?_ | refine qQm ?_ _)); refine qZ6 (cs := #[.int .i64 t363, .int .i64 t364, .int .i64 0]) ?_ 2 _ rfl; (with_reducible repeat (first | refine qQj ?_ _ | refine qQv ?_ | refine qQm ?_ _)); refine qZ6 (cs := #[.int .i64 t363, .int .i64 0, .int .i64 0]) ?_ 1 _ rfl; (with_reducible repeat (first | refine qQj ?_ _ | refine qQv ?_ | refine qQm ?_ _)); refine qZ6 (cs := #[.int .i64 0, .int .i64 0, .int .i64 0]) ?_ 0 _ rfl; (with_reducible repeat (first | refine qQj ?_ _ | refine qQv ?_ | refine qQm ?_ _)); exact BK367.out⟩, ⟨by exact h1q HB.out GE367.out⟩⟩
 case rest =>
  clear HC4
  try clear c8
  try clear c8b0 c8b1
  try clear c9
  try clear c9b0
  try clear hcz7_0
  try clear hcz7_1
  try clear hcz7_2
  try clear hfz7_0
  try clear hfz7_1
  try clear hfz7_2
  obtain ⟨kq, x23_3, rfl, HA, HJ3, BK367, HB⟩ := hcut
  rcases kq with _ | kj3
  ·exact absurd HA.out (by simp [qQw.j0])
  have H := HA.out
  clear HA
  simp only [qQw.j0] at H
  by_cases c10 : x23_3 = true
  ·subst c10
   have H1 : (some (0, 15)) = some (r1, r2) := by rw [if_pos rfl] at H; exact H
   clear H
   have H := H1
   clear H1
   simp only [Option.some.injEq, Prod.mk.injEq] at H
   obtain ⟨rfl, rfl⟩ := H
   go_wp2
   repeat (go_quiet (fail); try go_wp2)
   go_ret2
   exact ⟨by first | rfl | (simp [i64_w, i32_w, qQq, qQr]; done) | (simp [qQq, qQr] <;> rfl) | (simp [*, qQq, qQr] <;> rfl), by exact h1q HB.out GE367.out⟩
  ·replace c10 := Bool.eq_false_iff.mpr c10
   subst c10
   have H1 : (if (wrap64 ((wrap64 ((wrap64 ((wrap64 (12 * (wrap64 (t363 - 1960)))) + t364)) - 1)) + a1)) < 0 then (qQw.j1 kj3 (wrap64 ((wrap64 ((wrap64 ((wrap64 (12 * (wrap64 (t363 - 1960)))) + t364)) - 1)) + a1)) true t363 t364 t365) else (qQw.j1 kj3 (wrap64 ((wrap64 ((wrap64 ((wrap64 (12 * (wrap64 (t363 - 1960)))) + t364)) - 1)) + a1)) (decide ((wrap64 ((wrap64 ((wrap64 ((wrap64 (12 * (wrap64 (t363 - 1960)))) + t364)) - 1)) + a1)) > 2879)) t363 t364 t365)) = some (r1, r2) := by rw [if_neg (show ¬ (false = true) by decide)] at H; exact H
   clear H
   have H := H1
   clear H1
   have HC11 := am H
   clear H
   have hcz12_0 : wc.cell? ⟨gb367, 0, none⟩ = some (.int .i64 t363) := (qQc BK367.out 0).trans rfl
   have hcz12_1 : wc.cell? ⟨gb367, 1, none⟩ = some (.int .i64 t364) := (qQc BK367.out 1).trans rfl
   have hcz12_2 : wc.cell? ⟨gb367, 2, none⟩ = some (.int .i64 t365) := (qQc BK367.out 2).trans rfl
   have hfz12_0 := qQi BK367.out 0
   have hfz12_1 := qQi BK367.out 1
   have hfz12_2 := qQi BK367.out 2
   go_upto_region 5 with (fail)
   repeat (go_quiet (fail); go_upto_region 5 with (fail))
   go_cut [39] (fun v39 wc => ∃ (kq : Nat) (x39_10 : Bool), v39 = .bool x39_10 ∧ Aside0 (qQw.j1 kq (wrap64 ((wrap64 ((wrap64 ((wrap64 (12 * (wrap64 (t363 - 1960)))) + t364)) - 1)) + a1)) x39_10 t363 t364 t365 = some (r1, r2)) ∧ Aside0 (kq ≤ kj3) ∧ Aside0 (wc.heap[gb367]? = some (.cells #[.int .i64 t363, .int .i64 t364, .int .i64 t365] 97 (0, 0))) ∧ Aside0 (Below w.heap.size w wc))
   case first =>
    have H := HC11.out
    clear HC11
    by_cases c13 : (wrap64 ((wrap64 ((wrap64 ((wrap64 (12 * (wrap64 (t363 - 1960)))) + t364)) - 1)) + a1)) < 0
    ·rw [if_pos c13] at H
     have c13b0 : decide ((wrap64 ((wrap64 ((wrap64 ((wrap64 (12 * (wrap64 (t363 - 1960)))) + t364)) - 1)) + a1)) < 0) = true := decide_eq_true c13
     clear c13
     (first | rw [c13b0] | (simp only [i64_w, i32_w]; rw [c13b0]) | skip)
     have H' := am H
     clear H
     go_wp2
     repeat (go_quiet (fail); try go_wp2)
     go_meet
     case rel => exact ⟨_, (true), (by first | rfl | (simp [i64_w, i32_w, qQq, qQr]; done) | (simp; done) | (simp [*]; done)), H', ⟨by have := HJ3.out; first | omega | exact Nat.le_refl _⟩, ⟨by exact bb BK367.out⟩, ⟨by exact h1q HB.out GE367.out⟩⟩
    ·rw [if_neg c13] at H
     have c13b0 : decide ((wrap64 ((wrap64 ((wrap64 ((wrap64 (12 * (wrap64 (t363 - 1960)))) + t364)) - 1)) + a1)) < 0) = false := decide_eq_false c13
     clear c13
     (first | rw [c13b0] | (simp only [i64_w, i32_w]; rw [c13b0]) | skip)
     have H' := am H
     clear H
     go_wp2
     repeat (go_quiet (fail); try go_wp2)
     go_meet
     case rel => exact ⟨_, (decide ((wrap64 ((wrap64 ((wrap64 ((wrap64 (12 * (wrap64 (t363 - 1960)))) + t364)) - 1)) + a1)) > 2879)), (by first | rfl | (simp [i64_w, i32_w, qQq, qQr]; done) | (simp; done) | (simp [*]; done)), H', ⟨by have := HJ3.out; first | omega | exact Nat.le_refl _⟩, ⟨by exact bb BK367.out⟩, ⟨by exact h1q HB.out GE367.out⟩⟩
   case rest =>
    clear HC11
    try clear c8
    try clear c8b0 c8b1
    try clear c9
    try clear c9b0
    try clear c10
    try clear c13
    try clear c13b0
    try clear hcz12_0
    try clear hcz12_1
    try clear hcz12_2
    try clear hcz7_0
    try clear hcz7_1
    try clear hcz7_2
    try clear hfz12_0
    try clear hfz12_1
    try clear hfz12_2
    try clear hfz7_0
    try clear hfz7_1
    try clear hfz7_2
    obtain ⟨kq, x39_10, rfl, HA, HJ10, BK367, HB⟩ := hcut
    rcases kq with _ | kj10
    ·exact absurd HA.out (by simp [qQw.j1])
    have H := HA.out
    clear HA
    simp only [qQw.j1] at H
    by_cases c14 : x39_10 = true
    ·subst c14
     have H1 : (some (0, 15)) = some (r1, r2) := by rw [if_pos rfl] at H; exact H
     clear H
     have H := H1
     clear H1
     simp only [Option.some.injEq, Prod.mk.injEq] at H
     obtain ⟨rfl, rfl⟩ := H
     go_wp2
     repeat (go_quiet (fail); try go_wp2)
     go_ret2
     exact ⟨by first | rfl | (simp [i64_w, i32_w, qQq, qQr]; done) | (simp [qQq, qQr] <;> rfl) | (simp [*, qQq, qQr] <;> rfl), by exact h1q HB.out GE367.out⟩
    ·replace c14 := Bool.eq_false_iff.mpr c14
     subst c14
     have H1 : ((qQ8.f kj10 (wrap64 ((wrap64 ((wrap64 ((wrap64 (12 * (wrap64 (t363 - 1960)))) + t364)) - 1)) + a1))).bind fun t368 => ((qQn.f kj10 (wrap64 (1960 + (wrap64 (Int.tdiv (wrap64 ((wrap64 ((wrap64 ((wrap64 (12 * (wrap64 (t363 - 1960)))) + t364)) - 1)) + a1)) 12)))) (wrap64 (1 + (Int.tmod (wrap64 ((wrap64 ((wrap64 ((wrap64 (12 * (wrap64 (t363 - 1960)))) + t364)) - 1)) + a1)) 12)))).bind fun t369 => (some (wrap64 ((wrap64 (t368 + (mn t365 t369))) - 1), 0)))) = some (r1, r2) := by rw [if_neg (show ¬ (false = true) by decide)] at H; exact H
     clear H
     have H := H1
     clear H1
     replace H := Option.bind_eq_some_iff.mp H
     obtain ⟨t368, A150, H⟩ := H
     replace H : ((qQn.f kj10 (wrap64 (1960 + (wrap64 (Int.tdiv (wrap64 ((wrap64 ((wrap64 ((wrap64 (12 * (wrap64 (t363 - 1960)))) + t364)) - 1)) + a1)) 12)))) (wrap64 (1 + (Int.tmod (wrap64 ((wrap64 ((wrap64 ((wrap64 (12 * (wrap64 (t363 - 1960)))) + t364)) - 1)) + a1)) 12)))).bind fun t369 => (some (wrap64 ((wrap64 (t368 + (mn t365 t369))) - 1), 0))) = some (r1, r2) := H
     have A15 := am A150
     clear A150
     replace H := Option.bind_eq_some_iff.mp H
     obtain ⟨t369, A160, H⟩ := H
     replace H : (some (wrap64 ((wrap64 (t368 + (mn t365 t369))) - 1), 0)) = some (r1, r2) := H
     have A16 := am A160
     clear A160
     obtain ⟨ji17, hji17⟩ : ∃ j_ : Int, (mn t365 t369) = j_ := ⟨_, rfl⟩
     replace H : (some (wrap64 ((wrap64 (t368 + (ji17))) - 1), 0)) = some (r1, r2) := by first | (rw [hji17] at H; exact H) | (simp only [hji17] at H ⊢; exact H)
     (try rw [hji17] at A15)
     (try rw [hji17] at A16)
     have hji17_ : (if t369 < t365 then t369 else t365) = ji17 := hji17
     simp only [Option.some.injEq, Prod.mk.injEq] at H
     obtain ⟨rfl, rfl⟩ := H
     go_wp2_with (first | (go_at_call 61; (with_reducible refine (qQ8.calls kj10 (wrap64 ((wrap64 ((wrap64 ((wrap64 (12 * (wrap64 (t363 - 1960)))) + t364)) - 1)) + a1)) t368 _ A15.out).mono ?_); rintro e w' ⟨rfl, ⟨nd, rfl⟩⟩; (try first | exact ⟨rfl, _, World.drewN_drewN _ _ _⟩ | exact ⟨rfl, _, Eq.trans (World.drewN_drewN _ _ _) (congrArg (World.drewN _) (Nat.add_assoc _ _ _))⟩); have hcz18_0 : wc.cell? ⟨gb367, 0, none⟩ = some (.int .i64 t363) := (qQc BK367.out 0).trans rfl; have hcz18_1 : wc.cell? ⟨gb367, 1, none⟩ = some (.int .i64 t364) := (qQc BK367.out 1).trans rfl; have hcz18_2 : wc.cell? ⟨gb367, 2, none⟩ = some (.int .i64 t365) := (qQc BK367.out 2).trans rfl; have hfz18_0 := qQi BK367.out 0; have hfz18_1 := qQi BK367.out 1; have hfz18_2 := qQi BK367.out 2) | (go_at_call 62; (with_reducible refine (qQn.calls kj10 (wrap64 (1960 + (wrap64 (Int.tdiv (wrap64 ((wrap64 ((wrap64 ((wrap64 (12 * (wrap64 (t363 - 1960)))) + t364)) - 1)) + a1)) 12)))) (wrap64 (1 + (Int.tmod (wrap64 ((wrap64 ((wrap64 ((wrap64 (12 * (wrap64 (t363 - 1960)))) + t364)) - 1)) + a1)) 12))) t369 _ A16.out).mono ?_); rintro e w' ⟨rfl, ⟨nd, rfl⟩⟩; (try first | exact ⟨rfl, _, World.drewN_drewN _ _ _⟩ | exact ⟨rfl, _, Eq.trans (World.drewN_drewN _ _ _) (congrArg (World.drewN _) (Nat.add_assoc _ _ _))⟩)))
     repeat (go_quiet (first | (go_at_call 61; (first | (with_reducible refine (qQ8.calls kj10 (wrap64 ((wrap64 ((wrap64 ((wrap64 (12 * (wrap64 (t363 - 1960)))) + t364)) - 1)) + a1)) t368 _ A15.out).mono ?_) | (simp only [i64_w, i32_w]; with_reducible refine (qQ8.calls kj10 (wrap64 ((wrap64 ((wrap64 ((wrap64 (12 * (wrap64 (t363 - 1960)))) + t364)) - 1)) + a1)) t368 _ A15.out).mono ?_)); rintro e w' ⟨rfl, ⟨nd, rfl⟩⟩; (try first | exact ⟨rfl, _, World.drewN_drewN _ _ _⟩ | exact ⟨rfl, _, Eq.trans (World.drewN_drewN _ _ _) (congrArg (World.drewN _) (Nat.add_assoc _ _ _))⟩); have hcz18_0 : wc.cell? ⟨gb367, 0, none⟩ = some (.int .i64 t363) := (qQc BK367.out 0).trans rfl; have hcz18_1 : wc.cell? ⟨gb367, 1, none⟩ = some (.int .i64 t364) := (qQc BK367.out 1).trans rfl; have hcz18_2 : wc.cell? ⟨gb367, 2, none⟩ = some (.int .i64 t365) := (qQc BK367.out 2).trans rfl; have hfz18_0 := qQi BK367.out 0; have hfz18_1 := qQi BK367.out 1; have hfz18_2 := qQi BK367.out 2) | (go_at_call 62; (first | (with_reducible refine (qQn.calls kj10 (wrap64 (1960 + (wrap64 (Int.tdiv (wrap64 ((wrap64 ((wrap64 ((wrap64 (12 * (wrap64 (t363 - 1960)))) + t364)) - 1)) + a1)) 12)))) (wrap64 (1 + (Int.tmod (wrap64 ((wrap64 ((wrap64 ((wrap64 (12 * (wrap64 (t363 - 1960)))) + t364)) - 1)) + a1)) 12))) t369 _ A16.out).mono ?_) | (simp only [i64_w, i32_w]; with_reducible refine (qQn.calls kj10 (wrap64 (1960 + (wrap64 (Int.tdiv (wrap64 ((wrap64 ((wrap64 ((wrap64 (12 * (wrap64 (t363 - 1960)))) + t364)) - 1)) + a1)) 12)))) (wrap64 (1 + (Int.tmod (wrap64 ((wrap64 ((wrap64 ((wrap64 (12 * (wrap64 (t363 - 1960)))) + t364)) - 1)) + a1)) 12))) t369 _ A16.out).mono ?_)); rintro e w' ⟨rfl, ⟨nd, rfl⟩⟩; (try first | exact ⟨rfl, _, World.drewN_drewN _ _ _⟩ | exact ⟨rfl, _, Eq.trans (World.drewN_drewN _ _ _) (congrArg (World.drewN _) (Nat.add_assoc _ _ _))⟩))); try go_wp2_with (first | (go_at_call 61; (first | (with_reducible refine (qQ8.calls kj10 (wrap64 ((wrap64 ((wrap64 ((wrap64 (12 * (wrap64 (t363 - 1960)))) + t364)) - 1)) + a1)) t368 _ A15.out).mono ?_) | (simp only [i64_w, i32_w]; with_reducible refine (qQ8.calls kj10 (wrap64 ((wrap64 ((wrap64 ((wrap64 (12 * (wrap64 (t363 - 1960)))) + t364)) - 1)) + a1)) t368 _ A15.out).mono ?_)); rintro e w' ⟨rfl, ⟨nd, rfl⟩⟩; (try first | exact ⟨rfl, _, World.drewN_drewN _ _ _⟩ | exact ⟨rfl, _, Eq.trans (World.drewN_drewN _ _ _) (congrArg (World.drewN _) (Nat.add_assoc _ _ _))⟩); have hcz18_0 : wc.cell? ⟨gb367, 0, none⟩ = some (.int .i64 t363) := (qQc BK367.out 0).trans rfl; have hcz18_1 : wc.cell? ⟨gb367, 1, none⟩ = some (.int .i64 t364) := (qQc BK367.out 1).trans rfl; have hcz18_2 : wc.cell? ⟨gb367, 2, none⟩ = some (.int .i64 t365) := (qQc BK367.out 2).trans rfl; have hfz18_0 := qQi BK367.out 0; have hfz18_1 := qQi BK367.out 1; have hfz18_2 := qQi BK367.out 2) | (go_at_call 62; (first | (with_reducible refine (qQn.calls kj10 (wrap64 (1960 + (wrap64 (Int.tdiv (wrap64 ((wrap64 ((wrap64 ((wrap64 (12 * (wrap64 (t363 - 1960)))) + t364)) - 1)) + a1)) 12)))) (wrap64 (1 + (Int.tmod (wrap64 ((wrap64 ((wrap64 ((wrap64 (12 * (wrap64 (t363 - 1960)))) + t364)) - 1)) + a1)) 12))) t369 _ A16.out).mono ?_) | (simp only [i64_w, i32_w]; with_reducible refine (qQn.calls kj10 (wrap64 (1960 + (wrap64 (Int.tdiv (wrap64 ((wrap64 ((wrap64 ((wrap64 (12 * (wrap64 (t363 - 1960)))) + t364)) - 1)) + a1)) 12)))) (wrap64 (1 + (Int.tmod (wrap64 ((wrap64 ((wrap64 ((wrap64 (12 * (wrap64 (t363 - 1960)))) + t364)) - 1)) + a1)) 12))) t369 _ A16.out).mono ?_)); rintro e w' ⟨rfl, ⟨nd, rfl⟩⟩; (try first | exact ⟨rfl, _, World.drewN_drewN _ _ _⟩ | exact ⟨rfl, _, Eq.trans (World.drewN_drewN _ _ _) (congrArg (World.drewN _) (Nat.add_assoc _ _ _))⟩))))
     go_ret2
     exact ⟨by first | rfl | (simp [i64_w, i32_w, qQq, qQr]; done) | (simp [qQq, qQr] <;> rfl) | (simp only [← hji17]; first | rfl | (simp [qQq, qQr] <;> rfl)) | (simp [*, qQq, qQr] <;> rfl), by exact h1q HB.out GE367.out⟩
end Go.Proofs.YtlhcohipnieidaaGreat.P
