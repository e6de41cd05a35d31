/- Functions of the program as plain Lean functions, and proofs that its calls come to just their answers, where they tell one (written by a program of this session). -/
import Derived.Test.YtlhcohipnieidaaZaa
import Derived.Test.YtlhcohipnieidaaPx0
import Derived.Test.YtlhcohipnieidaaPx18
import Derived.Test.YtlhcohipnieidaaPx24
import Derived.Test.YtlhcohipnieidaaPx25
import Derived.Test.YtlhcohipnieidaaPx29
import Derived.Test.YtlhcohipnieidaaZb
import Derived.Test.YtlhcohipnieidaaZo
namespace Go.Proofs.Ytlhcohipnieidaa.P
open Go.RowKit Go.Proofs.YtlhcohipnieidaaW.PrintWords Go.Proofs.YtlhcohipnieidaaW.PrintLast Go.Proofs.YtlhcohipnieidaaW.PrintMore
attribute [local go_sem] max2_int min2_int max_two min_two max_three min_three max_four min_four   -- for this text's walks alone
set_option linter.unusedVariables false
set_option linter.unusedSimpArgs false

/-! ### plan_Asks: function 16 -/
mutual
def plan_Asks.j0 : Nat → Int → List Int → List Int → Bool → Int → List Int → Int → List (S23) → Int → Int → Int → Int → List (S147) → Int → Int → Int → Int → Int → Int → Option (List Int × List Int × Int)
 | 0, _, _, _, _, _, _, _, _, _, _, _, _, _, _, _, _, _, _, _ => none
 | k + 1, x2, x6, x7, x31, x304000, x304001, x305000, x305001, x305002, x305003, x305004, x305005, x305006, x305007, x305008, x305009, x305010, x305011, x305012 => if x31 = true then (some (([] : List Int), ([] : List Int), 1)) else (plan_Asks.l0 k x2 x6 x7 ([] : List (S23)) x305001 (x305001.length : Int) 0 x304000 x304001 x305000 x305001 x305002 x305003 x305004 x305005 x305006 x305007 x305008 x305009 x305010 x305011 x305012)
def plan_Asks.l0 : Nat → Int → List Int → List Int → List (S23) → List (S23) → Int → Int → Int → List Int → Int → List (S23) → Int → Int → Int → Int → List (S147) → Int → Int → Int → Int → Int → Int → Option (List Int × List Int × Int)
 | 0, _, _, _, _, _, _, _, _, _, _, _, _, _, _, _, _, _, _, _, _, _, _ => none
 | k + 1, x2, x6, x7, x9, x33, x34, x35, x304000, x304001, x305000, x305001, x305002, x305003, x305004, x305005, x305006, x305007, x305008, x305009, x305010, x305011, x305012 => if x35 < x34 then (if 0 ≤ x35 then (if x35 < (x33.length : Int) then ((plan_Part.f ((rd_T23 x33 x35).f0) ((rd_T23 x33 x35).f1) ((rd_T23 x33 x35).f2) ((rd_T23 x33 x35).f3) ((rd_T23 x33 x35).f4) ((rd_T23 x33 x35).f5) ((rd_T23 x33 x35).f6) ((rd_T23 x33 x35).f7) ((rd_T23 x33 x35).f8) ((rd_T23 x33 x35).f9) ((rd_T23 x33 x35).f10) ((rd_T23 x33 x35).f11) ((rd_T23 x33 x35).f12)).bind fun t310 => (if t310 = true then (if x9.length < 1353245080339 then (if x6.length < 17592186044416 then (plan_Asks.l0 k x2 (x6 ++ [(rd_T23 x33 x35).f0]) x7 (x9 ++ [(⟨(rd_T23 x33 x35).f0, (rd_T23 x33 x35).f1, (rd_T23 x33 x35).f2, (rd_T23 x33 x35).f3, (rd_T23 x33 x35).f4, (rd_T23 x33 x35).f5, (rd_T23 x33 x35).f6, (rd_T23 x33 x35).f7, (rd_T23 x33 x35).f8, (rd_T23 x33 x35).f9, (rd_T23 x33 x35).f10, (rd_T23 x33 x35).f11, (rd_T23 x33 x35).f12⟩ : S23)]) x33 x34 (wrap64 (x35 + 1)) x304000 x304001 x305000 x305001 x305002 x305003 x305004 x305005 x305006 x305007 x305008 x305009 x305010 x305011 x305012) else (none)) else (none)) else (plan_Asks.l0 k x2 x6 x7 x9 x33 x34 (wrap64 (x35 + 1)) x304000 x304001 x305000 x305001 x305002 x305003 x305004 x305005 x305006 x305007 x305008 x305009 x305010 x305011 x305012))) else (none)) else (none)) else (if (x9.length : Int) = 0 then (some (([] : List Int), ([] : List Int), 0)) else ((plan_Holds.f k x305000 x305001 x305002 x305003 x305004 x305005 x305006 x305007 x305008 x305009 x305010 x305011 x305012 x2).bind fun t317 => (if 0 ≤ (x9.length : Int) then (if ((x9.length : Int) : Int).toNat ≤ 35184372088832 then (if t317 = 4 then ((plan_shares.f k x304000 x304001 x305000 x305001 x305002 x305003 x305004 x305005 x305006 x305007 x305008 x305009 x305010 x305011 x305012 x9).bind fun bt321 => (if bt321.2 = 0 then (plan_Asks.j2 k x2 x6 x7 x9 t317 bt321.1) else (some (([] : List Int), ([] : List Int), bt321.2)))) else (plan_Asks.j2 k x2 x6 x7 x9 t317 (List.replicate ((x9.length : Int) : Int).toNat 0))) else (none)) else (none))))
def plan_Asks.j2 : Nat → Int → List Int → List Int → List (S23) → Int → List Int → Option (List Int × List Int × Int)
 | 0, _, _, _, _, _, _ => none
 | k + 1, x2, x6, x7, x9, x12, x13 => plan_Asks.l1 k x2 x6 x7 x12 x13 x9 (x9.length : Int) 0
def plan_Asks.l1 : Nat → Int → List Int → List Int → Int → List Int → List (S23) → Int → Int → Option (List Int × List Int × Int)
 | 0, _, _, _, _, _, _, _, _ => none
 | k + 1, x2, x6, x7, x12, x13, x72, x73, x74 => if x74 < x73 then (if 0 ≤ x74 then (if x74 < (x72.length : Int) then (if x74 < (x13.length : Int) then (if x12 = 4 then ((plan_capped.f k ((rd_T23 x72 x74).f0) ((rd_T23 x72 x74).f1) ((rd_T23 x72 x74).f2) ((rd_T23 x72 x74).f3) ((rd_T23 x72 x74).f4) ((rd_T23 x72 x74).f5) ((rd_T23 x72 x74).f6) ((rd_T23 x72 x74).f7) ((rd_T23 x72 x74).f8) ((rd_T23 x72 x74).f9) ((rd_T23 x72 x74).f10) ((rd_T23 x72 x74).f11) ((rd_T23 x72 x74).f12) (rd x13 x74)).bind fun bt328 => (if bt328.2 = 0 then (if x7.length < 17592186044416 then (plan_Asks.l1 k x2 x6 (x7 ++ [bt328.1]) x12 x13 x72 x73 (wrap64 (x74 + 1))) else (none)) else (some (([] : List Int), ([] : List Int), bt328.2)))) else ((plan_Of.f k ((rd_T23 x72 x74).f0) ((rd_T23 x72 x74).f1) ((rd_T23 x72 x74).f2) ((rd_T23 x72 x74).f3) ((rd_T23 x72 x74).f4) ((rd_T23 x72 x74).f5) ((rd_T23 x72 x74).f6) ((rd_T23 x72 x74).f7) ((rd_T23 x72 x74).f8) ((rd_T23 x72 x74).f9) ((rd_T23 x72 x74).f10) ((rd_T23 x72 x74).f11) ((rd_T23 x72 x74).f12) x12 x2).bind fun bt333 => (if bt333.2 = 0 then (if x7.length < 17592186044416 then (plan_Asks.l1 k x2 x6 (x7 ++ [bt333.1]) x12 x13 x72 x73 (wrap64 (x74 + 1))) else (none)) else (some (([] : List Int), ([] : List Int), bt333.2))))) else (none)) else (none)) else (none)) else (some (x6, x7, 0))
end
def plan_Asks.f (k : Nat) (a0_0 : Int) (l0_1 : List Int) (a1_0 : Int) (l1_1 : List (S23)) (a1_2 : Int) (a1_3 : Int) (a1_4 : Int) (a1_5 : Int) (l1_6 : List (S147)) (a1_7 : Int) (a1_8 : Int) (a1_9 : Int) (a1_10 : Int) (a1_11 : Int) (a1_12 : Int) (a2 : Int) : Option (List Int × List Int × Int) := (income_Good.f k l0_1).bind fun t305 => (if t305 = true then ((date_Good.f a2).bind fun t306 => (if t306 = true then ((plan_bad.f k l1_1).bind fun t307 => (plan_Asks.j0 k a2 ([] : List Int) ([] : List Int) t307 a0_0 l0_1 a1_0 l1_1 a1_2 a1_3 a1_4 a1_5 l1_6 a1_7 a1_8 a1_9 a1_10 a1_11 a1_12)) else (plan_Asks.j0 k a2 ([] : List Int) ([] : List Int) true a0_0 l0_1 a1_0 l1_1 a1_2 a1_3 a1_4 a1_5 l1_6 a1_7 a1_8 a1_9 a1_10 a1_11 a1_12))) else (plan_Asks.j0 k a2 ([] : List Int) ([] : List Int) true a0_0 l0_1 a1_0 l1_1 a1_2 a1_3 a1_4 a1_5 l1_6 a1_7 a1_8 a1_9 a1_10 a1_11 a1_12))
set_option maxHeartbeats 8000000 in
set_option maxRecDepth 100000 in
theorem plan_Asks.calls (k : Nat) (a0_0 : Int) (A0_1 : Option Addr) (c0_1 : Nat) (l0_1 : List Int) (a1_0 : Int) (A1_1 : Option Addr) (c1_1 : Nat) (l1_1 : List (S23)) (a1_2 : Int) (a1_3 : Int) (a1_4 : Int) (a1_5 : Int) (A1_6 : Option Addr) (c1_6 : Nat) (l1_6 : List (S147)) (a1_7 : Int) (a1_8 : Int) (a1_9 : Int) (a1_10 : Int) (a1_11 : Int) (a1_12 : Int) (a2 : Int) (r1 : List Int) (r2 : List Int) (r3 : Int) (w : World) (hr0_1 : Kd.C (Kd.int .i64) w A0_1 l0_1.length l0_1) (hc0_1 : l0_1.length ≤ c0_1) (hr1_1 : Kd.C k23 w A1_1 l1_1.length l1_1) (hc1_1 : l1_1.length ≤ c1_1) (hr1_6 : Kd.C k147 w A1_6 l1_6.length l1_6) (hc1_6 : l1_6.length ≤ c1_6) (h : plan_Asks.f k a0_0 l0_1 a1_0 l1_1 a1_2 a1_3 a1_4 a1_5 l1_6 a1_7 a1_8 a1_9 a1_10 a1_11 a1_12 a2 = some (r1, r2, r3)) :
  Calls Try.prog 16 #[.agg #[.int .i64 a0_0, .slice A0_1 l0_1.length c0_1], .agg #[.int .i64 a1_0, .slice A1_1 l1_1.length c1_1, .int .i64 a1_2, .int .i64 a1_3, .int .i64 a1_4, .int .i64 a1_5, .slice A1_6 l1_6.length c1_6, .int .i64 a1_7, .int .i64 a1_8, .int .i64 a1_9, .int .i64 a1_10, .int .i64 a1_11, .int .i64 a1_12], .int .i64 a2] w fun e w' => ∃ v0_ v1_ : Value, e = .returned (.tuple #[v0_, v1_, .int .i64 r3]) ∧ Kd.R (Kd.int .i64) 3 w' w.heap.size (fun _ => True) v0_ r1 ∧ Kd.R (Kd.int .i64) 2 w' w.heap.size (fun _ => True) v1_ r2 ∧ Below w.heap.size w w' := by
 have hu51 := Try.underlying51
 have hu38 := Try.underlying38
 have hu23 := Try.underlying23
 have HR0_1 := Aside0.mk hr0_1
 have HC0_1 := Aside0.mk hc0_1
 clear hr0_1 hc0_1
 have HR1_1 := Aside0.mk hr1_1
 have HC1_1 := Aside0.mk hc1_1
 clear hr1_1 hc1_1
 have HR1_6 := Aside0.mk hr1_6
 have HC1_6 := Aside0.mk hc1_6
 clear hr1_6 hc1_6
 have HB := Aside0.mk (Below.refl w.heap.size w)
 have H : ((income_Good.f k l0_1).bind fun t305 => (if t305 = true then ((date_Good.f a2).bind fun t306 => (if t306 = true then ((plan_bad.f k l1_1).bind fun t307 => (plan_Asks.j0 k a2 ([] : List Int) ([] : List Int) t307 a0_0 l0_1 a1_0 l1_1 a1_2 a1_3 a1_4 a1_5 l1_6 a1_7 a1_8 a1_9 a1_10 a1_11 a1_12)) else (plan_Asks.j0 k a2 ([] : List Int) ([] : List Int) true a0_0 l0_1 a1_0 l1_1 a1_2 a1_3 a1_4 a1_5 l1_6 a1_7 a1_8 a1_9 a1_10 a1_11 a1_12))) else (plan_Asks.j0 k a2 ([] : List Int) ([] : List Int) true a0_0 l0_1 a1_0 l1_1 a1_2 a1_3 a1_4 a1_5 l1_6 a1_7 a1_8 a1_9 a1_10 a1_11 a1_12))) = some (r1, r2, r3) := h
 clear h
 have HC4 := Aside0.mk H
 clear H
 go_enter Try.func16, Try.ntmps16
 go_upto_region 1 with (first | ((with_reducible refine gate_dst (N := 3) rfl ?_); refine box_event ?hg (N := 3) ?hd (cs := #[.int .i64 a0_0, .slice A0_1 l0_1.length c0_1]) (t := 51) ?hr ?_; (case hd => rfl); (case hg => rfl); (case hr => first | (go_simp; done) | (go_simp; rfl)); intro gb303 hg w5 hbox hb; have n0_ := Aside0.mk (below_step (by exact h0q HB.out) hb); have n1_ := Aside0.mk (hbox); have n2_ := Aside0.mk ((by rw [hg]; exact (below_size (by exact h0q HB.out)) : w.heap.size ≤ gb303)); have n3_ := Aside0.mk ((by rw [hg]; exact (below_size (by exact h0q HB.out)) : w.heap.size ≤ gb303)); clear HB; have HB := n0_; have BK303 := n1_; have GW303 := n2_; have GE303 := n3_; clear n0_ n1_ n2_ n3_; clear hb hbox hg) | ((with_reducible refine gate_dst (N := 4) rfl ?_); refine box_event ?hg (N := 4) ?hd (cs := #[.int .i64 a1_0, .slice A1_1 l1_1.length c1_1, .int .i64 a1_2, .int .i64 a1_3, .int .i64 a1_4, .int .i64 a1_5, .slice A1_6 l1_6.length c1_6, .int .i64 a1_7, .int .i64 a1_8, .int .i64 a1_9, .int .i64 a1_10, .int .i64 a1_11, .int .i64 a1_12]) (t := 38) ?hr ?_; (case hd => rfl); (case hg => rfl); (case hr => first | (go_simp; done) | (go_simp; rfl)); intro gb304 hg w6 hbox hb; have n0_ := Aside0.mk (blk_below (g := gb303) (Up.up BK303.out) hb); have n1_ := Aside0.mk (below_step (by exact h1q HB.out GE303.out) hb); have n2_ := Aside0.mk (hbox); have n3_ := Aside0.mk ((by rw [hg]; exact (below_size (by exact h1q HB.out GE303.out)) : w.heap.size ≤ gb304)); have n4_ := Aside0.mk ((by rw [hg]; exact (below_size (by exact h1q HB.out GE303.out)) : w.heap.size ≤ gb304)); have n5_ := Aside0.mk ((by rw [hg]; exact Nat.ne_of_lt (blk_lt (g := gb303) (Up.up BK303.out)) : gb303 ≠ gb304)); have n6_ := Aside0.mk ((by rw [hg]; exact Nat.ne_of_gt (blk_lt (g := gb303) (Up.up BK303.out)) : gb304 ≠ gb303)); clear BK303; clear HB; have BK303 := n0_; have HB := n1_; have BK304 := n2_; have GW304 := n3_; have GE304 := n4_; have NB303_304 := n5_; have NB304_303 := n6_; clear n0_ n1_ n2_ n3_ n4_ n5_ n6_; clear hb hbox hg))
 (try simp only [Act.put, List.setIfInBounds_toArray, List.set_cons_zero, List.set_cons_succ])
 go_cut [31] (fun v31 wc => ∃ (kq : Nat) (x31_3 : Bool), v31 = .bool x31_3 ∧ Aside0 (plan_Asks.j0 kq a2 ([] : List Int) ([] : List Int) x31_3 a0_0 l0_1 a1_0 l1_1 a1_2 a1_3 a1_4 a1_5 l1_6 a1_7 a1_8 a1_9 a1_10 a1_11 a1_12 = some (r1, r2, r3)) ∧ Aside0 (kq ≤ k) ∧ Aside0 (Kd.R (Kd.int .i64) 3 wc w.heap.size (fun _ => True) (.slice none 0 0) ([] : List Int)) ∧ Aside0 (Kd.R (Kd.int .i64) 2 wc w.heap.size (fun _ => True) (.slice none 0 0) ([] : List Int)) ∧ Aside0 (wc.heap[gb303]? = some (.cells #[.int .i64 a0_0, (.slice A0_1 l0_1.length c0_1)] 51 (0, 0))) ∧ Aside0 (wc.heap[gb304]? = some (.cells #[.int .i64 a1_0, (.slice A1_1 l1_1.length c1_1), .int .i64 a1_2, .int .i64 a1_3, .int .i64 a1_4, .int .i64 a1_5, (.slice A1_6 l1_6.length c1_6), .int .i64 a1_7, .int .i64 a1_8, .int .i64 a1_9, .int .i64 a1_10, .int .i64 a1_11, .int .i64 a1_12] 38 (0, 0))) ∧ Aside0 (Below w.heap.size w wc))
 case first =>
  have H := HC4.out
  clear HC4
  replace H := Option.bind_eq_some_iff.mp H
  obtain ⟨t305, A70, H⟩ := H
  replace H : (if t305 = true then ((date_Good.f a2).bind fun t306 => (if t306 = true then ((plan_bad.f k l1_1).bind fun t307 => (plan_Asks.j0 k a2 ([] : List Int) ([] : List Int) t307 a0_0 l0_1 a1_0 l1_1 a1_2 a1_3 a1_4 a1_5 l1_6 a1_7 a1_8 a1_9 a1_10 a1_11 a1_12)) else (plan_Asks.j0 k a2 ([] : List Int) ([] : List Int) true a0_0 l0_1 a1_0 l1_1 a1_2 a1_3 a1_4 a1_5 l1_6 a1_7 a1_8 a1_9 a1_10 a1_11 a1_12))) else (plan_Asks.j0 k a2 ([] : List Int) ([] : List Int) true a0_0 l0_1 a1_0 l1_1 a1_2 a1_3 a1_4 a1_5 l1_6 a1_7 a1_8 a1_9 a1_10 a1_11 a1_12)) = some (r1, r2, r3) := H
  have A7 := Aside0.mk A70
  clear A70
  by_cases c8 : t305 = true
  ·subst c8
   have H1 : ((date_Good.f a2).bind fun t306 => (if t306 = true then ((plan_bad.f k l1_1).bind fun t307 => (plan_Asks.j0 k a2 ([] : List Int) ([] : List Int) t307 a0_0 l0_1 a1_0 l1_1 a1_2 a1_3 a1_4 a1_5 l1_6 a1_7 a1_8 a1_9 a1_10 a1_11 a1_12)) else (plan_Asks.j0 k a2 ([] : List Int) ([] : List Int) true a0_0 l0_1 a1_0 l1_1 a1_2 a1_3 a1_4 a1_5 l1_6 a1_7 a1_8 a1_9 a1_10 a1_11 a1_12))) = some (r1, r2, r3) := by rw [if_pos rfl] at H; exact H
   clear H
   have H := H1
   clear H1
   replace H := Option.bind_eq_some_iff.mp H
   obtain ⟨t306, A90, H⟩ := H
   replace H : (if t306 = true then ((plan_bad.f k l1_1).bind fun t307 => (plan_Asks.j0 k a2 ([] : List Int) ([] : List Int) t307 a0_0 l0_1 a1_0 l1_1 a1_2 a1_3 a1_4 a1_5 l1_6 a1_7 a1_8 a1_9 a1_10 a1_11 a1_12)) else (plan_Asks.j0 k a2 ([] : List Int) ([] : List Int) true a0_0 l0_1 a1_0 l1_1 a1_2 a1_3 a1_4 a1_5 l1_6 a1_7 a1_8 a1_9 a1_10 a1_11 a1_12)) = some (r1, r2, r3) := H
   have A9 := Aside0.mk A90
   clear A90
   by_cases c10 : t306 = true
   ·subst c10
    have H1 : ((plan_bad.f k l1_1).bind fun t307 => (plan_Asks.j0 k a2 ([] : List Int) ([] : List Int) t307 a0_0 l0_1 a1_0 l1_1 a1_2 a1_3 a1_4 a1_5 l1_6 a1_7 a1_8 a1_9 a1_10 a1_11 a1_12)) = some (r1, r2, r3) := by rw [if_pos rfl] at H; exact H
    clear H
    have H := H1
    clear H1
    replace H := Option.bind_eq_some_iff.mp H
    obtain ⟨t307, A110, H⟩ := H
    replace H : (plan_Asks.j0 k a2 ([] : List Int) ([] : List Int) t307 a0_0 l0_1 a1_0 l1_1 a1_2 a1_3 a1_4 a1_5 l1_6 a1_7 a1_8 a1_9 a1_10 a1_11 a1_12) = some (r1, r2, r3) := H
    have A11 := Aside0.mk A110
    clear A110
    have H' := Aside0.mk H
    clear H
    have hnb12 := NB303_304.out
    have hnc12 := NB304_303.out
    have hcz13_0 : w6.cell? ⟨gb303, 0, none⟩ = some (.int .i64 a0_0) := (blk_cell BK303.out 0).trans rfl
    have hcz13_1 : w6.cell? ⟨gb303, 1, none⟩ = some (.slice A0_1 l0_1.length c0_1) := (blk_cell BK303.out 1).trans rfl
    have hfz13_0 := blk_frozen BK303.out 0
    have hfz13_1 := blk_frozen BK303.out 1
    go_wp2_with (first | ((with_reducible refine gate_callee (f := 33) rfl ?_); refine goesL_ (some 20) rfl rfl Try.func33 (by kernel_rfl) rfl #[.slice A0_1 l0_1.length c0_1] rfl (by (try simp only [List.map_toArray, List.map_cons, List.map_nil]); first | done | rfl | (simp only [List.length_drop, List.length_take]; rfl)) ?_; (with_reducible refine (income_Good.calls k _ _ l0_1 true _ ?side1 ?side2 A7.out).mono ?_); (case side1 => repeat (first | exact (Kd.C_below HR0_1.out HB.out) | (with_reducible refine Kd.C_alloc ?_ _) | (with_reducible refine Kd.C_drewN ?_ _) | (with_reducible refine Kd.C_drew ?_))); (case side2 => exact HC0_1.out); rintro e w' ⟨rfl, ⟨nd, rfl⟩⟩; refine ⟨_, rfl, ?_⟩) | (go_at_call 30; (with_reducible refine (date_Good.calls a2 true _ A9.out).mono ?_); rintro e w' ⟨rfl, ⟨nd, rfl⟩⟩; obtain ⟨hcz14_0, hcz14_1, hcz14_2, hcz14_3, hcz14_4, hcz14_5, hcz14_6, hcz14_7, hcz14_8, hcz14_9, hcz14_10, hcz14_11, hcz14_12, hfz14_0, hfz14_1, hfz14_2, hfz14_3, hfz14_4, hfz14_5, hfz14_6, hfz14_7, hfz14_8, hfz14_9, hfz14_10, hfz14_11, hfz14_12⟩ := lc13 BK304.out) | (go_at_call 34; (with_reducible refine (plan_bad.calls k _ _ l1_1 t307 _ ?side1 ?side2 A11.out).mono ?_); (case side1 => repeat (first | exact (Kd.C_below HR1_1.out (by exact h2q HB.out GE303.out GE304.out)) | (with_reducible refine Kd.C_alloc ?_ _) | (with_reducible refine Kd.C_drewN ?_ _) | (with_reducible refine Kd.C_drew ?_))); (case side2 => exact HC1_1.out); rintro e w15 ⟨rfl, hb⟩; have n0_ := Aside0.mk (blk_below (g := gb303) (Up.up BK303.out) hb); have n1_ := Aside0.mk (blk_below (g := gb304) (Up.up BK304.out) hb); have n2_ := Aside0.mk (below_step (by exact h2q HB.out GE303.out GE304.out) hb); clear BK303; clear BK304; clear HB; have BK303 := n0_; have BK304 := n1_; have HB := n2_; clear n0_ n1_ n2_; (try clear hb); (try clear hb2); (try clear hk); (try clear hi)))
    go_meet
    case rel => exact ⟨_, (t307), (by first | rfl | (simp; done) | (simp [*]; done)), H', ⟨by first | omega | exact Nat.le_refl _⟩, ⟨by first | exact Kd.R_nil _ _ _ _ _ | exact Kd.N_nil _ _ _ _ _ | exact Kd.V_nil _ _ _ _ _ | exact Kd.Q_nil _ _ _ _ _ | exact Kd.S_nil _ _ _ _ _⟩, ⟨by first | exact Kd.R_nil _ _ _ _ _ | exact Kd.N_nil _ _ _ _ _ | exact Kd.V_nil _ _ _ _ _ | exact Kd.Q_nil _ _ _ _ _ | exact Kd.S_nil _ _ _ _ _⟩, ⟨by exact bb BK303.out⟩, ⟨by exact bb BK304.out⟩, ⟨by exact h2q HB.out GE303.out GE304.out⟩⟩
   ·replace c10 := Bool.eq_false_iff.mpr c10
    subst c10
    have H1 : (plan_Asks.j0 k a2 ([] : List Int) ([] : List Int) true a0_0 l0_1 a1_0 l1_1 a1_2 a1_3 a1_4 a1_5 l1_6 a1_7 a1_8 a1_9 a1_10 a1_11 a1_12) = some (r1, r2, r3) := by rw [if_neg (show ¬ (false = true) by decide)] at H; exact H
    clear H
    have H := H1
    clear H1
    have H' := Aside0.mk H
    clear H
    have hnb16 := NB303_304.out
    have hnc16 := NB304_303.out
    have hcz17_0 : w6.cell? ⟨gb303, 0, none⟩ = some (.int .i64 a0_0) := (blk_cell BK303.out 0).trans rfl
    have hcz17_1 : w6.cell? ⟨gb303, 1, none⟩ = some (.slice A0_1 l0_1.length c0_1) := (blk_cell BK303.out 1).trans rfl
    have hfz17_0 := blk_frozen BK303.out 0
    have hfz17_1 := blk_frozen BK303.out 1
    go_wp2_with (first | ((with_reducible refine gate_callee (f := 33) rfl ?_); refine goesL_ (some 20) rfl rfl Try.func33 (by kernel_rfl) rfl #[.slice A0_1 l0_1.length c0_1] rfl (by (try simp only [List.map_toArray, List.map_cons, List.map_nil]); first | done | rfl | (simp only [List.length_drop, List.length_take]; rfl)) ?_; (with_reducible refine (income_Good.calls k _ _ l0_1 true _ ?side1 ?side2 A7.out).mono ?_); (case side1 => repeat (first | exact (Kd.C_below HR0_1.out HB.out) | (with_reducible refine Kd.C_alloc ?_ _) | (with_reducible refine Kd.C_drewN ?_ _) | (with_reducible refine Kd.C_drew ?_))); (case side2 => exact HC0_1.out); rintro e w' ⟨rfl, ⟨nd, rfl⟩⟩; refine ⟨_, rfl, ?_⟩) | (go_at_call 30; (with_reducible refine (date_Good.calls a2 false _ A9.out).mono ?_); rintro e w' ⟨rfl, ⟨nd, rfl⟩⟩))
    go_meet
    case rel => exact ⟨_, (true), (by first | rfl | (simp; done) | (simp [*]; done)), H', ⟨by first | omega | exact Nat.le_refl _⟩, ⟨by first | exact Kd.R_nil _ _ _ _ _ | exact Kd.N_nil _ _ _ _ _ | exact Kd.V_nil _ _ _ _ _ | exact Kd.Q_nil _ _ _ _ _ | exact Kd.S_nil _ _ _ _ _⟩, ⟨by first | exact Kd.R_nil _ _ _ _ _ | exact Kd.N_nil _ _ _ _ _ | exact Kd.V_nil _ _ _ _ _ | exact Kd.Q_nil _ _ _ _ _ | exact Kd.S_nil _ _ _ _ _⟩, ⟨by exact bb BK303.out⟩, ⟨by exact bb BK304.out⟩, ⟨by exact h2q HB.out GE303.out GE304.out⟩⟩
  ·replace c8 := Bool.eq_false_iff.mpr c8
   subst c8
   have H1 : (plan_Asks.j0 k a2 ([] : List Int) ([] : List Int) true a0_0 l0_1 a1_0 l1_1 a1_2 a1_3 a1_4 a1_5 l1_6 a1_7 a1_8 a1_9 a1_10 a1_11 a1_12) = some (r1, r2, r3) := by rw [if_neg (show ¬ (false = true) by decide)] at H; exact H
   clear H
   have H := H1
   clear H1
   have H' := Aside0.mk H
   clear H
   have hnb18 := NB303_304.out
   have hnc18 := NB304_303.out
   have hcz19_0 : w6.cell? ⟨gb303, 0, none⟩ = some (.int .i64 a0_0) := (blk_cell BK303.out 0).trans rfl
   have hcz19_1 : w6.cell? ⟨gb303, 1, none⟩ = some (.slice A0_1 l0_1.length c0_1) := (blk_cell BK303.out 1).trans rfl
   have hfz19_0 := blk_frozen BK303.out 0
   have hfz19_1 := blk_frozen BK303.out 1
   go_wp2_with (first | ((with_reducible refine gate_callee (f := 33) rfl ?_); refine goesL_ (some 20) rfl rfl Try.func33 (by kernel_rfl) rfl #[.slice A0_1 l0_1.length c0_1] rfl (by (try simp only [List.map_toArray, List.map_cons, List.map_nil]); first | done | rfl | (simp only [List.length_drop, List.length_take]; rfl)) ?_; (with_reducible refine (income_Good.calls k _ _ l0_1 false _ ?side1 ?side2 A7.out).mono ?_); (case side1 => repeat (first | exact (Kd.C_below HR0_1.out HB.out) | (with_reducible refine Kd.C_alloc ?_ _) | (with_reducible refine Kd.C_drewN ?_ _) | (with_reducible refine Kd.C_drew ?_))); (case side2 => exact HC0_1.out); rintro e w' ⟨rfl, ⟨nd, rfl⟩⟩; refine ⟨_, rfl, ?_⟩))
   go_meet
   case rel => exact ⟨_, (true), (by first | rfl | (simp; done) | (simp [*]; done)), H', ⟨by first | omega | exact Nat.le_refl _⟩, ⟨by first | exact Kd.R_nil _ _ _ _ _ | exact Kd.N_nil _ _ _ _ _ | exact Kd.V_nil _ _ _ _ _ | exact Kd.Q_nil _ _ _ _ _ | exact Kd.S_nil _ _ _ _ _⟩, ⟨by first | exact Kd.R_nil _ _ _ _ _ | exact Kd.N_nil _ _ _ _ _ | exact Kd.V_nil _ _ _ _ _ | exact Kd.Q_nil _ _ _ _ _ | exact Kd.S_nil _ _ _ _ _⟩, ⟨by exact bb BK303.out⟩, ⟨by exact bb BK304.out⟩, ⟨by exact h2q HB.out GE303.out GE304.out⟩⟩
 case rest =>
  clear HC4
  try clear c8
  try clear c10
  try clear hcz13_0
  try clear hcz13_1
  try clear hcz14_0
  try clear hcz14_1
  try clear hcz14_10
  try clear hcz14_11
  try clear hcz14_12
  try clear hcz14_2
  try clear hcz14_3
  try clear hcz14_4
  try clear hcz14_5
  try clear hcz14_6
  try clear hcz14_7
  try clear hcz14_8
  try clear hcz14_9
  try clear hcz17_0
  try clear hcz17_1
  try clear hcz19_0
  try clear hcz19_1
  try clear hfz13_0
  try clear hfz13_1
  try clear hfz14_0
  try clear hfz14_1
  try clear hfz14_10
  try clear hfz14_11
  try clear hfz14_12
  try clear hfz14_2
  try clear hfz14_3
  try clear hfz14_4
  try clear hfz14_5
  try clear hfz14_6
  try clear hfz14_7
  try clear hfz14_8
  try clear hfz14_9
  try clear hfz17_0
  try clear hfz17_1
  try clear hfz19_0
  try clear hfz19_1
  obtain ⟨kq, x31_3, rfl, HA, HJ3, HO_6, HO_7, BK303, BK304, HB⟩ := hcut
  rcases kq with _ | kj3
  ·exact absurd HA.out (by simp [plan_Asks.j0])
  have H := HA.out
  clear HA
  simp only [plan_Asks.j0] at H
  by_cases c20 : x31_3 = true
  ·subst c20
   have H1 : (some (([] : List Int), ([] : List Int), 1)) = some (r1, r2, r3) := by rw [if_pos rfl] at H; exact H
   clear H
   have H := H1
   clear H1
   simp only [Option.some.injEq, Prod.mk.injEq] at H
   obtain ⟨rfl, rfl, rfl⟩ := H
   go_wp2
   go_ret3
   exact ⟨_, _, by first | rfl | (simp [errW_none, errW_some] <;> rfl) | (simp [*, errW_none, errW_some] <;> rfl), by first | exact Kd.R_nil _ _ _ _ _ | exact Kd.N_nil _ _ _ _ _ | exact Kd.V_nil _ _ _ _ _ | exact Kd.Q_nil _ _ _ _ _ | exact Kd.S_nil _ _ _ _ _, by first | exact Kd.R_nil _ _ _ _ _ | exact Kd.N_nil _ _ _ _ _ | exact Kd.V_nil _ _ _ _ _ | exact Kd.Q_nil _ _ _ _ _ | exact Kd.S_nil _ _ _ _ _, by exact h2q HB.out GE303.out GE304.out⟩
  ·replace c20 := Bool.eq_false_iff.mpr c20
   subst c20
   have H1 : (plan_Asks.l0 kj3 a2 ([] : List Int) ([] : List Int) ([] : List (S23)) l1_1 (l1_1.length : Int) 0 a0_0 l0_1 a1_0 l1_1 a1_2 a1_3 a1_4 a1_5 l1_6 a1_7 a1_8 a1_9 a1_10 a1_11 a1_12) = some (r1, r2, r3) := by rw [if_neg (show ¬ (false = true) by decide)] at H; exact H
   clear H
   have H := H1
   clear H1
   have H' := Aside0.mk H
   clear H
   have hnb21 := NB304_303.out
   have hnc21 := NB303_304.out
   obtain ⟨hcz22_0, hcz22_1, hcz22_2, hcz22_3, hcz22_4, hcz22_5, hcz22_6, hcz22_7, hcz22_8, hcz22_9, hcz22_10, hcz22_11, hcz22_12, hfz22_0, hfz22_1, hfz22_2, hfz22_3, hfz22_4, hfz22_5, hfz22_6, hfz22_7, hfz22_8, hfz22_9, hfz22_10, hfz22_11, hfz22_12⟩ := lc13 BK304.out
   go_wp2
   go_loopg [6, 9, 35] kj3 (fun kq v6 v9 v35 w' => ∃ (x6_2 : List Int) (x9_2 : List (S23)) (x35_2 : Int), v35 = .int .i64 x35_2 ∧ Aside0 (plan_Asks.l0 kq a2 x6_2 ([] : List Int) x9_2 l1_1 (l1_1.length : Int) x35_2 a0_0 l0_1 a1_0 l1_1 a1_2 a1_3 a1_4 a1_5 l1_6 a1_7 a1_8 a1_9 a1_10 a1_11 a1_12 = some (r1, r2, r3)) ∧ Aside0 (kq ≤ kj3) ∧ Aside0 (Kd.R (Kd.int .i64) 3 w' w.heap.size (fun _ => True) v6 x6_2) ∧ Aside0 (Kd.R (Kd.int .i64) 2 w' w.heap.size (fun _ => True) (.slice none 0 0) ([] : List Int)) ∧ Aside0 (Kd.R k23 23 w' w.heap.size (fun _ => True) v9 x9_2) ∧ Aside0 (w'.heap[gb303]? = some (.cells #[.int .i64 a0_0, (.slice A0_1 l0_1.length c0_1)] 51 (0, 0))) ∧ Aside0 (w'.heap[gb304]? = some (.cells #[.int .i64 a1_0, (.slice A1_1 l1_1.length c1_1), .int .i64 a1_2, .int .i64 a1_3, .int .i64 a1_4, .int .i64 a1_5, (.slice A1_6 l1_6.length c1_6), .int .i64 a1_7, .int .i64 a1_8, .int .i64 a1_9, .int .i64 a1_10, .int .i64 a1_11, .int .i64 a1_12] 38 (0, 0))) ∧ Aside0 (Below w.heap.size w w'))
   case atStart => exact ⟨(([] : List Int)), (([] : List (S23))), (0), (by first | rfl | (simp; done) | (simp [*]; done)), H', ⟨Nat.le_refl _⟩, ⟨by exact rq HO_6.out⟩, ⟨by exact rq HO_7.out⟩, ⟨by first | exact Kd.R_nil _ _ _ _ _ | exact Kd.N_nil _ _ _ _ _ | exact Kd.V_nil _ _ _ _ _ | exact Kd.Q_nil _ _ _ _ _ | exact Kd.S_nil _ _ _ _ _⟩, ⟨by exact bb BK303.out⟩, ⟨by exact bb BK304.out⟩, ⟨by exact h2q HB.out GE303.out GE304.out⟩⟩
   case round =>
    clear H'
    try clear c8
    try clear c10
    try clear c20
    try clear hcz13_0
    try clear hcz13_1
    try clear hcz14_0
    try clear hcz14_1
    try clear hcz14_10
    try clear hcz14_11
    try clear hcz14_12
    try clear hcz14_2
    try clear hcz14_3
    try clear hcz14_4
    try clear hcz14_5
    try clear hcz14_6
    try clear hcz14_7
    try clear hcz14_8
    try clear hcz14_9
    try clear hcz17_0
    try clear hcz17_1
    try clear hcz19_0
    try clear hcz19_1
    try clear hcz22_0
    try clear hcz22_1
    try clear hcz22_10
    try clear hcz22_11
    try clear hcz22_12
    try clear hcz22_2
    try clear hcz22_3
    try clear hcz22_4
    try clear hcz22_5
    try clear hcz22_6
    try clear hcz22_7
    try clear hcz22_8
    try clear hcz22_9
    try clear hfz13_0
    try clear hfz13_1
    try clear hfz14_0
    try clear hfz14_1
    try clear hfz14_10
    try clear hfz14_11
    try clear hfz14_12
    try clear hfz14_2
    try clear hfz14_3
    try clear hfz14_4
    try clear hfz14_5
    try clear hfz14_6
    try clear hfz14_7
    try clear hfz14_8
    try clear hfz14_9
    try clear hfz17_0
    try clear hfz17_1
    try clear hfz19_0
    try clear hfz19_1
    try clear hfz22_0
    try clear hfz22_1
    try clear hfz22_10
    try clear hfz22_11
    try clear hfz22_12
    try clear hfz22_2
    try clear hfz22_3
    try clear hfz22_4
    try clear hfz22_5
    try clear hfz22_6
    try clear hfz22_7
    try clear hfz22_8
    try clear hfz22_9
    obtain ⟨x6_2, x9_2, x35_2, rfl, HA, HK2, HO_6, HO_7, HO_9, BK303, BK304, HB⟩ := hrel
    rcases gk with _ | k2
    ·exact absurd HA.out (by simp [plan_Asks.l0])
    have H := HA.out
    clear HA
    simp only [plan_Asks.l0] at H
    by_cases c23 : x35_2 < (l1_1.length : Int)
    ·rw [if_pos c23] at H
     have c23b0 : decide (x35_2 < (l1_1.length : Int)) = true := decide_eq_true c23
     clear c23
     by_cases c24 : 0 ≤ x35_2
     ·rw [if_pos c24] at H
      have c24b0 : decide (0 ≤ x35_2) = true := decide_eq_true c24
      clear c24
      by_cases c25 : x35_2 < (l1_1.length : Int)
      ·rw [if_pos c25] at H
       have c25b0 : decide (x35_2 < (l1_1.length : Int)) = true := decide_eq_true c25
       clear c25
       replace H := Option.bind_eq_some_iff.mp H
       obtain ⟨t310, A260, H⟩ := H
       replace H : (if t310 = true then (if x9_2.length < 1353245080339 then (if x6_2.length < 17592186044416 then (plan_Asks.l0 k2 a2 (x6_2 ++ [(rd_T23 l1_1 x35_2).f0]) ([] : List Int) (x9_2 ++ [(⟨(rd_T23 l1_1 x35_2).f0, (rd_T23 l1_1 x35_2).f1, (rd_T23 l1_1 x35_2).f2, (rd_T23 l1_1 x35_2).f3, (rd_T23 l1_1 x35_2).f4, (rd_T23 l1_1 x35_2).f5, (rd_T23 l1_1 x35_2).f6, (rd_T23 l1_1 x35_2).f7, (rd_T23 l1_1 x35_2).f8, (rd_T23 l1_1 x35_2).f9, (rd_T23 l1_1 x35_2).f10, (rd_T23 l1_1 x35_2).f11, (rd_T23 l1_1 x35_2).f12⟩ : S23)]) l1_1 (l1_1.length : Int) (wrap64 (x35_2 + 1)) a0_0 l0_1 a1_0 l1_1 a1_2 a1_3 a1_4 a1_5 l1_6 a1_7 a1_8 a1_9 a1_10 a1_11 a1_12) else (none)) else (none)) else (plan_Asks.l0 k2 a2 x6_2 ([] : List Int) x9_2 l1_1 (l1_1.length : Int) (wrap64 (x35_2 + 1)) a0_0 l0_1 a1_0 l1_1 a1_2 a1_3 a1_4 a1_5 l1_6 a1_7 a1_8 a1_9 a1_10 a1_11 a1_12)) = some (r1, r2, r3) := H
       have A26 := Aside0.mk A260
       clear A260
       by_cases c27 : t310 = true
       ·subst c27
        have H1 : (if x9_2.length < 1353245080339 then (if x6_2.length < 17592186044416 then (plan_Asks.l0 k2 a2 (x6_2 ++ [(rd_T23 l1_1 x35_2).f0]) ([] : List Int) (x9_2 ++ [(⟨(rd_T23 l1_1 x35_2).f0, (rd_T23 l1_1 x35_2).f1, (rd_T23 l1_1 x35_2).f2, (rd_T23 l1_1 x35_2).f3, (rd_T23 l1_1 x35_2).f4, (rd_T23 l1_1 x35_2).f5, (rd_T23 l1_1 x35_2).f6, (rd_T23 l1_1 x35_2).f7, (rd_T23 l1_1 x35_2).f8, (rd_T23 l1_1 x35_2).f9, (rd_T23 l1_1 x35_2).f10, (rd_T23 l1_1 x35_2).f11, (rd_T23 l1_1 x35_2).f12⟩ : S23)]) l1_1 (l1_1.length : Int) (wrap64 (x35_2 + 1)) a0_0 l0_1 a1_0 l1_1 a1_2 a1_3 a1_4 a1_5 l1_6 a1_7 a1_8 a1_9 a1_10 a1_11 a1_12) else (none)) else (none)) = some (r1, r2, r3) := by rw [if_pos rfl] at H; exact H
        clear H
        have H := H1
        clear H1
        by_cases c28 : x9_2.length < 1353245080339
        ·rw [if_pos c28] at H
         have LMc28 := Aside0.mk c28
         clear c28
         obtain ⟨y311, hy311⟩ : ∃ y_ : List (S23), y_ = (x9_2 ++ [(⟨(rd_T23 l1_1 x35_2).f0, (rd_T23 l1_1 x35_2).f1, (rd_T23 l1_1 x35_2).f2, (rd_T23 l1_1 x35_2).f3, (rd_T23 l1_1 x35_2).f4, (rd_T23 l1_1 x35_2).f5, (rd_T23 l1_1 x35_2).f6, (rd_T23 l1_1 x35_2).f7, (rd_T23 l1_1 x35_2).f8, (rd_T23 l1_1 x35_2).f9, (rd_T23 l1_1 x35_2).f10, (rd_T23 l1_1 x35_2).f11, (rd_T23 l1_1 x35_2).f12⟩ : S23)]) := ⟨_, rfl⟩
         replace H : (if x6_2.length < 17592186044416 then (plan_Asks.l0 k2 a2 (x6_2 ++ [(rd_T23 l1_1 x35_2).f0]) ([] : List Int) y311 l1_1 (l1_1.length : Int) (wrap64 (x35_2 + 1)) a0_0 l0_1 a1_0 l1_1 a1_2 a1_3 a1_4 a1_5 l1_6 a1_7 a1_8 a1_9 a1_10 a1_11 a1_12) else (none)) = some (r1, r2, r3) := by first | (rw [hy311]; with_reducible exact H) | (have H2_ := (Option.bind_some _ _).symm.trans H; rw [hy311]; with_reducible exact H2_) | (have H2_ := (Option.bind_some _ _).symm.trans H; with_reducible exact H2_) | with_reducible exact H | (rw [hy311]; exact H) | exact H
         have Ny311 := Aside0.mk hy311
         clear hy311
         by_cases c29 : x6_2.length < 17592186044416
         ·rw [if_pos c29] at H
          have LMc29 := Aside0.mk c29
          clear c29
          obtain ⟨y314, hy314⟩ : ∃ y_ : List Int, y_ = (x6_2 ++ [(rd_T23 l1_1 x35_2).f0]) := ⟨_, rfl⟩
          replace H : (plan_Asks.l0 k2 a2 y314 ([] : List Int) y311 l1_1 (l1_1.length : Int) (wrap64 (x35_2 + 1)) a0_0 l0_1 a1_0 l1_1 a1_2 a1_3 a1_4 a1_5 l1_6 a1_7 a1_8 a1_9 a1_10 a1_11 a1_12) = some (r1, r2, r3) := by first | (rw [hy314]; with_reducible exact H) | (have H2_ := (Option.bind_some _ _).symm.trans H; rw [hy314]; with_reducible exact H2_) | (have H2_ := (Option.bind_some _ _).symm.trans H; with_reducible exact H2_) | with_reducible exact H | (rw [hy314]; exact H) | exact H
          have Ny314 := Aside0.mk hy314
          clear hy314
          have H' := Aside0.mk H
          clear H
          have p308 : 0 ≤ (x35_2 : Int) := yd
          have q308 : x35_2 < (l1_1.length : Int) := yd
          obtain ⟨ad308, e308, hx308_0, hx308_1, hx308_2, hx308_3, hx308_4, hx308_5, hx308_6, hx308_7, hx308_8, hx308_9, hx308_10, hx308_11, hx308_12⟩ := at_T23 HR1_1.out x35_2 p308 q308
          cases e308
          replace hx308_0 := hxb HB.out hx308_0
          replace hx308_1 := hxb HB.out hx308_1
          replace hx308_2 := hxb HB.out hx308_2
          replace hx308_3 := hxb HB.out hx308_3
          replace hx308_4 := hxb HB.out hx308_4
          replace hx308_5 := hxb HB.out hx308_5
          replace hx308_6 := hxb HB.out hx308_6
          replace hx308_7 := hxb HB.out hx308_7
          replace hx308_8 := hxb HB.out hx308_8
          replace hx308_9 := hxb HB.out hx308_9
          replace hx308_10 := hxb HB.out hx308_10
          replace hx308_11 := hxb HB.out hx308_11
          replace hx308_12 := hxb HB.out hx308_12
          replace p308 := eq_true p308
          replace q308 := eq_true q308
          go_wp2_with (first | ((with_reducible refine gate_dst (N := 11) rfl ?_); refine box_event ?hg (N := 11) ?hd (cs := #[.int .i64 0, .int .i64 0, .int .i64 0, .int .i64 0, .int .i64 0, .int .i64 0, .bool false, .int .i64 0, .int .i64 0, .int .i64 0, .int .i64 0, .int .i64 0, .int .i64 0]) (t := 23) ?hr ?_; (case hd => rfl); (case hg => rfl); (case hr => first | (go_simp; done) | (go_simp; rfl)); intro gb309 hg w30 hbox hb; have n0_ := Aside0.mk (Kd.R_below (by exact rq HO_6.out) hb); have n1_ := Aside0.mk (Kd.R_below (by exact rq HO_7.out) hb); have n2_ := Aside0.mk (Kd.R_below (Kd.R_elderB (by exact rq HO_9.out) gb309 (Nat.le_of_eq hg.symm)) hb); have n3_ := Aside0.mk (blk_below (g := gb303) (Up.up BK303.out) hb); have n4_ := Aside0.mk (blk_below (g := gb304) (Up.up BK304.out) hb); have n5_ := Aside0.mk (below_step (by exact h2q HB.out GE303.out GE304.out) hb); have n6_ := Aside0.mk (hbox); have n7_ := Aside0.mk ((by rw [hg]; exact (below_size (by exact h2q HB.out GE303.out GE304.out)) : w.heap.size ≤ gb309)); have n8_ := Aside0.mk ((by rw [hg]; exact (below_size (by exact h2q HB.out GE303.out GE304.out)) : w.heap.size ≤ gb309)); have n9_ := Aside0.mk ((by rw [hg]; exact Nat.ne_of_lt (blk_lt (g := gb303) (Up.up BK303.out)) : gb303 ≠ gb309)); have n10_ := Aside0.mk ((by rw [hg]; exact Nat.ne_of_gt (blk_lt (g := gb303) (Up.up BK303.out)) : gb309 ≠ gb303)); have n11_ := Aside0.mk ((by rw [hg]; exact Nat.ne_of_lt (blk_lt (g := gb304) (Up.up BK304.out)) : gb304 ≠ gb309)); have n12_ := Aside0.mk ((by rw [hg]; exact Nat.ne_of_gt (blk_lt (g := gb304) (Up.up BK304.out)) : gb309 ≠ gb304)); clear HO_6; clear HO_7; clear HO_9; clear BK303; clear BK304; clear HB; have HO_6 := n0_; have HO_7 := n1_; have HO_9 := n2_; have BK303 := n3_; have BK304 := n4_; have HB := n5_; have BK309 := n6_; have GW309 := n7_; have GE309 := n8_; have NB303_309 := n9_; have NB309_303 := n10_; have NB304_309 := n11_; have NB309_304 := n12_; clear n0_ n1_ n2_ n3_ n4_ n5_ n6_ n7_ n8_ n9_ n10_ n11_ n12_; clear hb hbox hg; have hnb31 := NB309_303.out; have hnc31 := NB303_309.out; have hnb32 := NB309_304.out; have hnc32 := NB304_309.out; obtain ⟨hcz33_0, hcz33_1, hcz33_2, hcz33_3, hcz33_4, hcz33_5, hcz33_6, hcz33_7, hcz33_8, hcz33_9, hcz33_10, hcz33_11, hcz33_12, hfz33_0, hfz33_1, hfz33_2, hfz33_3, hfz33_4, hfz33_5, hfz33_6, hfz33_7, hfz33_8, hfz33_9, hfz33_10, hfz33_11, hfz33_12⟩ := lc13 BK309.out) | ((with_reducible refine gate_callee (f := 31) rfl ?_); refine goesL_ (some 40) rfl rfl Try.func31 (by kernel_rfl) rfl #[.agg #[.int .i64 ((rd_T23 l1_1 x35_2).f0), .int .i64 ((rd_T23 l1_1 x35_2).f1), .int .i64 ((rd_T23 l1_1 x35_2).f2), .int .i64 ((rd_T23 l1_1 x35_2).f3), .int .i64 ((rd_T23 l1_1 x35_2).f4), .int .i64 ((rd_T23 l1_1 x35_2).f5), .bool ((rd_T23 l1_1 x35_2).f6), .int .i64 ((rd_T23 l1_1 x35_2).f7), .int .i64 ((rd_T23 l1_1 x35_2).f8), .int .i64 ((rd_T23 l1_1 x35_2).f9), .int .i64 ((rd_T23 l1_1 x35_2).f10), .int .i64 ((rd_T23 l1_1 x35_2).f11), .int .i64 ((rd_T23 l1_1 x35_2).f12)]] rfl (by (try simp only [List.map_toArray, List.map_cons, List.map_nil]); first | done | rfl | (simp only [List.length_drop, List.length_take]; rfl)) ?_; (with_reducible refine (plan_Part.calls ((rd_T23 l1_1 x35_2).f0) ((rd_T23 l1_1 x35_2).f1) ((rd_T23 l1_1 x35_2).f2) ((rd_T23 l1_1 x35_2).f3) ((rd_T23 l1_1 x35_2).f4) ((rd_T23 l1_1 x35_2).f5) ((rd_T23 l1_1 x35_2).f6) ((rd_T23 l1_1 x35_2).f7) ((rd_T23 l1_1 x35_2).f8) ((rd_T23 l1_1 x35_2).f9) ((rd_T23 l1_1 x35_2).f10) ((rd_T23 l1_1 x35_2).f11) ((rd_T23 l1_1 x35_2).f12) true _ A26.out).mono ?_); rintro e w34 ⟨rfl, hb⟩; refine ⟨_, rfl, ?_⟩; have n0_ := Aside0.mk (Kd.R_below (by (with_reducible repeat (first | apply Kd.R_alloc | apply Kd.R_drewN | apply Kd.R_drew)); exact (Kd.R_mono (Kd.R_far (p := ⟨gb309, 12, none⟩) (Kd.R_far (p := ⟨gb309, 11, none⟩) (Kd.R_far (p := ⟨gb309, 10, none⟩) (Kd.R_far (p := ⟨gb309, 9, none⟩) (Kd.R_far (p := ⟨gb309, 8, none⟩) (Kd.R_far (p := ⟨gb309, 7, none⟩) (Kd.R_far (p := ⟨gb309, 6, none⟩) (Kd.R_far (p := ⟨gb309, 5, none⟩) (Kd.R_far (p := ⟨gb309, 4, none⟩) (Kd.R_far (p := ⟨gb309, 3, none⟩) (Kd.R_far (p := ⟨gb309, 2, none⟩) (Kd.R_far (p := ⟨gb309, 1, none⟩) (Kd.R_far (p := ⟨gb309, 0, none⟩) (Kd.R_types HO_6.out BK309.out (by decide)) (fun _ hk => hk.2) (.int .i64 ((rd_T23 l1_1 x35_2).f0))) (fun _ hk => hk.2) (.int .i64 ((rd_T23 l1_1 x35_2).f1))) (fun _ hk => hk.2) (.int .i64 ((rd_T23 l1_1 x35_2).f2))) (fun _ hk => hk.2) (.int .i64 ((rd_T23 l1_1 x35_2).f3))) (fun _ hk => hk.2) (.int .i64 ((rd_T23 l1_1 x35_2).f4))) (fun _ hk => hk.2) (.int .i64 ((rd_T23 l1_1 x35_2).f5))) (fun _ hk => hk.2) (.bool ((rd_T23 l1_1 x35_2).f6))) (fun _ hk => hk.2) (.int .i64 ((rd_T23 l1_1 x35_2).f7))) (fun _ hk => hk.2) (.int .i64 ((rd_T23 l1_1 x35_2).f8))) (fun _ hk => hk.2) (.int .i64 ((rd_T23 l1_1 x35_2).f9))) (fun _ hk => hk.2) (.int .i64 ((rd_T23 l1_1 x35_2).f10))) (fun _ hk => hk.2) (.int .i64 ((rd_T23 l1_1 x35_2).f11))) (fun _ hk => hk.2) (.int .i64 ((rd_T23 l1_1 x35_2).f12))) (fun _ h_ => h_.1))) hb); have n1_ := Aside0.mk (Kd.R_below (by (with_reducible repeat (first | apply Kd.R_alloc | apply Kd.R_drewN | apply Kd.R_drew)); exact (Kd.R_mono (Kd.R_far (p := ⟨gb309, 12, none⟩) (Kd.R_far (p := ⟨gb309, 11, none⟩) (Kd.R_far (p := ⟨gb309, 10, none⟩) (Kd.R_far (p := ⟨gb309, 9, none⟩) (Kd.R_far (p := ⟨gb309, 8, none⟩) (Kd.R_far (p := ⟨gb309, 7, none⟩) (Kd.R_far (p := ⟨gb309, 6, none⟩) (Kd.R_far (p := ⟨gb309, 5, none⟩) (Kd.R_far (p := ⟨gb309, 4, none⟩) (Kd.R_far (p := ⟨gb309, 3, none⟩) (Kd.R_far (p := ⟨gb309, 2, none⟩) (Kd.R_far (p := ⟨gb309, 1, none⟩) (Kd.R_far (p := ⟨gb309, 0, none⟩) (Kd.R_types HO_7.out BK309.out (by decide)) (fun _ hk => hk.2) (.int .i64 ((rd_T23 l1_1 x35_2).f0))) (fun _ hk => hk.2) (.int .i64 ((rd_T23 l1_1 x35_2).f1))) (fun _ hk => hk.2) (.int .i64 ((rd_T23 l1_1 x35_2).f2))) (fun _ hk => hk.2) (.int .i64 ((rd_T23 l1_1 x35_2).f3))) (fun _ hk => hk.2) (.int .i64 ((rd_T23 l1_1 x35_2).f4))) (fun _ hk => hk.2) (.int .i64 ((rd_T23 l1_1 x35_2).f5))) (fun _ hk => hk.2) (.bool ((rd_T23 l1_1 x35_2).f6))) (fun _ hk => hk.2) (.int .i64 ((rd_T23 l1_1 x35_2).f7))) (fun _ hk => hk.2) (.int .i64 ((rd_T23 l1_1 x35_2).f8))) (fun _ hk => hk.2) (.int .i64 ((rd_T23 l1_1 x35_2).f9))) (fun _ hk => hk.2) (.int .i64 ((rd_T23 l1_1 x35_2).f10))) (fun _ hk => hk.2) (.int .i64 ((rd_T23 l1_1 x35_2).f11))) (fun _ hk => hk.2) (.int .i64 ((rd_T23 l1_1 x35_2).f12))) (fun _ h_ => h_.1))) hb); have n2_ := Aside0.mk (Kd.R_below (by (with_reducible repeat (first | apply Kd.R_alloc | apply Kd.R_drewN | apply Kd.R_drew)); exact (Kd.R_mono (Kd.R_far (p := ⟨gb309, 12, none⟩) (Kd.R_far (p := ⟨gb309, 11, none⟩) (Kd.R_far (p := ⟨gb309, 10, none⟩) (Kd.R_far (p := ⟨gb309, 9, none⟩) (Kd.R_far (p := ⟨gb309, 8, none⟩) (Kd.R_far (p := ⟨gb309, 7, none⟩) (Kd.R_far (p := ⟨gb309, 6, none⟩) (Kd.R_far (p := ⟨gb309, 5, none⟩) (Kd.R_far (p := ⟨gb309, 4, none⟩) (Kd.R_far (p := ⟨gb309, 3, none⟩) (Kd.R_far (p := ⟨gb309, 2, none⟩) (Kd.R_far (p := ⟨gb309, 1, none⟩) (Kd.R_far (p := ⟨gb309, 0, none⟩) (Kd.R_mono HO_9.out (fun k_ hk => (⟨hk, hk.2⟩ : _ ∧ k_ ≠ gb309))) (fun _ hk => hk.2) (.int .i64 ((rd_T23 l1_1 x35_2).f0))) (fun _ hk => hk.2) (.int .i64 ((rd_T23 l1_1 x35_2).f1))) (fun _ hk => hk.2) (.int .i64 ((rd_T23 l1_1 x35_2).f2))) (fun _ hk => hk.2) (.int .i64 ((rd_T23 l1_1 x35_2).f3))) (fun _ hk => hk.2) (.int .i64 ((rd_T23 l1_1 x35_2).f4))) (fun _ hk => hk.2) (.int .i64 ((rd_T23 l1_1 x35_2).f5))) (fun _ hk => hk.2) (.bool ((rd_T23 l1_1 x35_2).f6))) (fun _ hk => hk.2) (.int .i64 ((rd_T23 l1_1 x35_2).f7))) (fun _ hk => hk.2) (.int .i64 ((rd_T23 l1_1 x35_2).f8))) (fun _ hk => hk.2) (.int .i64 ((rd_T23 l1_1 x35_2).f9))) (fun _ hk => hk.2) (.int .i64 ((rd_T23 l1_1 x35_2).f10))) (fun _ hk => hk.2) (.int .i64 ((rd_T23 l1_1 x35_2).f11))) (fun _ hk => hk.2) (.int .i64 ((rd_T23 l1_1 x35_2).f12))) (fun _ h_ => h_.1))) hb); have n3_ := Aside0.mk (blk_below (g := gb303) (o := .cells #[.int .i64 a0_0, .slice A0_1 l0_1.length c0_1] 51 (0, 0)) (by (iterate 13 ((with_reducible repeat (first | refine blk_drewN ?_ _ | refine blk_drew ?_ | refine blk_alloc ?_ _)); refine blk_far ?_ NB303_309.out _)); (with_reducible repeat (first | refine blk_drewN ?_ _ | refine blk_drew ?_ | refine blk_alloc ?_ _)); exact BK303.out) hb); have n4_ := Aside0.mk (blk_below (g := gb304) (o := .cells #[.int .i64 a1_0, .slice (some ad308) l1_1.length c1_1, .int .i64 a1_2, .int .i64 a1_3, .int .i64 a1_4, .int .i64 a1_5, .slice A1_6 l1_6.length c1_6, .int .i64 a1_7, .int .i64 a1_8, .int .i64 a1_9, .int .i64 a1_10, .int .i64 a1_11, .int .i64 a1_12] 38 (0, 0)) (by (iterate 13 ((with_reducible repeat (first | refine blk_drewN ?_ _ | refine blk_drew ?_ | refine blk_alloc ?_ _)); refine blk_far ?_ NB304_309.out _)); (with_reducible repeat (first | refine blk_drewN ?_ _ | refine blk_drew ?_ | refine blk_alloc ?_ _)); exact BK304.out) hb); have n5_ := Aside0.mk (blk_below (g := gb309) (o := .cells #[.int .i64 ((rd_T23 l1_1 x35_2).f0), .int .i64 ((rd_T23 l1_1 x35_2).f1), .int .i64 ((rd_T23 l1_1 x35_2).f2), .int .i64 ((rd_T23 l1_1 x35_2).f3), .int .i64 ((rd_T23 l1_1 x35_2).f4), .int .i64 ((rd_T23 l1_1 x35_2).f5), .bool ((rd_T23 l1_1 x35_2).f6), .int .i64 ((rd_T23 l1_1 x35_2).f7), .int .i64 ((rd_T23 l1_1 x35_2).f8), .int .i64 ((rd_T23 l1_1 x35_2).f9), .int .i64 ((rd_T23 l1_1 x35_2).f10), .int .i64 ((rd_T23 l1_1 x35_2).f11), .int .i64 ((rd_T23 l1_1 x35_2).f12)] 23 (0, 0)) (by (with_reducible repeat (first | refine blk_drewN ?_ _ | refine blk_drew ?_ | refine blk_alloc ?_ _)); refine blk_put (cs := #[.int .i64 ((rd_T23 l1_1 x35_2).f0), .int .i64 ((rd_T23 l1_1 x35_2).f1), .int .i64 ((rd_T23 l1_1 x35_2).f2), .int .i64 ((rd_T23 l1_1 x35_2).f3), .int .i64 ((rd_T23 l1_1 x35_2).f4), .int .i64 ((rd_T23 l1_1 x35_2).f5), .bool ((rd_T23 l1_1 x35_2).f6), .int .i64 ((rd_T23 l1_1 x35_2).f7), .int .i64 ((rd_T23 l1_1 x35_2).f8), .int .i64 ((rd_T23 l1_1 x35_2).f9), .int .i64 ((rd_T23 l1_1 x35_2).f10), .int .i64 ((rd_T23 l1_1 x35_2).f11), .int .i64 0]) ?_ 12 _ rfl; (with_reducible repeat (first | refine blk_drewN ?_ _ | refine blk_drew ?_ | refine blk_alloc ?_ _)); refine blk_put (cs := #[.int .i64 ((rd_T23 l1_1 x35_2).f0), .int .i64 ((rd_T23 l1_1 x35_2).f1), .int .i64 ((rd_T23 l1_1 x35_2).f2), .int .i64 ((rd_T23 l1_1 x35_2).f3), .int .i64 ((rd_T23 l1_1 x35_2).f4), .int .i64 ((rd_T23 l1_1 x35_2).f5), .bool ((rd_T23 l1_1 x35_2).f6), .int .i64 ((rd_T23 l1_1 x35_2).f7), .int .i64 ((rd_T23 l1_1 x35_2).f8), .int .i64 ((rd_T23 l1_1 x35_2).f9), .int .i64 ((rd_T23 l1_1 x35_2).f10), .int .i64 0, .int .i64 0]) ?_ 11 _ rfl; (with_reducible repeat (first | refine blk_drewN ?_ _ | refine blk_drew ?_ | refine blk_alloc ?_ _)); refine blk_put (cs := #[.int .i64 ((rd_T23 l1_1 x35_2).f0), .int .i64 ((rd_T23 l1_1 x35_2).f1), .int .i64 ((rd_T23 l1_1 x35_2).f2), .int .i64 ((rd_T23 l1_1 x35_2).f3), .int .i64 ((rd_T23 l1_1 x35_2).f4), .int .i64 ((rd_T23 l1_1 x35_2).f5), .bool ((rd_T23 l1_1 x35_2).f6), .int .i64 ((rd_T23 l1_1 x35_2).f7), .int .i64 ((rd_T23 l1_1 x35_2).f8), .int .i64 ((rd_T23 l1_1 x35_2).f9), .int .i64 0, .int .i64 0, .int .i64 0]) ?_ 10 _ rfl; (with_reducible repeat (first | refine blk_drewN ?_ _ | refine blk_drew ?_ | refine blk_alloc ?_ _)); refine blk_put (cs := #[.int .i64 ((rd_T23 l1_1 x35_2).f0), .int .i64 ((rd_T23 l1_1 x35_2).f1), .int .i64 ((rd_T23 l1_1 x35_2).f2), .int .i64 ((rd_T23 l1_1 x35_2).f3), .int .i64 ((rd_T23 l1_1 x35_2).f4), .int .i64 ((rd_T23 l1_1 x35_2).f5), .bool ((rd_T23 l1_1 x35_2).f6), .int .i64 ((rd_T23 l1_1 x35_2).f7), .int .i64 ((rd_T23 l1_1 x35_2).f8), .int .i64 0, .int .i64 0, .int .i64 0, .int .i64 0]) ?_ 9 _ rfl; (with_reducible repeat (first | refine blk_drewN ?_ _ | refine blk_drew ?_ | refine blk_alloc ?_ _)); refine blk_put (cs := #[.int .i64 ((rd_T23 l1_1 x35_2).f0), .int .i64 ((rd_T23 l1_1 x35_2).f1), .int .i64 ((rd_T23 l1_1 x35_2).f2), .int .i64 ((rd_T23 l1_1 x35_2).f3), .int .i64 ((rd_T23 l1_1 x35_2).f4), .int .i64 ((rd_T23 l1_1 x35_2).f5), .bool ((rd_T23 l1_1 x35_2).f6), .int .i64 ((rd_T23 l1_1 x35_2).f7), .int .i64 0, .int .i64 0, .int .i64 0, .int .i64 0, .int .i64 0]) ?_ 8 _ rfl; (with_reducible repeat (first | refine blk_drewN ?_ _ | refine blk_drew ?_ | refine blk_alloc ?_ _)); refine blk_put (cs := #[.int .i64 ((rd_T23 l1_1 x35_2).f0), .int .i64 ((rd_T23 l1_1 x35_2).f1), .int .i64 ((rd_T23 l1_1 x35_2).f2), .int .i64 ((rd_T23 l1_1 x35_2).f3), .int .i64 ((rd_T23 l1_1 x35_2).f4), .int .i64 ((rd_T23 l1_1 x35_2).f5), .bool ((rd_T23 l1_1 x35_2).f6), .int .i64 0, .int .i64 0, .int .i64 0, .int .i64 0, .int .i64 0, .int .i64 0]) ?_ 7 _ rfl; (with_reducible repeat (first | refine blk_drewN ?_ _ | refine blk_drew ?_ | refine blk_alloc ?_ _)); refine blk_put (cs := #[.int .i64 ((rd_T23 l1_1 x35_2).f0), .int .i64 ((rd_T23 l1_1 x35_2).f1), .int .i64 ((rd_T23 l1_1 x35_2).f2), .int .i64 ((rd_T23 l1_1 x35_2).f3), .int .i64 ((rd_T23 l1_1 x35_2).f4), .int .i64 ((rd_T23 l1_1 x35_2).f5), .bool false, .int .i64 0, .int .i64 0, .int .i64 0, .int .i64 0, .int .i64 0, .int .i64 0]) ?_ 6 _ rfl; (with_reducible repeat (first | refine blk_drewN ?_ _ | refine blk_drew ?_ | refine blk_alloc ?_ _)); refine blk_put (cs := #[.int .i64 ((rd_T23 l1_1 x35_2).f0), .int .i64 ((rd_T23 l1_1 x35_2).f1), .int .i64 ((rd_T23 l1_1 x35_2).f2), .int .i64 ((rd_T23 l1_1 x35_2).f3), .int .i64 ((rd_T23 l1_1 x35_2).f4), .int .i64 0, .bool false, .int .i64 0, .int .i64 0, .int .i64 0, .int .i64 0, .int .i64 0, .int .i64 0]) ?_ 5 _ rfl; (with_reducible repeat (first | refine blk_drewN ?_ _ | refine blk_drew ?_ | refine blk_alloc ?_ _)); refine blk_put (cs := #[.int .i64 ((rd_T23 l1_1 x35_2).f0), .int .i64 ((rd_T23 l1_1 x35_2).f1), .int .i64 ((rd_T23 l1_1 x35_2).f2), .int .i64 ((rd_T23 l1_1 x35_2).f3), .int .i64 0, .int .i64 0, .bool false, .int .i64 0, .int .i64 0, .int .i64 0, .int .i64 0, .int .i64 0, .int .i64 0]) ?_ 4 _ rfl; (with_reducible repeat (first | refine blk_drewN ?_ _ | refine blk_drew ?_ | refine blk_alloc ?_ _)); refine blk_put (cs := #[.int .i64 ((rd_T23 l1_1 x35_2).f0), .int .i64 ((rd_T23 l1_1 x35_2).f1), .int .i64 ((rd_T23 l1_1 x35_2).f2), .int .i64 0, .int .i64 0, .int .i64 0, .bool false, .int .i64 0, .int .i64 0, .int .i64 0, .int .i64 0, .int .i64 0, .int .i64 0]) ?_ 3 _ rfl; (with_reducible repeat (first | refine blk_drewN ?_ _ | refine blk_drew ?_ | refine blk_alloc ?_ _)); refine blk_put (cs := #[.int .i64 ((rd_T23 l1_1 x35_2).f0), .int .i64 ((rd_T23 l1_1 x35_2).f1), .int .i64 0, .int .i64 0, .int .i64 0, .int .i64 0, .bool false, .int .i64 0, .int .i64 0, .int .i64 0, .int .i64 0, .int .i64 0, .int .i64 0]) ?_ 2 _ rfl; (with_reducible repeat (first | refine blk_drewN ?_ _ | refine blk_drew ?_ | refine blk_alloc ?_ _)); refine blk_put (cs := #[.int .i64 ((rd_T23 l1_1 x35_2).f0), .int .i64 0, .int .i64 0, .int .i64 0, .int .i64 0, .int .i64 0, .bool false, .int .i64 0, .int .i64 0, .int .i64 0, .int .i64 0, .int .i64 0, .int .i64 0]) ?_ 1 _ rfl; (with_reducible repeat (first | refine blk_drewN ?_ _ | refine blk_drew ?_ | refine blk_alloc ?_ _)); refine blk_put (cs := #[.int .i64 0, .int .i64 0, .int .i64 0, .int .i64 0, .int .i64 0, .int .i64 0, .bool false, .int .i64 0, .int .i64 0, .int .i64 0, .int .i64 0, .int .i64 0, .int .i64 0]) ?_ 0 _ rfl; (with_reducible repeat (first | refine blk_drewN ?_ _ | refine blk_drew ?_ | refine blk_alloc ?_ _)); exact BK309.out) hb); have n6_ := Aside0.mk (below_step (by exact h3q HB.out GE303.out GE304.out GE309.out) hb); clear HO_6; clear HO_7; clear HO_9; clear BK303; clear BK304; clear BK309; clear HB; have HO_6 := n0_; have HO_7 := n1_; have HO_9 := n2_; have BK303 := n3_; have BK304 := n4_; have BK309 := n5_; have HB := n6_; clear n0_ n1_ n2_ n3_ n4_ n5_ n6_; (try clear hb); (try clear hb2); (try clear hk); (try clear hi); obtain ⟨hcz35_0, hcz35_1, hcz35_2, hcz35_3, hcz35_4, hcz35_5, hcz35_6, hcz35_7, hcz35_8, hcz35_9, hcz35_10, hcz35_11, hcz35_12, hfz35_0, hfz35_1, hfz35_2, hfz35_3, hfz35_4, hfz35_5, hfz35_6, hfz35_7, hfz35_8, hfz35_9, hfz35_10, hfz35_11, hfz35_12⟩ := lc13 BK309.out) | ((with_reducible refine gate_builtin (b := .append) (xs := #[.tmp 41, .tmp 43]) rfl ?_); at_builtin; refine Kd.R_append k23 (w0 := w) w.heap.size rfl (.tmp 41) (.tmp 43) 33 23 (.agg #[(.int .i64 0), (.int .i64 0), (.int .i64 0), (.int .i64 0), (.int .i64 0), (.int .i64 0), (.bool false), (.int .i64 0), (.int .i64 0), (.int .i64 0), (.int .i64 0), (.int .i64 0), (.int .i64 0)]) 104 rfl Try.underlying33 info23 rfl (by decide) (by omega) u9 x9_2 (⟨(rd_T23 l1_1 x35_2).f0, (rd_T23 l1_1 x35_2).f1, (rd_T23 l1_1 x35_2).f2, (rd_T23 l1_1 x35_2).f3, (rd_T23 l1_1 x35_2).f4, (rd_T23 l1_1 x35_2).f5, (rd_T23 l1_1 x35_2).f6, (rd_T23 l1_1 x35_2).f7, (rd_T23 l1_1 x35_2).f8, (rd_T23 l1_1 x35_2).f9, (rd_T23 l1_1 x35_2).f10, (rd_T23 l1_1 x35_2).f11, (rd_T23 l1_1 x35_2).f12⟩ : S23) [.int .i64 ((rd_T23 l1_1 x35_2).f0), .int .i64 ((rd_T23 l1_1 x35_2).f1), .int .i64 ((rd_T23 l1_1 x35_2).f2), .int .i64 ((rd_T23 l1_1 x35_2).f3), .int .i64 ((rd_T23 l1_1 x35_2).f4), .int .i64 ((rd_T23 l1_1 x35_2).f5), .bool ((rd_T23 l1_1 x35_2).f6), .int .i64 ((rd_T23 l1_1 x35_2).f7), .int .i64 ((rd_T23 l1_1 x35_2).f8), .int .i64 ((rd_T23 l1_1 x35_2).f9), .int .i64 ((rd_T23 l1_1 x35_2).f10), .int .i64 ((rd_T23 l1_1 x35_2).f11), .int .i64 ((rd_T23 l1_1 x35_2).f12)] (fun k_ => k_ ≠ gb309) (fun _ => False) rfl rfl ?aP (fun _ hk => hk.elim) ?aF ?aO ?aB ?aS ?aL ?_; (case aP => exact k23_mkM _ _ _ (⟨(rd_T23 l1_1 x35_2).f0, (rd_T23 l1_1 x35_2).f1, (rd_T23 l1_1 x35_2).f2, (rd_T23 l1_1 x35_2).f3, (rd_T23 l1_1 x35_2).f4, (rd_T23 l1_1 x35_2).f5, (rd_T23 l1_1 x35_2).f6, (rd_T23 l1_1 x35_2).f7, (rd_T23 l1_1 x35_2).f8, (rd_T23 l1_1 x35_2).f9, (rd_T23 l1_1 x35_2).f10, (rd_T23 l1_1 x35_2).f11, (rd_T23 l1_1 x35_2).f12⟩ : S23)); (case aB => exact (by exact h3q HB.out GE303.out GE304.out GE309.out)); (case aF => exact (fun k_ hk => Kd.freshB (g := gb309) (Up.up BK309.out) k_ hk)); (case aO => exact (by (with_reducible repeat (first | apply Kd.R_alloc | apply Kd.R_drewN | apply Kd.R_drew)); exact Kd.R_mono HO_9.out (fun _ hk => hk.2))); (case aS => exact (below_size (by exact h3q HB.out GE303.out GE304.out GE309.out))); (case aL => have := LMc28.out; omega); intro v312 w36 ho hb hg hat; rw [← Ny311.out] at ho; have n0_ := Aside0.mk (Kd.R_over' (by exact rq HO_6.out) (Kd.R_typed (by exact rq HO_9.out)) (by decide) hg); have n1_ := Aside0.mk (Kd.R_over' (by exact rq HO_7.out) (Kd.R_typed (by exact rq HO_9.out)) (by decide) hg); have n2_ := Aside0.mk (blk_grown (g := gb303) (Up.up BK303.out) hg (Kd.R_ne HO_9.out BK303.out (by decide))); have n3_ := Aside0.mk (blk_grown (g := gb304) (Up.up BK304.out) hg (Kd.R_ne HO_9.out BK304.out (by decide))); have n4_ := Aside0.mk (blk_grown (g := gb309) (Up.up BK309.out) hg (Kd.R_away HO_9.out (fun _ hk => hk.2))); have n5_ := Aside0.mk (hb); have n6_ := Aside0.mk (ho); clear HO_6; clear HO_7; clear BK303; clear BK304; clear BK309; clear HB; clear HO_9; have HO_6 := n0_; have HO_7 := n1_; have BK303 := n2_; have BK304 := n3_; have BK309 := n4_; have HB := n5_; have HO313 := n6_; clear n0_ n1_ n2_ n3_ n4_ n5_ n6_; clear ho hb hg hat; obtain ⟨hcz37_0, hcz37_1, hcz37_2, hcz37_3, hcz37_4, hcz37_5, hcz37_6, hcz37_7, hcz37_8, hcz37_9, hcz37_10, hcz37_11, hcz37_12, hfz37_0, hfz37_1, hfz37_2, hfz37_3, hfz37_4, hfz37_5, hfz37_6, hfz37_7, hfz37_8, hfz37_9, hfz37_10, hfz37_11, hfz37_12⟩ := lc13 BK309.out) | ((with_reducible refine gate_builtin (b := .append) (xs := #[.tmp 45, .tmp 48]) rfl ?_); at_builtin; refine Kd.R_append (Kd.int .i64) (w0 := w) w.heap.size rfl (.tmp 45) (.tmp 48) 46 3 (.int .i64 0) 8 rfl Try.underlying46 info3 rfl (by decide) (by omega) u6 x6_2 ((rd_T23 l1_1 x35_2).f0) [.int .i64 ((rd_T23 l1_1 x35_2).f0)] (fun _ => True) (fun _ => False) rfl rfl ?aP (fun _ hk => hk.elim) ?aF ?aO ?aB ?aS ?aL ?_; (case aP => exact rfl); (case aB => exact (by exact h3q HB.out GE303.out GE304.out GE309.out)); (case aF => exact (fun _ _ => trivial)); (case aO => exact (by exact rq HO_6.out)); (case aS => exact (below_size (by exact h3q HB.out GE303.out GE304.out GE309.out))); (case aL => have := LMc29.out; omega); intro v315 w38 ho hb hg hat; rw [← Ny314.out] at ho; have n0_ := Aside0.mk (Kd.R_over' (by exact rq HO_7.out) (Kd.R_typed (by exact rq HO_6.out)) (by decide) hg); have n1_ := Aside0.mk (blk_grown (g := gb303) (Up.up BK303.out) hg (Kd.R_ne HO_6.out BK303.out (by decide))); have n2_ := Aside0.mk (blk_grown (g := gb304) (Up.up BK304.out) hg (Kd.R_ne HO_6.out BK304.out (by decide))); have n3_ := Aside0.mk (blk_grown (g := gb309) (Up.up BK309.out) hg (Kd.R_ne HO_6.out BK309.out (by decide))); have n4_ := Aside0.mk (Kd.R_over' (by exact rq HO313.out) (Kd.R_typed (by exact rq HO_6.out)) (by decide) hg); have n5_ := Aside0.mk (hb); have n6_ := Aside0.mk (ho); clear HO_7; clear BK303; clear BK304; clear BK309; clear HO313; clear HB; clear HO_6; have HO_7 := n0_; have BK303 := n1_; have BK304 := n2_; have BK309 := n3_; have HO313 := n4_; have HB := n5_; have HO316 := n6_; clear n0_ n1_ n2_ n3_ n4_ n5_ n6_; clear ho hb hg hat))
          go_roundg k2
          case measure => have := HJ3.out; have := HK2.out; omega
          case rel => exact ⟨(y314), (y311), (wrap64 (x35_2 + 1)), (by first | rfl | (simp; done) | (simp [*]; done)), H', ⟨by have := HJ3.out; have := HK2.out; omega⟩, ⟨by exact rq HO316.out⟩, ⟨by exact rq HO_7.out⟩, ⟨by (with_reducible repeat (first | apply Kd.R_alloc | apply Kd.R_drewN | apply Kd.R_drew)); exact Kd.R_mono HO313.out (fun _ hk => trivial)⟩, ⟨by exact bb BK303.out⟩, ⟨by exact bb BK304.out⟩, ⟨by exact h3q HB.out GE303.out GE304.out GE309.out⟩⟩
         ·rw [if_neg c29] at H
          exact absurd H (by simp)
        ·rw [if_neg c28] at H
         exact absurd H (by simp)
       ·replace c27 := Bool.eq_false_iff.mpr c27
        subst c27
        have H1 : (plan_Asks.l0 k2 a2 x6_2 ([] : List Int) x9_2 l1_1 (l1_1.length : Int) (wrap64 (x35_2 + 1)) a0_0 l0_1 a1_0 l1_1 a1_2 a1_3 a1_4 a1_5 l1_6 a1_7 a1_8 a1_9 a1_10 a1_11 a1_12) = some (r1, r2, r3) := by rw [if_neg (show ¬ (false = true) by decide)] at H; exact H
        clear H
        have H := H1
        clear H1
        have H' := Aside0.mk H
        clear H
        have p308 : 0 ≤ (x35_2 : Int) := yd
        have q308 : x35_2 < (l1_1.length : Int) := yd
        obtain ⟨ad308, e308, hx308_0, hx308_1, hx308_2, hx308_3, hx308_4, hx308_5, hx308_6, hx308_7, hx308_8, hx308_9, hx308_10, hx308_11, hx308_12⟩ := at_T23 HR1_1.out x35_2 p308 q308
        cases e308
        replace hx308_0 := hxb HB.out hx308_0
        replace hx308_1 := hxb HB.out hx308_1
        replace hx308_2 := hxb HB.out hx308_2
        replace hx308_3 := hxb HB.out hx308_3
        replace hx308_4 := hxb HB.out hx308_4
        replace hx308_5 := hxb HB.out hx308_5
        replace hx308_6 := hxb HB.out hx308_6
        replace hx308_7 := hxb HB.out hx308_7
        replace hx308_8 := hxb HB.out hx308_8
        replace hx308_9 := hxb HB.out hx308_9
        replace hx308_10 := hxb HB.out hx308_10
        replace hx308_11 := hxb HB.out hx308_11
        replace hx308_12 := hxb HB.out hx308_12
        replace p308 := eq_true p308
        replace q308 := eq_true q308
        go_wp2_with (first | ((with_reducible refine gate_dst (N := 11) rfl ?_); refine box_event ?hg (N := 11) ?hd (cs := #[.int .i64 0, .int .i64 0, .int .i64 0, .int .i64 0, .int .i64 0, .int .i64 0, .bool false, .int .i64 0, .int .i64 0, .int .i64 0, .int .i64 0, .int .i64 0, .int .i64 0]) (t := 23) ?hr ?_; (case hd => rfl); (case hg => rfl); (case hr => first | (go_simp; done) | (go_simp; rfl)); intro gb309 hg w39 hbox hb; have n0_ := Aside0.mk (Kd.R_below (by exact rq HO_6.out) hb); have n1_ := Aside0.mk (Kd.R_below (by exact rq HO_7.out) hb); have n2_ := Aside0.mk (Kd.R_below (Kd.R_elderB (by exact rq HO_9.out) gb309 (Nat.le_of_eq hg.symm)) hb); have n3_ := Aside0.mk (blk_below (g := gb303) (Up.up BK303.out) hb); have n4_ := Aside0.mk (blk_below (g := gb304) (Up.up BK304.out) hb); have n5_ := Aside0.mk (below_step (by exact h2q HB.out GE303.out GE304.out) hb); have n6_ := Aside0.mk (hbox); have n7_ := Aside0.mk ((by rw [hg]; exact (below_size (by exact h2q HB.out GE303.out GE304.out)) : w.heap.size ≤ gb309)); have n8_ := Aside0.mk ((by rw [hg]; exact (below_size (by exact h2q HB.out GE303.out GE304.out)) : w.heap.size ≤ gb309)); have n9_ := Aside0.mk ((by rw [hg]; exact Nat.ne_of_lt (blk_lt (g := gb303) (Up.up BK303.out)) : gb303 ≠ gb309)); have n10_ := Aside0.mk ((by rw [hg]; exact Nat.ne_of_gt (blk_lt (g := gb303) (Up.up BK303.out)) : gb309 ≠ gb303)); have n11_ := Aside0.mk ((by rw [hg]; exact Nat.ne_of_lt (blk_lt (g := gb304) (Up.up BK304.out)) : gb304 ≠ gb309)); have n12_ := Aside0.mk ((by rw [hg]; exact Nat.ne_of_gt (blk_lt (g := gb304) (Up.up BK304.out)) : gb309 ≠ gb304)); clear HO_6; clear HO_7; clear HO_9; clear BK303; clear BK304; clear HB; have HO_6 := n0_; have HO_7 := n1_; have HO_9 := n2_; have BK303 := n3_; have BK304 := n4_; have HB := n5_; have BK309 := n6_; have GW309 := n7_; have GE309 := n8_; have NB303_309 := n9_; have NB309_303 := n10_; have NB304_309 := n11_; have NB309_304 := n12_; clear n0_ n1_ n2_ n3_ n4_ n5_ n6_ n7_ n8_ n9_ n10_ n11_ n12_; clear hb hbox hg; have hnb40 := NB309_303.out; have hnc40 := NB303_309.out; have hnb41 := NB309_304.out; have hnc41 := NB304_309.out; obtain ⟨hcz42_0, hcz42_1, hcz42_2, hcz42_3, hcz42_4, hcz42_5, hcz42_6, hcz42_7, hcz42_8, hcz42_9, hcz42_10, hcz42_11, hcz42_12, hfz42_0, hfz42_1, hfz42_2, hfz42_3, hfz42_4, hfz42_5, hfz42_6, hfz42_7, hfz42_8, hfz42_9, hfz42_10, hfz42_11, hfz42_12⟩ := lc13 BK309.out) | ((with_reducible refine gate_callee (f := 31) rfl ?_); refine goesL_ (some 40) rfl rfl Try.func31 (by kernel_rfl) rfl #[.agg #[.int .i64 ((rd_T23 l1_1 x35_2).f0), .int .i64 ((rd_T23 l1_1 x35_2).f1), .int .i64 ((rd_T23 l1_1 x35_2).f2), .int .i64 ((rd_T23 l1_1 x35_2).f3), .int .i64 ((rd_T23 l1_1 x35_2).f4), .int .i64 ((rd_T23 l1_1 x35_2).f5), .bool ((rd_T23 l1_1 x35_2).f6), .int .i64 ((rd_T23 l1_1 x35_2).f7), .int .i64 ((rd_T23 l1_1 x35_2).f8), .int .i64 ((rd_T23 l1_1 x35_2).f9), .int .i64 ((rd_T23 l1_1 x35_2).f10), .int .i64 ((rd_T23 l1_1 x35_2).f11), .int .i64 ((rd_T23 l1_1 x35_2).f12)]] rfl (by (try simp only [List.map_toArray, List.map_cons, List.map_nil]); first | done | rfl | (simp only [List.length_drop, List.length_take]; rfl)) ?_; (with_reducible refine (plan_Part.calls ((rd_T23 l1_1 x35_2).f0) ((rd_T23 l1_1 x35_2).f1) ((rd_T23 l1_1 x35_2).f2) ((rd_T23 l1_1 x35_2).f3) ((rd_T23 l1_1 x35_2).f4) ((rd_T23 l1_1 x35_2).f5) ((rd_T23 l1_1 x35_2).f6) ((rd_T23 l1_1 x35_2).f7) ((rd_T23 l1_1 x35_2).f8) ((rd_T23 l1_1 x35_2).f9) ((rd_T23 l1_1 x35_2).f10) ((rd_T23 l1_1 x35_2).f11) ((rd_T23 l1_1 x35_2).f12) false _ A26.out).mono ?_); rintro e w43 ⟨rfl, hb⟩; refine ⟨_, rfl, ?_⟩; have n0_ := Aside0.mk (Kd.R_below (by (with_reducible repeat (first | apply Kd.R_alloc | apply Kd.R_drewN | apply Kd.R_drew)); exact (Kd.R_mono (Kd.R_far (p := ⟨gb309, 12, none⟩) (Kd.R_far (p := ⟨gb309, 11, none⟩) (Kd.R_far (p := ⟨gb309, 10, none⟩) (Kd.R_far (p := ⟨gb309, 9, none⟩) (Kd.R_far (p := ⟨gb309, 8, none⟩) (Kd.R_far (p := ⟨gb309, 7, none⟩) (Kd.R_far (p := ⟨gb309, 6, none⟩) (Kd.R_far (p := ⟨gb309, 5, none⟩) (Kd.R_far (p := ⟨gb309, 4, none⟩) (Kd.R_far (p := ⟨gb309, 3, none⟩) (Kd.R_far (p := ⟨gb309, 2, none⟩) (Kd.R_far (p := ⟨gb309, 1, none⟩) (Kd.R_far (p := ⟨gb309, 0, none⟩) (Kd.R_types HO_6.out BK309.out (by decide)) (fun _ hk => hk.2) (.int .i64 ((rd_T23 l1_1 x35_2).f0))) (fun _ hk => hk.2) (.int .i64 ((rd_T23 l1_1 x35_2).f1))) (fun _ hk => hk.2) (.int .i64 ((rd_T23 l1_1 x35_2).f2))) (fun _ hk => hk.2) (.int .i64 ((rd_T23 l1_1 x35_2).f3))) (fun _ hk => hk.2) (.int .i64 ((rd_T23 l1_1 x35_2).f4))) (fun _ hk => hk.2) (.int .i64 ((rd_T23 l1_1 x35_2).f5))) (fun _ hk => hk.2) (.bool ((rd_T23 l1_1 x35_2).f6))) (fun _ hk => hk.2) (.int .i64 ((rd_T23 l1_1 x35_2).f7))) (fun _ hk => hk.2) (.int .i64 ((rd_T23 l1_1 x35_2).f8))) (fun _ hk => hk.2) (.int .i64 ((rd_T23 l1_1 x35_2).f9))) (fun _ hk => hk.2) (.int .i64 ((rd_T23 l1_1 x35_2).f10))) (fun _ hk => hk.2) (.int .i64 ((rd_T23 l1_1 x35_2).f11))) (fun _ hk => hk.2) (.int .i64 ((rd_T23 l1_1 x35_2).f12))) (fun _ h_ => h_.1))) hb); have n1_ := Aside0.mk (Kd.R_below (by (with_reducible repeat (first | apply Kd.R_alloc | apply Kd.R_drewN | apply Kd.R_drew)); exact (Kd.R_mono (Kd.R_far (p := ⟨gb309, 12, none⟩) (Kd.R_far (p := ⟨gb309, 11, none⟩) (Kd.R_far (p := ⟨gb309, 10, none⟩) (Kd.R_far (p := ⟨gb309, 9, none⟩) (Kd.R_far (p := ⟨gb309, 8, none⟩) (Kd.R_far (p := ⟨gb309, 7, none⟩) (Kd.R_far (p := ⟨gb309, 6, none⟩) (Kd.R_far (p := ⟨gb309, 5, none⟩) (Kd.R_far (p := ⟨gb309, 4, none⟩) (Kd.R_far (p := ⟨gb309, 3, none⟩) (Kd.R_far (p := ⟨gb309, 2, none⟩) (Kd.R_far (p := ⟨gb309, 1, none⟩) (Kd.R_far (p := ⟨gb309, 0, none⟩) (Kd.R_types HO_7.out BK309.out (by decide)) (fun _ hk => hk.2) (.int .i64 ((rd_T23 l1_1 x35_2).f0))) (fun _ hk => hk.2) (.int .i64 ((rd_T23 l1_1 x35_2).f1))) (fun _ hk => hk.2) (.int .i64 ((rd_T23 l1_1 x35_2).f2))) (fun _ hk => hk.2) (.int .i64 ((rd_T23 l1_1 x35_2).f3))) (fun _ hk => hk.2) (.int .i64 ((rd_T23 l1_1 x35_2).f4))) (fun _ hk => hk.2) (.int .i64 ((rd_T23 l1_1 x35_2).f5))) (fun _ hk => hk.2) (.bool ((rd_T23 l1_1 x35_2).f6))) (fun _ hk => hk.2) (.int .i64 ((rd_T23 l1_1 x35_2).f7))) (fun _ hk => hk.2) (.int .i64 ((rd_T23 l1_1 x35_2).f8))) (fun _ hk => hk.2) (.int .i64 ((rd_T23 l1_1 x35_2).f9))) (fun _ hk => hk.2) (.int .i64 ((rd_T23 l1_1 x35_2).f10))) (fun _ hk => hk.2) (.int .i64 ((rd_T23 l1_1 x35_2).f11))) (fun _ hk => hk.2) (.int .i64 ((rd_T23 l1_1 x35_2).f12))) (fun _ h_ => h_.1))) hb); have n2_ := Aside0.mk (Kd.R_below (by (with_reducible repeat (first | apply Kd.R_alloc | apply Kd.R_drewN | apply Kd.R_drew)); exact (Kd.R_mono (Kd.R_far (p := ⟨gb309, 12, none⟩) (Kd.R_far (p := ⟨gb309, 11, none⟩) (Kd.R_far (p := ⟨gb309, 10, none⟩) (Kd.R_far (p := ⟨gb309, 9, none⟩) (Kd.R_far (p := ⟨gb309, 8, none⟩) (Kd.R_far (p := ⟨gb309, 7, none⟩) (Kd.R_far (p := ⟨gb309, 6, none⟩) (Kd.R_far (p := ⟨gb309, 5, none⟩) (Kd.R_far (p := ⟨gb309, 4, none⟩) (Kd.R_far (p := ⟨gb309, 3, none⟩) (Kd.R_far (p := ⟨gb309, 2, none⟩) (Kd.R_far (p := ⟨gb309, 1, none⟩) (Kd.R_far (p := ⟨gb309, 0, none⟩) (Kd.R_mono HO_9.out (fun k_ hk => (⟨hk, hk.2⟩ : _ ∧ k_ ≠ gb309))) (fun _ hk => hk.2) (.int .i64 ((rd_T23 l1_1 x35_2).f0))) (fun _ hk => hk.2) (.int .i64 ((rd_T23 l1_1 x35_2).f1))) (fun _ hk => hk.2) (.int .i64 ((rd_T23 l1_1 x35_2).f2))) (fun _ hk => hk.2) (.int .i64 ((rd_T23 l1_1 x35_2).f3))) (fun _ hk => hk.2) (.int .i64 ((rd_T23 l1_1 x35_2).f4))) (fun _ hk => hk.2) (.int .i64 ((rd_T23 l1_1 x35_2).f5))) (fun _ hk => hk.2) (.bool ((rd_T23 l1_1 x35_2).f6))) (fun _ hk => hk.2) (.int .i64 ((rd_T23 l1_1 x35_2).f7))) (fun _ hk => hk.2) (.int .i64 ((rd_T23 l1_1 x35_2).f8))) (fun _ hk => hk.2) (.int .i64 ((rd_T23 l1_1 x35_2).f9))) (fun _ hk => hk.2) (.int .i64 ((rd_T23 l1_1 x35_2).f10))) (fun _ hk => hk.2) (.int .i64 ((rd_T23 l1_1 x35_2).f11))) (fun _ hk => hk.2) (.int .i64 ((rd_T23 l1_1 x35_2).f12))) (fun _ h_ => h_.1))) hb); have n3_ := Aside0.mk (blk_below (g := gb303) (o := .cells #[.int .i64 a0_0, .slice A0_1 l0_1.length c0_1] 51 (0, 0)) (by (iterate 13 ((with_reducible repeat (first | refine blk_drewN ?_ _ | refine blk_drew ?_ | refine blk_alloc ?_ _)); refine blk_far ?_ NB303_309.out _)); (with_reducible repeat (first | refine blk_drewN ?_ _ | refine blk_drew ?_ | refine blk_alloc ?_ _)); exact BK303.out) hb); have n4_ := Aside0.mk (blk_below (g := gb304) (o := .cells #[.int .i64 a1_0, .slice (some ad308) l1_1.length c1_1, .int .i64 a1_2, .int .i64 a1_3, .int .i64 a1_4, .int .i64 a1_5, .slice A1_6 l1_6.length c1_6, .int .i64 a1_7, .int .i64 a1_8, .int .i64 a1_9, .int .i64 a1_10, .int .i64 a1_11, .int .i64 a1_12] 38 (0, 0)) (by (iterate 13 ((with_reducible repeat (first | refine blk_drewN ?_ _ | refine blk_drew ?_ | refine blk_alloc ?_ _)); refine blk_far ?_ NB304_309.out _)); (with_reducible repeat (first | refine blk_drewN ?_ _ | refine blk_drew ?_ | refine blk_alloc ?_ _)); exact BK304.out) hb); have n5_ := Aside0.mk (blk_below (g := gb309) (o := .cells #[.int .i64 ((rd_T23 l1_1 x35_2).f0), .int .i64 ((rd_T23 l1_1 x35_2).f1), .int .i64 ((rd_T23 l1_1 x35_2).f2), .int .i64 ((rd_T23 l1_1 x35_2).f3), .int .i64 ((rd_T23 l1_1 x35_2).f4), .int .i64 ((rd_T23 l1_1 x35_2).f5), .bool ((rd_T23 l1_1 x35_2).f6), .int .i64 ((rd_T23 l1_1 x35_2).f7), .int .i64 ((rd_T23 l1_1 x35_2).f8), .int .i64 ((rd_T23 l1_1 x35_2).f9), .int .i64 ((rd_T23 l1_1 x35_2).f10), .int .i64 ((rd_T23 l1_1 x35_2).f11), .int .i64 ((rd_T23 l1_1 x35_2).f12)] 23 (0, 0)) (by (with_reducible repeat (first | refine blk_drewN ?_ _ | refine blk_drew ?_ | refine blk_alloc ?_ _)); refine blk_put (cs := #[.int .i64 ((rd_T23 l1_1 x35_2).f0), .int .i64 ((rd_T23 l1_1 x35_2).f1), .int .i64 ((rd_T23 l1_1 x35_2).f2), .int .i64 ((rd_T23 l1_1 x35_2).f3), .int .i64 ((rd_T23 l1_1 x35_2).f4), .int .i64 ((rd_T23 l1_1 x35_2).f5), .bool ((rd_T23 l1_1 x35_2).f6), .int .i64 ((rd_T23 l1_1 x35_2).f7), .int .i64 ((rd_T23 l1_1 x35_2).f8), .int .i64 ((rd_T23 l1_1 x35_2).f9), .int .i64 ((rd_T23 l1_1 x35_2).f10), .int .i64 ((rd_T23 l1_1 x35_2).f11), .int .i64 0]) ?_ 12 _ rfl; (with_reducible repeat (first | refine blk_drewN ?_ _ | refine blk_drew ?_ | refine blk_alloc ?_ _)); refine blk_put (cs := #[.int .i64 ((rd_T23 l1_1 x35_2).f0), .int .i64 ((rd_T23 l1_1 x35_2).f1), .int .i64 ((rd_T23 l1_1 x35_2).f2), .int .i64 ((rd_T23 l1_1 x35_2).f3), .int .i64 ((rd_T23 l1_1 x35_2).f4), .int .i64 ((rd_T23 l1_1 x35_2).f5), .bool ((rd_T23 l1_1 x35_2).f6), .int .i64 ((rd_T23 l1_1 x35_2).f7), .int .i64 ((rd_T23 l1_1 x35_2).f8), .int .i64 ((rd_T23 l1_1 x35_2).f9), .int .i64 ((rd_T23 l1_1 x35_2).f10), .int .i64 0, .int .i64 0]) ?_ 11 _ rfl; (with_reducible repeat (first | refine blk_drewN ?_ _ | refine blk_drew ?_ | refine blk_alloc ?_ _)); refine blk_put (cs := #[.int .i64 ((rd_T23 l1_1 x35_2).f0), .int .i64 ((rd_T23 l1_1 x35_2).f1), .int .i64 ((rd_T23 l1_1 x35_2).f2), .int .i64 ((rd_T23 l1_1 x35_2).f3), .int .i64 ((rd_T23 l1_1 x35_2).f4), .int .i64 ((rd_T23 l1_1 x35_2).f5), .bool ((rd_T23 l1_1 x35_2).f6), .int .i64 ((rd_T23 l1_1 x35_2).f7), .int .i64 ((rd_T23 l1_1 x35_2).f8), .int .i64 ((rd_T23 l1_1 x35_2).f9), .int .i64 0, .int .i64 0, .int .i64 0]) ?_ 10 _ rfl; (with_reducible repeat (first | refine blk_drewN ?_ _ | refine blk_drew ?_ | refine blk_alloc ?_ _)); refine blk_put (cs := #[.int .i64 ((rd_T23 l1_1 x35_2).f0), .int .i64 ((rd_T23 l1_1 x35_2).f1), .int .i64 ((rd_T23 l1_1 x35_2).f2), .int .i64 ((rd_T23 l1_1 x35_2).f3), .int .i64 ((rd_T23 l1_1 x35_2).f4), .int .i64 ((rd_T23 l1_1 x35_2).f5), .bool ((rd_T23 l1_1 x35_2).f6), .int .i64 ((rd_T23 l1_1 x35_2).f7), .int .i64 ((rd_T23 l1_1 x35_2).f8), .int .i64 0, .int .i64 0, .int .i64 0, .int .i64 0]) ?_ 9 _ rfl; (with_reducible repeat (first | refine blk_drewN ?_ _ | refine blk_drew ?_ | refine blk_alloc ?_ _)); refine blk_put (cs := #[.int .i64 ((rd_T23 l1_1 x35_2).f0), .int .i64 ((rd_T23 l1_1 x35_2).f1), .int .i64 ((rd_T23 l1_1 x35_2).f2), .int .i64 ((rd_T23 l1_1 x35_2).f3), .int .i64 ((rd_T23 l1_1 x35_2).f4), .int .i64 ((rd_T23 l1_1 x35_2).f5), .bool ((rd_T23 l1_1 x35_2).f6), .int .i64 ((rd_T23 l1_1 x35_2).f7), .int .i64 0, .int .i64 0, .int .i64 0, .int .i64 0, .int .i64 0]) ?_ 8 _ rfl; (with_reducible repeat (first | refine blk_drewN ?_ _ | refine blk_drew ?_ | refine blk_alloc ?_ _)); refine blk_put (cs := #[.int .i64 ((rd_T23 l1_1 x35_2).f0), .int .i64 ((rd_T23 l1_1 x35_2).f1), .int .i64 ((rd_T23 l1_1 x35_2).f2), .int .i64 ((rd_T23 l1_1 x35_2).f3), .int .i64 ((rd_T23 l1_1 x35_2).f4), .int .i64 ((rd_T23 l1_1 x35_2).f5), .bool ((rd_T23 l1_1 x35_2).f6), .int .i64 0, .int .i64 0, .int .i64 0, .int .i64 0, .int .i64 0, .int .i64 0]) ?_ 7 _ rfl; (with_reducible repeat (first | refine blk_drewN ?_ _ | refine blk_drew ?_ | refine blk_alloc ?_ _)); refine blk_put (cs := #[.int .i64 ((rd_T23 l1_1 x35_2).f0), .int .i64 ((rd_T23 l1_1 x35_2).f1), .int .i64 ((rd_T23 l1_1 x35_2).f2), .int .i64 ((rd_T23 l1_1 x35_2).f3), .int .i64 ((rd_T23 l1_1 x35_2).f4), .int .i64 ((rd_T23 l1_1 x35_2).f5), .bool false, .int .i64 0, .int .i64 0, .int .i64 0, .int .i64 0, .int .i64 0, .int .i64 0]) ?_ 6 _ rfl; (with_reducible repeat (first | refine blk_drewN ?_ _ | refine blk_drew ?_ | refine blk_alloc ?_ _)); refine blk_put (cs := #[.int .i64 ((rd_T23 l1_1 x35_2).f0), .int .i64 ((rd_T23 l1_1 x35_2).f1), .int .i64 ((rd_T23 l1_1 x35_2).f2), .int .i64 ((rd_T23 l1_1 x35_2).f3), .int .i64 ((rd_T23 l1_1 x35_2).f4), .int .i64 0, .bool false, .int .i64 0, .int .i64 0, .int .i64 0, .int .i64 0, .int .i64 0, .int .i64 0]) ?_ 5 _ rfl; (with_reducible repeat (first | refine blk_drewN ?_ _ | refine blk_drew ?_ | refine blk_alloc ?_ _)); refine blk_put (cs := #[.int .i64 ((rd_T23 l1_1 x35_2).f0), .int .i64 ((rd_T23 l1_1 x35_2).f1), .int .i64 ((rd_T23 l1_1 x35_2).f2), .int .i64 ((rd_T23 l1_1 x35_2).f3), .int .i64 0, .int .i64 0, .bool false, .int .i64 0, .int .i64 0, .int .i64 0, .int .i64 0, .int .i64 0, .int .i64 0]) ?_ 4 _ rfl; (with_reducible repeat (first | refine blk_drewN ?_ _ | refine blk_drew ?_ | refine blk_alloc ?_ _)); refine blk_put (cs := #[.int .i64 ((rd_T23 l1_1 x35_2).f0), .int .i64 ((rd_T23 l1_1 x35_2).f1), .int .i64 ((rd_T23 l1_1 x35_2).f2), .int .i64 0, .int .i64 0, .int .i64 0, .bool false, .int .i64 0, .int .i64 0, .int .i64 0, .int .i64 0, .int .i64 0, .int .i64 0]) ?_ 3 _ rfl; (with_reducible repeat (first | refine blk_drewN ?_ _ | refine blk_drew ?_ | refine blk_alloc ?_ _)); refine blk_put (cs := #[.int .i64 ((rd_T23 l1_1 x35_2).f0), .int .i64 ((rd_T23 l1_1 x35_2).f1), .int .i64 0, .int .i64 0, .int .i64 0, .int .i64 0, .bool false, .int .i64 0, .int .i64 0, .int .i64 0, .int .i64 0, .int .i64 0, .int .i64 0]) ?_ 2 _ rfl; (with_reducible repeat (first | refine blk_drewN ?_ _ | refine blk_drew ?_ | refine blk_alloc ?_ _)); refine blk_put (cs := #[.int .i64 ((rd_T23 l1_1 x35_2).f0), .int .i64 0, .int .i64 0, .int .i64 0, .int .i64 0, .int .i64 0, .bool false, .int .i64 0, .int .i64 0, .int .i64 0, .int .i64 0, .int .i64 0, .int .i64 0]) ?_ 1 _ rfl; (with_reducible repeat (first | refine blk_drewN ?_ _ | refine blk_drew ?_ | refine blk_alloc ?_ _)); refine blk_put (cs := #[.int .i64 0, .int .i64 0, .int .i64 0, .int .i64 0, .int .i64 0, .int .i64 0, .bool false, .int .i64 0, .int .i64 0, .int .i64 0, .int .i64 0, .int .i64 0, .int .i64 0]) ?_ 0 _ rfl; (with_reducible repeat (first | refine blk_drewN ?_ _ | refine blk_drew ?_ | refine blk_alloc ?_ _)); exact BK309.out) hb); have n6_ := Aside0.mk (below_step (by exact h3q HB.out GE303.out GE304.out GE309.out) hb); clear HO_6; clear HO_7; clear HO_9; clear BK303; clear BK304; clear BK309; clear HB; have HO_6 := n0_; have HO_7 := n1_; have HO_9 := n2_; have BK303 := n3_; have BK304 := n4_; have BK309 := n5_; have HB := n6_; clear n0_ n1_ n2_ n3_ n4_ n5_ n6_; (try clear hb); (try clear hb2); (try clear hk); (try clear hi)))
        go_roundg k2
        case measure => have := HJ3.out; have := HK2.out; omega
        case rel => exact ⟨(x6_2), (x9_2), (wrap64 (x35_2 + 1)), (by first | rfl | (simp; done) | (simp [*]; done)), H', ⟨by have := HJ3.out; have := HK2.out; omega⟩, ⟨by exact rq HO_6.out⟩, ⟨by exact rq HO_7.out⟩, ⟨by (with_reducible repeat (first | apply Kd.R_alloc | apply Kd.R_drewN | apply Kd.R_drew)); exact Kd.R_mono HO_9.out (fun _ hk => trivial)⟩, ⟨by exact bb BK303.out⟩, ⟨by exact bb BK304.out⟩, ⟨by exact h3q HB.out GE303.out GE304.out GE309.out⟩⟩
      ·rw [if_neg c25] at H
       exact absurd H (by simp)
     ·rw [if_neg c24] at H
      exact absurd H (by simp)
    ·rw [if_neg c23] at H
     have c23b0 : decide (x35_2 < (l1_1.length : Int)) = false := decide_eq_false c23
     clear c23
     by_cases c44 : (x9_2.length : Int) = 0
     ·rw [if_pos c44] at H
      have c44b0 : ((x9_2.length : Int) == 0) = true := beq_iff_eq.mpr c44
      have c44b1 : ((x9_2.length : Int) != 0) = false := bne_eq_false_iff_eq.mpr c44
      clear c44
      simp only [Option.some.injEq, Prod.mk.injEq] at H
      obtain ⟨rfl, rfl, rfl⟩ := H
      obtain ⟨Ao45, co45, eo45⟩ := Kd.R_slice HO_9.out
      subst eo45
      go_wp2
      go_ret3
      exact ⟨_, _, by first | rfl | (simp [errW_none, errW_some] <;> rfl) | (simp [*, errW_none, errW_some] <;> rfl), by first | exact Kd.R_nil _ _ _ _ _ | exact Kd.N_nil _ _ _ _ _ | exact Kd.V_nil _ _ _ _ _ | exact Kd.Q_nil _ _ _ _ _ | exact Kd.S_nil _ _ _ _ _, by first | exact Kd.R_nil _ _ _ _ _ | exact Kd.N_nil _ _ _ _ _ | exact Kd.V_nil _ _ _ _ _ | exact Kd.Q_nil _ _ _ _ _ | exact Kd.S_nil _ _ _ _ _, by exact h2q HB.out GE303.out GE304.out⟩
     ·rw [if_neg c44] at H
      have c44b0 : ((x9_2.length : Int) == 0) = false := beq_eq_false_iff_ne.mpr c44
      have c44b1 : ((x9_2.length : Int) != 0) = true := bne_iff_ne.mpr c44
      have c44b2 : ¬ (x9_2 = []) := fun h_ => c44 (by rw [h_]; rfl)
      replace H := Option.bind_eq_some_iff.mp H
      obtain ⟨t317, A460, H⟩ := H
      replace H : (if 0 ≤ (x9_2.length : Int) then (if ((x9_2.length : Int) : Int).toNat ≤ 35184372088832 then (if t317 = 4 then ((plan_shares.f k2 a0_0 l0_1 a1_0 l1_1 a1_2 a1_3 a1_4 a1_5 l1_6 a1_7 a1_8 a1_9 a1_10 a1_11 a1_12 x9_2).bind fun bt321 => (if bt321.2 = 0 then (plan_Asks.j2 k2 a2 x6_2 ([] : List Int) x9_2 t317 bt321.1) else (some (([] : List Int), ([] : List Int), bt321.2)))) else (plan_Asks.j2 k2 a2 x6_2 ([] : List Int) x9_2 t317 (List.replicate ((x9_2.length : Int) : Int).toNat 0))) else (none)) else (none)) = some (r1, r2, r3) := H
      have A46 := Aside0.mk A460
      clear A460
      by_cases c47 : 0 ≤ (x9_2.length : Int)
      ·rw [if_pos c47] at H
       have c47b0 := eq_true c47
       have c47b1 : decide (0 ≤ (x9_2.length : Int)) = true := decide_eq_true c47
       clear c47
       by_cases c48 : ((x9_2.length : Int) : Int).toNat ≤ 35184372088832
       ·rw [if_pos c48] at H
        have c48b0 := eq_true c48
        have c48b1 : decide (((x9_2.length : Int) : Int).toNat ≤ 35184372088832) = true := decide_eq_true c48
        clear c48
        obtain ⟨y318, hy318⟩ : ∃ y_ : List Int, y_ = (List.replicate ((x9_2.length : Int) : Int).toNat 0) := ⟨_, rfl⟩
        replace H : (if t317 = 4 then ((plan_shares.f k2 a0_0 l0_1 a1_0 l1_1 a1_2 a1_3 a1_4 a1_5 l1_6 a1_7 a1_8 a1_9 a1_10 a1_11 a1_12 x9_2).bind fun bt321 => (if bt321.2 = 0 then (plan_Asks.j2 k2 a2 x6_2 ([] : List Int) x9_2 t317 bt321.1) else (some (([] : List Int), ([] : List Int), bt321.2)))) else (plan_Asks.j2 k2 a2 x6_2 ([] : List Int) x9_2 t317 y318)) = some (r1, r2, r3) := by first | (rw [hy318]; with_reducible exact H) | (have H2_ := (Option.bind_some _ _).symm.trans H; rw [hy318]; with_reducible exact H2_) | (have H2_ := (Option.bind_some _ _).symm.trans H; with_reducible exact H2_) | with_reducible exact H | (rw [hy318]; exact H) | exact H
        have Ny318 := Aside0.mk hy318
        clear hy318
        have HC49 := Aside0.mk H
        clear H
        obtain ⟨Ao50, co50, eo50⟩ := Kd.R_slice HO_9.out
        subst eo50
        have hnb51 := NB304_303.out
        have hnc51 := NB303_304.out
        obtain ⟨hcz52_0, hcz52_1, hcz52_2, hcz52_3, hcz52_4, hcz52_5, hcz52_6, hcz52_7, hcz52_8, hcz52_9, hcz52_10, hcz52_11, hcz52_12, hfz52_0, hfz52_1, hfz52_2, hfz52_3, hfz52_4, hfz52_5, hfz52_6, hfz52_7, hfz52_8, hfz52_9, hfz52_10, hfz52_11, hfz52_12⟩ := lc13 BK304.out
        go_upto_if 61 with (first | ((with_reducible refine gate_callee (f := 10) rfl ?_); refine goesL_ (some 56) rfl rfl Try.func10 (by kernel_rfl) rfl #[.agg #[.int .i64 a1_0, .slice A1_1 l1_1.length c1_1, .int .i64 a1_2, .int .i64 a1_3, .int .i64 a1_4, .int .i64 a1_5, .slice A1_6 l1_6.length c1_6, .int .i64 a1_7, .int .i64 a1_8, .int .i64 a1_9, .int .i64 a1_10, .int .i64 a1_11, .int .i64 a1_12], .int .i64 a2] rfl (by (try simp only [List.map_toArray, List.map_cons, List.map_nil]); first | done | rfl | (simp only [List.length_drop, List.length_take]; rfl)) ?_; (with_reducible refine (plan_Holds.calls k2 a1_0 _ _ l1_1 a1_2 a1_3 a1_4 a1_5 _ _ l1_6 a1_7 a1_8 a1_9 a1_10 a1_11 a1_12 a2 t317 _ ?side1 ?side2 ?side3 ?side4 A46.out).mono ?_); (case side1 => repeat (first | exact (Kd.C_below HR1_1.out HB.out) | (with_reducible refine Kd.C_alloc ?_ _) | (with_reducible refine Kd.C_drewN ?_ _) | (with_reducible refine Kd.C_drew ?_))); (case side2 => exact HC1_1.out); (case side3 => repeat (first | exact (Kd.C_below HR1_6.out HB.out) | (with_reducible refine Kd.C_alloc ?_ _) | (with_reducible refine Kd.C_drewN ?_ _) | (with_reducible refine Kd.C_drew ?_))); (case side4 => exact HC1_6.out); rintro e w53 ⟨rfl, hb⟩; refine ⟨_, rfl, ?_⟩; have n0_ := Aside0.mk (Kd.R_below (by exact rq HO_6.out) hb); have n1_ := Aside0.mk (Kd.R_below (by exact rq HO_7.out) hb); have n2_ := Aside0.mk (Kd.R_below (by exact rq HO_9.out) hb); have n3_ := Aside0.mk (blk_below (g := gb303) (Up.up BK303.out) hb); have n4_ := Aside0.mk (blk_below (g := gb304) (Up.up BK304.out) hb); have n5_ := Aside0.mk (below_step (by exact h2q HB.out GE303.out GE304.out) hb); clear HO_6; clear HO_7; clear HO_9; clear BK303; clear BK304; clear HB; have HO_6 := n0_; have HO_7 := n1_; have HO_9 := n2_; have BK303 := n3_; have BK304 := n4_; have HB := n5_; clear n0_ n1_ n2_ n3_ n4_ n5_; (try clear hb); (try clear hb2); (try clear hk); (try clear hi)) | ((with_reducible refine gate_dst (N := 59) rfl ?_); refine Kd.R_make (Kd.int .i64) _ 2 rfl (N := 59) rfl 47 _ _ rfl (x9_2.length : Int) rfl rfl Try.underlying47 (.int .i64 0) 8 info2 rfl (by decide) (by omega) 0 (ok := fun _ => True) (okp := fun _ => True) rfl (fun _ hk => hk) trivial (yd) (Nat.le_trans (Nat.mul_le_mul_right _ (yd : (x9_2.length : Int).toNat ≤ 35184372088832)) (by omega)) (Below.refl _ _) (Nat.le_refl _) ?_; intro v319 w54 ho55 hb hg_ hnew_; clear hg_ hnew_; (first | rw [← Ny318.out] at ho55 | (simp only [Int.reduceToNat] at ho55; rw [← Ny318.out] at ho55)); have n0_ := Aside0.mk (Kd.R_below (by exact rq HO_6.out) hb); have n1_ := Aside0.mk (Kd.R_elder' (by exact rq HO_7.out) (Kd.R_base ho55) hb); have n2_ := Aside0.mk (Kd.R_below (by exact rq HO_9.out) hb); have n3_ := Aside0.mk (Kd.R_lower (Kd.R_new' ho55 (Kd.R_lt (by exact rq HO_7.out))) (below_size (by exact h2q HB.out GE303.out GE304.out))); have n4_ := Aside0.mk (blk_below (g := gb303) (Up.up BK303.out) hb); have n5_ := Aside0.mk (blk_below (g := gb304) (Up.up BK304.out) hb); have n6_ := Aside0.mk (below_step (by exact h2q HB.out GE303.out GE304.out) hb); clear HO_6; clear HO_7; clear HO_9; clear BK303; clear BK304; clear HB; have HO_6 := n0_; have HO_7 := n1_; have HO_9 := n2_; have HO320 := n3_; have BK303 := n4_; have BK304 := n5_; have HB := n6_; clear n0_ n1_ n2_ n3_ n4_ n5_ n6_; clear hb ho55))
        (try simp only [Act.put, List.setIfInBounds_toArray, List.set_cons_zero, List.set_cons_succ])
        go_cut [6, 7, 13] (fun v6 v7 v13 wc => ∃ (kq : Nat) (x6_48 : List Int) (x7_48 : List Int) (x13_48 : List Int), Aside0 (plan_Asks.j2 kq a2 x6_48 x7_48 x9_2 t317 x13_48 = some (r1, r2, r3)) ∧ Aside0 (kq ≤ k2) ∧ Aside0 (Kd.R (Kd.int .i64) 3 wc w.heap.size (fun _ => True) v6 x6_48) ∧ Aside0 (Kd.R (Kd.int .i64) 2 wc w.heap.size (fun k_ => some k_ ≠ (v13 : Value).ownBlock) v7 x7_48) ∧ Aside0 (Kd.R k23 23 wc w.heap.size (fun _ => True) (.slice Ao50 x9_2.length co50) x9_2) ∧ Aside0 (Kd.R (Kd.int .i64) 2 wc w.heap.size (fun k_ => some k_ ≠ (v7 : Value).ownBlock) v13 x13_48) ∧ Aside0 (wc.heap[gb303]? = some (.cells #[.int .i64 a0_0, (.slice A0_1 l0_1.length c0_1)] 51 (0, 0))) ∧ Aside0 (wc.heap[gb304]? = some (.cells #[.int .i64 a1_0, (.slice A1_1 l1_1.length c1_1), .int .i64 a1_2, .int .i64 a1_3, .int .i64 a1_4, .int .i64 a1_5, (.slice A1_6 l1_6.length c1_6), .int .i64 a1_7, .int .i64 a1_8, .int .i64 a1_9, .int .i64 a1_10, .int .i64 a1_11, .int .i64 a1_12] 38 (0, 0))) ∧ Aside0 (Below w.heap.size w wc))
        case first =>
         have H := HC49.out
         clear HC49
         by_cases c56 : t317 = 4
         ·rw [if_pos c56] at H
          have c56b0 : (t317 == 4) = true := beq_iff_eq.mpr c56
          have c56b1 : (t317 != 4) = false := bne_eq_false_iff_eq.mpr c56
          clear c56
          (first | rw [c56b0] | (simp only [i64_w, i32_w]; rw [c56b0]) | skip)
          replace H := Option.bind_eq_some_iff.mp H
          obtain ⟨⟨t321, t324⟩, A570, H⟩ := H
          replace H : (if t324 = 0 then (plan_Asks.j2 k2 a2 x6_2 ([] : List Int) x9_2 t317 t321) else (some (([] : List Int), ([] : List Int), t324))) = some (r1, r2, r3) := H
          have A57 := Aside0.mk A570
          clear A570
          by_cases c58 : t324 = 0
          ·rw [if_pos c58] at H
           have c58b0 : (t324 == 0) = true := beq_iff_eq.mpr c58
           have c58b1 : (t324 != 0) = false := bne_eq_false_iff_eq.mpr c58
           clear c58
           have H' := Aside0.mk H
           clear H
           have hnb59 := NB303_304.out
           have hnc59 := NB304_303.out
           have hcz60_0 : w54.cell? ⟨gb303, 0, none⟩ = some (.int .i64 a0_0) := (blk_cell BK303.out 0).trans rfl
           have hcz60_1 : w54.cell? ⟨gb303, 1, none⟩ = some (.slice A0_1 l0_1.length c0_1) := (blk_cell BK303.out 1).trans rfl
           have hfz60_0 := blk_frozen BK303.out 0
           have hfz60_1 := blk_frozen BK303.out 1
           obtain ⟨hcz61_0, hcz61_1, hcz61_2, hcz61_3, hcz61_4, hcz61_5, hcz61_6, hcz61_7, hcz61_8, hcz61_9, hcz61_10, hcz61_11, hcz61_12, hfz61_0, hfz61_1, hfz61_2, hfz61_3, hfz61_4, hfz61_5, hfz61_6, hfz61_7, hfz61_8, hfz61_9, hfz61_10, hfz61_11, hfz61_12⟩ := lc13 BK304.out
           go_wp2_with (first | ((with_reducible refine gate_callee (f := 36) rfl ?_); refine goesL_ (some 66) rfl rfl Try.func36 (by kernel_rfl) rfl #[.agg #[.int .i64 a0_0, .slice A0_1 l0_1.length c0_1], .agg #[.int .i64 a1_0, .slice A1_1 l1_1.length c1_1, .int .i64 a1_2, .int .i64 a1_3, .int .i64 a1_4, .int .i64 a1_5, .slice A1_6 l1_6.length c1_6, .int .i64 a1_7, .int .i64 a1_8, .int .i64 a1_9, .int .i64 a1_10, .int .i64 a1_11, .int .i64 a1_12], .slice Ao50 x9_2.length co50] rfl (by (try simp only [List.map_toArray, List.map_cons, List.map_nil]); first | done | rfl | (simp only [List.length_drop, List.length_take]; rfl)) ?_; (with_reducible refine (plan_shares.calls k2 a0_0 _ _ l0_1 a1_0 _ _ l1_1 a1_2 a1_3 a1_4 a1_5 _ _ l1_6 a1_7 a1_8 a1_9 a1_10 a1_11 a1_12 _ _ x9_2 t321 t324 _ ?side1 ?side2 ?side3 ?side4 ?side5 ?side6 ?side7 ?side8 A57.out).mono ?_); (case side1 => repeat (first | exact (Kd.C_below HR0_1.out HB.out) | (with_reducible refine Kd.C_alloc ?_ _) | (with_reducible refine Kd.C_drewN ?_ _) | (with_reducible refine Kd.C_drew ?_))); (case side2 => exact HC0_1.out); (case side3 => repeat (first | exact (Kd.C_below HR1_1.out HB.out) | (with_reducible refine Kd.C_alloc ?_ _) | (with_reducible refine Kd.C_drewN ?_ _) | (with_reducible refine Kd.C_drew ?_))); (case side4 => exact HC1_1.out); (case side5 => repeat (first | exact (Kd.C_below HR1_6.out HB.out) | (with_reducible refine Kd.C_alloc ?_ _) | (with_reducible refine Kd.C_drewN ?_ _) | (with_reducible refine Kd.C_drew ?_))); (case side6 => exact HC1_6.out); (case side7 => repeat (first | exact (Kd.R_reads' HO_9.out).2.2 | (with_reducible refine Kd.C_alloc ?_ _) | (with_reducible refine Kd.C_drewN ?_ _) | (with_reducible refine Kd.C_drew ?_))); (case side8 => exact (Kd.R_reads' HO_9.out).2.1); rintro e w62 ⟨v322, rfl, ho0, hb⟩; refine ⟨_, rfl, ?_⟩; have n0_ := Aside0.mk (Kd.R_below (by exact rq HO_6.out) hb); have n1_ := Aside0.mk (Kd.R_elder' (by exact rq HO_7.out) (Kd.R_base ho0) hb); have n2_ := Aside0.mk (Kd.R_below (by exact rq HO_9.out) hb); have n3_ := Aside0.mk (Kd.R_elder' (by exact rq HO320.out) (Kd.R_base ho0) hb); have n4_ := Aside0.mk (Kd.R_lower (Kd.R_new' (Kd.R_new' ho0 (Kd.R_lt (by exact rq HO_7.out))) (Kd.R_lt (by exact rq HO320.out))) (below_size (by exact h2q HB.out GE303.out GE304.out))); have n5_ := Aside0.mk (blk_below (g := gb303) (Up.up BK303.out) hb); have n6_ := Aside0.mk (blk_below (g := gb304) (Up.up BK304.out) hb); have n7_ := Aside0.mk (below_step (by exact h2q HB.out GE303.out GE304.out) hb); clear HO_6; clear HO_7; clear HO_9; clear HO320; clear BK303; clear BK304; clear HB; have HO_6 := n0_; have HO_7 := n1_; have HO_9 := n2_; have HO320 := n3_; have HO323 := n4_; have BK303 := n5_; have BK304 := n6_; have HB := n7_; clear n0_ n1_ n2_ n3_ n4_ n5_ n6_ n7_; (try clear hb); (try clear hb2); (try clear hk); (try clear hi); (try clear ho0)))
           go_meet
           case rel => exact ⟨_, (x6_2), (([] : List Int)), (t321), H', ⟨by have := HJ3.out; have := HK2.out; first | omega | exact Nat.le_refl _⟩, ⟨by exact rq HO_6.out⟩, ⟨by (with_reducible repeat (first | apply Kd.R_alloc | apply Kd.R_drewN | apply Kd.R_drew)); exact Kd.R_mono HO_7.out (fun _ hk => hk.2)⟩, ⟨by exact rq HO_9.out⟩, ⟨by (with_reducible repeat (first | apply Kd.R_alloc | apply Kd.R_drewN | apply Kd.R_drew)); exact Kd.R_mono HO323.out (fun _ hk => hk.1.2)⟩, ⟨by exact bb BK303.out⟩, ⟨by exact bb BK304.out⟩, ⟨by exact h2q HB.out GE303.out GE304.out⟩⟩
          ·rw [if_neg c58] at H
           have c58b0 : (t324 == 0) = false := beq_eq_false_iff_ne.mpr c58
           have c58b1 : (t324 != 0) = true := bne_iff_ne.mpr c58
           simp only [Option.some.injEq, Prod.mk.injEq] at H
           obtain ⟨rfl, rfl, rfl⟩ := H
           have hnb63 := NB303_304.out
           have hnc63 := NB304_303.out
           have hcz64_0 : w54.cell? ⟨gb303, 0, none⟩ = some (.int .i64 a0_0) := (blk_cell BK303.out 0).trans rfl
           have hcz64_1 : w54.cell? ⟨gb303, 1, none⟩ = some (.slice A0_1 l0_1.length c0_1) := (blk_cell BK303.out 1).trans rfl
           have hfz64_0 := blk_frozen BK303.out 0
           have hfz64_1 := blk_frozen BK303.out 1
           obtain ⟨hcz65_0, hcz65_1, hcz65_2, hcz65_3, hcz65_4, hcz65_5, hcz65_6, hcz65_7, hcz65_8, hcz65_9, hcz65_10, hcz65_11, hcz65_12, hfz65_0, hfz65_1, hfz65_2, hfz65_3, hfz65_4, hfz65_5, hfz65_6, hfz65_7, hfz65_8, hfz65_9, hfz65_10, hfz65_11, hfz65_12⟩ := lc13 BK304.out
           go_wp2_with (first | ((with_reducible refine gate_callee (f := 36) rfl ?_); refine goesL_ (some 66) rfl rfl Try.func36 (by kernel_rfl) rfl #[.agg #[.int .i64 a0_0, .slice A0_1 l0_1.length c0_1], .agg #[.int .i64 a1_0, .slice A1_1 l1_1.length c1_1, .int .i64 a1_2, .int .i64 a1_3, .int .i64 a1_4, .int .i64 a1_5, .slice A1_6 l1_6.length c1_6, .int .i64 a1_7, .int .i64 a1_8, .int .i64 a1_9, .int .i64 a1_10, .int .i64 a1_11, .int .i64 a1_12], .slice Ao50 x9_2.length co50] rfl (by (try simp only [List.map_toArray, List.map_cons, List.map_nil]); first | done | rfl | (simp only [List.length_drop, List.length_take]; rfl)) ?_; (with_reducible refine (plan_shares.calls k2 a0_0 _ _ l0_1 a1_0 _ _ l1_1 a1_2 a1_3 a1_4 a1_5 _ _ l1_6 a1_7 a1_8 a1_9 a1_10 a1_11 a1_12 _ _ x9_2 t321 t324 _ ?side1 ?side2 ?side3 ?side4 ?side5 ?side6 ?side7 ?side8 A57.out).mono ?_); (case side1 => repeat (first | exact (Kd.C_below HR0_1.out HB.out) | (with_reducible refine Kd.C_alloc ?_ _) | (with_reducible refine Kd.C_drewN ?_ _) | (with_reducible refine Kd.C_drew ?_))); (case side2 => exact HC0_1.out); (case side3 => repeat (first | exact (Kd.C_below HR1_1.out HB.out) | (with_reducible refine Kd.C_alloc ?_ _) | (with_reducible refine Kd.C_drewN ?_ _) | (with_reducible refine Kd.C_drew ?_))); (case side4 => exact HC1_1.out); (case side5 => repeat (first | exact (Kd.C_below HR1_6.out HB.out) | (with_reducible refine Kd.C_alloc ?_ _) | (with_reducible refine Kd.C_drewN ?_ _) | (with_reducible refine Kd.C_drew ?_))); (case side6 => exact HC1_6.out); (case side7 => repeat (first | exact (Kd.R_reads' HO_9.out).2.2 | (with_reducible refine Kd.C_alloc ?_ _) | (with_reducible refine Kd.C_drewN ?_ _) | (with_reducible refine Kd.C_drew ?_))); (case side8 => exact (Kd.R_reads' HO_9.out).2.1); rintro e w66 ⟨v322, rfl, ho0, hb⟩; refine ⟨_, rfl, ?_⟩; have n0_ := Aside0.mk (Kd.R_below (by exact rq HO_6.out) hb); have n1_ := Aside0.mk (Kd.R_elder' (by exact rq HO_7.out) (Kd.R_base ho0) hb); have n2_ := Aside0.mk (Kd.R_below (by exact rq HO_9.out) hb); have n3_ := Aside0.mk (Kd.R_elder' (by exact rq HO320.out) (Kd.R_base ho0) hb); have n4_ := Aside0.mk (Kd.R_lower (Kd.R_new' (Kd.R_new' ho0 (Kd.R_lt (by exact rq HO_7.out))) (Kd.R_lt (by exact rq HO320.out))) (below_size (by exact h2q HB.out GE303.out GE304.out))); have n5_ := Aside0.mk (blk_below (g := gb303) (Up.up BK303.out) hb); have n6_ := Aside0.mk (blk_below (g := gb304) (Up.up BK304.out) hb); have n7_ := Aside0.mk (below_step (by exact h2q HB.out GE303.out GE304.out) hb); clear HO_6; clear HO_7; clear HO_9; clear HO320; clear BK303; clear BK304; clear HB; have HO_6 := n0_; have HO_7 := n1_; have HO_9 := n2_; have HO320 := n3_; have HO323 := n4_; have BK303 := n5_; have BK304 := n6_; have HB := n7_; clear n0_ n1_ n2_ n3_ n4_ n5_ n6_ n7_; (try clear hb); (try clear hb2); (try clear hk); (try clear hi); (try clear ho0)))
           go_ret3
           exact ⟨_, _, by first | rfl | (simp [errW_none, errW_some] <;> rfl) | (simp [*, errW_none, errW_some] <;> rfl), by first | exact Kd.R_nil _ _ _ _ _ | exact Kd.N_nil _ _ _ _ _ | exact Kd.V_nil _ _ _ _ _ | exact Kd.Q_nil _ _ _ _ _ | exact Kd.S_nil _ _ _ _ _, by first | exact Kd.R_nil _ _ _ _ _ | exact Kd.N_nil _ _ _ _ _ | exact Kd.V_nil _ _ _ _ _ | exact Kd.Q_nil _ _ _ _ _ | exact Kd.S_nil _ _ _ _ _, by exact h2q HB.out GE303.out GE304.out⟩
         ·rw [if_neg c56] at H
          have c56b0 : (t317 == 4) = false := beq_eq_false_iff_ne.mpr c56
          have c56b1 : (t317 != 4) = true := bne_iff_ne.mpr c56
          (first | rw [c56b0] | (simp only [i64_w, i32_w]; rw [c56b0]) | skip)
          have H' := Aside0.mk H
          clear H
          go_wp2
          go_meet
          case rel => exact ⟨_, (x6_2), (([] : List Int)), (y318), H', ⟨by have := HJ3.out; have := HK2.out; first | omega | exact Nat.le_refl _⟩, ⟨by exact rq HO_6.out⟩, ⟨by (with_reducible repeat (first | apply Kd.R_alloc | apply Kd.R_drewN | apply Kd.R_drew)); exact Kd.R_mono HO_7.out (fun _ hk => hk.2)⟩, ⟨by exact rq HO_9.out⟩, ⟨by (with_reducible repeat (first | apply Kd.R_alloc | apply Kd.R_drewN | apply Kd.R_drew)); exact Kd.R_mono HO320.out (fun _ hk => hk.2)⟩, ⟨by exact bb BK303.out⟩, ⟨by exact bb BK304.out⟩, ⟨by exact h2q HB.out GE303.out GE304.out⟩⟩
        case rest =>
         clear HC49
         try clear c8
         try clear c10
         try clear c20
         try clear c23
         try clear c23b0
         try clear c24
         try clear c24b0
         try clear c25
         try clear c25b0
         try clear c27
         try clear c28
         try clear c29
         try clear c44
         try clear c44b0 c44b1
         try clear c44b2
         try clear c47
         try clear c47b0 c47b1
         try clear c48
         try clear c48b0 c48b1
         try clear c56
         try clear c56b0 c56b1
         try clear c58
         try clear c58b0 c58b1
         try clear hcz13_0
         try clear hcz13_1
         try clear hcz14_0
         try clear hcz14_1
         try clear hcz14_10
         try clear hcz14_11
         try clear hcz14_12
         try clear hcz14_2
         try clear hcz14_3
         try clear hcz14_4
         try clear hcz14_5
         try clear hcz14_6
         try clear hcz14_7
         try clear hcz14_8
         try clear hcz14_9
         try clear hcz17_0
         try clear hcz17_1
         try clear hcz19_0
         try clear hcz19_1
         try clear hcz22_0
         try clear hcz22_1
         try clear hcz22_10
         try clear hcz22_11
         try clear hcz22_12
         try clear hcz22_2
         try clear hcz22_3
         try clear hcz22_4
         try clear hcz22_5
         try clear hcz22_6
         try clear hcz22_7
         try clear hcz22_8
         try clear hcz22_9
         try clear hcz33_0
         try clear hcz33_1
         try clear hcz33_10
         try clear hcz33_11
         try clear hcz33_12
         try clear hcz33_2
         try clear hcz33_3
         try clear hcz33_4
         try clear hcz33_5
         try clear hcz33_6
         try clear hcz33_7
         try clear hcz33_8
         try clear hcz33_9
         try clear hcz35_0
         try clear hcz35_1
         try clear hcz35_10
         try clear hcz35_11
         try clear hcz35_12
         try clear hcz35_2
         try clear hcz35_3
         try clear hcz35_4
         try clear hcz35_5
         try clear hcz35_6
         try clear hcz35_7
         try clear hcz35_8
         try clear hcz35_9
         try clear hcz37_0
         try clear hcz37_1
         try clear hcz37_10
         try clear hcz37_11
         try clear hcz37_12
         try clear hcz37_2
         try clear hcz37_3
         try clear hcz37_4
         try clear hcz37_5
         try clear hcz37_6
         try clear hcz37_7
         try clear hcz37_8
         try clear hcz37_9
         try clear hcz42_0
         try clear hcz42_1
         try clear hcz42_10
         try clear hcz42_11
         try clear hcz42_12
         try clear hcz42_2
         try clear hcz42_3
         try clear hcz42_4
         try clear hcz42_5
         try clear hcz42_6
         try clear hcz42_7
         try clear hcz42_8
         try clear hcz42_9
         try clear hcz52_0
         try clear hcz52_1
         try clear hcz52_10
         try clear hcz52_11
         try clear hcz52_12
         try clear hcz52_2
         try clear hcz52_3
         try clear hcz52_4
         try clear hcz52_5
         try clear hcz52_6
         try clear hcz52_7
         try clear hcz52_8
         try clear hcz52_9
         try clear hcz60_0
         try clear hcz60_1
         try clear hcz61_0
         try clear hcz61_1
         try clear hcz61_10
         try clear hcz61_11
         try clear hcz61_12
         try clear hcz61_2
         try clear hcz61_3
         try clear hcz61_4
         try clear hcz61_5
         try clear hcz61_6
         try clear hcz61_7
         try clear hcz61_8
         try clear hcz61_9
         try clear hcz64_0
         try clear hcz64_1
         try clear hcz65_0
         try clear hcz65_1
         try clear hcz65_10
         try clear hcz65_11
         try clear hcz65_12
         try clear hcz65_2
         try clear hcz65_3
         try clear hcz65_4
         try clear hcz65_5
         try clear hcz65_6
         try clear hcz65_7
         try clear hcz65_8
         try clear hcz65_9
         try clear hfz13_0
         try clear hfz13_1
         try clear hfz14_0
         try clear hfz14_1
         try clear hfz14_10
         try clear hfz14_11
         try clear hfz14_12
         try clear hfz14_2
         try clear hfz14_3
         try clear hfz14_4
         try clear hfz14_5
         try clear hfz14_6
         try clear hfz14_7
         try clear hfz14_8
         try clear hfz14_9
         try clear hfz17_0
         try clear hfz17_1
         try clear hfz19_0
         try clear hfz19_1
         try clear hfz22_0
         try clear hfz22_1
         try clear hfz22_10
         try clear hfz22_11
         try clear hfz22_12
         try clear hfz22_2
         try clear hfz22_3
         try clear hfz22_4
         try clear hfz22_5
         try clear hfz22_6
         try clear hfz22_7
         try clear hfz22_8
         try clear hfz22_9
         try clear hfz33_0
         try clear hfz33_1
         try clear hfz33_10
         try clear hfz33_11
         try clear hfz33_12
         try clear hfz33_2
         try clear hfz33_3
         try clear hfz33_4
         try clear hfz33_5
         try clear hfz33_6
         try clear hfz33_7
         try clear hfz33_8
         try clear hfz33_9
         try clear hfz35_0
         try clear hfz35_1
         try clear hfz35_10
         try clear hfz35_11
         try clear hfz35_12
         try clear hfz35_2
         try clear hfz35_3
         try clear hfz35_4
         try clear hfz35_5
         try clear hfz35_6
         try clear hfz35_7
         try clear hfz35_8
         try clear hfz35_9
         try clear hfz37_0
         try clear hfz37_1
         try clear hfz37_10
         try clear hfz37_11
         try clear hfz37_12
         try clear hfz37_2
         try clear hfz37_3
         try clear hfz37_4
         try clear hfz37_5
         try clear hfz37_6
         try clear hfz37_7
         try clear hfz37_8
         try clear hfz37_9
         try clear hfz42_0
         try clear hfz42_1
         try clear hfz42_10
         try clear hfz42_11
         try clear hfz42_12
         try clear hfz42_2
         try clear hfz42_3
         try clear hfz42_4
         try clear hfz42_5
         try clear hfz42_6
         try clear hfz42_7
         try clear hfz42_8
         try clear hfz42_9
         try clear hfz52_0
         try clear hfz52_1
         try clear hfz52_10
         try clear hfz52_11
         try clear hfz52_12
         try clear hfz52_2
         try clear hfz52_3
         try clear hfz52_4
         try clear hfz52_5
         try clear hfz52_6
         try clear hfz52_7
         try clear hfz52_8
         try clear hfz52_9
         try clear hfz60_0
         try clear hfz60_1
         try clear hfz61_0
         try clear hfz61_1
         try clear hfz61_10
         try clear hfz61_11
         try clear hfz61_12
         try clear hfz61_2
         try clear hfz61_3
         try clear hfz61_4
         try clear hfz61_5
         try clear hfz61_6
         try clear hfz61_7
         try clear hfz61_8
         try clear hfz61_9
         try clear hfz64_0
         try clear hfz64_1
         try clear hfz65_0
         try clear hfz65_1
         try clear hfz65_10
         try clear hfz65_11
         try clear hfz65_12
         try clear hfz65_2
         try clear hfz65_3
         try clear hfz65_4
         try clear hfz65_5
         try clear hfz65_6
         try clear hfz65_7
         try clear hfz65_8
         try clear hfz65_9
         try clear hx308_0 hx308_1 hx308_10 hx308_11 hx308_12 hx308_2 hx308_3 hx308_4 hx308_5 hx308_6 hx308_7 hx308_8 hx308_9
         try clear p308 q308
         obtain ⟨kq, x6_48, x7_48, x13_48, HA, HJ48, HO_6, HO_7, HO_9, HO_13, BK303, BK304, HB⟩ := hcut
         rcases kq with _ | kj48
         ·exact absurd HA.out (by simp [plan_Asks.j2])
         have H := HA.out
         clear HA
         simp only [plan_Asks.j2] at H
         have H' := Aside0.mk H
         clear H
         go_wp2
         go_loopg [6, 7, 74] kj48 (fun kq v6 v7 v74 w' => ∃ (x6_4 : List Int) (x7_4 : List Int) (x74_4 : Int), v74 = .int .i64 x74_4 ∧ Aside0 (plan_Asks.l1 kq a2 x6_4 x7_4 t317 x13_48 x9_2 (x9_2.length : Int) x74_4 = some (r1, r2, r3)) ∧ Aside0 (kq ≤ kj48) ∧ Aside0 (Kd.R (Kd.int .i64) 3 w' w.heap.size (fun _ => True) v6 x6_4) ∧ Aside0 (Kd.R (Kd.int .i64) 2 w' w.heap.size (fun k_ => some k_ ≠ (u13 : Value).ownBlock) v7 x7_4) ∧ Aside0 (Kd.R (Kd.int .i64) 2 w' w.heap.size (fun k_ => some k_ ≠ (v7 : Value).ownBlock) u13 x13_48) ∧ Aside0 (Kd.R k23 23 w' w.heap.size (fun _ => True) (.slice Ao50 x9_2.length co50) x9_2) ∧ Aside0 (w'.heap[gb303]? = some (.cells #[.int .i64 a0_0, (.slice A0_1 l0_1.length c0_1)] 51 (0, 0))) ∧ Aside0 (w'.heap[gb304]? = some (.cells #[.int .i64 a1_0, (.slice A1_1 l1_1.length c1_1), .int .i64 a1_2, .int .i64 a1_3, .int .i64 a1_4, .int .i64 a1_5, (.slice A1_6 l1_6.length c1_6), .int .i64 a1_7, .int .i64 a1_8, .int .i64 a1_9, .int .i64 a1_10, .int .i64 a1_11, .int .i64 a1_12] 38 (0, 0))) ∧ Aside0 (Below w.heap.size w w'))
         case atStart => exact ⟨(x6_48), (x7_48), (0), (by first | rfl | (simp; done) | (simp [*]; done)), H', ⟨Nat.le_refl _⟩, ⟨by exact rq HO_6.out⟩, ⟨by exact rq HO_7.out⟩, ⟨by exact rq HO_13.out⟩, ⟨by exact rq HO_9.out⟩, ⟨by exact bb BK303.out⟩, ⟨by exact bb BK304.out⟩, ⟨by exact h2q HB.out GE303.out GE304.out⟩⟩
         case round =>
          clear H'
          try clear c8
          try clear c10
          try clear c20
          try clear c23
          try clear c23b0
          try clear c24
          try clear c24b0
          try clear c25
          try clear c25b0
          try clear c27
          try clear c28
          try clear c29
          try clear c44
          try clear c44b0 c44b1
          try clear c44b2
          try clear c47
          try clear c47b0 c47b1
          try clear c48
          try clear c48b0 c48b1
          try clear c56
          try clear c56b0 c56b1
          try clear c58
          try clear c58b0 c58b1
          try clear hcz13_0
          try clear hcz13_1
          try clear hcz14_0
          try clear hcz14_1
          try clear hcz14_10
          try clear hcz14_11
          try clear hcz14_12
          try clear hcz14_2
          try clear hcz14_3
          try clear hcz14_4
          try clear hcz14_5
          try clear hcz14_6
          try clear hcz14_7
          try clear hcz14_8
          try clear hcz14_9
          try clear hcz17_0
          try clear hcz17_1
          try clear hcz19_0
          try clear hcz19_1
          try clear hcz22_0
          try clear hcz22_1
          try clear hcz22_10
          try clear hcz22_11
          try clear hcz22_12
          try clear hcz22_2
          try clear hcz22_3
          try clear hcz22_4
          try clear hcz22_5
          try clear hcz22_6
          try clear hcz22_7
          try clear hcz22_8
          try clear hcz22_9
          try clear hcz33_0
          try clear hcz33_1
          try clear hcz33_10
          try clear hcz33_11
          try clear hcz33_12
          try clear hcz33_2
          try clear hcz33_3
          try clear hcz33_4
          try clear hcz33_5
          try clear hcz33_6
          try clear hcz33_7
          try clear hcz33_8
          try clear hcz33_9
          try clear hcz35_0
          try clear hcz35_1
          try clear hcz35_10
          try clear hcz35_11
          try clear hcz35_12
          try clear hcz35_2
          try clear hcz35_3
          try clear hcz35_4
          try clear hcz35_5
          try clear hcz35_6
          try clear hcz35_7
          try clear hcz35_8
          try clear hcz35_9
          try clear hcz37_0
          try clear hcz37_1
          try clear hcz37_10
          try clear hcz37_11
          try clear hcz37_12
          try clear hcz37_2
          try clear hcz37_3
          try clear hcz37_4
          try clear hcz37_5
          try clear hcz37_6
          try clear hcz37_7
          try clear hcz37_8
          try clear hcz37_9
          try clear hcz42_0
          try clear hcz42_1
          try clear hcz42_10
          try clear hcz42_11
          try clear hcz42_12
          try clear hcz42_2
          try clear hcz42_3
          try clear hcz42_4
          try clear hcz42_5
          try clear hcz42_6
          try clear hcz42_7
          try clear hcz42_8
          try clear hcz42_9
          try clear hcz52_0
          try clear hcz52_1
          try clear hcz52_10
          try clear hcz52_11
          try clear hcz52_12
          try clear hcz52_2
          try clear hcz52_3
          try clear hcz52_4
          try clear hcz52_5
          try clear hcz52_6
          try clear hcz52_7
          try clear hcz52_8
          try clear hcz52_9
          try clear hcz60_0
          try clear hcz60_1
          try clear hcz61_0
          try clear hcz61_1
          try clear hcz61_10
          try clear hcz61_11
          try clear hcz61_12
          try clear hcz61_2
          try clear hcz61_3
          try clear hcz61_4
          try clear hcz61_5
          try clear hcz61_6
          try clear hcz61_7
          try clear hcz61_8
          try clear hcz61_9
          try clear hcz64_0
          try clear hcz64_1
          try clear hcz65_0
          try clear hcz65_1
          try clear hcz65_10
          try clear hcz65_11
          try clear hcz65_12
          try clear hcz65_2
          try clear hcz65_3
          try clear hcz65_4
          try clear hcz65_5
          try clear hcz65_6
          try clear hcz65_7
          try clear hcz65_8
          try clear hcz65_9
          try clear hfz13_0
          try clear hfz13_1
          try clear hfz14_0
          try clear hfz14_1
          try clear hfz14_10
          try clear hfz14_11
          try clear hfz14_12
          try clear hfz14_2
          try clear hfz14_3
          try clear hfz14_4
          try clear hfz14_5
          try clear hfz14_6
          try clear hfz14_7
          try clear hfz14_8
          try clear hfz14_9
          try clear hfz17_0
          try clear hfz17_1
          try clear hfz19_0
          try clear hfz19_1
          try clear hfz22_0
          try clear hfz22_1
          try clear hfz22_10
          try clear hfz22_11
          try clear hfz22_12
          try clear hfz22_2
          try clear hfz22_3
          try clear hfz22_4
          try clear hfz22_5
          try clear hfz22_6
          try clear hfz22_7
          try clear hfz22_8
          try clear hfz22_9
          try clear hfz33_0
          try clear hfz33_1
          try clear hfz33_10
          try clear hfz33_11
          try clear hfz33_12
          try clear hfz33_2
          try clear hfz33_3
          try clear hfz33_4
          try clear hfz33_5
          try clear hfz33_6
          try clear hfz33_7
          try clear hfz33_8
          try clear hfz33_9
          try clear hfz35_0
          try clear hfz35_1
          try clear hfz35_10
          try clear hfz35_11
          try clear hfz35_12
          try clear hfz35_2
          try clear hfz35_3
          try clear hfz35_4
          try clear hfz35_5
          try clear hfz35_6
          try clear hfz35_7
          try clear hfz35_8
          try clear hfz35_9
          try clear hfz37_0
          try clear hfz37_1
          try clear hfz37_10
          try clear hfz37_11
          try clear hfz37_12
          try clear hfz37_2
          try clear hfz37_3
          try clear hfz37_4
          try clear hfz37_5
          try clear hfz37_6
          try clear hfz37_7
          try clear hfz37_8
          try clear hfz37_9
          try clear hfz42_0
          try clear hfz42_1
          try clear hfz42_10
          try clear hfz42_11
          try clear hfz42_12
          try clear hfz42_2
          try clear hfz42_3
          try clear hfz42_4
          try clear hfz42_5
          try clear hfz42_6
          try clear hfz42_7
          try clear hfz42_8
          try clear hfz42_9
          try clear hfz52_0
          try clear hfz52_1
          try clear hfz52_10
          try clear hfz52_11
          try clear hfz52_12
          try clear hfz52_2
          try clear hfz52_3
          try clear hfz52_4
          try clear hfz52_5
          try clear hfz52_6
          try clear hfz52_7
          try clear hfz52_8
          try clear hfz52_9
          try clear hfz60_0
          try clear hfz60_1
          try clear hfz61_0
          try clear hfz61_1
          try clear hfz61_10
          try clear hfz61_11
          try clear hfz61_12
          try clear hfz61_2
          try clear hfz61_3
          try clear hfz61_4
          try clear hfz61_5
          try clear hfz61_6
          try clear hfz61_7
          try clear hfz61_8
          try clear hfz61_9
          try clear hfz64_0
          try clear hfz64_1
          try clear hfz65_0
          try clear hfz65_1
          try clear hfz65_10
          try clear hfz65_11
          try clear hfz65_12
          try clear hfz65_2
          try clear hfz65_3
          try clear hfz65_4
          try clear hfz65_5
          try clear hfz65_6
          try clear hfz65_7
          try clear hfz65_8
          try clear hfz65_9
          try clear hx308_0 hx308_1 hx308_10 hx308_11 hx308_12 hx308_2 hx308_3 hx308_4 hx308_5 hx308_6 hx308_7 hx308_8 hx308_9
          try clear p308 q308
          obtain ⟨x6_4, x7_4, x74_4, rfl, HA, HK4, HO_6, HO_7, HO_13, HO_72, BK303, BK304, HB⟩ := hrel
          rcases gk with _ | k4
          ·exact absurd HA.out (by simp [plan_Asks.l1])
          have H := HA.out
          clear HA
          simp only [plan_Asks.l1] at H
          by_cases c67 : x74_4 < (x9_2.length : Int)
          ·rw [if_pos c67] at H
           have c67b0 : decide (x74_4 < (x9_2.length : Int)) = true := decide_eq_true c67
           clear c67
           by_cases c68 : 0 ≤ x74_4
           ·rw [if_pos c68] at H
            have c68b0 : decide (0 ≤ x74_4) = true := decide_eq_true c68
            clear c68
            by_cases c69 : x74_4 < (x9_2.length : Int)
            ·rw [if_pos c69] at H
             have c69b0 : decide (x74_4 < (x9_2.length : Int)) = true := decide_eq_true c69
             clear c69
             by_cases c70 : x74_4 < (x13_48.length : Int)
             ·rw [if_pos c70] at H
              have c70b0 : decide (x74_4 < (x13_48.length : Int)) = true := decide_eq_true c70
              clear c70
              by_cases c71 : t317 = 4
              ·rw [if_pos c71] at H
               have c71b0 : (t317 == 4) = true := beq_iff_eq.mpr c71
               have c71b1 : (t317 != 4) = false := bne_eq_false_iff_eq.mpr c71
               clear c71
               replace H := Option.bind_eq_some_iff.mp H
               obtain ⟨⟨t328, t329⟩, A720, H⟩ := H
               replace H : (if t329 = 0 then (if x7_4.length < 17592186044416 then (plan_Asks.l1 k4 a2 x6_4 (x7_4 ++ [t328]) t317 x13_48 x9_2 (x9_2.length : Int) (wrap64 (x74_4 + 1))) else (none)) else (some (([] : List Int), ([] : List Int), t329))) = some (r1, r2, r3) := H
               have A72 := Aside0.mk A720
               clear A720
               by_cases c73 : t329 = 0
               ·rw [if_pos c73] at H
                have c73b0 : (t329 == 0) = true := beq_iff_eq.mpr c73
                have c73b1 : (t329 != 0) = false := bne_eq_false_iff_eq.mpr c73
                clear c73
                by_cases c74 : x7_4.length < 17592186044416
                ·rw [if_pos c74] at H
                 have LMc74 := Aside0.mk c74
                 clear c74
                 obtain ⟨y330, hy330⟩ : ∃ y_ : List Int, y_ = (x7_4 ++ [t328]) := ⟨_, rfl⟩
                 replace H : (plan_Asks.l1 k4 a2 x6_4 y330 t317 x13_48 x9_2 (x9_2.length : Int) (wrap64 (x74_4 + 1))) = some (r1, r2, r3) := by first | (rw [hy330]; with_reducible exact H) | (have H2_ := (Option.bind_some _ _).symm.trans H; rw [hy330]; with_reducible exact H2_) | (have H2_ := (Option.bind_some _ _).symm.trans H; with_reducible exact H2_) | with_reducible exact H | (rw [hy330]; exact H) | exact H
                 have Ny330 := Aside0.mk hy330
                 clear hy330
                 have H' := Aside0.mk H
                 clear H
                 have p325 : 0 ≤ (x74_4 : Int) := yd
                 have q325 : x74_4 < (x9_2.length : Int) := yd
                 obtain ⟨ad325, e325, hx325_0, hx325_1, hx325_2, hx325_3, hx325_4, hx325_5, hx325_6, hx325_7, hx325_8, hx325_9, hx325_10, hx325_11, hx325_12⟩ := at_T23 (Kd.R_reads' HO_72.out).2.2 x74_4 p325 q325
                 cases e325
                 replace p325 := eq_true p325
                 replace q325 := eq_true q325
                 go_wp2_with (first | ((with_reducible refine gate_dst (N := 15) rfl ?_); refine box_event ?hg (N := 15) ?hd (cs := #[.int .i64 0, .int .i64 0, .int .i64 0, .int .i64 0, .int .i64 0, .int .i64 0, .bool false, .int .i64 0, .int .i64 0, .int .i64 0, .int .i64 0, .int .i64 0, .int .i64 0]) (t := 23) ?hr ?_; (case hd => rfl); (case hg => rfl); (case hr => first | (go_simp; done) | (go_simp; rfl)); intro gb326 hg w75 hbox hb; have n0_ := Aside0.mk (Kd.R_below (by exact rq HO_6.out) hb); have n1_ := Aside0.mk (Kd.R_below (by exact rq HO_7.out) hb); have n2_ := Aside0.mk (Kd.R_below (by exact rq HO_13.out) hb); have n3_ := Aside0.mk (Kd.R_below (Kd.R_elderB (by exact rq HO_72.out) gb326 (Nat.le_of_eq hg.symm)) hb); have n4_ := Aside0.mk (blk_below (g := gb303) (Up.up BK303.out) hb); have n5_ := Aside0.mk (blk_below (g := gb304) (Up.up BK304.out) hb); have n6_ := Aside0.mk (below_step (by exact h2q HB.out GE303.out GE304.out) hb); have n7_ := Aside0.mk (hbox); have n8_ := Aside0.mk ((by rw [hg]; exact (below_size (by exact h2q HB.out GE303.out GE304.out)) : w.heap.size ≤ gb326)); have n9_ := Aside0.mk ((by rw [hg]; exact (below_size (by exact h2q HB.out GE303.out GE304.out)) : w.heap.size ≤ gb326)); have n10_ := Aside0.mk ((by rw [hg]; exact Nat.ne_of_lt (blk_lt (g := gb303) (Up.up BK303.out)) : gb303 ≠ gb326)); have n11_ := Aside0.mk ((by rw [hg]; exact Nat.ne_of_gt (blk_lt (g := gb303) (Up.up BK303.out)) : gb326 ≠ gb303)); have n12_ := Aside0.mk ((by rw [hg]; exact Nat.ne_of_lt (blk_lt (g := gb304) (Up.up BK304.out)) : gb304 ≠ gb326)); have n13_ := Aside0.mk ((by rw [hg]; exact Nat.ne_of_gt (blk_lt (g := gb304) (Up.up BK304.out)) : gb326 ≠ gb304)); clear HO_6; clear HO_7; clear HO_13; clear HO_72; clear BK303; clear BK304; clear HB; have HO_6 := n0_; have HO_7 := n1_; have HO_13 := n2_; have HO_72 := n3_; have BK303 := n4_; have BK304 := n5_; have HB := n6_; have BK326 := n7_; have GW326 := n8_; have GE326 := n9_; have NB303_326 := n10_; have NB326_303 := n11_; have NB304_326 := n12_; have NB326_304 := n13_; clear n0_ n1_ n2_ n3_ n4_ n5_ n6_ n7_ n8_ n9_ n10_ n11_ n12_ n13_; clear hb hbox hg; have hnb76 := NB326_303.out; have hnc76 := NB303_326.out; have hnb77 := NB326_304.out; have hnc77 := NB304_326.out; obtain ⟨hcz78_0, hcz78_1, hcz78_2, hcz78_3, hcz78_4, hcz78_5, hcz78_6, hcz78_7, hcz78_8, hcz78_9, hcz78_10, hcz78_11, hcz78_12, hfz78_0, hfz78_1, hfz78_2, hfz78_3, hfz78_4, hfz78_5, hfz78_6, hfz78_7, hfz78_8, hfz78_9, hfz78_10, hfz78_11, hfz78_12⟩ := lc13 BK326.out; obtain ⟨Ao79, co79, eo79⟩ := Kd.R_slice HO_13.out; subst eo79; have p327 : 0 ≤ (x74_4 : Int) := yd; have q327 : x74_4 < (x13_48.length : Int) := yd; obtain ⟨ad327, e327, hx327_0⟩ := Kd.at_int (Kd.R_reads' HO_13.out).2.2 x74_4 p327 q327; cases e327; have hn327_0 : ad327.block ≠ gb326 := Kd.own_blk (Kd.R_ne HO_13.out BK326.out (by decide)); have hn327_1 : ad327.block ≠ gb326 := Kd.own_blk (Kd.R_ne HO_13.out BK326.out (by decide)); have hn327_2 : ad327.block ≠ gb326 := Kd.own_blk (Kd.R_ne HO_13.out BK326.out (by decide)); have hn327_3 : ad327.block ≠ gb326 := Kd.own_blk (Kd.R_ne HO_13.out BK326.out (by decide)); have hn327_4 : ad327.block ≠ gb326 := Kd.own_blk (Kd.R_ne HO_13.out BK326.out (by decide)); have hn327_5 : ad327.block ≠ gb326 := Kd.own_blk (Kd.R_ne HO_13.out BK326.out (by decide)); have hn327_6 : ad327.block ≠ gb326 := Kd.own_blk (Kd.R_ne HO_13.out BK326.out (by decide)); have hn327_7 : ad327.block ≠ gb326 := Kd.own_blk (Kd.R_ne HO_13.out BK326.out (by decide)); have hn327_8 : ad327.block ≠ gb326 := Kd.own_blk (Kd.R_ne HO_13.out BK326.out (by decide)); have hn327_9 : ad327.block ≠ gb326 := Kd.own_blk (Kd.R_ne HO_13.out BK326.out (by decide)); have hn327_10 : ad327.block ≠ gb326 := Kd.own_blk (Kd.R_ne HO_13.out BK326.out (by decide)); have hn327_11 : ad327.block ≠ gb326 := Kd.own_blk (Kd.R_ne HO_13.out BK326.out (by decide)); have hn327_12 : ad327.block ≠ gb326 := Kd.own_blk (Kd.R_ne HO_13.out BK326.out (by decide)); replace hx327_0 := (cell_far (p := ⟨gb326, 0, none⟩) (by first | (rw [add_block]; exact hn327_0) | (show (Addr.add _ _).block ≠ _; rw [add_block]; exact hn327_0) | exact hn327_0) (.int .i64 ((rd_T23 x9_2 x74_4).f0))).trans hx327_0; replace hx327_0 := (cell_far (p := ⟨gb326, 1, none⟩) (by first | (rw [add_block]; exact hn327_1) | (show (Addr.add _ _).block ≠ _; rw [add_block]; exact hn327_1) | exact hn327_1) (.int .i64 ((rd_T23 x9_2 x74_4).f1))).trans hx327_0; replace hx327_0 := (cell_far (p := ⟨gb326, 2, none⟩) (by first | (rw [add_block]; exact hn327_2) | (show (Addr.add _ _).block ≠ _; rw [add_block]; exact hn327_2) | exact hn327_2) (.int .i64 ((rd_T23 x9_2 x74_4).f2))).trans hx327_0; replace hx327_0 := (cell_far (p := ⟨gb326, 3, none⟩) (by first | (rw [add_block]; exact hn327_3) | (show (Addr.add _ _).block ≠ _; rw [add_block]; exact hn327_3) | exact hn327_3) (.int .i64 ((rd_T23 x9_2 x74_4).f3))).trans hx327_0; replace hx327_0 := (cell_far (p := ⟨gb326, 4, none⟩) (by first | (rw [add_block]; exact hn327_4) | (show (Addr.add _ _).block ≠ _; rw [add_block]; exact hn327_4) | exact hn327_4) (.int .i64 ((rd_T23 x9_2 x74_4).f4))).trans hx327_0; replace hx327_0 := (cell_far (p := ⟨gb326, 5, none⟩) (by first | (rw [add_block]; exact hn327_5) | (show (Addr.add _ _).block ≠ _; rw [add_block]; exact hn327_5) | exact hn327_5) (.int .i64 ((rd_T23 x9_2 x74_4).f5))).trans hx327_0; replace hx327_0 := (cell_far (p := ⟨gb326, 6, none⟩) (by first | (rw [add_block]; exact hn327_6) | (show (Addr.add _ _).block ≠ _; rw [add_block]; exact hn327_6) | exact hn327_6) (.bool ((rd_T23 x9_2 x74_4).f6))).trans hx327_0; replace hx327_0 := (cell_far (p := ⟨gb326, 7, none⟩) (by first | (rw [add_block]; exact hn327_7) | (show (Addr.add _ _).block ≠ _; rw [add_block]; exact hn327_7) | exact hn327_7) (.int .i64 ((rd_T23 x9_2 x74_4).f7))).trans hx327_0; replace hx327_0 := (cell_far (p := ⟨gb326, 8, none⟩) (by first | (rw [add_block]; exact hn327_8) | (show (Addr.add _ _).block ≠ _; rw [add_block]; exact hn327_8) | exact hn327_8) (.int .i64 ((rd_T23 x9_2 x74_4).f8))).trans hx327_0; replace hx327_0 := (cell_far (p := ⟨gb326, 9, none⟩) (by first | (rw [add_block]; exact hn327_9) | (show (Addr.add _ _).block ≠ _; rw [add_block]; exact hn327_9) | exact hn327_9) (.int .i64 ((rd_T23 x9_2 x74_4).f9))).trans hx327_0; replace hx327_0 := (cell_far (p := ⟨gb326, 10, none⟩) (by first | (rw [add_block]; exact hn327_10) | (show (Addr.add _ _).block ≠ _; rw [add_block]; exact hn327_10) | exact hn327_10) (.int .i64 ((rd_T23 x9_2 x74_4).f10))).trans hx327_0; replace hx327_0 := (cell_far (p := ⟨gb326, 11, none⟩) (by first | (rw [add_block]; exact hn327_11) | (show (Addr.add _ _).block ≠ _; rw [add_block]; exact hn327_11) | exact hn327_11) (.int .i64 ((rd_T23 x9_2 x74_4).f11))).trans hx327_0; replace hx327_0 := (cell_far (p := ⟨gb326, 12, none⟩) (by first | (rw [add_block]; exact hn327_12) | (show (Addr.add _ _).block ≠ _; rw [add_block]; exact hn327_12) | exact hn327_12) (.int .i64 ((rd_T23 x9_2 x74_4).f12))).trans hx327_0; clear hn327_0; clear hn327_1; clear hn327_2; clear hn327_3; clear hn327_4; clear hn327_5; clear hn327_6; clear hn327_7; clear hn327_8; clear hn327_9; clear hn327_10; clear hn327_11; clear hn327_12; replace p327 := eq_true p327; replace q327 := eq_true q327) | ((with_reducible refine gate_callee (f := 32) rfl ?_); refine goesL_ (some 88) rfl rfl Try.func32 (by kernel_rfl) rfl #[.agg #[.int .i64 ((rd_T23 x9_2 x74_4).f0), .int .i64 ((rd_T23 x9_2 x74_4).f1), .int .i64 ((rd_T23 x9_2 x74_4).f2), .int .i64 ((rd_T23 x9_2 x74_4).f3), .int .i64 ((rd_T23 x9_2 x74_4).f4), .int .i64 ((rd_T23 x9_2 x74_4).f5), .bool ((rd_T23 x9_2 x74_4).f6), .int .i64 ((rd_T23 x9_2 x74_4).f7), .int .i64 ((rd_T23 x9_2 x74_4).f8), .int .i64 ((rd_T23 x9_2 x74_4).f9), .int .i64 ((rd_T23 x9_2 x74_4).f10), .int .i64 ((rd_T23 x9_2 x74_4).f11), .int .i64 ((rd_T23 x9_2 x74_4).f12)], .int .i64 (rd x13_48 x74_4)] rfl (by (try simp only [List.map_toArray, List.map_cons, List.map_nil]); first | done | rfl | (simp only [List.length_drop, List.length_take]; rfl)) ?_; (with_reducible refine (plan_capped.calls k4 ((rd_T23 x9_2 x74_4).f0) ((rd_T23 x9_2 x74_4).f1) ((rd_T23 x9_2 x74_4).f2) ((rd_T23 x9_2 x74_4).f3) ((rd_T23 x9_2 x74_4).f4) ((rd_T23 x9_2 x74_4).f5) ((rd_T23 x9_2 x74_4).f6) ((rd_T23 x9_2 x74_4).f7) ((rd_T23 x9_2 x74_4).f8) ((rd_T23 x9_2 x74_4).f9) ((rd_T23 x9_2 x74_4).f10) ((rd_T23 x9_2 x74_4).f11) ((rd_T23 x9_2 x74_4).f12) (rd x13_48 x74_4) t328 t329 _ A72.out).mono ?_); rintro e w80 ⟨rfl, hb⟩; refine ⟨_, rfl, ?_⟩; have n0_ := Aside0.mk (Kd.R_below (by (with_reducible repeat (first | apply Kd.R_alloc | apply Kd.R_drewN | apply Kd.R_drew)); exact (Kd.R_mono (Kd.R_far (p := ⟨gb326, 12, none⟩) (Kd.R_far (p := ⟨gb326, 11, none⟩) (Kd.R_far (p := ⟨gb326, 10, none⟩) (Kd.R_far (p := ⟨gb326, 9, none⟩) (Kd.R_far (p := ⟨gb326, 8, none⟩) (Kd.R_far (p := ⟨gb326, 7, none⟩) (Kd.R_far (p := ⟨gb326, 6, none⟩) (Kd.R_far (p := ⟨gb326, 5, none⟩) (Kd.R_far (p := ⟨gb326, 4, none⟩) (Kd.R_far (p := ⟨gb326, 3, none⟩) (Kd.R_far (p := ⟨gb326, 2, none⟩) (Kd.R_far (p := ⟨gb326, 1, none⟩) (Kd.R_far (p := ⟨gb326, 0, none⟩) (Kd.R_types HO_6.out BK326.out (by decide)) (fun _ hk => hk.2) (.int .i64 ((rd_T23 x9_2 x74_4).f0))) (fun _ hk => hk.2) (.int .i64 ((rd_T23 x9_2 x74_4).f1))) (fun _ hk => hk.2) (.int .i64 ((rd_T23 x9_2 x74_4).f2))) (fun _ hk => hk.2) (.int .i64 ((rd_T23 x9_2 x74_4).f3))) (fun _ hk => hk.2) (.int .i64 ((rd_T23 x9_2 x74_4).f4))) (fun _ hk => hk.2) (.int .i64 ((rd_T23 x9_2 x74_4).f5))) (fun _ hk => hk.2) (.bool ((rd_T23 x9_2 x74_4).f6))) (fun _ hk => hk.2) (.int .i64 ((rd_T23 x9_2 x74_4).f7))) (fun _ hk => hk.2) (.int .i64 ((rd_T23 x9_2 x74_4).f8))) (fun _ hk => hk.2) (.int .i64 ((rd_T23 x9_2 x74_4).f9))) (fun _ hk => hk.2) (.int .i64 ((rd_T23 x9_2 x74_4).f10))) (fun _ hk => hk.2) (.int .i64 ((rd_T23 x9_2 x74_4).f11))) (fun _ hk => hk.2) (.int .i64 ((rd_T23 x9_2 x74_4).f12))) (fun _ h_ => h_.1))) hb); have n1_ := Aside0.mk (Kd.R_below (by (with_reducible repeat (first | apply Kd.R_alloc | apply Kd.R_drewN | apply Kd.R_drew)); exact (Kd.R_mono (Kd.R_far (p := ⟨gb326, 12, none⟩) (Kd.R_far (p := ⟨gb326, 11, none⟩) (Kd.R_far (p := ⟨gb326, 10, none⟩) (Kd.R_far (p := ⟨gb326, 9, none⟩) (Kd.R_far (p := ⟨gb326, 8, none⟩) (Kd.R_far (p := ⟨gb326, 7, none⟩) (Kd.R_far (p := ⟨gb326, 6, none⟩) (Kd.R_far (p := ⟨gb326, 5, none⟩) (Kd.R_far (p := ⟨gb326, 4, none⟩) (Kd.R_far (p := ⟨gb326, 3, none⟩) (Kd.R_far (p := ⟨gb326, 2, none⟩) (Kd.R_far (p := ⟨gb326, 1, none⟩) (Kd.R_far (p := ⟨gb326, 0, none⟩) (Kd.R_types HO_7.out BK326.out (by decide)) (fun _ hk => hk.2) (.int .i64 ((rd_T23 x9_2 x74_4).f0))) (fun _ hk => hk.2) (.int .i64 ((rd_T23 x9_2 x74_4).f1))) (fun _ hk => hk.2) (.int .i64 ((rd_T23 x9_2 x74_4).f2))) (fun _ hk => hk.2) (.int .i64 ((rd_T23 x9_2 x74_4).f3))) (fun _ hk => hk.2) (.int .i64 ((rd_T23 x9_2 x74_4).f4))) (fun _ hk => hk.2) (.int .i64 ((rd_T23 x9_2 x74_4).f5))) (fun _ hk => hk.2) (.bool ((rd_T23 x9_2 x74_4).f6))) (fun _ hk => hk.2) (.int .i64 ((rd_T23 x9_2 x74_4).f7))) (fun _ hk => hk.2) (.int .i64 ((rd_T23 x9_2 x74_4).f8))) (fun _ hk => hk.2) (.int .i64 ((rd_T23 x9_2 x74_4).f9))) (fun _ hk => hk.2) (.int .i64 ((rd_T23 x9_2 x74_4).f10))) (fun _ hk => hk.2) (.int .i64 ((rd_T23 x9_2 x74_4).f11))) (fun _ hk => hk.2) (.int .i64 ((rd_T23 x9_2 x74_4).f12))) (fun _ h_ => h_.1))) hb); have n2_ := Aside0.mk (Kd.R_below (by (with_reducible repeat (first | apply Kd.R_alloc | apply Kd.R_drewN | apply Kd.R_drew)); exact (Kd.R_mono (Kd.R_far (p := ⟨gb326, 12, none⟩) (Kd.R_far (p := ⟨gb326, 11, none⟩) (Kd.R_far (p := ⟨gb326, 10, none⟩) (Kd.R_far (p := ⟨gb326, 9, none⟩) (Kd.R_far (p := ⟨gb326, 8, none⟩) (Kd.R_far (p := ⟨gb326, 7, none⟩) (Kd.R_far (p := ⟨gb326, 6, none⟩) (Kd.R_far (p := ⟨gb326, 5, none⟩) (Kd.R_far (p := ⟨gb326, 4, none⟩) (Kd.R_far (p := ⟨gb326, 3, none⟩) (Kd.R_far (p := ⟨gb326, 2, none⟩) (Kd.R_far (p := ⟨gb326, 1, none⟩) (Kd.R_far (p := ⟨gb326, 0, none⟩) (Kd.R_types HO_13.out BK326.out (by decide)) (fun _ hk => hk.2) (.int .i64 ((rd_T23 x9_2 x74_4).f0))) (fun _ hk => hk.2) (.int .i64 ((rd_T23 x9_2 x74_4).f1))) (fun _ hk => hk.2) (.int .i64 ((rd_T23 x9_2 x74_4).f2))) (fun _ hk => hk.2) (.int .i64 ((rd_T23 x9_2 x74_4).f3))) (fun _ hk => hk.2) (.int .i64 ((rd_T23 x9_2 x74_4).f4))) (fun _ hk => hk.2) (.int .i64 ((rd_T23 x9_2 x74_4).f5))) (fun _ hk => hk.2) (.bool ((rd_T23 x9_2 x74_4).f6))) (fun _ hk => hk.2) (.int .i64 ((rd_T23 x9_2 x74_4).f7))) (fun _ hk => hk.2) (.int .i64 ((rd_T23 x9_2 x74_4).f8))) (fun _ hk => hk.2) (.int .i64 ((rd_T23 x9_2 x74_4).f9))) (fun _ hk => hk.2) (.int .i64 ((rd_T23 x9_2 x74_4).f10))) (fun _ hk => hk.2) (.int .i64 ((rd_T23 x9_2 x74_4).f11))) (fun _ hk => hk.2) (.int .i64 ((rd_T23 x9_2 x74_4).f12))) (fun _ h_ => h_.1))) hb); have n3_ := Aside0.mk (Kd.R_below (by (with_reducible repeat (first | apply Kd.R_alloc | apply Kd.R_drewN | apply Kd.R_drew)); exact (Kd.R_mono (Kd.R_far (p := ⟨gb326, 12, none⟩) (Kd.R_far (p := ⟨gb326, 11, none⟩) (Kd.R_far (p := ⟨gb326, 10, none⟩) (Kd.R_far (p := ⟨gb326, 9, none⟩) (Kd.R_far (p := ⟨gb326, 8, none⟩) (Kd.R_far (p := ⟨gb326, 7, none⟩) (Kd.R_far (p := ⟨gb326, 6, none⟩) (Kd.R_far (p := ⟨gb326, 5, none⟩) (Kd.R_far (p := ⟨gb326, 4, none⟩) (Kd.R_far (p := ⟨gb326, 3, none⟩) (Kd.R_far (p := ⟨gb326, 2, none⟩) (Kd.R_far (p := ⟨gb326, 1, none⟩) (Kd.R_far (p := ⟨gb326, 0, none⟩) (Kd.R_mono HO_72.out (fun k_ hk => (⟨hk, hk.2⟩ : _ ∧ k_ ≠ gb326))) (fun _ hk => hk.2) (.int .i64 ((rd_T23 x9_2 x74_4).f0))) (fun _ hk => hk.2) (.int .i64 ((rd_T23 x9_2 x74_4).f1))) (fun _ hk => hk.2) (.int .i64 ((rd_T23 x9_2 x74_4).f2))) (fun _ hk => hk.2) (.int .i64 ((rd_T23 x9_2 x74_4).f3))) (fun _ hk => hk.2) (.int .i64 ((rd_T23 x9_2 x74_4).f4))) (fun _ hk => hk.2) (.int .i64 ((rd_T23 x9_2 x74_4).f5))) (fun _ hk => hk.2) (.bool ((rd_T23 x9_2 x74_4).f6))) (fun _ hk => hk.2) (.int .i64 ((rd_T23 x9_2 x74_4).f7))) (fun _ hk => hk.2) (.int .i64 ((rd_T23 x9_2 x74_4).f8))) (fun _ hk => hk.2) (.int .i64 ((rd_T23 x9_2 x74_4).f9))) (fun _ hk => hk.2) (.int .i64 ((rd_T23 x9_2 x74_4).f10))) (fun _ hk => hk.2) (.int .i64 ((rd_T23 x9_2 x74_4).f11))) (fun _ hk => hk.2) (.int .i64 ((rd_T23 x9_2 x74_4).f12))) (fun _ h_ => h_.1))) hb); have n4_ := Aside0.mk (blk_below (g := gb303) (o := .cells #[.int .i64 a0_0, .slice A0_1 l0_1.length c0_1] 51 (0, 0)) (by (iterate 13 ((with_reducible repeat (first | refine blk_drewN ?_ _ | refine blk_drew ?_ | refine blk_alloc ?_ _)); refine blk_far ?_ NB303_326.out _)); (with_reducible repeat (first | refine blk_drewN ?_ _ | refine blk_drew ?_ | refine blk_alloc ?_ _)); exact BK303.out) hb); have n5_ := Aside0.mk (blk_below (g := gb304) (o := .cells #[.int .i64 a1_0, .slice A1_1 l1_1.length c1_1, .int .i64 a1_2, .int .i64 a1_3, .int .i64 a1_4, .int .i64 a1_5, .slice A1_6 l1_6.length c1_6, .int .i64 a1_7, .int .i64 a1_8, .int .i64 a1_9, .int .i64 a1_10, .int .i64 a1_11, .int .i64 a1_12] 38 (0, 0)) (by (iterate 13 ((with_reducible repeat (first | refine blk_drewN ?_ _ | refine blk_drew ?_ | refine blk_alloc ?_ _)); refine blk_far ?_ NB304_326.out _)); (with_reducible repeat (first | refine blk_drewN ?_ _ | refine blk_drew ?_ | refine blk_alloc ?_ _)); exact BK304.out) hb); have n6_ := Aside0.mk (blk_below (g := gb326) (o := .cells #[.int .i64 ((rd_T23 x9_2 x74_4).f0), .int .i64 ((rd_T23 x9_2 x74_4).f1), .int .i64 ((rd_T23 x9_2 x74_4).f2), .int .i64 ((rd_T23 x9_2 x74_4).f3), .int .i64 ((rd_T23 x9_2 x74_4).f4), .int .i64 ((rd_T23 x9_2 x74_4).f5), .bool ((rd_T23 x9_2 x74_4).f6), .int .i64 ((rd_T23 x9_2 x74_4).f7), .int .i64 ((rd_T23 x9_2 x74_4).f8), .int .i64 ((rd_T23 x9_2 x74_4).f9), .int .i64 ((rd_T23 x9_2 x74_4).f10), .int .i64 ((rd_T23 x9_2 x74_4).f11), .int .i64 ((rd_T23 x9_2 x74_4).f12)] 23 (0, 0)) (by (with_reducible repeat (first | refine blk_drewN ?_ _ | refine blk_drew ?_ | refine blk_alloc ?_ _)); refine blk_put (cs := #[.int .i64 ((rd_T23 x9_2 x74_4).f0), .int .i64 ((rd_T23 x9_2 x74_4).f1), .int .i64 ((rd_T23 x9_2 x74_4).f2), .int .i64 ((rd_T23 x9_2 x74_4).f3), .int .i64 ((rd_T23 x9_2 x74_4).f4), .int .i64 ((rd_T23 x9_2 x74_4).f5), .bool ((rd_T23 x9_2 x74_4).f6), .int .i64 ((rd_T23 x9_2 x74_4).f7), .int .i64 ((rd_T23 x9_2 x74_4).f8), .int .i64 ((rd_T23 x9_2 x74_4).f9), .int .i64 ((rd_T23 x9_2 x74_4).f10), .int .i64 ((rd_T23 x9_2 x74_4).f11), .int .i64 0]) ?_ 12 _ rfl; (with_reducible repeat (first | refine blk_drewN ?_ _ | refine blk_drew ?_ | refine blk_alloc ?_ _)); refine blk_put (cs := #[.int .i64 ((rd_T23 x9_2 x74_4).f0), .int .i64 ((rd_T23 x9_2 x74_4).f1), .int .i64 ((rd_T23 x9_2 x74_4).f2), .int .i64 ((rd_T23 x9_2 x74_4).f3), .int .i64 ((rd_T23 x9_2 x74_4).f4), .int .i64 ((rd_T23 x9_2 x74_4).f5), .bool ((rd_T23 x9_2 x74_4).f6), .int .i64 ((rd_T23 x9_2 x74_4).f7), .int .i64 ((rd_T23 x9_2 x74_4).f8), .int .i64 ((rd_T23 x9_2 x74_4).f9), .int .i64 ((rd_T23 x9_2 x74_4).f10), .int .i64 0, .int .i64 0]) ?_ 11 _ rfl; (with_reducible repeat (first | refine blk_drewN ?_ _ | refine blk_drew ?_ | refine blk_alloc ?_ _)); refine blk_put (cs := #[.int .i64 ((rd_T23 x9_2 x74_4).f0), .int .i64 ((rd_T23 x9_2 x74_4).f1), .int .i64 ((rd_T23 x9_2 x74_4).f2), .int .i64 ((rd_T23 x9_2 x74_4).f3), .int .i64 ((rd_T23 x9_2 x74_4).f4), .int .i64 ((rd_T23 x9_2 x74_4).f5), .bool ((rd_T23 x9_2 x74_4).f6), .int .i64 ((rd_T23 x9_2 x74_4).f7), .int .i64 ((rd_T23 x9_2 x74_4).f8), .int .i64 ((rd_T23 x9_2 x74_4).f9), .int .i64 0, .int .i64 0, .int .i64 0]) ?_ 10 _ rfl; (with_reducible repeat (first | refine blk_drewN ?_ _ | refine blk_drew ?_ | refine blk_alloc ?_ _)); refine blk_put (cs := #[.int .i64 ((rd_T23 x9_2 x74_4).f0), .int .i64 ((rd_T23 x9_2 x74_4).f1), .int .i64 ((rd_T23 x9_2 x74_4).f2), .int .i64 ((rd_T23 x9_2 x74_4).f3), .int .i64 ((rd_T23 x9_2 x74_4).f4), .int .i64 ((rd_T23 x9_2 x74_4).f5), .bool ((rd_T23 x9_2 x74_4).f6), .int .i64 ((rd_T23 x9_2 x74_4).f7), .int .i64 ((rd_T23 x9_2 x74_4).f8), .int .i64 0, .int .i64 0, .int .i64 0, .int .i64 0]) ?_ 9 _ rfl; (with_reducible repeat (first | refine blk_drewN ?_ _ | refine blk_drew ?_ | refine blk_alloc ?_ _)); refine blk_put (cs := #[.int .i64 ((rd_T23 x9_2 x74_4).f0), .int .i64 ((rd_T23 x9_2 x74_4).f1), .int .i64 ((rd_T23 x9_2 x74_4).f2), .int .i64 ((rd_T23 x9_2 x74_4).f3), .int .i64 ((rd_T23 x9_2 x74_4).f4), .int .i64 ((rd_T23 x9_2 x74_4).f5), .bool ((rd_T23 x9_2 x74_4).f6), .int .i64 ((rd_T23 x9_2 x74_4).f7), .int .i64 0, .int .i64 0, .int .i64 0, .int .i64 0, .int .i64 0]) ?_ 8 _ rfl; (with_reducible repeat (first | refine blk_drewN ?_ _ | refine blk_drew ?_ | refine blk_alloc ?_ _)); refine blk_put (cs := #[.int .i64 ((rd_T23 x9_2 x74_4).f0), .int .i64 ((rd_T23 x9_2 x74_4).f1), .int .i64 ((rd_T23 x9_2 x74_4).f2), .int .i64 ((rd_T23 x9_2 x74_4).f3), .int .i64 ((rd_T23 x9_2 x74_4).f4), .int .i64 ((rd_T23 x9_2 x74_4).f5), .bool ((rd_T23 x9_2 x74_4).f6), .int .i64 0, .int .i64 0, .int .i64 0, .int .i64 0, .int .i64 0, .int .i64 0]) ?_ 7 _ rfl; (with_reducible repeat (first | refine blk_drewN ?_ _ | refine blk_drew ?_ | refine blk_alloc ?_ _)); refine blk_put (cs := #[.int .i64 ((rd_T23 x9_2 x74_4).f0), .int .i64 ((rd_T23 x9_2 x74_4).f1), .int .i64 ((rd_T23 x9_2 x74_4).f2), .int .i64 ((rd_T23 x9_2 x74_4).f3), .int .i64 ((rd_T23 x9_2 x74_4).f4), .int .i64 ((rd_T23 x9_2 x74_4).f5), .bool false, .int .i64 0, .int .i64 0, .int .i64 0, .int .i64 0, .int .i64 0, .int .i64 0]) ?_ 6 _ rfl; (with_reducible repeat (first | refine blk_drewN ?_ _ | refine blk_drew ?_ | refine blk_alloc ?_ _)); refine blk_put (cs := #[.int .i64 ((rd_T23 x9_2 x74_4).f0), .int .i64 ((rd_T23 x9_2 x74_4).f1), .int .i64 ((rd_T23 x9_2 x74_4).f2), .int .i64 ((rd_T23 x9_2 x74_4).f3), .int .i64 ((rd_T23 x9_2 x74_4).f4), .int .i64 0, .bool false, .int .i64 0, .int .i64 0, .int .i64 0, .int .i64 0, .int .i64 0, .int .i64 0]) ?_ 5 _ rfl; (with_reducible repeat (first | refine blk_drewN ?_ _ | refine blk_drew ?_ | refine blk_alloc ?_ _)); refine blk_put (cs := #[.int .i64 ((rd_T23 x9_2 x74_4).f0), .int .i64 ((rd_T23 x9_2 x74_4).f1), .int .i64 ((rd_T23 x9_2 x74_4).f2), .int .i64 ((rd_T23 x9_2 x74_4).f3), .int .i64 0, .int .i64 0, .bool false, .int .i64 0, .int .i64 0, .int .i64 0, .int .i64 0, .int .i64 0, .int .i64 0]) ?_ 4 _ rfl; (with_reducible repeat (first | refine blk_drewN ?_ _ | refine blk_drew ?_ | refine blk_alloc ?_ _)); refine blk_put (cs := #[.int .i64 ((rd_T23 x9_2 x74_4).f0), .int .i64 ((rd_T23 x9_2 x74_4).f1), .int .i64 ((rd_T23 x9_2 x74_4).f2), .int .i64 0, .int .i64 0, .int .i64 0, .bool false, .int .i64 0, .int .i64 0, .int .i64 0, .int .i64 0, .int .i64 0, .int .i64 0]) ?_ 3 _ rfl; (with_reducible repeat (first | refine blk_drewN ?_ _ | refine blk_drew ?_ | refine blk_alloc ?_ _)); refine blk_put (cs := #[.int .i64 ((rd_T23 x9_2 x74_4).f0), .int .i64 ((rd_T23 x9_2 x74_4).f1), .int .i64 0, .int .i64 0, .int .i64 0, .int .i64 0, .bool false, .int .i64 0, .int .i64 0, .int .i64 0, .int .i64 0, .int .i64 0, .int .i64 0]) ?_ 2 _ rfl; (with_reducible repeat (first | refine blk_drewN ?_ _ | refine blk_drew ?_ | refine blk_alloc ?_ _)); refine blk_put (cs := #[.int .i64 ((rd_T23 x9_2 x74_4).f0), .int .i64 0, .int .i64 0, .int .i64 0, .int .i64 0, .int .i64 0, .bool false, .int .i64 0, .int .i64 0, .int .i64 0, .int .i64 0, .int .i64 0, .int .i64 0]) ?_ 1 _ rfl; (with_reducible repeat (first | refine blk_drewN ?_ _ | refine blk_drew ?_ | refine blk_alloc ?_ _)); refine blk_put (cs := #[.int .i64 0, .int .i64 0, .int .i64 0, .int .i64 0, .int .i64 0, .int .i64 0, .bool false, .int .i64 0, .int .i64 0, .int .i64 0, .int .i64 0, .int .i64 0, .int .i64 0]) ?_ 0 _ rfl; (with_reducible repeat (first | refine blk_drewN ?_ _ | refine blk_drew ?_ | refine blk_alloc ?_ _)); exact BK326.out) hb); have n7_ := Aside0.mk (below_step (by exact h3q HB.out GE303.out GE304.out GE326.out) hb); clear HO_6; clear HO_7; clear HO_13; clear HO_72; clear BK303; clear BK304; clear BK326; clear HB; have HO_6 := n0_; have HO_7 := n1_; have HO_13 := n2_; have HO_72 := n3_; have BK303 := n4_; have BK304 := n5_; have BK326 := n6_; have HB := n7_; clear n0_ n1_ n2_ n3_ n4_ n5_ n6_ n7_; (try clear hb); (try clear hb2); (try clear hk); (try clear hi)) | ((with_reducible refine gate_builtin (b := .append) (xs := #[.tmp 101, .tmp 103]) rfl ?_); at_builtin; refine Kd.R_append (Kd.int .i64) (w0 := w) w.heap.size rfl (.tmp 101) (.tmp 103) 47 2 (.int .i64 0) 8 rfl Try.underlying47 info2 rfl (by decide) (by omega) u7 x7_4 t328 [.int .i64 t328] (fun k_ => some k_ ≠ (.slice (some ad327) x13_48.length co79 : Value).ownBlock) (fun _ => False) rfl rfl ?aP (fun _ hk => hk.elim) ?aF ?aO ?aB ?aS ?aL ?_; (case aP => exact rfl); (case aB => exact (by exact h3q HB.out GE303.out GE304.out GE326.out)); (case aF => exact (fun k_ hk => Kd.fresh' (Kd.R_lt (by exact rq HO_13.out)) k_ hk)); (case aO => exact (by exact rq HO_7.out)); (case aS => exact (below_size (by exact h3q HB.out GE303.out GE304.out GE326.out))); (case aL => have := LMc74.out; omega); intro v331 w81 ho hb hg hat; rw [← Ny330.out] at ho; have n0_ := Aside0.mk (Kd.R_over' (by exact rq HO_6.out) (Kd.R_typed (by exact rq HO_7.out)) (by decide) hg); have n1_ := Aside0.mk (Kd.R_after (ok := (fun _ => True)) (by (with_reducible repeat (first | apply Kd.R_alloc | apply Kd.R_drewN | apply Kd.R_drew)); exact Kd.R_mono HO_13.out (fun _ hk => ⟨trivial, hk⟩)) hg hat); have n2_ := Aside0.mk (Kd.R_over' (by exact rq HO_72.out) (Kd.R_typed (by exact rq HO_7.out)) (by decide) hg); have n3_ := Aside0.mk (blk_grown (g := gb303) (Up.up BK303.out) hg (Kd.R_ne HO_7.out BK303.out (by decide))); have n4_ := Aside0.mk (blk_grown (g := gb304) (Up.up BK304.out) hg (Kd.R_ne HO_7.out BK304.out (by decide))); have n5_ := Aside0.mk (blk_grown (g := gb326) (Up.up BK326.out) hg (Kd.R_ne HO_7.out BK326.out (by decide))); have n6_ := Aside0.mk (hb); have n7_ := Aside0.mk (ho); clear HO_6; clear HO_13; clear HO_72; clear BK303; clear BK304; clear BK326; clear HB; clear HO_7; have HO_6 := n0_; have HO_13 := n1_; have HO_72 := n2_; have BK303 := n3_; have BK304 := n4_; have BK326 := n5_; have HB := n6_; have HO332 := n7_; clear n0_ n1_ n2_ n3_ n4_ n5_ n6_ n7_; clear ho hb hg hat))
                 go_roundg k4
                 case measure => have := HJ3.out; have := HK2.out; have := HJ48.out; have := HK4.out; omega
                 case rel => exact ⟨(x6_4), (y330), (wrap64 (x74_4 + 1)), (by first | rfl | (simp; done) | (simp [*]; done)), H', ⟨by have := HJ3.out; have := HK2.out; have := HJ48.out; have := HK4.out; omega⟩, ⟨by exact rq HO_6.out⟩, ⟨by exact rq HO332.out⟩, ⟨by (with_reducible repeat (first | apply Kd.R_alloc | apply Kd.R_drewN | apply Kd.R_drew)); exact Kd.R_mono HO_13.out (fun _ hk => hk.2)⟩, ⟨by (with_reducible repeat (first | apply Kd.R_alloc | apply Kd.R_drewN | apply Kd.R_drew)); exact Kd.R_mono HO_72.out (fun _ hk => trivial)⟩, ⟨by exact bb BK303.out⟩, ⟨by exact bb BK304.out⟩, ⟨by exact h3q HB.out GE303.out GE304.out GE326.out⟩⟩
                ·rw [if_neg c74] at H
                 exact absurd H (by simp)
               ·rw [if_neg c73] at H
                have c73b0 : (t329 == 0) = false := beq_eq_false_iff_ne.mpr c73
                have c73b1 : (t329 != 0) = true := bne_iff_ne.mpr c73
                simp only [Option.some.injEq, Prod.mk.injEq] at H
                obtain ⟨rfl, rfl, rfl⟩ := H
                have p325 : 0 ≤ (x74_4 : Int) := yd
                have q325 : x74_4 < (x9_2.length : Int) := yd
                obtain ⟨ad325, e325, hx325_0, hx325_1, hx325_2, hx325_3, hx325_4, hx325_5, hx325_6, hx325_7, hx325_8, hx325_9, hx325_10, hx325_11, hx325_12⟩ := at_T23 (Kd.R_reads' HO_72.out).2.2 x74_4 p325 q325
                cases e325
                replace p325 := eq_true p325
                replace q325 := eq_true q325
                go_wp2_with (first | ((with_reducible refine gate_dst (N := 15) rfl ?_); refine box_event ?hg (N := 15) ?hd (cs := #[.int .i64 0, .int .i64 0, .int .i64 0, .int .i64 0, .int .i64 0, .int .i64 0, .bool false, .int .i64 0, .int .i64 0, .int .i64 0, .int .i64 0, .int .i64 0, .int .i64 0]) (t := 23) ?hr ?_; (case hd => rfl); (case hg => rfl); (case hr => first | (go_simp; done) | (go_simp; rfl)); intro gb326 hg w82 hbox hb; have n0_ := Aside0.mk (Kd.R_below (by exact rq HO_6.out) hb); have n1_ := Aside0.mk (Kd.R_below (by exact rq HO_7.out) hb); have n2_ := Aside0.mk (Kd.R_below (by exact rq HO_13.out) hb); have n3_ := Aside0.mk (Kd.R_below (Kd.R_elderB (by exact rq HO_72.out) gb326 (Nat.le_of_eq hg.symm)) hb); have n4_ := Aside0.mk (blk_below (g := gb303) (Up.up BK303.out) hb); have n5_ := Aside0.mk (blk_below (g := gb304) (Up.up BK304.out) hb); have n6_ := Aside0.mk (below_step (by exact h2q HB.out GE303.out GE304.out) hb); have n7_ := Aside0.mk (hbox); have n8_ := Aside0.mk ((by rw [hg]; exact (below_size (by exact h2q HB.out GE303.out GE304.out)) : w.heap.size ≤ gb326)); have n9_ := Aside0.mk ((by rw [hg]; exact (below_size (by exact h2q HB.out GE303.out GE304.out)) : w.heap.size ≤ gb326)); have n10_ := Aside0.mk ((by rw [hg]; exact Nat.ne_of_lt (blk_lt (g := gb303) (Up.up BK303.out)) : gb303 ≠ gb326)); have n11_ := Aside0.mk ((by rw [hg]; exact Nat.ne_of_gt (blk_lt (g := gb303) (Up.up BK303.out)) : gb326 ≠ gb303)); have n12_ := Aside0.mk ((by rw [hg]; exact Nat.ne_of_lt (blk_lt (g := gb304) (Up.up BK304.out)) : gb304 ≠ gb326)); have n13_ := Aside0.mk ((by rw [hg]; exact Nat.ne_of_gt (blk_lt (g := gb304) (Up.up BK304.out)) : gb326 ≠ gb304)); clear HO_6; clear HO_7; clear HO_13; clear HO_72; clear BK303; clear BK304; clear HB; have HO_6 := n0_; have HO_7 := n1_; have HO_13 := n2_; have HO_72 := n3_; have BK303 := n4_; have BK304 := n5_; have HB := n6_; have BK326 := n7_; have GW326 := n8_; have GE326 := n9_; have NB303_326 := n10_; have NB326_303 := n11_; have NB304_326 := n12_; have NB326_304 := n13_; clear n0_ n1_ n2_ n3_ n4_ n5_ n6_ n7_ n8_ n9_ n10_ n11_ n12_ n13_; clear hb hbox hg; have hnb83 := NB326_303.out; have hnc83 := NB303_326.out; have hnb84 := NB326_304.out; have hnc84 := NB304_326.out; obtain ⟨hcz85_0, hcz85_1, hcz85_2, hcz85_3, hcz85_4, hcz85_5, hcz85_6, hcz85_7, hcz85_8, hcz85_9, hcz85_10, hcz85_11, hcz85_12, hfz85_0, hfz85_1, hfz85_2, hfz85_3, hfz85_4, hfz85_5, hfz85_6, hfz85_7, hfz85_8, hfz85_9, hfz85_10, hfz85_11, hfz85_12⟩ := lc13 BK326.out; obtain ⟨Ao86, co86, eo86⟩ := Kd.R_slice HO_13.out; subst eo86; have p327 : 0 ≤ (x74_4 : Int) := yd; have q327 : x74_4 < (x13_48.length : Int) := yd; obtain ⟨ad327, e327, hx327_0⟩ := Kd.at_int (Kd.R_reads' HO_13.out).2.2 x74_4 p327 q327; cases e327; have hn327_0 : ad327.block ≠ gb326 := Kd.own_blk (Kd.R_ne HO_13.out BK326.out (by decide)); have hn327_1 : ad327.block ≠ gb326 := Kd.own_blk (Kd.R_ne HO_13.out BK326.out (by decide)); have hn327_2 : ad327.block ≠ gb326 := Kd.own_blk (Kd.R_ne HO_13.out BK326.out (by decide)); have hn327_3 : ad327.block ≠ gb326 := Kd.own_blk (Kd.R_ne HO_13.out BK326.out (by decide)); have hn327_4 : ad327.block ≠ gb326 := Kd.own_blk (Kd.R_ne HO_13.out BK326.out (by decide)); have hn327_5 : ad327.block ≠ gb326 := Kd.own_blk (Kd.R_ne HO_13.out BK326.out (by decide)); have hn327_6 : ad327.block ≠ gb326 := Kd.own_blk (Kd.R_ne HO_13.out BK326.out (by decide)); have hn327_7 : ad327.block ≠ gb326 := Kd.own_blk (Kd.R_ne HO_13.out BK326.out (by decide)); have hn327_8 : ad327.block ≠ gb326 := Kd.own_blk (Kd.R_ne HO_13.out BK326.out (by decide)); have hn327_9 : ad327.block ≠ gb326 := Kd.own_blk (Kd.R_ne HO_13.out BK326.out (by decide)); have hn327_10 : ad327.block ≠ gb326 := Kd.own_blk (Kd.R_ne HO_13.out BK326.out (by decide)); have hn327_11 : ad327.block ≠ gb326 := Kd.own_blk (Kd.R_ne HO_13.out BK326.out (by decide)); have hn327_12 : ad327.block ≠ gb326 := Kd.own_blk (Kd.R_ne HO_13.out BK326.out (by decide)); replace hx327_0 := (cell_far (p := ⟨gb326, 0, none⟩) (by first | (rw [add_block]; exact hn327_0) | (show (Addr.add _ _).block ≠ _; rw [add_block]; exact hn327_0) | exact hn327_0) (.int .i64 ((rd_T23 x9_2 x74_4).f0))).trans hx327_0; replace hx327_0 := (cell_far (p := ⟨gb326, 1, none⟩) (by first | (rw [add_block]; exact hn327_1) | (show (Addr.add _ _).block ≠ _; rw [add_block]; exact hn327_1) | exact hn327_1) (.int .i64 ((rd_T23 x9_2 x74_4).f1))).trans hx327_0; replace hx327_0 := (cell_far (p := ⟨gb326, 2, none⟩) (by first | (rw [add_block]; exact hn327_2) | (show (Addr.add _ _).block ≠ _; rw [add_block]; exact hn327_2) | exact hn327_2) (.int .i64 ((rd_T23 x9_2 x74_4).f2))).trans hx327_0; replace hx327_0 := (cell_far (p := ⟨gb326, 3, none⟩) (by first | (rw [add_block]; exact hn327_3) | (show (Addr.add _ _).block ≠ _; rw [add_block]; exact hn327_3) | exact hn327_3) (.int .i64 ((rd_T23 x9_2 x74_4).f3))).trans hx327_0; replace hx327_0 := (cell_far (p := ⟨gb326, 4, none⟩) (by first | (rw [add_block]; exact hn327_4) | (show (Addr.add _ _).block ≠ _; rw [add_block]; exact hn327_4) | exact hn327_4) (.int .i64 ((rd_T23 x9_2 x74_4).f4))).trans hx327_0; replace hx327_0 := (cell_far (p := ⟨gb326, 5, none⟩) (by first | (rw [add_block]; exact hn327_5) | (show (Addr.add _ _).block ≠ _; rw [add_block]; exact hn327_5) | exact hn327_5) (.int .i64 ((rd_T23 x9_2 x74_4).f5))).trans hx327_0; replace hx327_0 := (cell_far (p := ⟨gb326, 6, none⟩) (by first | (rw [add_block]; exact hn327_6) | (show (Addr.add _ _).block ≠ _; rw [add_block]; exact hn327_6) | exact hn327_6) (.bool ((rd_T23 x9_2 x74_4).f6))).trans hx327_0; replace hx327_0 := (cell_far (p := ⟨gb326, 7, none⟩) (by first | (rw [add_block]; exact hn327_7) | (show (Addr.add _ _).block ≠ _; rw [add_block]; exact hn327_7) | exact hn327_7) (.int .i64 ((rd_T23 x9_2 x74_4).f7))).trans hx327_0; replace hx327_0 := (cell_far (p := ⟨gb326, 8, none⟩) (by first | (rw [add_block]; exact hn327_8) | (show (Addr.add _ _).block ≠ _; rw [add_block]; exact hn327_8) | exact hn327_8) (.int .i64 ((rd_T23 x9_2 x74_4).f8))).trans hx327_0; replace hx327_0 := (cell_far (p := ⟨gb326, 9, none⟩) (by first | (rw [add_block]; exact hn327_9) | (show (Addr.add _ _).block ≠ _; rw [add_block]; exact hn327_9) | exact hn327_9) (.int .i64 ((rd_T23 x9_2 x74_4).f9))).trans hx327_0; replace hx327_0 := (cell_far (p := ⟨gb326, 10, none⟩) (by first | (rw [add_block]; exact hn327_10) | (show (Addr.add _ _).block ≠ _; rw [add_block]; exact hn327_10) | exact hn327_10) (.int .i64 ((rd_T23 x9_2 x74_4).f10))).trans hx327_0; replace hx327_0 := (cell_far (p := ⟨gb326, 11, none⟩) (by first | (rw [add_block]; exact hn327_11) | (show (Addr.add _ _).block ≠ _; rw [add_block]; exact hn327_11) | exact hn327_11) (.int .i64 ((rd_T23 x9_2 x74_4).f11))).trans hx327_0; replace hx327_0 := (cell_far (p := ⟨gb326, 12, none⟩) (by first | (rw [add_block]; exact hn327_12) | (show (Addr.add _ _).block ≠ _; rw [add_block]; exact hn327_12) | exact hn327_12) (.int .i64 ((rd_T23 x9_2 x74_4).f12))).trans hx327_0; clear hn327_0; clear hn327_1; clear hn327_2; clear hn327_3; clear hn327_4; clear hn327_5; clear hn327_6; clear hn327_7; clear hn327_8; clear hn327_9; clear hn327_10; clear hn327_11; clear hn327_12; replace p327 := eq_true p327; replace q327 := eq_true q327) | ((with_reducible refine gate_callee (f := 32) rfl ?_); refine goesL_ (some 88) rfl rfl Try.func32 (by kernel_rfl) rfl #[.agg #[.int .i64 ((rd_T23 x9_2 x74_4).f0), .int .i64 ((rd_T23 x9_2 x74_4).f1), .int .i64 ((rd_T23 x9_2 x74_4).f2), .int .i64 ((rd_T23 x9_2 x74_4).f3), .int .i64 ((rd_T23 x9_2 x74_4).f4), .int .i64 ((rd_T23 x9_2 x74_4).f5), .bool ((rd_T23 x9_2 x74_4).f6), .int .i64 ((rd_T23 x9_2 x74_4).f7), .int .i64 ((rd_T23 x9_2 x74_4).f8), .int .i64 ((rd_T23 x9_2 x74_4).f9), .int .i64 ((rd_T23 x9_2 x74_4).f10), .int .i64 ((rd_T23 x9_2 x74_4).f11), .int .i64 ((rd_T23 x9_2 x74_4).f12)], .int .i64 (rd x13_48 x74_4)] rfl (by (try simp only [List.map_toArray, List.map_cons, List.map_nil]); first | done | rfl | (simp only [List.length_drop, List.length_take]; rfl)) ?_; (with_reducible refine (plan_capped.calls k4 ((rd_T23 x9_2 x74_4).f0) ((rd_T23 x9_2 x74_4).f1) ((rd_T23 x9_2 x74_4).f2) ((rd_T23 x9_2 x74_4).f3) ((rd_T23 x9_2 x74_4).f4) ((rd_T23 x9_2 x74_4).f5) ((rd_T23 x9_2 x74_4).f6) ((rd_T23 x9_2 x74_4).f7) ((rd_T23 x9_2 x74_4).f8) ((rd_T23 x9_2 x74_4).f9) ((rd_T23 x9_2 x74_4).f10) ((rd_T23 x9_2 x74_4).f11) ((rd_T23 x9_2 x74_4).f12) (rd x13_48 x74_4) t328 t329 _ A72.out).mono ?_); rintro e w87 ⟨rfl, hb⟩; refine ⟨_, rfl, ?_⟩; have n0_ := Aside0.mk (Kd.R_below (by (with_reducible repeat (first | apply Kd.R_alloc | apply Kd.R_drewN | apply Kd.R_drew)); exact (Kd.R_mono (Kd.R_far (p := ⟨gb326, 12, none⟩) (Kd.R_far (p := ⟨gb326, 11, none⟩) (Kd.R_far (p := ⟨gb326, 10, none⟩) (Kd.R_far (p := ⟨gb326, 9, none⟩) (Kd.R_far (p := ⟨gb326, 8, none⟩) (Kd.R_far (p := ⟨gb326, 7, none⟩) (Kd.R_far (p := ⟨gb326, 6, none⟩) (Kd.R_far (p := ⟨gb326, 5, none⟩) (Kd.R_far (p := ⟨gb326, 4, none⟩) (Kd.R_far (p := ⟨gb326, 3, none⟩) (Kd.R_far (p := ⟨gb326, 2, none⟩) (Kd.R_far (p := ⟨gb326, 1, none⟩) (Kd.R_far (p := ⟨gb326, 0, none⟩) (Kd.R_types HO_6.out BK326.out (by decide)) (fun _ hk => hk.2) (.int .i64 ((rd_T23 x9_2 x74_4).f0))) (fun _ hk => hk.2) (.int .i64 ((rd_T23 x9_2 x74_4).f1))) (fun _ hk => hk.2) (.int .i64 ((rd_T23 x9_2 x74_4).f2))) (fun _ hk => hk.2) (.int .i64 ((rd_T23 x9_2 x74_4).f3))) (fun _ hk => hk.2) (.int .i64 ((rd_T23 x9_2 x74_4).f4))) (fun _ hk => hk.2) (.int .i64 ((rd_T23 x9_2 x74_4).f5))) (fun _ hk => hk.2) (.bool ((rd_T23 x9_2 x74_4).f6))) (fun _ hk => hk.2) (.int .i64 ((rd_T23 x9_2 x74_4).f7))) (fun _ hk => hk.2) (.int .i64 ((rd_T23 x9_2 x74_4).f8))) (fun _ hk => hk.2) (.int .i64 ((rd_T23 x9_2 x74_4).f9))) (fun _ hk => hk.2) (.int .i64 ((rd_T23 x9_2 x74_4).f10))) (fun _ hk => hk.2) (.int .i64 ((rd_T23 x9_2 x74_4).f11))) (fun _ hk => hk.2) (.int .i64 ((rd_T23 x9_2 x74_4).f12))) (fun _ h_ => h_.1))) hb); have n1_ := Aside0.mk (Kd.R_below (by (with_reducible repeat (first | apply Kd.R_alloc | apply Kd.R_drewN | apply Kd.R_drew)); exact (Kd.R_mono (Kd.R_far (p := ⟨gb326, 12, none⟩) (Kd.R_far (p := ⟨gb326, 11, none⟩) (Kd.R_far (p := ⟨gb326, 10, none⟩) (Kd.R_far (p := ⟨gb326, 9, none⟩) (Kd.R_far (p := ⟨gb326, 8, none⟩) (Kd.R_far (p := ⟨gb326, 7, none⟩) (Kd.R_far (p := ⟨gb326, 6, none⟩) (Kd.R_far (p := ⟨gb326, 5, none⟩) (Kd.R_far (p := ⟨gb326, 4, none⟩) (Kd.R_far (p := ⟨gb326, 3, none⟩) (Kd.R_far (p := ⟨gb326, 2, none⟩) (Kd.R_far (p := ⟨gb326, 1, none⟩) (Kd.R_far (p := ⟨gb326, 0, none⟩) (Kd.R_types HO_7.out BK326.out (by decide)) (fun _ hk => hk.2) (.int .i64 ((rd_T23 x9_2 x74_4).f0))) (fun _ hk => hk.2) (.int .i64 ((rd_T23 x9_2 x74_4).f1))) (fun _ hk => hk.2) (.int .i64 ((rd_T23 x9_2 x74_4).f2))) (fun _ hk => hk.2) (.int .i64 ((rd_T23 x9_2 x74_4).f3))) (fun _ hk => hk.2) (.int .i64 ((rd_T23 x9_2 x74_4).f4))) (fun _ hk => hk.2) (.int .i64 ((rd_T23 x9_2 x74_4).f5))) (fun _ hk => hk.2) (.bool ((rd_T23 x9_2 x74_4).f6))) (fun _ hk => hk.2) (.int .i64 ((rd_T23 x9_2 x74_4).f7))) (fun _ hk => hk.2) (.int .i64 ((rd_T23 x9_2 x74_4).f8))) (fun _ hk => hk.2) (.int .i64 ((rd_T23 x9_2 x74_4).f9))) (fun _ hk => hk.2) (.int .i64 ((rd_T23 x9_2 x74_4).f10))) (fun _ hk => hk.2) (.int .i64 ((rd_T23 x9_2 x74_4).f11))) (fun _ hk => hk.2) (.int .i64 ((rd_T23 x9_2 x74_4).f12))) (fun _ h_ => h_.1))) hb); have n2_ := Aside0.mk (Kd.R_below (by (with_reducible repeat (first | apply Kd.R_alloc | apply Kd.R_drewN | apply Kd.R_drew)); exact (Kd.R_mono (Kd.R_far (p := ⟨gb326, 12, none⟩) (Kd.R_far (p := ⟨gb326, 11, none⟩) (Kd.R_far (p := ⟨gb326, 10, none⟩) (Kd.R_far (p := ⟨gb326, 9, none⟩) (Kd.R_far (p := ⟨gb326, 8, none⟩) (Kd.R_far (p := ⟨gb326, 7, none⟩) (Kd.R_far (p := ⟨gb326, 6, none⟩) (Kd.R_far (p := ⟨gb326, 5, none⟩) (Kd.R_far (p := ⟨gb326, 4, none⟩) (Kd.R_far (p := ⟨gb326, 3, none⟩) (Kd.R_far (p := ⟨gb326, 2, none⟩) (Kd.R_far (p := ⟨gb326, 1, none⟩) (Kd.R_far (p := ⟨gb326, 0, none⟩) (Kd.R_types HO_13.out BK326.out (by decide)) (fun _ hk => hk.2) (.int .i64 ((rd_T23 x9_2 x74_4).f0))) (fun _ hk => hk.2) (.int .i64 ((rd_T23 x9_2 x74_4).f1))) (fun _ hk => hk.2) (.int .i64 ((rd_T23 x9_2 x74_4).f2))) (fun _ hk => hk.2) (.int .i64 ((rd_T23 x9_2 x74_4).f3))) (fun _ hk => hk.2) (.int .i64 ((rd_T23 x9_2 x74_4).f4))) (fun _ hk => hk.2) (.int .i64 ((rd_T23 x9_2 x74_4).f5))) (fun _ hk => hk.2) (.bool ((rd_T23 x9_2 x74_4).f6))) (fun _ hk => hk.2) (.int .i64 ((rd_T23 x9_2 x74_4).f7))) (fun _ hk => hk.2) (.int .i64 ((rd_T23 x9_2 x74_4).f8))) (fun _ hk => hk.2) (.int .i64 ((rd_T23 x9_2 x74_4).f9))) (fun _ hk => hk.2) (.int .i64 ((rd_T23 x9_2 x74_4).f10))) (fun _ hk => hk.2) (.int .i64 ((rd_T23 x9_2 x74_4).f11))) (fun _ hk => hk.2) (.int .i64 ((rd_T23 x9_2 x74_4).f12))) (fun _ h_ => h_.1))) hb); have n3_ := Aside0.mk (Kd.R_below (by (with_reducible repeat (first | apply Kd.R_alloc | apply Kd.R_drewN | apply Kd.R_drew)); exact (Kd.R_mono (Kd.R_far (p := ⟨gb326, 12, none⟩) (Kd.R_far (p := ⟨gb326, 11, none⟩) (Kd.R_far (p := ⟨gb326, 10, none⟩) (Kd.R_far (p := ⟨gb326, 9, none⟩) (Kd.R_far (p := ⟨gb326, 8, none⟩) (Kd.R_far (p := ⟨gb326, 7, none⟩) (Kd.R_far (p := ⟨gb326, 6, none⟩) (Kd.R_far (p := ⟨gb326, 5, none⟩) (Kd.R_far (p := ⟨gb326, 4, none⟩) (Kd.R_far (p := ⟨gb326, 3, none⟩) (Kd.R_far (p := ⟨gb326, 2, none⟩) (Kd.R_far (p := ⟨gb326, 1, none⟩) (Kd.R_far (p := ⟨gb326, 0, none⟩) (Kd.R_mono HO_72.out (fun k_ hk => (⟨hk, hk.2⟩ : _ ∧ k_ ≠ gb326))) (fun _ hk => hk.2) (.int .i64 ((rd_T23 x9_2 x74_4).f0))) (fun _ hk => hk.2) (.int .i64 ((rd_T23 x9_2 x74_4).f1))) (fun _ hk => hk.2) (.int .i64 ((rd_T23 x9_2 x74_4).f2))) (fun _ hk => hk.2) (.int .i64 ((rd_T23 x9_2 x74_4).f3))) (fun _ hk => hk.2) (.int .i64 ((rd_T23 x9_2 x74_4).f4))) (fun _ hk => hk.2) (.int .i64 ((rd_T23 x9_2 x74_4).f5))) (fun _ hk => hk.2) (.bool ((rd_T23 x9_2 x74_4).f6))) (fun _ hk => hk.2) (.int .i64 ((rd_T23 x9_2 x74_4).f7))) (fun _ hk => hk.2) (.int .i64 ((rd_T23 x9_2 x74_4).f8))) (fun _ hk => hk.2) (.int .i64 ((rd_T23 x9_2 x74_4).f9))) (fun _ hk => hk.2) (.int .i64 ((rd_T23 x9_2 x74_4).f10))) (fun _ hk => hk.2) (.int .i64 ((rd_T23 x9_2 x74_4).f11))) (fun _ hk => hk.2) (.int .i64 ((rd_T23 x9_2 x74_4).f12))) (fun _ h_ => h_.1))) hb); have n4_ := Aside0.mk (blk_below (g := gb303) (o := .cells #[.int .i64 a0_0, .slice A0_1 l0_1.length c0_1] 51 (0, 0)) (by (iterate 13 ((with_reducible repeat (first | refine blk_drewN ?_ _ | refine blk_drew ?_ | refine blk_alloc ?_ _)); refine blk_far ?_ NB303_326.out _)); (with_reducible repeat (first | refine blk_drewN ?_ _ | refine blk_drew ?_ | refine blk_alloc ?_ _)); exact BK303.out) hb); have n5_ := Aside0.mk (blk_below (g := gb304) (o := .cells #[.int .i64 a1_0, .slice A1_1 l1_1.length c1_1, .int .i64 a1_2, .int .i64 a1_3, .int .i64 a1_4, .int .i64 a1_5, .slice A1_6 l1_6.length c1_6, .int .i64 a1_7, .int .i64 a1_8, .int .i64 a1_9, .int .i64 a1_10, .int .i64 a1_11, .int .i64 a1_12] 38 (0, 0)) (by (iterate 13 ((with_reducible repeat (first | refine blk_drewN ?_ _ | refine blk_drew ?_ | refine blk_alloc ?_ _)); refine blk_far ?_ NB304_326.out _)); (with_reducible repeat (first | refine blk_drewN ?_ _ | refine blk_drew ?_ | refine blk_alloc ?_ _)); exact BK304.out) hb); have n6_ := Aside0.mk (blk_below (g := gb326) (o := .cells #[.int .i64 ((rd_T23 x9_2 x74_4).f0), .int .i64 ((rd_T23 x9_2 x74_4).f1), .int .i64 ((rd_T23 x9_2 x74_4).f2), .int .i64 ((rd_T23 x9_2 x74_4).f3), .int .i64 ((rd_T23 x9_2 x74_4).f4), .int .i64 ((rd_T23 x9_2 x74_4).f5), .bool ((rd_T23 x9_2 x74_4).f6), .int .i64 ((rd_T23 x9_2 x74_4).f7), .int .i64 ((rd_T23 x9_2 x74_4).f8), .int .i64 ((rd_T23 x9_2 x74_4).f9), .int .i64 ((rd_T23 x9_2 x74_4).f10), .int .i64 ((rd_T23 x9_2 x74_4).f11), .int .i64 ((rd_T23 x9_2 x74_4).f12)] 23 (0, 0)) (by (with_reducible repeat (first | refine blk_drewN ?_ _ | refine blk_drew ?_ | refine blk_alloc ?_ _)); refine blk_put (cs := #[.int .i64 ((rd_T23 x9_2 x74_4).f0), .int .i64 ((rd_T23 x9_2 x74_4).f1), .int .i64 ((rd_T23 x9_2 x74_4).f2), .int .i64 ((rd_T23 x9_2 x74_4).f3), .int .i64 ((rd_T23 x9_2 x74_4).f4), .int .i64 ((rd_T23 x9_2 x74_4).f5), .bool ((rd_T23 x9_2 x74_4).f6), .int .i64 ((rd_T23 x9_2 x74_4).f7), .int .i64 ((rd_T23 x9_2 x74_4).f8), .int .i64 ((rd_T23 x9_2 x74_4).f9), .int .i64 ((rd_T23 x9_2 x74_4).f10), .int .i64 ((rd_T23 x9_2 x74_4).f11), .int .i64 0]) ?_ 12 _ rfl; (with_reducible repeat (first | refine blk_drewN ?_ _ | refine blk_drew ?_ | refine blk_alloc ?_ _)); refine blk_put (cs := #[.int .i64 ((rd_T23 x9_2 x74_4).f0), .int .i64 ((rd_T23 x9_2 x74_4).f1), .int .i64 ((rd_T23 x9_2 x74_4).f2), .int .i64 ((rd_T23 x9_2 x74_4).f3), .int .i64 ((rd_T23 x9_2 x74_4).f4), .int .i64 ((rd_T23 x9_2 x74_4).f5), .bool ((rd_T23 x9_2 x74_4).f6), .int .i64 ((rd_T23 x9_2 x74_4).f7), .int .i64 ((rd_T23 x9_2 x74_4).f8), .int .i64 ((rd_T23 x9_2 x74_4).f9), .int .i64 ((rd_T23 x9_2 x74_4).f10), .int .i64 0, .int .i64 0]) ?_ 11 _ rfl; (with_reducible repeat (first | refine blk_drewN ?_ _ | refine blk_drew ?_ | refine blk_alloc ?_ _)); refine blk_put (cs := #[.int .i64 ((rd_T23 x9_2 x74_4).f0), .int .i64 ((rd_T23 x9_2 x74_4).f1), .int .i64 ((rd_T23 x9_2 x74_4).f2), .int .i64 ((rd_T23 x9_2 x74_4).f3), .int .i64 ((rd_T23 x9_2 x74_4).f4), .int .i64 ((rd_T23 x9_2 x74_4).f5), .bool ((rd_T23 x9_2 x74_4).f6), .int .i64 ((rd_T23 x9_2 x74_4).f7), .int .i64 ((rd_T23 x9_2 x74_4).f8), .int .i64 ((rd_T23 x9_2 x74_4).f9), .int .i64 0, .int .i64 0, .int .i64 0]) ?_ 10 _ rfl; (with_reducible repeat (first | refine blk_drewN ?_ _ | refine blk_drew ?_ | refine blk_alloc ?_ _)); refine blk_put (cs := #[.int .i64 ((rd_T23 x9_2 x74_4).f0), .int .i64 ((rd_T23 x9_2 x74_4).f1), .int .i64 ((rd_T23 x9_2 x74_4).f2), .int .i64 ((rd_T23 x9_2 x74_4).f3), .int .i64 ((rd_T23 x9_2 x74_4).f4), .int .i64 ((rd_T23 x9_2 x74_4).f5), .bool ((rd_T23 x9_2 x74_4).f6), .int .i64 ((rd_T23 x9_2 x74_4).f7), .int .i64 ((rd_T23 x9_2 x74_4).f8), .int .i64 0, .int .i64 0, .int .i64 0, .int .i64 0]) ?_ 9 _ rfl; (with_reducible repeat (first | refine blk_drewN ?_ _ | refine blk_drew ?_ | refine blk_alloc ?_ _)); refine blk_put (cs := #[.int .i64 ((rd_T23 x9_2 x74_4).f0), .int .i64 ((rd_T23 x9_2 x74_4).f1), .int .i64 ((rd_T23 x9_2 x74_4).f2), .int .i64 ((rd_T23 x9_2 x74_4).f3), .int .i64 ((rd_T23 x9_2 x74_4).f4), .int .i64 ((rd_T23 x9_2 x74_4).f5), .bool ((rd_T23 x9_2 x74_4).f6), .int .i64 ((rd_T23 x9_2 x74_4).f7), .int .i64 0, .int .i64 0, .int .i64 0, .int .i64 0, .int .i64 0]) ?_ 8 _ rfl; (with_reducible repeat (first | refine blk_drewN ?_ _ | refine blk_drew ?_ | refine blk_alloc ?_ _)); refine blk_put (cs := #[.int .i64 ((rd_T23 x9_2 x74_4).f0), .int .i64 ((rd_T23 x9_2 x74_4).f1), .int .i64 ((rd_T23 x9_2 x74_4).f2), .int .i64 ((rd_T23 x9_2 x74_4).f3), .int .i64 ((rd_T23 x9_2 x74_4).f4), .int .i64 ((rd_T23 x9_2 x74_4).f5), .bool ((rd_T23 x9_2 x74_4).f6), .int .i64 0, .int .i64 0, .int .i64 0, .int .i64 0, .int .i64 0, .int .i64 0]) ?_ 7 _ rfl; (with_reducible repeat (first | refine blk_drewN ?_ _ | refine blk_drew ?_ | refine blk_alloc ?_ _)); refine blk_put (cs := #[.int .i64 ((rd_T23 x9_2 x74_4).f0), .int .i64 ((rd_T23 x9_2 x74_4).f1), .int .i64 ((rd_T23 x9_2 x74_4).f2), .int .i64 ((rd_T23 x9_2 x74_4).f3), .int .i64 ((rd_T23 x9_2 x74_4).f4), .int .i64 ((rd_T23 x9_2 x74_4).f5), .bool false, .int .i64 0, .int .i64 0, .int .i64 0, .int .i64 0, .int .i64 0, .int .i64 0]) ?_ 6 _ rfl; (with_reducible repeat (first | refine blk_drewN ?_ _ | refine blk_drew ?_ | refine blk_alloc ?_ _)); refine blk_put (cs := #[.int .i64 ((rd_T23 x9_2 x74_4).f0), .int .i64 ((rd_T23 x9_2 x74_4).f1), .int .i64 ((rd_T23 x9_2 x74_4).f2), .int .i64 ((rd_T23 x9_2 x74_4).f3), .int .i64 ((rd_T23 x9_2 x74_4).f4), .int .i64 0, .bool false, .int .i64 0, .int .i64 0, .int .i64 0, .int .i64 0, .int .i64 0, .int .i64 0]) ?_ 5 _ rfl; (with_reducible repeat (first | refine blk_drewN ?_ _ | refine blk_drew ?_ | refine blk_alloc ?_ _)); refine blk_put (cs := #[.int .i64 ((rd_T23 x9_2 x74_4).f0), .int .i64 ((rd_T23 x9_2 x74_4).f1), .int .i64 ((rd_T23 x9_2 x74_4).f2), .int .i64 ((rd_T23 x9_2 x74_4).f3), .int .i64 0, .int .i64 0, .bool false, .int .i64 0, .int .i64 0, .int .i64 0, .int .i64 0, .int .i64 0, .int .i64 0]) ?_ 4 _ rfl; (with_reducible repeat (first | refine blk_drewN ?_ _ | refine blk_drew ?_ | refine blk_alloc ?_ _)); refine blk_put (cs := #[.int .i64 ((rd_T23 x9_2 x74_4).f0), .int .i64 ((rd_T23 x9_2 x74_4).f1), .int .i64 ((rd_T23 x9_2 x74_4).f2), .int .i64 0, .int .i64 0, .int .i64 0, .bool false, .int .i64 0, .int .i64 0, .int .i64 0, .int .i64 0, .int .i64 0, .int .i64 0]) ?_ 3 _ rfl; (with_reducible repeat (first | refine blk_drewN ?_ _ | refine blk_drew ?_ | refine blk_alloc ?_ _)); refine blk_put (cs := #[.int .i64 ((rd_T23 x9_2 x74_4).f0), .int .i64 ((rd_T23 x9_2 x74_4).f1), .int .i64 0, .int .i64 0, .int .i64 0, .int .i64 0, .bool false, .int .i64 0, .int .i64 0, .int .i64 0, .int .i64 0, .int .i64 0, .int .i64 0]) ?_ 2 _ rfl; (with_reducible repeat (first | refine blk_drewN ?_ _ | refine blk_drew ?_ | refine blk_alloc ?_ _)); refine blk_put (cs := #[.int .i64 ((rd_T23 x9_2 x74_4).f0), .int .i64 0, .int .i64 0, .int .i64 0, .int .i64 0, .int .i64 0, .bool false, .int .i64 0, .int .i64 0, .int .i64 0, .int .i64 0, .int .i64 0, .int .i64 0]) ?_ 1 _ rfl; (with_reducible repeat (first | refine blk_drewN ?_ _ | refine blk_drew ?_ | refine blk_alloc ?_ _)); refine blk_put (cs := #[.int .i64 0, .int .i64 0, .int .i64 0, .int .i64 0, .int .i64 0, .int .i64 0, .bool false, .int .i64 0, .int .i64 0, .int .i64 0, .int .i64 0, .int .i64 0, .int .i64 0]) ?_ 0 _ rfl; (with_reducible repeat (first | refine blk_drewN ?_ _ | refine blk_drew ?_ | refine blk_alloc ?_ _)); exact BK326.out) hb); have n7_ := Aside0.mk (below_step (by exact h3q HB.out GE303.out GE304.out GE326.out) hb); clear HO_6; clear HO_7; clear HO_13; clear HO_72; clear BK303; clear BK304; clear BK326; clear HB; have HO_6 := n0_; have HO_7 := n1_; have HO_13 := n2_; have HO_72 := n3_; have BK303 := n4_; have BK304 := n5_; have BK326 := n6_; have HB := n7_; clear n0_ n1_ n2_ n3_ n4_ n5_ n6_ n7_; (try clear hb); (try clear hb2); (try clear hk); (try clear hi)))
                go_ret3
                exact ⟨_, _, by first | rfl | (simp [errW_none, errW_some] <;> rfl) | (simp [*, errW_none, errW_some] <;> rfl), by first | exact Kd.R_nil _ _ _ _ _ | exact Kd.N_nil _ _ _ _ _ | exact Kd.V_nil _ _ _ _ _ | exact Kd.Q_nil _ _ _ _ _ | exact Kd.S_nil _ _ _ _ _, by first | exact Kd.R_nil _ _ _ _ _ | exact Kd.N_nil _ _ _ _ _ | exact Kd.V_nil _ _ _ _ _ | exact Kd.Q_nil _ _ _ _ _ | exact Kd.S_nil _ _ _ _ _, by exact h3q HB.out GE303.out GE304.out GE326.out⟩
              ·rw [if_neg c71] at H
               have c71b0 : (t317 == 4) = false := beq_eq_false_iff_ne.mpr c71
               have c71b1 : (t317 != 4) = true := bne_iff_ne.mpr c71
               replace H := Option.bind_eq_some_iff.mp H
               obtain ⟨⟨t333, t334⟩, A880, H⟩ := H
               replace H : (if t334 = 0 then (if x7_4.length < 17592186044416 then (plan_Asks.l1 k4 a2 x6_4 (x7_4 ++ [t333]) t317 x13_48 x9_2 (x9_2.length : Int) (wrap64 (x74_4 + 1))) else (none)) else (some (([] : List Int), ([] : List Int), t334))) = some (r1, r2, r3) := H
               have A88 := Aside0.mk A880
               clear A880
               by_cases c89 : t334 = 0
               ·rw [if_pos c89] at H
                have c89b0 : (t334 == 0) = true := beq_iff_eq.mpr c89
                have c89b1 : (t334 != 0) = false := bne_eq_false_iff_eq.mpr c89
                clear c89
                by_cases c90 : x7_4.length < 17592186044416
                ·rw [if_pos c90] at H
                 have LMc90 := Aside0.mk c90
                 clear c90
                 obtain ⟨y335, hy335⟩ : ∃ y_ : List Int, y_ = (x7_4 ++ [t333]) := ⟨_, rfl⟩
                 replace H : (plan_Asks.l1 k4 a2 x6_4 y335 t317 x13_48 x9_2 (x9_2.length : Int) (wrap64 (x74_4 + 1))) = some (r1, r2, r3) := by first | (rw [hy335]; with_reducible exact H) | (have H2_ := (Option.bind_some _ _).symm.trans H; rw [hy335]; with_reducible exact H2_) | (have H2_ := (Option.bind_some _ _).symm.trans H; with_reducible exact H2_) | with_reducible exact H | (rw [hy335]; exact H) | exact H
                 have Ny335 := Aside0.mk hy335
                 clear hy335
                 have H' := Aside0.mk H
                 clear H
                 have p325 : 0 ≤ (x74_4 : Int) := yd
                 have q325 : x74_4 < (x9_2.length : Int) := yd
                 obtain ⟨ad325, e325, hx325_0, hx325_1, hx325_2, hx325_3, hx325_4, hx325_5, hx325_6, hx325_7, hx325_8, hx325_9, hx325_10, hx325_11, hx325_12⟩ := at_T23 (Kd.R_reads' HO_72.out).2.2 x74_4 p325 q325
                 cases e325
                 replace p325 := eq_true p325
                 replace q325 := eq_true q325
                 go_wp2_with (first | ((with_reducible refine gate_dst (N := 15) rfl ?_); refine box_event ?hg (N := 15) ?hd (cs := #[.int .i64 0, .int .i64 0, .int .i64 0, .int .i64 0, .int .i64 0, .int .i64 0, .bool false, .int .i64 0, .int .i64 0, .int .i64 0, .int .i64 0, .int .i64 0, .int .i64 0]) (t := 23) ?hr ?_; (case hd => rfl); (case hg => rfl); (case hr => first | (go_simp; done) | (go_simp; rfl)); intro gb326 hg w91 hbox hb; have n0_ := Aside0.mk (Kd.R_below (by exact rq HO_6.out) hb); have n1_ := Aside0.mk (Kd.R_below (by exact rq HO_7.out) hb); have n2_ := Aside0.mk (Kd.R_below (by exact rq HO_13.out) hb); have n3_ := Aside0.mk (Kd.R_below (Kd.R_elderB (by exact rq HO_72.out) gb326 (Nat.le_of_eq hg.symm)) hb); have n4_ := Aside0.mk (blk_below (g := gb303) (Up.up BK303.out) hb); have n5_ := Aside0.mk (blk_below (g := gb304) (Up.up BK304.out) hb); have n6_ := Aside0.mk (below_step (by exact h2q HB.out GE303.out GE304.out) hb); have n7_ := Aside0.mk (hbox); have n8_ := Aside0.mk ((by rw [hg]; exact (below_size (by exact h2q HB.out GE303.out GE304.out)) : w.heap.size ≤ gb326)); have n9_ := Aside0.mk ((by rw [hg]; exact (below_size (by exact h2q HB.out GE303.out GE304.out)) : w.heap.size ≤ gb326)); have n10_ := Aside0.mk ((by rw [hg]; exact Nat.ne_of_lt (blk_lt (g := gb303) (Up.up BK303.out)) : gb303 ≠ gb326)); have n11_ := Aside0.mk ((by rw [hg]; exact Nat.ne_of_gt (blk_lt (g := gb303) (Up.up BK303.out)) : gb326 ≠ gb303)); have n12_ := Aside0.mk ((by rw [hg]; exact Nat.ne_of_lt (blk_lt (g := gb304) (Up.up BK304.out)) : gb304 ≠ gb326)); have n13_ := Aside0.mk ((by rw [hg]; exact Nat.ne_of_gt (blk_lt (g := gb304) (Up.up BK304.out)) : gb326 ≠ gb304)); clear HO_6; clear HO_7; clear HO_13; clear HO_72; clear BK303; clear BK304; clear HB; have HO_6 := n0_; have HO_7 := n1_; have HO_13 := n2_; have HO_72 := n3_; have BK303 := n4_; have BK304 := n5_; have HB := n6_; have BK326 := n7_; have GW326 := n8_; have GE326 := n9_; have NB303_326 := n10_; have NB326_303 := n11_; have NB304_326 := n12_; have NB326_304 := n13_; clear n0_ n1_ n2_ n3_ n4_ n5_ n6_ n7_ n8_ n9_ n10_ n11_ n12_ n13_; clear hb hbox hg; have hnb92 := NB326_303.out; have hnc92 := NB303_326.out; have hnb93 := NB326_304.out; have hnc93 := NB304_326.out; obtain ⟨hcz94_0, hcz94_1, hcz94_2, hcz94_3, hcz94_4, hcz94_5, hcz94_6, hcz94_7, hcz94_8, hcz94_9, hcz94_10, hcz94_11, hcz94_12, hfz94_0, hfz94_1, hfz94_2, hfz94_3, hfz94_4, hfz94_5, hfz94_6, hfz94_7, hfz94_8, hfz94_9, hfz94_10, hfz94_11, hfz94_12⟩ := lc13 BK326.out; obtain ⟨Ao95, co95, eo95⟩ := Kd.R_slice HO_13.out; subst eo95; have p327 : 0 ≤ (x74_4 : Int) := yd; have q327 : x74_4 < (x13_48.length : Int) := yd; obtain ⟨ad327, e327, hx327_0⟩ := Kd.at_int (Kd.R_reads' HO_13.out).2.2 x74_4 p327 q327; cases e327; have hn327_0 : ad327.block ≠ gb326 := Kd.own_blk (Kd.R_ne HO_13.out BK326.out (by decide)); have hn327_1 : ad327.block ≠ gb326 := Kd.own_blk (Kd.R_ne HO_13.out BK326.out (by decide)); have hn327_2 : ad327.block ≠ gb326 := Kd.own_blk (Kd.R_ne HO_13.out BK326.out (by decide)); have hn327_3 : ad327.block ≠ gb326 := Kd.own_blk (Kd.R_ne HO_13.out BK326.out (by decide)); have hn327_4 : ad327.block ≠ gb326 := Kd.own_blk (Kd.R_ne HO_13.out BK326.out (by decide)); have hn327_5 : ad327.block ≠ gb326 := Kd.own_blk (Kd.R_ne HO_13.out BK326.out (by decide)); have hn327_6 : ad327.block ≠ gb326 := Kd.own_blk (Kd.R_ne HO_13.out BK326.out (by decide)); have hn327_7 : ad327.block ≠ gb326 := Kd.own_blk (Kd.R_ne HO_13.out BK326.out (by decide)); have hn327_8 : ad327.block ≠ gb326 := Kd.own_blk (Kd.R_ne HO_13.out BK326.out (by decide)); have hn327_9 : ad327.block ≠ gb326 := Kd.own_blk (Kd.R_ne HO_13.out BK326.out (by decide)); have hn327_10 : ad327.block ≠ gb326 := Kd.own_blk (Kd.R_ne HO_13.out BK326.out (by decide)); have hn327_11 : ad327.block ≠ gb326 := Kd.own_blk (Kd.R_ne HO_13.out BK326.out (by decide)); have hn327_12 : ad327.block ≠ gb326 := Kd.own_blk (Kd.R_ne HO_13.out BK326.out (by decide)); replace hx327_0 := (cell_far (p := ⟨gb326, 0, none⟩) (by first | (rw [add_block]; exact hn327_0) | (show (Addr.add _ _).block ≠ _; rw [add_block]; exact hn327_0) | exact hn327_0) (.int .i64 ((rd_T23 x9_2 x74_4).f0))).trans hx327_0; replace hx327_0 := (cell_far (p := ⟨gb326, 1, none⟩) (by first | (rw [add_block]; exact hn327_1) | (show (Addr.add _ _).block ≠ _; rw [add_block]; exact hn327_1) | exact hn327_1) (.int .i64 ((rd_T23 x9_2 x74_4).f1))).trans hx327_0; replace hx327_0 := (cell_far (p := ⟨gb326, 2, none⟩) (by first | (rw [add_block]; exact hn327_2) | (show (Addr.add _ _).block ≠ _; rw [add_block]; exact hn327_2) | exact hn327_2) (.int .i64 ((rd_T23 x9_2 x74_4).f2))).trans hx327_0; replace hx327_0 := (cell_far (p := ⟨gb326, 3, none⟩) (by first | (rw [add_block]; exact hn327_3) | (show (Addr.add _ _).block ≠ _; rw [add_block]; exact hn327_3) | exact hn327_3) (.int .i64 ((rd_T23 x9_2 x74_4).f3))).trans hx327_0; replace hx327_0 := (cell_far (p := ⟨gb326, 4, none⟩) (by first | (rw [add_block]; exact hn327_4) | (show (Addr.add _ _).block ≠ _; rw [add_block]; exact hn327_4) | exact hn327_4) (.int .i64 ((rd_T23 x9_2 x74_4).f4))).trans hx327_0; replace hx327_0 := (cell_far (p := ⟨gb326, 5, none⟩) (by first | (rw [add_block]; exact hn327_5) | (show (Addr.add _ _).block ≠ _; rw [add_block]; exact hn327_5) | exact hn327_5) (.int .i64 ((rd_T23 x9_2 x74_4).f5))).trans hx327_0; replace hx327_0 := (cell_far (p := ⟨gb326, 6, none⟩) (by first | (rw [add_block]; exact hn327_6) | (show (Addr.add _ _).block ≠ _; rw [add_block]; exact hn327_6) | exact hn327_6) (.bool ((rd_T23 x9_2 x74_4).f6))).trans hx327_0; replace hx327_0 := (cell_far (p := ⟨gb326, 7, none⟩) (by first | (rw [add_block]; exact hn327_7) | (show (Addr.add _ _).block ≠ _; rw [add_block]; exact hn327_7) | exact hn327_7) (.int .i64 ((rd_T23 x9_2 x74_4).f7))).trans hx327_0; replace hx327_0 := (cell_far (p := ⟨gb326, 8, none⟩) (by first | (rw [add_block]; exact hn327_8) | (show (Addr.add _ _).block ≠ _; rw [add_block]; exact hn327_8) | exact hn327_8) (.int .i64 ((rd_T23 x9_2 x74_4).f8))).trans hx327_0; replace hx327_0 := (cell_far (p := ⟨gb326, 9, none⟩) (by first | (rw [add_block]; exact hn327_9) | (show (Addr.add _ _).block ≠ _; rw [add_block]; exact hn327_9) | exact hn327_9) (.int .i64 ((rd_T23 x9_2 x74_4).f9))).trans hx327_0; replace hx327_0 := (cell_far (p := ⟨gb326, 10, none⟩) (by first | (rw [add_block]; exact hn327_10) | (show (Addr.add _ _).block ≠ _; rw [add_block]; exact hn327_10) | exact hn327_10) (.int .i64 ((rd_T23 x9_2 x74_4).f10))).trans hx327_0; replace hx327_0 := (cell_far (p := ⟨gb326, 11, none⟩) (by first | (rw [add_block]; exact hn327_11) | (show (Addr.add _ _).block ≠ _; rw [add_block]; exact hn327_11) | exact hn327_11) (.int .i64 ((rd_T23 x9_2 x74_4).f11))).trans hx327_0; replace hx327_0 := (cell_far (p := ⟨gb326, 12, none⟩) (by first | (rw [add_block]; exact hn327_12) | (show (Addr.add _ _).block ≠ _; rw [add_block]; exact hn327_12) | exact hn327_12) (.int .i64 ((rd_T23 x9_2 x74_4).f12))).trans hx327_0; clear hn327_0; clear hn327_1; clear hn327_2; clear hn327_3; clear hn327_4; clear hn327_5; clear hn327_6; clear hn327_7; clear hn327_8; clear hn327_9; clear hn327_10; clear hn327_11; clear hn327_12; replace p327 := eq_true p327; replace q327 := eq_true q327) | ((with_reducible refine gate_callee (f := 15) rfl ?_); refine goesL_ (some 95) rfl rfl Try.func15 (by kernel_rfl) rfl #[.agg #[.int .i64 ((rd_T23 x9_2 x74_4).f0), .int .i64 ((rd_T23 x9_2 x74_4).f1), .int .i64 ((rd_T23 x9_2 x74_4).f2), .int .i64 ((rd_T23 x9_2 x74_4).f3), .int .i64 ((rd_T23 x9_2 x74_4).f4), .int .i64 ((rd_T23 x9_2 x74_4).f5), .bool ((rd_T23 x9_2 x74_4).f6), .int .i64 ((rd_T23 x9_2 x74_4).f7), .int .i64 ((rd_T23 x9_2 x74_4).f8), .int .i64 ((rd_T23 x9_2 x74_4).f9), .int .i64 ((rd_T23 x9_2 x74_4).f10), .int .i64 ((rd_T23 x9_2 x74_4).f11), .int .i64 ((rd_T23 x9_2 x74_4).f12)], .int .i64 t317, .int .i64 a2] rfl (by (try simp only [List.map_toArray, List.map_cons, List.map_nil]); first | done | rfl | (simp only [List.length_drop, List.length_take]; rfl)) ?_; (with_reducible refine (plan_Of.calls k4 ((rd_T23 x9_2 x74_4).f0) ((rd_T23 x9_2 x74_4).f1) ((rd_T23 x9_2 x74_4).f2) ((rd_T23 x9_2 x74_4).f3) ((rd_T23 x9_2 x74_4).f4) ((rd_T23 x9_2 x74_4).f5) ((rd_T23 x9_2 x74_4).f6) ((rd_T23 x9_2 x74_4).f7) ((rd_T23 x9_2 x74_4).f8) ((rd_T23 x9_2 x74_4).f9) ((rd_T23 x9_2 x74_4).f10) ((rd_T23 x9_2 x74_4).f11) ((rd_T23 x9_2 x74_4).f12) t317 a2 t333 t334 _ A88.out).mono ?_); rintro e w96 ⟨rfl, hb⟩; refine ⟨_, rfl, ?_⟩; have n0_ := Aside0.mk (Kd.R_below (by (with_reducible repeat (first | apply Kd.R_alloc | apply Kd.R_drewN | apply Kd.R_drew)); exact (Kd.R_mono (Kd.R_far (p := ⟨gb326, 12, none⟩) (Kd.R_far (p := ⟨gb326, 11, none⟩) (Kd.R_far (p := ⟨gb326, 10, none⟩) (Kd.R_far (p := ⟨gb326, 9, none⟩) (Kd.R_far (p := ⟨gb326, 8, none⟩) (Kd.R_far (p := ⟨gb326, 7, none⟩) (Kd.R_far (p := ⟨gb326, 6, none⟩) (Kd.R_far (p := ⟨gb326, 5, none⟩) (Kd.R_far (p := ⟨gb326, 4, none⟩) (Kd.R_far (p := ⟨gb326, 3, none⟩) (Kd.R_far (p := ⟨gb326, 2, none⟩) (Kd.R_far (p := ⟨gb326, 1, none⟩) (Kd.R_far (p := ⟨gb326, 0, none⟩) (Kd.R_types HO_6.out BK326.out (by decide)) (fun _ hk => hk.2) (.int .i64 ((rd_T23 x9_2 x74_4).f0))) (fun _ hk => hk.2) (.int .i64 ((rd_T23 x9_2 x74_4).f1))) (fun _ hk => hk.2) (.int .i64 ((rd_T23 x9_2 x74_4).f2))) (fun _ hk => hk.2) (.int .i64 ((rd_T23 x9_2 x74_4).f3))) (fun _ hk => hk.2) (.int .i64 ((rd_T23 x9_2 x74_4).f4))) (fun _ hk => hk.2) (.int .i64 ((rd_T23 x9_2 x74_4).f5))) (fun _ hk => hk.2) (.bool ((rd_T23 x9_2 x74_4).f6))) (fun _ hk => hk.2) (.int .i64 ((rd_T23 x9_2 x74_4).f7))) (fun _ hk => hk.2) (.int .i64 ((rd_T23 x9_2 x74_4).f8))) (fun _ hk => hk.2) (.int .i64 ((rd_T23 x9_2 x74_4).f9))) (fun _ hk => hk.2) (.int .i64 ((rd_T23 x9_2 x74_4).f10))) (fun _ hk => hk.2) (.int .i64 ((rd_T23 x9_2 x74_4).f11))) (fun _ hk => hk.2) (.int .i64 ((rd_T23 x9_2 x74_4).f12))) (fun _ h_ => h_.1))) hb); have n1_ := Aside0.mk (Kd.R_below (by (with_reducible repeat (first | apply Kd.R_alloc | apply Kd.R_drewN | apply Kd.R_drew)); exact (Kd.R_mono (Kd.R_far (p := ⟨gb326, 12, none⟩) (Kd.R_far (p := ⟨gb326, 11, none⟩) (Kd.R_far (p := ⟨gb326, 10, none⟩) (Kd.R_far (p := ⟨gb326, 9, none⟩) (Kd.R_far (p := ⟨gb326, 8, none⟩) (Kd.R_far (p := ⟨gb326, 7, none⟩) (Kd.R_far (p := ⟨gb326, 6, none⟩) (Kd.R_far (p := ⟨gb326, 5, none⟩) (Kd.R_far (p := ⟨gb326, 4, none⟩) (Kd.R_far (p := ⟨gb326, 3, none⟩) (Kd.R_far (p := ⟨gb326, 2, none⟩) (Kd.R_far (p := ⟨gb326, 1, none⟩) (Kd.R_far (p := ⟨gb326, 0, none⟩) (Kd.R_types HO_7.out BK326.out (by decide)) (fun _ hk => hk.2) (.int .i64 ((rd_T23 x9_2 x74_4).f0))) (fun _ hk => hk.2) (.int .i64 ((rd_T23 x9_2 x74_4).f1))) (fun _ hk => hk.2) (.int .i64 ((rd_T23 x9_2 x74_4).f2))) (fun _ hk => hk.2) (.int .i64 ((rd_T23 x9_2 x74_4).f3))) (fun _ hk => hk.2) (.int .i64 ((rd_T23 x9_2 x74_4).f4))) (fun _ hk => hk.2) (.int .i64 ((rd_T23 x9_2 x74_4).f5))) (fun _ hk => hk.2) (.bool ((rd_T23 x9_2 x74_4).f6))) (fun _ hk => hk.2) (.int .i64 ((rd_T23 x9_2 x74_4).f7))) (fun _ hk => hk.2) (.int .i64 ((rd_T23 x9_2 x74_4).f8))) (fun _ hk => hk.2) (.int .i64 ((rd_T23 x9_2 x74_4).f9))) (fun _ hk => hk.2) (.int .i64 ((rd_T23 x9_2 x74_4).f10))) (fun _ hk => hk.2) (.int .i64 ((rd_T23 x9_2 x74_4).f11))) (fun _ hk => hk.2) (.int .i64 ((rd_T23 x9_2 x74_4).f12))) (fun _ h_ => h_.1))) hb); have n2_ := Aside0.mk (Kd.R_below (by (with_reducible repeat (first | apply Kd.R_alloc | apply Kd.R_drewN | apply Kd.R_drew)); exact (Kd.R_mono (Kd.R_far (p := ⟨gb326, 12, none⟩) (Kd.R_far (p := ⟨gb326, 11, none⟩) (Kd.R_far (p := ⟨gb326, 10, none⟩) (Kd.R_far (p := ⟨gb326, 9, none⟩) (Kd.R_far (p := ⟨gb326, 8, none⟩) (Kd.R_far (p := ⟨gb326, 7, none⟩) (Kd.R_far (p := ⟨gb326, 6, none⟩) (Kd.R_far (p := ⟨gb326, 5, none⟩) (Kd.R_far (p := ⟨gb326, 4, none⟩) (Kd.R_far (p := ⟨gb326, 3, none⟩) (Kd.R_far (p := ⟨gb326, 2, none⟩) (Kd.R_far (p := ⟨gb326, 1, none⟩) (Kd.R_far (p := ⟨gb326, 0, none⟩) (Kd.R_types HO_13.out BK326.out (by decide)) (fun _ hk => hk.2) (.int .i64 ((rd_T23 x9_2 x74_4).f0))) (fun _ hk => hk.2) (.int .i64 ((rd_T23 x9_2 x74_4).f1))) (fun _ hk => hk.2) (.int .i64 ((rd_T23 x9_2 x74_4).f2))) (fun _ hk => hk.2) (.int .i64 ((rd_T23 x9_2 x74_4).f3))) (fun _ hk => hk.2) (.int .i64 ((rd_T23 x9_2 x74_4).f4))) (fun _ hk => hk.2) (.int .i64 ((rd_T23 x9_2 x74_4).f5))) (fun _ hk => hk.2) (.bool ((rd_T23 x9_2 x74_4).f6))) (fun _ hk => hk.2) (.int .i64 ((rd_T23 x9_2 x74_4).f7))) (fun _ hk => hk.2) (.int .i64 ((rd_T23 x9_2 x74_4).f8))) (fun _ hk => hk.2) (.int .i64 ((rd_T23 x9_2 x74_4).f9))) (fun _ hk => hk.2) (.int .i64 ((rd_T23 x9_2 x74_4).f10))) (fun _ hk => hk.2) (.int .i64 ((rd_T23 x9_2 x74_4).f11))) (fun _ hk => hk.2) (.int .i64 ((rd_T23 x9_2 x74_4).f12))) (fun _ h_ => h_.1))) hb); have n3_ := Aside0.mk (Kd.R_below (by (with_reducible repeat (first | apply Kd.R_alloc | apply Kd.R_drewN | apply Kd.R_drew)); exact (Kd.R_mono (Kd.R_far (p := ⟨gb326, 12, none⟩) (Kd.R_far (p := ⟨gb326, 11, none⟩) (Kd.R_far (p := ⟨gb326, 10, none⟩) (Kd.R_far (p := ⟨gb326, 9, none⟩) (Kd.R_far (p := ⟨gb326, 8, none⟩) (Kd.R_far (p := ⟨gb326, 7, none⟩) (Kd.R_far (p := ⟨gb326, 6, none⟩) (Kd.R_far (p := ⟨gb326, 5, none⟩) (Kd.R_far (p := ⟨gb326, 4, none⟩) (Kd.R_far (p := ⟨gb326, 3, none⟩) (Kd.R_far (p := ⟨gb326, 2, none⟩) (Kd.R_far (p := ⟨gb326, 1, none⟩) (Kd.R_far (p := ⟨gb326, 0, none⟩) (Kd.R_mono HO_72.out (fun k_ hk => (⟨hk, hk.2⟩ : _ ∧ k_ ≠ gb326))) (fun _ hk => hk.2) (.int .i64 ((rd_T23 x9_2 x74_4).f0))) (fun _ hk => hk.2) (.int .i64 ((rd_T23 x9_2 x74_4).f1))) (fun _ hk => hk.2) (.int .i64 ((rd_T23 x9_2 x74_4).f2))) (fun _ hk => hk.2) (.int .i64 ((rd_T23 x9_2 x74_4).f3))) (fun _ hk => hk.2) (.int .i64 ((rd_T23 x9_2 x74_4).f4))) (fun _ hk => hk.2) (.int .i64 ((rd_T23 x9_2 x74_4).f5))) (fun _ hk => hk.2) (.bool ((rd_T23 x9_2 x74_4).f6))) (fun _ hk => hk.2) (.int .i64 ((rd_T23 x9_2 x74_4).f7))) (fun _ hk => hk.2) (.int .i64 ((rd_T23 x9_2 x74_4).f8))) (fun _ hk => hk.2) (.int .i64 ((rd_T23 x9_2 x74_4).f9))) (fun _ hk => hk.2) (.int .i64 ((rd_T23 x9_2 x74_4).f10))) (fun _ hk => hk.2) (.int .i64 ((rd_T23 x9_2 x74_4).f11))) (fun _ hk => hk.2) (.int .i64 ((rd_T23 x9_2 x74_4).f12))) (fun _ h_ => h_.1))) hb); have n4_ := Aside0.mk (blk_below (g := gb303) (o := .cells #[.int .i64 a0_0, .slice A0_1 l0_1.length c0_1] 51 (0, 0)) (by (iterate 13 ((with_reducible repeat (first | refine blk_drewN ?_ _ | refine blk_drew ?_ | refine blk_alloc ?_ _)); refine blk_far ?_ NB303_326.out _)); (with_reducible repeat (first | refine blk_drewN ?_ _ | refine blk_drew ?_ | refine blk_alloc ?_ _)); exact BK303.out) hb); have n5_ := Aside0.mk (blk_below (g := gb304) (o := .cells #[.int .i64 a1_0, .slice A1_1 l1_1.length c1_1, .int .i64 a1_2, .int .i64 a1_3, .int .i64 a1_4, .int .i64 a1_5, .slice A1_6 l1_6.length c1_6, .int .i64 a1_7, .int .i64 a1_8, .int .i64 a1_9, .int .i64 a1_10, .int .i64 a1_11, .int .i64 a1_12] 38 (0, 0)) (by (iterate 13 ((with_reducible repeat (first | refine blk_drewN ?_ _ | refine blk_drew ?_ | refine blk_alloc ?_ _)); refine blk_far ?_ NB304_326.out _)); (with_reducible repeat (first | refine blk_drewN ?_ _ | refine blk_drew ?_ | refine blk_alloc ?_ _)); exact BK304.out) hb); have n6_ := Aside0.mk (blk_below (g := gb326) (o := .cells #[.int .i64 ((rd_T23 x9_2 x74_4).f0), .int .i64 ((rd_T23 x9_2 x74_4).f1), .int .i64 ((rd_T23 x9_2 x74_4).f2), .int .i64 ((rd_T23 x9_2 x74_4).f3), .int .i64 ((rd_T23 x9_2 x74_4).f4), .int .i64 ((rd_T23 x9_2 x74_4).f5), .bool ((rd_T23 x9_2 x74_4).f6), .int .i64 ((rd_T23 x9_2 x74_4).f7), .int .i64 ((rd_T23 x9_2 x74_4).f8), .int .i64 ((rd_T23 x9_2 x74_4).f9), .int .i64 ((rd_T23 x9_2 x74_4).f10), .int .i64 ((rd_T23 x9_2 x74_4).f11), .int .i64 ((rd_T23 x9_2 x74_4).f12)] 23 (0, 0)) (by (with_reducible repeat (first | refine blk_drewN ?_ _ | refine blk_drew ?_ | refine blk_alloc ?_ _)); refine blk_put (cs := #[.int .i64 ((rd_T23 x9_2 x74_4).f0), .int .i64 ((rd_T23 x9_2 x74_4).f1), .int .i64 ((rd_T23 x9_2 x74_4).f2), .int .i64 ((rd_T23 x9_2 x74_4).f3), .int .i64 ((rd_T23 x9_2 x74_4).f4), .int .i64 ((rd_T23 x9_2 x74_4).f5), .bool ((rd_T23 x9_2 x74_4).f6), .int .i64 ((rd_T23 x9_2 x74_4).f7), .int .i64 ((rd_T23 x9_2 x74_4).f8), .int .i64 ((rd_T23 x9_2 x74_4).f9), .int .i64 ((rd_T23 x9_2 x74_4).f10), .int .i64 ((rd_T23 x9_2 x74_4).f11), .int .i64 0]) ?_ 12 _ rfl; (with_reducible repeat (first | refine blk_drewN ?_ _ | refine blk_drew ?_ | refine blk_alloc ?_ _)); refine blk_put (cs := #[.int .i64 ((rd_T23 x9_2 x74_4).f0), .int .i64 ((rd_T23 x9_2 x74_4).f1), .int .i64 ((rd_T23 x9_2 x74_4).f2), .int .i64 ((rd_T23 x9_2 x74_4).f3), .int .i64 ((rd_T23 x9_2 x74_4).f4), .int .i64 ((rd_T23 x9_2 x74_4).f5), .bool ((rd_T23 x9_2 x74_4).f6), .int .i64 ((rd_T23 x9_2 x74_4).f7), .int .i64 ((rd_T23 x9_2 x74_4).f8), .int .i64 ((rd_T23 x9_2 x74_4).f9), .int .i64 ((rd_T23 x9_2 x74_4).f10), .int .i64 0, .int .i64 0]) ?_ 11 _ rfl; (with_reducible repeat (first | refine blk_drewN ?_ _ | refine blk_drew ?_ | refine blk_alloc ?_ _)); refine blk_put (cs := #[.int .i64 ((rd_T23 x9_2 x74_4).f0), .int .i64 ((rd_T23 x9_2 x74_4).f1), .int .i64 ((rd_T23 x9_2 x74_4).f2), .int .i64 ((rd_T23 x9_2 x74_4).f3), .int .i64 ((rd_T23 x9_2 x74_4).f4), .int .i64 ((rd_T23 x9_2 x74_4).f5), .bool ((rd_T23 x9_2 x74_4).f6), .int .i64 ((rd_T23 x9_2 x74_4).f7), .int .i64 ((rd_T23 x9_2 x74_4).f8), .int .i64 ((rd_T23 x9_2 x74_4).f9), .int .i64 0, .int .i64 0, .int .i64 0]) ?_ 10 _ rfl; (with_reducible repeat (first | refine blk_drewN ?_ _ | refine blk_drew ?_ | refine blk_alloc ?_ _)); refine blk_put (cs := #[.int .i64 ((rd_T23 x9_2 x74_4).f0), .int .i64 ((rd_T23 x9_2 x74_4).f1), .int .i64 ((rd_T23 x9_2 x74_4).f2), .int .i64 ((rd_T23 x9_2 x74_4).f3), .int .i64 ((rd_T23 x9_2 x74_4).f4), .int .i64 ((rd_T23 x9_2 x74_4).f5), .bool ((rd_T23 x9_2 x74_4).f6), .int .i64 ((rd_T23 x9_2 x74_4).f7), .int .i64 ((rd_T23 x9_2 x74_4).f8), .int .i64 0, .int .i64 0, .int .i64 0, .int .i64 0]) ?_ 9 _ rfl; (with_reducible repeat (first | refine blk_drewN ?_ _ | refine blk_drew ?_ | refine blk_alloc ?_ _)); refine blk_put (cs := #[.int .i64 ((rd_T23 x9_2 x74_4).f0), .int .i64 ((rd_T23 x9_2 x74_4).f1), .int .i64 ((rd_T23 x9_2 x74_4).f2), .int .i64 ((rd_T23 x9_2 x74_4).f3), .int .i64 ((rd_T23 x9_2 x74_4).f4), .int .i64 ((rd_T23 x9_2 x74_4).f5), .bool ((rd_T23 x9_2 x74_4).f6), .int .i64 ((rd_T23 x9_2 x74_4).f7), .int .i64 0, .int .i64 0, .int .i64 0, .int .i64 0, .int .i64 0]) ?_ 8 _ rfl; (with_reducible repeat (first | refine blk_drewN ?_ _ | refine blk_drew ?_ | refine blk_alloc ?_ _)); refine blk_put (cs := #[.int .i64 ((rd_T23 x9_2 x74_4).f0), .int .i64 ((rd_T23 x9_2 x74_4).f1), .int .i64 ((rd_T23 x9_2 x74_4).f2), .int .i64 ((rd_T23 x9_2 x74_4).f3), .int .i64 ((rd_T23 x9_2 x74_4).f4), .int .i64 ((rd_T23 x9_2 x74_4).f5), .bool ((rd_T23 x9_2 x74_4).f6), .int .i64 0, .int .i64 0, .int .i64 0, .int .i64 0, .int .i64 0, .int .i64 0]) ?_ 7 _ rfl; (with_reducible repeat (first | refine blk_drewN ?_ _ | refine blk_drew ?_ | refine blk_alloc ?_ _)); refine blk_put (cs := #[.int .i64 ((rd_T23 x9_2 x74_4).f0), .int .i64 ((rd_T23 x9_2 x74_4).f1), .int .i64 ((rd_T23 x9_2 x74_4).f2), .int .i64 ((rd_T23 x9_2 x74_4).f3), .int .i64 ((rd_T23 x9_2 x74_4).f4), .int .i64 ((rd_T23 x9_2 x74_4).f5), .bool false, .int .i64 0, .int .i64 0, .int .i64 0, .int .i64 0, .int .i64 0, .int .i64 0]) ?_ 6 _ rfl; (with_reducible repeat (first | refine blk_drewN ?_ _ | refine blk_drew ?_ | refine blk_alloc ?_ _)); refine blk_put (cs := #[.int .i64 ((rd_T23 x9_2 x74_4).f0), .int .i64 ((rd_T23 x9_2 x74_4).f1), .int .i64 ((rd_T23 x9_2 x74_4).f2), .int .i64 ((rd_T23 x9_2 x74_4).f3), .int .i64 ((rd_T23 x9_2 x74_4).f4), .int .i64 0, .bool false, .int .i64 0, .int .i64 0, .int .i64 0, .int .i64 0, .int .i64 0, .int .i64 0]) ?_ 5 _ rfl; (with_reducible repeat (first | refine blk_drewN ?_ _ | refine blk_drew ?_ | refine blk_alloc ?_ _)); refine blk_put (cs := #[.int .i64 ((rd_T23 x9_2 x74_4).f0), .int .i64 ((rd_T23 x9_2 x74_4).f1), .int .i64 ((rd_T23 x9_2 x74_4).f2), .int .i64 ((rd_T23 x9_2 x74_4).f3), .int .i64 0, .int .i64 0, .bool false, .int .i64 0, .int .i64 0, .int .i64 0, .int .i64 0, .int .i64 0, .int .i64 0]) ?_ 4 _ rfl; (with_reducible repeat (first | refine blk_drewN ?_ _ | refine blk_drew ?_ | refine blk_alloc ?_ _)); refine blk_put (cs := #[.int .i64 ((rd_T23 x9_2 x74_4).f0), .int .i64 ((rd_T23 x9_2 x74_4).f1), .int .i64 ((rd_T23 x9_2 x74_4).f2), .int .i64 0, .int .i64 0, .int .i64 0, .bool false, .int .i64 0, .int .i64 0, .int .i64 0, .int .i64 0, .int .i64 0, .int .i64 0]) ?_ 3 _ rfl; (with_reducible repeat (first | refine blk_drewN ?_ _ | refine blk_drew ?_ | refine blk_alloc ?_ _)); refine blk_put (cs := #[.int .i64 ((rd_T23 x9_2 x74_4).f0), .int .i64 ((rd_T23 x9_2 x74_4).f1), .int .i64 0, .int .i64 0, .int .i64 0, .int .i64 0, .bool false, .int .i64 0, .int .i64 0, .int .i64 0, .int .i64 0, .int .i64 0, .int .i64 0]) ?_ 2 _ rfl; (with_reducible repeat (first | refine blk_drewN ?_ _ | refine blk_drew ?_ | refine blk_alloc ?_ _)); refine blk_put (cs := #[.int .i64 ((rd_T23 x9_2 x74_4).f0), .int .i64 0, .int .i64 0, .int .i64 0, .int .i64 0, .int .i64 0, .bool false, .int .i64 0, .int .i64 0, .int .i64 0, .int .i64 0, .int .i64 0, .int .i64 0]) ?_ 1 _ rfl; (with_reducible repeat (first | refine blk_drewN ?_ _ | refine blk_drew ?_ | refine blk_alloc ?_ _)); refine blk_put (cs := #[.int .i64 0, .int .i64 0, .int .i64 0, .int .i64 0, .int .i64 0, .int .i64 0, .bool false, .int .i64 0, .int .i64 0, .int .i64 0, .int .i64 0, .int .i64 0, .int .i64 0]) ?_ 0 _ rfl; (with_reducible repeat (first | refine blk_drewN ?_ _ | refine blk_drew ?_ | refine blk_alloc ?_ _)); exact BK326.out) hb); have n7_ := Aside0.mk (below_step (by exact h3q HB.out GE303.out GE304.out GE326.out) hb); clear HO_6; clear HO_7; clear HO_13; clear HO_72; clear BK303; clear BK304; clear BK326; clear HB; have HO_6 := n0_; have HO_7 := n1_; have HO_13 := n2_; have HO_72 := n3_; have BK303 := n4_; have BK304 := n5_; have BK326 := n6_; have HB := n7_; clear n0_ n1_ n2_ n3_ n4_ n5_ n6_ n7_; (try clear hb); (try clear hb2); (try clear hk); (try clear hi)) | ((with_reducible refine gate_builtin (b := .append) (xs := #[.tmp 101, .tmp 103]) rfl ?_); at_builtin; refine Kd.R_append (Kd.int .i64) (w0 := w) w.heap.size rfl (.tmp 101) (.tmp 103) 47 2 (.int .i64 0) 8 rfl Try.underlying47 info2 rfl (by decide) (by omega) u7 x7_4 t333 [.int .i64 t333] (fun k_ => some k_ ≠ (.slice (some ad327) x13_48.length co95 : Value).ownBlock) (fun _ => False) rfl rfl ?aP (fun _ hk => hk.elim) ?aF ?aO ?aB ?aS ?aL ?_; (case aP => exact rfl); (case aB => exact (by exact h3q HB.out GE303.out GE304.out GE326.out)); (case aF => exact (fun k_ hk => Kd.fresh' (Kd.R_lt (by exact rq HO_13.out)) k_ hk)); (case aO => exact (by exact rq HO_7.out)); (case aS => exact (below_size (by exact h3q HB.out GE303.out GE304.out GE326.out))); (case aL => have := LMc90.out; omega); intro v336 w97 ho hb hg hat; rw [← Ny335.out] at ho; have n0_ := Aside0.mk (Kd.R_over' (by exact rq HO_6.out) (Kd.R_typed (by exact rq HO_7.out)) (by decide) hg); have n1_ := Aside0.mk (Kd.R_after (ok := (fun _ => True)) (by (with_reducible repeat (first | apply Kd.R_alloc | apply Kd.R_drewN | apply Kd.R_drew)); exact Kd.R_mono HO_13.out (fun _ hk => ⟨trivial, hk⟩)) hg hat); have n2_ := Aside0.mk (Kd.R_over' (by exact rq HO_72.out) (Kd.R_typed (by exact rq HO_7.out)) (by decide) hg); have n3_ := Aside0.mk (blk_grown (g := gb303) (Up.up BK303.out) hg (Kd.R_ne HO_7.out BK303.out (by decide))); have n4_ := Aside0.mk (blk_grown (g := gb304) (Up.up BK304.out) hg (Kd.R_ne HO_7.out BK304.out (by decide))); have n5_ := Aside0.mk (blk_grown (g := gb326) (Up.up BK326.out) hg (Kd.R_ne HO_7.out BK326.out (by decide))); have n6_ := Aside0.mk (hb); have n7_ := Aside0.mk (ho); clear HO_6; clear HO_13; clear HO_72; clear BK303; clear BK304; clear BK326; clear HB; clear HO_7; have HO_6 := n0_; have HO_13 := n1_; have HO_72 := n2_; have BK303 := n3_; have BK304 := n4_; have BK326 := n5_; have HB := n6_; have HO337 := n7_; clear n0_ n1_ n2_ n3_ n4_ n5_ n6_ n7_; clear ho hb hg hat))
                 go_roundg k4
                 case measure => have := HJ3.out; have := HK2.out; have := HJ48.out; have := HK4.out; omega
                 case rel => exact ⟨(x6_4), (y335), (wrap64 (x74_4 + 1)), (by first | rfl | (simp; done) | (simp [*]; done)), H', ⟨by have := HJ3.out; have := HK2.out; have := HJ48.out; have := HK4.out; omega⟩, ⟨by exact rq HO_6.out⟩, ⟨by exact rq HO337.out⟩, ⟨by (with_reducible repeat (first | apply Kd.R_alloc | apply Kd.R_drewN | apply Kd.R_drew)); exact Kd.R_mono HO_13.out (fun _ hk => hk.2)⟩, ⟨by (with_reducible repeat (first | apply Kd.R_alloc | apply Kd.R_drewN | apply Kd.R_drew)); exact Kd.R_mono HO_72.out (fun _ hk => trivial)⟩, ⟨by exact bb BK303.out⟩, ⟨by exact bb BK304.out⟩, ⟨by exact h3q HB.out GE303.out GE304.out GE326.out⟩⟩
                ·rw [if_neg c90] at H
                 exact absurd H (by simp)
               ·rw [if_neg c89] at H
                have c89b0 : (t334 == 0) = false := beq_eq_false_iff_ne.mpr c89
                have c89b1 : (t334 != 0) = true := bne_iff_ne.mpr c89
                simp only [Option.some.injEq, Prod.mk.injEq] at H
                obtain ⟨rfl, rfl, rfl⟩ := H
                have p325 : 0 ≤ (x74_4 : Int) := yd
                have q325 : x74_4 < (x9_2.length : Int) := yd
                obtain ⟨ad325, e325, hx325_0, hx325_1, hx325_2, hx325_3, hx325_4, hx325_5, hx325_6, hx325_7, hx325_8, hx325_9, hx325_10, hx325_11, hx325_12⟩ := at_T23 (Kd.R_reads' HO_72.out).2.2 x74_4 p325 q325
                cases e325
                replace p325 := eq_true p325
                replace q325 := eq_true q325
                go_wp2_with (first | ((with_reducible refine gate_dst (N := 15) rfl ?_); refine box_event ?hg (N := 15) ?hd (cs := #[.int .i64 0, .int .i64 0, .int .i64 0, .int .i64 0, .int .i64 0, .int .i64 0, .bool false, .int .i64 0, .int .i64 0, .int .i64 0, .int .i64 0, .int .i64 0, .int .i64 0]) (t := 23) ?hr ?_; (case hd => rfl); (case hg => rfl); (case hr => first | (go_simp; done) | (go_simp; rfl)); intro gb326 hg w98 hbox hb; have n0_ := Aside0.mk (Kd.R_below (by exact rq HO_6.out) hb); have n1_ := Aside0.mk (Kd.R_below (by exact rq HO_7.out) hb); have n2_ := Aside0.mk (Kd.R_below (by exact rq HO_13.out) hb); have n3_ := Aside0.mk (Kd.R_below (Kd.R_elderB (by exact rq HO_72.out) gb326 (Nat.le_of_eq hg.symm)) hb); have n4_ := Aside0.mk (blk_below (g := gb303) (Up.up BK303.out) hb); have n5_ := Aside0.mk (blk_below (g := gb304) (Up.up BK304.out) hb); have n6_ := Aside0.mk (below_step (by exact h2q HB.out GE303.out GE304.out) hb); have n7_ := Aside0.mk (hbox); have n8_ := Aside0.mk ((by rw [hg]; exact (below_size (by exact h2q HB.out GE303.out GE304.out)) : w.heap.size ≤ gb326)); have n9_ := Aside0.mk ((by rw [hg]; exact (below_size (by exact h2q HB.out GE303.out GE304.out)) : w.heap.size ≤ gb326)); have n10_ := Aside0.mk ((by rw [hg]; exact Nat.ne_of_lt (blk_lt (g := gb303) (Up.up BK303.out)) : gb303 ≠ gb326)); have n11_ := Aside0.mk ((by rw [hg]; exact Nat.ne_of_gt (blk_lt (g := gb303) (Up.up BK303.out)) : gb326 ≠ gb303)); have n12_ := Aside0.mk ((by rw [hg]; exact Nat.ne_of_lt (blk_lt (g := gb304) (Up.up BK304.out)) : gb304 ≠ gb326)); have n13_ := Aside0.mk ((by rw [hg]; exact Nat.ne_of_gt (blk_lt (g := gb304) (Up.up BK304.out)) : gb326 ≠ gb304)); clear HO_6; clear HO_7; clear HO_13; clear HO_72; clear BK303; clear BK304; clear HB; have HO_6 := n0_; have HO_7 := n1_; have HO_13 := n2_; have HO_72 := n3_; have BK303 := n4_; have BK304 := n5_; have HB := n6_; have BK326 := n7_; have GW326 := n8_; have GE326 := n9_; have NB303_326 := n10_; have NB326_303 := n11_; have NB304_326 := n12_; have NB326_304 := n13_; clear n0_ n1_ n2_ n3_ n4_ n5_ n6_ n7_ n8_ n9_ n10_ n11_ n12_ n13_; clear hb hbox hg; have hnb99 := NB326_303.out; have hnc99 := NB303_326.out; have hnb100 := NB326_304.out; have hnc100 := NB304_326.out; obtain ⟨hcz101_0, hcz101_1, hcz101_2, hcz101_3, hcz101_4, hcz101_5, hcz101_6, hcz101_7, hcz101_8, hcz101_9, hcz101_10, hcz101_11, hcz101_12, hfz101_0, hfz101_1, hfz101_2, hfz101_3, hfz101_4, hfz101_5, hfz101_6, hfz101_7, hfz101_8, hfz101_9, hfz101_10, hfz101_11, hfz101_12⟩ := lc13 BK326.out; obtain ⟨Ao102, co102, eo102⟩ := Kd.R_slice HO_13.out; subst eo102; have p327 : 0 ≤ (x74_4 : Int) := yd; have q327 : x74_4 < (x13_48.length : Int) := yd; obtain ⟨ad327, e327, hx327_0⟩ := Kd.at_int (Kd.R_reads' HO_13.out).2.2 x74_4 p327 q327; cases e327; have hn327_0 : ad327.block ≠ gb326 := Kd.own_blk (Kd.R_ne HO_13.out BK326.out (by decide)); have hn327_1 : ad327.block ≠ gb326 := Kd.own_blk (Kd.R_ne HO_13.out BK326.out (by decide)); have hn327_2 : ad327.block ≠ gb326 := Kd.own_blk (Kd.R_ne HO_13.out BK326.out (by decide)); have hn327_3 : ad327.block ≠ gb326 := Kd.own_blk (Kd.R_ne HO_13.out BK326.out (by decide)); have hn327_4 : ad327.block ≠ gb326 := Kd.own_blk (Kd.R_ne HO_13.out BK326.out (by decide)); have hn327_5 : ad327.block ≠ gb326 := Kd.own_blk (Kd.R_ne HO_13.out BK326.out (by decide)); have hn327_6 : ad327.block ≠ gb326 := Kd.own_blk (Kd.R_ne HO_13.out BK326.out (by decide)); have hn327_7 : ad327.block ≠ gb326 := Kd.own_blk (Kd.R_ne HO_13.out BK326.out (by decide)); have hn327_8 : ad327.block ≠ gb326 := Kd.own_blk (Kd.R_ne HO_13.out BK326.out (by decide)); have hn327_9 : ad327.block ≠ gb326 := Kd.own_blk (Kd.R_ne HO_13.out BK326.out (by decide)); have hn327_10 : ad327.block ≠ gb326 := Kd.own_blk (Kd.R_ne HO_13.out BK326.out (by decide)); have hn327_11 : ad327.block ≠ gb326 := Kd.own_blk (Kd.R_ne HO_13.out BK326.out (by decide)); have hn327_12 : ad327.block ≠ gb326 := Kd.own_blk (Kd.R_ne HO_13.out BK326.out (by decide)); replace hx327_0 := (cell_far (p := ⟨gb326, 0, none⟩) (by first | (rw [add_block]; exact hn327_0) | (show (Addr.add _ _).block ≠ _; rw [add_block]; exact hn327_0) | exact hn327_0) (.int .i64 ((rd_T23 x9_2 x74_4).f0))).trans hx327_0; replace hx327_0 := (cell_far (p := ⟨gb326, 1, none⟩) (by first | (rw [add_block]; exact hn327_1) | (show (Addr.add _ _).block ≠ _; rw [add_block]; exact hn327_1) | exact hn327_1) (.int .i64 ((rd_T23 x9_2 x74_4).f1))).trans hx327_0; replace hx327_0 := (cell_far (p := ⟨gb326, 2, none⟩) (by first | (rw [add_block]; exact hn327_2) | (show (Addr.add _ _).block ≠ _; rw [add_block]; exact hn327_2) | exact hn327_2) (.int .i64 ((rd_T23 x9_2 x74_4).f2))).trans hx327_0; replace hx327_0 := (cell_far (p := ⟨gb326, 3, none⟩) (by first | (rw [add_block]; exact hn327_3) | (show (Addr.add _ _).block ≠ _; rw [add_block]; exact hn327_3) | exact hn327_3) (.int .i64 ((rd_T23 x9_2 x74_4).f3))).trans hx327_0; replace hx327_0 := (cell_far (p := ⟨gb326, 4, none⟩) (by first | (rw [add_block]; exact hn327_4) | (show (Addr.add _ _).block ≠ _; rw [add_block]; exact hn327_4) | exact hn327_4) (.int .i64 ((rd_T23 x9_2 x74_4).f4))).trans hx327_0; replace hx327_0 := (cell_far (p := ⟨gb326, 5, none⟩) (by first | (rw [add_block]; exact hn327_5) | (show (Addr.add _ _).block ≠ _; rw [add_block]; exact hn327_5) | exact hn327_5) (.int .i64 ((rd_T23 x9_2 x74_4).f5))).trans hx327_0; replace hx327_0 := (cell_far (p := ⟨gb326, 6, none⟩) (by first | (rw [add_block]; exact hn327_6) | (show (Addr.add _ _).block ≠ _; rw [add_block]; exact hn327_6) | exact hn327_6) (.bool ((rd_T23 x9_2 x74_4).f6))).trans hx327_0; replace hx327_0 := (cell_far (p := ⟨gb326, 7, none⟩) (by first | (rw [add_block]; exact hn327_7) | (show (Addr.add _ _).block ≠ _; rw [add_block]; exact hn327_7) | exact hn327_7) (.int .i64 ((rd_T23 x9_2 x74_4).f7))).trans hx327_0; replace hx327_0 := (cell_far (p := ⟨gb326, 8, none⟩) (by first | (rw [add_block]; exact hn327_8) | (show (Addr.add _ _).block ≠ _; rw [add_block]; exact hn327_8) | exact hn327_8) (.int .i64 ((rd_T23 x9_2 x74_4).f8))).trans hx327_0; replace hx327_0 := (cell_far (p := ⟨gb326, 9, none⟩) (by first | (rw [add_block]; exact hn327_9) | (show (Addr.add _ _).block ≠ _; rw [add_block]; exact hn327_9) | exact hn327_9) (.int .i64 ((rd_T23 x9_2 x74_4).f9))).trans hx327_0; replace hx327_0 := (cell_far (p := ⟨gb326, 10, none⟩) (by first | (rw [add_block]; exact hn327_10) | (show (Addr.add _ _).block ≠ _; rw [add_block]; exact hn327_10) | exact hn327_10) (.int .i64 ((rd_T23 x9_2 x74_4).f10))).trans hx327_0; replace hx327_0 := (cell_far (p := ⟨gb326, 11, none⟩) (by first | (rw [add_block]; exact hn327_11) | (show (Addr.add _ _).block ≠ _; rw [add_block]; exact hn327_11) | exact hn327_11) (.int .i64 ((rd_T23 x9_2 x74_4).f11))).trans hx327_0; replace hx327_0 := (cell_far (p := ⟨gb326, 12, none⟩) (by first | (rw [add_block]; exact hn327_12) | (show (Addr.add _ _).block ≠ _; rw [add_block]; exact hn327_12) | exact hn327_12) (.int .i64 ((rd_T23 x9_2 x74_4).f12))).trans hx327_0; clear hn327_0; clear hn327_1; clear hn327_2; clear hn327_3; clear hn327_4; clear hn327_5; clear hn327_6; clear hn327_7; clear hn327_8; clear hn327_9; clear hn327_10; clear hn327_11; clear hn327_12; replace p327 := eq_true p327; replace q327 := eq_true q327) | ((with_reducible refine gate_callee (f := 15) rfl ?_); refine goesL_ (some 95) rfl rfl Try.func15 (by kernel_rfl) rfl #[.agg #[.int .i64 ((rd_T23 x9_2 x74_4).f0), .int .i64 ((rd_T23 x9_2 x74_4).f1), .int .i64 ((rd_T23 x9_2 x74_4).f2), .int .i64 ((rd_T23 x9_2 x74_4).f3), .int .i64 ((rd_T23 x9_2 x74_4).f4), .int .i64 ((rd_T23 x9_2 x74_4).f5), .bool ((rd_T23 x9_2 x74_4).f6), .int .i64 ((rd_T23 x9_2 x74_4).f7), .int .i64 ((rd_T23 x9_2 x74_4).f8), .int .i64 ((rd_T23 x9_2 x74_4).f9), .int .i64 ((rd_T23 x9_2 x74_4).f10), .int .i64 ((rd_T23 x9_2 x74_4).f11), .int .i64 ((rd_T23 x9_2 x74_4).f12)], .int .i64 t317, .int .i64 a2] rfl (by (try simp only [List.map_toArray, List.map_cons, List.map_nil]); first | done | rfl | (simp only [List.length_drop, List.length_take]; rfl)) ?_; (with_reducible refine (plan_Of.calls k4 ((rd_T23 x9_2 x74_4).f0) ((rd_T23 x9_2 x74_4).f1) ((rd_T23 x9_2 x74_4).f2) ((rd_T23 x9_2 x74_4).f3) ((rd_T23 x9_2 x74_4).f4) ((rd_T23 x9_2 x74_4).f5) ((rd_T23 x9_2 x74_4).f6) ((rd_T23 x9_2 x74_4).f7) ((rd_T23 x9_2 x74_4).f8) ((rd_T23 x9_2 x74_4).f9) ((rd_T23 x9_2 x74_4).f10) ((rd_T23 x9_2 x74_4).f11) ((rd_T23 x9_2 x74_4).f12) t317 a2 t333 t334 _ A88.out).mono ?_); rintro e w103 ⟨rfl, hb⟩; refine ⟨_, rfl, ?_⟩; have n0_ := Aside0.mk (Kd.R_below (by (with_reducible repeat (first | apply Kd.R_alloc | apply Kd.R_drewN | apply Kd.R_drew)); exact (Kd.R_mono (Kd.R_far (p := ⟨gb326, 12, none⟩) (Kd.R_far (p := ⟨gb326, 11, none⟩) (Kd.R_far (p := ⟨gb326, 10, none⟩) (Kd.R_far (p := ⟨gb326, 9, none⟩) (Kd.R_far (p := ⟨gb326, 8, none⟩) (Kd.R_far (p := ⟨gb326, 7, none⟩) (Kd.R_far (p := ⟨gb326, 6, none⟩) (Kd.R_far (p := ⟨gb326, 5, none⟩) (Kd.R_far (p := ⟨gb326, 4, none⟩) (Kd.R_far (p := ⟨gb326, 3, none⟩) (Kd.R_far (p := ⟨gb326, 2, none⟩) (Kd.R_far (p := ⟨gb326, 1, none⟩) (Kd.R_far (p := ⟨gb326, 0, none⟩) (Kd.R_types HO_6.out BK326.out (by decide)) (fun _ hk => hk.2) (.int .i64 ((rd_T23 x9_2 x74_4).f0))) (fun _ hk => hk.2) (.int .i64 ((rd_T23 x9_2 x74_4).f1))) (fun _ hk => hk.2) (.int .i64 ((rd_T23 x9_2 x74_4).f2))) (fun _ hk => hk.2) (.int .i64 ((rd_T23 x9_2 x74_4).f3))) (fun _ hk => hk.2) (.int .i64 ((rd_T23 x9_2 x74_4).f4))) (fun _ hk => hk.2) (.int .i64 ((rd_T23 x9_2 x74_4).f5))) (fun _ hk => hk.2) (.bool ((rd_T23 x9_2 x74_4).f6))) (fun _ hk => hk.2) (.int .i64 ((rd_T23 x9_2 x74_4).f7))) (fun _ hk => hk.2) (.int .i64 ((rd_T23 x9_2 x74_4).f8))) (fun _ hk => hk.2) (.int .i64 ((rd_T23 x9_2 x74_4).f9))) (fun _ hk => hk.2) (.int .i64 ((rd_T23 x9_2 x74_4).f10))) (fun _ hk => hk.2) (.int .i64 ((rd_T23 x9_2 x74_4).f11))) (fun _ hk => hk.2) (.int .i64 ((rd_T23 x9_2 x74_4).f12))) (fun _ h_ => h_.1))) hb); have n1_ := Aside0.mk (Kd.R_below (by (with_reducible repeat (first | apply Kd.R_alloc | apply Kd.R_drewN | apply Kd.R_drew)); exact (Kd.R_mono (Kd.R_far (p := ⟨gb326, 12, none⟩) (Kd.R_far (p := ⟨gb326, 11, none⟩) (Kd.R_far (p := ⟨gb326, 10, none⟩) (Kd.R_far (p := ⟨gb326, 9, none⟩) (Kd.R_far (p := ⟨gb326, 8, none⟩) (Kd.R_far (p := ⟨gb326, 7, none⟩) (Kd.R_far (p := ⟨gb326, 6, none⟩) (Kd.R_far (p := ⟨gb326, 5, none⟩) (Kd.R_far (p := ⟨gb326, 4, none⟩) (Kd.R_far (p := ⟨gb326, 3, none⟩) (Kd.R_far (p := ⟨gb326, 2, none⟩) (Kd.R_far (p := ⟨gb326, 1, none⟩) (Kd.R_far (p := ⟨gb326, 0, none⟩) (Kd.R_types HO_7.out BK326.out (by decide)) (fun _ hk => hk.2) (.int .i64 ((rd_T23 x9_2 x74_4).f0))) (fun _ hk => hk.2) (.int .i64 ((rd_T23 x9_2 x74_4).f1))) (fun _ hk => hk.2) (.int .i64 ((rd_T23 x9_2 x74_4).f2))) (fun _ hk => hk.2) (.int .i64 ((rd_T23 x9_2 x74_4).f3))) (fun _ hk => hk.2) (.int .i64 ((rd_T23 x9_2 x74_4).f4))) (fun _ hk => hk.2) (.int .i64 ((rd_T23 x9_2 x74_4).f5))) (fun _ hk => hk.2) (.bool ((rd_T23 x9_2 x74_4).f6))) (fun _ hk => hk.2) (.int .i64 ((rd_T23 x9_2 x74_4).f7))) (fun _ hk => hk.2) (.int .i64 ((rd_T23 x9_2 x74_4).f8))) (fun _ hk => hk.2) (.int .i64 ((rd_T23 x9_2 x74_4).f9))) (fun _ hk => hk.2) (.int .i64 ((rd_T23 x9_2 x74_4).f10))) (fun _ hk => hk.2) (.int .i64 ((rd_T23 x9_2 x74_4).f11))) (fun _ hk => hk.2) (.int .i64 ((rd_T23 x9_2 x74_4).f12))) (fun _ h_ => h_.1))) hb); have n2_ := Aside0.mk (Kd.R_below (by (with_reducible repeat (first | apply Kd.R_alloc | apply Kd.R_drewN | apply Kd.R_drew)); exact (Kd.R_mono (Kd.R_far (p := ⟨gb326, 12, none⟩) (Kd.R_far (p := ⟨gb326, 11, none⟩) (Kd.R_far (p := ⟨gb326, 10, none⟩) (Kd.R_far (p := ⟨gb326, 9, none⟩) (Kd.R_far (p := ⟨gb326, 8, none⟩) (Kd.R_far (p := ⟨gb326, 7, none⟩) (Kd.R_far (p := ⟨gb326, 6, none⟩) (Kd.R_far (p := ⟨gb326, 5, none⟩) (Kd.R_far (p := ⟨gb326, 4, none⟩) (Kd.R_far (p := ⟨gb326, 3, none⟩) (Kd.R_far (p := ⟨gb326, 2, none⟩) (Kd.R_far (p := ⟨gb326, 1, none⟩) (Kd.R_far (p := ⟨gb326, 0, none⟩) (Kd.R_types HO_13.out BK326.out (by decide)) (fun _ hk => hk.2) (.int .i64 ((rd_T23 x9_2 x74_4).f0))) (fun _ hk => hk.2) (.int .i64 ((rd_T23 x9_2 x74_4).f1))) (fun _ hk => hk.2) (.int .i64 ((rd_T23 x9_2 x74_4).f2))) (fun _ hk => hk.2) (.int .i64 ((rd_T23 x9_2 x74_4).f3))) (fun _ hk => hk.2) (.int .i64 ((rd_T23 x9_2 x74_4).f4))) (fun _ hk => hk.2) (.int .i64 ((rd_T23 x9_2 x74_4).f5))) (fun _ hk => hk.2) (.bool ((rd_T23 x9_2 x74_4).f6))) (fun _ hk => hk.2) (.int .i64 ((rd_T23 x9_2 x74_4).f7))) (fun _ hk => hk.2) (.int .i64 ((rd_T23 x9_2 x74_4).f8))) (fun _ hk => hk.2) (.int .i64 ((rd_T23 x9_2 x74_4).f9))) (fun _ hk => hk.2) (.int .i64 ((rd_T23 x9_2 x74_4).f10))) (fun _ hk => hk.2) (.int .i64 ((rd_T23 x9_2 x74_4).f11))) (fun _ hk => hk.2) (.int .i64 ((rd_T23 x9_2 x74_4).f12))) (fun _ h_ => h_.1))) hb); have n3_ := Aside0.mk (Kd.R_below (by (with_reducible repeat (first | apply Kd.R_alloc | apply Kd.R_drewN | apply Kd.R_drew)); exact (Kd.R_mono (Kd.R_far (p := ⟨gb326, 12, none⟩) (Kd.R_far (p := ⟨gb326, 11, none⟩) (Kd.R_far (p := ⟨gb326, 10, none⟩) (Kd.R_far (p := ⟨gb326, 9, none⟩) (Kd.R_far (p := ⟨gb326, 8, none⟩) (Kd.R_far (p := ⟨gb326, 7, none⟩) (Kd.R_far (p := ⟨gb326, 6, none⟩) (Kd.R_far (p := ⟨gb326, 5, none⟩) (Kd.R_far (p := ⟨gb326, 4, none⟩) (Kd.R_far (p := ⟨gb326, 3, none⟩) (Kd.R_far (p := ⟨gb326, 2, none⟩) (Kd.R_far (p := ⟨gb326, 1, none⟩) (Kd.R_far (p := ⟨gb326, 0, none⟩) (Kd.R_mono HO_72.out (fun k_ hk => (⟨hk, hk.2⟩ : _ ∧ k_ ≠ gb326))) (fun _ hk => hk.2) (.int .i64 ((rd_T23 x9_2 x74_4).f0))) (fun _ hk => hk.2) (.int .i64 ((rd_T23 x9_2 x74_4).f1))) (fun _ hk => hk.2) (.int .i64 ((rd_T23 x9_2 x74_4).f2))) (fun _ hk => hk.2) (.int .i64 ((rd_T23 x9_2 x74_4).f3))) (fun _ hk => hk.2) (.int .i64 ((rd_T23 x9_2 x74_4).f4))) (fun _ hk => hk.2) (.int .i64 ((rd_T23 x9_2 x74_4).f5))) (fun _ hk => hk.2) (.bool ((rd_T23 x9_2 x74_4).f6))) (fun _ hk => hk.2) (.int .i64 ((rd_T23 x9_2 x74_4).f7))) (fun _ hk => hk.2) (.int .i64 ((rd_T23 x9_2 x74_4).f8))) (fun _ hk => hk.2) (.int .i64 ((rd_T23 x9_2 x74_4).f9))) (fun _ hk => hk.2) (.int .i64 ((rd_T23 x9_2 x74_4).f10))) (fun _ hk => hk.2) (.int .i64 ((rd_T23 x9_2 x74_4).f11))) (fun _ hk => hk.2) (.int .i64 ((rd_T23 x9_2 x74_4).f12))) (fun _ h_ => h_.1))) hb); have n4_ := Aside0.mk (blk_below (g := gb303) (o := .cells #[.int .i64 a0_0, .slice A0_1 l0_1.length c0_1] 51 (0, 0)) (by (iterate 13 ((with_reducible repeat (first | refine blk_drewN ?_ _ | refine blk_drew ?_ | refine blk_alloc ?_ _)); refine blk_far ?_ NB303_326.out _)); (with_reducible repeat (first | refine blk_drewN ?_ _ | refine blk_drew ?_ | refine blk_alloc ?_ _)); exact BK303.out) hb); have n5_ := Aside0.mk (blk_below (g := gb304) (o := .cells #[.int .i64 a1_0, .slice A1_1 l1_1.length c1_1, .int .i64 a1_2, .int .i64 a1_3, .int .i64 a1_4, .int .i64 a1_5, .slice A1_6 l1_6.length c1_6, .int .i64 a1_7, .int .i64 a1_8, .int .i64 a1_9, .int .i64 a1_10, .int .i64 a1_11, .int .i64 a1_12] 38 (0, 0)) (by (iterate 13 ((with_reducible repeat (first | refine blk_drewN ?_ _ | refine blk_drew ?_ | refine blk_alloc ?_ _)); refine blk_far ?_ NB304_326.out _)); (with_reducible repeat (first | refine blk_drewN ?_ _ | refine blk_drew ?_ | refine blk_alloc ?_ _)); exact BK304.out) hb); have n6_ := Aside0.mk (blk_below (g := gb326) (o := .cells #[.int .i64 ((rd_T23 x9_2 x74_4).f0), .int .i64 ((rd_T23 x9_2 x74_4).f1), .int .i64 ((rd_T23 x9_2 x74_4).f2), .int .i64 ((rd_T23 x9_2 x74_4).f3), .int .i64 ((rd_T23 x9_2 x74_4).f4), .int .i64 ((rd_T23 x9_2 x74_4).f5), .bool ((rd_T23 x9_2 x74_4).f6), .int .i64 ((rd_T23 x9_2 x74_4).f7), .int .i64 ((rd_T23 x9_2 x74_4).f8), .int .i64 ((rd_T23 x9_2 x74_4).f9), .int .i64 ((rd_T23 x9_2 x74_4).f10), .int .i64 ((rd_T23 x9_2 x74_4).f11), .int .i64 ((rd_T23 x9_2 x74_4).f12)] 23 (0, 0)) (by (with_reducible repeat (first | refine blk_drewN ?_ _ | refine blk_drew ?_ | refine blk_alloc ?_ _)); refine blk_put (cs := #[.int .i64 ((rd_T23 x9_2 x74_4).f0), .int .i64 ((rd_T23 x9_2 x74_4).f1), .int .i64 ((rd_T23 x9_2 x74_4).f2), .int .i64 ((rd_T23 x9_2 x74_4).f3), .int .i64 ((rd_T23 x9_2 x74_4).f4), .int .i64 ((rd_T23 x9_2 x74_4).f5), .bool ((rd_T23 x9_2 x74_4).f6), .int .i64 ((rd_T23 x9_2 x74_4).f7), .int .i64 ((rd_T23 x9_2 x74_4).f8), .int .i64 ((rd_T23 x9_2 x74_4).f9), .int .i64 ((rd_T23 x9_2 x74_4).f10), .int .i64 ((rd_T23 x9_2 x74_4).f11), .int .i64 0]) ?_ 12 _ rfl; (with_reducible repeat (first | refine blk_drewN ?_ _ | refine blk_drew ?_ | refine blk_alloc ?_ _)); refine blk_put (cs := #[.int .i64 ((rd_T23 x9_2 x74_4).f0), .int .i64 ((rd_T23 x9_2 x74_4).f1), .int .i64 ((rd_T23 x9_2 x74_4).f2), .int .i64 ((rd_T23 x9_2 x74_4).f3), .int .i64 ((rd_T23 x9_2 x74_4).f4), .int .i64 ((rd_T23 x9_2 x74_4).f5), .bool ((rd_T23 x9_2 x74_4).f6), .int .i64 ((rd_T23 x9_2 x74_4).f7), .int .i64 ((rd_T23 x9_2 x74_4).f8), .int .i64 ((rd_T23 x9_2 x74_4).f9), .int .i64 ((rd_T23 x9_2 x74_4).f10), .int .i64 0, .int .i64 0]) ?_ 11 _ rfl; (with_reducible repeat (first | refine blk_drewN ?_ _ | refine blk_drew ?_ | refine blk_alloc ?_ _)); refine blk_put (cs := #[.int .i64 ((rd_T23 x9_2 x74_4).f0), .int .i64 ((rd_T23 x9_2 x74_4).f1), .int .i64 ((rd_T23 x9_2 x74_4).f2), .int .i64 ((rd_T23 x9_2 x74_4).f3), .int .i64 ((rd_T23 x9_2 x74_4).f4), .int .i64 ((rd_T23 x9_2 x74_4).f5), .bool ((rd_T23 x9_2 x74_4).f6), .int .i64 ((rd_T23 x9_2 x74_4).f7), .int .i64 ((rd_T23 x9_2 x74_4).f8), .int .i64 ((rd_T23 x9_2 x74_4).f9), .int .i64 0, .int .i64 0, .int .i64 0]) ?_ 10 _ rfl; (with_reducible repeat (first | refine blk_drewN ?_ _ | refine blk_drew ?_ | refine blk_alloc ?_ _)); refine blk_put (cs := #[.int .i64 ((rd_T23 x9_2 x74_4).f0), .int .i64 ((rd_T23 x9_2 x74_4).f1), .int .i64 ((rd_T23 x9_2 x74_4).f2), .int .i64 ((rd_T23 x9_2 x74_4).f3), .int .i64 ((rd_T23 x9_2 x74_4).f4), .int .i64 ((rd_T23 x9_2 x74_4).f5), .bool ((rd_T23 x9_2 x74_4).f6), .int .i64 ((rd_T23 x9_2 x74_4).f7), .int .i64 ((rd_T23 x9_2 x74_4).f8), .int .i64 0, .int .i64 0, .int .i64 0, .int .i64 0]) ?_ 9 _ rfl; (with_reducible repeat (first | refine blk_drewN ?_ _ | refine blk_drew ?_ | refine blk_alloc ?_ _)); refine blk_put (cs := #[.int .i64 ((rd_T23 x9_2 x74_4).f0), .int .i64 ((rd_T23 x9_2 x74_4).f1), .int .i64 ((rd_T23 x9_2 x74_4).f2), .int .i64 ((rd_T23 x9_2 x74_4).f3), .int .i64 ((rd_T23 x9_2 x74_4).f4), .int .i64 ((rd_T23 x9_2 x74_4).f5), .bool ((rd_T23 x9_2 x74_4).f6), .int .i64 ((rd_T23 x9_2 x74_4).f7), .int .i64 0, .int .i64 0, .int .i64 0, .int .i64 0, .int .i64 0]) ?_ 8 _ rfl; (with_reducible repeat (first | refine blk_drewN ?_ _ | refine blk_drew ?_ | refine blk_alloc ?_ _)); refine blk_put (cs := #[.int .i64 ((rd_T23 x9_2 x74_4).f0), .int .i64 ((rd_T23 x9_2 x74_4).f1), .int .i64 ((rd_T23 x9_2 x74_4).f2), .int .i64 ((rd_T23 x9_2 x74_4).f3), .int .i64 ((rd_T23 x9_2 x74_4).f4), .int .i64 ((rd_T23 x9_2 x74_4).f5), .bool ((rd_T23 x9_2 x74_4).f6), .int .i64 0, .int .i64 0, .int .i64 0, .int .i64 0, .int .i64 0, .int .i64 0]) ?_ 7 _ rfl; (with_reducible repeat (first | refine blk_drewN ?_ _ | refine blk_drew ?_ | refine blk_alloc ?_ _)); refine blk_put (cs := #[.int .i64 ((rd_T23 x9_2 x74_4).f0), .int .i64 ((rd_T23 x9_2 x74_4).f1), .int .i64 ((rd_T23 x9_2 x74_4).f2), .int .i64 ((rd_T23 x9_2 x74_4).f3), .int .i64 ((rd_T23 x9_2 x74_4).f4), .int .i64 ((rd_T23 x9_2 x74_4).f5), .bool false, .int .i64 0, .int .i64 0, .int .i64 0, .int .i64 0, .int .i64 0, .int .i64 0]) ?_ 6 _ rfl; (with_reducible repeat (first | refine blk_drewN ?_ _ | refine blk_drew ?_ | refine blk_alloc ?_ _)); refine blk_put (cs := #[.int .i64 ((rd_T23 x9_2 x74_4).f0), .int .i64 ((rd_T23 x9_2 x74_4).f1), .int .i64 ((rd_T23 x9_2 x74_4).f2), .int .i64 ((rd_T23 x9_2 x74_4).f3), .int .i64 ((rd_T23 x9_2 x74_4).f4), .int .i64 0, .bool false, .int .i64 0, .int .i64 0, .int .i64 0, .int .i64 0, .int .i64 0, .int .i64 0]) ?_ 5 _ rfl; (with_reducible repeat (first | refine blk_drewN ?_ _ | refine blk_drew ?_ | refine blk_alloc ?_ _)); refine blk_put (cs := #[.int .i64 ((rd_T23 x9_2 x74_4).f0), .int .i64 ((rd_T23 x9_2 x74_4).f1), .int .i64 ((rd_T23 x9_2 x74_4).f2), .int .i64 ((rd_T23 x9_2 x74_4).f3), .int .i64 0, .int .i64 0, .bool false, .int .i64 0, .int .i64 0, .int .i64 0, .int .i64 0, .int .i64 0, .int .i64 0]) ?_ 4 _ rfl; (with_reducible repeat (first | refine blk_drewN ?_ _ | refine blk_drew ?_ | refine blk_alloc ?_ _)); refine blk_put (cs := #[.int .i64 ((rd_T23 x9_2 x74_4).f0), .int .i64 ((rd_T23 x9_2 x74_4).f1), .int .i64 ((rd_T23 x9_2 x74_4).f2), .int .i64 0, .int .i64 0, .int .i64 0, .bool false, .int .i64 0, .int .i64 0, .int .i64 0, .int .i64 0, .int .i64 0, .int .i64 0]) ?_ 3 _ rfl; (with_reducible repeat (first | refine blk_drewN ?_ _ | refine blk_drew ?_ | refine blk_alloc ?_ _)); refine blk_put (cs := #[.int .i64 ((rd_T23 x9_2 x74_4).f0), .int .i64 ((rd_T23 x9_2 x74_4).f1), .int .i64 0, .int .i64 0, .int .i64 0, .int .i64 0, .bool false, .int .i64 0, .int .i64 0, .int .i64 0, .int .i64 0, .int .i64 0, .int .i64 0]) ?_ 2 _ rfl; (with_reducible repeat (first | refine blk_drewN ?_ _ | refine blk_drew ?_ | refine blk_alloc ?_ _)); refine blk_put (cs := #[.int .i64 ((rd_T23 x9_2 x74_4).f0), .int .i64 0, .int .i64 0, .int .i64 0, .int .i64 0, .int .i64 0, .bool false, .int .i64 0, .int .i64 0, .int .i64 0, .int .i64 0, .int .i64 0, .int .i64 0]) ?_ 1 _ rfl; (with_reducible repeat (first | refine blk_drewN ?_ _ | refine blk_drew ?_ | refine blk_alloc ?_ _)); refine blk_put (cs := #[.int .i64 0, .int .i64 0, .int .i64 0, .int .i64 0, .int .i64 0, .int .i64 0, .bool false, .int .i64 0, .int .i64 0, .int .i64 0, .int .i64 0, .int .i64 0, .int .i64 0]) ?_ 0 _ rfl; (with_reducible repeat (first | refine blk_drewN ?_ _ | refine blk_drew ?_ | refine blk_alloc ?_ _)); exact BK326.out) hb); have n7_ := Aside0.mk (below_step (by exact h3q HB.out GE303.out GE304.out GE326.out) hb); clear HO_6; clear HO_7; clear HO_13; clear HO_72; clear BK303; clear BK304; clear BK326; clear HB; have HO_6 := n0_; have HO_7 := n1_; have HO_13 := n2_; have HO_72 := n3_; have BK303 := n4_; have BK304 := n5_; have BK326 := n6_; have HB := n7_; clear n0_ n1_ n2_ n3_ n4_ n5_ n6_ n7_; (try clear hb); (try clear hb2); (try clear hk); (try clear hi)))
                go_ret3
                exact ⟨_, _, by first | rfl | (simp [errW_none, errW_some] <;> rfl) | (simp [*, errW_none, errW_some] <;> rfl), by first | exact Kd.R_nil _ _ _ _ _ | exact Kd.N_nil _ _ _ _ _ | exact Kd.V_nil _ _ _ _ _ | exact Kd.Q_nil _ _ _ _ _ | exact Kd.S_nil _ _ _ _ _, by first | exact Kd.R_nil _ _ _ _ _ | exact Kd.N_nil _ _ _ _ _ | exact Kd.V_nil _ _ _ _ _ | exact Kd.Q_nil _ _ _ _ _ | exact Kd.S_nil _ _ _ _ _, by exact h3q HB.out GE303.out GE304.out GE326.out⟩
             ·rw [if_neg c70] at H
              exact absurd H (by simp)
            ·rw [if_neg c69] at H
             exact absurd H (by simp)
           ·rw [if_neg c68] at H
            exact absurd H (by simp)
          ·rw [if_neg c67] at H
           have c67b0 : decide (x74_4 < (x9_2.length : Int)) = false := decide_eq_false c67
           clear c67
           simp only [Option.some.injEq, Prod.mk.injEq] at H
           obtain ⟨rfl, rfl, rfl⟩ := H
           go_wp2
           go_ret3
           exact ⟨_, _, by first | rfl | (simp [errW_none, errW_some] <;> rfl) | (simp [*, errW_none, errW_some] <;> rfl), by (with_reducible repeat (first | apply Kd.R_alloc | apply Kd.R_drewN | apply Kd.R_drew)); exact HO_6.out, by (with_reducible repeat (first | apply Kd.R_alloc | apply Kd.R_drewN | apply Kd.R_drew)); exact Kd.R_mono HO_7.out (fun _ hk => trivial), by exact h2q HB.out GE303.out GE304.out⟩
       ·rw [if_neg c48] at H
        exact absurd H (by simp)
      ·rw [if_neg c47] at H
       exact absurd H (by simp)

end Go.Proofs.Ytlhcohipnieidaa.P
