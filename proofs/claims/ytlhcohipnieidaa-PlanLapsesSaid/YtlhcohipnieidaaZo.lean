/- plan.asks (a map of three function literals) and plan.Of (a look-up in it, and a call of what was found): walked by hand. -/
import Derived.Test.YtlhcohipnieidaaPx1
import Derived.Test.YtlhcohipnieidaaPx17
import Derived.Test.YtlhcohipnieidaaPx18
import Derived.Test.YtlhcohipnieidaaPx24
import Derived.MapKept
import Derived.ChangeMaps5
import Derived.Carry
namespace Go.Proofs.Ytlhcohipnieidaa.P
open Go.RowKit Go.Proofs.YtlhcohipnieidaaW.PrintWords Go.Proofs.YtlhcohipnieidaaW.PrintLast Go.Proofs.YtlhcohipnieidaaW.PrintMore
attribute [local go_sem] max2_int min2_int max_two min_two max_three min_three max_four min_four   -- for this text's walks alone
set_option linter.unusedVariables false
set_option linter.unusedSimpArgs false
/-- The three entries. -/
def plan_asks.es : Array MapEntry := #[{ key := .int .i64 1, val := .func (.func 44) #[] #[], born := 0 }, { key := .int .i64 2, val := .func (.func 45) #[] #[], born := 1 }, { key := .int .i64 3, val := .func (.func 46) #[] #[], born := 2 }]
/-- An entry more in a map of whole numbers. -/
theorem plan_asks.put {w : World} {r clock B : Nat} {es : Array MapEntry} {a : Int} {val : Value} (hb : w.heap[r]? = some (.map es clock)) (hf : Instr.findNow (.int .i64) (.int .i64 a) es.toList 0 = some none) (hB : B ≤ r) :
  ∃ w', Sem.run Try.prog (Instr.mapUpdate 64 (.map (some r)) (.int .i64 a) val) w = .ok () w' ∧ w'.heap[r]? = some (.map (es.push { key := .int .i64 a, val := val, born := clock }) (clock + 1)) ∧ Below B w w' := by
 have hu := Try.underlying64
 have hk := Try.underlying3
 have hc : (Instr.checkKey false 10000 3 (.int .i64 a)).run Try.prog w = .ok () w := MapKept.run_checkKey hk (by simp [MapKept.IsKey]) false 9999
 refine ⟨ChangeMaps.setBlock w r (.map (es.push { key := .int .i64 a, val := val, born := clock }) (clock + 1)), ?_, ChangeMaps.heap_setBlock_same hb _, ⟨rfl, rfl, rfl, by simp [ChangeMaps.setBlock], fun i hi => ChangeMaps.heap_setBlock_other hb _ (by omega)⟩⟩
 simp [Instr.mapUpdate, run_underlying hu, MapKept.run_getObj_map hb, hc, MapKept.run_findKey hk hf, MapKept.run_setObj_map _ hb, Result.andThen, ChangeMaps.setBlock]
set_option maxHeartbeats 8000000 in
set_option maxRecDepth 100000 in
theorem plan_asks.calls (w : World) :
  Calls Try.prog 29 #[] w fun e w' => ∃ g, e = .returned (.map (some g)) ∧ w'.heap[g]? = some (.map plan_asks.es 3) ∧ w.heap.size ≤ g ∧ Below w.heap.size w w' := by
 have hm : ∀ w1, Sem.run Try.prog (Instr.makeMap 64 none) w1 = .ok (.map (some w1.heap.size)) (w1.alloc (.map #[] 0)) := fun w1 => run_makeMap _ w1
 have e0 : (w.alloc (.map #[] 0)).heap[w.heap.size]? = some (.map #[] 0) := (MapKept.heap_alloc w _).1
 have b0 : Below w.heap.size w (w.alloc (.map #[] 0)) := below_alloc (Below.refl _ _) _
 obtain ⟨w1, h1, e1, b1⟩ := plan_asks.put (B := w.heap.size) (a := 1) (val := .func (.func 44) #[] #[]) e0 rfl (Nat.le_refl _)
 obtain ⟨w2, h2, e2, b2⟩ := plan_asks.put (B := w.heap.size) (a := 2) (val := .func (.func 45) #[] #[]) e1 rfl (Nat.le_refl _)
 obtain ⟨w3, h3, e3, b3⟩ := plan_asks.put (B := w.heap.size) (a := 3) (val := .func (.func 46) #[] #[]) e2 rfl (Nat.le_refl _)
 have HE : Aside0 (w3.heap[w.heap.size]? = some (.map plan_asks.es 3)) := ⟨e3⟩
 have HB : Aside0 (Below w.heap.size w w3) := ⟨((b0.trans b1).trans b2).trans b3⟩
 clear e0 e1 e2 e3 b0 b1 b2 b3
 go_enter Try.func29, Try.ntmps29
 go_wp2
 go_ret
 exact ⟨w.heap.size, rfl, HE.out, Nat.le_refl _, HB.out⟩
-- OF
/-- A look-up among the three. -/
theorem plan_asks.look1 {w : World} {g : Nat} (hb : w.heap[g]? = some (.map plan_asks.es 3)) : Sem.run Try.prog (Instr.lookup 64 (.map (some g)) (.int .i64 1) false) w = .ok (.func (.func 44) #[] #[]) w := by
 have hu := Try.underlying64
 have hk := Try.underlying3
 have hc : (Instr.checkKey false 10000 3 (.int .i64 1)).run Try.prog w = .ok () w := MapKept.run_checkKey hk (by simp [MapKept.IsKey]) false 9999
 have hf : Instr.findNow (.int .i64) (.int .i64 1) plan_asks.es.toList 0 = some (some (0, .func (.func 44) #[] #[])) := rfl
 have he : plan_asks.es.isEmpty = false := rfl
 simp [Instr.lookup, run_underlying hu, MapKept.run_getObj_map hb, he, hc, MapKept.run_findKey hk hf, Result.andThen]
theorem plan_asks.look2 {w : World} {g : Nat} (hb : w.heap[g]? = some (.map plan_asks.es 3)) : Sem.run Try.prog (Instr.lookup 64 (.map (some g)) (.int .i64 2) false) w = .ok (.func (.func 45) #[] #[]) w := by
 have hu := Try.underlying64
 have hk := Try.underlying3
 have hc : (Instr.checkKey false 10000 3 (.int .i64 2)).run Try.prog w = .ok () w := MapKept.run_checkKey hk (by simp [MapKept.IsKey]) false 9999
 have hf : Instr.findNow (.int .i64) (.int .i64 2) plan_asks.es.toList 0 = some (some (1, .func (.func 45) #[] #[])) := rfl
 have he : plan_asks.es.isEmpty = false := rfl
 simp [Instr.lookup, run_underlying hu, MapKept.run_getObj_map hb, he, hc, MapKept.run_findKey hk hf, Result.andThen]
theorem plan_asks.look3 {w : World} {g : Nat} (hb : w.heap[g]? = some (.map plan_asks.es 3)) : Sem.run Try.prog (Instr.lookup 64 (.map (some g)) (.int .i64 3) false) w = .ok (.func (.func 46) #[] #[]) w := by
 have hu := Try.underlying64
 have hk := Try.underlying3
 have hc : (Instr.checkKey false 10000 3 (.int .i64 3)).run Try.prog w = .ok () w := MapKept.run_checkKey hk (by simp [MapKept.IsKey]) false 9999
 have hf : Instr.findNow (.int .i64) (.int .i64 3) plan_asks.es.toList 0 = some (some (2, .func (.func 46) #[] #[])) := rfl
 have he : plan_asks.es.isEmpty = false := rfl
 simp [Instr.lookup, run_underlying hu, MapKept.run_getObj_map hb, he, hc, MapKept.run_findKey hk hf, Result.andThen]
theorem plan_asks.find0 (a : Int) (h : ¬ (1 ≤ a ∧ a ≤ 3)) : Instr.findNow (.int .i64) (.int .i64 a) plan_asks.es.toList 0 = some none := by
 have h1 : (a == 1) = false := beq_eq_false_iff_ne.mpr (by omega)
 have h2 : (a == 2) = false := beq_eq_false_iff_ne.mpr (by omega)
 have h3 : (a == 3) = false := beq_eq_false_iff_ne.mpr (by omega)
 simp [plan_asks.es, Instr.findNow, Instr.sameNow, h1, h2, h3]
theorem plan_asks.look0 {w : World} {g : Nat} (a : Int) (h : ¬ (1 ≤ a ∧ a ≤ 3)) (hb : w.heap[g]? = some (.map plan_asks.es 3)) : Sem.run Try.prog (Instr.lookup 64 (.map (some g)) (.int .i64 a) false) w = .ok .nilFunc w := by
 have hu := Try.underlying64
 have hk := Try.underlying3
 have hc : (Instr.checkKey false 10000 3 (.int .i64 a)).run Try.prog w = .ok () w := MapKept.run_checkKey hk (by simp [MapKept.IsKey]) false 9999
 have hf := plan_asks.find0 a h
 have he : plan_asks.es.isEmpty = false := rfl
 have hz : (zeroValue 63).run Try.prog w = .ok .nilFunc w := by kernel_rfl
 simp [Instr.lookup, run_underlying hu, MapKept.run_getObj_map hb, he, hc, MapKept.run_findKey hk hf, hz, Result.andThen]
theorem plan_asks.look_fn {w : World} {g : Nat} (a : Int) (h : 1 ≤ a ∧ a ≤ 3) (hb : w.heap[g]? = some (.map plan_asks.es 3)) : ∃ fid, Sem.run Try.prog (Instr.lookup 64 (.map (some g)) (.int .i64 a) false) w = .ok (.func (.func fid) #[] #[]) w := by
 rcases (by omega : a = 1 ∨ a = 2 ∨ a = 3) with rfl | rfl | rfl
 ·exact ⟨_, plan_asks.look1 hb⟩
 ·exact ⟨_, plan_asks.look2 hb⟩
 ·exact ⟨_, plan_asks.look3 hb⟩
theorem plan_asks.look_any {w : World} {g : Nat} (a : Int) (hb : w.heap[g]? = some (.map plan_asks.es 3)) : ∃ v, Sem.run Try.prog (Instr.lookup 64 (.map (some g)) (.int .i64 a) false) w = .ok v w := by
 by_cases h : 1 ≤ a ∧ a ≤ 3
 ·obtain ⟨fid, e⟩ := plan_asks.look_fn a h hb; exact ⟨_, e⟩
 ·exact ⟨_, plan_asks.look0 a h hb⟩
/-- What the plan of a number asks, not capped. -/
def plan_Of.val (k : Nat) (a0_0 : Int) (a0_1 : Int) (a0_2 : Int) (a0_3 : Int) (a0_4 : Int) (a0_5 : Int) (a0_6 : Bool) (a0_7 : Int) (a0_8 : Int) (a0_9 : Int) (a0_10 : Int) (a0_11 : Int) (a0_12 : Int) (a1 : Int) (a2 : Int) : Option (Int × Int) := if a1 = 1 then plan_asks_1.f a0_0 a0_1 a0_2 a0_3 a0_4 a0_5 a0_6 a0_7 a0_8 a0_9 a0_10 a0_11 a0_12 a2 else if a1 = 2 then plan_asks_2.f a0_0 a0_1 a0_2 a0_3 a0_4 a0_5 a0_6 a0_7 a0_8 a0_9 a0_10 a0_11 a0_12 a2 else plan_asks_3.f k a0_0 a0_1 a0_2 a0_3 a0_4 a0_5 a0_6 a0_7 a0_8 a0_9 a0_10 a0_11 a0_12 a2
def plan_Of.f (k : Nat) (a0_0 : Int) (a0_1 : Int) (a0_2 : Int) (a0_3 : Int) (a0_4 : Int) (a0_5 : Int) (a0_6 : Bool) (a0_7 : Int) (a0_8 : Int) (a0_9 : Int) (a0_10 : Int) (a0_11 : Int) (a0_12 : Int) (a1 : Int) (a2 : Int) : Option (Int × Int) := (loan_Good.f k a0_0 a0_1 a0_2 a0_3 a0_4 a0_5 a0_6 a0_7 a0_8 a0_9 a0_10 a0_11 a0_12).bind fun g => if g = true then (if 1 ≤ a1 ∧ a1 ≤ 3 then ((date_Good.f a2).bind fun d => if d = true then ((plan_Part.f a0_0 a0_1 a0_2 a0_3 a0_4 a0_5 a0_6 a0_7 a0_8 a0_9 a0_10 a0_11 a0_12).bind fun p => if p = true then ((plan_Of.val k a0_0 a0_1 a0_2 a0_3 a0_4 a0_5 a0_6 a0_7 a0_8 a0_9 a0_10 a0_11 a0_12 a1 a2).bind fun v => if v.2 = 0 then plan_capped.f k a0_0 a0_1 a0_2 a0_3 a0_4 a0_5 a0_6 a0_7 a0_8 a0_9 a0_10 a0_11 a0_12 v.1 else some (0, v.2)) else some (0, 0)) else some (0, 1)) else some (0, 1)) else some (0, 1)
set_option maxHeartbeats 8000000 in
set_option maxRecDepth 100000 in
theorem plan_Of.bad (k : Nat) (a0_0 : Int) (a0_1 : Int) (a0_2 : Int) (a0_3 : Int) (a0_4 : Int) (a0_5 : Int) (a0_6 : Bool) (a0_7 : Int) (a0_8 : Int) (a0_9 : Int) (a0_10 : Int) (a0_11 : Int) (a0_12 : Int) (a1 : Int) (a2 : Int) (w : World) (hg : loan_Good.f k a0_0 a0_1 a0_2 a0_3 a0_4 a0_5 a0_6 a0_7 a0_8 a0_9 a0_10 a0_11 a0_12 = some false) :
  Calls Try.prog 15 #[.agg #[.int .i64 a0_0, .int .i64 a0_1, .int .i64 a0_2, .int .i64 a0_3, .int .i64 a0_4, .int .i64 a0_5, .bool a0_6, .int .i64 a0_7, .int .i64 a0_8, .int .i64 a0_9, .int .i64 a0_10, .int .i64 a0_11, .int .i64 a0_12], .int .i64 a1, .int .i64 a2] w fun e w' => e = .returned (.tuple #[.int .i64 0, .int .i64 1]) ∧ Below w.heap.size w w' := by
 have hu := Try.underlying23
 have hnil : ∀ w1, Sem.run Try.prog (binOp .eql 63 .nilFunc .nilFunc) w1 = .ok (.bool true) w1 := fun _ => by kernel_rfl
 have hfun : ∀ (f : Fn) w1, Sem.run Try.prog (binOp .eql 63 (.func f #[] #[]) .nilFunc) w1 = .ok (.bool false) w1 := fun _ _ => by kernel_rfl
 have HB := Aside0.mk (Below.refl w.heap.size w)
 have A1 := Aside0.mk hg
 clear hg
 go_enter Try.func15, Try.ntmps15
 go_wp2_with (first | ((with_reducible refine gate_dst (N := 3) rfl ?_); refine box_event ?hg (N := 3) ?hd (cs := #[.int .i64 a0_0, .int .i64 a0_1, .int .i64 a0_2, .int .i64 a0_3, .int .i64 a0_4, .int .i64 a0_5, .bool a0_6, .int .i64 a0_7, .int .i64 a0_8, .int .i64 a0_9, .int .i64 a0_10, .int .i64 a0_11, .int .i64 a0_12]) (t := 23) ?hr ?_; (case hd => rfl); (case hg => rfl); (case hr => first | (go_simp; done) | (go_simp; rfl)); intro gb hg w6 hbox hb; have n0_ := Aside0.mk (below_step HB.out hb); have BK := Aside0.mk (hbox); clear HB; have HB := n0_; clear n0_ hb hbox hg; have hz := lc13 BK.out) | (go_at_call 29; refine (plan_asks.calls _).mono ?_; rintro e w1 ⟨g, rfl, hmap, hgg, hb⟩; obtain ⟨fv, hl⟩ := plan_asks.look_any a1 hmap; clear hmap hgg; have n0_ := Aside0.mk (blk_below (g := gb) BK.out hb); have n1_ := Aside0.mk (below_step HB.out hb); clear BK HB; have BK := n0_; have HB := n1_; clear n0_ n1_ hb hz; have hz := lc13 BK.out) | (go_at_call 11; (with_reducible refine (loan_Good.calls k a0_0 a0_1 a0_2 a0_3 a0_4 a0_5 a0_6 a0_7 a0_8 a0_9 a0_10 a0_11 a0_12 false _ A1.out).mono ?_); rintro e w1 ⟨rfl, hb⟩; have n0_ := Aside0.mk (blk_below (g := gb) BK.out hb); have n1_ := Aside0.mk (below_step HB.out hb); clear BK HB; have BK := n0_; have HB := n1_; clear n0_ n1_ hb hz; have hz := lc13 BK.out))
 go_ret2
 exact ⟨by first | rfl | (simp [*]; done), HB.out⟩
set_option maxHeartbeats 8000000 in
set_option maxRecDepth 100000 in
theorem plan_Of.none (k : Nat) (a0_0 : Int) (a0_1 : Int) (a0_2 : Int) (a0_3 : Int) (a0_4 : Int) (a0_5 : Int) (a0_6 : Bool) (a0_7 : Int) (a0_8 : Int) (a0_9 : Int) (a0_10 : Int) (a0_11 : Int) (a0_12 : Int) (a1 : Int) (a2 : Int) (w : World) (hg : loan_Good.f k a0_0 a0_1 a0_2 a0_3 a0_4 a0_5 a0_6 a0_7 a0_8 a0_9 a0_10 a0_11 a0_12 = some true) (hh : ¬ (1 ≤ a1 ∧ a1 ≤ 3)) :
  Calls Try.prog 15 #[.agg #[.int .i64 a0_0, .int .i64 a0_1, .int .i64 a0_2, .int .i64 a0_3, .int .i64 a0_4, .int .i64 a0_5, .bool a0_6, .int .i64 a0_7, .int .i64 a0_8, .int .i64 a0_9, .int .i64 a0_10, .int .i64 a0_11, .int .i64 a0_12], .int .i64 a1, .int .i64 a2] w fun e w' => e = .returned (.tuple #[.int .i64 0, .int .i64 1]) ∧ Below w.heap.size w w' := by
 have hu := Try.underlying23
 have hnil : ∀ w1, Sem.run Try.prog (binOp .eql 63 .nilFunc .nilFunc) w1 = .ok (.bool true) w1 := fun _ => by kernel_rfl
 have hfun : ∀ (f : Fn) w1, Sem.run Try.prog (binOp .eql 63 (.func f #[] #[]) .nilFunc) w1 = .ok (.bool false) w1 := fun _ _ => by kernel_rfl
 have HB := Aside0.mk (Below.refl w.heap.size w)
 have A1 := Aside0.mk hg
 have HH := Aside0.mk hh
 clear hg hh
 go_enter Try.func15, Try.ntmps15
 go_wp2_with (first | ((with_reducible refine gate_dst (N := 3) rfl ?_); refine box_event ?hg (N := 3) ?hd (cs := #[.int .i64 a0_0, .int .i64 a0_1, .int .i64 a0_2, .int .i64 a0_3, .int .i64 a0_4, .int .i64 a0_5, .bool a0_6, .int .i64 a0_7, .int .i64 a0_8, .int .i64 a0_9, .int .i64 a0_10, .int .i64 a0_11, .int .i64 a0_12]) (t := 23) ?hr ?_; (case hd => rfl); (case hg => rfl); (case hr => first | (go_simp; done) | (go_simp; rfl)); intro gb hg w6 hbox hb; have n0_ := Aside0.mk (below_step HB.out hb); have BK := Aside0.mk (hbox); clear HB; have HB := n0_; clear n0_ hb hbox hg; have hz := lc13 BK.out) | (go_at_call 29; refine (plan_asks.calls _).mono ?_; rintro e w1 ⟨g, rfl, hmap, hgg, hb⟩; have hl := plan_asks.look0 a1 HH.out hmap; clear hmap hgg; have n0_ := Aside0.mk (blk_below (g := gb) BK.out hb); have n1_ := Aside0.mk (below_step HB.out hb); clear BK HB; have BK := n0_; have HB := n1_; clear n0_ n1_ hb hz; have hz := lc13 BK.out) | (go_at_call 11; (with_reducible refine (loan_Good.calls k a0_0 a0_1 a0_2 a0_3 a0_4 a0_5 a0_6 a0_7 a0_8 a0_9 a0_10 a0_11 a0_12 true _ A1.out).mono ?_); rintro e w1 ⟨rfl, hb⟩; have n0_ := Aside0.mk (blk_below (g := gb) BK.out hb); have n1_ := Aside0.mk (below_step HB.out hb); clear BK HB; have BK := n0_; have HB := n1_; clear n0_ n1_ hb hz; have hz := lc13 BK.out))
 go_ret2
 exact ⟨by first | rfl | (simp [*]; done), HB.out⟩
set_option maxHeartbeats 8000000 in
set_option maxRecDepth 100000 in
theorem plan_Of.late (k : Nat) (a0_0 : Int) (a0_1 : Int) (a0_2 : Int) (a0_3 : Int) (a0_4 : Int) (a0_5 : Int) (a0_6 : Bool) (a0_7 : Int) (a0_8 : Int) (a0_9 : Int) (a0_10 : Int) (a0_11 : Int) (a0_12 : Int) (a1 : Int) (a2 : Int) (w : World) (hg : loan_Good.f k a0_0 a0_1 a0_2 a0_3 a0_4 a0_5 a0_6 a0_7 a0_8 a0_9 a0_10 a0_11 a0_12 = some true) (hh : 1 ≤ a1 ∧ a1 ≤ 3) (hd : date_Good.f a2 = some false) :
  Calls Try.prog 15 #[.agg #[.int .i64 a0_0, .int .i64 a0_1, .int .i64 a0_2, .int .i64 a0_3, .int .i64 a0_4, .int .i64 a0_5, .bool a0_6, .int .i64 a0_7, .int .i64 a0_8, .int .i64 a0_9, .int .i64 a0_10, .int .i64 a0_11, .int .i64 a0_12], .int .i64 a1, .int .i64 a2] w fun e w' => e = .returned (.tuple #[.int .i64 0, .int .i64 1]) ∧ Below w.heap.size w w' := by
 have hu := Try.underlying23
 have hnil : ∀ w1, Sem.run Try.prog (binOp .eql 63 .nilFunc .nilFunc) w1 = .ok (.bool true) w1 := fun _ => by kernel_rfl
 have hfun : ∀ (f : Fn) w1, Sem.run Try.prog (binOp .eql 63 (.func f #[] #[]) .nilFunc) w1 = .ok (.bool false) w1 := fun _ _ => by kernel_rfl
 have HB := Aside0.mk (Below.refl w.heap.size w)
 have A1 := Aside0.mk hg
 have HH := Aside0.mk hh
 have A2 := Aside0.mk hd
 clear hg hh hd
 go_enter Try.func15, Try.ntmps15
 go_wp2_with (first | ((with_reducible refine gate_dst (N := 3) rfl ?_); refine box_event ?hg (N := 3) ?hd (cs := #[.int .i64 a0_0, .int .i64 a0_1, .int .i64 a0_2, .int .i64 a0_3, .int .i64 a0_4, .int .i64 a0_5, .bool a0_6, .int .i64 a0_7, .int .i64 a0_8, .int .i64 a0_9, .int .i64 a0_10, .int .i64 a0_11, .int .i64 a0_12]) (t := 23) ?hr ?_; (case hd => rfl); (case hg => rfl); (case hr => first | (go_simp; done) | (go_simp; rfl)); intro gb hg w6 hbox hb; have n0_ := Aside0.mk (below_step HB.out hb); have BK := Aside0.mk (hbox); clear HB; have HB := n0_; clear n0_ hb hbox hg; have hz := lc13 BK.out) | (go_at_call 29; refine (plan_asks.calls _).mono ?_; rintro e w1 ⟨g, rfl, hmap, hgg, hb⟩; obtain ⟨fid, hl⟩ := plan_asks.look_fn a1 HH.out hmap; clear hmap hgg; have n0_ := Aside0.mk (blk_below (g := gb) BK.out hb); have n1_ := Aside0.mk (below_step HB.out hb); clear BK HB; have BK := n0_; have HB := n1_; clear n0_ n1_ hb hz; have hz := lc13 BK.out) | (go_at_call 11; (with_reducible refine (loan_Good.calls k a0_0 a0_1 a0_2 a0_3 a0_4 a0_5 a0_6 a0_7 a0_8 a0_9 a0_10 a0_11 a0_12 true _ A1.out).mono ?_); rintro e w1 ⟨rfl, hb⟩; have n0_ := Aside0.mk (blk_below (g := gb) BK.out hb); have n1_ := Aside0.mk (below_step HB.out hb); clear BK HB; have BK := n0_; have HB := n1_; clear n0_ n1_ hb hz; have hz := lc13 BK.out) | (go_at_call 30; (with_reducible refine (date_Good.calls a2 false _ A2.out).mono ?_); rintro e w1 ⟨rfl, hd_⟩; have hb := hd_.below; clear hd_; have n0_ := Aside0.mk (blk_below (g := gb) BK.out hb); have n1_ := Aside0.mk (below_step HB.out hb); clear BK HB; have BK := n0_; have HB := n1_; clear n0_ n1_ hb hz; have hz := lc13 BK.out))
 go_ret2
 exact ⟨by first | rfl | (simp [*]; done), HB.out⟩
set_option maxHeartbeats 8000000 in
set_option maxRecDepth 100000 in
theorem plan_Of.out (k : Nat) (a0_0 : Int) (a0_1 : Int) (a0_2 : Int) (a0_3 : Int) (a0_4 : Int) (a0_5 : Int) (a0_6 : Bool) (a0_7 : Int) (a0_8 : Int) (a0_9 : Int) (a0_10 : Int) (a0_11 : Int) (a0_12 : Int) (a1 : Int) (a2 : Int) (w : World) (hg : loan_Good.f k a0_0 a0_1 a0_2 a0_3 a0_4 a0_5 a0_6 a0_7 a0_8 a0_9 a0_10 a0_11 a0_12 = some true) (hh : 1 ≤ a1 ∧ a1 ≤ 3) (hd : date_Good.f a2 = some true) (hp : plan_Part.f a0_0 a0_1 a0_2 a0_3 a0_4 a0_5 a0_6 a0_7 a0_8 a0_9 a0_10 a0_11 a0_12 = some false) :
  Calls Try.prog 15 #[.agg #[.int .i64 a0_0, .int .i64 a0_1, .int .i64 a0_2, .int .i64 a0_3, .int .i64 a0_4, .int .i64 a0_5, .bool a0_6, .int .i64 a0_7, .int .i64 a0_8, .int .i64 a0_9, .int .i64 a0_10, .int .i64 a0_11, .int .i64 a0_12], .int .i64 a1, .int .i64 a2] w fun e w' => e = .returned (.tuple #[.int .i64 0, .int .i64 0]) ∧ Below w.heap.size w w' := by
 have hu := Try.underlying23
 have hnil : ∀ w1, Sem.run Try.prog (binOp .eql 63 .nilFunc .nilFunc) w1 = .ok (.bool true) w1 := fun _ => by kernel_rfl
 have hfun : ∀ (f : Fn) w1, Sem.run Try.prog (binOp .eql 63 (.func f #[] #[]) .nilFunc) w1 = .ok (.bool false) w1 := fun _ _ => by kernel_rfl
 have HB := Aside0.mk (Below.refl w.heap.size w)
 have A1 := Aside0.mk hg
 have HH := Aside0.mk hh
 have A2 := Aside0.mk hd
 have A3 := Aside0.mk hp
 clear hg hh hd hp
 go_enter Try.func15, Try.ntmps15
 go_wp2_with (first | ((with_reducible refine gate_dst (N := 3) rfl ?_); refine box_event ?hg (N := 3) ?hd (cs := #[.int .i64 a0_0, .int .i64 a0_1, .int .i64 a0_2, .int .i64 a0_3, .int .i64 a0_4, .int .i64 a0_5, .bool a0_6, .int .i64 a0_7, .int .i64 a0_8, .int .i64 a0_9, .int .i64 a0_10, .int .i64 a0_11, .int .i64 a0_12]) (t := 23) ?hr ?_; (case hd => rfl); (case hg => rfl); (case hr => first | (go_simp; done) | (go_simp; rfl)); intro gb hg w6 hbox hb; have n0_ := Aside0.mk (below_step HB.out hb); have BK := Aside0.mk (hbox); clear HB; have HB := n0_; clear n0_ hb hbox hg; have hz := lc13 BK.out) | (go_at_call 29; refine (plan_asks.calls _).mono ?_; rintro e w1 ⟨g, rfl, hmap, hgg, hb⟩; obtain ⟨fid, hl⟩ := plan_asks.look_fn a1 HH.out hmap; clear hmap hgg; have n0_ := Aside0.mk (blk_below (g := gb) BK.out hb); have n1_ := Aside0.mk (below_step HB.out hb); clear BK HB; have BK := n0_; have HB := n1_; clear n0_ n1_ hb hz; have hz := lc13 BK.out) | (go_at_call 11; (with_reducible refine (loan_Good.calls k a0_0 a0_1 a0_2 a0_3 a0_4 a0_5 a0_6 a0_7 a0_8 a0_9 a0_10 a0_11 a0_12 true _ A1.out).mono ?_); rintro e w1 ⟨rfl, hb⟩; have n0_ := Aside0.mk (blk_below (g := gb) BK.out hb); have n1_ := Aside0.mk (below_step HB.out hb); clear BK HB; have BK := n0_; have HB := n1_; clear n0_ n1_ hb hz; have hz := lc13 BK.out) | (go_at_call 30; (with_reducible refine (date_Good.calls a2 true _ A2.out).mono ?_); rintro e w1 ⟨rfl, hd_⟩; have hb := hd_.below; clear hd_; have n0_ := Aside0.mk (blk_below (g := gb) BK.out hb); have n1_ := Aside0.mk (below_step HB.out hb); clear BK HB; have BK := n0_; have HB := n1_; clear n0_ n1_ hb hz; have hz := lc13 BK.out) | (go_at_call 31; (with_reducible refine (plan_Part.calls a0_0 a0_1 a0_2 a0_3 a0_4 a0_5 a0_6 a0_7 a0_8 a0_9 a0_10 a0_11 a0_12 false _ A3.out).mono ?_); rintro e w1 ⟨rfl, hb⟩; have n0_ := Aside0.mk (blk_below (g := gb) BK.out hb); have n1_ := Aside0.mk (below_step HB.out hb); clear BK HB; have BK := n0_; have HB := n1_; clear n0_ n1_ hb hz; have hz := lc13 BK.out))
 go_ret2
 exact ⟨by first | rfl | (simp [*]; done), HB.out⟩
set_option maxHeartbeats 8000000 in
set_option maxRecDepth 100000 in
theorem plan_Of.err1 (k : Nat) (a0_0 : Int) (a0_1 : Int) (a0_2 : Int) (a0_3 : Int) (a0_4 : Int) (a0_5 : Int) (a0_6 : Bool) (a0_7 : Int) (a0_8 : Int) (a0_9 : Int) (a0_10 : Int) (a0_11 : Int) (a0_12 : Int) (a2 : Int) (w : World) (hg : loan_Good.f k a0_0 a0_1 a0_2 a0_3 a0_4 a0_5 a0_6 a0_7 a0_8 a0_9 a0_10 a0_11 a0_12 = some true) (hd : date_Good.f a2 = some true) (hp : plan_Part.f a0_0 a0_1 a0_2 a0_3 a0_4 a0_5 a0_6 a0_7 a0_8 a0_9 a0_10 a0_11 a0_12 = some true) (v1 v2 : Int) (hv : plan_asks_1.f a0_0 a0_1 a0_2 a0_3 a0_4 a0_5 a0_6 a0_7 a0_8 a0_9 a0_10 a0_11 a0_12 a2 = some (v1, v2)) (he : v2 ≠ 0) :
  Calls Try.prog 15 #[.agg #[.int .i64 a0_0, .int .i64 a0_1, .int .i64 a0_2, .int .i64 a0_3, .int .i64 a0_4, .int .i64 a0_5, .bool a0_6, .int .i64 a0_7, .int .i64 a0_8, .int .i64 a0_9, .int .i64 a0_10, .int .i64 a0_11, .int .i64 a0_12], .int .i64 1, .int .i64 a2] w fun e w' => e = .returned (.tuple #[.int .i64 0, .int .i64 v2]) ∧ Below w.heap.size w w' := by
 have hu := Try.underlying23
 have hnil : ∀ w1, Sem.run Try.prog (binOp .eql 63 .nilFunc .nilFunc) w1 = .ok (.bool true) w1 := fun _ => by kernel_rfl
 have hfun : ∀ (f : Fn) w1, Sem.run Try.prog (binOp .eql 63 (.func f #[] #[]) .nilFunc) w1 = .ok (.bool false) w1 := fun _ _ => by kernel_rfl
 have HB := Aside0.mk (Below.refl w.heap.size w)
 have A1 := Aside0.mk hg
 have A2 := Aside0.mk hd
 have A3 := Aside0.mk hp
 have A4 := Aside0.mk hv
 clear hg hd hp hv
 have e1 : (v2 == 0) = false := beq_eq_false_iff_ne.mpr he
 have e2 : (v2 != 0) = true := bne_iff_ne.mpr he
 clear he
 go_enter Try.func15, Try.ntmps15
 go_wp2_with (first | ((with_reducible refine gate_dst (N := 3) rfl ?_); refine box_event ?hg (N := 3) ?hd (cs := #[.int .i64 a0_0, .int .i64 a0_1, .int .i64 a0_2, .int .i64 a0_3, .int .i64 a0_4, .int .i64 a0_5, .bool a0_6, .int .i64 a0_7, .int .i64 a0_8, .int .i64 a0_9, .int .i64 a0_10, .int .i64 a0_11, .int .i64 a0_12]) (t := 23) ?hr ?_; (case hd => rfl); (case hg => rfl); (case hr => first | (go_simp; done) | (go_simp; rfl)); intro gb hg w6 hbox hb; have n0_ := Aside0.mk (below_step HB.out hb); have BK := Aside0.mk (hbox); clear HB; have HB := n0_; clear n0_ hb hbox hg; have hz := lc13 BK.out) | (go_at_call 29; refine (plan_asks.calls _).mono ?_; rintro e w1 ⟨g, rfl, hmap, hgg, hb⟩; have hl := plan_asks.look1 hmap; clear hmap hgg; have n0_ := Aside0.mk (blk_below (g := gb) BK.out hb); have n1_ := Aside0.mk (below_step HB.out hb); clear BK HB; have BK := n0_; have HB := n1_; clear n0_ n1_ hb hz; have hz := lc13 BK.out) | (go_at_call 11; (with_reducible refine (loan_Good.calls k a0_0 a0_1 a0_2 a0_3 a0_4 a0_5 a0_6 a0_7 a0_8 a0_9 a0_10 a0_11 a0_12 true _ A1.out).mono ?_); rintro e w1 ⟨rfl, hb⟩; have n0_ := Aside0.mk (blk_below (g := gb) BK.out hb); have n1_ := Aside0.mk (below_step HB.out hb); clear BK HB; have BK := n0_; have HB := n1_; clear n0_ n1_ hb hz; have hz := lc13 BK.out) | (go_at_call 30; (with_reducible refine (date_Good.calls a2 true _ A2.out).mono ?_); rintro e w1 ⟨rfl, hd_⟩; have hb := hd_.below; clear hd_; have n0_ := Aside0.mk (blk_below (g := gb) BK.out hb); have n1_ := Aside0.mk (below_step HB.out hb); clear BK HB; have BK := n0_; have HB := n1_; clear n0_ n1_ hb hz; have hz := lc13 BK.out) | (go_at_call 31; (with_reducible refine (plan_Part.calls a0_0 a0_1 a0_2 a0_3 a0_4 a0_5 a0_6 a0_7 a0_8 a0_9 a0_10 a0_11 a0_12 true _ A3.out).mono ?_); rintro e w1 ⟨rfl, hb⟩; have n0_ := Aside0.mk (blk_below (g := gb) BK.out hb); have n1_ := Aside0.mk (below_step HB.out hb); clear BK HB; have BK := n0_; have HB := n1_; clear n0_ n1_ hb hz; have hz := lc13 BK.out) | (go_at_call 44; (with_reducible refine (plan_asks_1.calls a0_0 a0_1 a0_2 a0_3 a0_4 a0_5 a0_6 a0_7 a0_8 a0_9 a0_10 a0_11 a0_12 a2 v1 v2 _ A4.out).mono ?_); rintro e w1 ⟨rfl, hb⟩; have n0_ := Aside0.mk (blk_below (g := gb) BK.out hb); have n1_ := Aside0.mk (below_step HB.out hb); clear BK HB; have BK := n0_; have HB := n1_; clear n0_ n1_ hb hz; have hz := lc13 BK.out))
 go_ret2
 exact ⟨by first | rfl | (simp [*]; done), HB.out⟩
set_option maxHeartbeats 8000000 in
set_option maxRecDepth 100000 in
theorem plan_Of.ok1 (k : Nat) (a0_0 : Int) (a0_1 : Int) (a0_2 : Int) (a0_3 : Int) (a0_4 : Int) (a0_5 : Int) (a0_6 : Bool) (a0_7 : Int) (a0_8 : Int) (a0_9 : Int) (a0_10 : Int) (a0_11 : Int) (a0_12 : Int) (a2 : Int) (w : World) (hg : loan_Good.f k a0_0 a0_1 a0_2 a0_3 a0_4 a0_5 a0_6 a0_7 a0_8 a0_9 a0_10 a0_11 a0_12 = some true) (hd : date_Good.f a2 = some true) (hp : plan_Part.f a0_0 a0_1 a0_2 a0_3 a0_4 a0_5 a0_6 a0_7 a0_8 a0_9 a0_10 a0_11 a0_12 = some true) (v1 v2 : Int) (hv : plan_asks_1.f a0_0 a0_1 a0_2 a0_3 a0_4 a0_5 a0_6 a0_7 a0_8 a0_9 a0_10 a0_11 a0_12 a2 = some (v1, v2)) (he : v2 = 0) (r1 r2 : Int) (hc : plan_capped.f k a0_0 a0_1 a0_2 a0_3 a0_4 a0_5 a0_6 a0_7 a0_8 a0_9 a0_10 a0_11 a0_12 v1 = some (r1, r2)) :
  Calls Try.prog 15 #[.agg #[.int .i64 a0_0, .int .i64 a0_1, .int .i64 a0_2, .int .i64 a0_3, .int .i64 a0_4, .int .i64 a0_5, .bool a0_6, .int .i64 a0_7, .int .i64 a0_8, .int .i64 a0_9, .int .i64 a0_10, .int .i64 a0_11, .int .i64 a0_12], .int .i64 1, .int .i64 a2] w fun e w' => e = .returned (.tuple #[.int .i64 r1, .int .i64 r2]) ∧ Below w.heap.size w w' := by
 have hu := Try.underlying23
 have hnil : ∀ w1, Sem.run Try.prog (binOp .eql 63 .nilFunc .nilFunc) w1 = .ok (.bool true) w1 := fun _ => by kernel_rfl
 have hfun : ∀ (f : Fn) w1, Sem.run Try.prog (binOp .eql 63 (.func f #[] #[]) .nilFunc) w1 = .ok (.bool false) w1 := fun _ _ => by kernel_rfl
 have HB := Aside0.mk (Below.refl w.heap.size w)
 have A1 := Aside0.mk hg
 have A2 := Aside0.mk hd
 have A3 := Aside0.mk hp
 have A4 := Aside0.mk hv
 clear hg hd hp hv
 subst he
 have A5 := Aside0.mk hc
 clear hc
 go_enter Try.func15, Try.ntmps15
 go_wp2_with (first | ((with_reducible refine gate_dst (N := 3) rfl ?_); refine box_event ?hg (N := 3) ?hd (cs := #[.int .i64 a0_0, .int .i64 a0_1, .int .i64 a0_2, .int .i64 a0_3, .int .i64 a0_4, .int .i64 a0_5, .bool a0_6, .int .i64 a0_7, .int .i64 a0_8, .int .i64 a0_9, .int .i64 a0_10, .int .i64 a0_11, .int .i64 a0_12]) (t := 23) ?hr ?_; (case hd => rfl); (case hg => rfl); (case hr => first | (go_simp; done) | (go_simp; rfl)); intro gb hg w6 hbox hb; have n0_ := Aside0.mk (below_step HB.out hb); have BK := Aside0.mk (hbox); clear HB; have HB := n0_; clear n0_ hb hbox hg; have hz := lc13 BK.out) | (go_at_call 29; refine (plan_asks.calls _).mono ?_; rintro e w1 ⟨g, rfl, hmap, hgg, hb⟩; have hl := plan_asks.look1 hmap; clear hmap hgg; have n0_ := Aside0.mk (blk_below (g := gb) BK.out hb); have n1_ := Aside0.mk (below_step HB.out hb); clear BK HB; have BK := n0_; have HB := n1_; clear n0_ n1_ hb hz; have hz := lc13 BK.out) | (go_at_call 11; (with_reducible refine (loan_Good.calls k a0_0 a0_1 a0_2 a0_3 a0_4 a0_5 a0_6 a0_7 a0_8 a0_9 a0_10 a0_11 a0_12 true _ A1.out).mono ?_); rintro e w1 ⟨rfl, hb⟩; have n0_ := Aside0.mk (blk_below (g := gb) BK.out hb); have n1_ := Aside0.mk (below_step HB.out hb); clear BK HB; have BK := n0_; have HB := n1_; clear n0_ n1_ hb hz; have hz := lc13 BK.out) | (go_at_call 30; (with_reducible refine (date_Good.calls a2 true _ A2.out).mono ?_); rintro e w1 ⟨rfl, hd_⟩; have hb := hd_.below; clear hd_; have n0_ := Aside0.mk (blk_below (g := gb) BK.out hb); have n1_ := Aside0.mk (below_step HB.out hb); clear BK HB; have BK := n0_; have HB := n1_; clear n0_ n1_ hb hz; have hz := lc13 BK.out) | (go_at_call 31; (with_reducible refine (plan_Part.calls a0_0 a0_1 a0_2 a0_3 a0_4 a0_5 a0_6 a0_7 a0_8 a0_9 a0_10 a0_11 a0_12 true _ A3.out).mono ?_); rintro e w1 ⟨rfl, hb⟩; have n0_ := Aside0.mk (blk_below (g := gb) BK.out hb); have n1_ := Aside0.mk (below_step HB.out hb); clear BK HB; have BK := n0_; have HB := n1_; clear n0_ n1_ hb hz; have hz := lc13 BK.out) | (go_at_call 44; (with_reducible refine (plan_asks_1.calls a0_0 a0_1 a0_2 a0_3 a0_4 a0_5 a0_6 a0_7 a0_8 a0_9 a0_10 a0_11 a0_12 a2 v1 0 _ A4.out).mono ?_); rintro e w1 ⟨rfl, hb⟩; have n0_ := Aside0.mk (blk_below (g := gb) BK.out hb); have n1_ := Aside0.mk (below_step HB.out hb); clear BK HB; have BK := n0_; have HB := n1_; clear n0_ n1_ hb hz; have hz := lc13 BK.out) | (go_at_call 32; (with_reducible refine (plan_capped.calls k a0_0 a0_1 a0_2 a0_3 a0_4 a0_5 a0_6 a0_7 a0_8 a0_9 a0_10 a0_11 a0_12 v1 r1 r2 _ A5.out).mono ?_); rintro e w1 ⟨rfl, hb⟩; have n0_ := Aside0.mk (blk_below (g := gb) BK.out hb); have n1_ := Aside0.mk (below_step HB.out hb); clear BK HB; have BK := n0_; have HB := n1_; clear n0_ n1_ hb hz; have hz := lc13 BK.out))
 go_ret2
 exact ⟨by first | rfl | (simp [*]; done), HB.out⟩
set_option maxHeartbeats 8000000 in
set_option maxRecDepth 100000 in
theorem plan_Of.err2 (k : Nat) (a0_0 : Int) (a0_1 : Int) (a0_2 : Int) (a0_3 : Int) (a0_4 : Int) (a0_5 : Int) (a0_6 : Bool) (a0_7 : Int) (a0_8 : Int) (a0_9 : Int) (a0_10 : Int) (a0_11 : Int) (a0_12 : Int) (a2 : Int) (w : World) (hg : loan_Good.f k a0_0 a0_1 a0_2 a0_3 a0_4 a0_5 a0_6 a0_7 a0_8 a0_9 a0_10 a0_11 a0_12 = some true) (hd : date_Good.f a2 = some true) (hp : plan_Part.f a0_0 a0_1 a0_2 a0_3 a0_4 a0_5 a0_6 a0_7 a0_8 a0_9 a0_10 a0_11 a0_12 = some true) (v1 v2 : Int) (hv : plan_asks_2.f a0_0 a0_1 a0_2 a0_3 a0_4 a0_5 a0_6 a0_7 a0_8 a0_9 a0_10 a0_11 a0_12 a2 = some (v1, v2)) (he : v2 ≠ 0) :
  Calls Try.prog 15 #[.agg #[.int .i64 a0_0, .int .i64 a0_1, .int .i64 a0_2, .int .i64 a0_3, .int .i64 a0_4, .int .i64 a0_5, .bool a0_6, .int .i64 a0_7, .int .i64 a0_8, .int .i64 a0_9, .int .i64 a0_10, .int .i64 a0_11, .int .i64 a0_12], .int .i64 2, .int .i64 a2] w fun e w' => e = .returned (.tuple #[.int .i64 0, .int .i64 v2]) ∧ Below w.heap.size w w' := by
 have hu := Try.underlying23
 have hnil : ∀ w1, Sem.run Try.prog (binOp .eql 63 .nilFunc .nilFunc) w1 = .ok (.bool true) w1 := fun _ => by kernel_rfl
 have hfun : ∀ (f : Fn) w1, Sem.run Try.prog (binOp .eql 63 (.func f #[] #[]) .nilFunc) w1 = .ok (.bool false) w1 := fun _ _ => by kernel_rfl
 have HB := Aside0.mk (Below.refl w.heap.size w)
 have A1 := Aside0.mk hg
 have A2 := Aside0.mk hd
 have A3 := Aside0.mk hp
 have A4 := Aside0.mk hv
 clear hg hd hp hv
 have e1 : (v2 == 0) = false := beq_eq_false_iff_ne.mpr he
 have e2 : (v2 != 0) = true := bne_iff_ne.mpr he
 clear he
 go_enter Try.func15, Try.ntmps15
 go_wp2_with (first | ((with_reducible refine gate_dst (N := 3) rfl ?_); refine box_event ?hg (N := 3) ?hd (cs := #[.int .i64 a0_0, .int .i64 a0_1, .int .i64 a0_2, .int .i64 a0_3, .int .i64 a0_4, .int .i64 a0_5, .bool a0_6, .int .i64 a0_7, .int .i64 a0_8, .int .i64 a0_9, .int .i64 a0_10, .int .i64 a0_11, .int .i64 a0_12]) (t := 23) ?hr ?_; (case hd => rfl); (case hg => rfl); (case hr => first | (go_simp; done) | (go_simp; rfl)); intro gb hg w6 hbox hb; have n0_ := Aside0.mk (below_step HB.out hb); have BK := Aside0.mk (hbox); clear HB; have HB := n0_; clear n0_ hb hbox hg; have hz := lc13 BK.out) | (go_at_call 29; refine (plan_asks.calls _).mono ?_; rintro e w1 ⟨g, rfl, hmap, hgg, hb⟩; have hl := plan_asks.look2 hmap; clear hmap hgg; have n0_ := Aside0.mk (blk_below (g := gb) BK.out hb); have n1_ := Aside0.mk (below_step HB.out hb); clear BK HB; have BK := n0_; have HB := n1_; clear n0_ n1_ hb hz; have hz := lc13 BK.out) | (go_at_call 11; (with_reducible refine (loan_Good.calls k a0_0 a0_1 a0_2 a0_3 a0_4 a0_5 a0_6 a0_7 a0_8 a0_9 a0_10 a0_11 a0_12 true _ A1.out).mono ?_); rintro e w1 ⟨rfl, hb⟩; have n0_ := Aside0.mk (blk_below (g := gb) BK.out hb); have n1_ := Aside0.mk (below_step HB.out hb); clear BK HB; have BK := n0_; have HB := n1_; clear n0_ n1_ hb hz; have hz := lc13 BK.out) | (go_at_call 30; (with_reducible refine (date_Good.calls a2 true _ A2.out).mono ?_); rintro e w1 ⟨rfl, hd_⟩; have hb := hd_.below; clear hd_; have n0_ := Aside0.mk (blk_below (g := gb) BK.out hb); have n1_ := Aside0.mk (below_step HB.out hb); clear BK HB; have BK := n0_; have HB := n1_; clear n0_ n1_ hb hz; have hz := lc13 BK.out) | (go_at_call 31; (with_reducible refine (plan_Part.calls a0_0 a0_1 a0_2 a0_3 a0_4 a0_5 a0_6 a0_7 a0_8 a0_9 a0_10 a0_11 a0_12 true _ A3.out).mono ?_); rintro e w1 ⟨rfl, hb⟩; have n0_ := Aside0.mk (blk_below (g := gb) BK.out hb); have n1_ := Aside0.mk (below_step HB.out hb); clear BK HB; have BK := n0_; have HB := n1_; clear n0_ n1_ hb hz; have hz := lc13 BK.out) | (go_at_call 45; (with_reducible refine (plan_asks_2.calls a0_0 a0_1 a0_2 a0_3 a0_4 a0_5 a0_6 a0_7 a0_8 a0_9 a0_10 a0_11 a0_12 a2 v1 v2 _ A4.out).mono ?_); rintro e w1 ⟨rfl, hb⟩; have n0_ := Aside0.mk (blk_below (g := gb) BK.out hb); have n1_ := Aside0.mk (below_step HB.out hb); clear BK HB; have BK := n0_; have HB := n1_; clear n0_ n1_ hb hz; have hz := lc13 BK.out))
 go_ret2
 exact ⟨by first | rfl | (simp [*]; done), HB.out⟩
set_option maxHeartbeats 8000000 in
set_option maxRecDepth 100000 in
theorem plan_Of.ok2 (k : Nat) (a0_0 : Int) (a0_1 : Int) (a0_2 : Int) (a0_3 : Int) (a0_4 : Int) (a0_5 : Int) (a0_6 : Bool) (a0_7 : Int) (a0_8 : Int) (a0_9 : Int) (a0_10 : Int) (a0_11 : Int) (a0_12 : Int) (a2 : Int) (w : World) (hg : loan_Good.f k a0_0 a0_1 a0_2 a0_3 a0_4 a0_5 a0_6 a0_7 a0_8 a0_9 a0_10 a0_11 a0_12 = some true) (hd : date_Good.f a2 = some true) (hp : plan_Part.f a0_0 a0_1 a0_2 a0_3 a0_4 a0_5 a0_6 a0_7 a0_8 a0_9 a0_10 a0_11 a0_12 = some true) (v1 v2 : Int) (hv : plan_asks_2.f a0_0 a0_1 a0_2 a0_3 a0_4 a0_5 a0_6 a0_7 a0_8 a0_9 a0_10 a0_11 a0_12 a2 = some (v1, v2)) (he : v2 = 0) (r1 r2 : Int) (hc : plan_capped.f k a0_0 a0_1 a0_2 a0_3 a0_4 a0_5 a0_6 a0_7 a0_8 a0_9 a0_10 a0_11 a0_12 v1 = some (r1, r2)) :
  Calls Try.prog 15 #[.agg #[.int .i64 a0_0, .int .i64 a0_1, .int .i64 a0_2, .int .i64 a0_3, .int .i64 a0_4, .int .i64 a0_5, .bool a0_6, .int .i64 a0_7, .int .i64 a0_8, .int .i64 a0_9, .int .i64 a0_10, .int .i64 a0_11, .int .i64 a0_12], .int .i64 2, .int .i64 a2] w fun e w' => e = .returned (.tuple #[.int .i64 r1, .int .i64 r2]) ∧ Below w.heap.size w w' := by
 have hu := Try.underlying23
 have hnil : ∀ w1, Sem.run Try.prog (binOp .eql 63 .nilFunc .nilFunc) w1 = .ok (.bool true) w1 := fun _ => by kernel_rfl
 have hfun : ∀ (f : Fn) w1, Sem.run Try.prog (binOp .eql 63 (.func f #[] #[]) .nilFunc) w1 = .ok (.bool false) w1 := fun _ _ => by kernel_rfl
 have HB := Aside0.mk (Below.refl w.heap.size w)
 have A1 := Aside0.mk hg
 have A2 := Aside0.mk hd
 have A3 := Aside0.mk hp
 have A4 := Aside0.mk hv
 clear hg hd hp hv
 subst he
 have A5 := Aside0.mk hc
 clear hc
 go_enter Try.func15, Try.ntmps15
 go_wp2_with (first | ((with_reducible refine gate_dst (N := 3) rfl ?_); refine box_event ?hg (N := 3) ?hd (cs := #[.int .i64 a0_0, .int .i64 a0_1, .int .i64 a0_2, .int .i64 a0_3, .int .i64 a0_4, .int .i64 a0_5, .bool a0_6, .int .i64 a0_7, .int .i64 a0_8, .int .i64 a0_9, .int .i64 a0_10, .int .i64 a0_11, .int .i64 a0_12]) (t := 23) ?hr ?_; (case hd => rfl); (case hg => rfl); (case hr => first | (go_simp; done) | (go_simp; rfl)); intro gb hg w6 hbox hb; have n0_ := Aside0.mk (below_step HB.out hb); have BK := Aside0.mk (hbox); clear HB; have HB := n0_; clear n0_ hb hbox hg; have hz := lc13 BK.out) | (go_at_call 29; refine (plan_asks.calls _).mono ?_; rintro e w1 ⟨g, rfl, hmap, hgg, hb⟩; have hl := plan_asks.look2 hmap; clear hmap hgg; have n0_ := Aside0.mk (blk_below (g := gb) BK.out hb); have n1_ := Aside0.mk (below_step HB.out hb); clear BK HB; have BK := n0_; have HB := n1_; clear n0_ n1_ hb hz; have hz := lc13 BK.out) | (go_at_call 11; (with_reducible refine (loan_Good.calls k a0_0 a0_1 a0_2 a0_3 a0_4 a0_5 a0_6 a0_7 a0_8 a0_9 a0_10 a0_11 a0_12 true _ A1.out).mono ?_); rintro e w1 ⟨rfl, hb⟩; have n0_ := Aside0.mk (blk_below (g := gb) BK.out hb); have n1_ := Aside0.mk (below_step HB.out hb); clear BK HB; have BK := n0_; have HB := n1_; clear n0_ n1_ hb hz; have hz := lc13 BK.out) | (go_at_call 30; (with_reducible refine (date_Good.calls a2 true _ A2.out).mono ?_); rintro e w1 ⟨rfl, hd_⟩; have hb := hd_.below; clear hd_; have n0_ := Aside0.mk (blk_below (g := gb) BK.out hb); have n1_ := Aside0.mk (below_step HB.out hb); clear BK HB; have BK := n0_; have HB := n1_; clear n0_ n1_ hb hz; have hz := lc13 BK.out) | (go_at_call 31; (with_reducible refine (plan_Part.calls a0_0 a0_1 a0_2 a0_3 a0_4 a0_5 a0_6 a0_7 a0_8 a0_9 a0_10 a0_11 a0_12 true _ A3.out).mono ?_); rintro e w1 ⟨rfl, hb⟩; have n0_ := Aside0.mk (blk_below (g := gb) BK.out hb); have n1_ := Aside0.mk (below_step HB.out hb); clear BK HB; have BK := n0_; have HB := n1_; clear n0_ n1_ hb hz; have hz := lc13 BK.out) | (go_at_call 45; (with_reducible refine (plan_asks_2.calls a0_0 a0_1 a0_2 a0_3 a0_4 a0_5 a0_6 a0_7 a0_8 a0_9 a0_10 a0_11 a0_12 a2 v1 0 _ A4.out).mono ?_); rintro e w1 ⟨rfl, hb⟩; have n0_ := Aside0.mk (blk_below (g := gb) BK.out hb); have n1_ := Aside0.mk (below_step HB.out hb); clear BK HB; have BK := n0_; have HB := n1_; clear n0_ n1_ hb hz; have hz := lc13 BK.out) | (go_at_call 32; (with_reducible refine (plan_capped.calls k a0_0 a0_1 a0_2 a0_3 a0_4 a0_5 a0_6 a0_7 a0_8 a0_9 a0_10 a0_11 a0_12 v1 r1 r2 _ A5.out).mono ?_); rintro e w1 ⟨rfl, hb⟩; have n0_ := Aside0.mk (blk_below (g := gb) BK.out hb); have n1_ := Aside0.mk (below_step HB.out hb); clear BK HB; have BK := n0_; have HB := n1_; clear n0_ n1_ hb hz; have hz := lc13 BK.out))
 go_ret2
 exact ⟨by first | rfl | (simp [*]; done), HB.out⟩
set_option maxHeartbeats 8000000 in
set_option maxRecDepth 100000 in
theorem plan_Of.err3 (k : Nat) (a0_0 : Int) (a0_1 : Int) (a0_2 : Int) (a0_3 : Int) (a0_4 : Int) (a0_5 : Int) (a0_6 : Bool) (a0_7 : Int) (a0_8 : Int) (a0_9 : Int) (a0_10 : Int) (a0_11 : Int) (a0_12 : Int) (a2 : Int) (w : World) (hg : loan_Good.f k a0_0 a0_1 a0_2 a0_3 a0_4 a0_5 a0_6 a0_7 a0_8 a0_9 a0_10 a0_11 a0_12 = some true) (hd : date_Good.f a2 = some true) (hp : plan_Part.f a0_0 a0_1 a0_2 a0_3 a0_4 a0_5 a0_6 a0_7 a0_8 a0_9 a0_10 a0_11 a0_12 = some true) (v1 v2 : Int) (hv : plan_asks_3.f k a0_0 a0_1 a0_2 a0_3 a0_4 a0_5 a0_6 a0_7 a0_8 a0_9 a0_10 a0_11 a0_12 a2 = some (v1, v2)) (he : v2 ≠ 0) :
  Calls Try.prog 15 #[.agg #[.int .i64 a0_0, .int .i64 a0_1, .int .i64 a0_2, .int .i64 a0_3, .int .i64 a0_4, .int .i64 a0_5, .bool a0_6, .int .i64 a0_7, .int .i64 a0_8, .int .i64 a0_9, .int .i64 a0_10, .int .i64 a0_11, .int .i64 a0_12], .int .i64 3, .int .i64 a2] w fun e w' => e = .returned (.tuple #[.int .i64 0, .int .i64 v2]) ∧ Below w.heap.size w w' := by
 have hu := Try.underlying23
 have hnil : ∀ w1, Sem.run Try.prog (binOp .eql 63 .nilFunc .nilFunc) w1 = .ok (.bool true) w1 := fun _ => by kernel_rfl
 have hfun : ∀ (f : Fn) w1, Sem.run Try.prog (binOp .eql 63 (.func f #[] #[]) .nilFunc) w1 = .ok (.bool false) w1 := fun _ _ => by kernel_rfl
 have HB := Aside0.mk (Below.refl w.heap.size w)
 have A1 := Aside0.mk hg
 have A2 := Aside0.mk hd
 have A3 := Aside0.mk hp
 have A4 := Aside0.mk hv
 clear hg hd hp hv
 have e1 : (v2 == 0) = false := beq_eq_false_iff_ne.mpr he
 have e2 : (v2 != 0) = true := bne_iff_ne.mpr he
 clear he
 go_enter Try.func15, Try.ntmps15
 go_wp2_with (first | ((with_reducible refine gate_dst (N := 3) rfl ?_); refine box_event ?hg (N := 3) ?hd (cs := #[.int .i64 a0_0, .int .i64 a0_1, .int .i64 a0_2, .int .i64 a0_3, .int .i64 a0_4, .int .i64 a0_5, .bool a0_6, .int .i64 a0_7, .int .i64 a0_8, .int .i64 a0_9, .int .i64 a0_10, .int .i64 a0_11, .int .i64 a0_12]) (t := 23) ?hr ?_; (case hd => rfl); (case hg => rfl); (case hr => first | (go_simp; done) | (go_simp; rfl)); intro gb hg w6 hbox hb; have n0_ := Aside0.mk (below_step HB.out hb); have BK := Aside0.mk (hbox); clear HB; have HB := n0_; clear n0_ hb hbox hg; have hz := lc13 BK.out) | (go_at_call 29; refine (plan_asks.calls _).mono ?_; rintro e w1 ⟨g, rfl, hmap, hgg, hb⟩; have hl := plan_asks.look3 hmap; clear hmap hgg; have n0_ := Aside0.mk (blk_below (g := gb) BK.out hb); have n1_ := Aside0.mk (below_step HB.out hb); clear BK HB; have BK := n0_; have HB := n1_; clear n0_ n1_ hb hz; have hz := lc13 BK.out) | (go_at_call 11; (with_reducible refine (loan_Good.calls k a0_0 a0_1 a0_2 a0_3 a0_4 a0_5 a0_6 a0_7 a0_8 a0_9 a0_10 a0_11 a0_12 true _ A1.out).mono ?_); rintro e w1 ⟨rfl, hb⟩; have n0_ := Aside0.mk (blk_below (g := gb) BK.out hb); have n1_ := Aside0.mk (below_step HB.out hb); clear BK HB; have BK := n0_; have HB := n1_; clear n0_ n1_ hb hz; have hz := lc13 BK.out) | (go_at_call 30; (with_reducible refine (date_Good.calls a2 true _ A2.out).mono ?_); rintro e w1 ⟨rfl, hd_⟩; have hb := hd_.below; clear hd_; have n0_ := Aside0.mk (blk_below (g := gb) BK.out hb); have n1_ := Aside0.mk (below_step HB.out hb); clear BK HB; have BK := n0_; have HB := n1_; clear n0_ n1_ hb hz; have hz := lc13 BK.out) | (go_at_call 31; (with_reducible refine (plan_Part.calls a0_0 a0_1 a0_2 a0_3 a0_4 a0_5 a0_6 a0_7 a0_8 a0_9 a0_10 a0_11 a0_12 true _ A3.out).mono ?_); rintro e w1 ⟨rfl, hb⟩; have n0_ := Aside0.mk (blk_below (g := gb) BK.out hb); have n1_ := Aside0.mk (below_step HB.out hb); clear BK HB; have BK := n0_; have HB := n1_; clear n0_ n1_ hb hz; have hz := lc13 BK.out) | (go_at_call 46; (with_reducible refine (plan_asks_3.calls k a0_0 a0_1 a0_2 a0_3 a0_4 a0_5 a0_6 a0_7 a0_8 a0_9 a0_10 a0_11 a0_12 a2 v1 v2 _ A4.out).mono ?_); rintro e w1 ⟨rfl, hb⟩; have n0_ := Aside0.mk (blk_below (g := gb) BK.out hb); have n1_ := Aside0.mk (below_step HB.out hb); clear BK HB; have BK := n0_; have HB := n1_; clear n0_ n1_ hb hz; have hz := lc13 BK.out))
 go_ret2
 exact ⟨by first | rfl | (simp [*]; done), HB.out⟩
set_option maxHeartbeats 8000000 in
set_option maxRecDepth 100000 in
theorem plan_Of.ok3 (k : Nat) (a0_0 : Int) (a0_1 : Int) (a0_2 : Int) (a0_3 : Int) (a0_4 : Int) (a0_5 : Int) (a0_6 : Bool) (a0_7 : Int) (a0_8 : Int) (a0_9 : Int) (a0_10 : Int) (a0_11 : Int) (a0_12 : Int) (a2 : Int) (w : World) (hg : loan_Good.f k a0_0 a0_1 a0_2 a0_3 a0_4 a0_5 a0_6 a0_7 a0_8 a0_9 a0_10 a0_11 a0_12 = some true) (hd : date_Good.f a2 = some true) (hp : plan_Part.f a0_0 a0_1 a0_2 a0_3 a0_4 a0_5 a0_6 a0_7 a0_8 a0_9 a0_10 a0_11 a0_12 = some true) (v1 v2 : Int) (hv : plan_asks_3.f k a0_0 a0_1 a0_2 a0_3 a0_4 a0_5 a0_6 a0_7 a0_8 a0_9 a0_10 a0_11 a0_12 a2 = some (v1, v2)) (he : v2 = 0) (r1 r2 : Int) (hc : plan_capped.f k a0_0 a0_1 a0_2 a0_3 a0_4 a0_5 a0_6 a0_7 a0_8 a0_9 a0_10 a0_11 a0_12 v1 = some (r1, r2)) :
  Calls Try.prog 15 #[.agg #[.int .i64 a0_0, .int .i64 a0_1, .int .i64 a0_2, .int .i64 a0_3, .int .i64 a0_4, .int .i64 a0_5, .bool a0_6, .int .i64 a0_7, .int .i64 a0_8, .int .i64 a0_9, .int .i64 a0_10, .int .i64 a0_11, .int .i64 a0_12], .int .i64 3, .int .i64 a2] w fun e w' => e = .returned (.tuple #[.int .i64 r1, .int .i64 r2]) ∧ Below w.heap.size w w' := by
 have hu := Try.underlying23
 have hnil : ∀ w1, Sem.run Try.prog (binOp .eql 63 .nilFunc .nilFunc) w1 = .ok (.bool true) w1 := fun _ => by kernel_rfl
 have hfun : ∀ (f : Fn) w1, Sem.run Try.prog (binOp .eql 63 (.func f #[] #[]) .nilFunc) w1 = .ok (.bool false) w1 := fun _ _ => by kernel_rfl
 have HB := Aside0.mk (Below.refl w.heap.size w)
 have A1 := Aside0.mk hg
 have A2 := Aside0.mk hd
 have A3 := Aside0.mk hp
 have A4 := Aside0.mk hv
 clear hg hd hp hv
 subst he
 have A5 := Aside0.mk hc
 clear hc
 go_enter Try.func15, Try.ntmps15
 go_wp2_with (first | ((with_reducible refine gate_dst (N := 3) rfl ?_); refine box_event ?hg (N := 3) ?hd (cs := #[.int .i64 a0_0, .int .i64 a0_1, .int .i64 a0_2, .int .i64 a0_3, .int .i64 a0_4, .int .i64 a0_5, .bool a0_6, .int .i64 a0_7, .int .i64 a0_8, .int .i64 a0_9, .int .i64 a0_10, .int .i64 a0_11, .int .i64 a0_12]) (t := 23) ?hr ?_; (case hd => rfl); (case hg => rfl); (case hr => first | (go_simp; done) | (go_simp; rfl)); intro gb hg w6 hbox hb; have n0_ := Aside0.mk (below_step HB.out hb); have BK := Aside0.mk (hbox); clear HB; have HB := n0_; clear n0_ hb hbox hg; have hz := lc13 BK.out) | (go_at_call 29; refine (plan_asks.calls _).mono ?_; rintro e w1 ⟨g, rfl, hmap, hgg, hb⟩; have hl := plan_asks.look3 hmap; clear hmap hgg; have n0_ := Aside0.mk (blk_below (g := gb) BK.out hb); have n1_ := Aside0.mk (below_step HB.out hb); clear BK HB; have BK := n0_; have HB := n1_; clear n0_ n1_ hb hz; have hz := lc13 BK.out) | (go_at_call 11; (with_reducible refine (loan_Good.calls k a0_0 a0_1 a0_2 a0_3 a0_4 a0_5 a0_6 a0_7 a0_8 a0_9 a0_10 a0_11 a0_12 true _ A1.out).mono ?_); rintro e w1 ⟨rfl, hb⟩; have n0_ := Aside0.mk (blk_below (g := gb) BK.out hb); have n1_ := Aside0.mk (below_step HB.out hb); clear BK HB; have BK := n0_; have HB := n1_; clear n0_ n1_ hb hz; have hz := lc13 BK.out) | (go_at_call 30; (with_reducible refine (date_Good.calls a2 true _ A2.out).mono ?_); rintro e w1 ⟨rfl, hd_⟩; have hb := hd_.below; clear hd_; have n0_ := Aside0.mk (blk_below (g := gb) BK.out hb); have n1_ := Aside0.mk (below_step HB.out hb); clear BK HB; have BK := n0_; have HB := n1_; clear n0_ n1_ hb hz; have hz := lc13 BK.out) | (go_at_call 31; (with_reducible refine (plan_Part.calls a0_0 a0_1 a0_2 a0_3 a0_4 a0_5 a0_6 a0_7 a0_8 a0_9 a0_10 a0_11 a0_12 true _ A3.out).mono ?_); rintro e w1 ⟨rfl, hb⟩; have n0_ := Aside0.mk (blk_below (g := gb) BK.out hb); have n1_ := Aside0.mk (below_step HB.out hb); clear BK HB; have BK := n0_; have HB := n1_; clear n0_ n1_ hb hz; have hz := lc13 BK.out) | (go_at_call 46; (with_reducible refine (plan_asks_3.calls k a0_0 a0_1 a0_2 a0_3 a0_4 a0_5 a0_6 a0_7 a0_8 a0_9 a0_10 a0_11 a0_12 a2 v1 0 _ A4.out).mono ?_); rintro e w1 ⟨rfl, hb⟩; have n0_ := Aside0.mk (blk_below (g := gb) BK.out hb); have n1_ := Aside0.mk (below_step HB.out hb); clear BK HB; have BK := n0_; have HB := n1_; clear n0_ n1_ hb hz; have hz := lc13 BK.out) | (go_at_call 32; (with_reducible refine (plan_capped.calls k a0_0 a0_1 a0_2 a0_3 a0_4 a0_5 a0_6 a0_7 a0_8 a0_9 a0_10 a0_11 a0_12 v1 r1 r2 _ A5.out).mono ?_); rintro e w1 ⟨rfl, hb⟩; have n0_ := Aside0.mk (blk_below (g := gb) BK.out hb); have n1_ := Aside0.mk (below_step HB.out hb); clear BK HB; have BK := n0_; have HB := n1_; clear n0_ n1_ hb hz; have hz := lc13 BK.out))
 go_ret2
 exact ⟨by first | rfl | (simp [*]; done), HB.out⟩
theorem plan_Of.calls (k : Nat) (a0_0 : Int) (a0_1 : Int) (a0_2 : Int) (a0_3 : Int) (a0_4 : Int) (a0_5 : Int) (a0_6 : Bool) (a0_7 : Int) (a0_8 : Int) (a0_9 : Int) (a0_10 : Int) (a0_11 : Int) (a0_12 : Int) (a1 : Int) (a2 : Int) (r1 : Int) (r2 : Int) (w : World) (h : plan_Of.f k a0_0 a0_1 a0_2 a0_3 a0_4 a0_5 a0_6 a0_7 a0_8 a0_9 a0_10 a0_11 a0_12 a1 a2 = some (r1, r2)) :
  Calls Try.prog 15 #[.agg #[.int .i64 a0_0, .int .i64 a0_1, .int .i64 a0_2, .int .i64 a0_3, .int .i64 a0_4, .int .i64 a0_5, .bool a0_6, .int .i64 a0_7, .int .i64 a0_8, .int .i64 a0_9, .int .i64 a0_10, .int .i64 a0_11, .int .i64 a0_12], .int .i64 a1, .int .i64 a2] w fun e w' => e = .returned (.tuple #[.int .i64 r1, .int .i64 r2]) ∧ Below w.heap.size w w' := by
 rw [plan_Of.f] at h
 obtain ⟨g, hg, h⟩ := Option.bind_eq_some_iff.mp h
 cases g with
 | false =>
  rw [if_neg (by simp)] at h
  simp only [Option.some.injEq, Prod.mk.injEq] at h
  obtain ⟨rfl, rfl⟩ := h
  exact plan_Of.bad k a0_0 a0_1 a0_2 a0_3 a0_4 a0_5 a0_6 a0_7 a0_8 a0_9 a0_10 a0_11 a0_12 a1 a2 w hg
 | true =>
  rw [if_pos rfl] at h
  by_cases hh : 1 ≤ a1 ∧ a1 ≤ 3
  case neg =>
   rw [if_neg hh] at h
   simp only [Option.some.injEq, Prod.mk.injEq] at h
   obtain ⟨rfl, rfl⟩ := h
   exact plan_Of.none k a0_0 a0_1 a0_2 a0_3 a0_4 a0_5 a0_6 a0_7 a0_8 a0_9 a0_10 a0_11 a0_12 a1 a2 w hg hh
  rw [if_pos hh] at h
  obtain ⟨d, hd, h⟩ := Option.bind_eq_some_iff.mp h
  cases d with
  | false =>
   rw [if_neg (by simp)] at h
   simp only [Option.some.injEq, Prod.mk.injEq] at h
   obtain ⟨rfl, rfl⟩ := h
   exact plan_Of.late k a0_0 a0_1 a0_2 a0_3 a0_4 a0_5 a0_6 a0_7 a0_8 a0_9 a0_10 a0_11 a0_12 a1 a2 w hg hh hd
  | true =>
   rw [if_pos rfl] at h
   obtain ⟨p, hp, h⟩ := Option.bind_eq_some_iff.mp h
   cases p with
   | false =>
    rw [if_neg (by simp)] at h
    simp only [Option.some.injEq, Prod.mk.injEq] at h
    obtain ⟨rfl, rfl⟩ := h
    exact plan_Of.out k a0_0 a0_1 a0_2 a0_3 a0_4 a0_5 a0_6 a0_7 a0_8 a0_9 a0_10 a0_11 a0_12 a1 a2 w hg hh hd hp
   | true =>
    rw [if_pos rfl] at h
    obtain ⟨⟨v1, v2⟩, hv, h2⟩ := Option.bind_eq_some_iff.mp h
    have H9 : (if v2 = 0 then plan_capped.f k a0_0 a0_1 a0_2 a0_3 a0_4 a0_5 a0_6 a0_7 a0_8 a0_9 a0_10 a0_11 a0_12 v1 else some (0, v2)) = some (r1, r2) := h2
    rcases (by omega : a1 = 1 ∨ a1 = 2 ∨ a1 = 3) with rfl | rfl | rfl
    ·have hv : plan_asks_1.f a0_0 a0_1 a0_2 a0_3 a0_4 a0_5 a0_6 a0_7 a0_8 a0_9 a0_10 a0_11 a0_12 a2 = some (v1, v2) := hv
     by_cases he : v2 = 0
     ·rw [if_pos he] at H9
      exact plan_Of.ok1 k a0_0 a0_1 a0_2 a0_3 a0_4 a0_5 a0_6 a0_7 a0_8 a0_9 a0_10 a0_11 a0_12 a2 w hg hd hp v1 v2 hv he r1 r2 H9
     ·rw [if_neg he] at H9
      simp only [Option.some.injEq, Prod.mk.injEq] at H9
      obtain ⟨rfl, rfl⟩ := H9
      exact plan_Of.err1 k a0_0 a0_1 a0_2 a0_3 a0_4 a0_5 a0_6 a0_7 a0_8 a0_9 a0_10 a0_11 a0_12 a2 w hg hd hp v1 v2 hv he
    ·have hv : plan_asks_2.f a0_0 a0_1 a0_2 a0_3 a0_4 a0_5 a0_6 a0_7 a0_8 a0_9 a0_10 a0_11 a0_12 a2 = some (v1, v2) := hv
     by_cases he : v2 = 0
     ·rw [if_pos he] at H9
      exact plan_Of.ok2 k a0_0 a0_1 a0_2 a0_3 a0_4 a0_5 a0_6 a0_7 a0_8 a0_9 a0_10 a0_11 a0_12 a2 w hg hd hp v1 v2 hv he r1 r2 H9
     ·rw [if_neg he] at H9
      simp only [Option.some.injEq, Prod.mk.injEq] at H9
      obtain ⟨rfl, rfl⟩ := H9
      exact plan_Of.err2 k a0_0 a0_1 a0_2 a0_3 a0_4 a0_5 a0_6 a0_7 a0_8 a0_9 a0_10 a0_11 a0_12 a2 w hg hd hp v1 v2 hv he
    ·have hv : plan_asks_3.f k a0_0 a0_1 a0_2 a0_3 a0_4 a0_5 a0_6 a0_7 a0_8 a0_9 a0_10 a0_11 a0_12 a2 = some (v1, v2) := hv
     by_cases he : v2 = 0
     ·rw [if_pos he] at H9
      exact plan_Of.ok3 k a0_0 a0_1 a0_2 a0_3 a0_4 a0_5 a0_6 a0_7 a0_8 a0_9 a0_10 a0_11 a0_12 a2 w hg hd hp v1 v2 hv he r1 r2 H9
     ·rw [if_neg he] at H9
      simp only [Option.some.injEq, Prod.mk.injEq] at H9
      obtain ⟨rfl, rfl⟩ := H9
      exact plan_Of.err3 k a0_0 a0_1 a0_2 a0_3 a0_4 a0_5 a0_6 a0_7 a0_8 a0_9 a0_10 a0_11 a0_12 a2 w hg hd hp v1 v2 hv he
end Go.Proofs.Ytlhcohipnieidaa.P
