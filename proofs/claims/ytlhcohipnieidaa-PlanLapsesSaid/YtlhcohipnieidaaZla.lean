/- Loans: contracts of the functions on loans, walked by hand. -/
import Derived.Test.YtlhcohipnieidaaPx1
import Derived.Test.YtlhcohipnieidaaPx18
import Derived.Deep.RegionHeld3
import Derived.Laws.CopyOwn
namespace Go.Proofs.Ytlhcohipnieidaa.P
open Go.RowKit Go.Proofs.YtlhcohipnieidaaW.PrintWords Go.Proofs.YtlhcohipnieidaaW.PrintLast Go.Proofs.YtlhcohipnieidaaW.PrintMore
attribute [local go_sem] max2_int min2_int max_two min_two max_three min_three max_four min_four   -- for this text's walks alone
set_option linter.unusedVariables false
set_option linter.unusedSimpArgs false
set_option maxHeartbeats 8000000 in
set_option maxRecDepth 100000 in
theorem loan_does.stop_ok (x : Int) (b : Bool) (w : World) (h : x = 0 ∨ b = false) :
    Calls Try.prog 73 #[.int .i64 x, .bool b] w fun e w' => e = .returned (.tuple #[]) ∧ Drawn0 w w' := by
  rcases h with rfl | rfl
  · go_enter Try.func73, Try.ntmps73
    go_wp2
    go_end0
    exact ⟨by first | rfl | (simp; done), by repeat (first | exact Drawn0.refl _ | apply Drawn0.step)⟩
  · by_cases c : x = 0
    · subst c
      go_enter Try.func73, Try.ntmps73
      go_wp2
      go_end0
      exact ⟨by first | rfl | (simp; done), by repeat (first | exact Drawn0.refl _ | apply Drawn0.step)⟩
    · have c1 : (x != 0) = true := bne_iff_ne.mpr c
      go_enter Try.func73, Try.ntmps73
      go_wp2
      go_end0
      exact ⟨by first | rfl | (simp; done), by repeat (first | exact Drawn0.refl _ | apply Drawn0.step)⟩
set_option maxHeartbeats 8000000 in
set_option maxRecDepth 100000 in
theorem loan_does.stop_bad (x : Int) (w : World) (h : x ≠ 0) :
    Calls Try.prog 73 #[.int .i64 x, .bool true] w fun e w' => e = .panicked [{ v := .iface 24 (.int .i64 x), recovered := false }] ∧ Drawn0 w w' := by
  have c1 : (x == 0) = false := beq_eq_false_iff_ne.mpr h
  have c2 : (x != 0) = true := bne_iff_ne.mpr h
  go_enter Try.func73, Try.ntmps73
  go_wp2
  exact ⟨rfl, rfl, by repeat (first | exact Drawn0.refl _ | apply Drawn0.step)⟩

/-- A loan's cells. -/
def loanC (id pr it su fe ppm : Int) (sd : Bool) (st cl en le fa ct : Int) : Array Value := #[.int .i64 id, .int .i64 pr, .int .i64 it, .int .i64 su, .int .i64 fe, .int .i64 ppm, .bool sd, .int .i64 st, .int .i64 cl, .int .i64 en, .int .i64 le, .int .i64 fa, .int .i64 ct]
theorem loan_does.one (id pr it su fe ppm : Int) (sd : Bool) (st cl en le fa ct : Int) : (loanC id pr it su fe ppm sd st cl en le fa ct).all (fun x => x.oneCell') = true := by simp [loanC, Value.oneCell']
/-- All but two blocks is as it was. -/
structure loan_does.Near (a b : Nat) (w w' : World) : Prop where
  os : w'.os = w.os
  tape : w'.tape = w.tape
  output : w'.output = w.output
  size : w.heap.size ≤ w'.heap.size
  block : ∀ k, k < w.heap.size → k ≠ a → k ≠ b → w'.heap[k]? = w.heap[k]?
theorem loan_does.Near.of_below {a b : Nat} {w w' : World} (h : Below w.heap.size w w') : loan_does.Near a b w w' := ⟨h.os, h.tape, h.output, h.size, fun k hk _ _ => h.block k hk⟩
section
variable {P : Program} {ops : Array Oper} {rest : List Oper} {o : Oper} {a : Act} {W : World} {Q : Exit → Act → World → Prop}
theorem loan_does.gate (ty : TypeId) (x y : Operand) (ho : o.op = .store ty x y) (h : wpList P ops Q (o :: rest) a W) : wpList P ops Q (o :: rest) a W := h
def loan_does.Mark (p : Prop) : Prop := p
theorem loan_does.MARK {p : Prop} (h : loan_does.Mark p) : p := h
/-- A whole struct is stored where one lies. -/
theorem loan_does.st (hgd : o.guard = none) (ty : TypeId) (x y : Operand) (ho : o.op = .store ty x y) (hd : o.dst = none) (g : Nat) (cells : Array Value) (hx : a.eval x = .pointer (some ⟨g, 0, none⟩)) (hy : a.eval y = .agg cells)
    (t : TypeId) (old : Array Value) (hg : W.heap[g]? = some (.cells old t (0, 0))) (hi : (P.info? ty).map (·.size) = some cells.size) (hold : old.size = cells.size) (h1 : cells.all (·.oneCell') = true)
    (h : wpList P ops Q rest a (W.setRow g cells)) : wpList P ops Q (o :: rest) a W :=
  wpList_plain hgd fun K hK => wp_store_row ty x y ho g cells hx hy t old hg hi hold h1 (by rw [hd]; exact hK _ _ h)
end
theorem loan_does.kept {w w' : World} {i : Nat} {o : Obj} (hb : Below w.heap.size w w') (h : w.heap[i]? = some o) : w'.heap[i]? = some o := (hb.block i (blk_lt h)).trans h
set_option maxHeartbeats 8000000 in
set_option maxRecDepth 100000 in
theorem loan_does.idle (p q : Addr) (w : World) :
    CallsD Try.prog 72 #[.pointer (some p), .pointer (some q)] .returning w fun e u' w' => e = .returned (.tuple #[]) ∧ u' = .returning ∧ w' = w := by
  refine callsD_of_wpS Try.func72 rfl fun c₀ cs hu => ?_
  apply wpS_seq
  apply wpS_region
  simp [wpOpsS, go_sem, recoverD, hu, Try.ntmps72, Exit.thenS]
  refine wpS_of_wp ?_
  go_wp2
  cases c₀
  simp_all [bodyPostS, results, Try.results72]
set_option maxHeartbeats 8000000 in
set_option maxRecDepth 100000 in
theorem loan_does.caught (g : Nat) (x : Int) (cs₁ : Array Value) (y : Int) (w : World) (hcs : cs₁.size = 13) (h1 : w.heap[g]? = some (.cells cs₁ 23 (0, 0))) (h2 : w.heap[g + 1]? = some (.cells #[.int .i64 y] 24 (0, 0))) :
    CallsD Try.prog 72 #[.pointer (some ⟨g, 0, none⟩), .pointer (some ⟨g + 1, 0, none⟩)] (.panicking [{ v := .iface 24 (.int .i64 x), recovered := false }]) w fun e u' w' =>
      e = .returned (.tuple #[]) ∧ u' = .panicking [{ v := .iface 24 (.int .i64 x), recovered := true }] ∧
      w'.heap[g]? = some (.cells (loanC 0 0 0 0 0 0 false 0 0 0 0 0 0) 23 (0, 0)) ∧ w'.heap[g + 1]? = some (.cells #[.int .i64 x] 24 (0, 0)) ∧ ∀ B W, B ≤ g → Below B W w → Below B W w' := by
  have hl := blk_lt h2
  have hta : ∀ (v : Value) (W : World), (Instr.typeAssert (.iface 24 v) 20 24 true).run Try.prog W = .ok (.tuple #[v, .bool true]) W := fun v W => by rfl
  refine callsD_of_wpS Try.func72 rfl fun c₀ cs hu => ?_
  apply wpS_seq
  apply wpS_region
  simp [wpOpsS, go_sem, recoverD, hu, Try.ntmps72, Exit.thenS]
  refine wpS_of_wp ?_
  have h1' := Aside0.mk h1
  have h2' := Aside0.mk h2
  clear h1 h2
  have k2 : (w.setRow g (loanC 0 0 0 0 0 0 false 0 0 0 0 0 0)).heap[g + 1]? = some (.cells #[.int .i64 y] 24 (0, 0)) := (setRow_other w g (g + 1) _ (by omega)).trans h2'.out
  have d2 : (w.setRow g (loanC 0 0 0 0 0 0 false 0 0 0 0 0 0)).cell? ⟨g + 1, 0, none⟩ = some (.int .i64 y) := (blk_cell k2 0).trans rfl
  have e2 := blk_frozen k2 0
  have K2 := Aside0.mk k2
  clear k2
  go_wp2_with ((with_reducible refine loan_does.gate 23 (.tmp 0) (.tmp 11) rfl ?_); refine loan_does.MARK ?_)
  unfold loan_does.Mark
  (refine loan_does.st rfl 23 (.tmp 0) (.tmp 11) rfl rfl g (loanC 0 0 0 0 0 0 false 0 0 0 0 0 0) ?hx ?hy 23 cs₁ h1'.out (by kernel_rfl) hcs (loan_does.one _ _ _ _ _ _ _ _ _ _ _ _ _) ?_); (case hx => simp [go_sem]); (case hy => simp [go_sem, loanC])
  go_wp2
  cases c₀
  simp only at hu
  subst hu
  refine ⟨rfl, _, rfl, _, results_none rfl _ _ _, rfl, rfl, blk_far (setRow_heap w g _ _ 23 (0, 0) h1'.out) (by simp) _, blk_put K2.out 0 _ rfl, fun B W hB hb => ?_⟩
  exact (below_setRow hb hB _).setCell (by simp; omega) _
section
variable {P : Program} {ops : Array Oper} {Q : Exit → Act → World → Prop} {md : Region.Mode} {S : World → Prop} {fuel : Nat} {listed : Array Bool} {a : Act} {w : World}
end
end Go.Proofs.Ytlhcohipnieidaa.P
