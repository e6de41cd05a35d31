/- A part of a proof. -/
import Derived.Test.YteemomncbcpdjaaZsu
namespace Go.Proofs.Yteemomncbcpdjaa.P
open Go.RowKit W.PrintWords W.PrintLast W.PrintMore
set_option linter.unusedVariables false
set_option linter.unusedSimpArgs false
section
variable {P : Program} {ops : Array Oper} {Q : Exit → Act → World → Prop} {a : Act} {rest : List Oper} {o : Oper} {W W' : World}
theorem qWj {t : TypeId} {p v : Operand} (_ : o.op = .store t p v) (h : wpList P ops Q (o :: rest) a W) : wpList P ops Q (o :: rest) a W := h
theorem qWb {l : List Oper} {a' : Act} (ha : a = a') (h : wpList P ops Q l a' W) : wpList P ops Q l a W := ha ▸ h
theorem qVx (hgd : o.guard = none) (hd : o.dst = none) (h : Sem.run P (execOp a.eval o) W = .ok .skip W') (hk : wpList P ops Q rest a W') : wpList P ops Q (o :: rest) a W := by
  have hw : ∀ y, Region.wanted o y = true := fun y => by simp [Region.wanted, hgd]
  show if Region.wanted o _ = true then _ else _
  rw [if_pos (hw _)]
  exact .inl (qKu hd h hk)
end
theorem st5b {w : World} {g : Nat} {a0 : Value} {a1 a2 a3 a4 : Int} {cs : Array Value} {t : TypeId} {ev : Operand → Value} {oi : Oper} {p v : Operand} (ho : oi.op = .store 31 p v) (hp : ev p = .pointer (some ⟨g, 0, none⟩)) (hv : ev v = .agg #[a0, .int .i64 a1, .int .i64 a2, .int .i64 a3, .int .i64 a4])
    (hb : w.heap[g]? = some (.cells cs t (0, 0))) (hs : cs.size = 5) (h0 : a0.oneCell' = true) (hc : a0.cells = #[a0]) : Sem.run Try.prog (execOp ev oi) w = .ok .skip (((((w.setCell ⟨g, 0, none⟩ a0).setCell ⟨g, 1, none⟩ (.int .i64 a1)).setCell ⟨g, 2, none⟩ (.int .i64 a2)).setCell ⟨g, 3, none⟩ (.int .i64 a3)).setCell ⟨g, 4, none⟩ (.int .i64 a4)) := by
  have hx : ∀ j, j < 5 → ∃ u, w.cell? ⟨g, j, none⟩ = some u := fun j hj => ⟨_, (qQa hb j).trans (Array.getElem?_eq_getElem (by omega))⟩
  obtain ⟨u0, x0⟩ := hx 0 (by decide)
  obtain ⟨u1, x1⟩ := hx 1 (by decide)
  obtain ⟨u2, x2⟩ := hx 2 (by decide)
  obtain ⟨u3, x3⟩ := hx 3 (by decide)
  obtain ⟨u4, x4⟩ := hx 4 (by decide)
  have hs4 := run_storeCells_cells (P := Try.prog) g 0 [a0, .int .i64 a1, .int .i64 a2, .int .i64 a3, .int .i64 a4] 0 w (fun j hj => by
      match j, hj with
      | 0, _ => rw [Nat.add_zero]; first | (rw [x0]; rfl) | (rw [Nat.add_zero, x0]; rfl)
      | 1, _ => rw [Nat.add_zero]; first | (rw [x1]; rfl) | (rw [Nat.zero_add, x1]; rfl)
      | 2, _ => rw [Nat.add_zero]; first | (rw [x2]; rfl) | (rw [Nat.zero_add, x2]; rfl)
      | 3, _ => rw [Nat.add_zero]; first | (rw [x3]; rfl) | (rw [Nat.zero_add, x3]; rfl)
      | 4, _ => rw [Nat.add_zero]; first | (rw [x4]; rfl) | (rw [Nat.zero_add, x4]; rfl)
      | n + 5, h => simp at h; omega) (fun j hj => by
      match j, hj with
      | 0, _ => exact qQi hb 0
      | 1, _ => exact qQi hb 1
      | 2, _ => exact qQi hb 2
      | 3, _ => exact qQi hb 3
      | 4, _ => exact qQi hb 4
      | n + 5, h => simp at h; omega) (by simp [Value.oneCell'] at h0 ⊢; exact h0)
  have hz : (Go.sizeOf 31).run Try.prog w = .ok 5 w := by kernel_rfl
  have e : (Value.agg #[a0, .int .i64 a1, .int .i64 a2, .int .i64 a3, .int .i64 a4]).cells = #[a0, .int .i64 a1, .int .i64 a2, .int .i64 a3, .int .i64 a4] := by
    simp [Value.cells, hc]
  simp only [execOp, ho, hp, hv]
  have hq : Sem.run Try.prog (Instr.storeAt 31 (Value.pointer (some ⟨g, 0, none⟩)) (Value.agg #[a0, .int .i64 a1, .int .i64 a2, .int .i64 a3, .int .i64 a4])) w = .ok () (w.setCells g (0 + 0) [a0, .int .i64 a1, .int .i64 a2, .int .i64 a3, .int .i64 a4]) := by
    unfold Instr.storeAt storeVar
    simp only [Instr.sureAddr, e, hz, hs4, Sem.run_bind, Sem.run_pure]
    simp [hz, hs4]
  simp only [Sem.run_bind, hq, Sem.run_pure]
  rfl
theorem ld3 {w : World} {g k : Nat} {v : Value} {ev : Operand → Value} {oi : Oper} {p : Operand} (ho : oi.op = .load 3 p) (hp : ev p = .pointer (some ⟨g, k, none⟩)) (hc : w.cell? ⟨g, k, none⟩ = some v) : Sem.run Try.prog (execOp ev oi) w = .ok (.value v) w := by
  simp [execOp, ho, hp, go_sem, hc]
section
variable {P : Program} {ops : Array Oper} {Q : Exit → Act → World → Prop} {a a' : Act} {rest : List Oper} {o : Oper} {W W' : World}
theorem qWq {t : TypeId} {p : Operand} (_ : o.op = .load t p) (h : wpList P ops Q (o :: rest) a W) : wpList P ops Q (o :: rest) a W := h
theorem qY8 {v : Value} (hgd : o.guard = none) (h : Sem.run P (execOp a.eval o) W = .ok (.value v) W') (ha : a.put o.dst v = a') (hk : wpList P ops Q rest a' W') : wpList P ops Q (o :: rest) a W := by
  have hw : ∀ y, Region.wanted o y = true := fun y => by simp [Region.wanted, hgd]
  show if Region.wanted o _ = true then _ else _
  rw [if_pos (hw _)]
  refine .inl ?_
  show o.upon P a _ Q (Sem.run P (execOp a.eval o) W)
  rw [h]
  show wpList P ops Q rest (a.put o.dst v) W'
  rw [ha]
  exact hk
end
theorem ld43 {w : World} {g : Nat} {t : TypeId} {cs : Array Value} {ev : Operand → Value} {oi : Oper} {p : Operand} (ho : oi.op = .load 43 p) (hp : ev p = .pointer (some ⟨g, 0, none⟩)) (hb : w.heap[g]? = some (.cells cs t (0, 0))) (hs : cs.size = 13) : Sem.run Try.prog (execOp ev oi) w = .ok (.value (.agg cs)) w := by
  have h := run_loadVar_row (P := Try.prog) w g t 43 cs (0, 0) _ hb Try.underlying43 rfl (by rw [hs]; kernel_rfl)
  simp [execOp, ho, hp, Instr.loadAt, Instr.sureAddr, h]
theorem bs22 {w : World} {a0 a1 a2 a3 a4 a5 a7 a8 a9 a10 a11 a12 : Int} {a6 : Bool} {ev : Operand → Value} {oi : Oper} {p : Operand} (ho : oi.op = .buildSlice 22 1 #[(0, p)]) (hp : ev p = .agg #[.int .i64 a0, .int .i64 a1, .int .i64 a2, .int .i64 a3, .int .i64 a4, .int .i64 a5, .bool a6, .int .i64 a7, .int .i64 a8, .int .i64 a9, .int .i64 a10, .int .i64 a11, .int .i64 a12]) : Sem.run Try.prog (execOp ev oi) w = .ok (.value (.slice (some ⟨w.heap.size, 0, none⟩) 1 1)) (w.alloc (.cells #[.int .i64 a0, .int .i64 a1, .int .i64 a2, .int .i64 a3, .int .i64 a4, .int .i64 a5, .bool a6, .int .i64 a7, .int .i64 a8, .int .i64 a9, .int .i64 a10, .int .i64 a11, .int .i64 a12] 43 (0, 0))) := by
  have hu := Try.underlying22
  have hu2 := Try.underlying43
  simp [execOp, ho, hp, go_sem]
theorem gt_bs {P : Program} {ops : Array Oper} {Q : Exit → Act → World → Prop} {a : Act} {rest : List Oper} {o : Oper} {W : World} {t : TypeId} {n : Nat} {xs : Array (Nat × Operand)} (_ : o.op = .buildSlice t n xs) (h : wpList P ops Q (o :: rest) a W) : wpList P ops Q (o :: rest) a W := h
theorem qWv {ops : Array Oper} {Q : Exit → Act → World → Prop} {a : Act} {rest : List Oper} {o : Oper} {W : World} {g : Nat} {a0 a1 a2 a3 a4 a5 a7 a8 a9 a10 a11 a12 : Int} {a6 : Bool} {cs : Array Value} {t : TypeId} {p v : Operand} (hgd : o.guard = none) (hd : o.dst = none) (ho : o.op = .store 43 p v) (hp : a.eval p = .pointer (some ⟨g, 0, none⟩)) (hv : a.eval v = .agg #[.int .i64 a0, .int .i64 a1, .int .i64 a2, .int .i64 a3, .int .i64 a4, .int .i64 a5, .bool a6, .int .i64 a7, .int .i64 a8, .int .i64 a9, .int .i64 a10, .int .i64 a11, .int .i64 a12])
    (hb : W.heap[g]? = some (.cells cs t (0, 0))) (hs : cs.size = 13) (hk : ∀ W', (((((((((((((W).setCell ⟨g, 0, none⟩ (.int .i64 a0)).setCell ⟨g, 1, none⟩ (.int .i64 a1)).setCell ⟨g, 2, none⟩ (.int .i64 a2)).setCell ⟨g, 3, none⟩ (.int .i64 a3)).setCell ⟨g, 4, none⟩ (.int .i64 a4)).setCell ⟨g, 5, none⟩ (.int .i64 a5)).setCell ⟨g, 6, none⟩ (.bool a6)).setCell ⟨g, 7, none⟩ (.int .i64 a7)).setCell ⟨g, 8, none⟩ (.int .i64 a8)).setCell ⟨g, 9, none⟩ (.int .i64 a9)).setCell ⟨g, 10, none⟩ (.int .i64 a10)).setCell ⟨g, 11, none⟩ (.int .i64 a11)).setCell ⟨g, 12, none⟩ (.int .i64 a12) = W' → wpList Try.prog ops Q rest a W') : wpList Try.prog ops Q (o :: rest) a W := qVx hgd hd (st13b ho hp hv hb hs) (hk _ rfl)
end Go.Proofs.Yteemomncbcpdjaa.P
