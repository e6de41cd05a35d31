/- A part of a proof. -/
import Derived.Test.YteemomncbcpdjaaPx0
namespace Go.Proofs.Yteemomncbcpdjaa.P
open Go.RowKit W.PrintWords W.PrintLast W.PrintMore
set_option linter.unusedVariables false
set_option linter.unusedSimpArgs false
theorem st13 {w : World} {g o : Nat} {a0 a1 a2 a3 a4 a5 a7 a8 a9 a10 a11 a12 : Int} {a6 : Bool} {u0 u1 u2 u3 u4 u5 u6 u7 u8 u9 u10 u11 u12 : Value} {ev : Operand → Value} {oi : Oper} {p v : Operand} (ho : oi.op = .store 43 p v) (hp : ev p = .pointer (some ⟨g, o, none⟩)) (hv : ev v = .agg #[.int .i64 a0, .int .i64 a1, .int .i64 a2, .int .i64 a3, .int .i64 a4, .int .i64 a5, .bool a6, .int .i64 a7, .int .i64 a8, .int .i64 a9, .int .i64 a10, .int .i64 a11, .int .i64 a12])
    (x0 : w.cell? ⟨g, o, none⟩ = some u0) (x1 : w.cell? ⟨g, o + 1, none⟩ = some u1) (x2 : w.cell? ⟨g, o + 2, none⟩ = some u2) (x3 : w.cell? ⟨g, o + 3, none⟩ = some u3) (x4 : w.cell? ⟨g, o + 4, none⟩ = some u4) (x5 : w.cell? ⟨g, o + 5, none⟩ = some u5) (x6 : w.cell? ⟨g, o + 6, none⟩ = some u6) (x7 : w.cell? ⟨g, o + 7, none⟩ = some u7) (x8 : w.cell? ⟨g, o + 8, none⟩ = some u8) (x9 : w.cell? ⟨g, o + 9, none⟩ = some u9) (x10 : w.cell? ⟨g, o + 10, none⟩ = some u10) (x11 : w.cell? ⟨g, o + 11, none⟩ = some u11) (x12 : w.cell? ⟨g, o + 12, none⟩ = some u12)
    (f0 : w.frozen? ⟨g, o, none⟩ = false) (f1 : w.frozen? ⟨g, o + 1, none⟩ = false) (f2 : w.frozen? ⟨g, o + 2, none⟩ = false) (f3 : w.frozen? ⟨g, o + 3, none⟩ = false) (f4 : w.frozen? ⟨g, o + 4, none⟩ = false) (f5 : w.frozen? ⟨g, o + 5, none⟩ = false) (f6 : w.frozen? ⟨g, o + 6, none⟩ = false) (f7 : w.frozen? ⟨g, o + 7, none⟩ = false) (f8 : w.frozen? ⟨g, o + 8, none⟩ = false) (f9 : w.frozen? ⟨g, o + 9, none⟩ = false) (f10 : w.frozen? ⟨g, o + 10, none⟩ = false) (f11 : w.frozen? ⟨g, o + 11, none⟩ = false) (f12 : w.frozen? ⟨g, o + 12, none⟩ = false) : Sem.run Try.prog (execOp ev oi) w = .ok .skip ((((((((((((((w).setCell ⟨g, o, none⟩ (.int .i64 a0)).setCell ⟨g, o + 1, none⟩ (.int .i64 a1)).setCell ⟨g, o + 2, none⟩ (.int .i64 a2)).setCell ⟨g, o + 3, none⟩ (.int .i64 a3)).setCell ⟨g, o + 4, none⟩ (.int .i64 a4)).setCell ⟨g, o + 5, none⟩ (.int .i64 a5)).setCell ⟨g, o + 6, none⟩ (.bool a6)).setCell ⟨g, o + 7, none⟩ (.int .i64 a7)).setCell ⟨g, o + 8, none⟩ (.int .i64 a8)).setCell ⟨g, o + 9, none⟩ (.int .i64 a9)).setCell ⟨g, o + 10, none⟩ (.int .i64 a10)).setCell ⟨g, o + 11, none⟩ (.int .i64 a11)).setCell ⟨g, o + 12, none⟩ (.int .i64 a12)) := by
  have hs := run_storeCells_cells (P := Try.prog) g o [.int .i64 a0, .int .i64 a1, .int .i64 a2, .int .i64 a3, .int .i64 a4, .int .i64 a5, .bool a6, .int .i64 a7, .int .i64 a8, .int .i64 a9, .int .i64 a10, .int .i64 a11, .int .i64 a12] 0 w (fun j hj => by
      match j, hj with
      | 0, _ => rw [Nat.add_zero]; first | (rw [x0]; rfl) | (rw [Nat.add_zero, x0]; rfl)
      | 1, _ => rw [Nat.add_zero]; first | (rw [x1]; rfl) | (rw [Nat.add_zero, x1]; rfl)
      | 2, _ => rw [Nat.add_zero]; first | (rw [x2]; rfl) | (rw [Nat.add_zero, x2]; rfl)
      | 3, _ => rw [Nat.add_zero]; first | (rw [x3]; rfl) | (rw [Nat.add_zero, x3]; rfl)
      | 4, _ => rw [Nat.add_zero]; first | (rw [x4]; rfl) | (rw [Nat.add_zero, x4]; rfl)
      | 5, _ => rw [Nat.add_zero]; first | (rw [x5]; rfl) | (rw [Nat.add_zero, x5]; rfl)
      | 6, _ => rw [Nat.add_zero]; first | (rw [x6]; rfl) | (rw [Nat.add_zero, x6]; rfl)
      | 7, _ => rw [Nat.add_zero]; first | (rw [x7]; rfl) | (rw [Nat.add_zero, x7]; rfl)
      | 8, _ => rw [Nat.add_zero]; first | (rw [x8]; rfl) | (rw [Nat.add_zero, x8]; rfl)
      | 9, _ => rw [Nat.add_zero]; first | (rw [x9]; rfl) | (rw [Nat.add_zero, x9]; rfl)
      | 10, _ => rw [Nat.add_zero]; first | (rw [x10]; rfl) | (rw [Nat.add_zero, x10]; rfl)
      | 11, _ => rw [Nat.add_zero]; first | (rw [x11]; rfl) | (rw [Nat.add_zero, x11]; rfl)
      | 12, _ => rw [Nat.add_zero]; first | (rw [x12]; rfl) | (rw [Nat.add_zero, x12]; rfl)
      | n + 13, h => simp at h; omega) (fun j hj => by
      match j, hj with
      | 0, _ => rw [Nat.add_zero]; first | exact f0 | (rw [Nat.add_zero]; exact f0)
      | 1, _ => rw [Nat.add_zero]; first | exact f1 | (rw [Nat.add_zero]; exact f1)
      | 2, _ => rw [Nat.add_zero]; first | exact f2 | (rw [Nat.add_zero]; exact f2)
      | 3, _ => rw [Nat.add_zero]; first | exact f3 | (rw [Nat.add_zero]; exact f3)
      | 4, _ => rw [Nat.add_zero]; first | exact f4 | (rw [Nat.add_zero]; exact f4)
      | 5, _ => rw [Nat.add_zero]; first | exact f5 | (rw [Nat.add_zero]; exact f5)
      | 6, _ => rw [Nat.add_zero]; first | exact f6 | (rw [Nat.add_zero]; exact f6)
      | 7, _ => rw [Nat.add_zero]; first | exact f7 | (rw [Nat.add_zero]; exact f7)
      | 8, _ => rw [Nat.add_zero]; first | exact f8 | (rw [Nat.add_zero]; exact f8)
      | 9, _ => rw [Nat.add_zero]; first | exact f9 | (rw [Nat.add_zero]; exact f9)
      | 10, _ => rw [Nat.add_zero]; first | exact f10 | (rw [Nat.add_zero]; exact f10)
      | 11, _ => rw [Nat.add_zero]; first | exact f11 | (rw [Nat.add_zero]; exact f11)
      | 12, _ => rw [Nat.add_zero]; first | exact f12 | (rw [Nat.add_zero]; exact f12)
      | n + 13, h => simp at h; omega) (by simp [Value.oneCell'])
  have hz : (Go.sizeOf 43).run Try.prog w = .ok 13 w := by kernel_rfl
  have e : (Value.agg #[.int .i64 a0, .int .i64 a1, .int .i64 a2, .int .i64 a3, .int .i64 a4, .int .i64 a5, .bool a6, .int .i64 a7, .int .i64 a8, .int .i64 a9, .int .i64 a10, .int .i64 a11, .int .i64 a12]).cells = #[.int .i64 a0, .int .i64 a1, .int .i64 a2, .int .i64 a3, .int .i64 a4, .int .i64 a5, .bool a6, .int .i64 a7, .int .i64 a8, .int .i64 a9, .int .i64 a10, .int .i64 a11, .int .i64 a12] := rfl
  simp only [execOp, ho, hp, hv]
  have hq : Sem.run Try.prog (Instr.storeAt 43 (Value.pointer (some ⟨g, o, none⟩)) (Value.agg #[.int .i64 a0, .int .i64 a1, .int .i64 a2, .int .i64 a3, .int .i64 a4, .int .i64 a5, .bool a6, .int .i64 a7, .int .i64 a8, .int .i64 a9, .int .i64 a10, .int .i64 a11, .int .i64 a12])) w = .ok () (w.setCells g (o + 0) [.int .i64 a0, .int .i64 a1, .int .i64 a2, .int .i64 a3, .int .i64 a4, .int .i64 a5, .bool a6, .int .i64 a7, .int .i64 a8, .int .i64 a9, .int .i64 a10, .int .i64 a11, .int .i64 a12]) := by
    unfold Instr.storeAt storeVar
    simp only [Instr.sureAddr, e, hz, hs, Sem.run_bind, Sem.run_pure]
    simp [hz, hs]
  simp only [Sem.run_bind, hq, Sem.run_pure]
  rw [Nat.add_zero]
  rfl
theorem st13b {w : World} {g : Nat} {a0 a1 a2 a3 a4 a5 a7 a8 a9 a10 a11 a12 : Int} {a6 : Bool} {cs : Array Value} {t : TypeId} {ev : Operand → Value} {oi : Oper} {p v : Operand} (ho : oi.op = .store 43 p v) (hp : ev p = .pointer (some ⟨g, 0, none⟩)) (hv : ev v = .agg #[.int .i64 a0, .int .i64 a1, .int .i64 a2, .int .i64 a3, .int .i64 a4, .int .i64 a5, .bool a6, .int .i64 a7, .int .i64 a8, .int .i64 a9, .int .i64 a10, .int .i64 a11, .int .i64 a12])
    (hb : w.heap[g]? = some (.cells cs t (0, 0))) (hs : cs.size = 13) : Sem.run Try.prog (execOp ev oi) w = .ok .skip ((((((((((((((w).setCell ⟨g, 0, none⟩ (.int .i64 a0)).setCell ⟨g, 1, none⟩ (.int .i64 a1)).setCell ⟨g, 2, none⟩ (.int .i64 a2)).setCell ⟨g, 3, none⟩ (.int .i64 a3)).setCell ⟨g, 4, none⟩ (.int .i64 a4)).setCell ⟨g, 5, none⟩ (.int .i64 a5)).setCell ⟨g, 6, none⟩ (.bool a6)).setCell ⟨g, 7, none⟩ (.int .i64 a7)).setCell ⟨g, 8, none⟩ (.int .i64 a8)).setCell ⟨g, 9, none⟩ (.int .i64 a9)).setCell ⟨g, 10, none⟩ (.int .i64 a10)).setCell ⟨g, 11, none⟩ (.int .i64 a11)).setCell ⟨g, 12, none⟩ (.int .i64 a12)) := by
  have hx : ∀ j, j < 13 → ∃ u, w.cell? ⟨g, j, none⟩ = some u := fun j hj => ⟨_, (qQa hb j).trans (Array.getElem?_eq_getElem (by omega))⟩
  obtain ⟨u0, x0⟩ := hx 0 (by decide)
  obtain ⟨u1, x1⟩ := hx 1 (by decide)
  obtain ⟨u2, x2⟩ := hx 2 (by decide)
  obtain ⟨u3, x3⟩ := hx 3 (by decide)
  obtain ⟨u4, x4⟩ := hx 4 (by decide)
  obtain ⟨u5, x5⟩ := hx 5 (by decide)
  obtain ⟨u6, x6⟩ := hx 6 (by decide)
  obtain ⟨u7, x7⟩ := hx 7 (by decide)
  obtain ⟨u8, x8⟩ := hx 8 (by decide)
  obtain ⟨u9, x9⟩ := hx 9 (by decide)
  obtain ⟨u10, x10⟩ := hx 10 (by decide)
  obtain ⟨u11, x11⟩ := hx 11 (by decide)
  obtain ⟨u12, x12⟩ := hx 12 (by decide)
  have h := st13 (o := 0) ho hp hv x0 (by rw [Nat.zero_add]; exact x1) (by rw [Nat.zero_add]; exact x2) (by rw [Nat.zero_add]; exact x3) (by rw [Nat.zero_add]; exact x4) (by rw [Nat.zero_add]; exact x5) (by rw [Nat.zero_add]; exact x6) (by rw [Nat.zero_add]; exact x7) (by rw [Nat.zero_add]; exact x8) (by rw [Nat.zero_add]; exact x9) (by rw [Nat.zero_add]; exact x10) (by rw [Nat.zero_add]; exact x11) (by rw [Nat.zero_add]; exact x12) (qQi hb 0) (by rw [Nat.zero_add]; exact qQi hb 1) (by rw [Nat.zero_add]; exact qQi hb 2) (by rw [Nat.zero_add]; exact qQi hb 3) (by rw [Nat.zero_add]; exact qQi hb 4) (by rw [Nat.zero_add]; exact qQi hb 5) (by rw [Nat.zero_add]; exact qQi hb 6) (by rw [Nat.zero_add]; exact qQi hb 7) (by rw [Nat.zero_add]; exact qQi hb 8) (by rw [Nat.zero_add]; exact qQi hb 9) (by rw [Nat.zero_add]; exact qQi hb 10) (by rw [Nat.zero_add]; exact qQi hb 11) (by rw [Nat.zero_add]; exact qQi hb 12)
  simp only [Nat.zero_add] at h
  exact h
theorem qKu {P : Program} {o : Oper} {a : Act} {next : Act → World → Prop} {Q : Exit → Act → World → Prop} {w w' : World} (hd : o.dst = none) (h : Sem.run P (execOp a.eval o) w = .ok .skip w') (hk : next a w') : o.wp P a w next Q := by
  show o.upon P a next Q (Sem.run P (execOp a.eval o) w)
  rw [h]
  show next (a.put o.dst undef) w'
  rw [hd]
  exact hk
theorem st4b {w : World} {g : Nat} {a0 a1 a2 a3 : Int} {cs : Array Value} {t : TypeId} {ev : Operand → Value} {oi : Oper} {p v : Operand} (ho : oi.op = .store 26 p v) (hp : ev p = .pointer (some ⟨g, 0, none⟩)) (hv : ev v = .agg #[.int .i64 a0, .int .i64 a1, .int .i64 a2, .int .i64 a3])
    (hb : w.heap[g]? = some (.cells cs t (0, 0))) (hs : cs.size = 4) : Sem.run Try.prog (execOp ev oi) w = .ok .skip ((((w.setCell ⟨g, 0, none⟩ (.int .i64 a0)).setCell ⟨g, 1, none⟩ (.int .i64 a1)).setCell ⟨g, 2, none⟩ (.int .i64 a2)).setCell ⟨g, 3, none⟩ (.int .i64 a3)) := by
  have hx : ∀ j, j < 4 → ∃ u, w.cell? ⟨g, j, none⟩ = some u := fun j hj => ⟨_, (qQa hb j).trans (Array.getElem?_eq_getElem (by omega))⟩
  obtain ⟨u0, x0⟩ := hx 0 (by decide)
  obtain ⟨u1, x1⟩ := hx 1 (by decide)
  obtain ⟨u2, x2⟩ := hx 2 (by decide)
  obtain ⟨u3, x3⟩ := hx 3 (by decide)
  have hs4 := run_storeCells_cells (P := Try.prog) g 0 [.int .i64 a0, .int .i64 a1, .int .i64 a2, .int .i64 a3] 0 w (fun j hj => by
      match j, hj with
      | 0, _ => rw [Nat.add_zero]; first | (rw [x0]; rfl) | (rw [Nat.add_zero, x0]; rfl)
      | 1, _ => rw [Nat.add_zero]; first | (rw [x1]; rfl) | (rw [Nat.zero_add, x1]; rfl)
      | 2, _ => rw [Nat.add_zero]; first | (rw [x2]; rfl) | (rw [Nat.zero_add, x2]; rfl)
      | 3, _ => rw [Nat.add_zero]; first | (rw [x3]; rfl) | (rw [Nat.zero_add, x3]; rfl)
      | n + 4, h => simp at h; omega) (fun j hj => by
      match j, hj with
      | 0, _ => exact qQi hb 0
      | 1, _ => exact qQi hb 1
      | 2, _ => exact qQi hb 2
      | 3, _ => exact qQi hb 3
      | n + 4, h => simp at h; omega) (by simp [Value.oneCell'])
  have hz : (Go.sizeOf 26).run Try.prog w = .ok 4 w := by kernel_rfl
  have e : (Value.agg #[.int .i64 a0, .int .i64 a1, .int .i64 a2, .int .i64 a3]).cells = #[.int .i64 a0, .int .i64 a1, .int .i64 a2, .int .i64 a3] := rfl
  simp only [execOp, ho, hp, hv]
  have hq : Sem.run Try.prog (Instr.storeAt 26 (Value.pointer (some ⟨g, 0, none⟩)) (Value.agg #[.int .i64 a0, .int .i64 a1, .int .i64 a2, .int .i64 a3])) w = .ok () (w.setCells g (0 + 0) [.int .i64 a0, .int .i64 a1, .int .i64 a2, .int .i64 a3]) := by
    unfold Instr.storeAt storeVar
    simp only [Instr.sureAddr, e, hz, hs4, Sem.run_bind, Sem.run_pure]
    simp [hz, hs4]
  simp only [Sem.run_bind, hq, Sem.run_pure]
  rfl
end Go.Proofs.Yteemomncbcpdjaa.P
