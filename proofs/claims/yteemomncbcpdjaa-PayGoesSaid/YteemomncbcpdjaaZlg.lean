/- A part of a proof. -/
import Derived.Test.YteemomncbcpdjaaZaa
import Derived.Test.YteemomncbcpdjaaPx3
import Derived.Test.YteemomncbcpdjaaPx4
import Derived.Test.YteemomncbcpdjaaPx5
import Derived.Test.YteemomncbcpdjaaPx7
import Derived.Test.YteemomncbcpdjaaZld
import Derived.Deep.RegionHeld3
import Derived.Laws.CopyOwn
namespace Go.Proofs.Yteemomncbcpdjaa.P
open Go.RowKit W.PrintWords W.PrintLast W.PrintMore
attribute [local go_sem] qZs qZq qZ5 qZ6 qZk qZl qZt qZp
set_option linter.unusedVariables false
set_option linter.unusedSimpArgs false
set_option linter.unnecessarySimpa false
set_option maxHeartbeats 8000000 in
set_option maxRecDepth 100000 in
theorem qZr.by_ (id pr it su fe ppm : Int) (sd : Bool) (st cl en le fa ct : Int) (pf : Int) (pi : Int) (pp : Int) (r1 : Int) (r2 : Int) (r3 : Int) (r4 : Int) (r5 : Int) (r6 : Int) (r7 : Bool) (r8 : Int) (r9 : Int) (r10 : Int) (r11 : Int) (r12 : Int) (r13 : Int) (r14 : Int) (w : World)
    (hD : ∀ W, W.heap[w.heap.size + 1]? = some (.cells #[.int .i64 pf] 2 (0, 0)) → W.heap[w.heap.size + 2]? = some (.cells #[.int .i64 pi] 2 (0, 0)) → W.heap[w.heap.size + 3]? = some (.cells #[.int .i64 pp] 2 (0, 0)) → Below w.heap.size w W → Calls Try.prog 44 #[.agg (loanC id pr it su fe ppm sd st cl en le fa ct), .func (.func 45) #[] #[.pointer (some ⟨w.heap.size + 1, 0, none⟩), .pointer (some ⟨w.heap.size + 2, 0, none⟩), .pointer (some ⟨w.heap.size + 3, 0, none⟩)]] W fun e w' => e = .returned (.tuple #[.agg (loanC r1 r2 r3 r4 r5 r6 r7 r8 r9 r10 r11 r12 r13), .int .i64 r14]) ∧ Below W.heap.size W w') :
    Calls Try.prog 28 #[.agg #[.int .i64 id, .int .i64 pr, .int .i64 it, .int .i64 su, .int .i64 fe, .int .i64 ppm, .bool sd, .int .i64 st, .int .i64 cl, .int .i64 en, .int .i64 le, .int .i64 fa, .int .i64 ct], .int .i64 pf, .int .i64 pi, .int .i64 pp] w fun e w' => e = .returned (.tuple #[.agg #[.int .i64 r1, .int .i64 r2, .int .i64 r3, .int .i64 r4, .int .i64 r5, .int .i64 r6, .bool r7, .int .i64 r8, .int .i64 r9, .int .i64 r10, .int .i64 r11, .int .i64 r12, .int .i64 r13], .int .i64 r14]) ∧ Below w.heap.size w w' := by
  have HD := am hD
  clear hD
  have hmf : ∀ (fn : Fn) (first cap : Array Value) (w : World), (Instr.makeFunc fn first cap).run Try.prog w = .ok (.func fn first cap) w := fun _ _ _ _ => rfl
  go_enter Try.func28, Try.ntmps28
  go_upto_region 1 with (fail)
  obtain ⟨W, hW⟩ : ∃ W, W = (((((w.alloc (Obj.cells #[.int .i64 id, .int .i64 pr, .int .i64 it, .int .i64 su, .int .i64 fe, .int .i64 ppm, .bool sd, .int .i64 st, .int .i64 cl, .int .i64 en, .int .i64 le, .int .i64 fa, .int .i64 ct] 43)).alloc (Obj.cells #[.int .i64 pf] 2)).alloc (Obj.cells #[.int .i64 pi] 2)).alloc (Obj.cells #[.int .i64 pp] 2)).alloc (Obj.cells #[.int .i64 0, .int .i64 0, .int .i64 0, .int .i64 0, .int .i64 0, .int .i64 0, .bool false, .int .i64 0, .int .i64 0, .int .i64 0, .int .i64 0, .int .i64 0, .int .i64 0] 43)) := ⟨_, rfl⟩
  have B0 : Aside0 (W.heap[w.heap.size]? = some (.cells (loanC id pr it su fe ppm sd st cl en le fa ct) 43 (0, 0))) := ⟨by
    have := qQo (qQo (qQo (qQo (qYn w (Obj.cells #[.int .i64 id, .int .i64 pr, .int .i64 it, .int .i64 su, .int .i64 fe, .int .i64 ppm, .bool sd, .int .i64 st, .int .i64 cl, .int .i64 en, .int .i64 le, .int .i64 fa, .int .i64 ct] 43)) (Obj.cells #[.int .i64 pf] 2)) (Obj.cells #[.int .i64 pi] 2)) (Obj.cells #[.int .i64 pp] 2)) (Obj.cells #[.int .i64 0, .int .i64 0, .int .i64 0, .int .i64 0, .int .i64 0, .int .i64 0, .bool false, .int .i64 0, .int .i64 0, .int .i64 0, .int .i64 0, .int .i64 0, .int .i64 0] 43)
    rw [hW]; simpa [loanC] using this⟩
  have B1 : Aside0 (W.heap[w.heap.size + 1]? = some (.cells #[.int .i64 pf] 2 (0, 0))) := ⟨by
    have := qQo (qQo (qQo (qYn (w.alloc (Obj.cells #[.int .i64 id, .int .i64 pr, .int .i64 it, .int .i64 su, .int .i64 fe, .int .i64 ppm, .bool sd, .int .i64 st, .int .i64 cl, .int .i64 en, .int .i64 le, .int .i64 fa, .int .i64 ct] 43)) (Obj.cells #[.int .i64 pf] 2)) (Obj.cells #[.int .i64 pi] 2)) (Obj.cells #[.int .i64 pp] 2)) (Obj.cells #[.int .i64 0, .int .i64 0, .int .i64 0, .int .i64 0, .int .i64 0, .int .i64 0, .bool false, .int .i64 0, .int .i64 0, .int .i64 0, .int .i64 0, .int .i64 0, .int .i64 0] 43)
    rw [hW]; simpa [loanC] using this⟩
  have B2 : Aside0 (W.heap[w.heap.size + 2]? = some (.cells #[.int .i64 pi] 2 (0, 0))) := ⟨by
    have := qQo (qQo (qYn ((w.alloc (Obj.cells #[.int .i64 id, .int .i64 pr, .int .i64 it, .int .i64 su, .int .i64 fe, .int .i64 ppm, .bool sd, .int .i64 st, .int .i64 cl, .int .i64 en, .int .i64 le, .int .i64 fa, .int .i64 ct] 43)).alloc (Obj.cells #[.int .i64 pf] 2)) (Obj.cells #[.int .i64 pi] 2)) (Obj.cells #[.int .i64 pp] 2)) (Obj.cells #[.int .i64 0, .int .i64 0, .int .i64 0, .int .i64 0, .int .i64 0, .int .i64 0, .bool false, .int .i64 0, .int .i64 0, .int .i64 0, .int .i64 0, .int .i64 0, .int .i64 0] 43)
    rw [hW]; simpa [loanC] using this⟩
  have B3 : Aside0 (W.heap[w.heap.size + 3]? = some (.cells #[.int .i64 pp] 2 (0, 0))) := ⟨by
    have := qQo (qYn (((w.alloc (Obj.cells #[.int .i64 id, .int .i64 pr, .int .i64 it, .int .i64 su, .int .i64 fe, .int .i64 ppm, .bool sd, .int .i64 st, .int .i64 cl, .int .i64 en, .int .i64 le, .int .i64 fa, .int .i64 ct] 43)).alloc (Obj.cells #[.int .i64 pf] 2)).alloc (Obj.cells #[.int .i64 pi] 2)) (Obj.cells #[.int .i64 pp] 2)) (Obj.cells #[.int .i64 0, .int .i64 0, .int .i64 0, .int .i64 0, .int .i64 0, .int .i64 0, .bool false, .int .i64 0, .int .i64 0, .int .i64 0, .int .i64 0, .int .i64 0, .int .i64 0] 43)
    rw [hW]; simpa [loanC] using this⟩
  have B4 : Aside0 (W.heap[w.heap.size + 4]? = some (.cells (loanC 0 0 0 0 0 0 false 0 0 0 0 0 0) 43 (0, 0))) := ⟨by
    have := qYn ((((w.alloc (Obj.cells #[.int .i64 id, .int .i64 pr, .int .i64 it, .int .i64 su, .int .i64 fe, .int .i64 ppm, .bool sd, .int .i64 st, .int .i64 cl, .int .i64 en, .int .i64 le, .int .i64 fa, .int .i64 ct] 43)).alloc (Obj.cells #[.int .i64 pf] 2)).alloc (Obj.cells #[.int .i64 pi] 2)).alloc (Obj.cells #[.int .i64 pp] 2)) (Obj.cells #[.int .i64 0, .int .i64 0, .int .i64 0, .int .i64 0, .int .i64 0, .int .i64 0, .bool false, .int .i64 0, .int .i64 0, .int .i64 0, .int .i64 0, .int .i64 0, .int .i64 0] 43)
    rw [hW]; simpa [loanC] using this⟩
  have HB : Aside0 (Below w.heap.size w W) := ⟨by rw [hW]; exact (((((Below.refl _ _).alloc (Nat.le_refl _) _).alloc (by simp) _).alloc (by simp; try omega) _).alloc (by simp; try omega) _).alloc (by simp; try omega) _⟩
  rw [← hW]
  clear hW
  try rw [show w.heap.size + 1 + 1 = w.heap.size + 2 from rfl]
  try rw [show w.heap.size + 1 + 1 + 1 = w.heap.size + 3 from rfl]
  try rw [show w.heap.size + 1 + 1 + 1 + 1 = w.heap.size + 4 from rfl]
  have c0 : W.cell? ⟨w.heap.size, 0, none⟩ = some (.int .i64 id) := (qQa B0.out 0).trans rfl
  have c1 : W.cell? ⟨w.heap.size, 1, none⟩ = some (.int .i64 pr) := (qQa B0.out 1).trans rfl
  have c2 : W.cell? ⟨w.heap.size, 2, none⟩ = some (.int .i64 it) := (qQa B0.out 2).trans rfl
  have c3 : W.cell? ⟨w.heap.size, 3, none⟩ = some (.int .i64 su) := (qQa B0.out 3).trans rfl
  have c4 : W.cell? ⟨w.heap.size, 4, none⟩ = some (.int .i64 fe) := (qQa B0.out 4).trans rfl
  have c5 : W.cell? ⟨w.heap.size, 5, none⟩ = some (.int .i64 ppm) := (qQa B0.out 5).trans rfl
  have c6 : W.cell? ⟨w.heap.size, 6, none⟩ = some (.bool sd) := (qQa B0.out 6).trans rfl
  have c7 : W.cell? ⟨w.heap.size, 7, none⟩ = some (.int .i64 st) := (qQa B0.out 7).trans rfl
  have c8 : W.cell? ⟨w.heap.size, 8, none⟩ = some (.int .i64 cl) := (qQa B0.out 8).trans rfl
  have c9 : W.cell? ⟨w.heap.size, 9, none⟩ = some (.int .i64 en) := (qQa B0.out 9).trans rfl
  have c10 : W.cell? ⟨w.heap.size, 10, none⟩ = some (.int .i64 le) := (qQa B0.out 10).trans rfl
  have c11 : W.cell? ⟨w.heap.size, 11, none⟩ = some (.int .i64 fa) := (qQa B0.out 11).trans rfl
  have c12 : W.cell? ⟨w.heap.size, 12, none⟩ = some (.int .i64 ct) := (qQa B0.out 12).trans rfl
  go_wp2_with (first | (go_at_call 44; refine (HD.out _ B1.out B2.out B3.out HB.out).mono ?_; rintro e w1 ⟨rfl, hb⟩) | ((with_reducible refine qQb.gate 43 (.tmp 8) (.tmp 13) rfl ?_); refine qQb.MARK ?_))
  unfold qQb.Mark
  have k1 := qQb.kept hb B4.out
  refine qQb.st rfl 43 (.tmp 8) (.tmp 13) rfl rfl (w.heap.size + 4) (loanC r1 r2 r3 r4 r5 r6 r7 r8 r9 r10 r11 r12 r13) ?hx ?hy 43 _ k1 (by kernel_rfl) rfl (qQb.one _ _ _ _ _ _ _ _ _ _ _ _ _) ?_
  case hx => simp [go_sem]
  case hy => simp [go_sem, loanC]
  have k2 := setRow_heap w1 _ _ (loanC r1 r2 r3 r4 r5 r6 r7 r8 r9 r10 r11 r12 r13) 43 (0, 0) k1
  go_wp2
  refine bodyPost_ret (qYq rfl _ _ (w.heap.size + 4) 43 (loanC r1 r2 r3 r4 r5 r6 r7 r8 r9 r10 r11 r12 r13) (0, 0) _ rfl k2 Try.underlying43 rfl (by kernel_rfl)) rfl ?_
  exact ⟨rfl, below_setRow (qQn HB.out hb) (by omega) _⟩
end Go.Proofs.Yteemomncbcpdjaa.P
