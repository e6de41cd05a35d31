/- Loans: contracts of the functions on loans, walked by hand. -/
import Derived.Test.YtmbenmiakjhgeaaZl
import Derived.Test.YtmbenmiakjhgeaaPx4
import Derived.Test.YtmbenmiakjhgeaaPx6
import Derived.Test.YtmbenmiakjhgeaaPx3
import Derived.Deep.RegionHeld3
import Derived.Laws.CopyOwn
namespace Go.Proofs.Ytmbenmiakjhgeaa.P
open Go.RowKit Go.Proofs.YtmbenmiakjhgeaaW.PrintWords Go.Proofs.YtmbenmiakjhgeaaW.PrintLast Go.Proofs.YtmbenmiakjhgeaaW.PrintMore
attribute [local go_sem] max2_int min2_int max_two min_two max_three min_three max_four min_four   -- for this text's walks alone
open List (getElem_toArray getElem_cons_zero getElem_cons_succ setIfInBounds_toArray set_cons_zero set_cons_succ)
set_option linter.unusedVariables false
set_option linter.unusedSimpArgs false
set_option linter.unnecessarySimpa false
set_option maxHeartbeats 8000000 in
set_option maxRecDepth 100000 in
theorem loan_Close.by_ (id pr it su fe ppm : Int) (sd : Bool) (st cl en le fa ct : Int) (r1 : Int) (r2 : Int) (r3 : Int) (r4 : Int) (r5 : Int) (r6 : Int) (r7 : Bool) (r8 : Int) (r9 : Int) (r10 : Int) (r11 : Int) (r12 : Int) (r13 : Int) (r14 : Int) (how z : Int) (w : World) (hz : r14 = 0 ∨ z = 0)
    (hD : ∀ W, W.heap[w.heap.size + 1]? = some (.cells #[.int .i64 how] 3 (0, 0)) → W.heap[w.heap.size + 3]? = some (.cells #[.int .i64 0] 2 (0, 0)) → Below w.heap.size w W → Calls Try.prog 28 #[.agg (loanC id pr it su fe ppm sd st cl en le fa ct), .func (.func 46) #[] #[.pointer (some ⟨w.heap.size + 1, 0, none⟩), .pointer (some ⟨w.heap.size + 3, 0, none⟩)]] W fun e w' => e = .returned (.tuple #[.agg (loanC r1 r2 r3 r4 r5 r6 r7 r8 r9 r10 r11 r12 r13), .int .i64 r14]) ∧ loan_does.Near (w.heap.size + 3) (w.heap.size + 3) W w' ∧ w'.heap[w.heap.size + 3]? = some (.cells #[.int .i64 z] 2 (0, 0))) :
    Calls Try.prog 20 #[.agg #[.int .i64 id, .int .i64 pr, .int .i64 it, .int .i64 su, .int .i64 fe, .int .i64 ppm, .bool sd, .int .i64 st, .int .i64 cl, .int .i64 en, .int .i64 le, .int .i64 fa, .int .i64 ct], .int .i64 how] w fun e w' => e = .returned (.tuple #[.agg #[.int .i64 r1, .int .i64 r2, .int .i64 r3, .int .i64 r4, .int .i64 r5, .int .i64 r6, .bool r7, .int .i64 r8, .int .i64 r9, .int .i64 r10, .int .i64 r11, .int .i64 r12, .int .i64 r13], .int .i64 z, .int .i64 r14]) ∧ Below w.heap.size w w' := by
  have HD := Aside0.mk hD
  have HZ := Aside0.mk hz
  clear hD hz
  have hmf : ∀ (fn : Fn) (first cap : Array Value) (w : World), (Instr.makeFunc fn first cap).run Try.prog w = .ok (.func fn first cap) w := fun _ _ _ _ => rfl
  have k0 := blk_new (((w.alloc (Obj.cells #[.int .i64 id, .int .i64 pr, .int .i64 it, .int .i64 su, .int .i64 fe, .int .i64 ppm, .bool sd, .int .i64 st, .int .i64 cl, .int .i64 en, .int .i64 le, .int .i64 fa, .int .i64 ct] 23)).alloc (Obj.cells #[.int .i64 how] 3)).alloc (Obj.cells #[.int .i64 0, .int .i64 0, .int .i64 0, .int .i64 0, .int .i64 0, .int .i64 0, .bool false, .int .i64 0, .int .i64 0, .int .i64 0, .int .i64 0, .int .i64 0, .int .i64 0] 23)) (Obj.cells #[.int .i64 0] 2)
  have n0 : ((((w.alloc (Obj.cells #[.int .i64 id, .int .i64 pr, .int .i64 it, .int .i64 su, .int .i64 fe, .int .i64 ppm, .bool sd, .int .i64 st, .int .i64 cl, .int .i64 en, .int .i64 le, .int .i64 fa, .int .i64 ct] 23)).alloc (Obj.cells #[.int .i64 how] 3)).alloc (Obj.cells #[.int .i64 0, .int .i64 0, .int .i64 0, .int .i64 0, .int .i64 0, .int .i64 0, .bool false, .int .i64 0, .int .i64 0, .int .i64 0, .int .i64 0, .int .i64 0, .int .i64 0] 23)).alloc (Obj.cells #[.int .i64 0] 2)).cell? ⟨w.heap.size + 1 + 1 + 1, 0, none⟩ = some (.int .i64 0) := by have := (blk_cell k0 0).trans rfl; simpa using this
  go_enter Try.func20, Try.ntmps20
  go_upto_region 2 with (fail)
  obtain ⟨W, hW⟩ : ∃ W, W = ((((w.alloc (Obj.cells #[.int .i64 id, .int .i64 pr, .int .i64 it, .int .i64 su, .int .i64 fe, .int .i64 ppm, .bool sd, .int .i64 st, .int .i64 cl, .int .i64 en, .int .i64 le, .int .i64 fa, .int .i64 ct] 23)).alloc (Obj.cells #[.int .i64 how] 3)).alloc (Obj.cells #[.int .i64 0, .int .i64 0, .int .i64 0, .int .i64 0, .int .i64 0, .int .i64 0, .bool false, .int .i64 0, .int .i64 0, .int .i64 0, .int .i64 0, .int .i64 0, .int .i64 0] 23)).alloc (Obj.cells #[.int .i64 0] 2)) := ⟨_, rfl⟩
  have B0 : Aside0 (W.heap[w.heap.size]? = some (.cells (loanC id pr it su fe ppm sd st cl en le fa ct) 23 (0, 0))) := ⟨by
    have := blk_alloc (blk_alloc (blk_alloc (blk_new w (Obj.cells #[.int .i64 id, .int .i64 pr, .int .i64 it, .int .i64 su, .int .i64 fe, .int .i64 ppm, .bool sd, .int .i64 st, .int .i64 cl, .int .i64 en, .int .i64 le, .int .i64 fa, .int .i64 ct] 23)) (Obj.cells #[.int .i64 how] 3)) (Obj.cells #[.int .i64 0, .int .i64 0, .int .i64 0, .int .i64 0, .int .i64 0, .int .i64 0, .bool false, .int .i64 0, .int .i64 0, .int .i64 0, .int .i64 0, .int .i64 0, .int .i64 0] 23)) (Obj.cells #[.int .i64 0] 2)
    rw [hW]; simpa [loanC] using this⟩
  have B1 : Aside0 (W.heap[w.heap.size + 1]? = some (.cells #[.int .i64 how] 3 (0, 0))) := ⟨by
    have := blk_alloc (blk_alloc (blk_new (w.alloc (Obj.cells #[.int .i64 id, .int .i64 pr, .int .i64 it, .int .i64 su, .int .i64 fe, .int .i64 ppm, .bool sd, .int .i64 st, .int .i64 cl, .int .i64 en, .int .i64 le, .int .i64 fa, .int .i64 ct] 23)) (Obj.cells #[.int .i64 how] 3)) (Obj.cells #[.int .i64 0, .int .i64 0, .int .i64 0, .int .i64 0, .int .i64 0, .int .i64 0, .bool false, .int .i64 0, .int .i64 0, .int .i64 0, .int .i64 0, .int .i64 0, .int .i64 0] 23)) (Obj.cells #[.int .i64 0] 2)
    rw [hW]; simpa using this⟩
  have B2 : Aside0 (W.heap[w.heap.size + 2]? = some (.cells (loanC 0 0 0 0 0 0 false 0 0 0 0 0 0) 23 (0, 0))) := ⟨by
    have := blk_alloc (blk_new ((w.alloc (Obj.cells #[.int .i64 id, .int .i64 pr, .int .i64 it, .int .i64 su, .int .i64 fe, .int .i64 ppm, .bool sd, .int .i64 st, .int .i64 cl, .int .i64 en, .int .i64 le, .int .i64 fa, .int .i64 ct] 23)).alloc (Obj.cells #[.int .i64 how] 3)) (Obj.cells #[.int .i64 0, .int .i64 0, .int .i64 0, .int .i64 0, .int .i64 0, .int .i64 0, .bool false, .int .i64 0, .int .i64 0, .int .i64 0, .int .i64 0, .int .i64 0, .int .i64 0] 23)) (Obj.cells #[.int .i64 0] 2)
    rw [hW]; simpa [loanC] using this⟩
  have B3 : Aside0 (W.heap[w.heap.size + 3]? = some (.cells #[.int .i64 0] 2 (0, 0))) := ⟨by rw [hW]; simpa using k0⟩
  have HB : Aside0 (Below w.heap.size w W) := ⟨by rw [hW]; exact ((((Below.refl _ _).alloc (Nat.le_refl _) _).alloc (by simp) _).alloc (by simp; try omega) _).alloc (by simp; try omega) _⟩
  rw [← hW]
  try rw [show w.heap.size + 1 + 1 = w.heap.size + 2 from rfl]
  try rw [show w.heap.size + 2 + 1 = w.heap.size + 3 from rfl]
  try rw [show w.heap.size + 1 + 1 + 1 = w.heap.size + 3 from rfl]
  clear hW k0 n0
  have c0 : W.cell? ⟨w.heap.size, 0, none⟩ = some (.int .i64 id) := (blk_cell B0.out 0).trans rfl
  have c1 : W.cell? ⟨w.heap.size, 1, none⟩ = some (.int .i64 pr) := (blk_cell B0.out 1).trans rfl
  have c2 : W.cell? ⟨w.heap.size, 2, none⟩ = some (.int .i64 it) := (blk_cell B0.out 2).trans rfl
  have c3 : W.cell? ⟨w.heap.size, 3, none⟩ = some (.int .i64 su) := (blk_cell B0.out 3).trans rfl
  have c4 : W.cell? ⟨w.heap.size, 4, none⟩ = some (.int .i64 fe) := (blk_cell B0.out 4).trans rfl
  have c5 : W.cell? ⟨w.heap.size, 5, none⟩ = some (.int .i64 ppm) := (blk_cell B0.out 5).trans rfl
  have c6 : W.cell? ⟨w.heap.size, 6, none⟩ = some (.bool sd) := (blk_cell B0.out 6).trans rfl
  have c7 : W.cell? ⟨w.heap.size, 7, none⟩ = some (.int .i64 st) := (blk_cell B0.out 7).trans rfl
  have c8 : W.cell? ⟨w.heap.size, 8, none⟩ = some (.int .i64 cl) := (blk_cell B0.out 8).trans rfl
  have c9 : W.cell? ⟨w.heap.size, 9, none⟩ = some (.int .i64 en) := (blk_cell B0.out 9).trans rfl
  have c10 : W.cell? ⟨w.heap.size, 10, none⟩ = some (.int .i64 le) := (blk_cell B0.out 10).trans rfl
  have c11 : W.cell? ⟨w.heap.size, 11, none⟩ = some (.int .i64 fa) := (blk_cell B0.out 11).trans rfl
  have c12 : W.cell? ⟨w.heap.size, 12, none⟩ = some (.int .i64 ct) := (blk_cell B0.out 12).trans rfl
  go_wp2_with (first | (go_at_call 28; refine (HD.out _ B1.out B3.out HB.out).mono ?_; rintro e w1 ⟨rfl, hN, hn⟩) | ((with_reducible refine loan_does.gate 23 (.tmp 8) (.tmp 14) rfl ?_); refine loan_does.MARK ?_))
  unfold loan_does.Mark
  have k1 := blk_new w1 (Obj.cells #[.int .i64 0, .int .i64 0, .int .i64 0, .int .i64 0, .int .i64 0, .int .i64 0, .bool false, .int .i64 0, .int .i64 0, .int .i64 0, .int .i64 0, .int .i64 0, .int .i64 0] 23)
  have HW : Aside0 (Below w.heap.size w w1) := ⟨hN.on HB.out (by omega)⟩
  have lt := blk_lt hn
  have sz := HW.out.size
  have b2 : w1.heap[w.heap.size + 2]? = some (.cells (loanC 0 0 0 0 0 0 false 0 0 0 0 0 0) 23 (0, 0)) := (hN.block _ (blk_lt B2.out) (by omega) (by omega)).trans B2.out
  refine loan_does.st rfl 23 (.tmp 8) (.tmp 14) rfl rfl w1.heap.size (loanC r1 r2 r3 r4 r5 r6 r7 r8 r9 r10 r11 r12 r13) ?hx ?hy 23 _ k1 (by kernel_rfl) rfl (loan_does.one _ _ _ _ _ _ _ _ _ _ _ _ _) ?_
  case hx => simp [go_sem]
  case hy => simp [go_sem, loanC]
  have k4 := setRow_heap (w1.alloc (Obj.cells #[.int .i64 0, .int .i64 0, .int .i64 0, .int .i64 0, .int .i64 0, .int .i64 0, .bool false, .int .i64 0, .int .i64 0, .int .i64 0, .int .i64 0, .int .i64 0, .int .i64 0] 23)) w1.heap.size _ (loanC r1 r2 r3 r4 r5 r6 r7 r8 r9 r10 r11 r12 r13) 23 (0, 0) k1
  have n1 : ((w1.alloc (Obj.cells #[.int .i64 0, .int .i64 0, .int .i64 0, .int .i64 0, .int .i64 0, .int .i64 0, .bool false, .int .i64 0, .int .i64 0, .int .i64 0, .int .i64 0, .int .i64 0, .int .i64 0] 23)).setRow w1.heap.size (loanC r1 r2 r3 r4 r5 r6 r7 r8 r9 r10 r11 r12 r13)).heap[w.heap.size + 3]? = some (.cells #[.int .i64 z] 2 (0, 0)) := (setRow_other _ _ _ _ (by omega)).trans (blk_alloc hn _)
  have m1 : ((w1.alloc (Obj.cells #[.int .i64 0, .int .i64 0, .int .i64 0, .int .i64 0, .int .i64 0, .int .i64 0, .bool false, .int .i64 0, .int .i64 0, .int .i64 0, .int .i64 0, .int .i64 0, .int .i64 0] 23)).setRow w1.heap.size (loanC r1 r2 r3 r4 r5 r6 r7 r8 r9 r10 r11 r12 r13)).heap[w.heap.size + 2]? = some (.cells (loanC 0 0 0 0 0 0 false 0 0 0 0 0 0) 23 (0, 0)) := (setRow_other _ _ _ _ (by omega)).trans (blk_alloc b2 _)
  have HF : Aside0 (Below w.heap.size w ((w1.alloc (Obj.cells #[.int .i64 0, .int .i64 0, .int .i64 0, .int .i64 0, .int .i64 0, .int .i64 0, .bool false, .int .i64 0, .int .i64 0, .int .i64 0, .int .i64 0, .int .i64 0, .int .i64 0] 23)).setRow w1.heap.size (loanC r1 r2 r3 r4 r5 r6 r7 r8 r9 r10 r11 r12 r13))) := ⟨below_setRow (below_alloc HW.out _) (by omega) _⟩
  have gne : w.heap.size + 2 ≠ w1.heap.size := by omega
  have gn3 : w.heap.size + 3 ≠ w1.heap.size := by omega
  generalize (w1.alloc (Obj.cells #[.int .i64 0, .int .i64 0, .int .i64 0, .int .i64 0, .int .i64 0, .int .i64 0, .bool false, .int .i64 0, .int .i64 0, .int .i64 0, .int .i64 0, .int .i64 0, .int .i64 0] 23)).setRow w1.heap.size (loanC r1 r2 r3 r4 r5 r6 r7 r8 r9 r10 r11 r12 r13) = W4 at *
  generalize w1.heap.size = g at *
  have n3 : W4.cell? ⟨w.heap.size + 3, 0, none⟩ = some (.int .i64 z) := (blk_cell n1 0).trans rfl
  have n4 := blk_frozen n1 0
  have N1 := Aside0.mk n1
  have M1 := Aside0.mk m1
  have K4 := Aside0.mk k4
  have G := Aside0.mk gne
  have G3 := Aside0.mk gn3
  clear n1 m1 k4 k1 b2 lt sz hn hN gne gn3 c0 c1 c2 c3 c4 c5 c6 c7 c8 c9 c10 c11 c12
  by_cases hr : r14 = 0
  · subst hr
    have hq : ((0 : Int) != 0) = false := rfl
    go_wp2
    clear n3 n4
    have n1 := N1.out
    have k4 := K4.out
    have m1 := M1.out
    have hF := HF.out
    have s0 : W4.cell? ⟨g, 0, none⟩ = some (.int .i64 r1) := (blk_cell k4 0).trans rfl
    have s1 : W4.cell? ⟨g, 1, none⟩ = some (.int .i64 r2) := (blk_cell k4 1).trans rfl
    have s2 : W4.cell? ⟨g, 2, none⟩ = some (.int .i64 r3) := (blk_cell k4 2).trans rfl
    have s3 : W4.cell? ⟨g, 3, none⟩ = some (.int .i64 r4) := (blk_cell k4 3).trans rfl
    have s4 : W4.cell? ⟨g, 4, none⟩ = some (.int .i64 r5) := (blk_cell k4 4).trans rfl
    have s5 : W4.cell? ⟨g, 5, none⟩ = some (.int .i64 r6) := (blk_cell k4 5).trans rfl
    have s6 : W4.cell? ⟨g, 6, none⟩ = some (.bool r7) := (blk_cell k4 6).trans rfl
    have s7 : W4.cell? ⟨g, 7, none⟩ = some (.int .i64 r8) := (blk_cell k4 7).trans rfl
    have s8 : W4.cell? ⟨g, 8, none⟩ = some (.int .i64 r9) := (blk_cell k4 8).trans rfl
    have s9 : W4.cell? ⟨g, 9, none⟩ = some (.int .i64 r10) := (blk_cell k4 9).trans rfl
    have s10 : W4.cell? ⟨g, 10, none⟩ = some (.int .i64 r11) := (blk_cell k4 10).trans rfl
    have s11 : W4.cell? ⟨g, 11, none⟩ = some (.int .i64 r12) := (blk_cell k4 11).trans rfl
    have s12 : W4.cell? ⟨g, 12, none⟩ = some (.int .i64 r13) := (blk_cell k4 12).trans rfl
    have s13 : W4.cell? ⟨w.heap.size + 3, 0, none⟩ = some (.int .i64 z) := (blk_cell n1 0).trans rfl
    have k5 : ∀ n, ((W4.drewN n).setRow (w.heap.size + 2) (loanC r1 r2 r3 r4 r5 r6 r7 r8 r9 r10 r11 r12 r13)).heap[g]? = some (.cells (loanC r1 r2 r3 r4 r5 r6 r7 r8 r9 r10 r11 r12 r13) 23 (0, 0)) := fun n => (setRow_other _ _ _ _ (by have := G.out; omega)).trans (blk_drewN k4 n)
    have n5 : ∀ n, ((W4.drewN n).setRow (w.heap.size + 2) (loanC r1 r2 r3 r4 r5 r6 r7 r8 r9 r10 r11 r12 r13)).heap[w.heap.size + 3]? = some (.cells #[.int .i64 z] 2 (0, 0)) := fun n => (setRow_other _ _ _ _ (by omega)).trans (blk_drewN n1 n)
    refine wp_region_held_drew (S := fun X => X.cell? ⟨g, 0, none⟩ = some (.int .i64 r1) ∧ X.cell? ⟨g, 1, none⟩ = some (.int .i64 r2) ∧ X.cell? ⟨g, 2, none⟩ = some (.int .i64 r3) ∧ X.cell? ⟨g, 3, none⟩ = some (.int .i64 r4) ∧ X.cell? ⟨g, 4, none⟩ = some (.int .i64 r5) ∧ X.cell? ⟨g, 5, none⟩ = some (.int .i64 r6) ∧ X.cell? ⟨g, 6, none⟩ = some (.bool r7) ∧ X.cell? ⟨g, 7, none⟩ = some (.int .i64 r8) ∧ X.cell? ⟨g, 8, none⟩ = some (.int .i64 r9) ∧ X.cell? ⟨g, 9, none⟩ = some (.int .i64 r10) ∧ X.cell? ⟨g, 10, none⟩ = some (.int .i64 r11) ∧ X.cell? ⟨g, 11, none⟩ = some (.int .i64 r12) ∧ X.cell? ⟨g, 12, none⟩ = some (.int .i64 r13) ∧ X.cell? ⟨w.heap.size + 3, 0, none⟩ = some (.int .i64 z)) (by kernel_rfl) ⟨s0, s1, s2, s3, s4, s5, s6, s7, s8, s9, s10, s11, s12, s13⟩ (fun hHeld => ?_)
    refine loan_does.tk 0 ?_
    refine loan_does.tk 1 ?_
    refine loan_does.tk 2 ?_
    try simp only [Act.put, getElem_toArray, getElem_cons_zero, getElem_cons_succ, setIfInBounds_toArray, set_cons_zero, set_cons_succ]
    refine wpAnyH_ready (rs := [3]) (by kernel_rfl) (by simp) ?_
    refine AllReadyH.cons rfl (fun K hK => ?_) AllReadyH.nil
    refine wp_store_row 23 (.tmp 4) (.tmp 18) rfl (w.heap.size + 2) (loanC r1 r2 r3 r4 r5 r6 r7 r8 r9 r10 r11 r12 r13) ?hx ?hy 23 _ (blk_drewN m1 _) (by kernel_rfl) rfl (loan_does.one _ _ _ _ _ _ _ _ _ _ _ _ _) ?_
    case hx => simp [go_sem]
    case hy => simp [go_sem, loanC]
    refine hK.out _ _ ⟨(blk_cell (k5 _) 0).trans rfl, (blk_cell (k5 _) 1).trans rfl, (blk_cell (k5 _) 2).trans rfl, (blk_cell (k5 _) 3).trans rfl, (blk_cell (k5 _) 4).trans rfl, (blk_cell (k5 _) 5).trans rfl, (blk_cell (k5 _) 6).trans rfl, (blk_cell (k5 _) 7).trans rfl, (blk_cell (k5 _) 8).trans rfl, (blk_cell (k5 _) 9).trans rfl, (blk_cell (k5 _) 10).trans rfl, (blk_cell (k5 _) 11).trans rfl, (blk_cell (k5 _) 12).trans rfl, (blk_cell (n5 _) 0).trans rfl⟩ (fun hHeld1 => ?_)
    clear hK K
    try simp only [Act.put, getElem_toArray, getElem_cons_zero, getElem_cons_succ, setIfInBounds_toArray, set_cons_zero, set_cons_succ]
    refine loan_does.tk 4 ?_
    refine loan_does.tk 5 ?_
    try simp only [Act.put, getElem_toArray, getElem_cons_zero, getElem_cons_succ, setIfInBounds_toArray, set_cons_zero, set_cons_succ]
    refine wpAnyH_done (by kernel_rfl) ?_ _
    clear hHeld hHeld1
    go_wp2
    refine bodyPost_ret (results_ctt rfl _ _ (w.heap.size + 2) 23 (loanC r1 r2 r3 r4 r5 r6 r7 r8 r9 r10 r11 r12 r13) (0, 0) _ rfl (setRow_heap (W4.drewN _) (w.heap.size + 2) _ (loanC r1 r2 r3 r4 r5 r6 r7 r8 r9 r10 r11 r12 r13) 23 (0, 0) (blk_drewN m1 _)) Try.underlying23 rfl (by kernel_rfl)) rfl ?_
    exact ⟨rfl, below_setRow (pw_below_drewN hF _) (by omega) _⟩
  · have hz0 : z = 0 := HZ.out.resolve_left hr
    subst hz0
    have hq : (r14 != 0) = true := bne_iff_ne.mpr hr
    go_wp2
    clear n3 n4
    have n1 := blk_put N1.out 0 (.int .i64 0) (cs' := #[.int .i64 0]) rfl
    have k4 := blk_far K4.out (p := ⟨w.heap.size + 3, 0, none⟩) (by have := G3.out; simp only [ne_eq]; omega) (.int .i64 0)
    have m1 := blk_far M1.out (p := ⟨w.heap.size + 3, 0, none⟩) (by simp) (.int .i64 0)
    have hF := HF.out.setCell (p := ⟨w.heap.size + 3, 0, none⟩) (by simp) (.int .i64 0)
    generalize W4.setCell ⟨w.heap.size + 3, 0, none⟩ (.int .i64 0) = W5 at *
    have s0 : W5.cell? ⟨g, 0, none⟩ = some (.int .i64 r1) := (blk_cell k4 0).trans rfl
    have s1 : W5.cell? ⟨g, 1, none⟩ = some (.int .i64 r2) := (blk_cell k4 1).trans rfl
    have s2 : W5.cell? ⟨g, 2, none⟩ = some (.int .i64 r3) := (blk_cell k4 2).trans rfl
    have s3 : W5.cell? ⟨g, 3, none⟩ = some (.int .i64 r4) := (blk_cell k4 3).trans rfl
    have s4 : W5.cell? ⟨g, 4, none⟩ = some (.int .i64 r5) := (blk_cell k4 4).trans rfl
    have s5 : W5.cell? ⟨g, 5, none⟩ = some (.int .i64 r6) := (blk_cell k4 5).trans rfl
    have s6 : W5.cell? ⟨g, 6, none⟩ = some (.bool r7) := (blk_cell k4 6).trans rfl
    have s7 : W5.cell? ⟨g, 7, none⟩ = some (.int .i64 r8) := (blk_cell k4 7).trans rfl
    have s8 : W5.cell? ⟨g, 8, none⟩ = some (.int .i64 r9) := (blk_cell k4 8).trans rfl
    have s9 : W5.cell? ⟨g, 9, none⟩ = some (.int .i64 r10) := (blk_cell k4 9).trans rfl
    have s10 : W5.cell? ⟨g, 10, none⟩ = some (.int .i64 r11) := (blk_cell k4 10).trans rfl
    have s11 : W5.cell? ⟨g, 11, none⟩ = some (.int .i64 r12) := (blk_cell k4 11).trans rfl
    have s12 : W5.cell? ⟨g, 12, none⟩ = some (.int .i64 r13) := (blk_cell k4 12).trans rfl
    have s13 : W5.cell? ⟨w.heap.size + 3, 0, none⟩ = some (.int .i64 0) := (blk_cell n1 0).trans rfl
    have k5 : ∀ n, ((W5.drewN n).setRow (w.heap.size + 2) (loanC r1 r2 r3 r4 r5 r6 r7 r8 r9 r10 r11 r12 r13)).heap[g]? = some (.cells (loanC r1 r2 r3 r4 r5 r6 r7 r8 r9 r10 r11 r12 r13) 23 (0, 0)) := fun n => (setRow_other _ _ _ _ (by have := G.out; omega)).trans (blk_drewN k4 n)
    have n5 : ∀ n, ((W5.drewN n).setRow (w.heap.size + 2) (loanC r1 r2 r3 r4 r5 r6 r7 r8 r9 r10 r11 r12 r13)).heap[w.heap.size + 3]? = some (.cells #[.int .i64 0] 2 (0, 0)) := fun n => (setRow_other _ _ _ _ (by omega)).trans (blk_drewN n1 n)
    refine wp_region_held_drew (S := fun X => X.cell? ⟨g, 0, none⟩ = some (.int .i64 r1) ∧ X.cell? ⟨g, 1, none⟩ = some (.int .i64 r2) ∧ X.cell? ⟨g, 2, none⟩ = some (.int .i64 r3) ∧ X.cell? ⟨g, 3, none⟩ = some (.int .i64 r4) ∧ X.cell? ⟨g, 4, none⟩ = some (.int .i64 r5) ∧ X.cell? ⟨g, 5, none⟩ = some (.int .i64 r6) ∧ X.cell? ⟨g, 6, none⟩ = some (.bool r7) ∧ X.cell? ⟨g, 7, none⟩ = some (.int .i64 r8) ∧ X.cell? ⟨g, 8, none⟩ = some (.int .i64 r9) ∧ X.cell? ⟨g, 9, none⟩ = some (.int .i64 r10) ∧ X.cell? ⟨g, 10, none⟩ = some (.int .i64 r11) ∧ X.cell? ⟨g, 11, none⟩ = some (.int .i64 r12) ∧ X.cell? ⟨g, 12, none⟩ = some (.int .i64 r13) ∧ X.cell? ⟨w.heap.size + 3, 0, none⟩ = some (.int .i64 0)) (by kernel_rfl) ⟨s0, s1, s2, s3, s4, s5, s6, s7, s8, s9, s10, s11, s12, s13⟩ (fun hHeld => ?_)
    refine loan_does.tk 0 ?_
    refine loan_does.tk 1 ?_
    refine loan_does.tk 2 ?_
    try simp only [Act.put, getElem_toArray, getElem_cons_zero, getElem_cons_succ, setIfInBounds_toArray, set_cons_zero, set_cons_succ]
    refine wpAnyH_ready (rs := [3]) (by kernel_rfl) (by simp) ?_
    refine AllReadyH.cons rfl (fun K hK => ?_) AllReadyH.nil
    refine wp_store_row 23 (.tmp 4) (.tmp 18) rfl (w.heap.size + 2) (loanC r1 r2 r3 r4 r5 r6 r7 r8 r9 r10 r11 r12 r13) ?hx ?hy 23 _ (blk_drewN m1 _) (by kernel_rfl) rfl (loan_does.one _ _ _ _ _ _ _ _ _ _ _ _ _) ?_
    case hx => simp [go_sem]
    case hy => simp [go_sem, loanC]
    refine hK.out _ _ ⟨(blk_cell (k5 _) 0).trans rfl, (blk_cell (k5 _) 1).trans rfl, (blk_cell (k5 _) 2).trans rfl, (blk_cell (k5 _) 3).trans rfl, (blk_cell (k5 _) 4).trans rfl, (blk_cell (k5 _) 5).trans rfl, (blk_cell (k5 _) 6).trans rfl, (blk_cell (k5 _) 7).trans rfl, (blk_cell (k5 _) 8).trans rfl, (blk_cell (k5 _) 9).trans rfl, (blk_cell (k5 _) 10).trans rfl, (blk_cell (k5 _) 11).trans rfl, (blk_cell (k5 _) 12).trans rfl, (blk_cell (n5 _) 0).trans rfl⟩ (fun hHeld1 => ?_)
    clear hK K
    try simp only [Act.put, getElem_toArray, getElem_cons_zero, getElem_cons_succ, setIfInBounds_toArray, set_cons_zero, set_cons_succ]
    refine loan_does.tk 4 ?_
    refine loan_does.tk 5 ?_
    try simp only [Act.put, getElem_toArray, getElem_cons_zero, getElem_cons_succ, setIfInBounds_toArray, set_cons_zero, set_cons_succ]
    refine wpAnyH_done (by kernel_rfl) ?_ _
    clear hHeld hHeld1
    go_wp2
    refine bodyPost_ret (results_ctt rfl _ _ (w.heap.size + 2) 23 (loanC r1 r2 r3 r4 r5 r6 r7 r8 r9 r10 r11 r12 r13) (0, 0) _ rfl (setRow_heap (W5.drewN _) (w.heap.size + 2) _ (loanC r1 r2 r3 r4 r5 r6 r7 r8 r9 r10 r11 r12 r13) 23 (0, 0) (blk_drewN m1 _)) Try.underlying23 rfl (by kernel_rfl)) rfl ?_
    exact ⟨rfl, below_setRow (pw_below_drewN hF _) (by omega) _⟩
end Go.Proofs.Ytmbenmiakjhgeaa.P
