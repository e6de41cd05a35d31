/- Loans: contracts of the functions on loans, walked by hand. -/
import Derived.Test.YtmbenmiakjhgeaaZp
import Derived.Test.YtmbenmiakjhgeaaPx4
import Derived.Test.YtmbenmiakjhgeaaPx6
import Derived.Test.YtmbenmiakjhgeaaPx3
import Derived.Deep.RegionHeld3
import Derived.Laws.CopyOwn
namespace Go.Proofs.Ytmbenmiakjhgeaa.P
open Go.RowKit Go.Proofs.YtmbenmiakjhgeaaW.PrintWords Go.Proofs.YtmbenmiakjhgeaaW.PrintLast Go.Proofs.YtmbenmiakjhgeaaW.PrintMore
attribute [local go_sem] max2_int min2_int max_two min_two max_three min_three max_four min_four   -- for this text's walks alone
set_option linter.unusedVariables false
set_option linter.unusedSimpArgs false
set_option linter.unnecessarySimpa false
set_option maxHeartbeats 8000000 in
set_option maxRecDepth 100000 in
theorem loan_Fee.by_ (id pr it su fe ppm : Int) (sd : Bool) (st cl en le fa ct : Int) (m : Int) (r1 : Int) (r2 : Int) (r3 : Int) (r4 : Int) (r5 : Int) (r6 : Int) (r7 : Bool) (r8 : Int) (r9 : Int) (r10 : Int) (r11 : Int) (r12 : Int) (r13 : Int) (r14 : Int) (w : World)
    (hD : ∀ W, Below w.heap.size w W → Calls Try.prog 34 #[.agg #[.int .i64 id, .int .i64 pr, .int .i64 it, .int .i64 su, .int .i64 fe, .int .i64 ppm, .bool sd, .int .i64 st, .int .i64 cl, .int .i64 en, .int .i64 le, .int .i64 fa, .int .i64 ct], .int .i64 m, .func (.func 35) #[] #[]] W fun e w' => e = .returned (.tuple #[.agg #[.int .i64 r1, .int .i64 r2, .int .i64 r3, .int .i64 r4, .int .i64 r5, .int .i64 r6, .bool r7, .int .i64 r8, .int .i64 r9, .int .i64 r10, .int .i64 r11, .int .i64 r12, .int .i64 r13], .int .i64 r14]) ∧ Below W.heap.size W w') :
    Calls Try.prog 10 #[.agg #[.int .i64 id, .int .i64 pr, .int .i64 it, .int .i64 su, .int .i64 fe, .int .i64 ppm, .bool sd, .int .i64 st, .int .i64 cl, .int .i64 en, .int .i64 le, .int .i64 fa, .int .i64 ct], .int .i64 m] w fun e w' => e = .returned (.tuple #[.agg #[.int .i64 r1, .int .i64 r2, .int .i64 r3, .int .i64 r4, .int .i64 r5, .int .i64 r6, .bool r7, .int .i64 r8, .int .i64 r9, .int .i64 r10, .int .i64 r11, .int .i64 r12, .int .i64 r13], .int .i64 r14]) ∧ Below w.heap.size w w' := by
  have HD := Aside0.mk hD
  clear hD
  go_enter Try.func10, Try.ntmps10
  go_upto_region 1 with (fail)
  obtain ⟨W, hW⟩ : ∃ W, W = (w.alloc (Obj.cells #[.int .i64 id, .int .i64 pr, .int .i64 it, .int .i64 su, .int .i64 fe, .int .i64 ppm, .bool sd, .int .i64 st, .int .i64 cl, .int .i64 en, .int .i64 le, .int .i64 fa, .int .i64 ct] 23)).alloc (Obj.cells #[.int .i64 0, .int .i64 0, .int .i64 0, .int .i64 0, .int .i64 0, .int .i64 0, .bool false, .int .i64 0, .int .i64 0, .int .i64 0, .int .i64 0, .int .i64 0, .int .i64 0] 23) := ⟨_, rfl⟩
  have B0 : Aside0 (W.heap[w.heap.size]? = some (.cells (loanC id pr it su fe ppm sd st cl en le fa ct) 23 (0, 0))) := ⟨by rw [hW]; exact blk_alloc (blk_new w _) _⟩
  have B1 : Aside0 (W.heap[w.heap.size + 1]? = some (.cells (loanC 0 0 0 0 0 0 false 0 0 0 0 0 0) 23 (0, 0))) := ⟨by
    have := blk_new (w.alloc (Obj.cells #[.int .i64 id, .int .i64 pr, .int .i64 it, .int .i64 su, .int .i64 fe, .int .i64 ppm, .bool sd, .int .i64 st, .int .i64 cl, .int .i64 en, .int .i64 le, .int .i64 fa, .int .i64 ct] 23)) (Obj.cells #[.int .i64 0, .int .i64 0, .int .i64 0, .int .i64 0, .int .i64 0, .int .i64 0, .bool false, .int .i64 0, .int .i64 0, .int .i64 0, .int .i64 0, .int .i64 0, .int .i64 0] 23)
    rw [hW]; simpa [loanC] using this⟩
  have HB : Aside0 (Below w.heap.size w W) := ⟨by rw [hW]; exact ((Below.refl _ _).alloc (Nat.le_refl _) _).alloc (by simp) _⟩
  rw [← hW]
  clear hW
  have c0 : W.cell? ⟨w.heap.size, 0, none⟩ = some (.int .i64 id) := (blk_cell B0.out 0).trans rfl
  have c1 : W.cell? ⟨w.heap.size, 1, none⟩ = some (.int .i64 pr) := (blk_cell B0.out 1).trans rfl
  have c2 : W.cell? ⟨w.heap.size, 2, none⟩ = some (.int .i64 it) := (blk_cell B0.out 2).trans rfl
  have c3 : W.cell? ⟨w.heap.size, 3, none⟩ = some (.int .i64 su) := (blk_cell B0.out 3).trans rfl
  have c4 : W.cell? ⟨w.heap.size, 4, none⟩ = some (.int .i64 fe) := (blk_cell B0.out 4).trans rfl
  have c5 : W.cell? ⟨w.heap.size, 5, none⟩ = some (.int .i64 ppm) := (blk_cell B0.out 5).trans rfl
  have c6 : W.cell? ⟨w.heap.size, 6, none⟩ = some (.bool sd) := (blk_cell B0.out 6).trans rfl
  have c7 : W.cell? ⟨w.heap.size, 7, none⟩ = some (.int .i64 st) := (blk_cell B0.out 7).trans rfl
  have c8 : W.cell? ⟨w.heap.size, 8, none⟩ = some (.int .i64 cl) := (blk_cell B0.out 8).trans rfl
  have c9 : W.cell? ⟨w.heap.size, 9, none⟩ = some (.int .i64 en) := (blk_cell B0.out 9).trans rfl
  have c10 : W.cell? ⟨w.heap.size, 10, none⟩ = some (.int .i64 le) := (blk_cell B0.out 10).trans rfl
  have c11 : W.cell? ⟨w.heap.size, 11, none⟩ = some (.int .i64 fa) := (blk_cell B0.out 11).trans rfl
  have c12 : W.cell? ⟨w.heap.size, 12, none⟩ = some (.int .i64 ct) := (blk_cell B0.out 12).trans rfl
  go_wp2_with (first | (go_at_call 34; refine (HD.out _ HB.out).mono ?_; rintro e w1 ⟨rfl, hb⟩) | ((with_reducible refine loan_does.gate 23 (.tmp 4) (.tmp 9) rfl ?_); refine loan_does.MARK ?_))
  unfold loan_does.Mark
  have k1 := loan_does.kept hb B1.out
  refine loan_does.st rfl 23 (.tmp 4) (.tmp 9) rfl rfl (w.heap.size + 1) (loanC r1 r2 r3 r4 r5 r6 r7 r8 r9 r10 r11 r12 r13) ?hx ?hy 23 _ k1 (by kernel_rfl) rfl (loan_does.one _ _ _ _ _ _ _ _ _ _ _ _ _) ?_
  case hx => simp [go_sem]
  case hy => simp [go_sem, loanC]
  have k2 := setRow_heap w1 _ _ (loanC r1 r2 r3 r4 r5 r6 r7 r8 r9 r10 r11 r12 r13) 23 (0, 0) k1
  go_wp2
  refine bodyPost_ret (results_ct rfl _ _ (w.heap.size + 1) 23 (loanC r1 r2 r3 r4 r5 r6 r7 r8 r9 r10 r11 r12 r13) (0, 0) _ rfl k2 Try.underlying23 rfl (by kernel_rfl)) rfl ?_
  exact ⟨rfl, below_setRow (below_step HB.out hb) (by omega) _⟩
set_option maxHeartbeats 8000000 in
set_option maxRecDepth 100000 in
theorem loan_Draw.by_ (id pr it su fe ppm : Int) (sd : Bool) (st cl en le fa ct : Int) (m : Int) (r1 : Int) (r2 : Int) (r3 : Int) (r4 : Int) (r5 : Int) (r6 : Int) (r7 : Bool) (r8 : Int) (r9 : Int) (r10 : Int) (r11 : Int) (r12 : Int) (r13 : Int) (r14 : Int) (w : World)
    (hD : ∀ W, Below w.heap.size w W → Calls Try.prog 34 #[.agg #[.int .i64 id, .int .i64 pr, .int .i64 it, .int .i64 su, .int .i64 fe, .int .i64 ppm, .bool sd, .int .i64 st, .int .i64 cl, .int .i64 en, .int .i64 le, .int .i64 fa, .int .i64 ct], .int .i64 m, .func (.func 37) #[] #[]] W fun e w' => e = .returned (.tuple #[.agg #[.int .i64 r1, .int .i64 r2, .int .i64 r3, .int .i64 r4, .int .i64 r5, .int .i64 r6, .bool r7, .int .i64 r8, .int .i64 r9, .int .i64 r10, .int .i64 r11, .int .i64 r12, .int .i64 r13], .int .i64 r14]) ∧ Below W.heap.size W w') :
    Calls Try.prog 12 #[.agg #[.int .i64 id, .int .i64 pr, .int .i64 it, .int .i64 su, .int .i64 fe, .int .i64 ppm, .bool sd, .int .i64 st, .int .i64 cl, .int .i64 en, .int .i64 le, .int .i64 fa, .int .i64 ct], .int .i64 m] w fun e w' => e = .returned (.tuple #[.agg #[.int .i64 r1, .int .i64 r2, .int .i64 r3, .int .i64 r4, .int .i64 r5, .int .i64 r6, .bool r7, .int .i64 r8, .int .i64 r9, .int .i64 r10, .int .i64 r11, .int .i64 r12, .int .i64 r13], .int .i64 r14]) ∧ Below w.heap.size w w' := by
  have HD := Aside0.mk hD
  clear hD
  go_enter Try.func12, Try.ntmps12
  go_upto_region 1 with (fail)
  obtain ⟨W, hW⟩ : ∃ W, W = (w.alloc (Obj.cells #[.int .i64 id, .int .i64 pr, .int .i64 it, .int .i64 su, .int .i64 fe, .int .i64 ppm, .bool sd, .int .i64 st, .int .i64 cl, .int .i64 en, .int .i64 le, .int .i64 fa, .int .i64 ct] 23)).alloc (Obj.cells #[.int .i64 0, .int .i64 0, .int .i64 0, .int .i64 0, .int .i64 0, .int .i64 0, .bool false, .int .i64 0, .int .i64 0, .int .i64 0, .int .i64 0, .int .i64 0, .int .i64 0] 23) := ⟨_, rfl⟩
  have B0 : Aside0 (W.heap[w.heap.size]? = some (.cells (loanC id pr it su fe ppm sd st cl en le fa ct) 23 (0, 0))) := ⟨by rw [hW]; exact blk_alloc (blk_new w _) _⟩
  have B1 : Aside0 (W.heap[w.heap.size + 1]? = some (.cells (loanC 0 0 0 0 0 0 false 0 0 0 0 0 0) 23 (0, 0))) := ⟨by
    have := blk_new (w.alloc (Obj.cells #[.int .i64 id, .int .i64 pr, .int .i64 it, .int .i64 su, .int .i64 fe, .int .i64 ppm, .bool sd, .int .i64 st, .int .i64 cl, .int .i64 en, .int .i64 le, .int .i64 fa, .int .i64 ct] 23)) (Obj.cells #[.int .i64 0, .int .i64 0, .int .i64 0, .int .i64 0, .int .i64 0, .int .i64 0, .bool false, .int .i64 0, .int .i64 0, .int .i64 0, .int .i64 0, .int .i64 0, .int .i64 0] 23)
    rw [hW]; simpa [loanC] using this⟩
  have HB : Aside0 (Below w.heap.size w W) := ⟨by rw [hW]; exact ((Below.refl _ _).alloc (Nat.le_refl _) _).alloc (by simp) _⟩
  rw [← hW]
  clear hW
  have c0 : W.cell? ⟨w.heap.size, 0, none⟩ = some (.int .i64 id) := (blk_cell B0.out 0).trans rfl
  have c1 : W.cell? ⟨w.heap.size, 1, none⟩ = some (.int .i64 pr) := (blk_cell B0.out 1).trans rfl
  have c2 : W.cell? ⟨w.heap.size, 2, none⟩ = some (.int .i64 it) := (blk_cell B0.out 2).trans rfl
  have c3 : W.cell? ⟨w.heap.size, 3, none⟩ = some (.int .i64 su) := (blk_cell B0.out 3).trans rfl
  have c4 : W.cell? ⟨w.heap.size, 4, none⟩ = some (.int .i64 fe) := (blk_cell B0.out 4).trans rfl
  have c5 : W.cell? ⟨w.heap.size, 5, none⟩ = some (.int .i64 ppm) := (blk_cell B0.out 5).trans rfl
  have c6 : W.cell? ⟨w.heap.size, 6, none⟩ = some (.bool sd) := (blk_cell B0.out 6).trans rfl
  have c7 : W.cell? ⟨w.heap.size, 7, none⟩ = some (.int .i64 st) := (blk_cell B0.out 7).trans rfl
  have c8 : W.cell? ⟨w.heap.size, 8, none⟩ = some (.int .i64 cl) := (blk_cell B0.out 8).trans rfl
  have c9 : W.cell? ⟨w.heap.size, 9, none⟩ = some (.int .i64 en) := (blk_cell B0.out 9).trans rfl
  have c10 : W.cell? ⟨w.heap.size, 10, none⟩ = some (.int .i64 le) := (blk_cell B0.out 10).trans rfl
  have c11 : W.cell? ⟨w.heap.size, 11, none⟩ = some (.int .i64 fa) := (blk_cell B0.out 11).trans rfl
  have c12 : W.cell? ⟨w.heap.size, 12, none⟩ = some (.int .i64 ct) := (blk_cell B0.out 12).trans rfl
  go_wp2_with (first | (go_at_call 34; refine (HD.out _ HB.out).mono ?_; rintro e w1 ⟨rfl, hb⟩) | ((with_reducible refine loan_does.gate 23 (.tmp 4) (.tmp 9) rfl ?_); refine loan_does.MARK ?_))
  unfold loan_does.Mark
  have k1 := loan_does.kept hb B1.out
  refine loan_does.st rfl 23 (.tmp 4) (.tmp 9) rfl rfl (w.heap.size + 1) (loanC r1 r2 r3 r4 r5 r6 r7 r8 r9 r10 r11 r12 r13) ?hx ?hy 23 _ k1 (by kernel_rfl) rfl (loan_does.one _ _ _ _ _ _ _ _ _ _ _ _ _) ?_
  case hx => simp [go_sem]
  case hy => simp [go_sem, loanC]
  have k2 := setRow_heap w1 _ _ (loanC r1 r2 r3 r4 r5 r6 r7 r8 r9 r10 r11 r12 r13) 23 (0, 0) k1
  go_wp2
  refine bodyPost_ret (results_ct rfl _ _ (w.heap.size + 1) 23 (loanC r1 r2 r3 r4 r5 r6 r7 r8 r9 r10 r11 r12 r13) (0, 0) _ rfl k2 Try.underlying23 rfl (by kernel_rfl)) rfl ?_
  exact ⟨rfl, below_setRow (below_step HB.out hb) (by omega) _⟩
def loan_Fee.f (k : Nat) (id pr it su fe ppm : Int) (sd : Bool) (st cl en le fa ct : Int) (m : Int) : Option (Int × Int × Int × Int × Int × Int × Bool × Int × Int × Int × Int × Int × Int × Int) := (loan_Good.f k id pr it su fe ppm sd st cl en le fa ct).bind fun g =>
  if g = true then (if m < 1 ∨ 1000000000 < m then some (0, 0, 0, 0, 0, 0, false, 0, 0, 0, 0, 0, 0, 1) else if ¬ cl = 0 then some (0, 0, 0, 0, 0, 0, false, 0, 0, 0, 0, 0, 0, 61) else (money_Add.f fe m).bind fun p => (if p.2 = 0 then some (id, pr, it, su, p.1, ppm, sd, st, 0, en, le, fa, ct, 0) else some (0, 0, 0, 0, 0, 0, false, 0, 0, 0, 0, 0, 0, p.2))) else some (0, 0, 0, 0, 0, 0, false, 0, 0, 0, 0, 0, 0, 1)
theorem loan_Fee.mono : ∀ (id pr it su fe ppm : Int) (sd : Bool) (st cl en le fa ct : Int) (m : Int) k, LeO (loan_Fee.f k id pr it su fe ppm sd st cl en le fa ct m) (loan_Fee.f (k + 1) id pr it su fe ppm sd st cl en le fa ct m) := by
  intro id pr it su fe ppm sd st cl en le fa ct m k
  unfold loan_Fee.f
  exact LeO.bind (loan_Good.mono _ _ _ _ _ _ _ _ _ _ _ _ _ _) (fun _ => LeO.refl _)
set_option maxHeartbeats 8000000 in
set_option maxRecDepth 100000 in
theorem loan_Fee.calls (k : Nat) (id pr it su fe ppm : Int) (sd : Bool) (st cl en le fa ct : Int) (m : Int) (r1 : Int) (r2 : Int) (r3 : Int) (r4 : Int) (r5 : Int) (r6 : Int) (r7 : Bool) (r8 : Int) (r9 : Int) (r10 : Int) (r11 : Int) (r12 : Int) (r13 : Int) (r14 : Int) (w : World) (h : loan_Fee.f k id pr it su fe ppm sd st cl en le fa ct m = some (r1, r2, r3, r4, r5, r6, r7, r8, r9, r10, r11, r12, r13, r14)) :
    Calls Try.prog 10 #[.agg #[.int .i64 id, .int .i64 pr, .int .i64 it, .int .i64 su, .int .i64 fe, .int .i64 ppm, .bool sd, .int .i64 st, .int .i64 cl, .int .i64 en, .int .i64 le, .int .i64 fa, .int .i64 ct], .int .i64 m] w fun e w' => e = .returned (.tuple #[.agg #[.int .i64 r1, .int .i64 r2, .int .i64 r3, .int .i64 r4, .int .i64 r5, .int .i64 r6, .bool r7, .int .i64 r8, .int .i64 r9, .int .i64 r10, .int .i64 r11, .int .i64 r12, .int .i64 r13], .int .i64 r14]) ∧ Below w.heap.size w w' := by
  have hf : ∀ args W, (callFunc 56 args).run Try.prog W = .ok (.enter 56 args) W := fun _ _ => by rfl
  unfold loan_Fee.f at h
  obtain ⟨g, hg, h⟩ := Option.bind_eq_some_iff.mp h
  apply loan_Fee.by_
  intro w1 hw1
  apply loan_Fee.more.by_
  intro W hA hB hW
  have l1 := blk_lt hA
  have l2 := blk_lt hB
  cases g with
  | false =>
    rw [if_neg (by simp)] at h
    simp only [Option.some.injEq, Prod.mk.injEq] at h
    obtain ⟨rfl, rfl, rfl, rfl, rfl, rfl, rfl, rfl, rfl, rfl, rfl, rfl, rfl, rfl⟩ := h
    exact loan_does.not_good k _ _ _ _ _ _ _ _ _ _ _ _ _ _ W hg
  | true =>
    rw [if_pos rfl] at h
    by_cases cd : m < 1 ∨ 1000000000 < m
    · rw [if_pos cd] at h
      by_cases cd1 : m < 1
      · skip
        simp only [Option.some.injEq, Prod.mk.injEq] at h
        obtain ⟨rfl, rfl, rfl, rfl, rfl, rfl, rfl, rfl, rfl, rfl, rfl, rfl, rfl, rfl⟩ := h
        refine (loan_does.good_bad k id pr it su fe ppm sd st cl en le fa ct 56 #[.pointer (some ⟨w1.heap.size + 1, 0, none⟩), .pointer (some ⟨w1.heap.size + 2, 0, none⟩)] 1 W.heap.size (.cells #[] 0 (0, 0)) W (Nat.le_refl _) hf hg (fun V hV _ hb => ?_)).mono (fun e w' ⟨h1, h2, _⟩ => ⟨h1, h2.below⟩)
        exact (loan_Fee.in_m1 W.heap.size id pr it su fe ppm sd st cl en le fa ct V hV _ _ m (loan_does.kept hb hA) (loan_does.kept hb hB) cd1).mono (fun e w' ⟨h1, h3⟩ => ⟨h1, h3, fun h => absurd h (Nat.lt_irrefl _)⟩)
      simp only [Option.some.injEq, Prod.mk.injEq] at h
      obtain ⟨rfl, rfl, rfl, rfl, rfl, rfl, rfl, rfl, rfl, rfl, rfl, rfl, rfl, rfl⟩ := h
      refine (loan_does.good_bad k id pr it su fe ppm sd st cl en le fa ct 56 #[.pointer (some ⟨w1.heap.size + 1, 0, none⟩), .pointer (some ⟨w1.heap.size + 2, 0, none⟩)] 1 W.heap.size (.cells #[] 0 (0, 0)) W (Nat.le_refl _) hf hg (fun V hV _ hb => ?_)).mono (fun e w' ⟨h1, h2, _⟩ => ⟨h1, h2.below⟩)
      exact (loan_Fee.in_m2 W.heap.size id pr it su fe ppm sd st cl en le fa ct V hV _ _ m (loan_does.kept hb hA) (loan_does.kept hb hB) (by omega)).mono (fun e w' ⟨h1, h3⟩ => ⟨h1, h3, fun h => absurd h (Nat.lt_irrefl _)⟩)
    · rw [if_neg cd] at h
      by_cases cc : ¬ cl = 0
      · rw [if_pos cc] at h
        simp only [Option.some.injEq, Prod.mk.injEq] at h
        obtain ⟨rfl, rfl, rfl, rfl, rfl, rfl, rfl, rfl, rfl, rfl, rfl, rfl, rfl, rfl⟩ := h
        refine (loan_does.good_bad k id pr it su fe ppm sd st cl en le fa ct 56 #[.pointer (some ⟨w1.heap.size + 1, 0, none⟩), .pointer (some ⟨w1.heap.size + 2, 0, none⟩)] 61 W.heap.size (.cells #[] 0 (0, 0)) W (Nat.le_refl _) hf hg (fun V hV _ hb => ?_)).mono (fun e w' ⟨h1, h2, _⟩ => ⟨h1, h2.below⟩)
        exact (loan_Fee.in_gone W.heap.size id pr it su fe ppm sd st cl en le fa ct V hV _ _ m (loan_does.kept hb hA) (loan_does.kept hb hB) (by omega) cc).mono (fun e w' ⟨h1, h3⟩ => ⟨h1, h3, fun h => absurd h (Nat.lt_irrefl _)⟩)
      · rw [if_neg cc] at h
        have cc0 : cl = 0 := Decidable.not_not.mp cc
        obtain ⟨⟨x, e⟩, hp, h⟩ := Option.bind_eq_some_iff.mp h
        simp only at h
        by_cases ce : e = 0
        · rw [if_pos ce] at h
          simp only [Option.some.injEq, Prod.mk.injEq] at h
          obtain ⟨rfl, rfl, rfl, rfl, rfl, rfl, rfl, rfl, rfl, rfl, rfl, rfl, rfl, rfl⟩ := h
          refine (loan_does.good_ok k id pr it su fe ppm sd st cl en le fa ct 56 #[.pointer (some ⟨w1.heap.size + 1, 0, none⟩), .pointer (some ⟨w1.heap.size + 2, 0, none⟩)] _ _ _ _ _ _ _ _ _ _ _ _ _ W.heap.size (.cells #[] 0 (0, 0)) W (Nat.le_refl _) hf hg (fun V hV _ hb => ?_)).mono (fun e w' ⟨h1, h2, _⟩ => ⟨h1, h2.below⟩)
          exact (loan_Fee.in_ok W.heap.size id pr it su fe ppm sd st cl en le fa ct V hV _ _ m (loan_does.kept hb hA) (loan_does.kept hb hB) (by omega) cc0 _ _ hp ce).mono (fun e w' ⟨h1, h2, h3⟩ => ⟨h1, h2, h3, fun h => absurd h (Nat.lt_irrefl _)⟩)
        · rw [if_neg ce] at h
          simp only [Option.some.injEq, Prod.mk.injEq] at h
          obtain ⟨rfl, rfl, rfl, rfl, rfl, rfl, rfl, rfl, rfl, rfl, rfl, rfl, rfl, rfl⟩ := h
          refine (loan_does.good_bad k id pr it su fe ppm sd st cl en le fa ct 56 #[.pointer (some ⟨w1.heap.size + 1, 0, none⟩), .pointer (some ⟨w1.heap.size + 2, 0, none⟩)] e W.heap.size (.cells #[] 0 (0, 0)) W (Nat.le_refl _) hf hg (fun V hV _ hb => ?_)).mono (fun e w' ⟨h1, h2, _⟩ => ⟨h1, h2.below⟩)
          exact (loan_Fee.in_err W.heap.size id pr it su fe ppm sd st cl en le fa ct V hV _ _ m (loan_does.kept hb hA) (loan_does.kept hb hB) (by omega) cc0 _ _ hp ce).mono (fun e w' ⟨h1, h3⟩ => ⟨h1, h3, fun h => absurd h (Nat.lt_irrefl _)⟩)
def loan_Draw.f (k : Nat) (id pr it su fe ppm : Int) (sd : Bool) (st cl en le fa ct : Int) (m : Int) : Option (Int × Int × Int × Int × Int × Int × Bool × Int × Int × Int × Int × Int × Int × Int) := (loan_Good.f k id pr it su fe ppm sd st cl en le fa ct).bind fun g =>
  if g = true then (if m < 1 ∨ 1000000000 < m then some (0, 0, 0, 0, 0, 0, false, 0, 0, 0, 0, 0, 0, 1) else if ¬ cl = 0 then some (0, 0, 0, 0, 0, 0, false, 0, 0, 0, 0, 0, 0, 61) else (money_Add.f pr m).bind fun p => (if p.2 = 0 then some (id, p.1, it, su, fe, ppm, sd, st, 0, en, le, fa, ct, 0) else some (0, 0, 0, 0, 0, 0, false, 0, 0, 0, 0, 0, 0, p.2))) else some (0, 0, 0, 0, 0, 0, false, 0, 0, 0, 0, 0, 0, 1)
theorem loan_Draw.mono : ∀ (id pr it su fe ppm : Int) (sd : Bool) (st cl en le fa ct : Int) (m : Int) k, LeO (loan_Draw.f k id pr it su fe ppm sd st cl en le fa ct m) (loan_Draw.f (k + 1) id pr it su fe ppm sd st cl en le fa ct m) := by
  intro id pr it su fe ppm sd st cl en le fa ct m k
  unfold loan_Draw.f
  exact LeO.bind (loan_Good.mono _ _ _ _ _ _ _ _ _ _ _ _ _ _) (fun _ => LeO.refl _)
set_option maxHeartbeats 8000000 in
set_option maxRecDepth 100000 in
theorem loan_Draw.calls (k : Nat) (id pr it su fe ppm : Int) (sd : Bool) (st cl en le fa ct : Int) (m : Int) (r1 : Int) (r2 : Int) (r3 : Int) (r4 : Int) (r5 : Int) (r6 : Int) (r7 : Bool) (r8 : Int) (r9 : Int) (r10 : Int) (r11 : Int) (r12 : Int) (r13 : Int) (r14 : Int) (w : World) (h : loan_Draw.f k id pr it su fe ppm sd st cl en le fa ct m = some (r1, r2, r3, r4, r5, r6, r7, r8, r9, r10, r11, r12, r13, r14)) :
    Calls Try.prog 12 #[.agg #[.int .i64 id, .int .i64 pr, .int .i64 it, .int .i64 su, .int .i64 fe, .int .i64 ppm, .bool sd, .int .i64 st, .int .i64 cl, .int .i64 en, .int .i64 le, .int .i64 fa, .int .i64 ct], .int .i64 m] w fun e w' => e = .returned (.tuple #[.agg #[.int .i64 r1, .int .i64 r2, .int .i64 r3, .int .i64 r4, .int .i64 r5, .int .i64 r6, .bool r7, .int .i64 r8, .int .i64 r9, .int .i64 r10, .int .i64 r11, .int .i64 r12, .int .i64 r13], .int .i64 r14]) ∧ Below w.heap.size w w' := by
  have hf : ∀ args W, (callFunc 56 args).run Try.prog W = .ok (.enter 56 args) W := fun _ _ => by rfl
  unfold loan_Draw.f at h
  obtain ⟨g, hg, h⟩ := Option.bind_eq_some_iff.mp h
  apply loan_Draw.by_
  intro w1 hw1
  apply loan_Draw.more.by_
  intro W hA hB hW
  have l1 := blk_lt hA
  have l2 := blk_lt hB
  cases g with
  | false =>
    rw [if_neg (by simp)] at h
    simp only [Option.some.injEq, Prod.mk.injEq] at h
    obtain ⟨rfl, rfl, rfl, rfl, rfl, rfl, rfl, rfl, rfl, rfl, rfl, rfl, rfl, rfl⟩ := h
    exact loan_does.not_good k _ _ _ _ _ _ _ _ _ _ _ _ _ _ W hg
  | true =>
    rw [if_pos rfl] at h
    by_cases cd : m < 1 ∨ 1000000000 < m
    · rw [if_pos cd] at h
      by_cases cd1 : m < 1
      · skip
        simp only [Option.some.injEq, Prod.mk.injEq] at h
        obtain ⟨rfl, rfl, rfl, rfl, rfl, rfl, rfl, rfl, rfl, rfl, rfl, rfl, rfl, rfl⟩ := h
        refine (loan_does.good_bad k id pr it su fe ppm sd st cl en le fa ct 56 #[.pointer (some ⟨w1.heap.size + 1, 0, none⟩), .pointer (some ⟨w1.heap.size + 2, 0, none⟩)] 1 W.heap.size (.cells #[] 0 (0, 0)) W (Nat.le_refl _) hf hg (fun V hV _ hb => ?_)).mono (fun e w' ⟨h1, h2, _⟩ => ⟨h1, h2.below⟩)
        exact (loan_Draw.in_m1 W.heap.size id pr it su fe ppm sd st cl en le fa ct V hV _ _ m (loan_does.kept hb hA) (loan_does.kept hb hB) cd1).mono (fun e w' ⟨h1, h3⟩ => ⟨h1, h3, fun h => absurd h (Nat.lt_irrefl _)⟩)
      simp only [Option.some.injEq, Prod.mk.injEq] at h
      obtain ⟨rfl, rfl, rfl, rfl, rfl, rfl, rfl, rfl, rfl, rfl, rfl, rfl, rfl, rfl⟩ := h
      refine (loan_does.good_bad k id pr it su fe ppm sd st cl en le fa ct 56 #[.pointer (some ⟨w1.heap.size + 1, 0, none⟩), .pointer (some ⟨w1.heap.size + 2, 0, none⟩)] 1 W.heap.size (.cells #[] 0 (0, 0)) W (Nat.le_refl _) hf hg (fun V hV _ hb => ?_)).mono (fun e w' ⟨h1, h2, _⟩ => ⟨h1, h2.below⟩)
      exact (loan_Draw.in_m2 W.heap.size id pr it su fe ppm sd st cl en le fa ct V hV _ _ m (loan_does.kept hb hA) (loan_does.kept hb hB) (by omega)).mono (fun e w' ⟨h1, h3⟩ => ⟨h1, h3, fun h => absurd h (Nat.lt_irrefl _)⟩)
    · rw [if_neg cd] at h
      by_cases cc : ¬ cl = 0
      · rw [if_pos cc] at h
        simp only [Option.some.injEq, Prod.mk.injEq] at h
        obtain ⟨rfl, rfl, rfl, rfl, rfl, rfl, rfl, rfl, rfl, rfl, rfl, rfl, rfl, rfl⟩ := h
        refine (loan_does.good_bad k id pr it su fe ppm sd st cl en le fa ct 56 #[.pointer (some ⟨w1.heap.size + 1, 0, none⟩), .pointer (some ⟨w1.heap.size + 2, 0, none⟩)] 61 W.heap.size (.cells #[] 0 (0, 0)) W (Nat.le_refl _) hf hg (fun V hV _ hb => ?_)).mono (fun e w' ⟨h1, h2, _⟩ => ⟨h1, h2.below⟩)
        exact (loan_Draw.in_gone W.heap.size id pr it su fe ppm sd st cl en le fa ct V hV _ _ m (loan_does.kept hb hA) (loan_does.kept hb hB) (by omega) cc).mono (fun e w' ⟨h1, h3⟩ => ⟨h1, h3, fun h => absurd h (Nat.lt_irrefl _)⟩)
      · rw [if_neg cc] at h
        have cc0 : cl = 0 := Decidable.not_not.mp cc
        obtain ⟨⟨x, e⟩, hp, h⟩ := Option.bind_eq_some_iff.mp h
        simp only at h
        by_cases ce : e = 0
        · rw [if_pos ce] at h
          simp only [Option.some.injEq, Prod.mk.injEq] at h
          obtain ⟨rfl, rfl, rfl, rfl, rfl, rfl, rfl, rfl, rfl, rfl, rfl, rfl, rfl, rfl⟩ := h
          refine (loan_does.good_ok k id pr it su fe ppm sd st cl en le fa ct 56 #[.pointer (some ⟨w1.heap.size + 1, 0, none⟩), .pointer (some ⟨w1.heap.size + 2, 0, none⟩)] _ _ _ _ _ _ _ _ _ _ _ _ _ W.heap.size (.cells #[] 0 (0, 0)) W (Nat.le_refl _) hf hg (fun V hV _ hb => ?_)).mono (fun e w' ⟨h1, h2, _⟩ => ⟨h1, h2.below⟩)
          exact (loan_Draw.in_ok W.heap.size id pr it su fe ppm sd st cl en le fa ct V hV _ _ m (loan_does.kept hb hA) (loan_does.kept hb hB) (by omega) cc0 _ _ hp ce).mono (fun e w' ⟨h1, h2, h3⟩ => ⟨h1, h2, h3, fun h => absurd h (Nat.lt_irrefl _)⟩)
        · rw [if_neg ce] at h
          simp only [Option.some.injEq, Prod.mk.injEq] at h
          obtain ⟨rfl, rfl, rfl, rfl, rfl, rfl, rfl, rfl, rfl, rfl, rfl, rfl, rfl, rfl⟩ := h
          refine (loan_does.good_bad k id pr it su fe ppm sd st cl en le fa ct 56 #[.pointer (some ⟨w1.heap.size + 1, 0, none⟩), .pointer (some ⟨w1.heap.size + 2, 0, none⟩)] e W.heap.size (.cells #[] 0 (0, 0)) W (Nat.le_refl _) hf hg (fun V hV _ hb => ?_)).mono (fun e w' ⟨h1, h2, _⟩ => ⟨h1, h2.below⟩)
          exact (loan_Draw.in_err W.heap.size id pr it su fe ppm sd st cl en le fa ct V hV _ _ m (loan_does.kept hb hA) (loan_does.kept hb hB) (by omega) cc0 _ _ hp ce).mono (fun e w' ⟨h1, h3⟩ => ⟨h1, h3, fun h => absurd h (Nat.lt_irrefl _)⟩)
end Go.Proofs.Ytmbenmiakjhgeaa.P
