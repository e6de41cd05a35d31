/- Loans: contracts of the functions on loans, walked by hand. -/
import Derived.Test.YtmbenmiakjhgeaaZc
import Derived.Test.YtmbenmiakjhgeaaPx4
import Derived.Test.YtmbenmiakjhgeaaPx6
import Derived.Test.YtmbenmiakjhgeaaPx3
import Derived.Deep.RegionHeld3
import Derived.Laws.CopyOwn
namespace Go.Proofs.Ytmbenmiakjhgeaa.P
open Go.RowKit Go.Proofs.YtmbenmiakjhgeaaW.PrintWords Go.Proofs.YtmbenmiakjhgeaaW.PrintLast Go.Proofs.YtmbenmiakjhgeaaW.PrintMore
attribute [local go_sem] max2_int min2_int max_two min_two max_three min_three max_four min_four   -- for this text's walks alone
set_option linter.unusedVariables false
set_option linter.unusedSimpArgs false
theorem loan_does.Near.refl (a b : Nat) (w : World) : loan_does.Near a b w w := ⟨rfl, rfl, rfl, Nat.le_refl _, fun _ _ _ _ => rfl⟩
theorem loan_does.Near.trans {a b : Nat} {w w1 w2 : World} (h1 : loan_does.Near a b w w1) (h2 : loan_does.Near a b w1 w2) : loan_does.Near a b w w2 :=
  ⟨h2.os.trans h1.os, h2.tape.trans h1.tape, h2.output.trans h1.output, Nat.le_trans h1.size h2.size, fun k hk ha hb => (h2.block k (Nat.lt_of_lt_of_le hk h1.size) ha hb).trans (h1.block k hk ha hb)⟩
theorem loan_does.Near.step {a b : Nat} {w w1 w2 : World} (h1 : loan_does.Near a b w w1) (h2 : Below w1.heap.size w1 w2) : loan_does.Near a b w w2 := h1.trans (.of_below h2)
theorem loan_does.Near.put {a b : Nat} {w w1 : World} (h1 : loan_does.Near a b w w1) (p : Addr) (v : Value) (hp : p.block = a) : loan_does.Near a b w (w1.setCell p v) :=
  h1.trans ⟨rfl, rfl, rfl, by simp [World.setCell], fun k _ ha _ => Below.heap_setCell _ _ _ _ (by omega)⟩
theorem loan_does.Near.put2 {a b : Nat} {w w1 : World} (h1 : loan_does.Near a b w w1) (p : Addr) (v : Value) (hp : p.block = b) : loan_does.Near a b w (w1.setCell p v) :=
  h1.trans ⟨rfl, rfl, rfl, by simp [World.setCell], fun k _ _ hb => Below.heap_setCell _ _ _ _ (by omega)⟩
theorem loan_does.Near.drewN {a b : Nat} {w w1 : World} (h1 : loan_does.Near a b w w1) (n : Nat) : loan_does.Near a b w (w1.drewN n) := h1.step (pw_below_drewN (Below.refl _ _) n)
theorem loan_does.Near.wider {a b : Nat} {w w1 : World} (h1 : loan_does.Near a a w w1) : loan_does.Near a b w w1 := ⟨h1.os, h1.tape, h1.output, h1.size, fun k hk ha _ => h1.block k hk ha ha⟩
set_option maxHeartbeats 8000000 in
set_option maxRecDepth 100000 in
theorem loan_does.cap_ok (b : Nat) (id pr it su fe ppm : Int) (sd : Bool) (st cl en le fa ct : Int) (w : World) (h : w.heap[b]? = some (.cells (loanC id pr it su fe ppm sd st cl en le fa ct) 23 (0, 0)))
    (n x : Int) (h1 : accrue_Whole.f it = some n) (h2 : money_Add.f pr n = some (x, 0)) (i0 : 0 ≤ it) (i1 : it ≤ 1000000000000000000) (n0 : 0 ≤ n) (n1 : n * 1000000 ≤ it) :
    Calls Try.prog 32 #[.pointer (some ⟨b, 0, none⟩)] w fun e w' => e = .returned (.tuple #[]) ∧ w'.heap[b]? = some (.cells (loanC id x (it - n * 1000000) su fe ppm sd st cl en le fa ct) 23 (0, 0)) ∧ loan_does.Near b b w w' := by
  have c1 : w.cell? ⟨b, 1, none⟩ = some (.int .i64 pr) := (blk_cell h 1).trans rfl
  have c2 : w.cell? ⟨b, 2, none⟩ = some (.int .i64 it) := (blk_cell h 2).trans rfl
  have f1 := blk_frozen h 1
  have f2 := blk_frozen h 2
  have B := Aside0.mk h
  have H1 := Aside0.mk h1
  have H2 := Aside0.mk h2
  clear h h1 h2
  go_enter Try.func32, Try.ntmps32
  go_wp2_with (first | (go_at_call 44; (with_reducible refine (accrue_Whole.calls it n _ H1.out).mono ?_); rintro e w' ⟨rfl, ⟨nd, rfl⟩⟩) | (go_at_call 55; (with_reducible refine (loan_does.sum_ok pr n x _ H2.out).mono ?_); rintro e w1 ⟨rfl, hb⟩; refine loan_does.MARK ?_))
  unfold loan_does.Mark
  have B1 : w1.heap[b]? = some (.cells (loanC id pr it su fe ppm sd st cl en le fa ct) 23 (0, 0)) := loan_does.kept hb (blk_drewN B.out _)
  have m1 : w1.cell? ⟨b, 1, none⟩ = some (.int .i64 pr) := (blk_cell B1 1).trans rfl
  have g1 := blk_frozen B1 1
  have B2 : (w1.setCell ⟨b, 1, none⟩ (.int .i64 x)).heap[b]? = some (.cells (loanC id x it su fe ppm sd st cl en le fa ct) 23 (0, 0)) := blk_put B1 1 _ rfl
  have m2 : (w1.setCell ⟨b, 1, none⟩ (.int .i64 x)).cell? ⟨b, 2, none⟩ = some (.int .i64 it) := (blk_cell B2 2).trans rfl
  have g2 := blk_frozen B2 2
  have BB2 := Aside0.mk B2
  have N : Aside0 (loan_does.Near b b w w1) := ⟨((loan_does.Near.refl b b w).drewN _).step hb⟩
  clear B1 B2 hb c1 c2 f1 f2
  go_wp2
  go_end0
  exact ⟨by first | rfl | (simp; done), blk_put BB2.out 2 _ rfl, (N.out.put _ _ rfl).put _ _ rfl⟩
set_option maxHeartbeats 8000000 in
set_option maxRecDepth 100000 in
theorem loan_does.cap_bad (b : Nat) (id pr it su fe ppm : Int) (sd : Bool) (st cl en le fa ct : Int) (w : World) (h : w.heap[b]? = some (.cells (loanC id pr it su fe ppm sd st cl en le fa ct) 23 (0, 0)))
    (n y x : Int) (h1 : accrue_Whole.f it = some n) (h2 : money_Add.f pr n = some (y, x)) (hx : x ≠ 0) :
    Calls Try.prog 32 #[.pointer (some ⟨b, 0, none⟩)] w fun e w' => e = .panicked [{ v := .iface 25 (.int .i64 x), recovered := false }] ∧ loan_does.Near b b w w' := by
  have c1 : w.cell? ⟨b, 1, none⟩ = some (.int .i64 pr) := (blk_cell h 1).trans rfl
  have c2 : w.cell? ⟨b, 2, none⟩ = some (.int .i64 it) := (blk_cell h 2).trans rfl
  have f1 := blk_frozen h 1
  have f2 := blk_frozen h 2
  have H1 := Aside0.mk h1
  have H2 := Aside0.mk h2
  have HX := Aside0.mk hx
  clear h h1 h2 hx
  go_enter Try.func32, Try.ntmps32
  go_wp2_with (first | (go_at_call 44; (with_reducible refine (accrue_Whole.calls it n _ H1.out).mono ?_); rintro e w' ⟨rfl, ⟨nd, rfl⟩⟩) | (go_at_call 55; (with_reducible refine (loan_does.sum_bad pr n y x _ H2.out HX.out).mono ?_); rintro e w1 ⟨rfl, hb⟩))
  exact ⟨rfl, rfl, ((loan_does.Near.refl b b w).drewN _).step hb⟩
set_option maxHeartbeats 8000000 in
set_option maxRecDepth 100000 in
theorem loan_Capitalize.in_ok (b : Nat) (id pr it su fe ppm : Int) (sd : Bool) (st cl en le fa ct : Int) (w : World) (h : w.heap[b]? = some (.cells (loanC id pr it su fe ppm sd st cl en le fa ct) 23 (0, 0)))
    (n x : Int) (hc : cl = 0) (h1 : accrue_Whole.f it = some n) (h2 : money_Add.f pr n = some (x, 0)) (i0 : 0 ≤ it) (i1 : it ≤ 1000000000000000000) (n0 : 0 ≤ n) (n1 : n * 1000000 ≤ it) :
    Calls Try.prog 40 #[.pointer (some ⟨b, 0, none⟩)] w fun e w' => e = .returned (.tuple #[]) ∧ w'.heap[b]? = some (.cells (loanC id x (it - n * 1000000) su fe ppm sd st cl en le fa ct) 23 (0, 0)) ∧ loan_does.Near b b w w' := by
  subst hc
  have B := Aside0.mk h
  have H1 := Aside0.mk h1
  have H2 := Aside0.mk h2
  have HI := Aside0.mk (And.intro i0 (And.intro i1 (And.intro n0 n1)))
  clear h h1 h2 i0 i1 n0 n1
  go_enter Try.func40, Try.ntmps40
  go_wp2_with (first | (go_at_call 31; (with_reducible refine (loan_does.gone_ok b id pr it su fe ppm sd st en le fa ct _ B.out).mono ?_); rintro e w' ⟨rfl, ⟨nd, rfl⟩⟩) | (go_at_call 32; (with_reducible refine (loan_does.cap_ok b id pr it su fe ppm sd st 0 en le fa ct _ (blk_drewN B.out _) n x H1.out H2.out HI.out.1 HI.out.2.1 HI.out.2.2.1 HI.out.2.2.2).mono ?_); rintro e w1 ⟨rfl, hb, hN⟩))
  go_end0
  exact ⟨by first | rfl | (simp; done), hb, ((loan_does.Near.refl b b w).drewN _).trans hN⟩
set_option maxHeartbeats 8000000 in
set_option maxRecDepth 100000 in
theorem loan_Capitalize.in_gone (b : Nat) (id pr it su fe ppm : Int) (sd : Bool) (st cl en le fa ct : Int) (w : World) (h : w.heap[b]? = some (.cells (loanC id pr it su fe ppm sd st cl en le fa ct) 23 (0, 0))) (hc : cl ≠ 0) :
    Calls Try.prog 40 #[.pointer (some ⟨b, 0, none⟩)] w fun e w' => e = .panicked [{ v := .iface 25 (.int .i64 61), recovered := false }] ∧ loan_does.Near b b w w' := by
  have B := Aside0.mk h
  have HC := Aside0.mk hc
  clear h hc
  go_enter Try.func40, Try.ntmps40
  go_wp2_with (go_at_call 31; (with_reducible refine (loan_does.gone_bad b id pr it su fe ppm sd st cl en le fa ct _ B.out HC.out).mono ?_); rintro e w' ⟨rfl, ⟨nd, rfl⟩⟩)
  exact ⟨rfl, rfl, (loan_does.Near.refl b b w).drewN _⟩
set_option maxHeartbeats 8000000 in
set_option maxRecDepth 100000 in
theorem loan_Capitalize.in_bad (b : Nat) (id pr it su fe ppm : Int) (sd : Bool) (st cl en le fa ct : Int) (w : World) (h : w.heap[b]? = some (.cells (loanC id pr it su fe ppm sd st cl en le fa ct) 23 (0, 0)))
    (n y x : Int) (hc : cl = 0) (h1 : accrue_Whole.f it = some n) (h2 : money_Add.f pr n = some (y, x)) (hx : x ≠ 0) :
    Calls Try.prog 40 #[.pointer (some ⟨b, 0, none⟩)] w fun e w' => e = .panicked [{ v := .iface 25 (.int .i64 x), recovered := false }] ∧ loan_does.Near b b w w' := by
  subst hc
  have B := Aside0.mk h
  have H1 := Aside0.mk h1
  have H2 := Aside0.mk h2
  have HX := Aside0.mk hx
  clear h h1 h2 hx
  go_enter Try.func40, Try.ntmps40
  go_wp2_with (first | (go_at_call 31; (with_reducible refine (loan_does.gone_ok b id pr it su fe ppm sd st en le fa ct _ B.out).mono ?_); rintro e w' ⟨rfl, ⟨nd, rfl⟩⟩) | (go_at_call 32; (with_reducible refine (loan_does.cap_bad b id pr it su fe ppm sd st 0 en le fa ct _ (blk_drewN B.out _) n y x H1.out H2.out HX.out).mono ?_); rintro e w1 ⟨rfl, hN⟩))
  exact ⟨rfl, rfl, ((loan_does.Near.refl b b w).drewN _).trans hN⟩
theorem loan_does.Near.below {w w1 : World} (h : loan_does.Near w.heap.size w.heap.size w w1) : Below w.heap.size w w1 := ⟨h.os, h.tape, h.output, h.size, fun k hk => h.block k hk (Nat.ne_of_lt hk) (Nat.ne_of_lt hk)⟩
set_option maxHeartbeats 8000000 in
set_option maxRecDepth 100000 in
theorem loan_Capitalize.by_ (id pr it su fe ppm : Int) (sd : Bool) (st cl en le fa ct : Int) (r1 : Int) (r2 : Int) (r3 : Int) (r4 : Int) (r5 : Int) (r6 : Int) (r7 : Bool) (r8 : Int) (r9 : Int) (r10 : Int) (r11 : Int) (r12 : Int) (r13 : Int) (r14 : Int) (w : World)
    (hD : ∀ W, Below w.heap.size w W → Calls Try.prog 28 #[.agg (loanC id pr it su fe ppm sd st cl en le fa ct), .func (.func 40) #[] #[]] W fun e w' => e = .returned (.tuple #[.agg (loanC r1 r2 r3 r4 r5 r6 r7 r8 r9 r10 r11 r12 r13), .int .i64 r14]) ∧ Below W.heap.size W w') :
    Calls Try.prog 17 #[.agg #[.int .i64 id, .int .i64 pr, .int .i64 it, .int .i64 su, .int .i64 fe, .int .i64 ppm, .bool sd, .int .i64 st, .int .i64 cl, .int .i64 en, .int .i64 le, .int .i64 fa, .int .i64 ct]] w fun e w' => e = .returned (.tuple #[.agg #[.int .i64 r1, .int .i64 r2, .int .i64 r3, .int .i64 r4, .int .i64 r5, .int .i64 r6, .bool r7, .int .i64 r8, .int .i64 r9, .int .i64 r10, .int .i64 r11, .int .i64 r12, .int .i64 r13], .int .i64 r14]) ∧ Below w.heap.size w w' := by
  have HD := Aside0.mk hD
  clear hD
  go_enter Try.func17, Try.ntmps17
  go_upto_region 1 with (fail)
  obtain ⟨W, hW⟩ : ∃ W, W = (w.alloc (Obj.cells #[.int .i64 id, .int .i64 pr, .int .i64 it, .int .i64 su, .int .i64 fe, .int .i64 ppm, .bool sd, .int .i64 st, .int .i64 cl, .int .i64 en, .int .i64 le, .int .i64 fa, .int .i64 ct] 23)).alloc (Obj.cells #[.int .i64 0, .int .i64 0, .int .i64 0, .int .i64 0, .int .i64 0, .int .i64 0, .bool false, .int .i64 0, .int .i64 0, .int .i64 0, .int .i64 0, .int .i64 0, .int .i64 0] 23) := ⟨_, rfl⟩
  have B0 : Aside0 (W.heap[w.heap.size]? = some (.cells (loanC id pr it su fe ppm sd st cl en le fa ct) 23 (0, 0))) := ⟨by rw [hW]; exact blk_alloc (blk_new w _) _⟩
  have B1 : Aside0 (W.heap[w.heap.size + 1]? = some (.cells (loanC 0 0 0 0 0 0 false 0 0 0 0 0 0) 23 (0, 0))) := ⟨by
    have := blk_new (w.alloc (Obj.cells #[.int .i64 id, .int .i64 pr, .int .i64 it, .int .i64 su, .int .i64 fe, .int .i64 ppm, .bool sd, .int .i64 st, .int .i64 cl, .int .i64 en, .int .i64 le, .int .i64 fa, .int .i64 ct] 23)) (Obj.cells #[.int .i64 0, .int .i64 0, .int .i64 0, .int .i64 0, .int .i64 0, .int .i64 0, .bool false, .int .i64 0, .int .i64 0, .int .i64 0, .int .i64 0, .int .i64 0, .int .i64 0] 23)
    rw [hW]; simpa [loanC] using this⟩
  have HB : Aside0 (Below w.heap.size w W) := ⟨by rw [hW]; exact ((Below.refl _ _).alloc (Nat.le_refl _) _).alloc (by simp) _⟩
  rw [← hW]
  clear hW
  have c0 : W.cell? ⟨w.heap.size, 0, none⟩ = some (.int .i64 id) := (blk_cell B0.out 0).trans rfl
  have c1 : W.cell? ⟨w.heap.size, 1, none⟩ = some (.int .i64 pr) := (blk_cell B0.out 1).trans rfl
  have c2 : W.cell? ⟨w.heap.size, 2, none⟩ = some (.int .i64 it) := (blk_cell B0.out 2).trans rfl
  have c3 : W.cell? ⟨w.heap.size, 3, none⟩ = some (.int .i64 su) := (blk_cell B0.out 3).trans rfl
  have c4 : W.cell? ⟨w.heap.size, 4, none⟩ = some (.int .i64 fe) := (blk_cell B0.out 4).trans rfl
  have c5 : W.cell? ⟨w.heap.size, 5, none⟩ = some (.int .i64 ppm) := (blk_cell B0.out 5).trans rfl
  have c6 : W.cell? ⟨w.heap.size, 6, none⟩ = some (.bool sd) := (blk_cell B0.out 6).trans rfl
  have c7 : W.cell? ⟨w.heap.size, 7, none⟩ = some (.int .i64 st) := (blk_cell B0.out 7).trans rfl
  have c8 : W.cell? ⟨w.heap.size, 8, none⟩ = some (.int .i64 cl) := (blk_cell B0.out 8).trans rfl
  have c9 : W.cell? ⟨w.heap.size, 9, none⟩ = some (.int .i64 en) := (blk_cell B0.out 9).trans rfl
  have c10 : W.cell? ⟨w.heap.size, 10, none⟩ = some (.int .i64 le) := (blk_cell B0.out 10).trans rfl
  have c11 : W.cell? ⟨w.heap.size, 11, none⟩ = some (.int .i64 fa) := (blk_cell B0.out 11).trans rfl
  have c12 : W.cell? ⟨w.heap.size, 12, none⟩ = some (.int .i64 ct) := (blk_cell B0.out 12).trans rfl
  go_wp2_with (first | (go_at_call 28; refine (HD.out _ HB.out).mono ?_; rintro e w1 ⟨rfl, hb⟩) | ((with_reducible refine loan_does.gate 23 (.tmp 2) (.tmp 6) rfl ?_); refine loan_does.MARK ?_))
  unfold loan_does.Mark
  have k1 := loan_does.kept hb B1.out
  refine loan_does.st rfl 23 (.tmp 2) (.tmp 6) rfl rfl (w.heap.size + 1) (loanC r1 r2 r3 r4 r5 r6 r7 r8 r9 r10 r11 r12 r13) ?hx ?hy 23 _ k1 (by kernel_rfl) rfl (loan_does.one _ _ _ _ _ _ _ _ _ _ _ _ _) ?_
  case hx => simp [go_sem]
  case hy => simp [go_sem, loanC]
  have k2 := setRow_heap w1 _ _ (loanC r1 r2 r3 r4 r5 r6 r7 r8 r9 r10 r11 r12 r13) 23 (0, 0) k1
  go_wp2
  refine bodyPost_ret (results_ct rfl _ _ (w.heap.size + 1) 23 (loanC r1 r2 r3 r4 r5 r6 r7 r8 r9 r10 r11 r12 r13) (0, 0) _ rfl k2 Try.underlying23 rfl (by kernel_rfl)) rfl ?_
  exact ⟨rfl, below_setRow (below_step HB.out hb) (by omega) _⟩
/-- Whole cents. -/
theorem loan_does.whole {it : Int} (i0 : 0 ≤ it) (i1 : it ≤ 1000000000000000000) : accrue_Whole.f it = some (it / 1000000) := by
  unfold accrue_Whole.f; rw [if_pos (by omega), if_neg (by omega)]
def loan_Capitalize.f (k : Nat) (id pr it su fe ppm : Int) (sd : Bool) (st cl en le fa ct : Int) : Option (Int × Int × Int × Int × Int × Int × Bool × Int × Int × Int × Int × Int × Int × Int) := (loan_Good.f k id pr it su fe ppm sd st cl en le fa ct).bind fun g =>
  if g = true then (if 0 ≤ it ∧ it ≤ 1000000000000000000 then (if cl = 0 then (money_Add.f pr (it / 1000000)).bind fun p => (if p.2 = 0 then some (id, p.1, it - it / 1000000 * 1000000, su, fe, ppm, sd, st, cl, en, le, fa, ct, 0) else some (0, 0, 0, 0, 0, 0, false, 0, 0, 0, 0, 0, 0, p.2)) else some (0, 0, 0, 0, 0, 0, false, 0, 0, 0, 0, 0, 0, 61)) else none) else some (0, 0, 0, 0, 0, 0, false, 0, 0, 0, 0, 0, 0, 1)
theorem loan_Capitalize.mono : ∀ (id pr it su fe ppm : Int) (sd : Bool) (st cl en le fa ct : Int) k, LeO (loan_Capitalize.f k id pr it su fe ppm sd st cl en le fa ct) (loan_Capitalize.f (k + 1) id pr it su fe ppm sd st cl en le fa ct) := by
  intro id pr it su fe ppm sd st cl en le fa ct k
  unfold loan_Capitalize.f
  exact LeO.bind (loan_Good.mono _ _ _ _ _ _ _ _ _ _ _ _ _ _) (fun _ => LeO.refl _)
set_option maxHeartbeats 8000000 in
set_option maxRecDepth 100000 in
theorem loan_Capitalize.calls (k : Nat) (id pr it su fe ppm : Int) (sd : Bool) (st cl en le fa ct : Int) (r1 : Int) (r2 : Int) (r3 : Int) (r4 : Int) (r5 : Int) (r6 : Int) (r7 : Bool) (r8 : Int) (r9 : Int) (r10 : Int) (r11 : Int) (r12 : Int) (r13 : Int) (r14 : Int) (w : World) (h : loan_Capitalize.f k id pr it su fe ppm sd st cl en le fa ct = some (r1, r2, r3, r4, r5, r6, r7, r8, r9, r10, r11, r12, r13, r14)) :
    Calls Try.prog 17 #[.agg #[.int .i64 id, .int .i64 pr, .int .i64 it, .int .i64 su, .int .i64 fe, .int .i64 ppm, .bool sd, .int .i64 st, .int .i64 cl, .int .i64 en, .int .i64 le, .int .i64 fa, .int .i64 ct]] w fun e w' => e = .returned (.tuple #[.agg #[.int .i64 r1, .int .i64 r2, .int .i64 r3, .int .i64 r4, .int .i64 r5, .int .i64 r6, .bool r7, .int .i64 r8, .int .i64 r9, .int .i64 r10, .int .i64 r11, .int .i64 r12, .int .i64 r13], .int .i64 r14]) ∧ Below w.heap.size w w' := by
  have hf : ∀ args W, (callFunc 40 args).run Try.prog W = .ok (.enter 40 args) W := fun _ _ => by rfl
  unfold loan_Capitalize.f at h
  obtain ⟨g, hg, h⟩ := Option.bind_eq_some_iff.mp h
  apply loan_Capitalize.by_
  intro W hW
  cases g with
  | false =>
    rw [if_neg (by simp)] at h
    simp only [Option.some.injEq, Prod.mk.injEq] at h
    obtain ⟨rfl, rfl, rfl, rfl, rfl, rfl, rfl, rfl, rfl, rfl, rfl, rfl, rfl, rfl⟩ := h
    exact loan_does.not_good k _ _ _ _ _ _ _ _ _ _ _ _ _ _ W hg
  | true =>
    rw [if_pos rfl] at h
    by_cases ci : 0 ≤ it ∧ it ≤ 1000000000000000000
    · rw [if_pos ci] at h
      by_cases c : cl = 0
      · rw [if_pos c] at h
        obtain ⟨⟨x, e⟩, hp, h⟩ := Option.bind_eq_some_iff.mp h
        simp only at h
        by_cases ce : e = 0
        · rw [if_pos ce] at h
          simp only [Option.some.injEq, Prod.mk.injEq] at h
          obtain ⟨rfl, rfl, rfl, rfl, rfl, rfl, rfl, rfl, rfl, rfl, rfl, rfl, rfl, rfl⟩ := h
          subst ce
          refine (loan_does.good_ok k id pr it su fe ppm sd st cl en le fa ct 40 #[] _ _ _ _ _ _ _ _ _ _ _ _ _ W.heap.size (.cells #[] 0 (0, 0)) W (Nat.le_refl _) hf hg (fun V hV _ _ => ?_)).mono (fun e w' ⟨h1, h2, _⟩ => ⟨h1, h2.below⟩)
          exact (loan_Capitalize.in_ok W.heap.size id pr it su fe ppm sd st cl en le fa ct V hV _ _ c (loan_does.whole ci.1 ci.2) hp ci.1 ci.2 (by omega) (by omega)).mono (fun e w' ⟨h1, h2, h3⟩ => ⟨h1, h2, h3, fun h => absurd h (Nat.lt_irrefl _)⟩)
        · rw [if_neg ce] at h
          simp only [Option.some.injEq, Prod.mk.injEq] at h
          obtain ⟨rfl, rfl, rfl, rfl, rfl, rfl, rfl, rfl, rfl, rfl, rfl, rfl, rfl, rfl⟩ := h
          refine (loan_does.good_bad k id pr it su fe ppm sd st cl en le fa ct 40 #[] e W.heap.size (.cells #[] 0 (0, 0)) W (Nat.le_refl _) hf hg (fun V hV _ _ => ?_)).mono (fun e w' ⟨h1, h2, _⟩ => ⟨h1, h2.below⟩)
          exact (loan_Capitalize.in_bad W.heap.size id pr it su fe ppm sd st cl en le fa ct V hV _ _ _ c (loan_does.whole ci.1 ci.2) hp ce).mono (fun e w' ⟨h1, h3⟩ => ⟨h1, h3, fun h => absurd h (Nat.lt_irrefl _)⟩)
      · rw [if_neg c] at h
        simp only [Option.some.injEq, Prod.mk.injEq] at h
        obtain ⟨rfl, rfl, rfl, rfl, rfl, rfl, rfl, rfl, rfl, rfl, rfl, rfl, rfl, rfl⟩ := h
        refine (loan_does.good_bad k id pr it su fe ppm sd st cl en le fa ct 40 #[] 61 W.heap.size (.cells #[] 0 (0, 0)) W (Nat.le_refl _) hf hg (fun V hV _ _ => ?_)).mono (fun e w' ⟨h1, h2, _⟩ => ⟨h1, h2.below⟩)
        exact (loan_Capitalize.in_gone W.heap.size id pr it su fe ppm sd st cl en le fa ct V hV c).mono (fun e w' ⟨h1, h3⟩ => ⟨h1, h3, fun h => absurd h (Nat.lt_irrefl _)⟩)
    · rw [if_neg ci] at h; cases h
end Go.Proofs.Ytmbenmiakjhgeaa.P
