/- Loans: contracts of the functions on loans, walked by hand. -/
import Derived.Test.YtmbenmiakjhgeaaZt
import Derived.Test.YtmbenmiakjhgeaaPx4
import Derived.Test.YtmbenmiakjhgeaaPx6
import Derived.Test.YtmbenmiakjhgeaaPx3
import Derived.Deep.RegionHeld3
import Derived.Laws.CopyOwn
namespace Go.Proofs.Ytmbenmiakjhgeaa.P
open Go.RowKit Go.Proofs.YtmbenmiakjhgeaaW.PrintWords Go.Proofs.YtmbenmiakjhgeaaW.PrintLast Go.Proofs.YtmbenmiakjhgeaaW.PrintMore
attribute [local go_sem] max2_int min2_int max_two min_two max_three min_three max_four min_four   -- for this text's walks alone
set_option linter.unusedVariables false
set_option linter.unusedSimpArgs false
set_option linter.unnecessarySimpa false
set_option maxHeartbeats 8000000 in
set_option maxRecDepth 100000 in
theorem loan_Close.in_h1 (b : Nat) (id pr it su fe ppm : Int) (sd : Bool) (st cl en le fa ct : Int) (w : World) (h : w.heap[b]? = some (.cells (loanC id pr it su fe ppm sd st cl en le fa ct) 23 (0, 0))) (q c : Nat) (how : Int) (hq : w.heap[q]? = some (.cells #[.int .i64 how] 3 (0, 0))) (hc : w.heap[c]? = some (.cells #[.int .i64 0] 2 (0, 0))) (hn : how < 1) :
    Calls Try.prog 46 #[.pointer (some ⟨b, 0, none⟩), .pointer (some ⟨q, 0, none⟩), .pointer (some ⟨c, 0, none⟩)] w fun e w' => e = .panicked [{ v := .iface 25 (.int .i64 1), recovered := false }] ∧ loan_does.Near b c w w' ∧ w'.heap[c]? = some (.cells #[.int .i64 0] 2 (0, 0)) := by
  have a1 : w.cell? ⟨q, 0, none⟩ = some (.int .i64 how) := (blk_cell hq 0).trans rfl
  have B := Aside0.mk h
  have Q := Aside0.mk hq
  have C := Aside0.mk hc
  clear h hq hc
  have d0 : decide (how < 1) = true := decide_eq_true (by omega)
  clear hn
  go_enter Try.func46, Try.ntmps46
  go_wp2_with (go_at_call 30; (with_reducible refine (loan_does.stop_bad 1 _ (by decide)).mono ?_); rintro e w' ⟨rfl, ⟨nd, rfl⟩⟩)
  exact ⟨rfl, rfl, (loan_does.Near.refl b c w).drewN _, blk_drewN C.out _⟩
set_option maxHeartbeats 8000000 in
set_option maxRecDepth 100000 in
theorem loan_Close.in_h2 (b : Nat) (id pr it su fe ppm : Int) (sd : Bool) (st cl en le fa ct : Int) (w : World) (h : w.heap[b]? = some (.cells (loanC id pr it su fe ppm sd st cl en le fa ct) 23 (0, 0))) (q c : Nat) (how : Int) (hq : w.heap[q]? = some (.cells #[.int .i64 how] 3 (0, 0))) (hc : w.heap[c]? = some (.cells #[.int .i64 0] 2 (0, 0))) (hn : ¬ how < 1 ∧ 4 < how) :
    Calls Try.prog 46 #[.pointer (some ⟨b, 0, none⟩), .pointer (some ⟨q, 0, none⟩), .pointer (some ⟨c, 0, none⟩)] w fun e w' => e = .panicked [{ v := .iface 25 (.int .i64 1), recovered := false }] ∧ loan_does.Near b c w w' ∧ w'.heap[c]? = some (.cells #[.int .i64 0] 2 (0, 0)) := by
  have a1 : w.cell? ⟨q, 0, none⟩ = some (.int .i64 how) := (blk_cell hq 0).trans rfl
  have B := Aside0.mk h
  have Q := Aside0.mk hq
  have C := Aside0.mk hc
  clear h hq hc
  have d0 : decide (how < 1) = false := decide_eq_false (by omega)
  have d1 : decide (4 < how) = true := decide_eq_true (by omega)
  clear hn
  go_enter Try.func46, Try.ntmps46
  go_wp2_with (go_at_call 30; (with_reducible refine (loan_does.stop_bad 1 _ (by decide)).mono ?_); rintro e w' ⟨rfl, ⟨nd, rfl⟩⟩)
  exact ⟨rfl, rfl, (loan_does.Near.refl b c w).drewN _, blk_drewN C.out _⟩
set_option maxHeartbeats 8000000 in
set_option maxRecDepth 100000 in
theorem loan_Close.in_gone (b : Nat) (id pr it su fe ppm : Int) (sd : Bool) (st cl en le fa ct : Int) (w : World) (h : w.heap[b]? = some (.cells (loanC id pr it su fe ppm sd st cl en le fa ct) 23 (0, 0))) (q c : Nat) (how : Int) (hq : w.heap[q]? = some (.cells #[.int .i64 how] 3 (0, 0))) (hc : w.heap[c]? = some (.cells #[.int .i64 0] 2 (0, 0))) (hn : 1 ≤ how ∧ how ≤ 4) (hcl : cl ≠ 0) :
    Calls Try.prog 46 #[.pointer (some ⟨b, 0, none⟩), .pointer (some ⟨q, 0, none⟩), .pointer (some ⟨c, 0, none⟩)] w fun e w' => e = .panicked [{ v := .iface 25 (.int .i64 61), recovered := false }] ∧ loan_does.Near b c w w' ∧ w'.heap[c]? = some (.cells #[.int .i64 0] 2 (0, 0)) := by
  have a1 : w.cell? ⟨q, 0, none⟩ = some (.int .i64 how) := (blk_cell hq 0).trans rfl
  have B := Aside0.mk h
  have Q := Aside0.mk hq
  have C := Aside0.mk hc
  clear h hq hc
  have d0 : decide (how < 1) = false := decide_eq_false (by omega)
  have d1 : decide (4 < how) = false := decide_eq_false (by omega)
  have HC := Aside0.mk hcl
  clear hn hcl
  go_enter Try.func46, Try.ntmps46
  go_wp2_with (first | (go_at_call 30; (with_reducible refine (loan_does.stop_ok 1 false _ (.inr rfl)).mono ?_); rintro e w' ⟨rfl, ⟨nd1, rfl⟩⟩) | (go_at_call 31; (with_reducible refine (loan_does.gone_bad b id pr it su fe ppm sd st cl en le fa ct _ (blk_drewN B.out _) HC.out).mono ?_); rintro e w' ⟨rfl, ⟨nd, rfl⟩⟩))
  exact ⟨rfl, rfl, (loan_does.Near.refl b c w).drewN _, blk_drewN C.out _⟩
set_option maxHeartbeats 8000000 in
set_option maxRecDepth 100000 in
theorem loan_Close.in_bad1 (b : Nat) (id pr it su fe ppm : Int) (sd : Bool) (st cl en le fa ct : Int) (w : World) (h : w.heap[b]? = some (.cells (loanC id pr it su fe ppm sd st cl en le fa ct) 23 (0, 0))) (q c : Nat) (how : Int) (hq : w.heap[q]? = some (.cells #[.int .i64 how] 3 (0, 0))) (hc : w.heap[c]? = some (.cells #[.int .i64 0] 2 (0, 0))) (hn : 1 ≤ how ∧ how ≤ 4) (hcl : cl = 0) (x er : Int) (h1 : money_Add.f pr fe = some (x, er)) (he : er ≠ 0) :
    Calls Try.prog 46 #[.pointer (some ⟨b, 0, none⟩), .pointer (some ⟨q, 0, none⟩), .pointer (some ⟨c, 0, none⟩)] w fun e w' => e = .panicked [{ v := .iface 25 (.int .i64 er), recovered := false }] ∧ loan_does.Near b c w w' ∧ w'.heap[c]? = some (.cells #[.int .i64 0] 2 (0, 0)) := by
  subst hcl
  have a1 : w.cell? ⟨q, 0, none⟩ = some (.int .i64 how) := (blk_cell hq 0).trans rfl
  have B := Aside0.mk h
  have Q := Aside0.mk hq
  have C := Aside0.mk hc
  clear h hq hc
  have d0 : decide (how < 1) = false := decide_eq_false (by omega)
  have d1 : decide (4 < how) = false := decide_eq_false (by omega)
  have H1 := Aside0.mk h1
  have HE := Aside0.mk he
  clear hn h1 he
  go_enter Try.func46, Try.ntmps46
  go_wp2_with (first | (go_at_call 30; (with_reducible refine (loan_does.stop_ok 1 false _ (.inr rfl)).mono ?_); rintro e w' ⟨rfl, ⟨nd1, rfl⟩⟩) | (go_at_call 31; (with_reducible refine (loan_does.gone_ok b id pr it su fe ppm sd st en le fa ct _ (blk_drewN B.out _)).mono ?_); rintro e w' ⟨rfl, ⟨nd, rfl⟩⟩) | (go_at_call 39; (with_reducible refine (loan_does.owes_bad1 b id pr it su fe ppm sd st 0 en le fa ct _ (blk_drewN B.out _) x er H1.out HE.out).mono ?_); rintro e w1 ⟨rfl, hb⟩))
  exact ⟨rfl, rfl, ((loan_does.Near.refl b c w).drewN _).step hb, loan_does.kept hb (blk_drewN C.out _)⟩
set_option maxHeartbeats 8000000 in
set_option maxRecDepth 100000 in
theorem loan_Close.in_bad2 (b : Nat) (id pr it su fe ppm : Int) (sd : Bool) (st cl en le fa ct : Int) (w : World) (h : w.heap[b]? = some (.cells (loanC id pr it su fe ppm sd st cl en le fa ct) 23 (0, 0))) (q c : Nat) (how : Int) (hq : w.heap[q]? = some (.cells #[.int .i64 how] 3 (0, 0))) (hc : w.heap[c]? = some (.cells #[.int .i64 0] 2 (0, 0))) (hn : 1 ≤ how ∧ how ≤ 4) (hcl : cl = 0) (x y z er : Int) (h1 : money_Add.f pr fe = some (x, 0)) (h2 : accrue_Whole.f it = some y) (h3 : money_Add.f x y = some (z, er)) (he : er ≠ 0) :
    Calls Try.prog 46 #[.pointer (some ⟨b, 0, none⟩), .pointer (some ⟨q, 0, none⟩), .pointer (some ⟨c, 0, none⟩)] w fun e w' => e = .panicked [{ v := .iface 25 (.int .i64 er), recovered := false }] ∧ loan_does.Near b c w w' ∧ w'.heap[c]? = some (.cells #[.int .i64 0] 2 (0, 0)) := by
  subst hcl
  have a1 : w.cell? ⟨q, 0, none⟩ = some (.int .i64 how) := (blk_cell hq 0).trans rfl
  have B := Aside0.mk h
  have Q := Aside0.mk hq
  have C := Aside0.mk hc
  clear h hq hc
  have d0 : decide (how < 1) = false := decide_eq_false (by omega)
  have d1 : decide (4 < how) = false := decide_eq_false (by omega)
  have H1 := Aside0.mk h1
  have HE := Aside0.mk he
  have H2 := Aside0.mk h2
  have H3 := Aside0.mk h3
  clear h2 h3
  clear hn h1 he
  go_enter Try.func46, Try.ntmps46
  go_wp2_with (first | (go_at_call 30; (with_reducible refine (loan_does.stop_ok 1 false _ (.inr rfl)).mono ?_); rintro e w' ⟨rfl, ⟨nd1, rfl⟩⟩) | (go_at_call 31; (with_reducible refine (loan_does.gone_ok b id pr it su fe ppm sd st en le fa ct _ (blk_drewN B.out _)).mono ?_); rintro e w' ⟨rfl, ⟨nd, rfl⟩⟩) | (go_at_call 39; (with_reducible refine (loan_does.owes_bad2 b id pr it su fe ppm sd st 0 en le fa ct _ (blk_drewN B.out _) x y z er H1.out H2.out H3.out HE.out).mono ?_); rintro e w1 ⟨rfl, hb⟩))
  exact ⟨rfl, rfl, ((loan_does.Near.refl b c w).drewN _).step hb, loan_does.kept hb (blk_drewN C.out _)⟩
set_option maxHeartbeats 8000000 in
set_option maxRecDepth 100000 in
theorem loan_Close.in_ok (b : Nat) (id pr it su fe ppm : Int) (sd : Bool) (st cl en le fa ct : Int) (w : World) (h : w.heap[b]? = some (.cells (loanC id pr it su fe ppm sd st cl en le fa ct) 23 (0, 0))) (q c : Nat) (how : Int) (hq : w.heap[q]? = some (.cells #[.int .i64 how] 3 (0, 0))) (hc : w.heap[c]? = some (.cells #[.int .i64 0] 2 (0, 0))) (hn : 1 ≤ how ∧ how ≤ 4) (hcl : cl = 0) (x y z : Int) (h1 : money_Add.f pr fe = some (x, 0)) (h2 : accrue_Whole.f it = some y) (h3 : money_Add.f x y = some (z, 0)) (hcb : c ≠ b) (hqc : q ≠ c) :
    Calls Try.prog 46 #[.pointer (some ⟨b, 0, none⟩), .pointer (some ⟨q, 0, none⟩), .pointer (some ⟨c, 0, none⟩)] w fun e w' => e = .returned (.tuple #[]) ∧ w'.heap[b]? = some (.cells (loanC id 0 0 su 0 ppm sd st how en le fa ct) 23 (0, 0)) ∧ loan_does.Near b c w w' ∧ w'.heap[c]? = some (.cells #[.int .i64 z] 2 (0, 0)) := by
  subst hcl
  have a1 : w.cell? ⟨q, 0, none⟩ = some (.int .i64 how) := (blk_cell hq 0).trans rfl
  have B := Aside0.mk h
  have Q := Aside0.mk hq
  have C := Aside0.mk hc
  clear h hq hc
  have d0 : decide (how < 1) = false := decide_eq_false (by omega)
  have d1 : decide (4 < how) = false := decide_eq_false (by omega)
  have H1 := Aside0.mk h1
  have H2 := Aside0.mk h2
  have H3 := Aside0.mk h3
  have NE := Aside0.mk hcb
  have NQ := Aside0.mk hqc
  clear hn h1 h2 h3 hcb hqc
  go_enter Try.func46, Try.ntmps46
  go_wp2_with (first | (go_at_call 30; (with_reducible refine (loan_does.stop_ok 1 false _ (.inr rfl)).mono ?_); rintro e w' ⟨rfl, ⟨nd1, rfl⟩⟩) | (go_at_call 31; (with_reducible refine (loan_does.gone_ok b id pr it su fe ppm sd st en le fa ct _ (blk_drewN B.out _)).mono ?_); rintro e w' ⟨rfl, ⟨nd, rfl⟩⟩) | (go_at_call 39; (with_reducible refine (loan_does.owes_ok b id pr it su fe ppm sd st 0 en le fa ct _ (blk_drewN B.out _) x y z H1.out H2.out H3.out).mono ?_); rintro e w1 ⟨rfl, hb⟩; refine loan_does.MARK ?_))
  unfold loan_does.Mark
  have B1 := loan_does.kept hb (blk_drewN B.out _)
  have C1 := loan_does.kept hb (blk_drewN C.out _)
  have Q1 := loan_does.kept hb (blk_drewN Q.out _)
  have m1 : w1.cell? ⟨c, 0, none⟩ = some (.int .i64 0) := (blk_cell C1 0).trans rfl
  have g1 := blk_frozen C1 0
  have q1 : (w1.setCell ⟨c, 0, none⟩ (.int .i64 z)).cell? ⟨q, 0, none⟩ = some (.int .i64 how) := (blk_cell (blk_far Q1 (by simpa using NQ.out) _) 0).trans rfl
  have BB := Aside0.mk (blk_far B1 (by simpa using Ne.symm NE.out) (.int .i64 z) (p := ⟨c, 0, none⟩))
  have CC := Aside0.mk (blk_put C1 0 (.int .i64 z) rfl)
  have NN := Aside0.mk (((loan_does.Near.refl b c w).drewN _).step hb)
  clear B1 C1 Q1 hb
  go_wp2_with (go_at_call 45; (with_reducible refine (loan_does.end_ok b id pr it su fe ppm sd st 0 en le fa ct _ BB.out how).mono ?_); rintro e w9 ⟨rfl, hb9, hN9⟩)
  go_end0
  exact ⟨by first | rfl | (simp; done), hb9, (NN.out.put2 ⟨c, 0, none⟩ _ rfl).trans (loan_does.Near.wider hN9), (hN9.block c (blk_lt CC.out) NE.out NE.out).trans CC.out⟩
end Go.Proofs.Ytmbenmiakjhgeaa.P
