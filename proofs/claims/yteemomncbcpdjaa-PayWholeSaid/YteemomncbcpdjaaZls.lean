/- Loans: contracts of the functions on loans, walked by hand. -/
import Derived.Test.YteemomncbcpdjaaPx3
import Derived.Test.YteemomncbcpdjaaPx4
import Derived.Test.YteemomncbcpdjaaPx5
import Derived.Test.YteemomncbcpdjaaPx7
import Derived.Test.YteemomncbcpdjaaZlg
import Derived.Deep.RegionHeld3
import Derived.Deep.RegionWith
import Derived.BigRegion
import Derived.Laws.CopyOwn
namespace Go.Proofs.Yteemomncbcpdjaa.P
open Go.RowKit Go.Proofs.YteemomncbcpdjaaW.PrintWords Go.Proofs.YteemomncbcpdjaaW.PrintLast Go.Proofs.YteemomncbcpdjaaW.PrintMore
attribute [local go_sem] max2_int min2_int max_two min_two max_three min_three max_four min_four   -- for this text's walks alone
open List (getElem_toArray getElem_cons_zero getElem_cons_succ setIfInBounds_toArray set_cons_zero set_cons_succ)
set_option linter.unusedVariables false
set_option linter.unusedSimpArgs false
set_option linter.unnecessarySimpa false
set_option maxHeartbeats 8000000 in
set_option maxRecDepth 100000 in
theorem loan_Pay.in_n1 (b : Nat) (id pr it su fe ppm : Int) (sd : Bool) (st cl en le fa ct : Int) (w : World) (h : w.heap[b]? = some (.cells (loanC id pr it su fe ppm sd st cl en le fa ct) 43 (0, 0))) (p q r : Nat) (pf pi pp : Int) (hp : w.heap[p]? = some (.cells #[.int .i64 pf] 2 (0, 0))) (hq : w.heap[q]? = some (.cells #[.int .i64 pi] 2 (0, 0))) (hr : w.heap[r]? = some (.cells #[.int .i64 pp] 2 (0, 0))) (hn : pf < 0) :
    Calls Try.prog 45 #[.pointer (some ⟨b, 0, none⟩), .pointer (some ⟨p, 0, none⟩), .pointer (some ⟨q, 0, none⟩), .pointer (some ⟨r, 0, none⟩)] w fun e w' => e = .panicked [{ v := .iface 27 (.int .i64 1), recovered := false }] ∧ loan_does.Near b b w w' := by
  have a1 : w.cell? ⟨p, 0, none⟩ = some (.int .i64 pf) := (blk_cell hp 0).trans rfl
  have a2 : w.cell? ⟨q, 0, none⟩ = some (.int .i64 pi) := (blk_cell hq 0).trans rfl
  have a3 : w.cell? ⟨r, 0, none⟩ = some (.int .i64 pp) := (blk_cell hr 0).trans rfl
  have l1 : w.cell? ⟨b, 1, none⟩ = some (.int .i64 pr) := (blk_cell h 1).trans rfl
  have l2 : w.cell? ⟨b, 2, none⟩ = some (.int .i64 it) := (blk_cell h 2).trans rfl
  have l4 : w.cell? ⟨b, 4, none⟩ = some (.int .i64 fe) := (blk_cell h 4).trans rfl
  have B := Aside0.mk h
  have P := Aside0.mk hp
  have Q := Aside0.mk hq
  have R := Aside0.mk hr
  clear h hp hq hr
  have d0 : decide (pf < 0) = true := decide_eq_true (by omega)
  clear hn
  go_enter Try.func45, Try.ntmps45
  go_wp2_with (go_at_call 46; (with_reducible refine (loan_does.stop_bad 1 _ (by decide)).mono ?_); rintro e w' ⟨rfl, ⟨nd, rfl⟩⟩)
  exact ⟨rfl, rfl, (loan_does.Near.refl b b w).drewN _⟩
set_option maxHeartbeats 8000000 in
set_option maxRecDepth 100000 in
theorem loan_Pay.in_n2 (b : Nat) (id pr it su fe ppm : Int) (sd : Bool) (st cl en le fa ct : Int) (w : World) (h : w.heap[b]? = some (.cells (loanC id pr it su fe ppm sd st cl en le fa ct) 43 (0, 0))) (p q r : Nat) (pf pi pp : Int) (hp : w.heap[p]? = some (.cells #[.int .i64 pf] 2 (0, 0))) (hq : w.heap[q]? = some (.cells #[.int .i64 pi] 2 (0, 0))) (hr : w.heap[r]? = some (.cells #[.int .i64 pp] 2 (0, 0))) (hn : 0 ≤ pf ∧ pi < 0) :
    Calls Try.prog 45 #[.pointer (some ⟨b, 0, none⟩), .pointer (some ⟨p, 0, none⟩), .pointer (some ⟨q, 0, none⟩), .pointer (some ⟨r, 0, none⟩)] w fun e w' => e = .panicked [{ v := .iface 27 (.int .i64 1), recovered := false }] ∧ loan_does.Near b b w w' := by
  have a1 : w.cell? ⟨p, 0, none⟩ = some (.int .i64 pf) := (blk_cell hp 0).trans rfl
  have a2 : w.cell? ⟨q, 0, none⟩ = some (.int .i64 pi) := (blk_cell hq 0).trans rfl
  have a3 : w.cell? ⟨r, 0, none⟩ = some (.int .i64 pp) := (blk_cell hr 0).trans rfl
  have l1 : w.cell? ⟨b, 1, none⟩ = some (.int .i64 pr) := (blk_cell h 1).trans rfl
  have l2 : w.cell? ⟨b, 2, none⟩ = some (.int .i64 it) := (blk_cell h 2).trans rfl
  have l4 : w.cell? ⟨b, 4, none⟩ = some (.int .i64 fe) := (blk_cell h 4).trans rfl
  have B := Aside0.mk h
  have P := Aside0.mk hp
  have Q := Aside0.mk hq
  have R := Aside0.mk hr
  clear h hp hq hr
  have d0 : decide (pf < 0) = false := decide_eq_false (by omega)
  have d1 : decide (pi < 0) = true := decide_eq_true (by omega)
  clear hn
  go_enter Try.func45, Try.ntmps45
  go_wp2_with (go_at_call 46; (with_reducible refine (loan_does.stop_bad 1 _ (by decide)).mono ?_); rintro e w' ⟨rfl, ⟨nd, rfl⟩⟩)
  exact ⟨rfl, rfl, (loan_does.Near.refl b b w).drewN _⟩
set_option maxHeartbeats 8000000 in
set_option maxRecDepth 100000 in
theorem loan_Pay.in_n3 (b : Nat) (id pr it su fe ppm : Int) (sd : Bool) (st cl en le fa ct : Int) (w : World) (h : w.heap[b]? = some (.cells (loanC id pr it su fe ppm sd st cl en le fa ct) 43 (0, 0))) (p q r : Nat) (pf pi pp : Int) (hp : w.heap[p]? = some (.cells #[.int .i64 pf] 2 (0, 0))) (hq : w.heap[q]? = some (.cells #[.int .i64 pi] 2 (0, 0))) (hr : w.heap[r]? = some (.cells #[.int .i64 pp] 2 (0, 0))) (hn : 0 ≤ pf ∧ 0 ≤ pi ∧ pp < 0) :
    Calls Try.prog 45 #[.pointer (some ⟨b, 0, none⟩), .pointer (some ⟨p, 0, none⟩), .pointer (some ⟨q, 0, none⟩), .pointer (some ⟨r, 0, none⟩)] w fun e w' => e = .panicked [{ v := .iface 27 (.int .i64 1), recovered := false }] ∧ loan_does.Near b b w w' := by
  have a1 : w.cell? ⟨p, 0, none⟩ = some (.int .i64 pf) := (blk_cell hp 0).trans rfl
  have a2 : w.cell? ⟨q, 0, none⟩ = some (.int .i64 pi) := (blk_cell hq 0).trans rfl
  have a3 : w.cell? ⟨r, 0, none⟩ = some (.int .i64 pp) := (blk_cell hr 0).trans rfl
  have l1 : w.cell? ⟨b, 1, none⟩ = some (.int .i64 pr) := (blk_cell h 1).trans rfl
  have l2 : w.cell? ⟨b, 2, none⟩ = some (.int .i64 it) := (blk_cell h 2).trans rfl
  have l4 : w.cell? ⟨b, 4, none⟩ = some (.int .i64 fe) := (blk_cell h 4).trans rfl
  have B := Aside0.mk h
  have P := Aside0.mk hp
  have Q := Aside0.mk hq
  have R := Aside0.mk hr
  clear h hp hq hr
  have d0 : decide (pf < 0) = false := decide_eq_false (by omega)
  have d1 : decide (pi < 0) = false := decide_eq_false (by omega)
  have d2 : decide (pp < 0) = true := decide_eq_true (by omega)
  clear hn
  go_enter Try.func45, Try.ntmps45
  go_wp2_with (go_at_call 46; (with_reducible refine (loan_does.stop_bad 1 _ (by decide)).mono ?_); rintro e w' ⟨rfl, ⟨nd, rfl⟩⟩)
  exact ⟨rfl, rfl, (loan_does.Near.refl b b w).drewN _⟩
set_option maxHeartbeats 8000000 in
set_option maxRecDepth 100000 in
theorem loan_Pay.in_gone (b : Nat) (id pr it su fe ppm : Int) (sd : Bool) (st cl en le fa ct : Int) (w : World) (h : w.heap[b]? = some (.cells (loanC id pr it su fe ppm sd st cl en le fa ct) 43 (0, 0))) (p q r : Nat) (pf pi pp : Int) (hp : w.heap[p]? = some (.cells #[.int .i64 pf] 2 (0, 0))) (hq : w.heap[q]? = some (.cells #[.int .i64 pi] 2 (0, 0))) (hr : w.heap[r]? = some (.cells #[.int .i64 pp] 2 (0, 0))) (hn : 0 ≤ pf ∧ 0 ≤ pi ∧ 0 ≤ pp) (hc : cl ≠ 0) :
    Calls Try.prog 45 #[.pointer (some ⟨b, 0, none⟩), .pointer (some ⟨p, 0, none⟩), .pointer (some ⟨q, 0, none⟩), .pointer (some ⟨r, 0, none⟩)] w fun e w' => e = .panicked [{ v := .iface 27 (.int .i64 61), recovered := false }] ∧ loan_does.Near b b w w' := by
  have a1 : w.cell? ⟨p, 0, none⟩ = some (.int .i64 pf) := (blk_cell hp 0).trans rfl
  have a2 : w.cell? ⟨q, 0, none⟩ = some (.int .i64 pi) := (blk_cell hq 0).trans rfl
  have a3 : w.cell? ⟨r, 0, none⟩ = some (.int .i64 pp) := (blk_cell hr 0).trans rfl
  have l1 : w.cell? ⟨b, 1, none⟩ = some (.int .i64 pr) := (blk_cell h 1).trans rfl
  have l2 : w.cell? ⟨b, 2, none⟩ = some (.int .i64 it) := (blk_cell h 2).trans rfl
  have l4 : w.cell? ⟨b, 4, none⟩ = some (.int .i64 fe) := (blk_cell h 4).trans rfl
  have B := Aside0.mk h
  have P := Aside0.mk hp
  have Q := Aside0.mk hq
  have R := Aside0.mk hr
  clear h hp hq hr
  have d0 : decide (pf < 0) = false := decide_eq_false (by omega)
  have d1 : decide (pi < 0) = false := decide_eq_false (by omega)
  have d2 : decide (pp < 0) = false := decide_eq_false (by omega)
  have HC := Aside0.mk hc
  clear hn hc
  go_enter Try.func45, Try.ntmps45
  go_wp2_with (first | (go_at_call 46; (with_reducible refine (loan_does.stop_ok 1 false _ (.inr rfl)).mono ?_); rintro e w' ⟨rfl, ⟨nd1, rfl⟩⟩) | (go_at_call 47; (with_reducible refine (loan_does.gone_bad b id pr it su fe ppm sd st cl en le fa ct _ (blk_drewN B.out _) HC.out).mono ?_); rintro e w' ⟨rfl, ⟨nd, rfl⟩⟩))
  exact ⟨rfl, rfl, (loan_does.Near.refl b b w).drewN _⟩
set_option maxHeartbeats 8000000 in
set_option maxRecDepth 100000 in
theorem loan_Pay.in_r1 (b : Nat) (id pr it su fe ppm : Int) (sd : Bool) (st cl en le fa ct : Int) (w : World) (h : w.heap[b]? = some (.cells (loanC id pr it su fe ppm sd st cl en le fa ct) 43 (0, 0))) (p q r : Nat) (pf pi pp : Int) (hp : w.heap[p]? = some (.cells #[.int .i64 pf] 2 (0, 0))) (hq : w.heap[q]? = some (.cells #[.int .i64 pi] 2 (0, 0))) (hr : w.heap[r]? = some (.cells #[.int .i64 pp] 2 (0, 0))) (hn : 0 ≤ pf ∧ 0 ≤ pi ∧ 0 ≤ pp) (hc : cl = 0) (hx : fe < pf) :
    Calls Try.prog 45 #[.pointer (some ⟨b, 0, none⟩), .pointer (some ⟨p, 0, none⟩), .pointer (some ⟨q, 0, none⟩), .pointer (some ⟨r, 0, none⟩)] w fun e w' => e = .panicked [{ v := .iface 27 (.int .i64 14), recovered := false }] ∧ loan_does.Near b b w w' := by
  subst hc
  have a1 : w.cell? ⟨p, 0, none⟩ = some (.int .i64 pf) := (blk_cell hp 0).trans rfl
  have a2 : w.cell? ⟨q, 0, none⟩ = some (.int .i64 pi) := (blk_cell hq 0).trans rfl
  have a3 : w.cell? ⟨r, 0, none⟩ = some (.int .i64 pp) := (blk_cell hr 0).trans rfl
  have l1 : w.cell? ⟨b, 1, none⟩ = some (.int .i64 pr) := (blk_cell h 1).trans rfl
  have l2 : w.cell? ⟨b, 2, none⟩ = some (.int .i64 it) := (blk_cell h 2).trans rfl
  have l4 : w.cell? ⟨b, 4, none⟩ = some (.int .i64 fe) := (blk_cell h 4).trans rfl
  have B := Aside0.mk h
  have P := Aside0.mk hp
  have Q := Aside0.mk hq
  have R := Aside0.mk hr
  clear h hp hq hr
  have d0 : decide (pf < 0) = false := decide_eq_false (by omega)
  have d1 : decide (pi < 0) = false := decide_eq_false (by omega)
  have d2 : decide (pp < 0) = false := decide_eq_false (by omega)
  have e0 : decide (fe < pf) = true := decide_eq_true (by omega)
  clear hn hx
  go_enter Try.func45, Try.ntmps45
  go_wp2_with (first | (go_at_call 46; (with_reducible refine (loan_does.stop_ok 1 false _ (.inr rfl)).mono ?_); rintro e w' ⟨rfl, ⟨nd1, rfl⟩⟩) | (go_at_call 47; (with_reducible refine (loan_does.gone_ok b id pr it su fe ppm sd st en le fa ct _ (blk_drewN B.out _)).mono ?_); rintro e w' ⟨rfl, ⟨nd, rfl⟩⟩))
  refine wp_region_held_drew (S := fun W => W.cell? ⟨p, 0, none⟩ = some (.int .i64 pf) ∧ W.cell? ⟨q, 0, none⟩ = some (.int .i64 pi) ∧ W.cell? ⟨r, 0, none⟩ = some (.int .i64 pp) ∧ W.cell? ⟨b, 4, none⟩ = some (.int .i64 fe) ∧ W.cell? ⟨b, 2, none⟩ = some (.int .i64 it) ∧ W.cell? ⟨b, 1, none⟩ = some (.int .i64 pr)) (by kernel_rfl) ⟨a1, a2, a3, l4, l2, l1⟩ (fun hHeld => ?_)
  first | refine loan_does.tg 0 ?_ | refine loan_does.tk 0 ?_
  first | refine loan_does.tg 1 ?_ | refine loan_does.tk 1 ?_
  first | refine loan_does.tg 2 ?_ | refine loan_does.tk 2 ?_
  try simp only [Act.put, getElem_toArray, getElem_cons_zero, getElem_cons_succ, setIfInBounds_toArray, set_cons_zero, set_cons_succ]
  first | refine loan_does.tg 3 ?_ | refine loan_does.tk 3 ?_
  first | refine loan_does.tg 4 ?_ | refine loan_does.tk 4 ?_
  first | refine loan_does.tg 5 ?_ | refine loan_does.tk 5 ?_
  try simp only [Act.put, getElem_toArray, getElem_cons_zero, getElem_cons_succ, setIfInBounds_toArray, set_cons_zero, set_cons_succ]
  first | refine loan_does.tg 6 ?_ | refine loan_does.tk 6 ?_
  first | refine loan_does.tg 7 ?_ | refine loan_does.tk 7 ?_
  first | refine loan_does.tg 8 ?_ | refine loan_does.tk 8 ?_
  try simp only [Act.put, getElem_toArray, getElem_cons_zero, getElem_cons_succ, setIfInBounds_toArray, set_cons_zero, set_cons_succ]
  first | refine loan_does.tg 9 ?_ | refine loan_does.tk 9 ?_
  first | refine loan_does.tg 10 ?_ | refine loan_does.tk 10 ?_
  first | refine loan_does.tg 11 ?_ | refine loan_does.tk 11 ?_
  try simp only [Act.put, getElem_toArray, getElem_cons_zero, getElem_cons_succ, setIfInBounds_toArray, set_cons_zero, set_cons_succ]
  first | refine loan_does.tg 12 ?_ | refine loan_does.tk 12 ?_
  first | refine loan_does.tg 13 ?_ | refine loan_does.tk 13 ?_
  first | refine loan_does.tg 14 ?_ | refine loan_does.tk 14 ?_
  try simp only [Act.put, getElem_toArray, getElem_cons_zero, getElem_cons_succ, setIfInBounds_toArray, set_cons_zero, set_cons_succ]
  first | refine loan_does.tg 15 ?_ | refine loan_does.tk 15 ?_
  first | refine loan_does.tg 16 ?_ | refine loan_does.tk 16 ?_
  first | refine loan_does.tg 17 ?_ | refine loan_does.tk 17 ?_
  try simp only [Act.put, getElem_toArray, getElem_cons_zero, getElem_cons_succ, setIfInBounds_toArray, set_cons_zero, set_cons_succ]
  first | refine loan_does.tg 18 ?_ | refine loan_does.tk 18 ?_
  first | refine loan_does.tg 19 ?_ | refine loan_does.tk 19 ?_
  first | refine loan_does.tg 20 ?_ | refine loan_does.tk 20 ?_
  try simp only [Act.put, getElem_toArray, getElem_cons_zero, getElem_cons_succ, setIfInBounds_toArray, set_cons_zero, set_cons_succ]
  first | refine loan_does.tg 21 ?_ | refine loan_does.tk 21 ?_
  first | refine loan_does.tg 22 ?_ | refine loan_does.tk 22 ?_
  try simp only [Act.put, getElem_toArray, getElem_cons_zero, getElem_cons_succ, setIfInBounds_toArray, set_cons_zero, set_cons_succ]
  refine wpAnyH_ready (rs := [23]) (by kernel_rfl) (by simp) ?_
  refine AllReadyH.cons rfl (fun K hK => ?_) AllReadyH.nil
  go_simp
  go_wp2_with (go_at_call 46; (with_reducible refine (loan_does.stop_bad 14 _ (by decide)).mono ?_); rintro e w' ⟨rfl, ⟨nd3, rfl⟩⟩)
  exact ⟨rfl, rfl, (loan_does.Near.refl b b w).drewN _⟩
set_option maxHeartbeats 8000000 in
set_option maxRecDepth 100000 in
theorem loan_Pay.in_r2 (b : Nat) (id pr it su fe ppm : Int) (sd : Bool) (st cl en le fa ct : Int) (w : World) (h : w.heap[b]? = some (.cells (loanC id pr it su fe ppm sd st cl en le fa ct) 43 (0, 0))) (p q r : Nat) (pf pi pp : Int) (hp : w.heap[p]? = some (.cells #[.int .i64 pf] 2 (0, 0))) (hq : w.heap[q]? = some (.cells #[.int .i64 pi] 2 (0, 0))) (hr : w.heap[r]? = some (.cells #[.int .i64 pp] 2 (0, 0))) (hn : 0 ≤ pf ∧ 0 ≤ pi ∧ 0 ≤ pp) (hc : cl = 0) (n : Int) (h1 : accrue_Whole.f it = some n) (hx : pf ≤ fe ∧ n < pi) :
    Calls Try.prog 45 #[.pointer (some ⟨b, 0, none⟩), .pointer (some ⟨p, 0, none⟩), .pointer (some ⟨q, 0, none⟩), .pointer (some ⟨r, 0, none⟩)] w fun e w' => e = .panicked [{ v := .iface 27 (.int .i64 14), recovered := false }] ∧ loan_does.Near b b w w' := by
  subst hc
  have a1 : w.cell? ⟨p, 0, none⟩ = some (.int .i64 pf) := (blk_cell hp 0).trans rfl
  have a2 : w.cell? ⟨q, 0, none⟩ = some (.int .i64 pi) := (blk_cell hq 0).trans rfl
  have a3 : w.cell? ⟨r, 0, none⟩ = some (.int .i64 pp) := (blk_cell hr 0).trans rfl
  have l1 : w.cell? ⟨b, 1, none⟩ = some (.int .i64 pr) := (blk_cell h 1).trans rfl
  have l2 : w.cell? ⟨b, 2, none⟩ = some (.int .i64 it) := (blk_cell h 2).trans rfl
  have l4 : w.cell? ⟨b, 4, none⟩ = some (.int .i64 fe) := (blk_cell h 4).trans rfl
  have B := Aside0.mk h
  have P := Aside0.mk hp
  have Q := Aside0.mk hq
  have R := Aside0.mk hr
  clear h hp hq hr
  have d0 : decide (pf < 0) = false := decide_eq_false (by omega)
  have d1 : decide (pi < 0) = false := decide_eq_false (by omega)
  have d2 : decide (pp < 0) = false := decide_eq_false (by omega)
  have e0 : decide (fe < pf) = false := decide_eq_false (by omega)
  have e1 : decide (n < pi) = true := decide_eq_true (by omega)
  have H1 := Aside0.mk h1
  clear h1
  clear hn hx
  go_enter Try.func45, Try.ntmps45
  go_wp2_with (first | (go_at_call 46; (with_reducible refine (loan_does.stop_ok 1 false _ (.inr rfl)).mono ?_); rintro e w' ⟨rfl, ⟨nd1, rfl⟩⟩) | (go_at_call 47; (with_reducible refine (loan_does.gone_ok b id pr it su fe ppm sd st en le fa ct _ (blk_drewN B.out _)).mono ?_); rintro e w' ⟨rfl, ⟨nd, rfl⟩⟩))
  refine wp_region_held_drew (S := fun W => W.cell? ⟨p, 0, none⟩ = some (.int .i64 pf) ∧ W.cell? ⟨q, 0, none⟩ = some (.int .i64 pi) ∧ W.cell? ⟨r, 0, none⟩ = some (.int .i64 pp) ∧ W.cell? ⟨b, 4, none⟩ = some (.int .i64 fe) ∧ W.cell? ⟨b, 2, none⟩ = some (.int .i64 it) ∧ W.cell? ⟨b, 1, none⟩ = some (.int .i64 pr)) (by kernel_rfl) ⟨a1, a2, a3, l4, l2, l1⟩ (fun hHeld => ?_)
  first | refine loan_does.tg 0 ?_ | refine loan_does.tk 0 ?_
  first | refine loan_does.tg 1 ?_ | refine loan_does.tk 1 ?_
  first | refine loan_does.tg 2 ?_ | refine loan_does.tk 2 ?_
  try simp only [Act.put, getElem_toArray, getElem_cons_zero, getElem_cons_succ, setIfInBounds_toArray, set_cons_zero, set_cons_succ]
  first | refine loan_does.tg 3 ?_ | refine loan_does.tk 3 ?_
  first | refine loan_does.tg 4 ?_ | refine loan_does.tk 4 ?_
  first | refine loan_does.tg 5 ?_ | refine loan_does.tk 5 ?_
  try simp only [Act.put, getElem_toArray, getElem_cons_zero, getElem_cons_succ, setIfInBounds_toArray, set_cons_zero, set_cons_succ]
  first | refine loan_does.tg 6 ?_ | refine loan_does.tk 6 ?_
  first | refine loan_does.tg 7 ?_ | refine loan_does.tk 7 ?_
  first | refine loan_does.tg 8 ?_ | refine loan_does.tk 8 ?_
  try simp only [Act.put, getElem_toArray, getElem_cons_zero, getElem_cons_succ, setIfInBounds_toArray, set_cons_zero, set_cons_succ]
  first | refine loan_does.tg 9 ?_ | refine loan_does.tk 9 ?_
  first | refine loan_does.tg 10 ?_ | refine loan_does.tk 10 ?_
  first | refine loan_does.tg 11 ?_ | refine loan_does.tk 11 ?_
  try simp only [Act.put, getElem_toArray, getElem_cons_zero, getElem_cons_succ, setIfInBounds_toArray, set_cons_zero, set_cons_succ]
  refine wpAnyH_ready (rs := [12]) (by kernel_rfl) (by simp) ?_
  refine AllReadyH.cons rfl (fun K hK => ?_) AllReadyH.nil
  go_simp
  go_wp2_with (go_at_call 25; (refine (accrue_Whole.calls _ _ _ H1.out).mono ?_); rintro e w' ⟨rfl, ⟨nd2, rfl⟩⟩)
  refine hK.out _ _ ⟨a1, a2, a3, l4, l2, l1⟩ (fun hHeld1 => ?_)
  clear hK K
  try simp only [Act.put, getElem_toArray, getElem_cons_zero, getElem_cons_succ, setIfInBounds_toArray, set_cons_zero, set_cons_succ]
  first | refine loan_does.tg 13 ?_ | refine loan_does.tk 13 ?_
  first | refine loan_does.tg 14 ?_ | refine loan_does.tk 14 ?_
  first | refine loan_does.tg 15 ?_ | refine loan_does.tk 15 ?_
  try simp only [Act.put, getElem_toArray, getElem_cons_zero, getElem_cons_succ, setIfInBounds_toArray, set_cons_zero, set_cons_succ]
  first | refine loan_does.tg 16 ?_ | refine loan_does.tk 16 ?_
  first | refine loan_does.tg 17 ?_ | refine loan_does.tk 17 ?_
  first | refine loan_does.tg 18 ?_ | refine loan_does.tk 18 ?_
  try simp only [Act.put, getElem_toArray, getElem_cons_zero, getElem_cons_succ, setIfInBounds_toArray, set_cons_zero, set_cons_succ]
  first | refine loan_does.tg 19 ?_ | refine loan_does.tk 19 ?_
  first | refine loan_does.tg 20 ?_ | refine loan_does.tk 20 ?_
  first | refine loan_does.tg 21 ?_ | refine loan_does.tk 21 ?_
  try simp only [Act.put, getElem_toArray, getElem_cons_zero, getElem_cons_succ, setIfInBounds_toArray, set_cons_zero, set_cons_succ]
  first | refine loan_does.tg 22 ?_ | refine loan_does.tk 22 ?_
  try simp only [Act.put, getElem_toArray, getElem_cons_zero, getElem_cons_succ, setIfInBounds_toArray, set_cons_zero, set_cons_succ]
  refine wpAnyH_ready (rs := [23]) (by kernel_rfl) (by simp) ?_
  refine AllReadyH.cons rfl (fun K hK => ?_) AllReadyH.nil
  go_simp
  go_wp2_with (go_at_call 46; (with_reducible refine (loan_does.stop_bad 14 _ (by decide)).mono ?_); rintro e w' ⟨rfl, ⟨nd3, rfl⟩⟩)
  exact ⟨rfl, rfl, (loan_does.Near.refl b b w).drewN _⟩
set_option maxHeartbeats 8000000 in
set_option maxRecDepth 100000 in
theorem loan_Pay.in_r3 (b : Nat) (id pr it su fe ppm : Int) (sd : Bool) (st cl en le fa ct : Int) (w : World) (h : w.heap[b]? = some (.cells (loanC id pr it su fe ppm sd st cl en le fa ct) 43 (0, 0))) (p q r : Nat) (pf pi pp : Int) (hp : w.heap[p]? = some (.cells #[.int .i64 pf] 2 (0, 0))) (hq : w.heap[q]? = some (.cells #[.int .i64 pi] 2 (0, 0))) (hr : w.heap[r]? = some (.cells #[.int .i64 pp] 2 (0, 0))) (hn : 0 ≤ pf ∧ 0 ≤ pi ∧ 0 ≤ pp) (hc : cl = 0) (n : Int) (h1 : accrue_Whole.f it = some n) (hx : pf ≤ fe ∧ pi ≤ n ∧ pr < pp) :
    Calls Try.prog 45 #[.pointer (some ⟨b, 0, none⟩), .pointer (some ⟨p, 0, none⟩), .pointer (some ⟨q, 0, none⟩), .pointer (some ⟨r, 0, none⟩)] w fun e w' => e = .panicked [{ v := .iface 27 (.int .i64 14), recovered := false }] ∧ loan_does.Near b b w w' := by
  subst hc
  have a1 : w.cell? ⟨p, 0, none⟩ = some (.int .i64 pf) := (blk_cell hp 0).trans rfl
  have a2 : w.cell? ⟨q, 0, none⟩ = some (.int .i64 pi) := (blk_cell hq 0).trans rfl
  have a3 : w.cell? ⟨r, 0, none⟩ = some (.int .i64 pp) := (blk_cell hr 0).trans rfl
  have l1 : w.cell? ⟨b, 1, none⟩ = some (.int .i64 pr) := (blk_cell h 1).trans rfl
  have l2 : w.cell? ⟨b, 2, none⟩ = some (.int .i64 it) := (blk_cell h 2).trans rfl
  have l4 : w.cell? ⟨b, 4, none⟩ = some (.int .i64 fe) := (blk_cell h 4).trans rfl
  have B := Aside0.mk h
  have P := Aside0.mk hp
  have Q := Aside0.mk hq
  have R := Aside0.mk hr
  clear h hp hq hr
  have d0 : decide (pf < 0) = false := decide_eq_false (by omega)
  have d1 : decide (pi < 0) = false := decide_eq_false (by omega)
  have d2 : decide (pp < 0) = false := decide_eq_false (by omega)
  have e0 : decide (fe < pf) = false := decide_eq_false (by omega)
  have e1 : decide (n < pi) = false := decide_eq_false (by omega)
  have e2 : decide (pr < pp) = true := decide_eq_true (by omega)
  have H1 := Aside0.mk h1
  clear h1
  clear hn hx
  go_enter Try.func45, Try.ntmps45
  go_wp2_with (first | (go_at_call 46; (with_reducible refine (loan_does.stop_ok 1 false _ (.inr rfl)).mono ?_); rintro e w' ⟨rfl, ⟨nd1, rfl⟩⟩) | (go_at_call 47; (with_reducible refine (loan_does.gone_ok b id pr it su fe ppm sd st en le fa ct _ (blk_drewN B.out _)).mono ?_); rintro e w' ⟨rfl, ⟨nd, rfl⟩⟩))
  refine wp_region_held_drew (S := fun W => W.cell? ⟨p, 0, none⟩ = some (.int .i64 pf) ∧ W.cell? ⟨q, 0, none⟩ = some (.int .i64 pi) ∧ W.cell? ⟨r, 0, none⟩ = some (.int .i64 pp) ∧ W.cell? ⟨b, 4, none⟩ = some (.int .i64 fe) ∧ W.cell? ⟨b, 2, none⟩ = some (.int .i64 it) ∧ W.cell? ⟨b, 1, none⟩ = some (.int .i64 pr)) (by kernel_rfl) ⟨a1, a2, a3, l4, l2, l1⟩ (fun hHeld => ?_)
  first | refine loan_does.tg 0 ?_ | refine loan_does.tk 0 ?_
  first | refine loan_does.tg 1 ?_ | refine loan_does.tk 1 ?_
  first | refine loan_does.tg 2 ?_ | refine loan_does.tk 2 ?_
  try simp only [Act.put, getElem_toArray, getElem_cons_zero, getElem_cons_succ, setIfInBounds_toArray, set_cons_zero, set_cons_succ]
  first | refine loan_does.tg 3 ?_ | refine loan_does.tk 3 ?_
  first | refine loan_does.tg 4 ?_ | refine loan_does.tk 4 ?_
  first | refine loan_does.tg 5 ?_ | refine loan_does.tk 5 ?_
  try simp only [Act.put, getElem_toArray, getElem_cons_zero, getElem_cons_succ, setIfInBounds_toArray, set_cons_zero, set_cons_succ]
  first | refine loan_does.tg 6 ?_ | refine loan_does.tk 6 ?_
  first | refine loan_does.tg 7 ?_ | refine loan_does.tk 7 ?_
  first | refine loan_does.tg 8 ?_ | refine loan_does.tk 8 ?_
  try simp only [Act.put, getElem_toArray, getElem_cons_zero, getElem_cons_succ, setIfInBounds_toArray, set_cons_zero, set_cons_succ]
  first | refine loan_does.tg 9 ?_ | refine loan_does.tk 9 ?_
  first | refine loan_does.tg 10 ?_ | refine loan_does.tk 10 ?_
  first | refine loan_does.tg 11 ?_ | refine loan_does.tk 11 ?_
  try simp only [Act.put, getElem_toArray, getElem_cons_zero, getElem_cons_succ, setIfInBounds_toArray, set_cons_zero, set_cons_succ]
  refine wpAnyH_ready (rs := [12]) (by kernel_rfl) (by simp) ?_
  refine AllReadyH.cons rfl (fun K hK => ?_) AllReadyH.nil
  go_simp
  go_wp2_with (go_at_call 25; (refine (accrue_Whole.calls _ _ _ H1.out).mono ?_); rintro e w' ⟨rfl, ⟨nd2, rfl⟩⟩)
  refine hK.out _ _ ⟨a1, a2, a3, l4, l2, l1⟩ (fun hHeld1 => ?_)
  clear hK K
  try simp only [Act.put, getElem_toArray, getElem_cons_zero, getElem_cons_succ, setIfInBounds_toArray, set_cons_zero, set_cons_succ]
  first | refine loan_does.tg 13 ?_ | refine loan_does.tk 13 ?_
  first | refine loan_does.tg 14 ?_ | refine loan_does.tk 14 ?_
  first | refine loan_does.tg 15 ?_ | refine loan_does.tk 15 ?_
  try simp only [Act.put, getElem_toArray, getElem_cons_zero, getElem_cons_succ, setIfInBounds_toArray, set_cons_zero, set_cons_succ]
  first | refine loan_does.tg 16 ?_ | refine loan_does.tk 16 ?_
  first | refine loan_does.tg 17 ?_ | refine loan_does.tk 17 ?_
  first | refine loan_does.tg 18 ?_ | refine loan_does.tk 18 ?_
  try simp only [Act.put, getElem_toArray, getElem_cons_zero, getElem_cons_succ, setIfInBounds_toArray, set_cons_zero, set_cons_succ]
  first | refine loan_does.tg 19 ?_ | refine loan_does.tk 19 ?_
  first | refine loan_does.tg 20 ?_ | refine loan_does.tk 20 ?_
  first | refine loan_does.tg 21 ?_ | refine loan_does.tk 21 ?_
  try simp only [Act.put, getElem_toArray, getElem_cons_zero, getElem_cons_succ, setIfInBounds_toArray, set_cons_zero, set_cons_succ]
  first | refine loan_does.tg 22 ?_ | refine loan_does.tk 22 ?_
  try simp only [Act.put, getElem_toArray, getElem_cons_zero, getElem_cons_succ, setIfInBounds_toArray, set_cons_zero, set_cons_succ]
  refine wpAnyH_ready (rs := [23]) (by kernel_rfl) (by simp) ?_
  refine AllReadyH.cons rfl (fun K hK => ?_) AllReadyH.nil
  go_simp
  go_wp2_with (go_at_call 46; (with_reducible refine (loan_does.stop_bad 14 _ (by decide)).mono ?_); rintro e w' ⟨rfl, ⟨nd3, rfl⟩⟩)
  exact ⟨rfl, rfl, (loan_does.Near.refl b b w).drewN _⟩
end Go.Proofs.Yteemomncbcpdjaa.P
