/- A part of a proof. -/
import Derived.Test.YteemomncbcpdjaaZaa
import Derived.Test.YteemomncbcpdjaaPx3
import Derived.Test.YteemomncbcpdjaaPx4
import Derived.Test.YteemomncbcpdjaaPx5
import Derived.Test.YteemomncbcpdjaaPx7
import Derived.Test.YteemomncbcpdjaaZlg
import Derived.Deep.RegionHeld3
import Derived.Deep.RegionWith
import Derived.BigRegion
import Derived.Laws.CopyOwn
namespace Go.Proofs.Yteemomncbcpdjaa.P
open Go.RowKit W.PrintWords W.PrintLast W.PrintMore
attribute [local go_sem] qZs qZq qZ5 qZ6 qZk qZl qZt qZp
open List (getElem_toArray getElem_cons_zero getElem_cons_succ setIfInBounds_toArray set_cons_zero set_cons_succ)
set_option linter.unusedVariables false
set_option linter.unusedSimpArgs false
set_option linter.unnecessarySimpa false
set_option maxHeartbeats 8000000 in
set_option maxRecDepth 100000 in
theorem qZr.in_n1 (b : Nat) (id pr it su fe ppm : Int) (sd : Bool) (st cl en le fa ct : Int) (w : World) (h : w.heap[b]? = some (.cells (loanC id pr it su fe ppm sd st cl en le fa ct) 43 (0, 0))) (p q r : Nat) (pf pi pp : Int) (hp : w.heap[p]? = some (.cells #[.int .i64 pf] 2 (0, 0))) (hq : w.heap[q]? = some (.cells #[.int .i64 pi] 2 (0, 0))) (hr : w.heap[r]? = some (.cells #[.int .i64 pp] 2 (0, 0))) (hn : pf < 0) :
    Calls Try.prog 45 #[.pointer (some ⟨b, 0, none⟩), .pointer (some ⟨p, 0, none⟩), .pointer (some ⟨q, 0, none⟩), .pointer (some ⟨r, 0, none⟩)] w fun e w' => e = .panicked [{ v := .iface 27 (.int .i64 1), recovered := false }] ∧ qQb.Near b b w w' := by
  have a1 : w.cell? ⟨p, 0, none⟩ = some (.int .i64 pf) := (qQa hp 0).trans rfl
  have a2 : w.cell? ⟨q, 0, none⟩ = some (.int .i64 pi) := (qQa hq 0).trans rfl
  have a3 : w.cell? ⟨r, 0, none⟩ = some (.int .i64 pp) := (qQa hr 0).trans rfl
  have l1 : w.cell? ⟨b, 1, none⟩ = some (.int .i64 pr) := (qQa h 1).trans rfl
  have l2 : w.cell? ⟨b, 2, none⟩ = some (.int .i64 it) := (qQa h 2).trans rfl
  have l4 : w.cell? ⟨b, 4, none⟩ = some (.int .i64 fe) := (qQa h 4).trans rfl
  have B := am h
  have P := am hp
  have Q := am hq
  have R := am hr
  clear h hp hq hr
  have d0 : decide (pf < 0) = true := decide_eq_true (by omega)
  clear hn
  go_enter Try.func45, Try.ntmps45
  go_wp2_with (go_at_call 46; (with_reducible refine (qQb.qXh 1 _ (by decide)).mono ?_); rintro e w' ⟨rfl, ⟨nd, rfl⟩⟩)
  exact ⟨rfl, rfl, (qQb.Near.refl b b w).drewN _⟩
set_option maxHeartbeats 8000000 in
set_option maxRecDepth 100000 in
theorem qZr.in_n2 (b : Nat) (id pr it su fe ppm : Int) (sd : Bool) (st cl en le fa ct : Int) (w : World) (h : w.heap[b]? = some (.cells (loanC id pr it su fe ppm sd st cl en le fa ct) 43 (0, 0))) (p q r : Nat) (pf pi pp : Int) (hp : w.heap[p]? = some (.cells #[.int .i64 pf] 2 (0, 0))) (hq : w.heap[q]? = some (.cells #[.int .i64 pi] 2 (0, 0))) (hr : w.heap[r]? = some (.cells #[.int .i64 pp] 2 (0, 0))) (hn : 0 ≤ pf ∧ pi < 0) :
    Calls Try.prog 45 #[.pointer (some ⟨b, 0, none⟩), .pointer (some ⟨p, 0, none⟩), .pointer (some ⟨q, 0, none⟩), .pointer (some ⟨r, 0, none⟩)] w fun e w' => e = .panicked [{ v := .iface 27 (.int .i64 1), recovered := false }] ∧ qQb.Near b b w w' := by
  have a1 : w.cell? ⟨p, 0, none⟩ = some (.int .i64 pf) := (qQa hp 0).trans rfl
  have a2 : w.cell? ⟨q, 0, none⟩ = some (.int .i64 pi) := (qQa hq 0).trans rfl
  have a3 : w.cell? ⟨r, 0, none⟩ = some (.int .i64 pp) := (qQa hr 0).trans rfl
  have l1 : w.cell? ⟨b, 1, none⟩ = some (.int .i64 pr) := (qQa h 1).trans rfl
  have l2 : w.cell? ⟨b, 2, none⟩ = some (.int .i64 it) := (qQa h 2).trans rfl
  have l4 : w.cell? ⟨b, 4, none⟩ = some (.int .i64 fe) := (qQa h 4).trans rfl
  have B := am h
  have P := am hp
  have Q := am hq
  have R := am hr
  clear h hp hq hr
  have d0 : decide (pf < 0) = false := decide_eq_false (by omega)
  have d1 : decide (pi < 0) = true := decide_eq_true (by omega)
  clear hn
  go_enter Try.func45, Try.ntmps45
  go_wp2_with (go_at_call 46; (with_reducible refine (qQb.qXh 1 _ (by decide)).mono ?_); rintro e w' ⟨rfl, ⟨nd, rfl⟩⟩)
  exact ⟨rfl, rfl, (qQb.Near.refl b b w).drewN _⟩
set_option maxHeartbeats 8000000 in
set_option maxRecDepth 100000 in
theorem qZr.in_n3 (b : Nat) (id pr it su fe ppm : Int) (sd : Bool) (st cl en le fa ct : Int) (w : World) (h : w.heap[b]? = some (.cells (loanC id pr it su fe ppm sd st cl en le fa ct) 43 (0, 0))) (p q r : Nat) (pf pi pp : Int) (hp : w.heap[p]? = some (.cells #[.int .i64 pf] 2 (0, 0))) (hq : w.heap[q]? = some (.cells #[.int .i64 pi] 2 (0, 0))) (hr : w.heap[r]? = some (.cells #[.int .i64 pp] 2 (0, 0))) (hn : 0 ≤ pf ∧ 0 ≤ pi ∧ pp < 0) :
    Calls Try.prog 45 #[.pointer (some ⟨b, 0, none⟩), .pointer (some ⟨p, 0, none⟩), .pointer (some ⟨q, 0, none⟩), .pointer (some ⟨r, 0, none⟩)] w fun e w' => e = .panicked [{ v := .iface 27 (.int .i64 1), recovered := false }] ∧ qQb.Near b b w w' := by
  have a1 : w.cell? ⟨p, 0, none⟩ = some (.int .i64 pf) := (qQa hp 0).trans rfl
  have a2 : w.cell? ⟨q, 0, none⟩ = some (.int .i64 pi) := (qQa hq 0).trans rfl
  have a3 : w.cell? ⟨r, 0, none⟩ = some (.int .i64 pp) := (qQa hr 0).trans rfl
  have l1 : w.cell? ⟨b, 1, none⟩ = some (.int .i64 pr) := (qQa h 1).trans rfl
  have l2 : w.cell? ⟨b, 2, none⟩ = some (.int .i64 it) := (qQa h 2).trans rfl
  have l4 : w.cell? ⟨b, 4, none⟩ = some (.int .i64 fe) := (qQa h 4).trans rfl
  have B := am h
  have P := am hp
  have Q := am hq
  have R := am hr
  clear h hp hq hr
  have d0 : decide (pf < 0) = false := decide_eq_false (by omega)
  have d1 : decide (pi < 0) = false := decide_eq_false (by omega)
  have d2 : decide (pp < 0) = true := decide_eq_true (by omega)
  clear hn
  go_enter Try.func45, Try.ntmps45
  go_wp2_with (go_at_call 46; (with_reducible refine (qQb.qXh 1 _ (by decide)).mono ?_); rintro e w' ⟨rfl, ⟨nd, rfl⟩⟩)
  exact ⟨rfl, rfl, (qQb.Near.refl b b w).drewN _⟩
set_option maxHeartbeats 8000000 in
set_option maxRecDepth 100000 in
theorem qZr.zZl (b : Nat) (id pr it su fe ppm : Int) (sd : Bool) (st cl en le fa ct : Int) (w : World) (h : w.heap[b]? = some (.cells (loanC id pr it su fe ppm sd st cl en le fa ct) 43 (0, 0))) (p q r : Nat) (pf pi pp : Int) (hp : w.heap[p]? = some (.cells #[.int .i64 pf] 2 (0, 0))) (hq : w.heap[q]? = some (.cells #[.int .i64 pi] 2 (0, 0))) (hr : w.heap[r]? = some (.cells #[.int .i64 pp] 2 (0, 0))) (hn : 0 ≤ pf ∧ 0 ≤ pi ∧ 0 ≤ pp) (hc : cl ≠ 0) :
    Calls Try.prog 45 #[.pointer (some ⟨b, 0, none⟩), .pointer (some ⟨p, 0, none⟩), .pointer (some ⟨q, 0, none⟩), .pointer (some ⟨r, 0, none⟩)] w fun e w' => e = .panicked [{ v := .iface 27 (.int .i64 61), recovered := false }] ∧ qQb.Near b b w w' := by
  have a1 : w.cell? ⟨p, 0, none⟩ = some (.int .i64 pf) := (qQa hp 0).trans rfl
  have a2 : w.cell? ⟨q, 0, none⟩ = some (.int .i64 pi) := (qQa hq 0).trans rfl
  have a3 : w.cell? ⟨r, 0, none⟩ = some (.int .i64 pp) := (qQa hr 0).trans rfl
  have l1 : w.cell? ⟨b, 1, none⟩ = some (.int .i64 pr) := (qQa h 1).trans rfl
  have l2 : w.cell? ⟨b, 2, none⟩ = some (.int .i64 it) := (qQa h 2).trans rfl
  have l4 : w.cell? ⟨b, 4, none⟩ = some (.int .i64 fe) := (qQa h 4).trans rfl
  have B := am h
  have P := am hp
  have Q := am hq
  have R := am hr
  clear h hp hq hr
  have d0 : decide (pf < 0) = false := decide_eq_false (by omega)
  have d1 : decide (pi < 0) = false := decide_eq_false (by omega)
  have d2 : decide (pp < 0) = false := decide_eq_false (by omega)
  have HC := am hc
  clear hn hc
  go_enter Try.func45, Try.ntmps45
  go_wp2_with (first | (go_at_call 46; (with_reducible refine (qQb.qY0 1 false _ (.inr rfl)).mono ?_); rintro e w' ⟨rfl, ⟨nd1, rfl⟩⟩) | (go_at_call 47; (with_reducible refine (qQb.zQg b id pr it su fe ppm sd st cl en le fa ct _ (qQm B.out _) HC.out).mono ?_); rintro e w' ⟨rfl, ⟨nd, rfl⟩⟩))
  exact ⟨rfl, rfl, (qQb.Near.refl b b w).drewN _⟩
set_option maxHeartbeats 8000000 in
set_option maxRecDepth 100000 in
theorem qZr.in_r1 (b : Nat) (id pr it su fe ppm : Int) (sd : Bool) (st cl en le fa ct : Int) (w : World) (h : w.heap[b]? = some (.cells (loanC id pr it su fe ppm sd st cl en le fa ct) 43 (0, 0))) (p q r : Nat) (pf pi pp : Int) (hp : w.heap[p]? = some (.cells #[.int .i64 pf] 2 (0, 0))) (hq : w.heap[q]? = some (.cells #[.int .i64 pi] 2 (0, 0))) (hr : w.heap[r]? = some (.cells #[.int .i64 pp] 2 (0, 0))) (hn : 0 ≤ pf ∧ 0 ≤ pi ∧ 0 ≤ pp) (hc : cl = 0) (hx : fe < pf) :
    Calls Try.prog 45 #[.pointer (some ⟨b, 0, none⟩), .pointer (some ⟨p, 0, none⟩), .pointer (some ⟨q, 0, none⟩), .pointer (some ⟨r, 0, none⟩)] w fun e w' => e = .panicked [{ v := .iface 27 (.int .i64 14), recovered := false }] ∧ qQb.Near b b w w' := by
  subst hc
  have a1 : w.cell? ⟨p, 0, none⟩ = some (.int .i64 pf) := (qQa hp 0).trans rfl
  have a2 : w.cell? ⟨q, 0, none⟩ = some (.int .i64 pi) := (qQa hq 0).trans rfl
  have a3 : w.cell? ⟨r, 0, none⟩ = some (.int .i64 pp) := (qQa hr 0).trans rfl
  have l1 : w.cell? ⟨b, 1, none⟩ = some (.int .i64 pr) := (qQa h 1).trans rfl
  have l2 : w.cell? ⟨b, 2, none⟩ = some (.int .i64 it) := (qQa h 2).trans rfl
  have l4 : w.cell? ⟨b, 4, none⟩ = some (.int .i64 fe) := (qQa h 4).trans rfl
  have B := am h
  have P := am hp
  have Q := am hq
  have R := am hr
  clear h hp hq hr
  have d0 : decide (pf < 0) = false := decide_eq_false (by omega)
  have d1 : decide (pi < 0) = false := decide_eq_false (by omega)
  have d2 : decide (pp < 0) = false := decide_eq_false (by omega)
  have e0 : decide (fe < pf) = true := decide_eq_true (by omega)
  clear hn hx
  go_enter Try.func45, Try.ntmps45
  go_wp2_with (first | (go_at_call 46; (with_reducible refine (qQb.qY0 1 false _ (.inr rfl)).mono ?_); rintro e w' ⟨rfl, ⟨nd1, rfl⟩⟩) | (go_at_call 47; (with_reducible refine (qQb.qX7 b id pr it su fe ppm sd st en le fa ct _ (qQm B.out _)).mono ?_); rintro e w' ⟨rfl, ⟨nd, rfl⟩⟩))
  refine wp_region_held_drew (S := fun W => W.cell? ⟨p, 0, none⟩ = some (.int .i64 pf) ∧ W.cell? ⟨q, 0, none⟩ = some (.int .i64 pi) ∧ W.cell? ⟨r, 0, none⟩ = some (.int .i64 pp) ∧ W.cell? ⟨b, 4, none⟩ = some (.int .i64 fe) ∧ W.cell? ⟨b, 2, none⟩ = some (.int .i64 it) ∧ W.cell? ⟨b, 1, none⟩ = some (.int .i64 pr)) (by kernel_rfl) ⟨a1, a2, a3, l4, l2, l1⟩ (fun hHeld => ?_)
  first | refine qQb.tg 0 ?_ | refine qQb.tk 0 ?_
  first | refine qQb.tg 1 ?_ | refine qQb.tk 1 ?_
  first | refine qQb.tg 2 ?_ | refine qQb.tk 2 ?_
  try simp only [Act.put, getElem_toArray, getElem_cons_zero, getElem_cons_succ, setIfInBounds_toArray, set_cons_zero, set_cons_succ]
  first | refine qQb.tg 3 ?_ | refine qQb.tk 3 ?_
  first | refine qQb.tg 4 ?_ | refine qQb.tk 4 ?_
  first | refine qQb.tg 5 ?_ | refine qQb.tk 5 ?_
  try simp only [Act.put, getElem_toArray, getElem_cons_zero, getElem_cons_succ, setIfInBounds_toArray, set_cons_zero, set_cons_succ]
  first | refine qQb.tg 6 ?_ | refine qQb.tk 6 ?_
  first | refine qQb.tg 7 ?_ | refine qQb.tk 7 ?_
  first | refine qQb.tg 8 ?_ | refine qQb.tk 8 ?_
  try simp only [Act.put, getElem_toArray, getElem_cons_zero, getElem_cons_succ, setIfInBounds_toArray, set_cons_zero, set_cons_succ]
  first | refine qQb.tg 9 ?_ | refine qQb.tk 9 ?_
  first | refine qQb.tg 10 ?_ | refine qQb.tk 10 ?_
  first | refine qQb.tg 11 ?_ | refine qQb.tk 11 ?_
  try simp only [Act.put, getElem_toArray, getElem_cons_zero, getElem_cons_succ, setIfInBounds_toArray, set_cons_zero, set_cons_succ]
  first | refine qQb.tg 12 ?_ | refine qQb.tk 12 ?_
  first | refine qQb.tg 13 ?_ | refine qQb.tk 13 ?_
  first | refine qQb.tg 14 ?_ | refine qQb.tk 14 ?_
  try simp only [Act.put, getElem_toArray, getElem_cons_zero, getElem_cons_succ, setIfInBounds_toArray, set_cons_zero, set_cons_succ]
  first | refine qQb.tg 15 ?_ | refine qQb.tk 15 ?_
  first | refine qQb.tg 16 ?_ | refine qQb.tk 16 ?_
  first | refine qQb.tg 17 ?_ | refine qQb.tk 17 ?_
  try simp only [Act.put, getElem_toArray, getElem_cons_zero, getElem_cons_succ, setIfInBounds_toArray, set_cons_zero, set_cons_succ]
  first | refine qQb.tg 18 ?_ | refine qQb.tk 18 ?_
  first | refine qQb.tg 19 ?_ | refine qQb.tk 19 ?_
  first | refine qQb.tg 20 ?_ | refine qQb.tk 20 ?_
  try simp only [Act.put, getElem_toArray, getElem_cons_zero, getElem_cons_succ, setIfInBounds_toArray, set_cons_zero, set_cons_succ]
  first | refine qQb.tg 21 ?_ | refine qQb.tk 21 ?_
  first | refine qQb.tg 22 ?_ | refine qQb.tk 22 ?_
  try simp only [Act.put, getElem_toArray, getElem_cons_zero, getElem_cons_succ, setIfInBounds_toArray, set_cons_zero, set_cons_succ]
  refine wpAnyH_ready (rs := [23]) (by kernel_rfl) (by simp) ?_
  refine AllReadyH.cons rfl (fun K hK => ?_) AllReadyH.nil
  go_simp
  go_wp2_with (go_at_call 46; (with_reducible refine (qQb.qXh 14 _ (by decide)).mono ?_); rintro e w' ⟨rfl, ⟨nd3, rfl⟩⟩)
  exact ⟨rfl, rfl, (qQb.Near.refl b b w).drewN _⟩
set_option maxHeartbeats 8000000 in
set_option maxRecDepth 100000 in
theorem qZr.in_r2 (b : Nat) (id pr it su fe ppm : Int) (sd : Bool) (st cl en le fa ct : Int) (w : World) (h : w.heap[b]? = some (.cells (loanC id pr it su fe ppm sd st cl en le fa ct) 43 (0, 0))) (p q r : Nat) (pf pi pp : Int) (hp : w.heap[p]? = some (.cells #[.int .i64 pf] 2 (0, 0))) (hq : w.heap[q]? = some (.cells #[.int .i64 pi] 2 (0, 0))) (hr : w.heap[r]? = some (.cells #[.int .i64 pp] 2 (0, 0))) (hn : 0 ≤ pf ∧ 0 ≤ pi ∧ 0 ≤ pp) (hc : cl = 0) (n : Int) (h1 : qZb.f it = some n) (hx : pf ≤ fe ∧ n < pi) :
    Calls Try.prog 45 #[.pointer (some ⟨b, 0, none⟩), .pointer (some ⟨p, 0, none⟩), .pointer (some ⟨q, 0, none⟩), .pointer (some ⟨r, 0, none⟩)] w fun e w' => e = .panicked [{ v := .iface 27 (.int .i64 14), recovered := false }] ∧ qQb.Near b b w w' := by
  subst hc
  have a1 : w.cell? ⟨p, 0, none⟩ = some (.int .i64 pf) := (qQa hp 0).trans rfl
  have a2 : w.cell? ⟨q, 0, none⟩ = some (.int .i64 pi) := (qQa hq 0).trans rfl
  have a3 : w.cell? ⟨r, 0, none⟩ = some (.int .i64 pp) := (qQa hr 0).trans rfl
  have l1 : w.cell? ⟨b, 1, none⟩ = some (.int .i64 pr) := (qQa h 1).trans rfl
  have l2 : w.cell? ⟨b, 2, none⟩ = some (.int .i64 it) := (qQa h 2).trans rfl
  have l4 : w.cell? ⟨b, 4, none⟩ = some (.int .i64 fe) := (qQa h 4).trans rfl
  have B := am h
  have P := am hp
  have Q := am hq
  have R := am hr
  clear h hp hq hr
  have d0 : decide (pf < 0) = false := decide_eq_false (by omega)
  have d1 : decide (pi < 0) = false := decide_eq_false (by omega)
  have d2 : decide (pp < 0) = false := decide_eq_false (by omega)
  have e0 : decide (fe < pf) = false := decide_eq_false (by omega)
  have e1 : decide (n < pi) = true := decide_eq_true (by omega)
  have H1 := am h1
  clear h1
  clear hn hx
  go_enter Try.func45, Try.ntmps45
  go_wp2_with (first | (go_at_call 46; (with_reducible refine (qQb.qY0 1 false _ (.inr rfl)).mono ?_); rintro e w' ⟨rfl, ⟨nd1, rfl⟩⟩) | (go_at_call 47; (with_reducible refine (qQb.qX7 b id pr it su fe ppm sd st en le fa ct _ (qQm B.out _)).mono ?_); rintro e w' ⟨rfl, ⟨nd, rfl⟩⟩))
  refine wp_region_held_drew (S := fun W => W.cell? ⟨p, 0, none⟩ = some (.int .i64 pf) ∧ W.cell? ⟨q, 0, none⟩ = some (.int .i64 pi) ∧ W.cell? ⟨r, 0, none⟩ = some (.int .i64 pp) ∧ W.cell? ⟨b, 4, none⟩ = some (.int .i64 fe) ∧ W.cell? ⟨b, 2, none⟩ = some (.int .i64 it) ∧ W.cell? ⟨b, 1, none⟩ = some (.int .i64 pr)) (by kernel_rfl) ⟨a1, a2, a3, l4, l2, l1⟩ (fun hHeld => ?_)
  first | refine qQb.tg 0 ?_ | refine qQb.tk 0 ?_
  first | refine qQb.tg 1 ?_ | refine qQb.tk 1 ?_
  first | refine qQb.tg 2 ?_ | refine qQb.tk 2 ?_
  try simp only [Act.put, getElem_toArray, getElem_cons_zero, getElem_cons_succ, setIfInBounds_toArray, set_cons_zero, set_cons_succ]
  first | refine qQb.tg 3 ?_ | refine qQb.tk 3 ?_
  first | refine qQb.tg 4 ?_ | refine qQb.tk 4 ?_
  first | refine qQb.tg 5 ?_ | refine qQb.tk 5 ?_
  try simp only [Act.put, getElem_toArray, getElem_cons_zero, getElem_cons_succ, setIfInBounds_toArray, set_cons_zero, set_cons_succ]
  first | refine qQb.tg 6 ?_ | refine qQb.tk 6 ?_
  first | refine qQb.tg 7 ?_ | refine qQb.tk 7 ?_
  first | refine qQb.tg 8 ?_ | refine qQb.tk 8 ?_
  try simp only [Act.put, getElem_toArray, getElem_cons_zero, getElem_cons_succ, setIfInBounds_toArray, set_cons_zero, set_cons_succ]
  first | refine qQb.tg 9 ?_ | refine qQb.tk 9 ?_
  first | refine qQb.tg 10 ?_ | refine qQb.tk 10 ?_
  first | refine qQb.tg 11 ?_ | refine qQb.tk 11 ?_
  try simp only [Act.put, getElem_toArray, getElem_cons_zero, getElem_cons_succ, setIfInBounds_toArray, set_cons_zero, set_cons_succ]
  refine wpAnyH_ready (rs := [12]) (by kernel_rfl) (by simp) ?_
  refine AllReadyH.cons rfl (fun K hK => ?_) AllReadyH.nil
  go_simp
  go_wp2_with (go_at_call 25; (refine (qZb.calls _ _ _ H1.out).mono ?_); rintro e w' ⟨rfl, ⟨nd2, rfl⟩⟩)
  refine hK.out _ _ ⟨a1, a2, a3, l4, l2, l1⟩ (fun hHeld1 => ?_)
  clear hK K
  try simp only [Act.put, getElem_toArray, getElem_cons_zero, getElem_cons_succ, setIfInBounds_toArray, set_cons_zero, set_cons_succ]
  first | refine qQb.tg 13 ?_ | refine qQb.tk 13 ?_
  first | refine qQb.tg 14 ?_ | refine qQb.tk 14 ?_
  first | refine qQb.tg 15 ?_ | refine qQb.tk 15 ?_
  try simp only [Act.put, getElem_toArray, getElem_cons_zero, getElem_cons_succ, setIfInBounds_toArray, set_cons_zero, set_cons_succ]
  first | refine qQb.tg 16 ?_ | refine qQb.tk 16 ?_
  first | refine qQb.tg 17 ?_ | refine qQb.tk 17 ?_
  first | refine qQb.tg 18 ?_ | refine qQb.tk 18 ?_
  try simp only [Act.put, getElem_toArray, getElem_cons_zero, getElem_cons_succ, setIfInBounds_toArray, set_cons_zero, set_cons_succ]
  first | refine qQb.tg 19 ?_ | refine qQb.tk 19 ?_
  first | refine qQb.tg 20 ?_ | refine qQb.tk 20 ?_
  first | refine qQb.tg 21 ?_ | refine qQb.tk 21 ?_
  try simp only [Act.put, getElem_toArray, getElem_cons_zero, getElem_cons_succ, setIfInBounds_toArray, set_cons_zero, set_cons_succ]
  first | refine qQb.tg 22 ?_ | refine qQb.tk 22 ?_
  try simp only [Act.put, getElem_toArray, getElem_cons_zero, getElem_cons_succ, setIfInBounds_toArray, set_cons_zero, set_cons_succ]
  refine wpAnyH_ready (rs := [23]) (by kernel_rfl) (by simp) ?_
  refine AllReadyH.cons rfl (fun K hK => ?_) AllReadyH.nil
  go_simp
  go_wp2_with (go_at_call 46; (with_reducible refine (qQb.qXh 14 _ (by decide)).mono ?_); rintro e w' ⟨rfl, ⟨nd3, rfl⟩⟩)
  exact ⟨rfl, rfl, (qQb.Near.refl b b w).drewN _⟩
set_option maxHeartbeats 8000000 in
set_option maxRecDepth 100000 in
theorem qZr.in_r3 (b : Nat) (id pr it su fe ppm : Int) (sd : Bool) (st cl en le fa ct : Int) (w : World) (h : w.heap[b]? = some (.cells (loanC id pr it su fe ppm sd st cl en le fa ct) 43 (0, 0))) (p q r : Nat) (pf pi pp : Int) (hp : w.heap[p]? = some (.cells #[.int .i64 pf] 2 (0, 0))) (hq : w.heap[q]? = some (.cells #[.int .i64 pi] 2 (0, 0))) (hr : w.heap[r]? = some (.cells #[.int .i64 pp] 2 (0, 0))) (hn : 0 ≤ pf ∧ 0 ≤ pi ∧ 0 ≤ pp) (hc : cl = 0) (n : Int) (h1 : qZb.f it = some n) (hx : pf ≤ fe ∧ pi ≤ n ∧ pr < pp) :
    Calls Try.prog 45 #[.pointer (some ⟨b, 0, none⟩), .pointer (some ⟨p, 0, none⟩), .pointer (some ⟨q, 0, none⟩), .pointer (some ⟨r, 0, none⟩)] w fun e w' => e = .panicked [{ v := .iface 27 (.int .i64 14), recovered := false }] ∧ qQb.Near b b w w' := by
  subst hc
  have a1 : w.cell? ⟨p, 0, none⟩ = some (.int .i64 pf) := (qQa hp 0).trans rfl
  have a2 : w.cell? ⟨q, 0, none⟩ = some (.int .i64 pi) := (qQa hq 0).trans rfl
  have a3 : w.cell? ⟨r, 0, none⟩ = some (.int .i64 pp) := (qQa hr 0).trans rfl
  have l1 : w.cell? ⟨b, 1, none⟩ = some (.int .i64 pr) := (qQa h 1).trans rfl
  have l2 : w.cell? ⟨b, 2, none⟩ = some (.int .i64 it) := (qQa h 2).trans rfl
  have l4 : w.cell? ⟨b, 4, none⟩ = some (.int .i64 fe) := (qQa h 4).trans rfl
  have B := am h
  have P := am hp
  have Q := am hq
  have R := am hr
  clear h hp hq hr
  have d0 : decide (pf < 0) = false := decide_eq_false (by omega)
  have d1 : decide (pi < 0) = false := decide_eq_false (by omega)
  have d2 : decide (pp < 0) = false := decide_eq_false (by omega)
  have e0 : decide (fe < pf) = false := decide_eq_false (by omega)
  have e1 : decide (n < pi) = false := decide_eq_false (by omega)
  have e2 : decide (pr < pp) = true := decide_eq_true (by omega)
  have H1 := am h1
  clear h1
  clear hn hx
  go_enter Try.func45, Try.ntmps45
  go_wp2_with (first | (go_at_call 46; (with_reducible refine (qQb.qY0 1 false _ (.inr rfl)).mono ?_); rintro e w' ⟨rfl, ⟨nd1, rfl⟩⟩) | (go_at_call 47; (with_reducible refine (qQb.qX7 b id pr it su fe ppm sd st en le fa ct _ (qQm B.out _)).mono ?_); rintro e w' ⟨rfl, ⟨nd, rfl⟩⟩))
  refine wp_region_held_drew (S := fun W => W.cell? ⟨p, 0, none⟩ = some (.int .i64 pf) ∧ W.cell? ⟨q, 0, none⟩ = some (.int .i64 pi) ∧ W.cell? ⟨r, 0, none⟩ = some (.int .i64 pp) ∧ W.cell? ⟨b, 4, none⟩ = some (.int .i64 fe) ∧ W.cell? ⟨b, 2, none⟩ = some (.int .i64 it) ∧ W.cell? ⟨b, 1, none⟩ = some (.int .i64 pr)) (by kernel_rfl) ⟨a1, a2, a3, l4, l2, l1⟩ (fun hHeld => ?_)
  first | refine qQb.tg 0 ?_ | refine qQb.tk 0 ?_
  first | refine qQb.tg 1 ?_ | refine qQb.tk 1 ?_
  first | refine qQb.tg 2 ?_ | refine qQb.tk 2 ?_
  try simp only [Act.put, getElem_toArray, getElem_cons_zero, getElem_cons_succ, setIfInBounds_toArray, set_cons_zero, set_cons_succ]
  first | refine qQb.tg 3 ?_ | refine qQb.tk 3 ?_
  first | refine qQb.tg 4 ?_ | refine qQb.tk 4 ?_
  first | refine qQb.tg 5 ?_ | refine qQb.tk 5 ?_
  try simp only [Act.put, getElem_toArray, getElem_cons_zero, getElem_cons_succ, setIfInBounds_toArray, set_cons_zero, set_cons_succ]
  first | refine qQb.tg 6 ?_ | refine qQb.tk 6 ?_
  first | refine qQb.tg 7 ?_ | refine qQb.tk 7 ?_
  first | refine qQb.tg 8 ?_ | refine qQb.tk 8 ?_
  try simp only [Act.put, getElem_toArray, getElem_cons_zero, getElem_cons_succ, setIfInBounds_toArray, set_cons_zero, set_cons_succ]
  first | refine qQb.tg 9 ?_ | refine qQb.tk 9 ?_
  first | refine qQb.tg 10 ?_ | refine qQb.tk 10 ?_
  first | refine qQb.tg 11 ?_ | refine qQb.tk 11 ?_
  try simp only [Act.put, getElem_toArray, getElem_cons_zero, getElem_cons_succ, setIfInBounds_toArray, set_cons_zero, set_cons_succ]
  refine wpAnyH_ready (rs := [12]) (by kernel_rfl) (by simp) ?_
  refine AllReadyH.cons rfl (fun K hK => ?_) AllReadyH.nil
  go_simp
  go_wp2_with (go_at_call 25; (refine (qZb.calls _ _ _ H1.out).mono ?_); rintro e w' ⟨rfl, ⟨nd2, rfl⟩⟩)
  refine hK.out _ _ ⟨a1, a2, a3, l4, l2, l1⟩ (fun hHeld1 => ?_)
  clear hK K
  try simp only [Act.put, getElem_toArray, getElem_cons_zero, getElem_cons_succ, setIfInBounds_toArray, set_cons_zero, set_cons_succ]
  first | refine qQb.tg 13 ?_ | refine qQb.tk 13 ?_
  first | refine qQb.tg 14 ?_ | refine qQb.tk 14 ?_
  first | refine qQb.tg 15 ?_ | refine qQb.tk 15 ?_
  try simp only [Act.put, getElem_toArray, getElem_cons_zero, getElem_cons_succ, setIfInBounds_toArray, set_cons_zero, set_cons_succ]
  first | refine qQb.tg 16 ?_ | refine qQb.tk 16 ?_
  first | refine qQb.tg 17 ?_ | refine qQb.tk 17 ?_
  first | refine qQb.tg 18 ?_ | refine qQb.tk 18 ?_
  try simp only [Act.put, getElem_toArray, getElem_cons_zero, getElem_cons_succ, setIfInBounds_toArray, set_cons_zero, set_cons_succ]
  first | refine qQb.tg 19 ?_ | refine qQb.tk 19 ?_
  first | refine qQb.tg 20 ?_ | refine qQb.tk 20 ?_
  first | refine qQb.tg 21 ?_ | refine qQb.tk 21 ?_
  try simp only [Act.put, getElem_toArray, getElem_cons_zero, getElem_cons_succ, setIfInBounds_toArray, set_cons_zero, set_cons_succ]
  first | refine qQb.tg 22 ?_ | refine qQb.tk 22 ?_
  try simp only [Act.put, getElem_toArray, getElem_cons_zero, getElem_cons_succ, setIfInBounds_toArray, set_cons_zero, set_cons_succ]
  refine wpAnyH_ready (rs := [23]) (by kernel_rfl) (by simp) ?_
  refine AllReadyH.cons rfl (fun K hK => ?_) AllReadyH.nil
  go_simp
  go_wp2_with (go_at_call 46; (with_reducible refine (qQb.qXh 14 _ (by decide)).mono ?_); rintro e w' ⟨rfl, ⟨nd3, rfl⟩⟩)
  exact ⟨rfl, rfl, (qQb.Near.refl b b w).drewN _⟩
end Go.Proofs.Yteemomncbcpdjaa.P
