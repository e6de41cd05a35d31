/- Loans: contracts of the functions on loans, walked by hand. -/
import Derived.Test.YtmbenmiakjhgeaaZg
import Derived.Test.YtmbenmiakjhgeaaPx4
import Derived.Test.YtmbenmiakjhgeaaPx6
import Derived.Test.YtmbenmiakjhgeaaPx3
import Derived.Deep.RegionHeld3
import Derived.Deep.RegionWith
import Derived.BigRegion
import Derived.Laws.CopyOwn
namespace Go.Proofs.Ytmbenmiakjhgeaa.P
open Go.RowKit Go.Proofs.YtmbenmiakjhgeaaW.PrintWords Go.Proofs.YtmbenmiakjhgeaaW.PrintLast Go.Proofs.YtmbenmiakjhgeaaW.PrintMore
attribute [local go_sem] max2_int min2_int max_two min_two max_three min_three max_four min_four   -- for this text's walks alone
open List (getElem_toArray getElem_cons_zero getElem_cons_succ setIfInBounds_toArray set_cons_zero set_cons_succ)
set_option linter.unusedVariables false
set_option linter.unusedSimpArgs false
set_option linter.unnecessarySimpa false
set_option maxHeartbeats 8000000 in
set_option maxRecDepth 100000 in
theorem loan_Fee.at_ (b : Nat) (w : World) : Calls Try.prog 35 #[.pointer (some ⟨b, 0, none⟩)] w fun e w' => e = .returned (.pointer (some ⟨b, 4, none⟩)) ∧ Drawn0 w w' := by
  go_enter Try.func35, Try.ntmps35
  go_wp2
  go_ret
  exact ⟨by first | rfl | (simp; done), by repeat (first | exact Drawn0.refl _ | apply Drawn0.step)⟩
set_option maxHeartbeats 8000000 in
set_option maxRecDepth 100000 in
theorem loan_Fee.in_m1 (b : Nat) (id pr it su fe ppm : Int) (sd : Bool) (st cl en le fa ct : Int) (w : World) (h : w.heap[b]? = some (.cells (loanC id pr it su fe ppm sd st cl en le fa ct) 23 (0, 0))) (p q : Nat) (m : Int) (hp : w.heap[p]? = some (.cells #[.int .i64 m] 2 (0, 0))) (hq : w.heap[q]? = some (.cells #[.func (.func 35) #[] #[]] 64 (0, 0))) (hm : m < 1) :
    Calls Try.prog 56 #[.pointer (some ⟨b, 0, none⟩), .pointer (some ⟨p, 0, none⟩), .pointer (some ⟨q, 0, none⟩)] w fun e w' => e = .panicked [{ v := .iface 25 (.int .i64 1), recovered := false }] ∧ loan_does.Near b b w w' := by
  have a1 : w.cell? ⟨p, 0, none⟩ = some (.int .i64 m) := (blk_cell hp 0).trans rfl
  have a2 : w.cell? ⟨q, 0, none⟩ = some (.func (.func 35) #[] #[]) := (blk_cell hq 0).trans rfl
  have l1 : w.cell? ⟨b, 4, none⟩ = some (.int .i64 fe) := (blk_cell h 4).trans rfl
  have g1 := blk_frozen h 4
  have B := Aside0.mk h
  have P := Aside0.mk hp
  have d1 : decide (m < 1) = true := decide_eq_true hm
  clear h hp hq hm
  go_enter Try.func56, Try.ntmps56
  go_wp2_with (go_at_call 30; (with_reducible refine (loan_does.stop_bad 1 _ (by decide)).mono ?_); rintro e w' ⟨rfl, ⟨nd, rfl⟩⟩)
  exact ⟨rfl, rfl, (loan_does.Near.refl b b w).drewN _⟩
set_option maxHeartbeats 8000000 in
set_option maxRecDepth 100000 in
theorem loan_Fee.in_m2 (b : Nat) (id pr it su fe ppm : Int) (sd : Bool) (st cl en le fa ct : Int) (w : World) (h : w.heap[b]? = some (.cells (loanC id pr it su fe ppm sd st cl en le fa ct) 23 (0, 0))) (p q : Nat) (m : Int) (hp : w.heap[p]? = some (.cells #[.int .i64 m] 2 (0, 0))) (hq : w.heap[q]? = some (.cells #[.func (.func 35) #[] #[]] 64 (0, 0))) (hm : 1000000000 < m) :
    Calls Try.prog 56 #[.pointer (some ⟨b, 0, none⟩), .pointer (some ⟨p, 0, none⟩), .pointer (some ⟨q, 0, none⟩)] w fun e w' => e = .panicked [{ v := .iface 25 (.int .i64 1), recovered := false }] ∧ loan_does.Near b b w w' := by
  have a1 : w.cell? ⟨p, 0, none⟩ = some (.int .i64 m) := (blk_cell hp 0).trans rfl
  have a2 : w.cell? ⟨q, 0, none⟩ = some (.func (.func 35) #[] #[]) := (blk_cell hq 0).trans rfl
  have l1 : w.cell? ⟨b, 4, none⟩ = some (.int .i64 fe) := (blk_cell h 4).trans rfl
  have g1 := blk_frozen h 4
  have B := Aside0.mk h
  have P := Aside0.mk hp
  have d1 : decide (m < 1) = false := decide_eq_false (by omega)
  have d2 : decide (1000000000 < m) = true := decide_eq_true hm
  clear h hp hq hm
  go_enter Try.func56, Try.ntmps56
  go_wp2_with (go_at_call 30; (with_reducible refine (loan_does.stop_bad 1 _ (by decide)).mono ?_); rintro e w' ⟨rfl, ⟨nd, rfl⟩⟩)
  exact ⟨rfl, rfl, (loan_does.Near.refl b b w).drewN _⟩
set_option maxHeartbeats 8000000 in
set_option maxRecDepth 100000 in
theorem loan_Fee.in_gone (b : Nat) (id pr it su fe ppm : Int) (sd : Bool) (st cl en le fa ct : Int) (w : World) (h : w.heap[b]? = some (.cells (loanC id pr it su fe ppm sd st cl en le fa ct) 23 (0, 0))) (p q : Nat) (m : Int) (hp : w.heap[p]? = some (.cells #[.int .i64 m] 2 (0, 0))) (hq : w.heap[q]? = some (.cells #[.func (.func 35) #[] #[]] 64 (0, 0))) (hm : 1 ≤ m ∧ m ≤ 1000000000) (hc : cl ≠ 0) :
    Calls Try.prog 56 #[.pointer (some ⟨b, 0, none⟩), .pointer (some ⟨p, 0, none⟩), .pointer (some ⟨q, 0, none⟩)] w fun e w' => e = .panicked [{ v := .iface 25 (.int .i64 61), recovered := false }] ∧ loan_does.Near b b w w' := by
  have a1 : w.cell? ⟨p, 0, none⟩ = some (.int .i64 m) := (blk_cell hp 0).trans rfl
  have a2 : w.cell? ⟨q, 0, none⟩ = some (.func (.func 35) #[] #[]) := (blk_cell hq 0).trans rfl
  have l1 : w.cell? ⟨b, 4, none⟩ = some (.int .i64 fe) := (blk_cell h 4).trans rfl
  have g1 := blk_frozen h 4
  have B := Aside0.mk h
  have P := Aside0.mk hp
  have d1 : decide (m < 1) = false := decide_eq_false (by omega)
  have d2 : decide (1000000000 < m) = false := decide_eq_false (by omega)
  have HC := Aside0.mk hc
  clear h hp hq hm hc
  go_enter Try.func56, Try.ntmps56
  go_wp2_with (first | (go_at_call 30; (with_reducible refine (loan_does.stop_ok 1 false _ (.inr rfl)).mono ?_); rintro e w' ⟨rfl, ⟨nd, rfl⟩⟩) | (go_at_call 31; (with_reducible refine (loan_does.gone_bad b id pr it su fe ppm sd st cl en le fa ct _ (blk_drewN B.out _) HC.out).mono ?_); rintro e w' ⟨rfl, ⟨nd2, rfl⟩⟩))
  exact ⟨rfl, rfl, (loan_does.Near.refl b b w).drewN _⟩
set_option maxHeartbeats 8000000 in
set_option maxRecDepth 100000 in
theorem loan_Fee.in_ok (b : Nat) (id pr it su fe ppm : Int) (sd : Bool) (st cl en le fa ct : Int) (w : World) (h : w.heap[b]? = some (.cells (loanC id pr it su fe ppm sd st cl en le fa ct) 23 (0, 0))) (p q : Nat) (m : Int) (hp : w.heap[p]? = some (.cells #[.int .i64 m] 2 (0, 0))) (hq : w.heap[q]? = some (.cells #[.func (.func 35) #[] #[]] 64 (0, 0))) (hm : 1 ≤ m ∧ m ≤ 1000000000) (hc : cl = 0) (x e : Int) (h1 : money_Add.f fe m = some (x, e)) (he : e = 0) :
    Calls Try.prog 56 #[.pointer (some ⟨b, 0, none⟩), .pointer (some ⟨p, 0, none⟩), .pointer (some ⟨q, 0, none⟩)] w fun r w' => r = .returned (.tuple #[]) ∧ w'.heap[b]? = some (.cells (loanC id pr it su x ppm sd st 0 en le fa ct) 23 (0, 0)) ∧ loan_does.Near b b w w' := by
  subst hc he
  have a1 : w.cell? ⟨p, 0, none⟩ = some (.int .i64 m) := (blk_cell hp 0).trans rfl
  have a2 : w.cell? ⟨q, 0, none⟩ = some (.func (.func 35) #[] #[]) := (blk_cell hq 0).trans rfl
  have l1 : w.cell? ⟨b, 4, none⟩ = some (.int .i64 fe) := (blk_cell h 4).trans rfl
  have g1 := blk_frozen h 4
  have B := Aside0.mk h
  have P := Aside0.mk hp
  have d1 : decide (m < 1) = false := decide_eq_false (by omega)
  have d2 : decide (1000000000 < m) = false := decide_eq_false (by omega)
  have H1 := Aside0.mk h1
  clear h hp hq hm h1
  go_enter Try.func56, Try.ntmps56
  go_wp2_with (first | (go_at_call 30; (with_reducible refine (loan_does.stop_ok 1 false _ (.inr rfl)).mono ?_); rintro e w' ⟨rfl, ⟨nd, rfl⟩⟩) | (go_at_call 31; (with_reducible refine (loan_does.gone_ok b id pr it su fe ppm sd st en le fa ct _ (blk_drewN B.out _)).mono ?_); rintro e w' ⟨rfl, ⟨nd, rfl⟩⟩) | (go_at_call 35; (with_reducible refine (loan_Fee.at_ b _).mono ?_); rintro e w' ⟨rfl, ⟨nd, rfl⟩⟩))
  go_region_with (go_at_call 55; (refine (loan_does.sum_ok _ _ _ _ H1.out).mono ?_); rintro e w1 ⟨rfl, hb⟩; have B1 := Aside0.mk ((hb.block b (blk_lt B.out)).trans B.out); have NN : Aside0 (loan_does.Near b b w w1) := ⟨⟨hb.os, hb.tape, hb.output, hb.size, fun k hk _ _ => hb.block k hk⟩⟩; have m1 : w1.cell? ⟨b, 4, none⟩ = some (.int .i64 fe) := (blk_cell B1.out 4).trans rfl; have m2 := blk_frozen B1.out 4)
  all_goals (go_wp2; go_end0; exact ⟨by first | rfl | (simp; done), blk_put B1.out 4 _ rfl, NN.out.put _ _ rfl⟩)
set_option maxHeartbeats 8000000 in
set_option maxRecDepth 100000 in
theorem loan_Fee.in_err (b : Nat) (id pr it su fe ppm : Int) (sd : Bool) (st cl en le fa ct : Int) (w : World) (h : w.heap[b]? = some (.cells (loanC id pr it su fe ppm sd st cl en le fa ct) 23 (0, 0))) (p q : Nat) (m : Int) (hp : w.heap[p]? = some (.cells #[.int .i64 m] 2 (0, 0))) (hq : w.heap[q]? = some (.cells #[.func (.func 35) #[] #[]] 64 (0, 0))) (hm : 1 ≤ m ∧ m ≤ 1000000000) (hc : cl = 0) (x e : Int) (h1 : money_Add.f fe m = some (x, e)) (he : e ≠ 0) :
    Calls Try.prog 56 #[.pointer (some ⟨b, 0, none⟩), .pointer (some ⟨p, 0, none⟩), .pointer (some ⟨q, 0, none⟩)] w fun r w' => r = .panicked [{ v := .iface 25 (.int .i64 e), recovered := false }] ∧ loan_does.Near b b w w' := by
  subst hc
  have a1 : w.cell? ⟨p, 0, none⟩ = some (.int .i64 m) := (blk_cell hp 0).trans rfl
  have a2 : w.cell? ⟨q, 0, none⟩ = some (.func (.func 35) #[] #[]) := (blk_cell hq 0).trans rfl
  have l1 : w.cell? ⟨b, 4, none⟩ = some (.int .i64 fe) := (blk_cell h 4).trans rfl
  have g1 := blk_frozen h 4
  have B := Aside0.mk h
  have P := Aside0.mk hp
  have d1 : decide (m < 1) = false := decide_eq_false (by omega)
  have d2 : decide (1000000000 < m) = false := decide_eq_false (by omega)
  have H1 := Aside0.mk h1
  have HE := Aside0.mk he
  clear he
  clear h hp hq hm h1
  go_enter Try.func56, Try.ntmps56
  go_wp2_with (first | (go_at_call 30; (with_reducible refine (loan_does.stop_ok 1 false _ (.inr rfl)).mono ?_); rintro e w' ⟨rfl, ⟨nd, rfl⟩⟩) | (go_at_call 31; (with_reducible refine (loan_does.gone_ok b id pr it su fe ppm sd st en le fa ct _ (blk_drewN B.out _)).mono ?_); rintro e w' ⟨rfl, ⟨nd, rfl⟩⟩) | (go_at_call 35; (with_reducible refine (loan_Fee.at_ b _).mono ?_); rintro e w' ⟨rfl, ⟨nd, rfl⟩⟩))
  refine wp_region_held_drew (S := fun W => W.cell? ⟨p, 0, none⟩ = some (.int .i64 m) ∧ W.cell? ⟨b, 4, none⟩ = some (.int .i64 fe) ∧ W.frozen? ⟨b, 4, none⟩ = false) (by kernel_rfl) ⟨a1, l1, g1⟩ (fun hHeld => ?_)
  first | refine loan_does.tg 0 ?_ | refine loan_does.tk 0 ?_
  first | refine loan_does.tg 1 ?_ | refine loan_does.tk 1 ?_
  first | refine loan_does.tg 2 ?_ | refine loan_does.tk 2 ?_
  try simp only [Act.put, getElem_toArray, getElem_cons_zero, getElem_cons_succ, setIfInBounds_toArray, set_cons_zero, set_cons_succ]
  first | refine loan_does.tg 3 ?_ | refine loan_does.tk 3 ?_
  first | refine loan_does.tg 4 ?_ | refine loan_does.tk 4 ?_
  try simp only [Act.put, getElem_toArray, getElem_cons_zero, getElem_cons_succ, setIfInBounds_toArray, set_cons_zero, set_cons_succ]
  refine wpAnyH_ready (rs := [5]) (by kernel_rfl) (by simp) ?_
  refine AllReadyH.cons rfl (fun K hK => ?_) AllReadyH.nil
  go_simp
  go_wp2_with (go_at_call 55; (refine (loan_does.sum_bad _ _ _ _ _ H1.out HE.out).mono ?_); rintro e w1 ⟨rfl, hb⟩)
  exact ⟨rfl, rfl, ⟨hb.os, hb.tape, hb.output, hb.size, fun k hk _ _ => hb.block k hk⟩⟩
set_option maxHeartbeats 8000000 in
set_option maxRecDepth 100000 in
theorem loan_Draw.at_ (b : Nat) (w : World) : Calls Try.prog 37 #[.pointer (some ⟨b, 0, none⟩)] w fun e w' => e = .returned (.pointer (some ⟨b, 1, none⟩)) ∧ Drawn0 w w' := by
  go_enter Try.func37, Try.ntmps37
  go_wp2
  go_ret
  exact ⟨by first | rfl | (simp; done), by repeat (first | exact Drawn0.refl _ | apply Drawn0.step)⟩
set_option maxHeartbeats 8000000 in
set_option maxRecDepth 100000 in
theorem loan_Draw.in_m1 (b : Nat) (id pr it su fe ppm : Int) (sd : Bool) (st cl en le fa ct : Int) (w : World) (h : w.heap[b]? = some (.cells (loanC id pr it su fe ppm sd st cl en le fa ct) 23 (0, 0))) (p q : Nat) (m : Int) (hp : w.heap[p]? = some (.cells #[.int .i64 m] 2 (0, 0))) (hq : w.heap[q]? = some (.cells #[.func (.func 37) #[] #[]] 64 (0, 0))) (hm : m < 1) :
    Calls Try.prog 56 #[.pointer (some ⟨b, 0, none⟩), .pointer (some ⟨p, 0, none⟩), .pointer (some ⟨q, 0, none⟩)] w fun e w' => e = .panicked [{ v := .iface 25 (.int .i64 1), recovered := false }] ∧ loan_does.Near b b w w' := by
  have a1 : w.cell? ⟨p, 0, none⟩ = some (.int .i64 m) := (blk_cell hp 0).trans rfl
  have a2 : w.cell? ⟨q, 0, none⟩ = some (.func (.func 37) #[] #[]) := (blk_cell hq 0).trans rfl
  have l1 : w.cell? ⟨b, 1, none⟩ = some (.int .i64 pr) := (blk_cell h 1).trans rfl
  have g1 := blk_frozen h 1
  have B := Aside0.mk h
  have P := Aside0.mk hp
  have d1 : decide (m < 1) = true := decide_eq_true hm
  clear h hp hq hm
  go_enter Try.func56, Try.ntmps56
  go_wp2_with (go_at_call 30; (with_reducible refine (loan_does.stop_bad 1 _ (by decide)).mono ?_); rintro e w' ⟨rfl, ⟨nd, rfl⟩⟩)
  exact ⟨rfl, rfl, (loan_does.Near.refl b b w).drewN _⟩
set_option maxHeartbeats 8000000 in
set_option maxRecDepth 100000 in
theorem loan_Draw.in_m2 (b : Nat) (id pr it su fe ppm : Int) (sd : Bool) (st cl en le fa ct : Int) (w : World) (h : w.heap[b]? = some (.cells (loanC id pr it su fe ppm sd st cl en le fa ct) 23 (0, 0))) (p q : Nat) (m : Int) (hp : w.heap[p]? = some (.cells #[.int .i64 m] 2 (0, 0))) (hq : w.heap[q]? = some (.cells #[.func (.func 37) #[] #[]] 64 (0, 0))) (hm : 1000000000 < m) :
    Calls Try.prog 56 #[.pointer (some ⟨b, 0, none⟩), .pointer (some ⟨p, 0, none⟩), .pointer (some ⟨q, 0, none⟩)] w fun e w' => e = .panicked [{ v := .iface 25 (.int .i64 1), recovered := false }] ∧ loan_does.Near b b w w' := by
  have a1 : w.cell? ⟨p, 0, none⟩ = some (.int .i64 m) := (blk_cell hp 0).trans rfl
  have a2 : w.cell? ⟨q, 0, none⟩ = some (.func (.func 37) #[] #[]) := (blk_cell hq 0).trans rfl
  have l1 : w.cell? ⟨b, 1, none⟩ = some (.int .i64 pr) := (blk_cell h 1).trans rfl
  have g1 := blk_frozen h 1
  have B := Aside0.mk h
  have P := Aside0.mk hp
  have d1 : decide (m < 1) = false := decide_eq_false (by omega)
  have d2 : decide (1000000000 < m) = true := decide_eq_true hm
  clear h hp hq hm
  go_enter Try.func56, Try.ntmps56
  go_wp2_with (go_at_call 30; (with_reducible refine (loan_does.stop_bad 1 _ (by decide)).mono ?_); rintro e w' ⟨rfl, ⟨nd, rfl⟩⟩)
  exact ⟨rfl, rfl, (loan_does.Near.refl b b w).drewN _⟩
set_option maxHeartbeats 8000000 in
set_option maxRecDepth 100000 in
theorem loan_Draw.in_gone (b : Nat) (id pr it su fe ppm : Int) (sd : Bool) (st cl en le fa ct : Int) (w : World) (h : w.heap[b]? = some (.cells (loanC id pr it su fe ppm sd st cl en le fa ct) 23 (0, 0))) (p q : Nat) (m : Int) (hp : w.heap[p]? = some (.cells #[.int .i64 m] 2 (0, 0))) (hq : w.heap[q]? = some (.cells #[.func (.func 37) #[] #[]] 64 (0, 0))) (hm : 1 ≤ m ∧ m ≤ 1000000000) (hc : cl ≠ 0) :
    Calls Try.prog 56 #[.pointer (some ⟨b, 0, none⟩), .pointer (some ⟨p, 0, none⟩), .pointer (some ⟨q, 0, none⟩)] w fun e w' => e = .panicked [{ v := .iface 25 (.int .i64 61), recovered := false }] ∧ loan_does.Near b b w w' := by
  have a1 : w.cell? ⟨p, 0, none⟩ = some (.int .i64 m) := (blk_cell hp 0).trans rfl
  have a2 : w.cell? ⟨q, 0, none⟩ = some (.func (.func 37) #[] #[]) := (blk_cell hq 0).trans rfl
  have l1 : w.cell? ⟨b, 1, none⟩ = some (.int .i64 pr) := (blk_cell h 1).trans rfl
  have g1 := blk_frozen h 1
  have B := Aside0.mk h
  have P := Aside0.mk hp
  have d1 : decide (m < 1) = false := decide_eq_false (by omega)
  have d2 : decide (1000000000 < m) = false := decide_eq_false (by omega)
  have HC := Aside0.mk hc
  clear h hp hq hm hc
  go_enter Try.func56, Try.ntmps56
  go_wp2_with (first | (go_at_call 30; (with_reducible refine (loan_does.stop_ok 1 false _ (.inr rfl)).mono ?_); rintro e w' ⟨rfl, ⟨nd, rfl⟩⟩) | (go_at_call 31; (with_reducible refine (loan_does.gone_bad b id pr it su fe ppm sd st cl en le fa ct _ (blk_drewN B.out _) HC.out).mono ?_); rintro e w' ⟨rfl, ⟨nd2, rfl⟩⟩))
  exact ⟨rfl, rfl, (loan_does.Near.refl b b w).drewN _⟩
set_option maxHeartbeats 8000000 in
set_option maxRecDepth 100000 in
theorem loan_Draw.in_ok (b : Nat) (id pr it su fe ppm : Int) (sd : Bool) (st cl en le fa ct : Int) (w : World) (h : w.heap[b]? = some (.cells (loanC id pr it su fe ppm sd st cl en le fa ct) 23 (0, 0))) (p q : Nat) (m : Int) (hp : w.heap[p]? = some (.cells #[.int .i64 m] 2 (0, 0))) (hq : w.heap[q]? = some (.cells #[.func (.func 37) #[] #[]] 64 (0, 0))) (hm : 1 ≤ m ∧ m ≤ 1000000000) (hc : cl = 0) (x e : Int) (h1 : money_Add.f pr m = some (x, e)) (he : e = 0) :
    Calls Try.prog 56 #[.pointer (some ⟨b, 0, none⟩), .pointer (some ⟨p, 0, none⟩), .pointer (some ⟨q, 0, none⟩)] w fun r w' => r = .returned (.tuple #[]) ∧ w'.heap[b]? = some (.cells (loanC id x it su fe ppm sd st 0 en le fa ct) 23 (0, 0)) ∧ loan_does.Near b b w w' := by
  subst hc he
  have a1 : w.cell? ⟨p, 0, none⟩ = some (.int .i64 m) := (blk_cell hp 0).trans rfl
  have a2 : w.cell? ⟨q, 0, none⟩ = some (.func (.func 37) #[] #[]) := (blk_cell hq 0).trans rfl
  have l1 : w.cell? ⟨b, 1, none⟩ = some (.int .i64 pr) := (blk_cell h 1).trans rfl
  have g1 := blk_frozen h 1
  have B := Aside0.mk h
  have P := Aside0.mk hp
  have d1 : decide (m < 1) = false := decide_eq_false (by omega)
  have d2 : decide (1000000000 < m) = false := decide_eq_false (by omega)
  have H1 := Aside0.mk h1
  clear h hp hq hm h1
  go_enter Try.func56, Try.ntmps56
  go_wp2_with (first | (go_at_call 30; (with_reducible refine (loan_does.stop_ok 1 false _ (.inr rfl)).mono ?_); rintro e w' ⟨rfl, ⟨nd, rfl⟩⟩) | (go_at_call 31; (with_reducible refine (loan_does.gone_ok b id pr it su fe ppm sd st en le fa ct _ (blk_drewN B.out _)).mono ?_); rintro e w' ⟨rfl, ⟨nd, rfl⟩⟩) | (go_at_call 37; (with_reducible refine (loan_Draw.at_ b _).mono ?_); rintro e w' ⟨rfl, ⟨nd, rfl⟩⟩))
  go_region_with (go_at_call 55; (refine (loan_does.sum_ok _ _ _ _ H1.out).mono ?_); rintro e w1 ⟨rfl, hb⟩; have B1 := Aside0.mk ((hb.block b (blk_lt B.out)).trans B.out); have NN : Aside0 (loan_does.Near b b w w1) := ⟨⟨hb.os, hb.tape, hb.output, hb.size, fun k hk _ _ => hb.block k hk⟩⟩; have m1 : w1.cell? ⟨b, 1, none⟩ = some (.int .i64 pr) := (blk_cell B1.out 1).trans rfl; have m2 := blk_frozen B1.out 1)
  all_goals (go_wp2; go_end0; exact ⟨by first | rfl | (simp; done), blk_put B1.out 1 _ rfl, NN.out.put _ _ rfl⟩)
set_option maxHeartbeats 8000000 in
set_option maxRecDepth 100000 in
theorem loan_Draw.in_err (b : Nat) (id pr it su fe ppm : Int) (sd : Bool) (st cl en le fa ct : Int) (w : World) (h : w.heap[b]? = some (.cells (loanC id pr it su fe ppm sd st cl en le fa ct) 23 (0, 0))) (p q : Nat) (m : Int) (hp : w.heap[p]? = some (.cells #[.int .i64 m] 2 (0, 0))) (hq : w.heap[q]? = some (.cells #[.func (.func 37) #[] #[]] 64 (0, 0))) (hm : 1 ≤ m ∧ m ≤ 1000000000) (hc : cl = 0) (x e : Int) (h1 : money_Add.f pr m = some (x, e)) (he : e ≠ 0) :
    Calls Try.prog 56 #[.pointer (some ⟨b, 0, none⟩), .pointer (some ⟨p, 0, none⟩), .pointer (some ⟨q, 0, none⟩)] w fun r w' => r = .panicked [{ v := .iface 25 (.int .i64 e), recovered := false }] ∧ loan_does.Near b b w w' := by
  subst hc
  have a1 : w.cell? ⟨p, 0, none⟩ = some (.int .i64 m) := (blk_cell hp 0).trans rfl
  have a2 : w.cell? ⟨q, 0, none⟩ = some (.func (.func 37) #[] #[]) := (blk_cell hq 0).trans rfl
  have l1 : w.cell? ⟨b, 1, none⟩ = some (.int .i64 pr) := (blk_cell h 1).trans rfl
  have g1 := blk_frozen h 1
  have B := Aside0.mk h
  have P := Aside0.mk hp
  have d1 : decide (m < 1) = false := decide_eq_false (by omega)
  have d2 : decide (1000000000 < m) = false := decide_eq_false (by omega)
  have H1 := Aside0.mk h1
  have HE := Aside0.mk he
  clear he
  clear h hp hq hm h1
  go_enter Try.func56, Try.ntmps56
  go_wp2_with (first | (go_at_call 30; (with_reducible refine (loan_does.stop_ok 1 false _ (.inr rfl)).mono ?_); rintro e w' ⟨rfl, ⟨nd, rfl⟩⟩) | (go_at_call 31; (with_reducible refine (loan_does.gone_ok b id pr it su fe ppm sd st en le fa ct _ (blk_drewN B.out _)).mono ?_); rintro e w' ⟨rfl, ⟨nd, rfl⟩⟩) | (go_at_call 37; (with_reducible refine (loan_Draw.at_ b _).mono ?_); rintro e w' ⟨rfl, ⟨nd, rfl⟩⟩))
  refine wp_region_held_drew (S := fun W => W.cell? ⟨p, 0, none⟩ = some (.int .i64 m) ∧ W.cell? ⟨b, 1, none⟩ = some (.int .i64 pr) ∧ W.frozen? ⟨b, 1, none⟩ = false) (by kernel_rfl) ⟨a1, l1, g1⟩ (fun hHeld => ?_)
  first | refine loan_does.tg 0 ?_ | refine loan_does.tk 0 ?_
  first | refine loan_does.tg 1 ?_ | refine loan_does.tk 1 ?_
  first | refine loan_does.tg 2 ?_ | refine loan_does.tk 2 ?_
  try simp only [Act.put, getElem_toArray, getElem_cons_zero, getElem_cons_succ, setIfInBounds_toArray, set_cons_zero, set_cons_succ]
  first | refine loan_does.tg 3 ?_ | refine loan_does.tk 3 ?_
  first | refine loan_does.tg 4 ?_ | refine loan_does.tk 4 ?_
  try simp only [Act.put, getElem_toArray, getElem_cons_zero, getElem_cons_succ, setIfInBounds_toArray, set_cons_zero, set_cons_succ]
  refine wpAnyH_ready (rs := [5]) (by kernel_rfl) (by simp) ?_
  refine AllReadyH.cons rfl (fun K hK => ?_) AllReadyH.nil
  go_simp
  go_wp2_with (go_at_call 55; (refine (loan_does.sum_bad _ _ _ _ _ H1.out HE.out).mono ?_); rintro e w1 ⟨rfl, hb⟩)
  exact ⟨rfl, rfl, ⟨hb.os, hb.tape, hb.output, hb.size, fun k hk _ _ => hb.block k hk⟩⟩
end Go.Proofs.Ytmbenmiakjhgeaa.P
