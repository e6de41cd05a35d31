/- Loans: contracts of the functions on loans, walked by hand. -/
import Derived.Test.YtmbenmiakjhgeaaZg
import Derived.Test.YtmbenmiakjhgeaaPx22
import Derived.Test.YtmbenmiakjhgeaaPx4
import Derived.Test.YtmbenmiakjhgeaaPx6
import Derived.Test.YtmbenmiakjhgeaaPx3
import Derived.Deep.RegionHeld3
import Derived.Laws.CopyOwn
namespace Go.Proofs.Ytmbenmiakjhgeaa.P
open Go.RowKit Go.Proofs.YtmbenmiakjhgeaaW.PrintWords Go.Proofs.YtmbenmiakjhgeaaW.PrintLast Go.Proofs.YtmbenmiakjhgeaaW.PrintMore
attribute [local go_sem] max2_int min2_int max_two min_two max_three min_three max_four min_four   -- for this text's walks alone
open List (getElem_toArray getElem_cons_zero getElem_cons_succ setIfInBounds_toArray set_cons_zero set_cons_succ)
set_option linter.unusedVariables false
set_option linter.unusedSimpArgs false
set_option linter.unnecessarySimpa false
set_option maxHeartbeats 8000000 in
set_option maxRecDepth 100000 in
theorem loan_Accrue.in_days1 (b : Nat) (id pr it su fe ppm : Int) (sd : Bool) (st cl en le fa ct : Int) (w : World) (h : w.heap[b]? = some (.cells (loanC id pr it su fe ppm sd st cl en le fa ct) 23 (0, 0))) (p : Nat) (days : Int) (hp : w.heap[p]? = some (.cells #[.int .i64 days] 3 (0, 0))) (hd : days < 0) :
    Calls Try.prog 47 #[.pointer (some ⟨b, 0, none⟩), .pointer (some ⟨p, 0, none⟩)] w fun e w' => e = .panicked [{ v := .iface 25 (.int .i64 1), recovered := false }] ∧ loan_does.Near b b w w' := by
  have a1 : w.cell? ⟨p, 0, none⟩ = some (.int .i64 days) := (blk_cell hp 0).trans rfl
  have c8 : w.cell? ⟨b, 8, none⟩ = some (.int .i64 cl) := (blk_cell h 8).trans rfl
  have B := Aside0.mk h
  have P := Aside0.mk hp
  have d1 : decide (days < 0) = true := decide_eq_true hd
  clear h hp hd
  go_enter Try.func47, Try.ntmps47
  go_wp2_with (go_at_call 30; (with_reducible refine (loan_does.stop_bad 1 _ (by decide)).mono ?_); rintro e w' ⟨rfl, ⟨nd, rfl⟩⟩)
  exact ⟨rfl, rfl, (loan_does.Near.refl b b w).drewN _⟩
set_option maxHeartbeats 8000000 in
set_option maxRecDepth 100000 in
theorem loan_Accrue.in_days2 (b : Nat) (id pr it su fe ppm : Int) (sd : Bool) (st cl en le fa ct : Int) (w : World) (h : w.heap[b]? = some (.cells (loanC id pr it su fe ppm sd st cl en le fa ct) 23 (0, 0))) (p : Nat) (days : Int) (hp : w.heap[p]? = some (.cells #[.int .i64 days] 3 (0, 0))) (hd : 87658 < days) :
    Calls Try.prog 47 #[.pointer (some ⟨b, 0, none⟩), .pointer (some ⟨p, 0, none⟩)] w fun e w' => e = .panicked [{ v := .iface 25 (.int .i64 1), recovered := false }] ∧ loan_does.Near b b w w' := by
  have a1 : w.cell? ⟨p, 0, none⟩ = some (.int .i64 days) := (blk_cell hp 0).trans rfl
  have c8 : w.cell? ⟨b, 8, none⟩ = some (.int .i64 cl) := (blk_cell h 8).trans rfl
  have B := Aside0.mk h
  have P := Aside0.mk hp
  have d1 : decide (days < 0) = false := decide_eq_false (by omega)
  have d2 : decide (87658 < days) = true := decide_eq_true hd
  clear h hp hd
  go_enter Try.func47, Try.ntmps47
  go_wp2_with (go_at_call 30; (with_reducible refine (loan_does.stop_bad 1 _ (by decide)).mono ?_); rintro e w' ⟨rfl, ⟨nd, rfl⟩⟩)
  exact ⟨rfl, rfl, (loan_does.Near.refl b b w).drewN _⟩
set_option maxHeartbeats 8000000 in
set_option maxRecDepth 100000 in
theorem loan_Accrue.in_closed (b : Nat) (id pr it su fe ppm : Int) (sd : Bool) (st cl en le fa ct : Int) (w : World) (h : w.heap[b]? = some (.cells (loanC id pr it su fe ppm sd st cl en le fa ct) 23 (0, 0))) (p : Nat) (days : Int) (hp : w.heap[p]? = some (.cells #[.int .i64 days] 3 (0, 0))) (hd : 0 ≤ days ∧ days ≤ 87658) (hc : cl ≠ 0) :
    Calls Try.prog 47 #[.pointer (some ⟨b, 0, none⟩), .pointer (some ⟨p, 0, none⟩)] w fun e w' => e = .returned (.tuple #[]) ∧ w'.heap[b]? = some (.cells (loanC id pr it su fe ppm sd st cl en le fa ct) 23 (0, 0)) ∧ loan_does.Near b b w w' := by
  have a1 : w.cell? ⟨p, 0, none⟩ = some (.int .i64 days) := (blk_cell hp 0).trans rfl
  have c8 : w.cell? ⟨b, 8, none⟩ = some (.int .i64 cl) := (blk_cell h 8).trans rfl
  have B := Aside0.mk h
  have P := Aside0.mk hp
  have d1 : decide (days < 0) = false := decide_eq_false (by omega)
  have d2 : decide (87658 < days) = false := decide_eq_false (by omega)
  have e1 : (cl != 0) = true := bne_iff_ne.mpr hc
  have e2 : (cl == 0) = false := beq_eq_false_iff_ne.mpr hc
  clear h hp hd hc
  go_enter Try.func47, Try.ntmps47
  go_wp2_with (go_at_call 30; (with_reducible refine (loan_does.stop_ok 1 false _ (.inr rfl)).mono ?_); rintro e w' ⟨rfl, ⟨nd, rfl⟩⟩)
  first | go_end0 | ((try simp only [Exit.inBlock, Exit.then]); refine bodyPost_ret (results_none rfl _ _ _) rfl ?_)
  exact ⟨by first | rfl | (simp; done), blk_drewN B.out _, (loan_does.Near.refl b b w).drewN _⟩
set_option maxHeartbeats 8000000 in
set_option maxRecDepth 100000 in
theorem loan_Accrue.in_subs_ok (b : Nat) (id pr it su fe ppm : Int) (sd : Bool) (st cl en le fa ct : Int) (w : World) (h : w.heap[b]? = some (.cells (loanC id pr it su fe ppm sd st cl en le fa ct) 23 (0, 0))) (p : Nat) (days : Int) (hp : w.heap[p]? = some (.cells #[.int .i64 days] 3 (0, 0))) (hd : 0 ≤ days ∧ days ≤ 87658) (hc : cl = 0) (hsd : sd = true) (hs : st ≤ 3) (hpb : p ≠ b) (k : Nat) (n x : Int) (h1 : accrue_Add.f k su pr ppm days = some (n, x)) (hx : x = 0) :
    Calls Try.prog 47 #[.pointer (some ⟨b, 0, none⟩), .pointer (some ⟨p, 0, none⟩)] w fun e w' => e = .returned (.tuple #[]) ∧ w'.heap[b]? = some (.cells (loanC id pr it n fe ppm sd st cl en le fa ct) 23 (0, 0)) ∧ loan_does.Near b b w w' := by
  subst hc hsd hx
  have a1 : w.cell? ⟨p, 0, none⟩ = some (.int .i64 days) := (blk_cell hp 0).trans rfl
  have c8 : w.cell? ⟨b, 8, none⟩ = some (.int .i64 0) := (blk_cell h 8).trans rfl
  have B := Aside0.mk h
  have P := Aside0.mk hp
  have d1 : decide (days < 0) = false := decide_eq_false (by omega)
  have d2 : decide (87658 < days) = false := decide_eq_false (by omega)
  have l1 : w.cell? ⟨b, 1, none⟩ = some (.int .i64 pr) := (blk_cell h 1).trans rfl
  have l2 : w.cell? ⟨b, 2, none⟩ = some (.int .i64 it) := (blk_cell h 2).trans rfl
  have l3 : w.cell? ⟨b, 3, none⟩ = some (.int .i64 su) := (blk_cell h 3).trans rfl
  have l5 : w.cell? ⟨b, 5, none⟩ = some (.int .i64 ppm) := (blk_cell h 5).trans rfl
  have l7 : w.cell? ⟨b, 7, none⟩ = some (.int .i64 st) := (blk_cell h 7).trans rfl
  have l6 : w.cell? ⟨b, 6, none⟩ = some (.bool true) := (blk_cell h 6).trans rfl
  have e1 : decide (st ≤ 3) = true := decide_eq_true hs
  have H1 := Aside0.mk h1
  have NE := Aside0.mk hpb
  clear h hp hd hpb h1 hs
  go_enter Try.func47, Try.ntmps47
  go_wp2_with (go_at_call 30; (with_reducible refine (loan_does.stop_ok 1 false _ (.inr rfl)).mono ?_); rintro e w' ⟨rfl, ⟨nd, rfl⟩⟩)
  refine wp_region_held_drew (S := fun W => W.cell? ⟨p, 0, none⟩ = some (.int .i64 days) ∧ W.cell? ⟨b, 3, none⟩ = some (.int .i64 su) ∧ W.cell? ⟨b, 1, none⟩ = some (.int .i64 pr) ∧ W.cell? ⟨b, 5, none⟩ = some (.int .i64 ppm)) (by kernel_rfl) ⟨a1, l3, l1, l5⟩ (fun hHeld => ?_)
  first | refine loan_does.tg 0 ?_ | refine loan_does.tk 0 ?_
  first | refine loan_does.tg 1 ?_ | refine loan_does.tk 1 ?_
  first | refine loan_does.tg 2 ?_ | refine loan_does.tk 2 ?_
  try simp only [Act.put, getElem_toArray, getElem_cons_zero, getElem_cons_succ, setIfInBounds_toArray, set_cons_zero, set_cons_succ]
  first | refine loan_does.tg 3 ?_ | refine loan_does.tk 3 ?_
  first | refine loan_does.tg 4 ?_ | refine loan_does.tk 4 ?_
  first | refine loan_does.tg 5 ?_ | refine loan_does.tk 5 ?_
  try simp only [Act.put, getElem_toArray, getElem_cons_zero, getElem_cons_succ, setIfInBounds_toArray, set_cons_zero, set_cons_succ]
  first | refine loan_does.tg 6 ?_ | refine loan_does.tk 6 ?_
  first | refine loan_does.tg 7 ?_ | refine loan_does.tk 7 ?_
  first | refine loan_does.tg 8 ?_ | refine loan_does.tk 8 ?_
  try simp only [Act.put, getElem_toArray, getElem_cons_zero, getElem_cons_succ, setIfInBounds_toArray, set_cons_zero, set_cons_succ]
  first | refine loan_does.tg 9 ?_ | refine loan_does.tk 9 ?_
  first | refine loan_does.tg 10 ?_ | refine loan_does.tk 10 ?_
  first | refine loan_does.tg 11 ?_ | refine loan_does.tk 11 ?_
  try simp only [Act.put, getElem_toArray, getElem_cons_zero, getElem_cons_succ, setIfInBounds_toArray, set_cons_zero, set_cons_succ]
  refine wpAnyH_ready (rs := [12]) (by kernel_rfl) (by simp) ?_
  refine AllReadyH.cons rfl (fun K hK => ?_) AllReadyH.nil
  go_simp
  go_wp2_with (go_at_call 48; (refine (accrue_Add.calls k su pr ppm days n 0 _ H1.out).mono ?_); rintro e w1 ⟨rfl, hb⟩)
  have B1 := (hb.block b (blk_lt B.out)).trans B.out
  have P1 := (hb.block p (blk_lt P.out)).trans P.out
  have NN : Aside0 (loan_does.Near b b w w1) := ⟨⟨hb.os, hb.tape, hb.output, hb.size, fun k hk _ _ => hb.block k hk⟩⟩
  refine hK.out _ _ ⟨(blk_cell P1 0).trans rfl, (blk_cell B1 3).trans rfl, (blk_cell B1 1).trans rfl, (blk_cell B1 5).trans rfl⟩ (fun hHeld1 => ?_)
  clear hK K
  try simp only [Act.put, getElem_toArray, getElem_cons_zero, getElem_cons_succ, setIfInBounds_toArray, set_cons_zero, set_cons_succ]
  first | refine loan_does.tg 13 ?_ | refine loan_does.tk 13 ?_
  first | refine loan_does.tg 14 ?_ | refine loan_does.tk 14 ?_
  first | refine loan_does.tg 15 ?_ | refine loan_does.tk 15 ?_
  try simp only [Act.put, getElem_toArray, getElem_cons_zero, getElem_cons_succ, setIfInBounds_toArray, set_cons_zero, set_cons_succ]
  first | refine loan_does.tg 16 ?_ | refine loan_does.tk 16 ?_
  first | refine loan_does.tg 17 ?_ | refine loan_does.tk 17 ?_
  try simp only [Act.put, getElem_toArray, getElem_cons_zero, getElem_cons_succ, setIfInBounds_toArray, set_cons_zero, set_cons_succ]
  refine wpAnyH_done (by kernel_rfl) ?_ _
  have m1 : w1.cell? ⟨b, 3, none⟩ = some (.int .i64 su) := (blk_cell B1 3).trans rfl
  have g1 := blk_frozen B1 3
  have BB := Aside0.mk B1
  clear hHeld hHeld1 hb B1 P1 a1 c8 l1 l2 l3 l5 l6 l7
  go_wp2_with (go_at_call 30; (with_reducible refine (loan_does.stop_ok 0 true _ (.inl rfl)).mono ?_); rintro e w' ⟨rfl, ⟨nd, rfl⟩⟩)
  first | go_end0 | ((try simp only [Exit.inBlock, Exit.then]); refine bodyPost_ret (results_none rfl _ _ _) rfl ?_)
  exact ⟨by first | rfl | (simp; done), blk_put (blk_drewN BB.out _) 3 _ rfl, (NN.out.drewN _).put _ _ rfl⟩
set_option maxHeartbeats 8000000 in
set_option maxRecDepth 100000 in
theorem loan_Accrue.in_subs_err (b : Nat) (id pr it su fe ppm : Int) (sd : Bool) (st cl en le fa ct : Int) (w : World) (h : w.heap[b]? = some (.cells (loanC id pr it su fe ppm sd st cl en le fa ct) 23 (0, 0))) (p : Nat) (days : Int) (hp : w.heap[p]? = some (.cells #[.int .i64 days] 3 (0, 0))) (hd : 0 ≤ days ∧ days ≤ 87658) (hc : cl = 0) (hsd : sd = true) (hs : st ≤ 3) (hpb : p ≠ b) (k : Nat) (n x : Int) (h1 : accrue_Add.f k su pr ppm days = some (n, x)) (hx : x ≠ 0) :
    Calls Try.prog 47 #[.pointer (some ⟨b, 0, none⟩), .pointer (some ⟨p, 0, none⟩)] w fun e w' => e = .panicked [{ v := .iface 25 (.int .i64 x), recovered := false }] ∧ loan_does.Near b b w w' := by
  subst hc hsd
  have a1 : w.cell? ⟨p, 0, none⟩ = some (.int .i64 days) := (blk_cell hp 0).trans rfl
  have c8 : w.cell? ⟨b, 8, none⟩ = some (.int .i64 0) := (blk_cell h 8).trans rfl
  have B := Aside0.mk h
  have P := Aside0.mk hp
  have d1 : decide (days < 0) = false := decide_eq_false (by omega)
  have d2 : decide (87658 < days) = false := decide_eq_false (by omega)
  have l1 : w.cell? ⟨b, 1, none⟩ = some (.int .i64 pr) := (blk_cell h 1).trans rfl
  have l2 : w.cell? ⟨b, 2, none⟩ = some (.int .i64 it) := (blk_cell h 2).trans rfl
  have l3 : w.cell? ⟨b, 3, none⟩ = some (.int .i64 su) := (blk_cell h 3).trans rfl
  have l5 : w.cell? ⟨b, 5, none⟩ = some (.int .i64 ppm) := (blk_cell h 5).trans rfl
  have l7 : w.cell? ⟨b, 7, none⟩ = some (.int .i64 st) := (blk_cell h 7).trans rfl
  have l6 : w.cell? ⟨b, 6, none⟩ = some (.bool true) := (blk_cell h 6).trans rfl
  have e1 : decide (st ≤ 3) = true := decide_eq_true hs
  have H1 := Aside0.mk h1
  have NE := Aside0.mk hpb
  have HX := Aside0.mk hx
  clear hx
  clear h hp hd hpb h1 hs
  go_enter Try.func47, Try.ntmps47
  go_wp2_with (go_at_call 30; (with_reducible refine (loan_does.stop_ok 1 false _ (.inr rfl)).mono ?_); rintro e w' ⟨rfl, ⟨nd, rfl⟩⟩)
  refine wp_region_held_drew (S := fun W => W.cell? ⟨p, 0, none⟩ = some (.int .i64 days) ∧ W.cell? ⟨b, 3, none⟩ = some (.int .i64 su) ∧ W.cell? ⟨b, 1, none⟩ = some (.int .i64 pr) ∧ W.cell? ⟨b, 5, none⟩ = some (.int .i64 ppm)) (by kernel_rfl) ⟨a1, l3, l1, l5⟩ (fun hHeld => ?_)
  first | refine loan_does.tg 0 ?_ | refine loan_does.tk 0 ?_
  first | refine loan_does.tg 1 ?_ | refine loan_does.tk 1 ?_
  first | refine loan_does.tg 2 ?_ | refine loan_does.tk 2 ?_
  try simp only [Act.put, getElem_toArray, getElem_cons_zero, getElem_cons_succ, setIfInBounds_toArray, set_cons_zero, set_cons_succ]
  first | refine loan_does.tg 3 ?_ | refine loan_does.tk 3 ?_
  first | refine loan_does.tg 4 ?_ | refine loan_does.tk 4 ?_
  first | refine loan_does.tg 5 ?_ | refine loan_does.tk 5 ?_
  try simp only [Act.put, getElem_toArray, getElem_cons_zero, getElem_cons_succ, setIfInBounds_toArray, set_cons_zero, set_cons_succ]
  first | refine loan_does.tg 6 ?_ | refine loan_does.tk 6 ?_
  first | refine loan_does.tg 7 ?_ | refine loan_does.tk 7 ?_
  first | refine loan_does.tg 8 ?_ | refine loan_does.tk 8 ?_
  try simp only [Act.put, getElem_toArray, getElem_cons_zero, getElem_cons_succ, setIfInBounds_toArray, set_cons_zero, set_cons_succ]
  first | refine loan_does.tg 9 ?_ | refine loan_does.tk 9 ?_
  first | refine loan_does.tg 10 ?_ | refine loan_does.tk 10 ?_
  first | refine loan_does.tg 11 ?_ | refine loan_does.tk 11 ?_
  try simp only [Act.put, getElem_toArray, getElem_cons_zero, getElem_cons_succ, setIfInBounds_toArray, set_cons_zero, set_cons_succ]
  refine wpAnyH_ready (rs := [12]) (by kernel_rfl) (by simp) ?_
  refine AllReadyH.cons rfl (fun K hK => ?_) AllReadyH.nil
  go_simp
  go_wp2_with (go_at_call 48; (refine (accrue_Add.calls k su pr ppm days n x _ H1.out).mono ?_); rintro e w1 ⟨rfl, hb⟩)
  have B1 := (hb.block b (blk_lt B.out)).trans B.out
  have P1 := (hb.block p (blk_lt P.out)).trans P.out
  have NN : Aside0 (loan_does.Near b b w w1) := ⟨⟨hb.os, hb.tape, hb.output, hb.size, fun k hk _ _ => hb.block k hk⟩⟩
  refine hK.out _ _ ⟨(blk_cell P1 0).trans rfl, (blk_cell B1 3).trans rfl, (blk_cell B1 1).trans rfl, (blk_cell B1 5).trans rfl⟩ (fun hHeld1 => ?_)
  clear hK K
  try simp only [Act.put, getElem_toArray, getElem_cons_zero, getElem_cons_succ, setIfInBounds_toArray, set_cons_zero, set_cons_succ]
  first | refine loan_does.tg 13 ?_ | refine loan_does.tk 13 ?_
  first | refine loan_does.tg 14 ?_ | refine loan_does.tk 14 ?_
  first | refine loan_does.tg 15 ?_ | refine loan_does.tk 15 ?_
  try simp only [Act.put, getElem_toArray, getElem_cons_zero, getElem_cons_succ, setIfInBounds_toArray, set_cons_zero, set_cons_succ]
  first | refine loan_does.tg 16 ?_ | refine loan_does.tk 16 ?_
  first | refine loan_does.tg 17 ?_ | refine loan_does.tk 17 ?_
  try simp only [Act.put, getElem_toArray, getElem_cons_zero, getElem_cons_succ, setIfInBounds_toArray, set_cons_zero, set_cons_succ]
  refine wpAnyH_done (by kernel_rfl) ?_ _
  have m1 : w1.cell? ⟨b, 3, none⟩ = some (.int .i64 su) := (blk_cell B1 3).trans rfl
  have g1 := blk_frozen B1 3
  have BB := Aside0.mk B1
  clear hHeld hHeld1 hb B1 P1 a1 c8 l1 l2 l3 l5 l6 l7
  go_wp2_with (go_at_call 30; (with_reducible refine (loan_does.stop_bad x _ HX.out).mono ?_); rintro e w' ⟨rfl, ⟨nd, rfl⟩⟩)
  exact ⟨rfl, rfl, NN.out.drewN _⟩
set_option maxHeartbeats 8000000 in
set_option maxRecDepth 100000 in
theorem loan_Accrue.in_nosub_ok (b : Nat) (id pr it su fe ppm : Int) (sd : Bool) (st cl en le fa ct : Int) (w : World) (h : w.heap[b]? = some (.cells (loanC id pr it su fe ppm sd st cl en le fa ct) 23 (0, 0))) (p : Nat) (days : Int) (hp : w.heap[p]? = some (.cells #[.int .i64 days] 3 (0, 0))) (hd : 0 ≤ days ∧ days ≤ 87658) (hc : cl = 0) (hsd : sd = true) (hs : 3 < st) (hpb : p ≠ b) (k : Nat) (n x : Int) (h1 : accrue_Add.f k it pr ppm days = some (n, x)) (hx : x = 0) :
    Calls Try.prog 47 #[.pointer (some ⟨b, 0, none⟩), .pointer (some ⟨p, 0, none⟩)] w fun e w' => e = .returned (.tuple #[]) ∧ w'.heap[b]? = some (.cells (loanC id pr n su fe ppm sd st cl en le fa ct) 23 (0, 0)) ∧ loan_does.Near b b w w' := by
  subst hc hsd hx
  have a1 : w.cell? ⟨p, 0, none⟩ = some (.int .i64 days) := (blk_cell hp 0).trans rfl
  have c8 : w.cell? ⟨b, 8, none⟩ = some (.int .i64 0) := (blk_cell h 8).trans rfl
  have B := Aside0.mk h
  have P := Aside0.mk hp
  have d1 : decide (days < 0) = false := decide_eq_false (by omega)
  have d2 : decide (87658 < days) = false := decide_eq_false (by omega)
  have l1 : w.cell? ⟨b, 1, none⟩ = some (.int .i64 pr) := (blk_cell h 1).trans rfl
  have l2 : w.cell? ⟨b, 2, none⟩ = some (.int .i64 it) := (blk_cell h 2).trans rfl
  have l3 : w.cell? ⟨b, 3, none⟩ = some (.int .i64 su) := (blk_cell h 3).trans rfl
  have l5 : w.cell? ⟨b, 5, none⟩ = some (.int .i64 ppm) := (blk_cell h 5).trans rfl
  have l7 : w.cell? ⟨b, 7, none⟩ = some (.int .i64 st) := (blk_cell h 7).trans rfl
  have l6 : w.cell? ⟨b, 6, none⟩ = some (.bool true) := (blk_cell h 6).trans rfl
  have e1 : decide (st ≤ 3) = false := decide_eq_false (by omega)
  have H1 := Aside0.mk h1
  have NE := Aside0.mk hpb
  clear h hp hd hpb h1 hs
  go_enter Try.func47, Try.ntmps47
  go_wp2_with (go_at_call 30; (with_reducible refine (loan_does.stop_ok 1 false _ (.inr rfl)).mono ?_); rintro e w' ⟨rfl, ⟨nd, rfl⟩⟩)
  refine wp_region_held_drew (S := fun W => W.cell? ⟨p, 0, none⟩ = some (.int .i64 days) ∧ W.cell? ⟨b, 2, none⟩ = some (.int .i64 it) ∧ W.cell? ⟨b, 1, none⟩ = some (.int .i64 pr) ∧ W.cell? ⟨b, 5, none⟩ = some (.int .i64 ppm)) (by kernel_rfl) ⟨a1, l2, l1, l5⟩ (fun hHeld => ?_)
  first | refine loan_does.tg 0 ?_ | refine loan_does.tk 0 ?_
  first | refine loan_does.tg 1 ?_ | refine loan_does.tk 1 ?_
  first | refine loan_does.tg 2 ?_ | refine loan_does.tk 2 ?_
  try simp only [Act.put, getElem_toArray, getElem_cons_zero, getElem_cons_succ, setIfInBounds_toArray, set_cons_zero, set_cons_succ]
  first | refine loan_does.tg 3 ?_ | refine loan_does.tk 3 ?_
  first | refine loan_does.tg 4 ?_ | refine loan_does.tk 4 ?_
  first | refine loan_does.tg 5 ?_ | refine loan_does.tk 5 ?_
  try simp only [Act.put, getElem_toArray, getElem_cons_zero, getElem_cons_succ, setIfInBounds_toArray, set_cons_zero, set_cons_succ]
  first | refine loan_does.tg 6 ?_ | refine loan_does.tk 6 ?_
  first | refine loan_does.tg 7 ?_ | refine loan_does.tk 7 ?_
  first | refine loan_does.tg 8 ?_ | refine loan_does.tk 8 ?_
  try simp only [Act.put, getElem_toArray, getElem_cons_zero, getElem_cons_succ, setIfInBounds_toArray, set_cons_zero, set_cons_succ]
  first | refine loan_does.tg 9 ?_ | refine loan_does.tk 9 ?_
  first | refine loan_does.tg 10 ?_ | refine loan_does.tk 10 ?_
  first | refine loan_does.tg 11 ?_ | refine loan_does.tk 11 ?_
  try simp only [Act.put, getElem_toArray, getElem_cons_zero, getElem_cons_succ, setIfInBounds_toArray, set_cons_zero, set_cons_succ]
  refine wpAnyH_ready (rs := [12]) (by kernel_rfl) (by simp) ?_
  refine AllReadyH.cons rfl (fun K hK => ?_) AllReadyH.nil
  go_simp
  go_wp2_with (go_at_call 48; (refine (accrue_Add.calls k it pr ppm days n 0 _ H1.out).mono ?_); rintro e w1 ⟨rfl, hb⟩)
  have B1 := (hb.block b (blk_lt B.out)).trans B.out
  have P1 := (hb.block p (blk_lt P.out)).trans P.out
  have NN : Aside0 (loan_does.Near b b w w1) := ⟨⟨hb.os, hb.tape, hb.output, hb.size, fun k hk _ _ => hb.block k hk⟩⟩
  refine hK.out _ _ ⟨(blk_cell P1 0).trans rfl, (blk_cell B1 2).trans rfl, (blk_cell B1 1).trans rfl, (blk_cell B1 5).trans rfl⟩ (fun hHeld1 => ?_)
  clear hK K
  try simp only [Act.put, getElem_toArray, getElem_cons_zero, getElem_cons_succ, setIfInBounds_toArray, set_cons_zero, set_cons_succ]
  first | refine loan_does.tg 13 ?_ | refine loan_does.tk 13 ?_
  first | refine loan_does.tg 14 ?_ | refine loan_does.tk 14 ?_
  first | refine loan_does.tg 15 ?_ | refine loan_does.tk 15 ?_
  try simp only [Act.put, getElem_toArray, getElem_cons_zero, getElem_cons_succ, setIfInBounds_toArray, set_cons_zero, set_cons_succ]
  first | refine loan_does.tg 16 ?_ | refine loan_does.tk 16 ?_
  first | refine loan_does.tg 17 ?_ | refine loan_does.tk 17 ?_
  try simp only [Act.put, getElem_toArray, getElem_cons_zero, getElem_cons_succ, setIfInBounds_toArray, set_cons_zero, set_cons_succ]
  refine wpAnyH_done (by kernel_rfl) ?_ _
  have m1 : w1.cell? ⟨b, 2, none⟩ = some (.int .i64 it) := (blk_cell B1 2).trans rfl
  have g1 := blk_frozen B1 2
  have BB := Aside0.mk B1
  clear hHeld hHeld1 hb B1 P1 a1 c8 l1 l2 l3 l5 l6 l7
  go_wp2_with (go_at_call 30; (with_reducible refine (loan_does.stop_ok 0 true _ (.inl rfl)).mono ?_); rintro e w' ⟨rfl, ⟨nd, rfl⟩⟩)
  first | go_end0 | ((try simp only [Exit.inBlock, Exit.then]); refine bodyPost_ret (results_none rfl _ _ _) rfl ?_)
  exact ⟨by first | rfl | (simp; done), blk_put (blk_drewN BB.out _) 2 _ rfl, (NN.out.drewN _).put _ _ rfl⟩
set_option maxHeartbeats 8000000 in
set_option maxRecDepth 100000 in
theorem loan_Accrue.in_nosub_err (b : Nat) (id pr it su fe ppm : Int) (sd : Bool) (st cl en le fa ct : Int) (w : World) (h : w.heap[b]? = some (.cells (loanC id pr it su fe ppm sd st cl en le fa ct) 23 (0, 0))) (p : Nat) (days : Int) (hp : w.heap[p]? = some (.cells #[.int .i64 days] 3 (0, 0))) (hd : 0 ≤ days ∧ days ≤ 87658) (hc : cl = 0) (hsd : sd = true) (hs : 3 < st) (hpb : p ≠ b) (k : Nat) (n x : Int) (h1 : accrue_Add.f k it pr ppm days = some (n, x)) (hx : x ≠ 0) :
    Calls Try.prog 47 #[.pointer (some ⟨b, 0, none⟩), .pointer (some ⟨p, 0, none⟩)] w fun e w' => e = .panicked [{ v := .iface 25 (.int .i64 x), recovered := false }] ∧ loan_does.Near b b w w' := by
  subst hc hsd
  have a1 : w.cell? ⟨p, 0, none⟩ = some (.int .i64 days) := (blk_cell hp 0).trans rfl
  have c8 : w.cell? ⟨b, 8, none⟩ = some (.int .i64 0) := (blk_cell h 8).trans rfl
  have B := Aside0.mk h
  have P := Aside0.mk hp
  have d1 : decide (days < 0) = false := decide_eq_false (by omega)
  have d2 : decide (87658 < days) = false := decide_eq_false (by omega)
  have l1 : w.cell? ⟨b, 1, none⟩ = some (.int .i64 pr) := (blk_cell h 1).trans rfl
  have l2 : w.cell? ⟨b, 2, none⟩ = some (.int .i64 it) := (blk_cell h 2).trans rfl
  have l3 : w.cell? ⟨b, 3, none⟩ = some (.int .i64 su) := (blk_cell h 3).trans rfl
  have l5 : w.cell? ⟨b, 5, none⟩ = some (.int .i64 ppm) := (blk_cell h 5).trans rfl
  have l7 : w.cell? ⟨b, 7, none⟩ = some (.int .i64 st) := (blk_cell h 7).trans rfl
  have l6 : w.cell? ⟨b, 6, none⟩ = some (.bool true) := (blk_cell h 6).trans rfl
  have e1 : decide (st ≤ 3) = false := decide_eq_false (by omega)
  have H1 := Aside0.mk h1
  have NE := Aside0.mk hpb
  have HX := Aside0.mk hx
  clear hx
  clear h hp hd hpb h1 hs
  go_enter Try.func47, Try.ntmps47
  go_wp2_with (go_at_call 30; (with_reducible refine (loan_does.stop_ok 1 false _ (.inr rfl)).mono ?_); rintro e w' ⟨rfl, ⟨nd, rfl⟩⟩)
  refine wp_region_held_drew (S := fun W => W.cell? ⟨p, 0, none⟩ = some (.int .i64 days) ∧ W.cell? ⟨b, 2, none⟩ = some (.int .i64 it) ∧ W.cell? ⟨b, 1, none⟩ = some (.int .i64 pr) ∧ W.cell? ⟨b, 5, none⟩ = some (.int .i64 ppm)) (by kernel_rfl) ⟨a1, l2, l1, l5⟩ (fun hHeld => ?_)
  first | refine loan_does.tg 0 ?_ | refine loan_does.tk 0 ?_
  first | refine loan_does.tg 1 ?_ | refine loan_does.tk 1 ?_
  first | refine loan_does.tg 2 ?_ | refine loan_does.tk 2 ?_
  try simp only [Act.put, getElem_toArray, getElem_cons_zero, getElem_cons_succ, setIfInBounds_toArray, set_cons_zero, set_cons_succ]
  first | refine loan_does.tg 3 ?_ | refine loan_does.tk 3 ?_
  first | refine loan_does.tg 4 ?_ | refine loan_does.tk 4 ?_
  first | refine loan_does.tg 5 ?_ | refine loan_does.tk 5 ?_
  try simp only [Act.put, getElem_toArray, getElem_cons_zero, getElem_cons_succ, setIfInBounds_toArray, set_cons_zero, set_cons_succ]
  first | refine loan_does.tg 6 ?_ | refine loan_does.tk 6 ?_
  first | refine loan_does.tg 7 ?_ | refine loan_does.tk 7 ?_
  first | refine loan_does.tg 8 ?_ | refine loan_does.tk 8 ?_
  try simp only [Act.put, getElem_toArray, getElem_cons_zero, getElem_cons_succ, setIfInBounds_toArray, set_cons_zero, set_cons_succ]
  first | refine loan_does.tg 9 ?_ | refine loan_does.tk 9 ?_
  first | refine loan_does.tg 10 ?_ | refine loan_does.tk 10 ?_
  first | refine loan_does.tg 11 ?_ | refine loan_does.tk 11 ?_
  try simp only [Act.put, getElem_toArray, getElem_cons_zero, getElem_cons_succ, setIfInBounds_toArray, set_cons_zero, set_cons_succ]
  refine wpAnyH_ready (rs := [12]) (by kernel_rfl) (by simp) ?_
  refine AllReadyH.cons rfl (fun K hK => ?_) AllReadyH.nil
  go_simp
  go_wp2_with (go_at_call 48; (refine (accrue_Add.calls k it pr ppm days n x _ H1.out).mono ?_); rintro e w1 ⟨rfl, hb⟩)
  have B1 := (hb.block b (blk_lt B.out)).trans B.out
  have P1 := (hb.block p (blk_lt P.out)).trans P.out
  have NN : Aside0 (loan_does.Near b b w w1) := ⟨⟨hb.os, hb.tape, hb.output, hb.size, fun k hk _ _ => hb.block k hk⟩⟩
  refine hK.out _ _ ⟨(blk_cell P1 0).trans rfl, (blk_cell B1 2).trans rfl, (blk_cell B1 1).trans rfl, (blk_cell B1 5).trans rfl⟩ (fun hHeld1 => ?_)
  clear hK K
  try simp only [Act.put, getElem_toArray, getElem_cons_zero, getElem_cons_succ, setIfInBounds_toArray, set_cons_zero, set_cons_succ]
  first | refine loan_does.tg 13 ?_ | refine loan_does.tk 13 ?_
  first | refine loan_does.tg 14 ?_ | refine loan_does.tk 14 ?_
  first | refine loan_does.tg 15 ?_ | refine loan_does.tk 15 ?_
  try simp only [Act.put, getElem_toArray, getElem_cons_zero, getElem_cons_succ, setIfInBounds_toArray, set_cons_zero, set_cons_succ]
  first | refine loan_does.tg 16 ?_ | refine loan_does.tk 16 ?_
  first | refine loan_does.tg 17 ?_ | refine loan_does.tk 17 ?_
  try simp only [Act.put, getElem_toArray, getElem_cons_zero, getElem_cons_succ, setIfInBounds_toArray, set_cons_zero, set_cons_succ]
  refine wpAnyH_done (by kernel_rfl) ?_ _
  have m1 : w1.cell? ⟨b, 2, none⟩ = some (.int .i64 it) := (blk_cell B1 2).trans rfl
  have g1 := blk_frozen B1 2
  have BB := Aside0.mk B1
  clear hHeld hHeld1 hb B1 P1 a1 c8 l1 l2 l3 l5 l6 l7
  go_wp2_with (go_at_call 30; (with_reducible refine (loan_does.stop_bad x _ HX.out).mono ?_); rintro e w' ⟨rfl, ⟨nd, rfl⟩⟩)
  exact ⟨rfl, rfl, NN.out.drewN _⟩
set_option maxHeartbeats 8000000 in
set_option maxRecDepth 100000 in
theorem loan_Accrue.in_plain_ok (b : Nat) (id pr it su fe ppm : Int) (sd : Bool) (st cl en le fa ct : Int) (w : World) (h : w.heap[b]? = some (.cells (loanC id pr it su fe ppm sd st cl en le fa ct) 23 (0, 0))) (p : Nat) (days : Int) (hp : w.heap[p]? = some (.cells #[.int .i64 days] 3 (0, 0))) (hd : 0 ≤ days ∧ days ≤ 87658) (hc : cl = 0) (hsd : sd = false)  (hpb : p ≠ b) (k : Nat) (n x : Int) (h1 : accrue_Add.f k it pr ppm days = some (n, x)) (hx : x = 0) :
    Calls Try.prog 47 #[.pointer (some ⟨b, 0, none⟩), .pointer (some ⟨p, 0, none⟩)] w fun e w' => e = .returned (.tuple #[]) ∧ w'.heap[b]? = some (.cells (loanC id pr n su fe ppm sd st cl en le fa ct) 23 (0, 0)) ∧ loan_does.Near b b w w' := by
  subst hc hsd hx
  have a1 : w.cell? ⟨p, 0, none⟩ = some (.int .i64 days) := (blk_cell hp 0).trans rfl
  have c8 : w.cell? ⟨b, 8, none⟩ = some (.int .i64 0) := (blk_cell h 8).trans rfl
  have B := Aside0.mk h
  have P := Aside0.mk hp
  have d1 : decide (days < 0) = false := decide_eq_false (by omega)
  have d2 : decide (87658 < days) = false := decide_eq_false (by omega)
  have l1 : w.cell? ⟨b, 1, none⟩ = some (.int .i64 pr) := (blk_cell h 1).trans rfl
  have l2 : w.cell? ⟨b, 2, none⟩ = some (.int .i64 it) := (blk_cell h 2).trans rfl
  have l3 : w.cell? ⟨b, 3, none⟩ = some (.int .i64 su) := (blk_cell h 3).trans rfl
  have l5 : w.cell? ⟨b, 5, none⟩ = some (.int .i64 ppm) := (blk_cell h 5).trans rfl
  have l7 : w.cell? ⟨b, 7, none⟩ = some (.int .i64 st) := (blk_cell h 7).trans rfl
  have l6 : w.cell? ⟨b, 6, none⟩ = some (.bool false) := (blk_cell h 6).trans rfl
  have H1 := Aside0.mk h1
  have NE := Aside0.mk hpb
  clear h hp hd hpb h1
  go_enter Try.func47, Try.ntmps47
  go_wp2_with (go_at_call 30; (with_reducible refine (loan_does.stop_ok 1 false _ (.inr rfl)).mono ?_); rintro e w' ⟨rfl, ⟨nd, rfl⟩⟩)
  refine wp_region_held_drew (S := fun W => W.cell? ⟨p, 0, none⟩ = some (.int .i64 days) ∧ W.cell? ⟨b, 2, none⟩ = some (.int .i64 it) ∧ W.cell? ⟨b, 1, none⟩ = some (.int .i64 pr) ∧ W.cell? ⟨b, 5, none⟩ = some (.int .i64 ppm)) (by kernel_rfl) ⟨a1, l2, l1, l5⟩ (fun hHeld => ?_)
  first | refine loan_does.tg 0 ?_ | refine loan_does.tk 0 ?_
  first | refine loan_does.tg 1 ?_ | refine loan_does.tk 1 ?_
  first | refine loan_does.tg 2 ?_ | refine loan_does.tk 2 ?_
  try simp only [Act.put, getElem_toArray, getElem_cons_zero, getElem_cons_succ, setIfInBounds_toArray, set_cons_zero, set_cons_succ]
  first | refine loan_does.tg 3 ?_ | refine loan_does.tk 3 ?_
  first | refine loan_does.tg 4 ?_ | refine loan_does.tk 4 ?_
  first | refine loan_does.tg 5 ?_ | refine loan_does.tk 5 ?_
  try simp only [Act.put, getElem_toArray, getElem_cons_zero, getElem_cons_succ, setIfInBounds_toArray, set_cons_zero, set_cons_succ]
  first | refine loan_does.tg 6 ?_ | refine loan_does.tk 6 ?_
  first | refine loan_does.tg 7 ?_ | refine loan_does.tk 7 ?_
  first | refine loan_does.tg 8 ?_ | refine loan_does.tk 8 ?_
  try simp only [Act.put, getElem_toArray, getElem_cons_zero, getElem_cons_succ, setIfInBounds_toArray, set_cons_zero, set_cons_succ]
  first | refine loan_does.tg 9 ?_ | refine loan_does.tk 9 ?_
  first | refine loan_does.tg 10 ?_ | refine loan_does.tk 10 ?_
  first | refine loan_does.tg 11 ?_ | refine loan_does.tk 11 ?_
  try simp only [Act.put, getElem_toArray, getElem_cons_zero, getElem_cons_succ, setIfInBounds_toArray, set_cons_zero, set_cons_succ]
  refine wpAnyH_ready (rs := [12]) (by kernel_rfl) (by simp) ?_
  refine AllReadyH.cons rfl (fun K hK => ?_) AllReadyH.nil
  go_simp
  go_wp2_with (go_at_call 48; (refine (accrue_Add.calls k it pr ppm days n 0 _ H1.out).mono ?_); rintro e w1 ⟨rfl, hb⟩)
  have B1 := (hb.block b (blk_lt B.out)).trans B.out
  have P1 := (hb.block p (blk_lt P.out)).trans P.out
  have NN : Aside0 (loan_does.Near b b w w1) := ⟨⟨hb.os, hb.tape, hb.output, hb.size, fun k hk _ _ => hb.block k hk⟩⟩
  refine hK.out _ _ ⟨(blk_cell P1 0).trans rfl, (blk_cell B1 2).trans rfl, (blk_cell B1 1).trans rfl, (blk_cell B1 5).trans rfl⟩ (fun hHeld1 => ?_)
  clear hK K
  try simp only [Act.put, getElem_toArray, getElem_cons_zero, getElem_cons_succ, setIfInBounds_toArray, set_cons_zero, set_cons_succ]
  first | refine loan_does.tg 13 ?_ | refine loan_does.tk 13 ?_
  first | refine loan_does.tg 14 ?_ | refine loan_does.tk 14 ?_
  first | refine loan_does.tg 15 ?_ | refine loan_does.tk 15 ?_
  try simp only [Act.put, getElem_toArray, getElem_cons_zero, getElem_cons_succ, setIfInBounds_toArray, set_cons_zero, set_cons_succ]
  first | refine loan_does.tg 16 ?_ | refine loan_does.tk 16 ?_
  first | refine loan_does.tg 17 ?_ | refine loan_does.tk 17 ?_
  try simp only [Act.put, getElem_toArray, getElem_cons_zero, getElem_cons_succ, setIfInBounds_toArray, set_cons_zero, set_cons_succ]
  refine wpAnyH_done (by kernel_rfl) ?_ _
  have m1 : w1.cell? ⟨b, 2, none⟩ = some (.int .i64 it) := (blk_cell B1 2).trans rfl
  have g1 := blk_frozen B1 2
  have BB := Aside0.mk B1
  clear hHeld hHeld1 hb B1 P1 a1 c8 l1 l2 l3 l5 l6 l7
  go_wp2_with (go_at_call 30; (with_reducible refine (loan_does.stop_ok 0 true _ (.inl rfl)).mono ?_); rintro e w' ⟨rfl, ⟨nd, rfl⟩⟩)
  first | go_end0 | ((try simp only [Exit.inBlock, Exit.then]); refine bodyPost_ret (results_none rfl _ _ _) rfl ?_)
  exact ⟨by first | rfl | (simp; done), blk_put (blk_drewN BB.out _) 2 _ rfl, (NN.out.drewN _).put _ _ rfl⟩
set_option maxHeartbeats 8000000 in
set_option maxRecDepth 100000 in
theorem loan_Accrue.in_plain_err (b : Nat) (id pr it su fe ppm : Int) (sd : Bool) (st cl en le fa ct : Int) (w : World) (h : w.heap[b]? = some (.cells (loanC id pr it su fe ppm sd st cl en le fa ct) 23 (0, 0))) (p : Nat) (days : Int) (hp : w.heap[p]? = some (.cells #[.int .i64 days] 3 (0, 0))) (hd : 0 ≤ days ∧ days ≤ 87658) (hc : cl = 0) (hsd : sd = false)  (hpb : p ≠ b) (k : Nat) (n x : Int) (h1 : accrue_Add.f k it pr ppm days = some (n, x)) (hx : x ≠ 0) :
    Calls Try.prog 47 #[.pointer (some ⟨b, 0, none⟩), .pointer (some ⟨p, 0, none⟩)] w fun e w' => e = .panicked [{ v := .iface 25 (.int .i64 x), recovered := false }] ∧ loan_does.Near b b w w' := by
  subst hc hsd
  have a1 : w.cell? ⟨p, 0, none⟩ = some (.int .i64 days) := (blk_cell hp 0).trans rfl
  have c8 : w.cell? ⟨b, 8, none⟩ = some (.int .i64 0) := (blk_cell h 8).trans rfl
  have B := Aside0.mk h
  have P := Aside0.mk hp
  have d1 : decide (days < 0) = false := decide_eq_false (by omega)
  have d2 : decide (87658 < days) = false := decide_eq_false (by omega)
  have l1 : w.cell? ⟨b, 1, none⟩ = some (.int .i64 pr) := (blk_cell h 1).trans rfl
  have l2 : w.cell? ⟨b, 2, none⟩ = some (.int .i64 it) := (blk_cell h 2).trans rfl
  have l3 : w.cell? ⟨b, 3, none⟩ = some (.int .i64 su) := (blk_cell h 3).trans rfl
  have l5 : w.cell? ⟨b, 5, none⟩ = some (.int .i64 ppm) := (blk_cell h 5).trans rfl
  have l7 : w.cell? ⟨b, 7, none⟩ = some (.int .i64 st) := (blk_cell h 7).trans rfl
  have l6 : w.cell? ⟨b, 6, none⟩ = some (.bool false) := (blk_cell h 6).trans rfl
  have H1 := Aside0.mk h1
  have NE := Aside0.mk hpb
  have HX := Aside0.mk hx
  clear hx
  clear h hp hd hpb h1
  go_enter Try.func47, Try.ntmps47
  go_wp2_with (go_at_call 30; (with_reducible refine (loan_does.stop_ok 1 false _ (.inr rfl)).mono ?_); rintro e w' ⟨rfl, ⟨nd, rfl⟩⟩)
  refine wp_region_held_drew (S := fun W => W.cell? ⟨p, 0, none⟩ = some (.int .i64 days) ∧ W.cell? ⟨b, 2, none⟩ = some (.int .i64 it) ∧ W.cell? ⟨b, 1, none⟩ = some (.int .i64 pr) ∧ W.cell? ⟨b, 5, none⟩ = some (.int .i64 ppm)) (by kernel_rfl) ⟨a1, l2, l1, l5⟩ (fun hHeld => ?_)
  first | refine loan_does.tg 0 ?_ | refine loan_does.tk 0 ?_
  first | refine loan_does.tg 1 ?_ | refine loan_does.tk 1 ?_
  first | refine loan_does.tg 2 ?_ | refine loan_does.tk 2 ?_
  try simp only [Act.put, getElem_toArray, getElem_cons_zero, getElem_cons_succ, setIfInBounds_toArray, set_cons_zero, set_cons_succ]
  first | refine loan_does.tg 3 ?_ | refine loan_does.tk 3 ?_
  first | refine loan_does.tg 4 ?_ | refine loan_does.tk 4 ?_
  first | refine loan_does.tg 5 ?_ | refine loan_does.tk 5 ?_
  try simp only [Act.put, getElem_toArray, getElem_cons_zero, getElem_cons_succ, setIfInBounds_toArray, set_cons_zero, set_cons_succ]
  first | refine loan_does.tg 6 ?_ | refine loan_does.tk 6 ?_
  first | refine loan_does.tg 7 ?_ | refine loan_does.tk 7 ?_
  first | refine loan_does.tg 8 ?_ | refine loan_does.tk 8 ?_
  try simp only [Act.put, getElem_toArray, getElem_cons_zero, getElem_cons_succ, setIfInBounds_toArray, set_cons_zero, set_cons_succ]
  first | refine loan_does.tg 9 ?_ | refine loan_does.tk 9 ?_
  first | refine loan_does.tg 10 ?_ | refine loan_does.tk 10 ?_
  first | refine loan_does.tg 11 ?_ | refine loan_does.tk 11 ?_
  try simp only [Act.put, getElem_toArray, getElem_cons_zero, getElem_cons_succ, setIfInBounds_toArray, set_cons_zero, set_cons_succ]
  refine wpAnyH_ready (rs := [12]) (by kernel_rfl) (by simp) ?_
  refine AllReadyH.cons rfl (fun K hK => ?_) AllReadyH.nil
  go_simp
  go_wp2_with (go_at_call 48; (refine (accrue_Add.calls k it pr ppm days n x _ H1.out).mono ?_); rintro e w1 ⟨rfl, hb⟩)
  have B1 := (hb.block b (blk_lt B.out)).trans B.out
  have P1 := (hb.block p (blk_lt P.out)).trans P.out
  have NN : Aside0 (loan_does.Near b b w w1) := ⟨⟨hb.os, hb.tape, hb.output, hb.size, fun k hk _ _ => hb.block k hk⟩⟩
  refine hK.out _ _ ⟨(blk_cell P1 0).trans rfl, (blk_cell B1 2).trans rfl, (blk_cell B1 1).trans rfl, (blk_cell B1 5).trans rfl⟩ (fun hHeld1 => ?_)
  clear hK K
  try simp only [Act.put, getElem_toArray, getElem_cons_zero, getElem_cons_succ, setIfInBounds_toArray, set_cons_zero, set_cons_succ]
  first | refine loan_does.tg 13 ?_ | refine loan_does.tk 13 ?_
  first | refine loan_does.tg 14 ?_ | refine loan_does.tk 14 ?_
  first | refine loan_does.tg 15 ?_ | refine loan_does.tk 15 ?_
  try simp only [Act.put, getElem_toArray, getElem_cons_zero, getElem_cons_succ, setIfInBounds_toArray, set_cons_zero, set_cons_succ]
  first | refine loan_does.tg 16 ?_ | refine loan_does.tk 16 ?_
  first | refine loan_does.tg 17 ?_ | refine loan_does.tk 17 ?_
  try simp only [Act.put, getElem_toArray, getElem_cons_zero, getElem_cons_succ, setIfInBounds_toArray, set_cons_zero, set_cons_succ]
  refine wpAnyH_done (by kernel_rfl) ?_ _
  have m1 : w1.cell? ⟨b, 2, none⟩ = some (.int .i64 it) := (blk_cell B1 2).trans rfl
  have g1 := blk_frozen B1 2
  have BB := Aside0.mk B1
  clear hHeld hHeld1 hb B1 P1 a1 c8 l1 l2 l3 l5 l6 l7
  go_wp2_with (go_at_call 30; (with_reducible refine (loan_does.stop_bad x _ HX.out).mono ?_); rintro e w' ⟨rfl, ⟨nd, rfl⟩⟩)
  exact ⟨rfl, rfl, NN.out.drewN _⟩
def loan_Accrue.f (k : Nat) (id pr it su fe ppm : Int) (sd : Bool) (st cl en le fa ct : Int) (days : Int) : Option (Int × Int × Int × Int × Int × Int × Bool × Int × Int × Int × Int × Int × Int × Int) := (loan_Good.f k id pr it su fe ppm sd st cl en le fa ct).bind fun g =>
  if g = true then (if days < 0 ∨ 87658 < days then some (0, 0, 0, 0, 0, 0, false, 0, 0, 0, 0, 0, 0, 1) else if ¬ cl = 0 then some (id, pr, it, su, fe, ppm, sd, st, cl, en, le, fa, ct, 0) else (accrue_Add.f k (if sd = true ∧ st ≤ 3 then su else it) pr ppm days).bind fun q => (if q.2 = 0 then (if sd = true ∧ st ≤ 3 then some (id, pr, it, q.1, fe, ppm, sd, st, cl, en, le, fa, ct, 0) else some (id, pr, q.1, su, fe, ppm, sd, st, cl, en, le, fa, ct, 0)) else some (0, 0, 0, 0, 0, 0, false, 0, 0, 0, 0, 0, 0, q.2))) else some (0, 0, 0, 0, 0, 0, false, 0, 0, 0, 0, 0, 0, 1)
theorem loan_Accrue.mono : ∀ (id pr it su fe ppm : Int) (sd : Bool) (st cl en le fa ct : Int) (days : Int) k, LeO (loan_Accrue.f k id pr it su fe ppm sd st cl en le fa ct days) (loan_Accrue.f (k + 1) id pr it su fe ppm sd st cl en le fa ct days) := by
  intro id pr it su fe ppm sd st cl en le fa ct days k
  unfold loan_Accrue.f
  exact LeO.bind (loan_Good.mono _ _ _ _ _ _ _ _ _ _ _ _ _ _) (fun _ => LeO.ite (LeO.ite (LeO.refl _) (LeO.ite (LeO.refl _) (LeO.bind (accrue_Add.mono _ _ _ _ _) (fun _ => LeO.refl _)))) (LeO.refl _))
set_option maxHeartbeats 8000000 in
set_option maxRecDepth 100000 in
theorem loan_Accrue.calls (k : Nat) (id pr it su fe ppm : Int) (sd : Bool) (st cl en le fa ct : Int) (days : Int) (r1 : Int) (r2 : Int) (r3 : Int) (r4 : Int) (r5 : Int) (r6 : Int) (r7 : Bool) (r8 : Int) (r9 : Int) (r10 : Int) (r11 : Int) (r12 : Int) (r13 : Int) (r14 : Int) (w : World) (h : loan_Accrue.f k id pr it su fe ppm sd st cl en le fa ct days = some (r1, r2, r3, r4, r5, r6, r7, r8, r9, r10, r11, r12, r13, r14)) :
    Calls Try.prog 22 #[.agg #[.int .i64 id, .int .i64 pr, .int .i64 it, .int .i64 su, .int .i64 fe, .int .i64 ppm, .bool sd, .int .i64 st, .int .i64 cl, .int .i64 en, .int .i64 le, .int .i64 fa, .int .i64 ct], .int .i64 days] w fun e w' => e = .returned (.tuple #[.agg #[.int .i64 r1, .int .i64 r2, .int .i64 r3, .int .i64 r4, .int .i64 r5, .int .i64 r6, .bool r7, .int .i64 r8, .int .i64 r9, .int .i64 r10, .int .i64 r11, .int .i64 r12, .int .i64 r13], .int .i64 r14]) ∧ Below w.heap.size w w' := by
  have hf : ∀ args W, (callFunc 47 args).run Try.prog W = .ok (.enter 47 args) W := fun _ _ => by rfl
  unfold loan_Accrue.f at h
  obtain ⟨g, hg, h⟩ := Option.bind_eq_some_iff.mp h
  apply loan_Accrue.by_
  intro W hA hW
  have l1 := blk_lt hA
  cases g with
  | false =>
    rw [if_neg (by simp)] at h
    simp only [Option.some.injEq, Prod.mk.injEq] at h
    obtain ⟨rfl, rfl, rfl, rfl, rfl, rfl, rfl, rfl, rfl, rfl, rfl, rfl, rfl, rfl⟩ := h
    exact loan_does.not_good k _ _ _ _ _ _ _ _ _ _ _ _ _ _ W hg
  | true =>
    rw [if_pos rfl] at h
    by_cases cd : days < 0 ∨ 87658 < days
    · rw [if_pos cd] at h
      by_cases cd1 : days < 0
      · skip
        simp only [Option.some.injEq, Prod.mk.injEq] at h
        obtain ⟨rfl, rfl, rfl, rfl, rfl, rfl, rfl, rfl, rfl, rfl, rfl, rfl, rfl, rfl⟩ := h
        refine (loan_does.good_bad k id pr it su fe ppm sd st cl en le fa ct 47 #[.pointer (some ⟨w.heap.size + 1, 0, none⟩)] 1 W.heap.size (.cells #[] 0 (0, 0)) W (Nat.le_refl _) hf hg (fun V hV _ hb => ?_)).mono (fun e w' ⟨h1, h2, _⟩ => ⟨h1, h2.below⟩)
        exact (loan_Accrue.in_days1 W.heap.size id pr it su fe ppm sd st cl en le fa ct V hV _ days (loan_does.kept hb hA) cd1).mono (fun e w' ⟨h1, h3⟩ => ⟨h1, h3, fun h => absurd h (Nat.lt_irrefl _)⟩)
      simp only [Option.some.injEq, Prod.mk.injEq] at h
      obtain ⟨rfl, rfl, rfl, rfl, rfl, rfl, rfl, rfl, rfl, rfl, rfl, rfl, rfl, rfl⟩ := h
      refine (loan_does.good_bad k id pr it su fe ppm sd st cl en le fa ct 47 #[.pointer (some ⟨w.heap.size + 1, 0, none⟩)] 1 W.heap.size (.cells #[] 0 (0, 0)) W (Nat.le_refl _) hf hg (fun V hV _ hb => ?_)).mono (fun e w' ⟨h1, h2, _⟩ => ⟨h1, h2.below⟩)
      exact (loan_Accrue.in_days2 W.heap.size id pr it su fe ppm sd st cl en le fa ct V hV _ days (loan_does.kept hb hA) (by omega)).mono (fun e w' ⟨h1, h3⟩ => ⟨h1, h3, fun h => absurd h (Nat.lt_irrefl _)⟩)
    · rw [if_neg cd] at h
      by_cases cc : ¬ cl = 0
      · rw [if_pos cc] at h
        simp only [Option.some.injEq, Prod.mk.injEq] at h
        obtain ⟨rfl, rfl, rfl, rfl, rfl, rfl, rfl, rfl, rfl, rfl, rfl, rfl, rfl, rfl⟩ := h
        refine (loan_does.good_ok k id pr it su fe ppm sd st cl en le fa ct 47 #[.pointer (some ⟨w.heap.size + 1, 0, none⟩)] _ _ _ _ _ _ _ _ _ _ _ _ _ W.heap.size (.cells #[] 0 (0, 0)) W (Nat.le_refl _) hf hg (fun V hV _ hb => ?_)).mono (fun e w' ⟨h1, h2, _⟩ => ⟨h1, h2.below⟩)
        exact (loan_Accrue.in_closed W.heap.size id pr it su fe ppm sd st cl en le fa ct V hV _ days (loan_does.kept hb hA) (by omega) cc).mono (fun e w' ⟨h1, h2, h3⟩ => ⟨h1, h2, h3, fun h => absurd h (Nat.lt_irrefl _)⟩)
      · rw [if_neg cc] at h
        have cc0 : cl = 0 := Decidable.not_not.mp cc
        obtain ⟨⟨x, e⟩, hp, h⟩ := Option.bind_eq_some_iff.mp h
        simp only at h
        by_cases cs : sd = true ∧ st ≤ 3
        · rw [if_pos cs] at hp h
          by_cases ce : e = 0
          · rw [if_pos ce] at h
            subst ce
            simp only [Option.some.injEq, Prod.mk.injEq] at h
            obtain ⟨rfl, rfl, rfl, rfl, rfl, rfl, rfl, rfl, rfl, rfl, rfl, rfl, rfl, rfl⟩ := h
            refine (loan_does.good_ok k id pr it su fe ppm sd st cl en le fa ct 47 #[.pointer (some ⟨w.heap.size + 1, 0, none⟩)] _ _ _ _ _ _ _ _ _ _ _ _ _ W.heap.size (.cells #[] 0 (0, 0)) W (Nat.le_refl _) hf hg (fun V hV _ hb => ?_)).mono (fun e w' ⟨h1, h2, _⟩ => ⟨h1, h2.below⟩)
            exact (loan_Accrue.in_subs_ok W.heap.size id pr it su fe ppm sd st cl en le fa ct V hV _ days (loan_does.kept hb hA) (by omega) cc0 cs.1 cs.2 (by omega) k _ _ hp rfl).mono (fun e w' ⟨h1, h2, h3⟩ => ⟨h1, h2, h3, fun h => absurd h (Nat.lt_irrefl _)⟩)
          · rw [if_neg ce] at h
            simp only [Option.some.injEq, Prod.mk.injEq] at h
            obtain ⟨rfl, rfl, rfl, rfl, rfl, rfl, rfl, rfl, rfl, rfl, rfl, rfl, rfl, rfl⟩ := h
            refine (loan_does.good_bad k id pr it su fe ppm sd st cl en le fa ct 47 #[.pointer (some ⟨w.heap.size + 1, 0, none⟩)] e W.heap.size (.cells #[] 0 (0, 0)) W (Nat.le_refl _) hf hg (fun V hV _ hb => ?_)).mono (fun e w' ⟨h1, h2, _⟩ => ⟨h1, h2.below⟩)
            exact (loan_Accrue.in_subs_err W.heap.size id pr it su fe ppm sd st cl en le fa ct V hV _ days (loan_does.kept hb hA) (by omega) cc0 cs.1 cs.2 (by omega) k _ _ hp ce).mono (fun e w' ⟨h1, h3⟩ => ⟨h1, h3, fun h => absurd h (Nat.lt_irrefl _)⟩)
        · rw [if_neg cs] at hp h
          by_cases ce : e = 0
          · rw [if_pos ce] at h
            subst ce
            by_cases cp : sd = true
            · have c3 : 3 < st := by have : ¬ st ≤ 3 := fun x => cs ⟨cp, x⟩; omega
              simp only [Option.some.injEq, Prod.mk.injEq] at h
              obtain ⟨rfl, rfl, rfl, rfl, rfl, rfl, rfl, rfl, rfl, rfl, rfl, rfl, rfl, rfl⟩ := h
              refine (loan_does.good_ok k id pr it su fe ppm sd st cl en le fa ct 47 #[.pointer (some ⟨w.heap.size + 1, 0, none⟩)] _ _ _ _ _ _ _ _ _ _ _ _ _ W.heap.size (.cells #[] 0 (0, 0)) W (Nat.le_refl _) hf hg (fun V hV _ hb => ?_)).mono (fun e w' ⟨h1, h2, _⟩ => ⟨h1, h2.below⟩)
              exact (loan_Accrue.in_nosub_ok W.heap.size id pr it su fe ppm sd st cl en le fa ct V hV _ days (loan_does.kept hb hA) (by omega) cc0 cp c3 (by omega) k _ _ hp rfl).mono (fun e w' ⟨h1, h2, h3⟩ => ⟨h1, h2, h3, fun h => absurd h (Nat.lt_irrefl _)⟩)
            · have cp := Bool.eq_false_iff.mpr cp
              simp only [Option.some.injEq, Prod.mk.injEq] at h
              obtain ⟨rfl, rfl, rfl, rfl, rfl, rfl, rfl, rfl, rfl, rfl, rfl, rfl, rfl, rfl⟩ := h
              refine (loan_does.good_ok k id pr it su fe ppm sd st cl en le fa ct 47 #[.pointer (some ⟨w.heap.size + 1, 0, none⟩)] _ _ _ _ _ _ _ _ _ _ _ _ _ W.heap.size (.cells #[] 0 (0, 0)) W (Nat.le_refl _) hf hg (fun V hV _ hb => ?_)).mono (fun e w' ⟨h1, h2, _⟩ => ⟨h1, h2.below⟩)
              exact (loan_Accrue.in_plain_ok W.heap.size id pr it su fe ppm sd st cl en le fa ct V hV _ days (loan_does.kept hb hA) (by omega) cc0 cp (by omega) k _ _ hp rfl).mono (fun e w' ⟨h1, h2, h3⟩ => ⟨h1, h2, h3, fun h => absurd h (Nat.lt_irrefl _)⟩)
          · rw [if_neg ce] at h
            by_cases cp : sd = true
            · have c3 : 3 < st := by have : ¬ st ≤ 3 := fun x => cs ⟨cp, x⟩; omega
              simp only [Option.some.injEq, Prod.mk.injEq] at h
              obtain ⟨rfl, rfl, rfl, rfl, rfl, rfl, rfl, rfl, rfl, rfl, rfl, rfl, rfl, rfl⟩ := h
              refine (loan_does.good_bad k id pr it su fe ppm sd st cl en le fa ct 47 #[.pointer (some ⟨w.heap.size + 1, 0, none⟩)] e W.heap.size (.cells #[] 0 (0, 0)) W (Nat.le_refl _) hf hg (fun V hV _ hb => ?_)).mono (fun e w' ⟨h1, h2, _⟩ => ⟨h1, h2.below⟩)
              exact (loan_Accrue.in_nosub_err W.heap.size id pr it su fe ppm sd st cl en le fa ct V hV _ days (loan_does.kept hb hA) (by omega) cc0 cp c3 (by omega) k _ _ hp ce).mono (fun e w' ⟨h1, h3⟩ => ⟨h1, h3, fun h => absurd h (Nat.lt_irrefl _)⟩)
            · have cp := Bool.eq_false_iff.mpr cp
              simp only [Option.some.injEq, Prod.mk.injEq] at h
              obtain ⟨rfl, rfl, rfl, rfl, rfl, rfl, rfl, rfl, rfl, rfl, rfl, rfl, rfl, rfl⟩ := h
              refine (loan_does.good_bad k id pr it su fe ppm sd st cl en le fa ct 47 #[.pointer (some ⟨w.heap.size + 1, 0, none⟩)] e W.heap.size (.cells #[] 0 (0, 0)) W (Nat.le_refl _) hf hg (fun V hV _ hb => ?_)).mono (fun e w' ⟨h1, h2, _⟩ => ⟨h1, h2.below⟩)
              exact (loan_Accrue.in_plain_err W.heap.size id pr it su fe ppm sd st cl en le fa ct V hV _ days (loan_does.kept hb hA) (by omega) cc0 cp (by omega) k _ _ hp ce).mono (fun e w' ⟨h1, h3⟩ => ⟨h1, h3, fun h => absurd h (Nat.lt_irrefl _)⟩)
end Go.Proofs.Ytmbenmiakjhgeaa.P
