/- Loans: contracts of the functions on loans, walked by hand. -/
import Derived.Test.YtmbenmiakjhgeaaZg
import Derived.Test.YtmbenmiakjhgeaaPx4
import Derived.Test.YtmbenmiakjhgeaaPx6
import Derived.Test.YtmbenmiakjhgeaaPx3
import Derived.Deep.RegionHeld3
import Derived.StillTailTactics
import Derived.BigQuiet
import Derived.Laws.CopyOwn
namespace Go.Proofs.Ytmbenmiakjhgeaa.P
open Go.RowKit Go.Proofs.YtmbenmiakjhgeaaW.PrintWords Go.Proofs.YtmbenmiakjhgeaaW.PrintLast Go.Proofs.YtmbenmiakjhgeaaW.PrintMore
attribute [local go_sem] max2_int min2_int max_two min_two max_three min_three max_four min_four   -- for this text's walks alone
open List (getElem_toArray getElem_cons_zero getElem_cons_succ setIfInBounds_toArray set_cons_zero set_cons_succ)
set_option linter.unusedVariables false
set_option linter.unusedSimpArgs false
set_option linter.unnecessarySimpa false
set_option maxHeartbeats 8000000 in
set_option maxRecDepth 100000 in
theorem loan_Turn.in_ok5 (b : Nat) (id pr it su fe ppm : Int) (sd : Bool) (st cl en le fa ct : Int) (w : World) (h : w.heap[b]? = some (.cells (loanC id pr it su fe ppm sd st cl en le fa ct) 23 (0, 0))) (p q : Nat) (day s : Int) (hp : w.heap[p]? = some (.cells #[.int .i64 day] 3 (0, 0))) (hq : w.heap[q]? = some (.cells #[.int .i64 s] 3 (0, 0))) (hd : 0 ≤ day ∧ day ≤ 87658) (hc : cl = 0) (hs : s = 5 ∧ s ≠ st) (hpb : p ≠ b) (hqb : q ≠ b) (n x : Int) (h1 : accrue_Whole.f it = some n) (h2 : money_Add.f pr n = some (x, 0)) (i0 : 0 ≤ it) (i1 : it ≤ 1000000000000000000) (n0 : 0 ≤ n) (n1 : n * 1000000 ≤ it) :
    Calls Try.prog 29 #[.pointer (some ⟨b, 0, none⟩), .pointer (some ⟨p, 0, none⟩), .pointer (some ⟨q, 0, none⟩)] w fun e w' => e = .returned (.tuple #[]) ∧ w'.heap[b]? = some (.cells (loanC id x (it - n * 1000000) su fe ppm sd s 0 day le fa ct) 23 (0, 0)) ∧ loan_does.Near b b w w' := by
  subst hc
  have a1 : w.cell? ⟨p, 0, none⟩ = some (.int .i64 day) := (blk_cell hp 0).trans rfl
  have a2 : w.cell? ⟨q, 0, none⟩ = some (.int .i64 s) := (blk_cell hq 0).trans rfl
  have c7 : w.cell? ⟨b, 7, none⟩ = some (.int .i64 st) := (blk_cell h 7).trans rfl
  have c9 : w.cell? ⟨b, 9, none⟩ = some (.int .i64 en) := (blk_cell h 9).trans rfl
  have f7 := blk_frozen h 7
  have f9 := blk_frozen h 9
  have B := Aside0.mk h
  have P := Aside0.mk hp
  have Q := Aside0.mk hq
  clear h hp hq
  have d1 : decide (day < 0) = false := decide_eq_false (by omega)
  have d2 : decide (87658 < day) = false := decide_eq_false (by omega)
  have e1 : decide (s < 1) = false := decide_eq_false (by omega)
  have e2 : decide (5 < s) = false := decide_eq_false (by omega)
  have e3 : (s == 1) = false := beq_eq_false_iff_ne.mpr (by omega)
  have e4 : (s == 2) = false := beq_eq_false_iff_ne.mpr (by omega)
  have e5 : (s == st) = false := beq_eq_false_iff_ne.mpr (by omega)
  have e6 : (s == 5) = true := beq_iff_eq.mpr (by omega)
  have H1 := Aside0.mk h1
  have H2 := Aside0.mk h2
  have HI := Aside0.mk (And.intro i0 (And.intro i1 (And.intro n0 n1)))
  clear h1 h2 i0 i1 n0 n1
  have NE := Aside0.mk (And.intro hpb hqb)
  clear hd hs hpb hqb
  go_enter Try.func29, Try.ntmps29
  go_wp2_with (first | (go_at_call 30; (with_reducible refine (loan_does.stop_ok 1 false _ (.inr rfl)).mono ?_); rintro e w' ⟨rfl, ⟨nd1, rfl⟩⟩) | (go_at_call 31; (with_reducible refine (loan_does.gone_ok b id pr it su fe ppm sd st en le fa ct _ (blk_drewN B.out _)).mono ?_); rintro e w' ⟨rfl, ⟨nd, rfl⟩⟩))
  have hS0 : (w.drewN (nd1 + nd)).drew.cell? ⟨q, 0, none⟩ = some (.int .i64 s) ∧ (w.drewN (nd1 + nd)).drew.cell? ⟨b, 7, none⟩ = some (.int .i64 st) ∧ (w.drewN (nd1 + nd)).drew.cell? ⟨b, 9, none⟩ = some (.int .i64 en) := ⟨a2, c7, c9⟩
  refine wp_region_held_drew (S := fun W => W.cell? ⟨q, 0, none⟩ = some (.int .i64 s) ∧ W.cell? ⟨b, 7, none⟩ = some (.int .i64 st) ∧ W.cell? ⟨b, 9, none⟩ = some (.int .i64 en)) (by kernel_rfl) hS0 (fun hHeld => ?_)
  first | refine loan_does.tg 0 ?_ | refine loan_does.tk 0 ?_
  first | refine loan_does.tg 1 ?_ | refine loan_does.tk 1 ?_
  first | refine loan_does.tg 2 ?_ | refine loan_does.tk 2 ?_
  try simp only [Act.put, getElem_toArray, getElem_cons_zero, getElem_cons_succ, setIfInBounds_toArray, set_cons_zero, set_cons_succ]
  first | refine loan_does.tg 3 ?_ | refine loan_does.tk 3 ?_
  first | refine loan_does.tg 4 ?_ | refine loan_does.tk 4 ?_
  first | refine loan_does.tg 5 ?_ | refine loan_does.tk 5 ?_
  try simp only [Act.put, getElem_toArray, getElem_cons_zero, getElem_cons_succ, setIfInBounds_toArray, set_cons_zero, set_cons_succ]
  first | refine loan_does.tg 6 ?_ | refine loan_does.tk 6 ?_
  first | refine loan_does.tg 7 ?_ | refine loan_does.tk 7 ?_
  first | refine loan_does.tg 8 ?_ | refine loan_does.tk 8 ?_
  try simp only [Act.put, getElem_toArray, getElem_cons_zero, getElem_cons_succ, setIfInBounds_toArray, set_cons_zero, set_cons_succ]
  first | refine loan_does.tg 9 ?_ | refine loan_does.tk 9 ?_
  first | refine loan_does.tg 10 ?_ | refine loan_does.tk 10 ?_
  first | refine loan_does.tg 11 ?_ | refine loan_does.tk 11 ?_
  try simp only [Act.put, getElem_toArray, getElem_cons_zero, getElem_cons_succ, setIfInBounds_toArray, set_cons_zero, set_cons_succ]
  first | refine loan_does.tg 12 ?_ | refine loan_does.tk 12 ?_
  first | refine loan_does.tg 13 ?_ | refine loan_does.tk 13 ?_
  first | refine loan_does.tg 14 ?_ | refine loan_does.tk 14 ?_
  try simp only [Act.put, getElem_toArray, getElem_cons_zero, getElem_cons_succ, setIfInBounds_toArray, set_cons_zero, set_cons_succ]
  first | refine loan_does.tg 15 ?_ | refine loan_does.tk 15 ?_
  first | refine loan_does.tg 16 ?_ | refine loan_does.tk 16 ?_
  first | refine loan_does.tg 17 ?_ | refine loan_does.tk 17 ?_
  try simp only [Act.put, getElem_toArray, getElem_cons_zero, getElem_cons_succ, setIfInBounds_toArray, set_cons_zero, set_cons_succ]
  first | refine loan_does.tg 18 ?_ | refine loan_does.tk 18 ?_
  first | refine loan_does.tg 19 ?_ | refine loan_does.tk 19 ?_
  first | refine loan_does.tg 20 ?_ | refine loan_does.tk 20 ?_
  try simp only [Act.put, getElem_toArray, getElem_cons_zero, getElem_cons_succ, setIfInBounds_toArray, set_cons_zero, set_cons_succ]
  first | refine loan_does.tg 21 ?_ | refine loan_does.tk 21 ?_
  first | refine loan_does.tg 22 ?_ | refine loan_does.tk 22 ?_
  first | refine loan_does.tg 23 ?_ | refine loan_does.tk 23 ?_
  try simp only [Act.put, getElem_toArray, getElem_cons_zero, getElem_cons_succ, setIfInBounds_toArray, set_cons_zero, set_cons_succ]
  first | refine loan_does.tg 24 ?_ | refine loan_does.tk 24 ?_
  first | refine loan_does.tg 25 ?_ | refine loan_does.tk 25 ?_
  first | refine loan_does.tg 26 ?_ | refine loan_does.tk 26 ?_
  try simp only [Act.put, getElem_toArray, getElem_cons_zero, getElem_cons_succ, setIfInBounds_toArray, set_cons_zero, set_cons_succ]
  first | refine loan_does.tg 27 ?_ | refine loan_does.tk 27 ?_
  first | refine loan_does.tg 28 ?_ | refine loan_does.tk 28 ?_
  first | refine loan_does.tg 29 ?_ | refine loan_does.tk 29 ?_
  try simp only [Act.put, getElem_toArray, getElem_cons_zero, getElem_cons_succ, setIfInBounds_toArray, set_cons_zero, set_cons_succ]
  first | refine loan_does.tg 30 ?_ | refine loan_does.tk 30 ?_
  first | refine loan_does.tg 31 ?_ | refine loan_does.tk 31 ?_
  first | refine loan_does.tg 32 ?_ | refine loan_does.tk 32 ?_
  try simp only [Act.put, getElem_toArray, getElem_cons_zero, getElem_cons_succ, setIfInBounds_toArray, set_cons_zero, set_cons_succ]
  first | refine loan_does.tg 33 ?_ | refine loan_does.tk 33 ?_
  first | refine loan_does.tg 34 ?_ | refine loan_does.tk 34 ?_
  try simp only [Act.put, getElem_toArray, getElem_cons_zero, getElem_cons_succ, setIfInBounds_toArray, set_cons_zero, set_cons_succ]
  refine wpAnyH_ready (rs := [35]) (by kernel_rfl) (by simp) ?_
  refine AllReadyH.cons rfl (fun K hK => ?_) AllReadyH.nil
  go_simp
  go_wp2_with (go_at_call 30; (with_reducible refine (loan_does.stop_ok 62 false _ (.inr rfl)).mono ?_); rintro e w' ⟨rfl, ⟨nd, rfl⟩⟩)
  refine hK.out _ _ ⟨a2, c7, c9⟩ (fun hHeld1 => ?_)
  clear hK K
  try simp only [Act.put, getElem_toArray, getElem_cons_zero, getElem_cons_succ, setIfInBounds_toArray, set_cons_zero, set_cons_succ]
  refine wpAnyH_done (by kernel_rfl) ?_ _
  clear hHeld hHeld1 hS0
  go_wp2_with (go_at_call 32; (with_reducible refine (loan_does.cap_ok b id pr it su fe ppm sd st 0 en le fa ct _ (blk_drewN B.out _) n x H1.out H2.out HI.out.1 HI.out.2.1 HI.out.2.2.1 HI.out.2.2.2).mono ?_); rintro e w1 ⟨rfl, hb, hN⟩; refine loan_does.MARK ?_)
  unfold loan_does.Mark
  have P1 : w1.heap[p]? = some (.cells #[.int .i64 day] 3 (0, 0)) := (hN.block p (blk_lt (blk_drewN P.out _)) NE.out.1 NE.out.1).trans (blk_drewN P.out _)
  have Q1 : w1.heap[q]? = some (.cells #[.int .i64 s] 3 (0, 0)) := (hN.block q (blk_lt (blk_drewN Q.out _)) NE.out.2 NE.out.2).trans (blk_drewN Q.out _)
  have m1 : w1.cell? ⟨p, 0, none⟩ = some (.int .i64 day) := (blk_cell P1 0).trans rfl
  have m9 : w1.cell? ⟨b, 9, none⟩ = some (.int .i64 en) := (blk_cell hb 9).trans rfl
  have g9 := blk_frozen hb 9
  have B2 : (w1.setCell ⟨b, 9, none⟩ (.int .i64 day)).heap[b]? = some (.cells (loanC id x (it - n * 1000000) su fe ppm sd st 0 day le fa ct) 23 (0, 0)) := blk_put hb 9 _ rfl
  have Q2 := blk_far Q1 (p := ⟨b, 9, none⟩) (by simpa using NE.out.2) (.int .i64 day)
  have m2 : (w1.setCell ⟨b, 9, none⟩ (.int .i64 day)).cell? ⟨q, 0, none⟩ = some (.int .i64 s) := (blk_cell Q2 0).trans rfl
  have m7 : (w1.setCell ⟨b, 9, none⟩ (.int .i64 day)).cell? ⟨b, 7, none⟩ = some (.int .i64 st) := (blk_cell B2 7).trans rfl
  have g7 := blk_frozen B2 7
  have BB := Aside0.mk B2
  have NN := Aside0.mk (((loan_does.Near.refl b b w).drewN _).trans hN)
  clear hb hN P1 Q1 Q2 B2 a1 a2 c7 c9 f7 f9
  go_wp2
  go_end0
  exact ⟨by first | rfl | (simp; done), blk_put BB.out 7 _ rfl, (NN.out.put _ _ rfl).put _ _ rfl⟩
set_option maxHeartbeats 8000000 in
set_option maxRecDepth 100000 in
theorem loan_Turn.in_bad5 (b : Nat) (id pr it su fe ppm : Int) (sd : Bool) (st cl en le fa ct : Int) (w : World) (h : w.heap[b]? = some (.cells (loanC id pr it su fe ppm sd st cl en le fa ct) 23 (0, 0))) (p q : Nat) (day s : Int) (hp : w.heap[p]? = some (.cells #[.int .i64 day] 3 (0, 0))) (hq : w.heap[q]? = some (.cells #[.int .i64 s] 3 (0, 0))) (hd : 0 ≤ day ∧ day ≤ 87658) (hc : cl = 0) (hs : s = 5 ∧ s ≠ st) (hpb : p ≠ b) (hqb : q ≠ b) (n x : Int) (h1 : accrue_Whole.f it = some n) (y : Int) (h2 : money_Add.f pr n = some (y, x)) (hx : x ≠ 0) :
    Calls Try.prog 29 #[.pointer (some ⟨b, 0, none⟩), .pointer (some ⟨p, 0, none⟩), .pointer (some ⟨q, 0, none⟩)] w fun e w' => e = .panicked [{ v := .iface 25 (.int .i64 x), recovered := false }] ∧ loan_does.Near b b w w' := by
  subst hc
  have a1 : w.cell? ⟨p, 0, none⟩ = some (.int .i64 day) := (blk_cell hp 0).trans rfl
  have a2 : w.cell? ⟨q, 0, none⟩ = some (.int .i64 s) := (blk_cell hq 0).trans rfl
  have c7 : w.cell? ⟨b, 7, none⟩ = some (.int .i64 st) := (blk_cell h 7).trans rfl
  have c9 : w.cell? ⟨b, 9, none⟩ = some (.int .i64 en) := (blk_cell h 9).trans rfl
  have f7 := blk_frozen h 7
  have f9 := blk_frozen h 9
  have B := Aside0.mk h
  have P := Aside0.mk hp
  have Q := Aside0.mk hq
  clear h hp hq
  have d1 : decide (day < 0) = false := decide_eq_false (by omega)
  have d2 : decide (87658 < day) = false := decide_eq_false (by omega)
  have e1 : decide (s < 1) = false := decide_eq_false (by omega)
  have e2 : decide (5 < s) = false := decide_eq_false (by omega)
  have e3 : (s == 1) = false := beq_eq_false_iff_ne.mpr (by omega)
  have e4 : (s == 2) = false := beq_eq_false_iff_ne.mpr (by omega)
  have e5 : (s == st) = false := beq_eq_false_iff_ne.mpr (by omega)
  have e6 : (s == 5) = true := beq_iff_eq.mpr (by omega)
  have H1 := Aside0.mk h1
  have H2 := Aside0.mk h2
  have HX := Aside0.mk hx
  clear h1 h2 hx
  have NE := Aside0.mk (And.intro hpb hqb)
  clear hd hs hpb hqb
  go_enter Try.func29, Try.ntmps29
  go_wp2_with (first | (go_at_call 30; (with_reducible refine (loan_does.stop_ok 1 false _ (.inr rfl)).mono ?_); rintro e w' ⟨rfl, ⟨nd1, rfl⟩⟩) | (go_at_call 31; (with_reducible refine (loan_does.gone_ok b id pr it su fe ppm sd st en le fa ct _ (blk_drewN B.out _)).mono ?_); rintro e w' ⟨rfl, ⟨nd, rfl⟩⟩))
  have hS0 : (w.drewN (nd1 + nd)).drew.cell? ⟨q, 0, none⟩ = some (.int .i64 s) ∧ (w.drewN (nd1 + nd)).drew.cell? ⟨b, 7, none⟩ = some (.int .i64 st) ∧ (w.drewN (nd1 + nd)).drew.cell? ⟨b, 9, none⟩ = some (.int .i64 en) := ⟨a2, c7, c9⟩
  refine wp_region_held_drew (S := fun W => W.cell? ⟨q, 0, none⟩ = some (.int .i64 s) ∧ W.cell? ⟨b, 7, none⟩ = some (.int .i64 st) ∧ W.cell? ⟨b, 9, none⟩ = some (.int .i64 en)) (by kernel_rfl) hS0 (fun hHeld => ?_)
  first | refine loan_does.tg 0 ?_ | refine loan_does.tk 0 ?_
  first | refine loan_does.tg 1 ?_ | refine loan_does.tk 1 ?_
  first | refine loan_does.tg 2 ?_ | refine loan_does.tk 2 ?_
  try simp only [Act.put, getElem_toArray, getElem_cons_zero, getElem_cons_succ, setIfInBounds_toArray, set_cons_zero, set_cons_succ]
  first | refine loan_does.tg 3 ?_ | refine loan_does.tk 3 ?_
  first | refine loan_does.tg 4 ?_ | refine loan_does.tk 4 ?_
  first | refine loan_does.tg 5 ?_ | refine loan_does.tk 5 ?_
  try simp only [Act.put, getElem_toArray, getElem_cons_zero, getElem_cons_succ, setIfInBounds_toArray, set_cons_zero, set_cons_succ]
  first | refine loan_does.tg 6 ?_ | refine loan_does.tk 6 ?_
  first | refine loan_does.tg 7 ?_ | refine loan_does.tk 7 ?_
  first | refine loan_does.tg 8 ?_ | refine loan_does.tk 8 ?_
  try simp only [Act.put, getElem_toArray, getElem_cons_zero, getElem_cons_succ, setIfInBounds_toArray, set_cons_zero, set_cons_succ]
  first | refine loan_does.tg 9 ?_ | refine loan_does.tk 9 ?_
  first | refine loan_does.tg 10 ?_ | refine loan_does.tk 10 ?_
  first | refine loan_does.tg 11 ?_ | refine loan_does.tk 11 ?_
  try simp only [Act.put, getElem_toArray, getElem_cons_zero, getElem_cons_succ, setIfInBounds_toArray, set_cons_zero, set_cons_succ]
  first | refine loan_does.tg 12 ?_ | refine loan_does.tk 12 ?_
  first | refine loan_does.tg 13 ?_ | refine loan_does.tk 13 ?_
  first | refine loan_does.tg 14 ?_ | refine loan_does.tk 14 ?_
  try simp only [Act.put, getElem_toArray, getElem_cons_zero, getElem_cons_succ, setIfInBounds_toArray, set_cons_zero, set_cons_succ]
  first | refine loan_does.tg 15 ?_ | refine loan_does.tk 15 ?_
  first | refine loan_does.tg 16 ?_ | refine loan_does.tk 16 ?_
  first | refine loan_does.tg 17 ?_ | refine loan_does.tk 17 ?_
  try simp only [Act.put, getElem_toArray, getElem_cons_zero, getElem_cons_succ, setIfInBounds_toArray, set_cons_zero, set_cons_succ]
  first | refine loan_does.tg 18 ?_ | refine loan_does.tk 18 ?_
  first | refine loan_does.tg 19 ?_ | refine loan_does.tk 19 ?_
  first | refine loan_does.tg 20 ?_ | refine loan_does.tk 20 ?_
  try simp only [Act.put, getElem_toArray, getElem_cons_zero, getElem_cons_succ, setIfInBounds_toArray, set_cons_zero, set_cons_succ]
  first | refine loan_does.tg 21 ?_ | refine loan_does.tk 21 ?_
  first | refine loan_does.tg 22 ?_ | refine loan_does.tk 22 ?_
  first | refine loan_does.tg 23 ?_ | refine loan_does.tk 23 ?_
  try simp only [Act.put, getElem_toArray, getElem_cons_zero, getElem_cons_succ, setIfInBounds_toArray, set_cons_zero, set_cons_succ]
  first | refine loan_does.tg 24 ?_ | refine loan_does.tk 24 ?_
  first | refine loan_does.tg 25 ?_ | refine loan_does.tk 25 ?_
  first | refine loan_does.tg 26 ?_ | refine loan_does.tk 26 ?_
  try simp only [Act.put, getElem_toArray, getElem_cons_zero, getElem_cons_succ, setIfInBounds_toArray, set_cons_zero, set_cons_succ]
  first | refine loan_does.tg 27 ?_ | refine loan_does.tk 27 ?_
  first | refine loan_does.tg 28 ?_ | refine loan_does.tk 28 ?_
  first | refine loan_does.tg 29 ?_ | refine loan_does.tk 29 ?_
  try simp only [Act.put, getElem_toArray, getElem_cons_zero, getElem_cons_succ, setIfInBounds_toArray, set_cons_zero, set_cons_succ]
  first | refine loan_does.tg 30 ?_ | refine loan_does.tk 30 ?_
  first | refine loan_does.tg 31 ?_ | refine loan_does.tk 31 ?_
  first | refine loan_does.tg 32 ?_ | refine loan_does.tk 32 ?_
  try simp only [Act.put, getElem_toArray, getElem_cons_zero, getElem_cons_succ, setIfInBounds_toArray, set_cons_zero, set_cons_succ]
  first | refine loan_does.tg 33 ?_ | refine loan_does.tk 33 ?_
  first | refine loan_does.tg 34 ?_ | refine loan_does.tk 34 ?_
  try simp only [Act.put, getElem_toArray, getElem_cons_zero, getElem_cons_succ, setIfInBounds_toArray, set_cons_zero, set_cons_succ]
  refine wpAnyH_ready (rs := [35]) (by kernel_rfl) (by simp) ?_
  refine AllReadyH.cons rfl (fun K hK => ?_) AllReadyH.nil
  go_simp
  go_wp2_with (go_at_call 30; (with_reducible refine (loan_does.stop_ok 62 false _ (.inr rfl)).mono ?_); rintro e w' ⟨rfl, ⟨nd, rfl⟩⟩)
  refine hK.out _ _ ⟨a2, c7, c9⟩ (fun hHeld1 => ?_)
  clear hK K
  try simp only [Act.put, getElem_toArray, getElem_cons_zero, getElem_cons_succ, setIfInBounds_toArray, set_cons_zero, set_cons_succ]
  refine wpAnyH_done (by kernel_rfl) ?_ _
  clear hHeld hHeld1 hS0
  go_wp2_with (go_at_call 32; (with_reducible refine (loan_does.cap_bad b id pr it su fe ppm sd st 0 en le fa ct _ (blk_drewN B.out _) n y x H1.out H2.out HX.out).mono ?_); rintro e w1 ⟨rfl, hN⟩)
  exact ⟨rfl, rfl, ((loan_does.Near.refl b b w).drewN _).trans hN⟩
end Go.Proofs.Ytmbenmiakjhgeaa.P
