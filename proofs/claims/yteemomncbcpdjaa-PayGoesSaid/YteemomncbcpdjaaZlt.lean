/- A part of a proof. -/
import Derived.Test.YteemomncbcpdjaaZaa
import Derived.Test.YteemomncbcpdjaaPx3
import Derived.Test.YteemomncbcpdjaaPx4
import Derived.Test.YteemomncbcpdjaaPx5
import Derived.Test.YteemomncbcpdjaaPx7
import Derived.Test.YteemomncbcpdjaaZlg
import Derived.Deep.RegionHeld3
import Derived.Deep.RegionWith
import Derived.BigRegion
import Derived.Laws.CopyOwn
namespace Go.Proofs.Yteemomncbcpdjaa.P
open Go.RowKit W.PrintWords W.PrintLast W.PrintMore
attribute [local go_sem] qZs qZq qZ5 qZ6 qZk qZl qZt qZp
open List (getElem_toArray getElem_cons_zero getElem_cons_succ setIfInBounds_toArray set_cons_zero set_cons_succ)
set_option linter.unusedVariables false
set_option linter.unusedSimpArgs false
set_option linter.unnecessarySimpa false
set_option maxHeartbeats 8000000 in
set_option maxRecDepth 100000 in
theorem qQb.end_ok (b : Nat) (id pr it su fe ppm : Int) (sd : Bool) (st cl en le fa ct : Int) (w : World) (h : w.heap[b]? = some (.cells (loanC id pr it su fe ppm sd st cl en le fa ct) 43 (0, 0))) (how : Int) :
    Calls Try.prog 48 #[.pointer (some ⟨b, 0, none⟩), .int .i64 how] w fun e w' => e = .returned (.tuple #[]) ∧ w'.heap[b]? = some (.cells (loanC id 0 0 su 0 ppm sd st how en le fa ct) 43 (0, 0)) ∧ qQb.Near b b w w' := by
  have k1 := qQ1 (cs' := (loanC id 0 it su fe ppm sd st cl en le fa ct)) h 1 (.int .i64 0) rfl
  have k2 := qQ1 (cs' := (loanC id 0 0 su fe ppm sd st cl en le fa ct)) k1 2 (.int .i64 0) rfl
  have k3 := qQ1 (cs' := (loanC id 0 0 su 0 ppm sd st cl en le fa ct)) k2 4 (.int .i64 0) rfl
  have k4 := qQ1 (cs' := (loanC id 0 0 su 0 ppm sd st how en le fa ct)) k3 8 (.int .i64 how) rfl
  have c1 := (qQa h 1).trans (rfl : _ = some (Value.int .i64 pr))
  have c2 := (qQa k1 2).trans (rfl : _ = some (Value.int .i64 it))
  have c3 := (qQa k2 4).trans (rfl : _ = some (Value.int .i64 fe))
  have c4 := (qQa k3 8).trans (rfl : _ = some (Value.int .i64 cl))
  have f1 := qQi h 1
  have f2 := qQi k1 2
  have f3 := qQi k2 4
  have f4 := qQi k3 8
  have K4 := am k4
  clear h k1 k2 k3 k4
  go_enter Try.func48, Try.ntmps48
  go_wp2
  go_end0
  exact ⟨by first | rfl | (simp; done), K4.out, ((((qQb.Near.refl b b w).put _ _ rfl).put _ _ rfl).put _ _ rfl).put _ _ rfl⟩
set_option maxHeartbeats 8000000 in
set_option maxRecDepth 100000 in
theorem qZr.zQd (b : Nat) (id pr it su fe ppm : Int) (sd : Bool) (st cl en le fa ct : Int) (w : World) (h : w.heap[b]? = some (.cells (loanC id pr it su fe ppm sd st cl en le fa ct) 43 (0, 0))) (p q r : Nat) (pf pi pp : Int) (hp : w.heap[p]? = some (.cells #[.int .i64 pf] 2 (0, 0))) (hq : w.heap[q]? = some (.cells #[.int .i64 pi] 2 (0, 0))) (hr : w.heap[r]? = some (.cells #[.int .i64 pp] 2 (0, 0))) (hn : 0 ≤ pf ∧ 0 ≤ pi ∧ 0 ≤ pp) (hc : cl = 0) (n : Int) (h1 : qZb.f it = some n) (hx : pf ≤ fe ∧ pi ≤ n ∧ pp ≤ pr) (i0 : 0 ≤ it) (i1 : it ≤ 1000000000000000000) (n1 : n * 1000000 ≤ it) (f9 : fe ≤ 10000000000000) (p9 : pr ≤ 10000000000000) (hne : p ≠ b ∧ q ≠ b ∧ r ≠ b) (hz : fe - pf ≠ 0) :
    Calls Try.prog 45 #[.pointer (some ⟨b, 0, none⟩), .pointer (some ⟨p, 0, none⟩), .pointer (some ⟨q, 0, none⟩), .pointer (some ⟨r, 0, none⟩)] w fun e w' => e = .returned (.tuple #[]) ∧ w'.heap[b]? = some (.cells (loanC id (pr - pp) (it - pi * 1000000) su (fe - pf) ppm sd st 0 en le fa ct) 43 (0, 0)) ∧ qQb.Near b b w w' := by
  subst hc
  have a1 : w.cell? ⟨p, 0, none⟩ = some (.int .i64 pf) := (qQa hp 0).trans rfl
  have a2 : w.cell? ⟨q, 0, none⟩ = some (.int .i64 pi) := (qQa hq 0).trans rfl
  have a3 : w.cell? ⟨r, 0, none⟩ = some (.int .i64 pp) := (qQa hr 0).trans rfl
  have l1 : w.cell? ⟨b, 1, none⟩ = some (.int .i64 pr) := (qQa h 1).trans rfl
  have l2 : w.cell? ⟨b, 2, none⟩ = some (.int .i64 it) := (qQa h 2).trans rfl
  have l4 : w.cell? ⟨b, 4, none⟩ = some (.int .i64 fe) := (qQa h 4).trans rfl
  have B := am h
  have P := am hp
  have Q := am hq
  have R := am hr
  clear h hp hq hr
  have d0 : decide (pf < 0) = false := decide_eq_false (by omega)
  have d1 : decide (pi < 0) = false := decide_eq_false (by omega)
  have d2 : decide (pp < 0) = false := decide_eq_false (by omega)
  have e0 : decide (fe < pf) = false := decide_eq_false (by omega)
  have e1 : decide (n < pi) = false := decide_eq_false (by omega)
  have e2 : decide (pr < pp) = false := decide_eq_false (by omega)
  have HZ := am hz
  clear hz
  have H1 := am h1
  have NE := am hne
  have g1 := qQi B.out 1
  have g2 := qQi B.out 2
  have g4 := qQi B.out 4
  clear h1
  go_enter Try.func45, Try.ntmps45
  go_wp2_with (first | (go_at_call 46; (with_reducible refine (qQb.qY0 1 false _ (.inr rfl)).mono ?_); rintro e w' ⟨rfl, ⟨nd1, rfl⟩⟩) | (go_at_call 47; (with_reducible refine (qQb.qX7 b id pr it su fe ppm sd st en le fa ct _ (qQm B.out _)).mono ?_); rintro e w' ⟨rfl, ⟨nd, rfl⟩⟩))
  refine wp_region_held_drew (S := fun W => W.cell? ⟨p, 0, none⟩ = some (.int .i64 pf) ∧ W.cell? ⟨q, 0, none⟩ = some (.int .i64 pi) ∧ W.cell? ⟨r, 0, none⟩ = some (.int .i64 pp) ∧ W.cell? ⟨b, 4, none⟩ = some (.int .i64 fe) ∧ W.cell? ⟨b, 2, none⟩ = some (.int .i64 it) ∧ W.cell? ⟨b, 1, none⟩ = some (.int .i64 pr)) (by kernel_rfl) ⟨a1, a2, a3, l4, l2, l1⟩ (fun hHeld => ?_)
  first | refine qQb.tg 0 ?_ | refine qQb.tk 0 ?_
  first | refine qQb.tg 1 ?_ | refine qQb.tk 1 ?_
  first | refine qQb.tg 2 ?_ | refine qQb.tk 2 ?_
  try simp only [Act.put, getElem_toArray, getElem_cons_zero, getElem_cons_succ, setIfInBounds_toArray, set_cons_zero, set_cons_succ]
  first | refine qQb.tg 3 ?_ | refine qQb.tk 3 ?_
  first | refine qQb.tg 4 ?_ | refine qQb.tk 4 ?_
  first | refine qQb.tg 5 ?_ | refine qQb.tk 5 ?_
  try simp only [Act.put, getElem_toArray, getElem_cons_zero, getElem_cons_succ, setIfInBounds_toArray, set_cons_zero, set_cons_succ]
  first | refine qQb.tg 6 ?_ | refine qQb.tk 6 ?_
  first | refine qQb.tg 7 ?_ | refine qQb.tk 7 ?_
  first | refine qQb.tg 8 ?_ | refine qQb.tk 8 ?_
  try simp only [Act.put, getElem_toArray, getElem_cons_zero, getElem_cons_succ, setIfInBounds_toArray, set_cons_zero, set_cons_succ]
  first | refine qQb.tg 9 ?_ | refine qQb.tk 9 ?_
  first | refine qQb.tg 10 ?_ | refine qQb.tk 10 ?_
  first | refine qQb.tg 11 ?_ | refine qQb.tk 11 ?_
  try simp only [Act.put, getElem_toArray, getElem_cons_zero, getElem_cons_succ, setIfInBounds_toArray, set_cons_zero, set_cons_succ]
  refine wpAnyH_ready (rs := [12]) (by kernel_rfl) (by simp) ?_
  refine AllReadyH.cons rfl (fun K hK => ?_) AllReadyH.nil
  go_simp
  go_wp2_with (go_at_call 25; (refine (qZb.calls _ _ _ H1.out).mono ?_); rintro e w' ⟨rfl, ⟨nd2, rfl⟩⟩)
  refine hK.out _ _ ⟨a1, a2, a3, l4, l2, l1⟩ (fun hHeld1 => ?_)
  clear hK K
  try simp only [Act.put, getElem_toArray, getElem_cons_zero, getElem_cons_succ, setIfInBounds_toArray, set_cons_zero, set_cons_succ]
  first | refine qQb.tg 13 ?_ | refine qQb.tk 13 ?_
  first | refine qQb.tg 14 ?_ | refine qQb.tk 14 ?_
  first | refine qQb.tg 15 ?_ | refine qQb.tk 15 ?_
  try simp only [Act.put, getElem_toArray, getElem_cons_zero, getElem_cons_succ, setIfInBounds_toArray, set_cons_zero, set_cons_succ]
  first | refine qQb.tg 16 ?_ | refine qQb.tk 16 ?_
  first | refine qQb.tg 17 ?_ | refine qQb.tk 17 ?_
  first | refine qQb.tg 18 ?_ | refine qQb.tk 18 ?_
  try simp only [Act.put, getElem_toArray, getElem_cons_zero, getElem_cons_succ, setIfInBounds_toArray, set_cons_zero, set_cons_succ]
  first | refine qQb.tg 19 ?_ | refine qQb.tk 19 ?_
  first | refine qQb.tg 20 ?_ | refine qQb.tk 20 ?_
  first | refine qQb.tg 21 ?_ | refine qQb.tk 21 ?_
  try simp only [Act.put, getElem_toArray, getElem_cons_zero, getElem_cons_succ, setIfInBounds_toArray, set_cons_zero, set_cons_succ]
  first | refine qQb.tg 22 ?_ | refine qQb.tk 22 ?_
  try simp only [Act.put, getElem_toArray, getElem_cons_zero, getElem_cons_succ, setIfInBounds_toArray, set_cons_zero, set_cons_succ]
  refine wpAnyH_ready (rs := [23]) (by kernel_rfl) (by simp) ?_
  refine AllReadyH.cons rfl (fun K hK => ?_) AllReadyH.nil
  go_simp
  go_wp2_with (go_at_call 46; (with_reducible refine (qQb.qY0 14 false _ (.inr rfl)).mono ?_); rintro e w' ⟨rfl, ⟨nd3, rfl⟩⟩)
  refine hK.out _ _ ⟨a1, a2, a3, l4, l2, l1⟩ (fun hHeld2 => ?_)
  clear hK K
  try simp only [Act.put, getElem_toArray, getElem_cons_zero, getElem_cons_succ, setIfInBounds_toArray, set_cons_zero, set_cons_succ]
  refine wpAnyH_done (by kernel_rfl) ?_ _
  clear hHeld hHeld1 hHeld2
  go_wp2
  generalize hW0 : w.drewN _ = W0
  have B0 : W0.heap[b]? = some (.cells (loanC id pr it su fe ppm sd st 0 en le fa ct) 43 (0, 0)) := by rw [← hW0]; exact B.out
  have P0 : W0.heap[p]? = some (.cells #[.int .i64 pf] 2 (0, 0)) := by rw [← hW0]; exact P.out
  have Q0 : W0.heap[q]? = some (.cells #[.int .i64 pi] 2 (0, 0)) := by rw [← hW0]; exact Q.out
  have R0 : W0.heap[r]? = some (.cells #[.int .i64 pp] 2 (0, 0)) := by rw [← hW0]; exact R.out
  have N0 : Aside0 (qQb.Near b b w W0) := ⟨by rw [← hW0]; exact (qQb.Near.refl b b w).drewN _⟩
  have x1 : W0.drew.cell? ⟨p, 0, none⟩ = some (.int .i64 pf) := (qQa (qQk P0) 0).trans rfl
  have x2 : W0.drew.cell? ⟨b, 4, none⟩ = some (.int .i64 fe) := (qQa (qQk B0) 4).trans rfl
  have x3 := qQi (qQk B0) 4
  clear hW0 a1 a2 a3 l1 l2 l4 g1 g2 g4
  go_region
  generalize hW : World.drew _ = W1
  have BW1 : W1.heap[b]? = some (.cells (loanC id pr it su (fe - pf) ppm sd st 0 en le fa ct) 43 (0, 0)) := by rw [← hW]; exact qQk (qQ1 B0 4 _ rfl)
  have PW1 : W1.heap[p]? = some (.cells #[.int .i64 pf] 2 (0, 0)) := by rw [← hW]; exact qQk (qZi P0 (by simpa using NE.out.1) _)
  have QW1 : W1.heap[q]? = some (.cells #[.int .i64 pi] 2 (0, 0)) := by rw [← hW]; exact qQk (qZi Q0 (by simpa using NE.out.2.1) _)
  have RW1 : W1.heap[r]? = some (.cells #[.int .i64 pp] 2 (0, 0)) := by rw [← hW]; exact qQk (qZi R0 (by simpa using NE.out.2.2) _)
  have NW1 : Aside0 (qQb.Near b b w W1) := ⟨by rw [← hW]; exact (N0.out.put _ _ rfl).step (Below.refl _ _).drew⟩
  clear hW
  have y1W1 : W1.drew.cell? ⟨q, 0, none⟩ = some (.int .i64 pi) := (qQa (qQk QW1) 0).trans rfl
  have y2W1 : W1.drew.cell? ⟨b, 2, none⟩ = some (.int .i64 it) := (qQa (qQk BW1) 2).trans rfl
  have y3W1 := qQi (qQk BW1) 2
  go_wp2
  go_region
  generalize hW : World.drew _ = W2
  have BW2 : W2.heap[b]? = some (.cells (loanC id pr (it - pi * 1000000) su (fe - pf) ppm sd st 0 en le fa ct) 43 (0, 0)) := by rw [← hW]; exact qQk (qQ1 BW1 2 _ rfl)
  have PW2 : W2.heap[p]? = some (.cells #[.int .i64 pf] 2 (0, 0)) := by rw [← hW]; exact qQk (qZi PW1 (by simpa using NE.out.1) _)
  have QW2 : W2.heap[q]? = some (.cells #[.int .i64 pi] 2 (0, 0)) := by rw [← hW]; exact qQk (qZi QW1 (by simpa using NE.out.2.1) _)
  have RW2 : W2.heap[r]? = some (.cells #[.int .i64 pp] 2 (0, 0)) := by rw [← hW]; exact qQk (qZi RW1 (by simpa using NE.out.2.2) _)
  have NW2 : Aside0 (qQb.Near b b w W2) := ⟨by rw [← hW]; exact (NW1.out.put _ _ rfl).step (Below.refl _ _).drew⟩
  clear hW
  have y1W2 : W2.drew.cell? ⟨r, 0, none⟩ = some (.int .i64 pp) := (qQa (qQk RW2) 0).trans rfl
  have y2W2 : W2.drew.cell? ⟨b, 1, none⟩ = some (.int .i64 pr) := (qQa (qQk BW2) 1).trans rfl
  have y3W2 := qQi (qQk BW2) 1
  go_wp2
  go_region
  generalize hW : World.drew _ = W3
  have BW3 : W3.heap[b]? = some (.cells (loanC id (pr - pp) (it - pi * 1000000) su (fe - pf) ppm sd st 0 en le fa ct) 43 (0, 0)) := by rw [← hW]; exact qQk (qQ1 BW2 1 _ rfl)
  have PW3 : W3.heap[p]? = some (.cells #[.int .i64 pf] 2 (0, 0)) := by rw [← hW]; exact qQk (qZi PW2 (by simpa using NE.out.1) _)
  have QW3 : W3.heap[q]? = some (.cells #[.int .i64 pi] 2 (0, 0)) := by rw [← hW]; exact qQk (qZi QW2 (by simpa using NE.out.2.1) _)
  have RW3 : W3.heap[r]? = some (.cells #[.int .i64 pp] 2 (0, 0)) := by rw [← hW]; exact qQk (qZi RW2 (by simpa using NE.out.2.2) _)
  have NW3 : Aside0 (qQb.Near b b w W3) := ⟨by rw [← hW]; exact (NW2.out.put _ _ rfl).step (Below.refl _ _).drew⟩
  clear hW
  have y4 : W3.cell? ⟨b, 4, none⟩ = some (.int .i64 (fe - pf)) := (qQa BW3 4).trans rfl
  have y2 : W3.cell? ⟨b, 2, none⟩ = some (.int .i64 (it - pi * 1000000)) := (qQa BW3 2).trans rfl
  have y1 : W3.cell? ⟨b, 1, none⟩ = some (.int .i64 (pr - pp)) := (qQa BW3 1).trans rfl
  have BB := am BW3
  clear BW3 BW2 BW1 B0
  have hz := HZ.out
  have v0 : ((fe - pf) == 0) = false := beq_eq_false_iff_ne.mpr (by omega)
  clear hz
  go_wp2
  go_end0
  exact ⟨by first | rfl | (simp; done), BB.out, NW3.out⟩
set_option maxHeartbeats 8000000 in
set_option maxRecDepth 100000 in
theorem qZr.zQf (b : Nat) (id pr it su fe ppm : Int) (sd : Bool) (st cl en le fa ct : Int) (w : World) (h : w.heap[b]? = some (.cells (loanC id pr it su fe ppm sd st cl en le fa ct) 43 (0, 0))) (p q r : Nat) (pf pi pp : Int) (hp : w.heap[p]? = some (.cells #[.int .i64 pf] 2 (0, 0))) (hq : w.heap[q]? = some (.cells #[.int .i64 pi] 2 (0, 0))) (hr : w.heap[r]? = some (.cells #[.int .i64 pp] 2 (0, 0))) (hn : 0 ≤ pf ∧ 0 ≤ pi ∧ 0 ≤ pp) (hc : cl = 0) (n : Int) (h1 : qZb.f it = some n) (hx : pf ≤ fe ∧ pi ≤ n ∧ pp ≤ pr) (i0 : 0 ≤ it) (i1 : it ≤ 1000000000000000000) (n1 : n * 1000000 ≤ it) (f9 : fe ≤ 10000000000000) (p9 : pr ≤ 10000000000000) (hne : p ≠ b ∧ q ≠ b ∧ r ≠ b) (n2 : Int) (h2 : qZb.f (it - pi * 1000000) = some n2) (hz : fe - pf = 0 ∧ n2 ≠ 0) :
    Calls Try.prog 45 #[.pointer (some ⟨b, 0, none⟩), .pointer (some ⟨p, 0, none⟩), .pointer (some ⟨q, 0, none⟩), .pointer (some ⟨r, 0, none⟩)] w fun e w' => e = .returned (.tuple #[]) ∧ w'.heap[b]? = some (.cells (loanC id (pr - pp) (it - pi * 1000000) su (fe - pf) ppm sd st 0 en le fa ct) 43 (0, 0)) ∧ qQb.Near b b w w' := by
  subst hc
  have a1 : w.cell? ⟨p, 0, none⟩ = some (.int .i64 pf) := (qQa hp 0).trans rfl
  have a2 : w.cell? ⟨q, 0, none⟩ = some (.int .i64 pi) := (qQa hq 0).trans rfl
  have a3 : w.cell? ⟨r, 0, none⟩ = some (.int .i64 pp) := (qQa hr 0).trans rfl
  have l1 : w.cell? ⟨b, 1, none⟩ = some (.int .i64 pr) := (qQa h 1).trans rfl
  have l2 : w.cell? ⟨b, 2, none⟩ = some (.int .i64 it) := (qQa h 2).trans rfl
  have l4 : w.cell? ⟨b, 4, none⟩ = some (.int .i64 fe) := (qQa h 4).trans rfl
  have B := am h
  have P := am hp
  have Q := am hq
  have R := am hr
  clear h hp hq hr
  have d0 : decide (pf < 0) = false := decide_eq_false (by omega)
  have d1 : decide (pi < 0) = false := decide_eq_false (by omega)
  have d2 : decide (pp < 0) = false := decide_eq_false (by omega)
  have e0 : decide (fe < pf) = false := decide_eq_false (by omega)
  have e1 : decide (n < pi) = false := decide_eq_false (by omega)
  have e2 : decide (pr < pp) = false := decide_eq_false (by omega)
  have HZ := am hz
  clear hz
  have H2 := am h2
  clear h2
  have H1 := am h1
  have NE := am hne
  have g1 := qQi B.out 1
  have g2 := qQi B.out 2
  have g4 := qQi B.out 4
  clear h1
  go_enter Try.func45, Try.ntmps45
  go_wp2_with (first | (go_at_call 46; (with_reducible refine (qQb.qY0 1 false _ (.inr rfl)).mono ?_); rintro e w' ⟨rfl, ⟨nd1, rfl⟩⟩) | (go_at_call 47; (with_reducible refine (qQb.qX7 b id pr it su fe ppm sd st en le fa ct _ (qQm B.out _)).mono ?_); rintro e w' ⟨rfl, ⟨nd, rfl⟩⟩))
  refine wp_region_held_drew (S := fun W => W.cell? ⟨p, 0, none⟩ = some (.int .i64 pf) ∧ W.cell? ⟨q, 0, none⟩ = some (.int .i64 pi) ∧ W.cell? ⟨r, 0, none⟩ = some (.int .i64 pp) ∧ W.cell? ⟨b, 4, none⟩ = some (.int .i64 fe) ∧ W.cell? ⟨b, 2, none⟩ = some (.int .i64 it) ∧ W.cell? ⟨b, 1, none⟩ = some (.int .i64 pr)) (by kernel_rfl) ⟨a1, a2, a3, l4, l2, l1⟩ (fun hHeld => ?_)
  first | refine qQb.tg 0 ?_ | refine qQb.tk 0 ?_
  first | refine qQb.tg 1 ?_ | refine qQb.tk 1 ?_
  first | refine qQb.tg 2 ?_ | refine qQb.tk 2 ?_
  try simp only [Act.put, getElem_toArray, getElem_cons_zero, getElem_cons_succ, setIfInBounds_toArray, set_cons_zero, set_cons_succ]
  first | refine qQb.tg 3 ?_ | refine qQb.tk 3 ?_
  first | refine qQb.tg 4 ?_ | refine qQb.tk 4 ?_
  first | refine qQb.tg 5 ?_ | refine qQb.tk 5 ?_
  try simp only [Act.put, getElem_toArray, getElem_cons_zero, getElem_cons_succ, setIfInBounds_toArray, set_cons_zero, set_cons_succ]
  first | refine qQb.tg 6 ?_ | refine qQb.tk 6 ?_
  first | refine qQb.tg 7 ?_ | refine qQb.tk 7 ?_
  first | refine qQb.tg 8 ?_ | refine qQb.tk 8 ?_
  try simp only [Act.put, getElem_toArray, getElem_cons_zero, getElem_cons_succ, setIfInBounds_toArray, set_cons_zero, set_cons_succ]
  first | refine qQb.tg 9 ?_ | refine qQb.tk 9 ?_
  first | refine qQb.tg 10 ?_ | refine qQb.tk 10 ?_
  first | refine qQb.tg 11 ?_ | refine qQb.tk 11 ?_
  try simp only [Act.put, getElem_toArray, getElem_cons_zero, getElem_cons_succ, setIfInBounds_toArray, set_cons_zero, set_cons_succ]
  refine wpAnyH_ready (rs := [12]) (by kernel_rfl) (by simp) ?_
  refine AllReadyH.cons rfl (fun K hK => ?_) AllReadyH.nil
  go_simp
  go_wp2_with (go_at_call 25; (refine (qZb.calls _ _ _ H1.out).mono ?_); rintro e w' ⟨rfl, ⟨nd2, rfl⟩⟩)
  refine hK.out _ _ ⟨a1, a2, a3, l4, l2, l1⟩ (fun hHeld1 => ?_)
  clear hK K
  try simp only [Act.put, getElem_toArray, getElem_cons_zero, getElem_cons_succ, setIfInBounds_toArray, set_cons_zero, set_cons_succ]
  first | refine qQb.tg 13 ?_ | refine qQb.tk 13 ?_
  first | refine qQb.tg 14 ?_ | refine qQb.tk 14 ?_
  first | refine qQb.tg 15 ?_ | refine qQb.tk 15 ?_
  try simp only [Act.put, getElem_toArray, getElem_cons_zero, getElem_cons_succ, setIfInBounds_toArray, set_cons_zero, set_cons_succ]
  first | refine qQb.tg 16 ?_ | refine qQb.tk 16 ?_
  first | refine qQb.tg 17 ?_ | refine qQb.tk 17 ?_
  first | refine qQb.tg 18 ?_ | refine qQb.tk 18 ?_
  try simp only [Act.put, getElem_toArray, getElem_cons_zero, getElem_cons_succ, setIfInBounds_toArray, set_cons_zero, set_cons_succ]
  first | refine qQb.tg 19 ?_ | refine qQb.tk 19 ?_
  first | refine qQb.tg 20 ?_ | refine qQb.tk 20 ?_
  first | refine qQb.tg 21 ?_ | refine qQb.tk 21 ?_
  try simp only [Act.put, getElem_toArray, getElem_cons_zero, getElem_cons_succ, setIfInBounds_toArray, set_cons_zero, set_cons_succ]
  first | refine qQb.tg 22 ?_ | refine qQb.tk 22 ?_
  try simp only [Act.put, getElem_toArray, getElem_cons_zero, getElem_cons_succ, setIfInBounds_toArray, set_cons_zero, set_cons_succ]
  refine wpAnyH_ready (rs := [23]) (by kernel_rfl) (by simp) ?_
  refine AllReadyH.cons rfl (fun K hK => ?_) AllReadyH.nil
  go_simp
  go_wp2_with (go_at_call 46; (with_reducible refine (qQb.qY0 14 false _ (.inr rfl)).mono ?_); rintro e w' ⟨rfl, ⟨nd3, rfl⟩⟩)
  refine hK.out _ _ ⟨a1, a2, a3, l4, l2, l1⟩ (fun hHeld2 => ?_)
  clear hK K
  try simp only [Act.put, getElem_toArray, getElem_cons_zero, getElem_cons_succ, setIfInBounds_toArray, set_cons_zero, set_cons_succ]
  refine wpAnyH_done (by kernel_rfl) ?_ _
  clear hHeld hHeld1 hHeld2
  go_wp2
  generalize hW0 : w.drewN _ = W0
  have B0 : W0.heap[b]? = some (.cells (loanC id pr it su fe ppm sd st 0 en le fa ct) 43 (0, 0)) := by rw [← hW0]; exact B.out
  have P0 : W0.heap[p]? = some (.cells #[.int .i64 pf] 2 (0, 0)) := by rw [← hW0]; exact P.out
  have Q0 : W0.heap[q]? = some (.cells #[.int .i64 pi] 2 (0, 0)) := by rw [← hW0]; exact Q.out
  have R0 : W0.heap[r]? = some (.cells #[.int .i64 pp] 2 (0, 0)) := by rw [← hW0]; exact R.out
  have N0 : Aside0 (qQb.Near b b w W0) := ⟨by rw [← hW0]; exact (qQb.Near.refl b b w).drewN _⟩
  have x1 : W0.drew.cell? ⟨p, 0, none⟩ = some (.int .i64 pf) := (qQa (qQk P0) 0).trans rfl
  have x2 : W0.drew.cell? ⟨b, 4, none⟩ = some (.int .i64 fe) := (qQa (qQk B0) 4).trans rfl
  have x3 := qQi (qQk B0) 4
  clear hW0 a1 a2 a3 l1 l2 l4 g1 g2 g4
  go_region
  generalize hW : World.drew _ = W1
  have BW1 : W1.heap[b]? = some (.cells (loanC id pr it su (fe - pf) ppm sd st 0 en le fa ct) 43 (0, 0)) := by rw [← hW]; exact qQk (qQ1 B0 4 _ rfl)
  have PW1 : W1.heap[p]? = some (.cells #[.int .i64 pf] 2 (0, 0)) := by rw [← hW]; exact qQk (qZi P0 (by simpa using NE.out.1) _)
  have QW1 : W1.heap[q]? = some (.cells #[.int .i64 pi] 2 (0, 0)) := by rw [← hW]; exact qQk (qZi Q0 (by simpa using NE.out.2.1) _)
  have RW1 : W1.heap[r]? = some (.cells #[.int .i64 pp] 2 (0, 0)) := by rw [← hW]; exact qQk (qZi R0 (by simpa using NE.out.2.2) _)
  have NW1 : Aside0 (qQb.Near b b w W1) := ⟨by rw [← hW]; exact (N0.out.put _ _ rfl).step (Below.refl _ _).drew⟩
  clear hW
  have y1W1 : W1.drew.cell? ⟨q, 0, none⟩ = some (.int .i64 pi) := (qQa (qQk QW1) 0).trans rfl
  have y2W1 : W1.drew.cell? ⟨b, 2, none⟩ = some (.int .i64 it) := (qQa (qQk BW1) 2).trans rfl
  have y3W1 := qQi (qQk BW1) 2
  go_wp2
  go_region
  generalize hW : World.drew _ = W2
  have BW2 : W2.heap[b]? = some (.cells (loanC id pr (it - pi * 1000000) su (fe - pf) ppm sd st 0 en le fa ct) 43 (0, 0)) := by rw [← hW]; exact qQk (qQ1 BW1 2 _ rfl)
  have PW2 : W2.heap[p]? = some (.cells #[.int .i64 pf] 2 (0, 0)) := by rw [← hW]; exact qQk (qZi PW1 (by simpa using NE.out.1) _)
  have QW2 : W2.heap[q]? = some (.cells #[.int .i64 pi] 2 (0, 0)) := by rw [← hW]; exact qQk (qZi QW1 (by simpa using NE.out.2.1) _)
  have RW2 : W2.heap[r]? = some (.cells #[.int .i64 pp] 2 (0, 0)) := by rw [← hW]; exact qQk (qZi RW1 (by simpa using NE.out.2.2) _)
  have NW2 : Aside0 (qQb.Near b b w W2) := ⟨by rw [← hW]; exact (NW1.out.put _ _ rfl).step (Below.refl _ _).drew⟩
  clear hW
  have y1W2 : W2.drew.cell? ⟨r, 0, none⟩ = some (.int .i64 pp) := (qQa (qQk RW2) 0).trans rfl
  have y2W2 : W2.drew.cell? ⟨b, 1, none⟩ = some (.int .i64 pr) := (qQa (qQk BW2) 1).trans rfl
  have y3W2 := qQi (qQk BW2) 1
  go_wp2
  go_region
  generalize hW : World.drew _ = W3
  have BW3 : W3.heap[b]? = some (.cells (loanC id (pr - pp) (it - pi * 1000000) su (fe - pf) ppm sd st 0 en le fa ct) 43 (0, 0)) := by rw [← hW]; exact qQk (qQ1 BW2 1 _ rfl)
  have PW3 : W3.heap[p]? = some (.cells #[.int .i64 pf] 2 (0, 0)) := by rw [← hW]; exact qQk (qZi PW2 (by simpa using NE.out.1) _)
  have QW3 : W3.heap[q]? = some (.cells #[.int .i64 pi] 2 (0, 0)) := by rw [← hW]; exact qQk (qZi QW2 (by simpa using NE.out.2.1) _)
  have RW3 : W3.heap[r]? = some (.cells #[.int .i64 pp] 2 (0, 0)) := by rw [← hW]; exact qQk (qZi RW2 (by simpa using NE.out.2.2) _)
  have NW3 : Aside0 (qQb.Near b b w W3) := ⟨by rw [← hW]; exact (NW2.out.put _ _ rfl).step (Below.refl _ _).drew⟩
  clear hW
  have y4 : W3.cell? ⟨b, 4, none⟩ = some (.int .i64 (fe - pf)) := (qQa BW3 4).trans rfl
  have y2 : W3.cell? ⟨b, 2, none⟩ = some (.int .i64 (it - pi * 1000000)) := (qQa BW3 2).trans rfl
  have y1 : W3.cell? ⟨b, 1, none⟩ = some (.int .i64 (pr - pp)) := (qQa BW3 1).trans rfl
  have BB := am BW3
  clear BW3 BW2 BW1 B0
  have hz := HZ.out
  have v0 : ((fe - pf) == 0) = true := beq_iff_eq.mpr (by omega)
  have v1 : (n2 == 0) = false := beq_eq_false_iff_ne.mpr (by omega)
  clear hz
  go_wp2_with (go_at_call 25; (with_reducible refine (qZb.calls _ _ _ H2.out).mono ?_); rintro e w' ⟨rfl, ⟨nd5, rfl⟩⟩)
  go_end0
  exact ⟨by first | rfl | (simp; done), qQm BB.out _, NW3.out.drewN _⟩
set_option maxHeartbeats 8000000 in
set_option maxRecDepth 100000 in
theorem qZr.zQj (b : Nat) (id pr it su fe ppm : Int) (sd : Bool) (st cl en le fa ct : Int) (w : World) (h : w.heap[b]? = some (.cells (loanC id pr it su fe ppm sd st cl en le fa ct) 43 (0, 0))) (p q r : Nat) (pf pi pp : Int) (hp : w.heap[p]? = some (.cells #[.int .i64 pf] 2 (0, 0))) (hq : w.heap[q]? = some (.cells #[.int .i64 pi] 2 (0, 0))) (hr : w.heap[r]? = some (.cells #[.int .i64 pp] 2 (0, 0))) (hn : 0 ≤ pf ∧ 0 ≤ pi ∧ 0 ≤ pp) (hc : cl = 0) (n : Int) (h1 : qZb.f it = some n) (hx : pf ≤ fe ∧ pi ≤ n ∧ pp ≤ pr) (i0 : 0 ≤ it) (i1 : it ≤ 1000000000000000000) (n1 : n * 1000000 ≤ it) (f9 : fe ≤ 10000000000000) (p9 : pr ≤ 10000000000000) (hne : p ≠ b ∧ q ≠ b ∧ r ≠ b) (n2 : Int) (h2 : qZb.f (it - pi * 1000000) = some n2) (hz : fe - pf = 0 ∧ n2 = 0 ∧ pr - pp ≠ 0) :
    Calls Try.prog 45 #[.pointer (some ⟨b, 0, none⟩), .pointer (some ⟨p, 0, none⟩), .pointer (some ⟨q, 0, none⟩), .pointer (some ⟨r, 0, none⟩)] w fun e w' => e = .returned (.tuple #[]) ∧ w'.heap[b]? = some (.cells (loanC id (pr - pp) (it - pi * 1000000) su (fe - pf) ppm sd st 0 en le fa ct) 43 (0, 0)) ∧ qQb.Near b b w w' := by
  subst hc
  have a1 : w.cell? ⟨p, 0, none⟩ = some (.int .i64 pf) := (qQa hp 0).trans rfl
  have a2 : w.cell? ⟨q, 0, none⟩ = some (.int .i64 pi) := (qQa hq 0).trans rfl
  have a3 : w.cell? ⟨r, 0, none⟩ = some (.int .i64 pp) := (qQa hr 0).trans rfl
  have l1 : w.cell? ⟨b, 1, none⟩ = some (.int .i64 pr) := (qQa h 1).trans rfl
  have l2 : w.cell? ⟨b, 2, none⟩ = some (.int .i64 it) := (qQa h 2).trans rfl
  have l4 : w.cell? ⟨b, 4, none⟩ = some (.int .i64 fe) := (qQa h 4).trans rfl
  have B := am h
  have P := am hp
  have Q := am hq
  have R := am hr
  clear h hp hq hr
  have d0 : decide (pf < 0) = false := decide_eq_false (by omega)
  have d1 : decide (pi < 0) = false := decide_eq_false (by omega)
  have d2 : decide (pp < 0) = false := decide_eq_false (by omega)
  have e0 : decide (fe < pf) = false := decide_eq_false (by omega)
  have e1 : decide (n < pi) = false := decide_eq_false (by omega)
  have e2 : decide (pr < pp) = false := decide_eq_false (by omega)
  have HZ := am hz
  clear hz
  have H2 := am h2
  clear h2
  have H1 := am h1
  have NE := am hne
  have g1 := qQi B.out 1
  have g2 := qQi B.out 2
  have g4 := qQi B.out 4
  clear h1
  go_enter Try.func45, Try.ntmps45
  go_wp2_with (first | (go_at_call 46; (with_reducible refine (qQb.qY0 1 false _ (.inr rfl)).mono ?_); rintro e w' ⟨rfl, ⟨nd1, rfl⟩⟩) | (go_at_call 47; (with_reducible refine (qQb.qX7 b id pr it su fe ppm sd st en le fa ct _ (qQm B.out _)).mono ?_); rintro e w' ⟨rfl, ⟨nd, rfl⟩⟩))
  refine wp_region_held_drew (S := fun W => W.cell? ⟨p, 0, none⟩ = some (.int .i64 pf) ∧ W.cell? ⟨q, 0, none⟩ = some (.int .i64 pi) ∧ W.cell? ⟨r, 0, none⟩ = some (.int .i64 pp) ∧ W.cell? ⟨b, 4, none⟩ = some (.int .i64 fe) ∧ W.cell? ⟨b, 2, none⟩ = some (.int .i64 it) ∧ W.cell? ⟨b, 1, none⟩ = some (.int .i64 pr)) (by kernel_rfl) ⟨a1, a2, a3, l4, l2, l1⟩ (fun hHeld => ?_)
  first | refine qQb.tg 0 ?_ | refine qQb.tk 0 ?_
  first | refine qQb.tg 1 ?_ | refine qQb.tk 1 ?_
  first | refine qQb.tg 2 ?_ | refine qQb.tk 2 ?_
  try simp only [Act.put, getElem_toArray, getElem_cons_zero, getElem_cons_succ, setIfInBounds_toArray, set_cons_zero, set_cons_succ]
  first | refine qQb.tg 3 ?_ | refine qQb.tk 3 ?_
  first | refine qQb.tg 4 ?_ | refine qQb.tk 4 ?_
  first | refine qQb.tg 5 ?_ | refine qQb.tk 5 ?_
  try simp only [Act.put, getElem_toArray, getElem_cons_zero, getElem_cons_succ, setIfInBounds_toArray, set_cons_zero, set_cons_succ]
  first | refine qQb.tg 6 ?_ | refine qQb.tk 6 ?_
  first | refine qQb.tg 7 ?_ | refine qQb.tk 7 ?_
  first | refine qQb.tg 8 ?_ | refine qQb.tk 8 ?_
  try simp only [Act.put, getElem_toArray, getElem_cons_zero, getElem_cons_succ, setIfInBounds_toArray, set_cons_zero, set_cons_succ]
  first | refine qQb.tg 9 ?_ | refine qQb.tk 9 ?_
  first | refine qQb.tg 10 ?_ | refine qQb.tk 10 ?_
  first | refine qQb.tg 11 ?_ | refine qQb.tk 11 ?_
  try simp only [Act.put, getElem_toArray, getElem_cons_zero, getElem_cons_succ, setIfInBounds_toArray, set_cons_zero, set_cons_succ]
  refine wpAnyH_ready (rs := [12]) (by kernel_rfl) (by simp) ?_
  refine AllReadyH.cons rfl (fun K hK => ?_) AllReadyH.nil
  go_simp
  go_wp2_with (go_at_call 25; (refine (qZb.calls _ _ _ H1.out).mono ?_); rintro e w' ⟨rfl, ⟨nd2, rfl⟩⟩)
  refine hK.out _ _ ⟨a1, a2, a3, l4, l2, l1⟩ (fun hHeld1 => ?_)
  clear hK K
  try simp only [Act.put, getElem_toArray, getElem_cons_zero, getElem_cons_succ, setIfInBounds_toArray, set_cons_zero, set_cons_succ]
  first | refine qQb.tg 13 ?_ | refine qQb.tk 13 ?_
  first | refine qQb.tg 14 ?_ | refine qQb.tk 14 ?_
  first | refine qQb.tg 15 ?_ | refine qQb.tk 15 ?_
  try simp only [Act.put, getElem_toArray, getElem_cons_zero, getElem_cons_succ, setIfInBounds_toArray, set_cons_zero, set_cons_succ]
  first | refine qQb.tg 16 ?_ | refine qQb.tk 16 ?_
  first | refine qQb.tg 17 ?_ | refine qQb.tk 17 ?_
  first | refine qQb.tg 18 ?_ | refine qQb.tk 18 ?_
  try simp only [Act.put, getElem_toArray, getElem_cons_zero, getElem_cons_succ, setIfInBounds_toArray, set_cons_zero, set_cons_succ]
  first | refine qQb.tg 19 ?_ | refine qQb.tk 19 ?_
  first | refine qQb.tg 20 ?_ | refine qQb.tk 20 ?_
  first | refine qQb.tg 21 ?_ | refine qQb.tk 21 ?_
  try simp only [Act.put, getElem_toArray, getElem_cons_zero, getElem_cons_succ, setIfInBounds_toArray, set_cons_zero, set_cons_succ]
  first | refine qQb.tg 22 ?_ | refine qQb.tk 22 ?_
  try simp only [Act.put, getElem_toArray, getElem_cons_zero, getElem_cons_succ, setIfInBounds_toArray, set_cons_zero, set_cons_succ]
  refine wpAnyH_ready (rs := [23]) (by kernel_rfl) (by simp) ?_
  refine AllReadyH.cons rfl (fun K hK => ?_) AllReadyH.nil
  go_simp
  go_wp2_with (go_at_call 46; (with_reducible refine (qQb.qY0 14 false _ (.inr rfl)).mono ?_); rintro e w' ⟨rfl, ⟨nd3, rfl⟩⟩)
  refine hK.out _ _ ⟨a1, a2, a3, l4, l2, l1⟩ (fun hHeld2 => ?_)
  clear hK K
  try simp only [Act.put, getElem_toArray, getElem_cons_zero, getElem_cons_succ, setIfInBounds_toArray, set_cons_zero, set_cons_succ]
  refine wpAnyH_done (by kernel_rfl) ?_ _
  clear hHeld hHeld1 hHeld2
  go_wp2
  generalize hW0 : w.drewN _ = W0
  have B0 : W0.heap[b]? = some (.cells (loanC id pr it su fe ppm sd st 0 en le fa ct) 43 (0, 0)) := by rw [← hW0]; exact B.out
  have P0 : W0.heap[p]? = some (.cells #[.int .i64 pf] 2 (0, 0)) := by rw [← hW0]; exact P.out
  have Q0 : W0.heap[q]? = some (.cells #[.int .i64 pi] 2 (0, 0)) := by rw [← hW0]; exact Q.out
  have R0 : W0.heap[r]? = some (.cells #[.int .i64 pp] 2 (0, 0)) := by rw [← hW0]; exact R.out
  have N0 : Aside0 (qQb.Near b b w W0) := ⟨by rw [← hW0]; exact (qQb.Near.refl b b w).drewN _⟩
  have x1 : W0.drew.cell? ⟨p, 0, none⟩ = some (.int .i64 pf) := (qQa (qQk P0) 0).trans rfl
  have x2 : W0.drew.cell? ⟨b, 4, none⟩ = some (.int .i64 fe) := (qQa (qQk B0) 4).trans rfl
  have x3 := qQi (qQk B0) 4
  clear hW0 a1 a2 a3 l1 l2 l4 g1 g2 g4
  go_region
  generalize hW : World.drew _ = W1
  have BW1 : W1.heap[b]? = some (.cells (loanC id pr it su (fe - pf) ppm sd st 0 en le fa ct) 43 (0, 0)) := by rw [← hW]; exact qQk (qQ1 B0 4 _ rfl)
  have PW1 : W1.heap[p]? = some (.cells #[.int .i64 pf] 2 (0, 0)) := by rw [← hW]; exact qQk (qZi P0 (by simpa using NE.out.1) _)
  have QW1 : W1.heap[q]? = some (.cells #[.int .i64 pi] 2 (0, 0)) := by rw [← hW]; exact qQk (qZi Q0 (by simpa using NE.out.2.1) _)
  have RW1 : W1.heap[r]? = some (.cells #[.int .i64 pp] 2 (0, 0)) := by rw [← hW]; exact qQk (qZi R0 (by simpa using NE.out.2.2) _)
  have NW1 : Aside0 (qQb.Near b b w W1) := ⟨by rw [← hW]; exact (N0.out.put _ _ rfl).step (Below.refl _ _).drew⟩
  clear hW
  have y1W1 : W1.drew.cell? ⟨q, 0, none⟩ = some (.int .i64 pi) := (qQa (qQk QW1) 0).trans rfl
  have y2W1 : W1.drew.cell? ⟨b, 2, none⟩ = some (.int .i64 it) := (qQa (qQk BW1) 2).trans rfl
  have y3W1 := qQi (qQk BW1) 2
  go_wp2
  go_region
  generalize hW : World.drew _ = W2
  have BW2 : W2.heap[b]? = some (.cells (loanC id pr (it - pi * 1000000) su (fe - pf) ppm sd st 0 en le fa ct) 43 (0, 0)) := by rw [← hW]; exact qQk (qQ1 BW1 2 _ rfl)
  have PW2 : W2.heap[p]? = some (.cells #[.int .i64 pf] 2 (0, 0)) := by rw [← hW]; exact qQk (qZi PW1 (by simpa using NE.out.1) _)
  have QW2 : W2.heap[q]? = some (.cells #[.int .i64 pi] 2 (0, 0)) := by rw [← hW]; exact qQk (qZi QW1 (by simpa using NE.out.2.1) _)
  have RW2 : W2.heap[r]? = some (.cells #[.int .i64 pp] 2 (0, 0)) := by rw [← hW]; exact qQk (qZi RW1 (by simpa using NE.out.2.2) _)
  have NW2 : Aside0 (qQb.Near b b w W2) := ⟨by rw [← hW]; exact (NW1.out.put _ _ rfl).step (Below.refl _ _).drew⟩
  clear hW
  have y1W2 : W2.drew.cell? ⟨r, 0, none⟩ = some (.int .i64 pp) := (qQa (qQk RW2) 0).trans rfl
  have y2W2 : W2.drew.cell? ⟨b, 1, none⟩ = some (.int .i64 pr) := (qQa (qQk BW2) 1).trans rfl
  have y3W2 := qQi (qQk BW2) 1
  go_wp2
  go_region
  generalize hW : World.drew _ = W3
  have BW3 : W3.heap[b]? = some (.cells (loanC id (pr - pp) (it - pi * 1000000) su (fe - pf) ppm sd st 0 en le fa ct) 43 (0, 0)) := by rw [← hW]; exact qQk (qQ1 BW2 1 _ rfl)
  have PW3 : W3.heap[p]? = some (.cells #[.int .i64 pf] 2 (0, 0)) := by rw [← hW]; exact qQk (qZi PW2 (by simpa using NE.out.1) _)
  have QW3 : W3.heap[q]? = some (.cells #[.int .i64 pi] 2 (0, 0)) := by rw [← hW]; exact qQk (qZi QW2 (by simpa using NE.out.2.1) _)
  have RW3 : W3.heap[r]? = some (.cells #[.int .i64 pp] 2 (0, 0)) := by rw [← hW]; exact qQk (qZi RW2 (by simpa using NE.out.2.2) _)
  have NW3 : Aside0 (qQb.Near b b w W3) := ⟨by rw [← hW]; exact (NW2.out.put _ _ rfl).step (Below.refl _ _).drew⟩
  clear hW
  have y4 : W3.cell? ⟨b, 4, none⟩ = some (.int .i64 (fe - pf)) := (qQa BW3 4).trans rfl
  have y2 : W3.cell? ⟨b, 2, none⟩ = some (.int .i64 (it - pi * 1000000)) := (qQa BW3 2).trans rfl
  have y1 : W3.cell? ⟨b, 1, none⟩ = some (.int .i64 (pr - pp)) := (qQa BW3 1).trans rfl
  have BB := am BW3
  clear BW3 BW2 BW1 B0
  have hz := HZ.out
  have v0 : ((fe - pf) == 0) = true := beq_iff_eq.mpr (by omega)
  have v1 : (n2 == 0) = true := beq_iff_eq.mpr (by omega)
  have v2 : ((pr - pp) == 0) = false := beq_eq_false_iff_ne.mpr (by omega)
  clear hz
  go_wp2_with (go_at_call 25; (with_reducible refine (qZb.calls _ _ _ H2.out).mono ?_); rintro e w' ⟨rfl, ⟨nd5, rfl⟩⟩)
  go_end0
  exact ⟨by first | rfl | (simp; done), qQm BB.out _, NW3.out.drewN _⟩
set_option maxHeartbeats 8000000 in
set_option maxRecDepth 100000 in
theorem qZr.in_end (b : Nat) (id pr it su fe ppm : Int) (sd : Bool) (st cl en le fa ct : Int) (w : World) (h : w.heap[b]? = some (.cells (loanC id pr it su fe ppm sd st cl en le fa ct) 43 (0, 0))) (p q r : Nat) (pf pi pp : Int) (hp : w.heap[p]? = some (.cells #[.int .i64 pf] 2 (0, 0))) (hq : w.heap[q]? = some (.cells #[.int .i64 pi] 2 (0, 0))) (hr : w.heap[r]? = some (.cells #[.int .i64 pp] 2 (0, 0))) (hn : 0 ≤ pf ∧ 0 ≤ pi ∧ 0 ≤ pp) (hc : cl = 0) (n : Int) (h1 : qZb.f it = some n) (hx : pf ≤ fe ∧ pi ≤ n ∧ pp ≤ pr) (i0 : 0 ≤ it) (i1 : it ≤ 1000000000000000000) (n1 : n * 1000000 ≤ it) (f9 : fe ≤ 10000000000000) (p9 : pr ≤ 10000000000000) (hne : p ≠ b ∧ q ≠ b ∧ r ≠ b) (n2 : Int) (h2 : qZb.f (it - pi * 1000000) = some n2) (hz : fe - pf = 0 ∧ n2 = 0 ∧ pr - pp = 0) :
    Calls Try.prog 45 #[.pointer (some ⟨b, 0, none⟩), .pointer (some ⟨p, 0, none⟩), .pointer (some ⟨q, 0, none⟩), .pointer (some ⟨r, 0, none⟩)] w fun e w' => e = .returned (.tuple #[]) ∧ w'.heap[b]? = some (.cells (loanC id 0 0 su 0 ppm sd st 1 en le fa ct) 43 (0, 0)) ∧ qQb.Near b b w w' := by
  subst hc
  have a1 : w.cell? ⟨p, 0, none⟩ = some (.int .i64 pf) := (qQa hp 0).trans rfl
  have a2 : w.cell? ⟨q, 0, none⟩ = some (.int .i64 pi) := (qQa hq 0).trans rfl
  have a3 : w.cell? ⟨r, 0, none⟩ = some (.int .i64 pp) := (qQa hr 0).trans rfl
  have l1 : w.cell? ⟨b, 1, none⟩ = some (.int .i64 pr) := (qQa h 1).trans rfl
  have l2 : w.cell? ⟨b, 2, none⟩ = some (.int .i64 it) := (qQa h 2).trans rfl
  have l4 : w.cell? ⟨b, 4, none⟩ = some (.int .i64 fe) := (qQa h 4).trans rfl
  have B := am h
  have P := am hp
  have Q := am hq
  have R := am hr
  clear h hp hq hr
  have d0 : decide (pf < 0) = false := decide_eq_false (by omega)
  have d1 : decide (pi < 0) = false := decide_eq_false (by omega)
  have d2 : decide (pp < 0) = false := decide_eq_false (by omega)
  have e0 : decide (fe < pf) = false := decide_eq_false (by omega)
  have e1 : decide (n < pi) = false := decide_eq_false (by omega)
  have e2 : decide (pr < pp) = false := decide_eq_false (by omega)
  have HZ := am hz
  clear hz
  have H2 := am h2
  clear h2
  have H1 := am h1
  have NE := am hne
  have g1 := qQi B.out 1
  have g2 := qQi B.out 2
  have g4 := qQi B.out 4
  clear h1
  go_enter Try.func45, Try.ntmps45
  go_wp2_with (first | (go_at_call 46; (with_reducible refine (qQb.qY0 1 false _ (.inr rfl)).mono ?_); rintro e w' ⟨rfl, ⟨nd1, rfl⟩⟩) | (go_at_call 47; (with_reducible refine (qQb.qX7 b id pr it su fe ppm sd st en le fa ct _ (qQm B.out _)).mono ?_); rintro e w' ⟨rfl, ⟨nd, rfl⟩⟩))
  refine wp_region_held_drew (S := fun W => W.cell? ⟨p, 0, none⟩ = some (.int .i64 pf) ∧ W.cell? ⟨q, 0, none⟩ = some (.int .i64 pi) ∧ W.cell? ⟨r, 0, none⟩ = some (.int .i64 pp) ∧ W.cell? ⟨b, 4, none⟩ = some (.int .i64 fe) ∧ W.cell? ⟨b, 2, none⟩ = some (.int .i64 it) ∧ W.cell? ⟨b, 1, none⟩ = some (.int .i64 pr)) (by kernel_rfl) ⟨a1, a2, a3, l4, l2, l1⟩ (fun hHeld => ?_)
  first | refine qQb.tg 0 ?_ | refine qQb.tk 0 ?_
  first | refine qQb.tg 1 ?_ | refine qQb.tk 1 ?_
  first | refine qQb.tg 2 ?_ | refine qQb.tk 2 ?_
  try simp only [Act.put, getElem_toArray, getElem_cons_zero, getElem_cons_succ, setIfInBounds_toArray, set_cons_zero, set_cons_succ]
  first | refine qQb.tg 3 ?_ | refine qQb.tk 3 ?_
  first | refine qQb.tg 4 ?_ | refine qQb.tk 4 ?_
  first | refine qQb.tg 5 ?_ | refine qQb.tk 5 ?_
  try simp only [Act.put, getElem_toArray, getElem_cons_zero, getElem_cons_succ, setIfInBounds_toArray, set_cons_zero, set_cons_succ]
  first | refine qQb.tg 6 ?_ | refine qQb.tk 6 ?_
  first | refine qQb.tg 7 ?_ | refine qQb.tk 7 ?_
  first | refine qQb.tg 8 ?_ | refine qQb.tk 8 ?_
  try simp only [Act.put, getElem_toArray, getElem_cons_zero, getElem_cons_succ, setIfInBounds_toArray, set_cons_zero, set_cons_succ]
  first | refine qQb.tg 9 ?_ | refine qQb.tk 9 ?_
  first | refine qQb.tg 10 ?_ | refine qQb.tk 10 ?_
  first | refine qQb.tg 11 ?_ | refine qQb.tk 11 ?_
  try simp only [Act.put, getElem_toArray, getElem_cons_zero, getElem_cons_succ, setIfInBounds_toArray, set_cons_zero, set_cons_succ]
  refine wpAnyH_ready (rs := [12]) (by kernel_rfl) (by simp) ?_
  refine AllReadyH.cons rfl (fun K hK => ?_) AllReadyH.nil
  go_simp
  go_wp2_with (go_at_call 25; (refine (qZb.calls _ _ _ H1.out).mono ?_); rintro e w' ⟨rfl, ⟨nd2, rfl⟩⟩)
  refine hK.out _ _ ⟨a1, a2, a3, l4, l2, l1⟩ (fun hHeld1 => ?_)
  clear hK K
  try simp only [Act.put, getElem_toArray, getElem_cons_zero, getElem_cons_succ, setIfInBounds_toArray, set_cons_zero, set_cons_succ]
  first | refine qQb.tg 13 ?_ | refine qQb.tk 13 ?_
  first | refine qQb.tg 14 ?_ | refine qQb.tk 14 ?_
  first | refine qQb.tg 15 ?_ | refine qQb.tk 15 ?_
  try simp only [Act.put, getElem_toArray, getElem_cons_zero, getElem_cons_succ, setIfInBounds_toArray, set_cons_zero, set_cons_succ]
  first | refine qQb.tg 16 ?_ | refine qQb.tk 16 ?_
  first | refine qQb.tg 17 ?_ | refine qQb.tk 17 ?_
  first | refine qQb.tg 18 ?_ | refine qQb.tk 18 ?_
  try simp only [Act.put, getElem_toArray, getElem_cons_zero, getElem_cons_succ, setIfInBounds_toArray, set_cons_zero, set_cons_succ]
  first | refine qQb.tg 19 ?_ | refine qQb.tk 19 ?_
  first | refine qQb.tg 20 ?_ | refine qQb.tk 20 ?_
  first | refine qQb.tg 21 ?_ | refine qQb.tk 21 ?_
  try simp only [Act.put, getElem_toArray, getElem_cons_zero, getElem_cons_succ, setIfInBounds_toArray, set_cons_zero, set_cons_succ]
  first | refine qQb.tg 22 ?_ | refine qQb.tk 22 ?_
  try simp only [Act.put, getElem_toArray, getElem_cons_zero, getElem_cons_succ, setIfInBounds_toArray, set_cons_zero, set_cons_succ]
  refine wpAnyH_ready (rs := [23]) (by kernel_rfl) (by simp) ?_
  refine AllReadyH.cons rfl (fun K hK => ?_) AllReadyH.nil
  go_simp
  go_wp2_with (go_at_call 46; (with_reducible refine (qQb.qY0 14 false _ (.inr rfl)).mono ?_); rintro e w' ⟨rfl, ⟨nd3, rfl⟩⟩)
  refine hK.out _ _ ⟨a1, a2, a3, l4, l2, l1⟩ (fun hHeld2 => ?_)
  clear hK K
  try simp only [Act.put, getElem_toArray, getElem_cons_zero, getElem_cons_succ, setIfInBounds_toArray, set_cons_zero, set_cons_succ]
  refine wpAnyH_done (by kernel_rfl) ?_ _
  clear hHeld hHeld1 hHeld2
  go_wp2
  generalize hW0 : w.drewN _ = W0
  have B0 : W0.heap[b]? = some (.cells (loanC id pr it su fe ppm sd st 0 en le fa ct) 43 (0, 0)) := by rw [← hW0]; exact B.out
  have P0 : W0.heap[p]? = some (.cells #[.int .i64 pf] 2 (0, 0)) := by rw [← hW0]; exact P.out
  have Q0 : W0.heap[q]? = some (.cells #[.int .i64 pi] 2 (0, 0)) := by rw [← hW0]; exact Q.out
  have R0 : W0.heap[r]? = some (.cells #[.int .i64 pp] 2 (0, 0)) := by rw [← hW0]; exact R.out
  have N0 : Aside0 (qQb.Near b b w W0) := ⟨by rw [← hW0]; exact (qQb.Near.refl b b w).drewN _⟩
  have x1 : W0.drew.cell? ⟨p, 0, none⟩ = some (.int .i64 pf) := (qQa (qQk P0) 0).trans rfl
  have x2 : W0.drew.cell? ⟨b, 4, none⟩ = some (.int .i64 fe) := (qQa (qQk B0) 4).trans rfl
  have x3 := qQi (qQk B0) 4
  clear hW0 a1 a2 a3 l1 l2 l4 g1 g2 g4
  go_region
  generalize hW : World.drew _ = W1
  have BW1 : W1.heap[b]? = some (.cells (loanC id pr it su (fe - pf) ppm sd st 0 en le fa ct) 43 (0, 0)) := by rw [← hW]; exact qQk (qQ1 B0 4 _ rfl)
  have PW1 : W1.heap[p]? = some (.cells #[.int .i64 pf] 2 (0, 0)) := by rw [← hW]; exact qQk (qZi P0 (by simpa using NE.out.1) _)
  have QW1 : W1.heap[q]? = some (.cells #[.int .i64 pi] 2 (0, 0)) := by rw [← hW]; exact qQk (qZi Q0 (by simpa using NE.out.2.1) _)
  have RW1 : W1.heap[r]? = some (.cells #[.int .i64 pp] 2 (0, 0)) := by rw [← hW]; exact qQk (qZi R0 (by simpa using NE.out.2.2) _)
  have NW1 : Aside0 (qQb.Near b b w W1) := ⟨by rw [← hW]; exact (N0.out.put _ _ rfl).step (Below.refl _ _).drew⟩
  clear hW
  have y1W1 : W1.drew.cell? ⟨q, 0, none⟩ = some (.int .i64 pi) := (qQa (qQk QW1) 0).trans rfl
  have y2W1 : W1.drew.cell? ⟨b, 2, none⟩ = some (.int .i64 it) := (qQa (qQk BW1) 2).trans rfl
  have y3W1 := qQi (qQk BW1) 2
  go_wp2
  go_region
  generalize hW : World.drew _ = W2
  have BW2 : W2.heap[b]? = some (.cells (loanC id pr (it - pi * 1000000) su (fe - pf) ppm sd st 0 en le fa ct) 43 (0, 0)) := by rw [← hW]; exact qQk (qQ1 BW1 2 _ rfl)
  have PW2 : W2.heap[p]? = some (.cells #[.int .i64 pf] 2 (0, 0)) := by rw [← hW]; exact qQk (qZi PW1 (by simpa using NE.out.1) _)
  have QW2 : W2.heap[q]? = some (.cells #[.int .i64 pi] 2 (0, 0)) := by rw [← hW]; exact qQk (qZi QW1 (by simpa using NE.out.2.1) _)
  have RW2 : W2.heap[r]? = some (.cells #[.int .i64 pp] 2 (0, 0)) := by rw [← hW]; exact qQk (qZi RW1 (by simpa using NE.out.2.2) _)
  have NW2 : Aside0 (qQb.Near b b w W2) := ⟨by rw [← hW]; exact (NW1.out.put _ _ rfl).step (Below.refl _ _).drew⟩
  clear hW
  have y1W2 : W2.drew.cell? ⟨r, 0, none⟩ = some (.int .i64 pp) := (qQa (qQk RW2) 0).trans rfl
  have y2W2 : W2.drew.cell? ⟨b, 1, none⟩ = some (.int .i64 pr) := (qQa (qQk BW2) 1).trans rfl
  have y3W2 := qQi (qQk BW2) 1
  go_wp2
  go_region
  generalize hW : World.drew _ = W3
  have BW3 : W3.heap[b]? = some (.cells (loanC id (pr - pp) (it - pi * 1000000) su (fe - pf) ppm sd st 0 en le fa ct) 43 (0, 0)) := by rw [← hW]; exact qQk (qQ1 BW2 1 _ rfl)
  have PW3 : W3.heap[p]? = some (.cells #[.int .i64 pf] 2 (0, 0)) := by rw [← hW]; exact qQk (qZi PW2 (by simpa using NE.out.1) _)
  have QW3 : W3.heap[q]? = some (.cells #[.int .i64 pi] 2 (0, 0)) := by rw [← hW]; exact qQk (qZi QW2 (by simpa using NE.out.2.1) _)
  have RW3 : W3.heap[r]? = some (.cells #[.int .i64 pp] 2 (0, 0)) := by rw [← hW]; exact qQk (qZi RW2 (by simpa using NE.out.2.2) _)
  have NW3 : Aside0 (qQb.Near b b w W3) := ⟨by rw [← hW]; exact (NW2.out.put _ _ rfl).step (Below.refl _ _).drew⟩
  clear hW
  have y4 : W3.cell? ⟨b, 4, none⟩ = some (.int .i64 (fe - pf)) := (qQa BW3 4).trans rfl
  have y2 : W3.cell? ⟨b, 2, none⟩ = some (.int .i64 (it - pi * 1000000)) := (qQa BW3 2).trans rfl
  have y1 : W3.cell? ⟨b, 1, none⟩ = some (.int .i64 (pr - pp)) := (qQa BW3 1).trans rfl
  have BB := am BW3
  clear BW3 BW2 BW1 B0
  have hz := HZ.out
  have v0 : ((fe - pf) == 0) = true := beq_iff_eq.mpr (by omega)
  have v1 : (n2 == 0) = true := beq_iff_eq.mpr (by omega)
  have v2 : ((pr - pp) == 0) = true := beq_iff_eq.mpr (by omega)
  clear hz
  go_wp2_with (first | (go_at_call 25; (with_reducible refine (qZb.calls _ _ _ H2.out).mono ?_); rintro e w' ⟨rfl, ⟨nd5, rfl⟩⟩) | (go_at_call 48; (with_reducible refine (qQb.end_ok b _ _ _ _ _ _ _ _ _ _ _ _ _ _ (qQm BB.out _) 1).mono ?_); rintro e w9 ⟨rfl, hb9, hN9⟩))
  go_end0
  exact ⟨by first | rfl | (simp; done), hb9, (NW3.out.drewN _).trans hN9⟩
end Go.Proofs.Yteemomncbcpdjaa.P
