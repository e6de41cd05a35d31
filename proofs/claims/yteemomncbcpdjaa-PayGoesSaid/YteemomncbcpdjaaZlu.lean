/- A part of a proof. -/
import Derived.Test.YteemomncbcpdjaaPx3
import Derived.Test.YteemomncbcpdjaaPx4
import Derived.Test.YteemomncbcpdjaaPx5
import Derived.Test.YteemomncbcpdjaaPx7
import Derived.Test.YteemomncbcpdjaaZls
import Derived.Test.YteemomncbcpdjaaZlt
import Derived.Deep.RegionHeld3
import Derived.Laws.CopyOwn
namespace Go.Proofs.Yteemomncbcpdjaa.P
open Go.RowKit W.PrintWords W.PrintLast W.PrintMore
attribute [local go_sem] qZs qZq qZ5 qZ6 qZk qZl qZt qZp
set_option linter.unusedVariables false
set_option linter.unusedSimpArgs false
set_option linter.unnecessarySimpa false
def qZr.f (k : Nat) (id pr it su fe ppm : Int) (sd : Bool) (st cl en le fa ct : Int) (pf pi pp : Int) : Option (Int × Int × Int × Int × Int × Int × Bool × Int × Int × Int × Int × Int × Int × Int) := (qQy.f k id pr it su fe ppm sd st cl en le fa ct).bind fun g =>
  if g = true then (if (0 ≤ it ∧ it ≤ 1000000000000000000) ∧ fe ≤ 10000000000000 ∧ pr ≤ 10000000000000 then (if pf < 0 ∨ pi < 0 ∨ pp < 0 then some (0, 0, 0, 0, 0, 0, false, 0, 0, 0, 0, 0, 0, 1) else if ¬ cl = 0 then some (0, 0, 0, 0, 0, 0, false, 0, 0, 0, 0, 0, 0, 61) else if fe < pf ∨ it / 1000000 < pi ∨ pr < pp then some (0, 0, 0, 0, 0, 0, false, 0, 0, 0, 0, 0, 0, 14)
    else if fe - pf = 0 ∧ (it - pi * 1000000) / 1000000 = 0 ∧ pr - pp = 0 then some (id, 0, 0, su, 0, ppm, sd, st, 1, en, le, fa, ct, 0) else some (id, pr - pp, it - pi * 1000000, su, fe - pf, ppm, sd, st, 0, en, le, fa, ct, 0)) else none) else some (0, 0, 0, 0, 0, 0, false, 0, 0, 0, 0, 0, 0, 1)
set_option maxHeartbeats 8000000 in
set_option maxRecDepth 100000 in
theorem qZr.calls (k : Nat) (id pr it su fe ppm : Int) (sd : Bool) (st cl en le fa ct : Int) (pf pi pp : Int) (r1 : Int) (r2 : Int) (r3 : Int) (r4 : Int) (r5 : Int) (r6 : Int) (r7 : Bool) (r8 : Int) (r9 : Int) (r10 : Int) (r11 : Int) (r12 : Int) (r13 : Int) (r14 : Int) (w : World) (h : qZr.f k id pr it su fe ppm sd st cl en le fa ct pf pi pp = some (r1, r2, r3, r4, r5, r6, r7, r8, r9, r10, r11, r12, r13, r14)) :
    Calls Try.prog 28 #[.agg #[.int .i64 id, .int .i64 pr, .int .i64 it, .int .i64 su, .int .i64 fe, .int .i64 ppm, .bool sd, .int .i64 st, .int .i64 cl, .int .i64 en, .int .i64 le, .int .i64 fa, .int .i64 ct], .int .i64 pf, .int .i64 pi, .int .i64 pp] w fun e w' => e = .returned (.tuple #[.agg #[.int .i64 r1, .int .i64 r2, .int .i64 r3, .int .i64 r4, .int .i64 r5, .int .i64 r6, .bool r7, .int .i64 r8, .int .i64 r9, .int .i64 r10, .int .i64 r11, .int .i64 r12, .int .i64 r13], .int .i64 r14]) ∧ Below w.heap.size w w' := by
  have hf : ∀ args W, (callFunc 45 args).run Try.prog W = .ok (.enter 45 args) W := fun _ _ => by rfl
  unfold qZr.f at h
  obtain ⟨g, hg, h⟩ := Option.bind_eq_some_iff.mp h
  apply qZr.by_
  intro W hA hB hC hW
  have l1 := qZd hA
  have l2 := qZd hB
  have l3 := qZd hC
  cases g with
  | false =>
    rw [if_neg (by simp)] at h
    simp only [Option.some.injEq, Prod.mk.injEq] at h
    obtain ⟨rfl, rfl, rfl, rfl, rfl, rfl, rfl, rfl, rfl, rfl, rfl, rfl, rfl, rfl⟩ := h
    exact qQb.zQw k _ _ _ _ _ _ _ _ _ _ _ _ _ _ W hg
  | true =>
    rw [if_pos rfl] at h
    by_cases ci : (0 ≤ it ∧ it ≤ 1000000000000000000) ∧ fe ≤ 10000000000000 ∧ pr ≤ 10000000000000
    · rw [if_pos ci] at h
      by_cases cd : pf < 0 ∨ pi < 0 ∨ pp < 0
      · rw [if_pos cd] at h
        by_cases cd1 : pf < 0
        · skip
          simp only [Option.some.injEq, Prod.mk.injEq] at h
          obtain ⟨rfl, rfl, rfl, rfl, rfl, rfl, rfl, rfl, rfl, rfl, rfl, rfl, rfl, rfl⟩ := h
          refine (qQb.qXn k id pr it su fe ppm sd st cl en le fa ct 45 #[.pointer (some ⟨w.heap.size + 1, 0, none⟩), .pointer (some ⟨w.heap.size + 2, 0, none⟩), .pointer (some ⟨w.heap.size + 3, 0, none⟩)] 1 W.heap.size (.cells #[] 0 (0, 0)) W (Nat.le_refl _) hf hg (fun V hV _ hb => ?_)).mono (fun e w' ⟨h1, h2, _⟩ => ⟨h1, h2.below⟩)
          exact (qZr.in_n1 W.heap.size id pr it su fe ppm sd st cl en le fa ct V hV _ _ _ pf pi pp (qQb.kept hb hA) (qQb.kept hb hB) (qQb.kept hb hC) cd1).mono (fun e w' ⟨h1, h3⟩ => ⟨h1, h3, fun h => absurd h (Nat.lt_irrefl _)⟩)
        by_cases cd2 : pi < 0
        · skip
          simp only [Option.some.injEq, Prod.mk.injEq] at h
          obtain ⟨rfl, rfl, rfl, rfl, rfl, rfl, rfl, rfl, rfl, rfl, rfl, rfl, rfl, rfl⟩ := h
          refine (qQb.qXn k id pr it su fe ppm sd st cl en le fa ct 45 #[.pointer (some ⟨w.heap.size + 1, 0, none⟩), .pointer (some ⟨w.heap.size + 2, 0, none⟩), .pointer (some ⟨w.heap.size + 3, 0, none⟩)] 1 W.heap.size (.cells #[] 0 (0, 0)) W (Nat.le_refl _) hf hg (fun V hV _ hb => ?_)).mono (fun e w' ⟨h1, h2, _⟩ => ⟨h1, h2.below⟩)
          exact (qZr.in_n2 W.heap.size id pr it su fe ppm sd st cl en le fa ct V hV _ _ _ pf pi pp (qQb.kept hb hA) (qQb.kept hb hB) (qQb.kept hb hC) (by omega)).mono (fun e w' ⟨h1, h3⟩ => ⟨h1, h3, fun h => absurd h (Nat.lt_irrefl _)⟩)
        · skip
          simp only [Option.some.injEq, Prod.mk.injEq] at h
          obtain ⟨rfl, rfl, rfl, rfl, rfl, rfl, rfl, rfl, rfl, rfl, rfl, rfl, rfl, rfl⟩ := h
          refine (qQb.qXn k id pr it su fe ppm sd st cl en le fa ct 45 #[.pointer (some ⟨w.heap.size + 1, 0, none⟩), .pointer (some ⟨w.heap.size + 2, 0, none⟩), .pointer (some ⟨w.heap.size + 3, 0, none⟩)] 1 W.heap.size (.cells #[] 0 (0, 0)) W (Nat.le_refl _) hf hg (fun V hV _ hb => ?_)).mono (fun e w' ⟨h1, h2, _⟩ => ⟨h1, h2.below⟩)
          exact (qZr.in_n3 W.heap.size id pr it su fe ppm sd st cl en le fa ct V hV _ _ _ pf pi pp (qQb.kept hb hA) (qQb.kept hb hB) (qQb.kept hb hC) (by omega)).mono (fun e w' ⟨h1, h3⟩ => ⟨h1, h3, fun h => absurd h (Nat.lt_irrefl _)⟩)
      · rw [if_neg cd] at h
        by_cases cc : ¬ cl = 0
        · rw [if_pos cc] at h
          simp only [Option.some.injEq, Prod.mk.injEq] at h
          obtain ⟨rfl, rfl, rfl, rfl, rfl, rfl, rfl, rfl, rfl, rfl, rfl, rfl, rfl, rfl⟩ := h
          refine (qQb.qXn k id pr it su fe ppm sd st cl en le fa ct 45 #[.pointer (some ⟨w.heap.size + 1, 0, none⟩), .pointer (some ⟨w.heap.size + 2, 0, none⟩), .pointer (some ⟨w.heap.size + 3, 0, none⟩)] 61 W.heap.size (.cells #[] 0 (0, 0)) W (Nat.le_refl _) hf hg (fun V hV _ hb => ?_)).mono (fun e w' ⟨h1, h2, _⟩ => ⟨h1, h2.below⟩)
          exact (qZr.zZl W.heap.size id pr it su fe ppm sd st cl en le fa ct V hV _ _ _ pf pi pp (qQb.kept hb hA) (qQb.kept hb hB) (qQb.kept hb hC) (by omega) cc).mono (fun e w' ⟨h1, h3⟩ => ⟨h1, h3, fun h => absurd h (Nat.lt_irrefl _)⟩)
        · rw [if_neg cc] at h
          have cc0 : cl = 0 := Decidable.not_not.mp cc
          by_cases cx : fe < pf ∨ it / 1000000 < pi ∨ pr < pp
          · rw [if_pos cx] at h
            by_cases cx1 : fe < pf
            · skip
              simp only [Option.some.injEq, Prod.mk.injEq] at h
              obtain ⟨rfl, rfl, rfl, rfl, rfl, rfl, rfl, rfl, rfl, rfl, rfl, rfl, rfl, rfl⟩ := h
              refine (qQb.qXn k id pr it su fe ppm sd st cl en le fa ct 45 #[.pointer (some ⟨w.heap.size + 1, 0, none⟩), .pointer (some ⟨w.heap.size + 2, 0, none⟩), .pointer (some ⟨w.heap.size + 3, 0, none⟩)] 14 W.heap.size (.cells #[] 0 (0, 0)) W (Nat.le_refl _) hf hg (fun V hV _ hb => ?_)).mono (fun e w' ⟨h1, h2, _⟩ => ⟨h1, h2.below⟩)
              exact (qZr.in_r1 W.heap.size id pr it su fe ppm sd st cl en le fa ct V hV _ _ _ pf pi pp (qQb.kept hb hA) (qQb.kept hb hB) (qQb.kept hb hC) (by omega) cc0 cx1).mono (fun e w' ⟨h1, h3⟩ => ⟨h1, h3, fun h => absurd h (Nat.lt_irrefl _)⟩)
            by_cases cx2 : it / 1000000 < pi
            · skip
              simp only [Option.some.injEq, Prod.mk.injEq] at h
              obtain ⟨rfl, rfl, rfl, rfl, rfl, rfl, rfl, rfl, rfl, rfl, rfl, rfl, rfl, rfl⟩ := h
              refine (qQb.qXn k id pr it su fe ppm sd st cl en le fa ct 45 #[.pointer (some ⟨w.heap.size + 1, 0, none⟩), .pointer (some ⟨w.heap.size + 2, 0, none⟩), .pointer (some ⟨w.heap.size + 3, 0, none⟩)] 14 W.heap.size (.cells #[] 0 (0, 0)) W (Nat.le_refl _) hf hg (fun V hV _ hb => ?_)).mono (fun e w' ⟨h1, h2, _⟩ => ⟨h1, h2.below⟩)
              exact (qZr.in_r2 W.heap.size id pr it su fe ppm sd st cl en le fa ct V hV _ _ _ pf pi pp (qQb.kept hb hA) (qQb.kept hb hB) (qQb.kept hb hC) (by omega) cc0 _ (qQb.whole ci.1.1 ci.1.2) (by omega)).mono (fun e w' ⟨h1, h3⟩ => ⟨h1, h3, fun h => absurd h (Nat.lt_irrefl _)⟩)
            · skip
              simp only [Option.some.injEq, Prod.mk.injEq] at h
              obtain ⟨rfl, rfl, rfl, rfl, rfl, rfl, rfl, rfl, rfl, rfl, rfl, rfl, rfl, rfl⟩ := h
              refine (qQb.qXn k id pr it su fe ppm sd st cl en le fa ct 45 #[.pointer (some ⟨w.heap.size + 1, 0, none⟩), .pointer (some ⟨w.heap.size + 2, 0, none⟩), .pointer (some ⟨w.heap.size + 3, 0, none⟩)] 14 W.heap.size (.cells #[] 0 (0, 0)) W (Nat.le_refl _) hf hg (fun V hV _ hb => ?_)).mono (fun e w' ⟨h1, h2, _⟩ => ⟨h1, h2.below⟩)
              exact (qZr.in_r3 W.heap.size id pr it su fe ppm sd st cl en le fa ct V hV _ _ _ pf pi pp (qQb.kept hb hA) (qQb.kept hb hB) (qQb.kept hb hC) (by omega) cc0 _ (qQb.whole ci.1.1 ci.1.2) (by omega)).mono (fun e w' ⟨h1, h3⟩ => ⟨h1, h3, fun h => absurd h (Nat.lt_irrefl _)⟩)
          · rw [if_neg cx] at h
            by_cases cz : fe - pf = 0 ∧ (it - pi * 1000000) / 1000000 = 0 ∧ pr - pp = 0
            · rw [if_pos cz] at h
              simp only [Option.some.injEq, Prod.mk.injEq] at h
              obtain ⟨rfl, rfl, rfl, rfl, rfl, rfl, rfl, rfl, rfl, rfl, rfl, rfl, rfl, rfl⟩ := h
              refine (qQb.qVj k id pr it su fe ppm sd st cl en le fa ct 45 #[.pointer (some ⟨w.heap.size + 1, 0, none⟩), .pointer (some ⟨w.heap.size + 2, 0, none⟩), .pointer (some ⟨w.heap.size + 3, 0, none⟩)] _ _ _ _ _ _ _ _ _ _ _ _ _ W.heap.size (.cells #[] 0 (0, 0)) W (Nat.le_refl _) hf hg (fun V hV _ hb => ?_)).mono (fun e w' ⟨h1, h2, _⟩ => ⟨h1, h2.below⟩)
              exact (qZr.in_end W.heap.size id pr it su fe ppm sd st cl en le fa ct V hV _ _ _ pf pi pp (qQb.kept hb hA) (qQb.kept hb hB) (qQb.kept hb hC) (by omega) cc0 _ (qQb.whole ci.1.1 ci.1.2) (by omega) ci.1.1 ci.1.2 (by omega) ci.2.1 ci.2.2 (by omega) _ (qQb.whole (by omega) (by omega)) (by omega)).mono (fun e w' ⟨h1, h2, h3⟩ => ⟨h1, h2, h3, fun h => absurd h (Nat.lt_irrefl _)⟩)
            · rw [if_neg cz] at h
              by_cases cz1 : fe - pf = 0
              · by_cases cz2 : (it - pi * 1000000) / 1000000 = 0
                · skip
                  simp only [Option.some.injEq, Prod.mk.injEq] at h
                  obtain ⟨rfl, rfl, rfl, rfl, rfl, rfl, rfl, rfl, rfl, rfl, rfl, rfl, rfl, rfl⟩ := h
                  refine (qQb.qVj k id pr it su fe ppm sd st cl en le fa ct 45 #[.pointer (some ⟨w.heap.size + 1, 0, none⟩), .pointer (some ⟨w.heap.size + 2, 0, none⟩), .pointer (some ⟨w.heap.size + 3, 0, none⟩)] _ _ _ _ _ _ _ _ _ _ _ _ _ W.heap.size (.cells #[] 0 (0, 0)) W (Nat.le_refl _) hf hg (fun V hV _ hb => ?_)).mono (fun e w' ⟨h1, h2, _⟩ => ⟨h1, h2.below⟩)
                  exact (qZr.zQj W.heap.size id pr it su fe ppm sd st cl en le fa ct V hV _ _ _ pf pi pp (qQb.kept hb hA) (qQb.kept hb hB) (qQb.kept hb hC) (by omega) cc0 _ (qQb.whole ci.1.1 ci.1.2) (by omega) ci.1.1 ci.1.2 (by omega) ci.2.1 ci.2.2 (by omega) _ (qQb.whole (by omega) (by omega)) (by omega)).mono (fun e w' ⟨h1, h2, h3⟩ => ⟨h1, h2, h3, fun h => absurd h (Nat.lt_irrefl _)⟩)
                · skip
                  simp only [Option.some.injEq, Prod.mk.injEq] at h
                  obtain ⟨rfl, rfl, rfl, rfl, rfl, rfl, rfl, rfl, rfl, rfl, rfl, rfl, rfl, rfl⟩ := h
                  refine (qQb.qVj k id pr it su fe ppm sd st cl en le fa ct 45 #[.pointer (some ⟨w.heap.size + 1, 0, none⟩), .pointer (some ⟨w.heap.size + 2, 0, none⟩), .pointer (some ⟨w.heap.size + 3, 0, none⟩)] _ _ _ _ _ _ _ _ _ _ _ _ _ W.heap.size (.cells #[] 0 (0, 0)) W (Nat.le_refl _) hf hg (fun V hV _ hb => ?_)).mono (fun e w' ⟨h1, h2, _⟩ => ⟨h1, h2.below⟩)
                  exact (qZr.zQf W.heap.size id pr it su fe ppm sd st cl en le fa ct V hV _ _ _ pf pi pp (qQb.kept hb hA) (qQb.kept hb hB) (qQb.kept hb hC) (by omega) cc0 _ (qQb.whole ci.1.1 ci.1.2) (by omega) ci.1.1 ci.1.2 (by omega) ci.2.1 ci.2.2 (by omega) _ (qQb.whole (by omega) (by omega)) (by omega)).mono (fun e w' ⟨h1, h2, h3⟩ => ⟨h1, h2, h3, fun h => absurd h (Nat.lt_irrefl _)⟩)
              · skip
                simp only [Option.some.injEq, Prod.mk.injEq] at h
                obtain ⟨rfl, rfl, rfl, rfl, rfl, rfl, rfl, rfl, rfl, rfl, rfl, rfl, rfl, rfl⟩ := h
                refine (qQb.qVj k id pr it su fe ppm sd st cl en le fa ct 45 #[.pointer (some ⟨w.heap.size + 1, 0, none⟩), .pointer (some ⟨w.heap.size + 2, 0, none⟩), .pointer (some ⟨w.heap.size + 3, 0, none⟩)] _ _ _ _ _ _ _ _ _ _ _ _ _ W.heap.size (.cells #[] 0 (0, 0)) W (Nat.le_refl _) hf hg (fun V hV _ hb => ?_)).mono (fun e w' ⟨h1, h2, _⟩ => ⟨h1, h2.below⟩)
                exact (qZr.zQd W.heap.size id pr it su fe ppm sd st cl en le fa ct V hV _ _ _ pf pi pp (qQb.kept hb hA) (qQb.kept hb hB) (qQb.kept hb hC) (by omega) cc0 _ (qQb.whole ci.1.1 ci.1.2) (by omega) ci.1.1 ci.1.2 (by omega) ci.2.1 ci.2.2 (by omega) (by omega)).mono (fun e w' ⟨h1, h2, h3⟩ => ⟨h1, h2, h3, fun h => absurd h (Nat.lt_irrefl _)⟩)
    · rw [if_neg ci] at h; cases h
end Go.Proofs.Yteemomncbcpdjaa.P
