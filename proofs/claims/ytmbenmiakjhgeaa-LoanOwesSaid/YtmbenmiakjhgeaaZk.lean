/- Loans: contracts of the functions on loans, walked by hand. -/
import Derived.Test.YtmbenmiakjhgeaaZh
import Derived.Test.YtmbenmiakjhgeaaZi
import Derived.Test.YtmbenmiakjhgeaaZj
import Derived.Test.YtmbenmiakjhgeaaPx4
import Derived.Test.YtmbenmiakjhgeaaPx6
import Derived.Test.YtmbenmiakjhgeaaPx3
import Derived.Deep.RegionHeld3
import Derived.Laws.CopyOwn
namespace Go.Proofs.Ytmbenmiakjhgeaa.P
open Go.RowKit Go.Proofs.YtmbenmiakjhgeaaW.PrintWords Go.Proofs.YtmbenmiakjhgeaaW.PrintLast Go.Proofs.YtmbenmiakjhgeaaW.PrintMore
attribute [local go_sem] max2_int min2_int max_two min_two max_three min_three max_four min_four   -- for this text's walks alone
set_option linter.unusedVariables false
set_option linter.unusedSimpArgs false
set_option linter.unnecessarySimpa false
def loan_Turn.bad (st en s : Int) : Prop := s < 1 ∨ 5 < s ∨ s = st ∨ ((s = 1 ∨ s = 2) ∧ 0 ≤ en) ∨ (s = 1 ∧ st = 2)
instance (st en s : Int) : Decidable (loan_Turn.bad st en s) := by unfold loan_Turn.bad; infer_instance
def loan_Turn.f (k : Nat) (id pr it su fe ppm : Int) (sd : Bool) (st cl en le fa ct : Int) (s day : Int) : Option (Int × Int × Int × Int × Int × Int × Bool × Int × Int × Int × Int × Int × Int × Int) := (loan_Good.f k id pr it su fe ppm sd st cl en le fa ct).bind fun g =>
  if g = true then (if 0 ≤ it ∧ it ≤ 1000000000000000000 then (if day < 0 ∨ 87658 < day then some (0, 0, 0, 0, 0, 0, false, 0, 0, 0, 0, 0, 0, 1) else if ¬ cl = 0 then some (0, 0, 0, 0, 0, 0, false, 0, 0, 0, 0, 0, 0, 61) else if loan_Turn.bad st en s then some (0, 0, 0, 0, 0, 0, false, 0, 0, 0, 0, 0, 0, 62)
    else if s = 5 then (money_Add.f pr (it / 1000000)).bind fun p => (if p.2 = 0 then some (id, p.1, it - it / 1000000 * 1000000, su, fe, ppm, sd, s, 0, day, le, fa, ct, 0) else some (0, 0, 0, 0, 0, 0, false, 0, 0, 0, 0, 0, 0, p.2)) else some (id, pr, it, su, fe, ppm, sd, s, 0, en, le, fa, ct, 0)) else none) else some (0, 0, 0, 0, 0, 0, false, 0, 0, 0, 0, 0, 0, 1)
theorem loan_Turn.mono : ∀ (id pr it su fe ppm : Int) (sd : Bool) (st cl en le fa ct : Int) (s day : Int) k, LeO (loan_Turn.f k id pr it su fe ppm sd st cl en le fa ct s day) (loan_Turn.f (k + 1) id pr it su fe ppm sd st cl en le fa ct s day) := by
  intro id pr it su fe ppm sd st cl en le fa ct s day k
  unfold loan_Turn.f
  exact LeO.bind (loan_Good.mono _ _ _ _ _ _ _ _ _ _ _ _ _ _) (fun _ => LeO.refl _)
set_option maxHeartbeats 8000000 in
set_option maxRecDepth 100000 in
theorem loan_Turn.calls (k : Nat) (id pr it su fe ppm : Int) (sd : Bool) (st cl en le fa ct : Int) (s day : Int) (r1 : Int) (r2 : Int) (r3 : Int) (r4 : Int) (r5 : Int) (r6 : Int) (r7 : Bool) (r8 : Int) (r9 : Int) (r10 : Int) (r11 : Int) (r12 : Int) (r13 : Int) (r14 : Int) (w : World) (h : loan_Turn.f k id pr it su fe ppm sd st cl en le fa ct s day = some (r1, r2, r3, r4, r5, r6, r7, r8, r9, r10, r11, r12, r13, r14)) :
    Calls Try.prog 8 #[.agg #[.int .i64 id, .int .i64 pr, .int .i64 it, .int .i64 su, .int .i64 fe, .int .i64 ppm, .bool sd, .int .i64 st, .int .i64 cl, .int .i64 en, .int .i64 le, .int .i64 fa, .int .i64 ct], .int .i64 s, .int .i64 day] w fun e w' => e = .returned (.tuple #[.agg #[.int .i64 r1, .int .i64 r2, .int .i64 r3, .int .i64 r4, .int .i64 r5, .int .i64 r6, .bool r7, .int .i64 r8, .int .i64 r9, .int .i64 r10, .int .i64 r11, .int .i64 r12, .int .i64 r13], .int .i64 r14]) ∧ Below w.heap.size w w' := by
  have hf : ∀ args W, (callFunc 29 args).run Try.prog W = .ok (.enter 29 args) W := fun _ _ => by rfl
  unfold loan_Turn.f at h
  obtain ⟨g, hg, h⟩ := Option.bind_eq_some_iff.mp h
  apply loan_Turn.by_
  intro W hA hB hW
  have l1 := blk_lt hA
  have l2 := blk_lt hB
  cases g with
  | false =>
    rw [if_neg (by simp)] at h
    simp only [Option.some.injEq, Prod.mk.injEq] at h
    obtain ⟨rfl, rfl, rfl, rfl, rfl, rfl, rfl, rfl, rfl, rfl, rfl, rfl, rfl, rfl⟩ := h
    exact loan_does.not_good k _ _ _ _ _ _ _ _ _ _ _ _ _ _ W hg
  | true =>
    rw [if_pos rfl] at h
    by_cases ci : 0 ≤ it ∧ it ≤ 1000000000000000000
    · rw [if_pos ci] at h
      by_cases cd : day < 0 ∨ 87658 < day
      · rw [if_pos cd] at h
        simp only [Option.some.injEq, Prod.mk.injEq] at h
        obtain ⟨rfl, rfl, rfl, rfl, rfl, rfl, rfl, rfl, rfl, rfl, rfl, rfl, rfl, rfl⟩ := h
        refine (loan_does.good_bad k id pr it su fe ppm sd st cl en le fa ct 29 #[.pointer (some ⟨w.heap.size + 2, 0, none⟩), .pointer (some ⟨w.heap.size + 1, 0, none⟩)] 1 W.heap.size (.cells #[] 0 (0, 0)) W (Nat.le_refl _) hf hg (fun V hV _ hb => ?_)).mono (fun e w' ⟨h1, h2, _⟩ => ⟨h1, h2.below⟩)
        exact (loan_Turn.in_day W.heap.size id pr it su fe ppm sd st cl en le fa ct V hV _ _ day s (loan_does.kept hb hB) (loan_does.kept hb hA) cd).mono (fun e w' ⟨h1, h3⟩ => ⟨h1, h3, fun h => absurd h (Nat.lt_irrefl _)⟩)
      · rw [if_neg cd] at h
        by_cases cc : ¬ cl = 0
        · rw [if_pos cc] at h
          simp only [Option.some.injEq, Prod.mk.injEq] at h
          obtain ⟨rfl, rfl, rfl, rfl, rfl, rfl, rfl, rfl, rfl, rfl, rfl, rfl, rfl, rfl⟩ := h
          refine (loan_does.good_bad k id pr it su fe ppm sd st cl en le fa ct 29 #[.pointer (some ⟨w.heap.size + 2, 0, none⟩), .pointer (some ⟨w.heap.size + 1, 0, none⟩)] 61 W.heap.size (.cells #[] 0 (0, 0)) W (Nat.le_refl _) hf hg (fun V hV _ hb => ?_)).mono (fun e w' ⟨h1, h2, _⟩ => ⟨h1, h2.below⟩)
          exact (loan_Turn.in_gone W.heap.size id pr it su fe ppm sd st cl en le fa ct V hV _ _ day s (loan_does.kept hb hB) (loan_does.kept hb hA) (by omega) cc).mono (fun e w' ⟨h1, h3⟩ => ⟨h1, h3, fun h => absurd h (Nat.lt_irrefl _)⟩)
        · rw [if_neg cc] at h
          have cc0 : cl = 0 := Decidable.not_not.mp cc
          by_cases cb : loan_Turn.bad st en s
          · rw [if_pos cb] at h
            unfold loan_Turn.bad at cb
            by_cases d0 : s < 1
            · skip
              simp only [Option.some.injEq, Prod.mk.injEq] at h
              obtain ⟨rfl, rfl, rfl, rfl, rfl, rfl, rfl, rfl, rfl, rfl, rfl, rfl, rfl, rfl⟩ := h
              refine (loan_does.good_bad k id pr it su fe ppm sd st cl en le fa ct 29 #[.pointer (some ⟨w.heap.size + 2, 0, none⟩), .pointer (some ⟨w.heap.size + 1, 0, none⟩)] 62 W.heap.size (.cells #[] 0 (0, 0)) W (Nat.le_refl _) hf hg (fun V hV _ hb => ?_)).mono (fun e w' ⟨h1, h2, _⟩ => ⟨h1, h2.below⟩)
              exact (loan_Turn.in_st1 W.heap.size id pr it su fe ppm sd st cl en le fa ct V hV _ _ day s (loan_does.kept hb hB) (loan_does.kept hb hA) (by omega) cc0 (by omega)).mono (fun e w' ⟨h1, h3⟩ => ⟨h1, h3, fun h => absurd h (Nat.lt_irrefl _)⟩)
            by_cases d1 : 5 < s
            · skip
              simp only [Option.some.injEq, Prod.mk.injEq] at h
              obtain ⟨rfl, rfl, rfl, rfl, rfl, rfl, rfl, rfl, rfl, rfl, rfl, rfl, rfl, rfl⟩ := h
              refine (loan_does.good_bad k id pr it su fe ppm sd st cl en le fa ct 29 #[.pointer (some ⟨w.heap.size + 2, 0, none⟩), .pointer (some ⟨w.heap.size + 1, 0, none⟩)] 62 W.heap.size (.cells #[] 0 (0, 0)) W (Nat.le_refl _) hf hg (fun V hV _ hb => ?_)).mono (fun e w' ⟨h1, h2, _⟩ => ⟨h1, h2.below⟩)
              exact (loan_Turn.in_st2 W.heap.size id pr it su fe ppm sd st cl en le fa ct V hV _ _ day s (loan_does.kept hb hB) (loan_does.kept hb hA) (by omega) cc0 (by omega)).mono (fun e w' ⟨h1, h3⟩ => ⟨h1, h3, fun h => absurd h (Nat.lt_irrefl _)⟩)
            by_cases d2 : s = st ∧ s = 1
            · skip
              simp only [Option.some.injEq, Prod.mk.injEq] at h
              obtain ⟨rfl, rfl, rfl, rfl, rfl, rfl, rfl, rfl, rfl, rfl, rfl, rfl, rfl, rfl⟩ := h
              refine (loan_does.good_bad k id pr it su fe ppm sd st cl en le fa ct 29 #[.pointer (some ⟨w.heap.size + 2, 0, none⟩), .pointer (some ⟨w.heap.size + 1, 0, none⟩)] 62 W.heap.size (.cells #[] 0 (0, 0)) W (Nat.le_refl _) hf hg (fun V hV _ hb => ?_)).mono (fun e w' ⟨h1, h2, _⟩ => ⟨h1, h2.below⟩)
              exact (loan_Turn.in_st3a W.heap.size id pr it su fe ppm sd st cl en le fa ct V hV _ _ day s (loan_does.kept hb hB) (loan_does.kept hb hA) (by omega) cc0 (by omega)).mono (fun e w' ⟨h1, h3⟩ => ⟨h1, h3, fun h => absurd h (Nat.lt_irrefl _)⟩)
            by_cases d3 : s = st ∧ s = 2
            · skip
              simp only [Option.some.injEq, Prod.mk.injEq] at h
              obtain ⟨rfl, rfl, rfl, rfl, rfl, rfl, rfl, rfl, rfl, rfl, rfl, rfl, rfl, rfl⟩ := h
              refine (loan_does.good_bad k id pr it su fe ppm sd st cl en le fa ct 29 #[.pointer (some ⟨w.heap.size + 2, 0, none⟩), .pointer (some ⟨w.heap.size + 1, 0, none⟩)] 62 W.heap.size (.cells #[] 0 (0, 0)) W (Nat.le_refl _) hf hg (fun V hV _ hb => ?_)).mono (fun e w' ⟨h1, h2, _⟩ => ⟨h1, h2.below⟩)
              exact (loan_Turn.in_st3b W.heap.size id pr it su fe ppm sd st cl en le fa ct V hV _ _ day s (loan_does.kept hb hB) (loan_does.kept hb hA) (by omega) cc0 (by omega)).mono (fun e w' ⟨h1, h3⟩ => ⟨h1, h3, fun h => absurd h (Nat.lt_irrefl _)⟩)
            by_cases d4 : s = st
            · skip
              simp only [Option.some.injEq, Prod.mk.injEq] at h
              obtain ⟨rfl, rfl, rfl, rfl, rfl, rfl, rfl, rfl, rfl, rfl, rfl, rfl, rfl, rfl⟩ := h
              refine (loan_does.good_bad k id pr it su fe ppm sd st cl en le fa ct 29 #[.pointer (some ⟨w.heap.size + 2, 0, none⟩), .pointer (some ⟨w.heap.size + 1, 0, none⟩)] 62 W.heap.size (.cells #[] 0 (0, 0)) W (Nat.le_refl _) hf hg (fun V hV _ hb => ?_)).mono (fun e w' ⟨h1, h2, _⟩ => ⟨h1, h2.below⟩)
              exact (loan_Turn.in_st3c W.heap.size id pr it su fe ppm sd st cl en le fa ct V hV _ _ day s (loan_does.kept hb hB) (loan_does.kept hb hA) (by omega) cc0 (by omega)).mono (fun e w' ⟨h1, h3⟩ => ⟨h1, h3, fun h => absurd h (Nat.lt_irrefl _)⟩)
            by_cases d5 : s = 1 ∧ 0 ≤ en
            · skip
              simp only [Option.some.injEq, Prod.mk.injEq] at h
              obtain ⟨rfl, rfl, rfl, rfl, rfl, rfl, rfl, rfl, rfl, rfl, rfl, rfl, rfl, rfl⟩ := h
              refine (loan_does.good_bad k id pr it su fe ppm sd st cl en le fa ct 29 #[.pointer (some ⟨w.heap.size + 2, 0, none⟩), .pointer (some ⟨w.heap.size + 1, 0, none⟩)] 62 W.heap.size (.cells #[] 0 (0, 0)) W (Nat.le_refl _) hf hg (fun V hV _ hb => ?_)).mono (fun e w' ⟨h1, h2, _⟩ => ⟨h1, h2.below⟩)
              exact (loan_Turn.in_st4a W.heap.size id pr it su fe ppm sd st cl en le fa ct V hV _ _ day s (loan_does.kept hb hB) (loan_does.kept hb hA) (by omega) cc0 (by omega)).mono (fun e w' ⟨h1, h3⟩ => ⟨h1, h3, fun h => absurd h (Nat.lt_irrefl _)⟩)
            by_cases d6 : s = 2 ∧ 0 ≤ en
            · skip
              simp only [Option.some.injEq, Prod.mk.injEq] at h
              obtain ⟨rfl, rfl, rfl, rfl, rfl, rfl, rfl, rfl, rfl, rfl, rfl, rfl, rfl, rfl⟩ := h
              refine (loan_does.good_bad k id pr it su fe ppm sd st cl en le fa ct 29 #[.pointer (some ⟨w.heap.size + 2, 0, none⟩), .pointer (some ⟨w.heap.size + 1, 0, none⟩)] 62 W.heap.size (.cells #[] 0 (0, 0)) W (Nat.le_refl _) hf hg (fun V hV _ hb => ?_)).mono (fun e w' ⟨h1, h2, _⟩ => ⟨h1, h2.below⟩)
              exact (loan_Turn.in_st4b W.heap.size id pr it su fe ppm sd st cl en le fa ct V hV _ _ day s (loan_does.kept hb hB) (loan_does.kept hb hA) (by omega) cc0 (by omega)).mono (fun e w' ⟨h1, h3⟩ => ⟨h1, h3, fun h => absurd h (Nat.lt_irrefl _)⟩)
            simp only [Option.some.injEq, Prod.mk.injEq] at h
            obtain ⟨rfl, rfl, rfl, rfl, rfl, rfl, rfl, rfl, rfl, rfl, rfl, rfl, rfl, rfl⟩ := h
            refine (loan_does.good_bad k id pr it su fe ppm sd st cl en le fa ct 29 #[.pointer (some ⟨w.heap.size + 2, 0, none⟩), .pointer (some ⟨w.heap.size + 1, 0, none⟩)] 62 W.heap.size (.cells #[] 0 (0, 0)) W (Nat.le_refl _) hf hg (fun V hV _ hb => ?_)).mono (fun e w' ⟨h1, h2, _⟩ => ⟨h1, h2.below⟩)
            exact (loan_Turn.in_st5 W.heap.size id pr it su fe ppm sd st cl en le fa ct V hV _ _ day s (loan_does.kept hb hB) (loan_does.kept hb hA) (by omega) cc0 (by omega)).mono (fun e w' ⟨h1, h3⟩ => ⟨h1, h3, fun h => absurd h (Nat.lt_irrefl _)⟩)
          · rw [if_neg cb] at h
            unfold loan_Turn.bad at cb
            by_cases c5 : s = 5
            · rw [if_pos c5] at h
              obtain ⟨⟨x, e⟩, hp, h⟩ := Option.bind_eq_some_iff.mp h
              simp only at h
              by_cases ce : e = 0
              · rw [if_pos ce] at h
                subst ce
                simp only [Option.some.injEq, Prod.mk.injEq] at h
                obtain ⟨rfl, rfl, rfl, rfl, rfl, rfl, rfl, rfl, rfl, rfl, rfl, rfl, rfl, rfl⟩ := h
                refine (loan_does.good_ok k id pr it su fe ppm sd st cl en le fa ct 29 #[.pointer (some ⟨w.heap.size + 2, 0, none⟩), .pointer (some ⟨w.heap.size + 1, 0, none⟩)] _ _ _ _ _ _ _ _ _ _ _ _ _ W.heap.size (.cells #[] 0 (0, 0)) W (Nat.le_refl _) hf hg (fun V hV _ hb => ?_)).mono (fun e w' ⟨h1, h2, _⟩ => ⟨h1, h2.below⟩)
                exact (loan_Turn.in_ok5 W.heap.size id pr it su fe ppm sd st cl en le fa ct V hV _ _ day s (loan_does.kept hb hB) (loan_does.kept hb hA) (by omega) cc0 ⟨c5, by omega⟩ (by omega) (by omega) _ _ (loan_does.whole ci.1 ci.2) hp ci.1 ci.2 (by omega) (by omega)).mono (fun e w' ⟨h1, h2, h3⟩ => ⟨h1, h2, h3, fun h => absurd h (Nat.lt_irrefl _)⟩)
              · rw [if_neg ce] at h
                simp only [Option.some.injEq, Prod.mk.injEq] at h
                obtain ⟨rfl, rfl, rfl, rfl, rfl, rfl, rfl, rfl, rfl, rfl, rfl, rfl, rfl, rfl⟩ := h
                refine (loan_does.good_bad k id pr it su fe ppm sd st cl en le fa ct 29 #[.pointer (some ⟨w.heap.size + 2, 0, none⟩), .pointer (some ⟨w.heap.size + 1, 0, none⟩)] e W.heap.size (.cells #[] 0 (0, 0)) W (Nat.le_refl _) hf hg (fun V hV _ hb => ?_)).mono (fun e w' ⟨h1, h2, _⟩ => ⟨h1, h2.below⟩)
                exact (loan_Turn.in_bad5 W.heap.size id pr it su fe ppm sd st cl en le fa ct V hV _ _ day s (loan_does.kept hb hB) (loan_does.kept hb hA) (by omega) cc0 ⟨c5, by omega⟩ (by omega) (by omega) _ _ (loan_does.whole ci.1 ci.2) _ hp ce).mono (fun e w' ⟨h1, h3⟩ => ⟨h1, h3, fun h => absurd h (Nat.lt_irrefl _)⟩)
            · rw [if_neg c5] at h
              by_cases d1 : s = 1
              · skip
                simp only [Option.some.injEq, Prod.mk.injEq] at h
                obtain ⟨rfl, rfl, rfl, rfl, rfl, rfl, rfl, rfl, rfl, rfl, rfl, rfl, rfl, rfl⟩ := h
                refine (loan_does.good_ok k id pr it su fe ppm sd st cl en le fa ct 29 #[.pointer (some ⟨w.heap.size + 2, 0, none⟩), .pointer (some ⟨w.heap.size + 1, 0, none⟩)] _ _ _ _ _ _ _ _ _ _ _ _ _ W.heap.size (.cells #[] 0 (0, 0)) W (Nat.le_refl _) hf hg (fun V hV _ hb => ?_)).mono (fun e w' ⟨h1, h2, _⟩ => ⟨h1, h2.below⟩)
                exact (loan_Turn.in_ok1 W.heap.size id pr it su fe ppm sd st cl en le fa ct V hV _ _ day s (loan_does.kept hb hB) (loan_does.kept hb hA) (by omega) cc0 (by omega)).mono (fun e w' ⟨h1, h2, h3⟩ => ⟨h1, h2, h3, fun h => absurd h (Nat.lt_irrefl _)⟩)
              by_cases d2 : s = 2
              · skip
                simp only [Option.some.injEq, Prod.mk.injEq] at h
                obtain ⟨rfl, rfl, rfl, rfl, rfl, rfl, rfl, rfl, rfl, rfl, rfl, rfl, rfl, rfl⟩ := h
                refine (loan_does.good_ok k id pr it su fe ppm sd st cl en le fa ct 29 #[.pointer (some ⟨w.heap.size + 2, 0, none⟩), .pointer (some ⟨w.heap.size + 1, 0, none⟩)] _ _ _ _ _ _ _ _ _ _ _ _ _ W.heap.size (.cells #[] 0 (0, 0)) W (Nat.le_refl _) hf hg (fun V hV _ hb => ?_)).mono (fun e w' ⟨h1, h2, _⟩ => ⟨h1, h2.below⟩)
                exact (loan_Turn.in_ok2 W.heap.size id pr it su fe ppm sd st cl en le fa ct V hV _ _ day s (loan_does.kept hb hB) (loan_does.kept hb hA) (by omega) cc0 (by omega)).mono (fun e w' ⟨h1, h2, h3⟩ => ⟨h1, h2, h3, fun h => absurd h (Nat.lt_irrefl _)⟩)
              simp only [Option.some.injEq, Prod.mk.injEq] at h
              obtain ⟨rfl, rfl, rfl, rfl, rfl, rfl, rfl, rfl, rfl, rfl, rfl, rfl, rfl, rfl⟩ := h
              refine (loan_does.good_ok k id pr it su fe ppm sd st cl en le fa ct 29 #[.pointer (some ⟨w.heap.size + 2, 0, none⟩), .pointer (some ⟨w.heap.size + 1, 0, none⟩)] _ _ _ _ _ _ _ _ _ _ _ _ _ W.heap.size (.cells #[] 0 (0, 0)) W (Nat.le_refl _) hf hg (fun V hV _ hb => ?_)).mono (fun e w' ⟨h1, h2, _⟩ => ⟨h1, h2.below⟩)
              exact (loan_Turn.in_ok3 W.heap.size id pr it su fe ppm sd st cl en le fa ct V hV _ _ day s (loan_does.kept hb hB) (loan_does.kept hb hA) (by omega) cc0 (by omega)).mono (fun e w' ⟨h1, h2, h3⟩ => ⟨h1, h2, h3, fun h => absurd h (Nat.lt_irrefl _)⟩)
    · rw [if_neg ci] at h; cases h
end Go.Proofs.Ytmbenmiakjhgeaa.P
