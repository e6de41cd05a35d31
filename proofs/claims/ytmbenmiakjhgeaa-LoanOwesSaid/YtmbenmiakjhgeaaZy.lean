/- Loans: contracts of the functions on loans, walked by hand. -/
import Derived.Test.YtmbenmiakjhgeaaZv
import Derived.Test.YtmbenmiakjhgeaaZw
import Derived.Test.YtmbenmiakjhgeaaPx4
import Derived.Test.YtmbenmiakjhgeaaPx6
import Derived.Test.YtmbenmiakjhgeaaPx3
import Derived.Deep.RegionHeld3
import Derived.Laws.CopyOwn
namespace Go.Proofs.Ytmbenmiakjhgeaa.P
open Go.RowKit Go.Proofs.YtmbenmiakjhgeaaW.PrintWords Go.Proofs.YtmbenmiakjhgeaaW.PrintLast Go.Proofs.YtmbenmiakjhgeaaW.PrintMore
attribute [local go_sem] max2_int min2_int max_two min_two max_three min_three max_four min_four   -- for this text's walks alone
set_option linter.unusedVariables false
set_option linter.unusedSimpArgs false
set_option linter.unnecessarySimpa false
def loan_Close.f (k : Nat) (id pr it su fe ppm : Int) (sd : Bool) (st cl en le fa ct : Int) (how : Int) : Option (Int × Int × Int × Int × Int × Int × Bool × Int × Int × Int × Int × Int × Int × Int × Int) := (loan_Good.f k id pr it su fe ppm sd st cl en le fa ct).bind fun g =>
  if g = true then (if 0 ≤ it ∧ it ≤ 1000000000000000000 then (if how < 1 ∨ 4 < how then some (0, 0, 0, 0, 0, 0, false, 0, 0, 0, 0, 0, 0, 0, 1) else if ¬ cl = 0 then some (0, 0, 0, 0, 0, 0, false, 0, 0, 0, 0, 0, 0, 0, 61) else (money_Add.f pr fe).bind fun p => (if p.2 = 0 then (money_Add.f p.1 (it / 1000000)).bind fun q => (if q.2 = 0 then some (id, 0, 0, su, 0, ppm, sd, st, how, en, le, fa, ct, q.1, 0) else some (0, 0, 0, 0, 0, 0, false, 0, 0, 0, 0, 0, 0, 0, q.2)) else some (0, 0, 0, 0, 0, 0, false, 0, 0, 0, 0, 0, 0, 0, p.2))) else none) else some (0, 0, 0, 0, 0, 0, false, 0, 0, 0, 0, 0, 0, 0, 1)
theorem loan_Close.mono : ∀ (id pr it su fe ppm : Int) (sd : Bool) (st cl en le fa ct : Int) (how : Int) k, LeO (loan_Close.f k id pr it su fe ppm sd st cl en le fa ct how) (loan_Close.f (k + 1) id pr it su fe ppm sd st cl en le fa ct how) := by
  intro id pr it su fe ppm sd st cl en le fa ct how k
  unfold loan_Close.f
  exact LeO.bind (loan_Good.mono _ _ _ _ _ _ _ _ _ _ _ _ _ _) (fun _ => LeO.refl _)
set_option maxHeartbeats 8000000 in
set_option maxRecDepth 100000 in
theorem loan_Close.calls (k : Nat) (id pr it su fe ppm : Int) (sd : Bool) (st cl en le fa ct : Int) (how : Int) (r1 : Int) (r2 : Int) (r3 : Int) (r4 : Int) (r5 : Int) (r6 : Int) (r7 : Bool) (r8 : Int) (r9 : Int) (r10 : Int) (r11 : Int) (r12 : Int) (r13 : Int) (r14 : Int) (r15 : Int) (w : World) (h : loan_Close.f k id pr it su fe ppm sd st cl en le fa ct how = some (r1, r2, r3, r4, r5, r6, r7, r8, r9, r10, r11, r12, r13, r14, r15)) :
    Calls Try.prog 20 #[.agg #[.int .i64 id, .int .i64 pr, .int .i64 it, .int .i64 su, .int .i64 fe, .int .i64 ppm, .bool sd, .int .i64 st, .int .i64 cl, .int .i64 en, .int .i64 le, .int .i64 fa, .int .i64 ct], .int .i64 how] w fun e w' => e = .returned (.tuple #[.agg #[.int .i64 r1, .int .i64 r2, .int .i64 r3, .int .i64 r4, .int .i64 r5, .int .i64 r6, .bool r7, .int .i64 r8, .int .i64 r9, .int .i64 r10, .int .i64 r11, .int .i64 r12, .int .i64 r13], .int .i64 r14, .int .i64 r15]) ∧ Below w.heap.size w w' := by
  have hf : ∀ args W, (callFunc 46 args).run Try.prog W = .ok (.enter 46 args) W := fun _ _ => by rfl
  unfold loan_Close.f at h
  obtain ⟨g, hg, h⟩ := Option.bind_eq_some_iff.mp h
  cases g with
  | false =>
    rw [if_neg (by simp)] at h
    simp only [Option.some.injEq, Prod.mk.injEq] at h
    obtain ⟨rfl, rfl, rfl, rfl, rfl, rfl, rfl, rfl, rfl, rfl, rfl, rfl, rfl, rfl, rfl⟩ := h
    refine loan_Close.by_ id pr it su fe ppm sd st cl en le fa ct 0 0 0 0 0 0 false 0 0 0 0 0 0 1 how 0 w (.inr rfl) (fun W hh hn hW => ?_)
    exact (loan_does.not_good k _ _ _ _ _ _ _ _ _ _ _ _ _ _ W hg).mono (fun e w' ⟨h1, h2⟩ => ⟨h1, .of_below h2, loan_does.kept h2 hn⟩)
  | true =>
    rw [if_pos rfl] at h
    by_cases ci : 0 ≤ it ∧ it ≤ 1000000000000000000
    · rw [if_pos ci] at h
      by_cases ch : how < 1 ∨ 4 < how
      · rw [if_pos ch] at h
        by_cases ch1 : how < 1
        · skip
          simp only [Option.some.injEq, Prod.mk.injEq] at h
          obtain ⟨rfl, rfl, rfl, rfl, rfl, rfl, rfl, rfl, rfl, rfl, rfl, rfl, rfl, rfl, rfl⟩ := h
          refine loan_Close.by_ id pr it su fe ppm sd st cl en le fa ct 0 0 0 0 0 0 false 0 0 0 0 0 0 1 how 0 w (.inr rfl) (fun W hh hn hW => ?_)
          have lt := blk_lt hn
          refine (loan_does.good_bad k id pr it su fe ppm sd st cl en le fa ct 46 #[.pointer (some ⟨w.heap.size + 1, 0, none⟩), .pointer (some ⟨w.heap.size + 3, 0, none⟩)] 1 (w.heap.size + 3) (.cells #[.int .i64 0] 2 (0, 0)) W (by omega) hf hg (fun V hV _ hb => ?_)).mono (fun e w' ⟨h1, h2, h3⟩ => ⟨h1, h2, h3 lt⟩)
          exact (loan_Close.in_h1 W.heap.size id pr it su fe ppm sd st cl en le fa ct V hV _ _ how (loan_does.kept hb hh) (loan_does.kept hb hn) ch1).mono (fun e w' ⟨h1, h2, h3⟩ => ⟨h1, h2, fun _ => h3⟩)
        · skip
          simp only [Option.some.injEq, Prod.mk.injEq] at h
          obtain ⟨rfl, rfl, rfl, rfl, rfl, rfl, rfl, rfl, rfl, rfl, rfl, rfl, rfl, rfl, rfl⟩ := h
          refine loan_Close.by_ id pr it su fe ppm sd st cl en le fa ct 0 0 0 0 0 0 false 0 0 0 0 0 0 1 how 0 w (.inr rfl) (fun W hh hn hW => ?_)
          have lt := blk_lt hn
          refine (loan_does.good_bad k id pr it su fe ppm sd st cl en le fa ct 46 #[.pointer (some ⟨w.heap.size + 1, 0, none⟩), .pointer (some ⟨w.heap.size + 3, 0, none⟩)] 1 (w.heap.size + 3) (.cells #[.int .i64 0] 2 (0, 0)) W (by omega) hf hg (fun V hV _ hb => ?_)).mono (fun e w' ⟨h1, h2, h3⟩ => ⟨h1, h2, h3 lt⟩)
          exact (loan_Close.in_h2 W.heap.size id pr it su fe ppm sd st cl en le fa ct V hV _ _ how (loan_does.kept hb hh) (loan_does.kept hb hn) (by omega)).mono (fun e w' ⟨h1, h2, h3⟩ => ⟨h1, h2, fun _ => h3⟩)
      · rw [if_neg ch] at h
        by_cases cc : ¬ cl = 0
        · rw [if_pos cc] at h
          simp only [Option.some.injEq, Prod.mk.injEq] at h
          obtain ⟨rfl, rfl, rfl, rfl, rfl, rfl, rfl, rfl, rfl, rfl, rfl, rfl, rfl, rfl, rfl⟩ := h
          refine loan_Close.by_ id pr it su fe ppm sd st cl en le fa ct 0 0 0 0 0 0 false 0 0 0 0 0 0 61 how 0 w (.inr rfl) (fun W hh hn hW => ?_)
          have lt := blk_lt hn
          refine (loan_does.good_bad k id pr it su fe ppm sd st cl en le fa ct 46 #[.pointer (some ⟨w.heap.size + 1, 0, none⟩), .pointer (some ⟨w.heap.size + 3, 0, none⟩)] 61 (w.heap.size + 3) (.cells #[.int .i64 0] 2 (0, 0)) W (by omega) hf hg (fun V hV _ hb => ?_)).mono (fun e w' ⟨h1, h2, h3⟩ => ⟨h1, h2, h3 lt⟩)
          exact (loan_Close.in_gone W.heap.size id pr it su fe ppm sd st cl en le fa ct V hV _ _ how (loan_does.kept hb hh) (loan_does.kept hb hn) (by omega) cc).mono (fun e w' ⟨h1, h2, h3⟩ => ⟨h1, h2, fun _ => h3⟩)
        · rw [if_neg cc] at h
          have cc0 : cl = 0 := Decidable.not_not.mp cc
          obtain ⟨⟨x, e⟩, hp, h⟩ := Option.bind_eq_some_iff.mp h
          simp only at h
          by_cases ce : e = 0
          · rw [if_pos ce] at h
            subst ce
            obtain ⟨⟨z, e⟩, hq, h⟩ := Option.bind_eq_some_iff.mp h
            simp only at h
            by_cases ce : e = 0
            · rw [if_pos ce] at h
              subst ce
              simp only [Option.some.injEq, Prod.mk.injEq] at h
              obtain ⟨rfl, rfl, rfl, rfl, rfl, rfl, rfl, rfl, rfl, rfl, rfl, rfl, rfl, rfl, rfl⟩ := h
              refine loan_Close.by_ id pr it su fe ppm sd st cl en le fa ct id 0 0 su 0 ppm sd st how en le fa ct 0 how z w (.inl rfl) (fun W hh hn hW => ?_)
              have lt := blk_lt hn
              refine (loan_does.good_ok k id pr it su fe ppm sd st cl en le fa ct 46 #[.pointer (some ⟨w.heap.size + 1, 0, none⟩), .pointer (some ⟨w.heap.size + 3, 0, none⟩)] _ _ _ _ _ _ _ _ _ _ _ _ _ (w.heap.size + 3) (.cells #[.int .i64 z] 2 (0, 0)) W (by omega) hf hg (fun V hV _ hb => ?_)).mono (fun e w' ⟨h1, h2, h3⟩ => ⟨h1, h2, h3 lt⟩)
              exact (loan_Close.in_ok W.heap.size id pr it su fe ppm sd st cl en le fa ct V hV _ _ how (loan_does.kept hb hh) (loan_does.kept hb hn) (by omega) cc0 _ _ _ hp (loan_does.whole ci.1 ci.2) hq (by omega) (by omega)).mono (fun e w' ⟨h1, h2, h3, h4⟩ => ⟨h1, h2, h3, fun _ => h4⟩)
            · rw [if_neg ce] at h
              simp only [Option.some.injEq, Prod.mk.injEq] at h
              obtain ⟨rfl, rfl, rfl, rfl, rfl, rfl, rfl, rfl, rfl, rfl, rfl, rfl, rfl, rfl, rfl⟩ := h
              refine loan_Close.by_ id pr it su fe ppm sd st cl en le fa ct 0 0 0 0 0 0 false 0 0 0 0 0 0 e how 0 w (.inr rfl) (fun W hh hn hW => ?_)
              have lt := blk_lt hn
              refine (loan_does.good_bad k id pr it su fe ppm sd st cl en le fa ct 46 #[.pointer (some ⟨w.heap.size + 1, 0, none⟩), .pointer (some ⟨w.heap.size + 3, 0, none⟩)] e (w.heap.size + 3) (.cells #[.int .i64 0] 2 (0, 0)) W (by omega) hf hg (fun V hV _ hb => ?_)).mono (fun e w' ⟨h1, h2, h3⟩ => ⟨h1, h2, h3 lt⟩)
              exact (loan_Close.in_bad2 W.heap.size id pr it su fe ppm sd st cl en le fa ct V hV _ _ how (loan_does.kept hb hh) (loan_does.kept hb hn) (by omega) cc0 _ _ _ _ hp (loan_does.whole ci.1 ci.2) hq ce).mono (fun e w' ⟨h1, h2, h3⟩ => ⟨h1, h2, fun _ => h3⟩)
          · rw [if_neg ce] at h
            simp only [Option.some.injEq, Prod.mk.injEq] at h
            obtain ⟨rfl, rfl, rfl, rfl, rfl, rfl, rfl, rfl, rfl, rfl, rfl, rfl, rfl, rfl, rfl⟩ := h
            refine loan_Close.by_ id pr it su fe ppm sd st cl en le fa ct 0 0 0 0 0 0 false 0 0 0 0 0 0 e how 0 w (.inr rfl) (fun W hh hn hW => ?_)
            have lt := blk_lt hn
            refine (loan_does.good_bad k id pr it su fe ppm sd st cl en le fa ct 46 #[.pointer (some ⟨w.heap.size + 1, 0, none⟩), .pointer (some ⟨w.heap.size + 3, 0, none⟩)] e (w.heap.size + 3) (.cells #[.int .i64 0] 2 (0, 0)) W (by omega) hf hg (fun V hV _ hb => ?_)).mono (fun e w' ⟨h1, h2, h3⟩ => ⟨h1, h2, h3 lt⟩)
            exact (loan_Close.in_bad1 W.heap.size id pr it su fe ppm sd st cl en le fa ct V hV _ _ how (loan_does.kept hb hh) (loan_does.kept hb hn) (by omega) cc0 _ _ hp ce).mono (fun e w' ⟨h1, h2, h3⟩ => ⟨h1, h2, fun _ => h3⟩)
    · rw [if_neg ci] at h; cases h
end Go.Proofs.Ytmbenmiakjhgeaa.P
