/- Loans: contracts of the functions on loans, walked by hand. -/
import Derived.Test.YtlhcohipnieidaaPx1
import Derived.Test.YtlhcohipnieidaaPx18
import Derived.Test.YtlhcohipnieidaaZlg
import Derived.Deep.RegionHeld3
import Derived.Laws.CopyOwn
namespace Go.Proofs.Ytlhcohipnieidaa.P
open Go.RowKit Go.Proofs.YtlhcohipnieidaaW.PrintWords Go.Proofs.YtlhcohipnieidaaW.PrintLast Go.Proofs.YtlhcohipnieidaaW.PrintMore
attribute [local go_sem] max2_int min2_int max_two min_two max_three min_three max_four min_four   -- for this text's walks alone
set_option linter.unusedVariables false
set_option linter.unusedSimpArgs false
set_option linter.unnecessarySimpa false
theorem loan_does.Near.on {w W w1 : World} {c : Nat} (h0 : Below w.heap.size w W) (h : loan_does.Near c c W w1) (hc : w.heap.size ≤ c) : Below w.heap.size w w1 :=
  ⟨h.os.trans h0.os, h.tape.trans h0.tape, h.output.trans h0.output, Nat.le_trans h0.size h.size, fun k hk => (h.block k (Nat.lt_of_lt_of_le hk h0.size) (by omega) (by omega)).trans (h0.block k hk)⟩
set_option maxHeartbeats 8000000 in
set_option maxRecDepth 100000 in
theorem loan_Owes.in_ok (b : Nat) (id pr it su fe ppm : Int) (sd : Bool) (st cl en le fa ct : Int) (w : World) (h : w.heap[b]? = some (.cells (loanC id pr it su fe ppm sd st cl en le fa ct) 23 (0, 0))) (c : Nat) (hc : w.heap[c]? = some (.cells #[.int .i64 0] 2 (0, 0))) (hcb : c ≠ b) (x y z : Int) (h1 : money_Add.f pr fe = some (x, 0)) (h2 : accrue_Whole.f it = some y) (h3 : money_Add.f x y = some (z, 0)) :
    Calls Try.prog 61 #[.pointer (some ⟨b, 0, none⟩), .pointer (some ⟨c, 0, none⟩)] w fun e w' => e = .returned (.tuple #[]) ∧ w'.heap[b]? = some (.cells (loanC id pr it su fe ppm sd st cl en le fa ct) 23 (0, 0)) ∧ loan_does.Near b c w w' ∧ w'.heap[c]? = some (.cells #[.int .i64 z] 2 (0, 0)) := by
  have B := Aside0.mk h
  have C := Aside0.mk hc
  have NE := Aside0.mk hcb
  have H1 := Aside0.mk h1
  have H2 := Aside0.mk h2
  have H3 := Aside0.mk h3
  clear h hc hcb h1 h2 h3
  go_enter Try.func61, Try.ntmps61
  go_wp2_with (go_at_call 62; (with_reducible refine (loan_does.owes_ok b id pr it su fe ppm sd st cl en le fa ct _ B.out x y z H1.out H2.out H3.out).mono ?_); rintro e w1 ⟨rfl, hb⟩; refine loan_does.MARK ?_)
  unfold loan_does.Mark
  have B1 := loan_does.kept hb B.out
  have C1 := loan_does.kept hb C.out
  have m1 : w1.cell? ⟨c, 0, none⟩ = some (.int .i64 0) := (blk_cell C1 0).trans rfl
  have g1 := blk_frozen C1 0
  have BB := Aside0.mk B1
  have CC := Aside0.mk C1
  have NN := Aside0.mk ((loan_does.Near.refl b c w).step hb)
  clear B1 C1 hb
  go_wp2
  go_end0
  exact ⟨by first | rfl | (simp; done), blk_far BB.out (by simpa using Ne.symm NE.out) _, NN.out.put2 _ _ rfl, blk_put CC.out 0 _ rfl⟩
set_option maxHeartbeats 8000000 in
set_option maxRecDepth 100000 in
theorem loan_Owes.in_bad1 (b : Nat) (id pr it su fe ppm : Int) (sd : Bool) (st cl en le fa ct : Int) (w : World) (h : w.heap[b]? = some (.cells (loanC id pr it su fe ppm sd st cl en le fa ct) 23 (0, 0))) (c : Nat) (hc : w.heap[c]? = some (.cells #[.int .i64 0] 2 (0, 0))) (hcb : c ≠ b) (x e : Int) (h1 : money_Add.f pr fe = some (x, e)) (he : e ≠ 0) :
    Calls Try.prog 61 #[.pointer (some ⟨b, 0, none⟩), .pointer (some ⟨c, 0, none⟩)] w fun r w' => r = .panicked [{ v := .iface 24 (.int .i64 e), recovered := false }] ∧ loan_does.Near b c w w' ∧ w'.heap[c]? = some (.cells #[.int .i64 0] 2 (0, 0)) := by
  have B := Aside0.mk h
  have C := Aside0.mk hc
  have NE := Aside0.mk hcb
  have H1 := Aside0.mk h1
  have HE := Aside0.mk he
  clear h hc hcb h1 he
  go_enter Try.func61, Try.ntmps61
  go_wp2_with (go_at_call 62; (with_reducible refine (loan_does.owes_bad1 b id pr it su fe ppm sd st cl en le fa ct _ B.out x e H1.out HE.out).mono ?_); rintro e w1 ⟨rfl, hb⟩)
  exact ⟨rfl, rfl, (loan_does.Near.refl b c w).step hb, loan_does.kept hb C.out⟩
set_option maxHeartbeats 8000000 in
set_option maxRecDepth 100000 in
theorem loan_Owes.in_bad2 (b : Nat) (id pr it su fe ppm : Int) (sd : Bool) (st cl en le fa ct : Int) (w : World) (h : w.heap[b]? = some (.cells (loanC id pr it su fe ppm sd st cl en le fa ct) 23 (0, 0))) (c : Nat) (hc : w.heap[c]? = some (.cells #[.int .i64 0] 2 (0, 0))) (hcb : c ≠ b) (x y z e : Int) (h1 : money_Add.f pr fe = some (x, 0)) (h2 : accrue_Whole.f it = some y) (h3 : money_Add.f x y = some (z, e)) (he : e ≠ 0) :
    Calls Try.prog 61 #[.pointer (some ⟨b, 0, none⟩), .pointer (some ⟨c, 0, none⟩)] w fun r w' => r = .panicked [{ v := .iface 24 (.int .i64 e), recovered := false }] ∧ loan_does.Near b c w w' ∧ w'.heap[c]? = some (.cells #[.int .i64 0] 2 (0, 0)) := by
  have B := Aside0.mk h
  have C := Aside0.mk hc
  have NE := Aside0.mk hcb
  have H1 := Aside0.mk h1
  have HE := Aside0.mk he
  have H2 := Aside0.mk h2
  have H3 := Aside0.mk h3
  clear h2 h3
  clear h hc hcb h1 he
  go_enter Try.func61, Try.ntmps61
  go_wp2_with (go_at_call 62; (with_reducible refine (loan_does.owes_bad2 b id pr it su fe ppm sd st cl en le fa ct _ B.out x y z e H1.out H2.out H3.out HE.out).mono ?_); rintro e w1 ⟨rfl, hb⟩)
  exact ⟨rfl, rfl, (loan_does.Near.refl b c w).step hb, loan_does.kept hb C.out⟩
set_option maxHeartbeats 8000000 in
set_option maxRecDepth 100000 in
theorem loan_Owes.by_ (id pr it su fe ppm : Int) (sd : Bool) (st cl en le fa ct : Int) (r1 : Int) (r2 : Int) (r3 : Int) (r4 : Int) (r5 : Int) (r6 : Int) (r7 : Bool) (r8 : Int) (r9 : Int) (r10 : Int) (r11 : Int) (r12 : Int) (r13 : Int) (r14 : Int) (z : Int) (w : World)
    (hD : ∀ W, W.heap[w.heap.size + 1]? = some (.cells #[.int .i64 0] 2 (0, 0)) → Below w.heap.size w W → Calls Try.prog 60 #[.agg (loanC id pr it su fe ppm sd st cl en le fa ct), .func (.func 61) #[] #[.pointer (some ⟨w.heap.size + 1, 0, none⟩)]] W fun e w' => e = .returned (.tuple #[.agg (loanC r1 r2 r3 r4 r5 r6 r7 r8 r9 r10 r11 r12 r13), .int .i64 r14]) ∧ loan_does.Near (w.heap.size + 1) (w.heap.size + 1) W w' ∧ w'.heap[w.heap.size + 1]? = some (.cells #[.int .i64 z] 2 (0, 0))) :
    Calls Try.prog 49 #[.agg #[.int .i64 id, .int .i64 pr, .int .i64 it, .int .i64 su, .int .i64 fe, .int .i64 ppm, .bool sd, .int .i64 st, .int .i64 cl, .int .i64 en, .int .i64 le, .int .i64 fa, .int .i64 ct]] w fun e w' => e = .returned (.tuple #[.int .i64 z, .int .i64 r14]) ∧ Below w.heap.size w w' := by
  have HD := Aside0.mk hD
  clear hD
  have hmf : ∀ (fn : Fn) (first cap : Array Value) (w : World), (Instr.makeFunc fn first cap).run Try.prog w = .ok (.func fn first cap) w := fun _ _ _ _ => rfl
  have k0 := blk_new (w.alloc (Obj.cells #[.int .i64 id, .int .i64 pr, .int .i64 it, .int .i64 su, .int .i64 fe, .int .i64 ppm, .bool sd, .int .i64 st, .int .i64 cl, .int .i64 en, .int .i64 le, .int .i64 fa, .int .i64 ct] 23)) (Obj.cells #[.int .i64 0] 2)
  have n0 : ((w.alloc (Obj.cells #[.int .i64 id, .int .i64 pr, .int .i64 it, .int .i64 su, .int .i64 fe, .int .i64 ppm, .bool sd, .int .i64 st, .int .i64 cl, .int .i64 en, .int .i64 le, .int .i64 fa, .int .i64 ct] 23)).alloc (Obj.cells #[.int .i64 0] 2)).cell? ⟨w.heap.size + 1, 0, none⟩ = some (.int .i64 0) := by have := (blk_cell k0 0).trans rfl; simpa using this
  go_enter Try.func49, Try.ntmps49
  go_upto_region 2 with (fail)
  obtain ⟨W, hW⟩ : ∃ W, W = (w.alloc (Obj.cells #[.int .i64 id, .int .i64 pr, .int .i64 it, .int .i64 su, .int .i64 fe, .int .i64 ppm, .bool sd, .int .i64 st, .int .i64 cl, .int .i64 en, .int .i64 le, .int .i64 fa, .int .i64 ct] 23)).alloc (Obj.cells #[.int .i64 0] 2) := ⟨_, rfl⟩
  have B0 : Aside0 (W.heap[w.heap.size]? = some (.cells (loanC id pr it su fe ppm sd st cl en le fa ct) 23 (0, 0))) := ⟨by
    have := blk_alloc (blk_new w (Obj.cells #[.int .i64 id, .int .i64 pr, .int .i64 it, .int .i64 su, .int .i64 fe, .int .i64 ppm, .bool sd, .int .i64 st, .int .i64 cl, .int .i64 en, .int .i64 le, .int .i64 fa, .int .i64 ct] 23)) (Obj.cells #[.int .i64 0] 2)
    rw [hW]; simpa [loanC] using this⟩
  have B1 : Aside0 (W.heap[w.heap.size + 1]? = some (.cells #[.int .i64 0] 2 (0, 0))) := ⟨by rw [hW]; simpa using k0⟩
  have HB : Aside0 (Below w.heap.size w W) := ⟨by rw [hW]; exact ((Below.refl _ _).alloc (Nat.le_refl _) _).alloc (by simp) _⟩
  rw [← hW]
  clear hW k0 n0
  have c0 : W.cell? ⟨w.heap.size, 0, none⟩ = some (.int .i64 id) := (blk_cell B0.out 0).trans rfl
  have c1 : W.cell? ⟨w.heap.size, 1, none⟩ = some (.int .i64 pr) := (blk_cell B0.out 1).trans rfl
  have c2 : W.cell? ⟨w.heap.size, 2, none⟩ = some (.int .i64 it) := (blk_cell B0.out 2).trans rfl
  have c3 : W.cell? ⟨w.heap.size, 3, none⟩ = some (.int .i64 su) := (blk_cell B0.out 3).trans rfl
  have c4 : W.cell? ⟨w.heap.size, 4, none⟩ = some (.int .i64 fe) := (blk_cell B0.out 4).trans rfl
  have c5 : W.cell? ⟨w.heap.size, 5, none⟩ = some (.int .i64 ppm) := (blk_cell B0.out 5).trans rfl
  have c6 : W.cell? ⟨w.heap.size, 6, none⟩ = some (.bool sd) := (blk_cell B0.out 6).trans rfl
  have c7 : W.cell? ⟨w.heap.size, 7, none⟩ = some (.int .i64 st) := (blk_cell B0.out 7).trans rfl
  have c8 : W.cell? ⟨w.heap.size, 8, none⟩ = some (.int .i64 cl) := (blk_cell B0.out 8).trans rfl
  have c9 : W.cell? ⟨w.heap.size, 9, none⟩ = some (.int .i64 en) := (blk_cell B0.out 9).trans rfl
  have c10 : W.cell? ⟨w.heap.size, 10, none⟩ = some (.int .i64 le) := (blk_cell B0.out 10).trans rfl
  have c11 : W.cell? ⟨w.heap.size, 11, none⟩ = some (.int .i64 fa) := (blk_cell B0.out 11).trans rfl
  have c12 : W.cell? ⟨w.heap.size, 12, none⟩ = some (.int .i64 ct) := (blk_cell B0.out 12).trans rfl
  go_wp2_with (first | (go_at_call 60; refine (HD.out _ B1.out HB.out).mono ?_; rintro e w1 ⟨rfl, hN, hn⟩) | ((with_reducible refine loan_does.gate 23 (.tmp 5) (.tmp 11) rfl ?_); refine loan_does.MARK ?_))
  unfold loan_does.Mark
  have k1 := blk_new w1 (Obj.cells #[.int .i64 0, .int .i64 0, .int .i64 0, .int .i64 0, .int .i64 0, .int .i64 0, .bool false, .int .i64 0, .int .i64 0, .int .i64 0, .int .i64 0, .int .i64 0, .int .i64 0] 23)
  have HW : Aside0 (Below w.heap.size w w1) := ⟨hN.on HB.out (by omega)⟩
  have lt := blk_lt hn
  have sz := HW.out.size
  refine loan_does.st rfl 23 (.tmp 5) (.tmp 11) rfl rfl w1.heap.size (loanC r1 r2 r3 r4 r5 r6 r7 r8 r9 r10 r11 r12 r13) ?hx ?hy 23 _ k1 (by kernel_rfl) rfl (loan_does.one _ _ _ _ _ _ _ _ _ _ _ _ _) ?_
  case hx => simp [go_sem]
  case hy => simp [go_sem]
  have n1 : ((w1.alloc (Obj.cells #[.int .i64 0, .int .i64 0, .int .i64 0, .int .i64 0, .int .i64 0, .int .i64 0, .bool false, .int .i64 0, .int .i64 0, .int .i64 0, .int .i64 0, .int .i64 0, .int .i64 0] 23)).setRow w1.heap.size (loanC r1 r2 r3 r4 r5 r6 r7 r8 r9 r10 r11 r12 r13)).heap[w.heap.size + 1]? = some (.cells #[.int .i64 z] 2 (0, 0)) := (setRow_other _ _ _ _ (by omega)).trans (blk_alloc hn _)
  have HF : Aside0 (Below w.heap.size w ((w1.alloc (Obj.cells #[.int .i64 0, .int .i64 0, .int .i64 0, .int .i64 0, .int .i64 0, .int .i64 0, .bool false, .int .i64 0, .int .i64 0, .int .i64 0, .int .i64 0, .int .i64 0, .int .i64 0] 23)).setRow w1.heap.size (loanC r1 r2 r3 r4 r5 r6 r7 r8 r9 r10 r11 r12 r13))) := ⟨below_setRow (below_alloc HW.out _) (by omega) _⟩
  generalize (w1.alloc (Obj.cells #[.int .i64 0, .int .i64 0, .int .i64 0, .int .i64 0, .int .i64 0, .int .i64 0, .bool false, .int .i64 0, .int .i64 0, .int .i64 0, .int .i64 0, .int .i64 0, .int .i64 0] 23)).setRow w1.heap.size (loanC r1 r2 r3 r4 r5 r6 r7 r8 r9 r10 r11 r12 r13) = W4 at *
  have n3 : W4.cell? ⟨w.heap.size + 1, 0, none⟩ = some (.int .i64 z) := (blk_cell n1 0).trans rfl
  go_wp2
  go_ret2
  exact ⟨by first | rfl | (simp; done), HF.out⟩
def loan_Owes.f (k : Nat) (id pr it su fe ppm : Int) (sd : Bool) (st cl en le fa ct : Int) : Option (Int × Int) := (loan_Good.f k id pr it su fe ppm sd st cl en le fa ct).bind fun g =>
  if g = true then (if 0 ≤ it ∧ it ≤ 1000000000000000000 then (money_Add.f pr fe).bind fun p => (if p.2 = 0 then (money_Add.f p.1 (it / 1000000)).bind fun q => (if q.2 = 0 then some (q.1, 0) else some (0, q.2)) else some (0, p.2)) else none) else some (0, 1)
set_option maxHeartbeats 8000000 in
set_option maxRecDepth 100000 in
theorem loan_Owes.calls (k : Nat) (id pr it su fe ppm : Int) (sd : Bool) (st cl en le fa ct : Int) (r1 r2 : Int) (w : World) (h : loan_Owes.f k id pr it su fe ppm sd st cl en le fa ct = some (r1, r2)) :
    Calls Try.prog 49 #[.agg #[.int .i64 id, .int .i64 pr, .int .i64 it, .int .i64 su, .int .i64 fe, .int .i64 ppm, .bool sd, .int .i64 st, .int .i64 cl, .int .i64 en, .int .i64 le, .int .i64 fa, .int .i64 ct]] w fun e w' => e = .returned (.tuple #[.int .i64 r1, .int .i64 r2]) ∧ Below w.heap.size w w' := by
  have hf : ∀ args W, (callFunc 61 args).run Try.prog W = .ok (.enter 61 args) W := fun _ _ => by rfl
  unfold loan_Owes.f at h
  obtain ⟨g, hg, h⟩ := Option.bind_eq_some_iff.mp h
  cases g with
  | false =>
    rw [if_neg (by simp)] at h
    simp only [Option.some.injEq, Prod.mk.injEq] at h
    obtain ⟨rfl, rfl⟩ := h
    refine loan_Owes.by_ id pr it su fe ppm sd st cl en le fa ct 0 0 0 0 0 0 false 0 0 0 0 0 0 1 0 w (fun W hn hW => ?_)
    exact (loan_does.not_good k _ _ _ _ _ _ _ _ _ _ _ _ _ _ W hg).mono (fun e w' ⟨h1, h2⟩ => ⟨h1, .of_below h2, loan_does.kept h2 hn⟩)
  | true =>
    rw [if_pos rfl] at h
    by_cases ci : 0 ≤ it ∧ it ≤ 1000000000000000000
    · rw [if_pos ci] at h
      obtain ⟨⟨x, e⟩, hp, h⟩ := Option.bind_eq_some_iff.mp h
      simp only at h
      by_cases ce : e = 0
      · rw [if_pos ce] at h
        subst ce
        obtain ⟨⟨z, e⟩, hq, h⟩ := Option.bind_eq_some_iff.mp h
        simp only at h
        by_cases ce : e = 0
        · rw [if_pos ce] at h
          subst ce
          simp only [Option.some.injEq, Prod.mk.injEq] at h
          obtain ⟨rfl, rfl⟩ := h
          refine loan_Owes.by_ id pr it su fe ppm sd st cl en le fa ct id pr it su fe ppm sd st cl en le fa ct 0 z w (fun W hn hW => ?_)
          have lt := blk_lt hn
          refine (loan_does.good_ok k id pr it su fe ppm sd st cl en le fa ct 61 #[.pointer (some ⟨w.heap.size + 1, 0, none⟩)] _ _ _ _ _ _ _ _ _ _ _ _ _ (w.heap.size + 1) (.cells #[.int .i64 z] 2 (0, 0)) W (by omega) hf hg (fun V hV _ hb => ?_)).mono (fun e w' ⟨h1, h2, h3⟩ => ⟨h1, h2, h3 lt⟩)
          exact (loan_Owes.in_ok W.heap.size id pr it su fe ppm sd st cl en le fa ct V hV (w.heap.size + 1) (loan_does.kept hb hn) (by omega) _ _ _ hp (loan_does.whole ci.1 ci.2) hq).mono (fun e w' ⟨h1, h2, h3, h4⟩ => ⟨h1, h2, h3, fun _ => h4⟩)
        · rw [if_neg ce] at h
          simp only [Option.some.injEq, Prod.mk.injEq] at h
          obtain ⟨rfl, rfl⟩ := h
          refine loan_Owes.by_ id pr it su fe ppm sd st cl en le fa ct 0 0 0 0 0 0 false 0 0 0 0 0 0 e 0 w (fun W hn hW => ?_)
          have lt := blk_lt hn
          refine (loan_does.good_bad k id pr it su fe ppm sd st cl en le fa ct 61 #[.pointer (some ⟨w.heap.size + 1, 0, none⟩)] e (w.heap.size + 1) (.cells #[.int .i64 0] 2 (0, 0)) W (by omega) hf hg (fun V hV _ hb => ?_)).mono (fun e w' ⟨h1, h2, h3⟩ => ⟨h1, h2, h3 lt⟩)
          exact (loan_Owes.in_bad2 W.heap.size id pr it su fe ppm sd st cl en le fa ct V hV (w.heap.size + 1) (loan_does.kept hb hn) (by omega) _ _ _ _ hp (loan_does.whole ci.1 ci.2) hq ce).mono (fun e w' ⟨h1, h2, h3⟩ => ⟨h1, h2, fun _ => h3⟩)
      · rw [if_neg ce] at h
        simp only [Option.some.injEq, Prod.mk.injEq] at h
        obtain ⟨rfl, rfl⟩ := h
        refine loan_Owes.by_ id pr it su fe ppm sd st cl en le fa ct 0 0 0 0 0 0 false 0 0 0 0 0 0 e 0 w (fun W hn hW => ?_)
        have lt := blk_lt hn
        refine (loan_does.good_bad k id pr it su fe ppm sd st cl en le fa ct 61 #[.pointer (some ⟨w.heap.size + 1, 0, none⟩)] e (w.heap.size + 1) (.cells #[.int .i64 0] 2 (0, 0)) W (by omega) hf hg (fun V hV _ hb => ?_)).mono (fun e w' ⟨h1, h2, h3⟩ => ⟨h1, h2, h3 lt⟩)
        exact (loan_Owes.in_bad1 W.heap.size id pr it su fe ppm sd st cl en le fa ct V hV (w.heap.size + 1) (loan_does.kept hb hn) (by omega) _ _ hp ce).mono (fun e w' ⟨h1, h2, h3⟩ => ⟨h1, h2, fun _ => h3⟩)
    · rw [if_neg ci] at h; cases h
end Go.Proofs.Ytlhcohipnieidaa.P
