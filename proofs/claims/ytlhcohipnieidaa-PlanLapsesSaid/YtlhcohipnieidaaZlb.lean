/- Loans: contracts of the functions on loans, walked by hand. -/
import Derived.Test.YtlhcohipnieidaaPx1
import Derived.Test.YtlhcohipnieidaaPx18
import Derived.Test.YtlhcohipnieidaaZla
import Derived.Deep.RegionHeld3
import Derived.Laws.CopyOwn
namespace Go.Proofs.Ytlhcohipnieidaa.P
open Go.RowKit Go.Proofs.YtlhcohipnieidaaW.PrintWords Go.Proofs.YtlhcohipnieidaaW.PrintLast Go.Proofs.YtlhcohipnieidaaW.PrintMore
attribute [local go_sem] max2_int min2_int max_two min_two max_three min_three max_four min_four   -- for this text's walks alone
set_option linter.unusedVariables false
set_option linter.unusedSimpArgs false
theorem loan_does.Near.fin {c : Nat} {w Wc w2 W3 : World} (h1 : Below w.heap.size w Wc) (h2 : loan_does.Near w.heap.size c Wc w2) (h3 : Below w.heap.size w2 W3) : loan_does.Near c c w W3 :=
  ⟨h3.os.trans (h2.os.trans h1.os), h3.tape.trans (h2.tape.trans h1.tape), h3.output.trans (h2.output.trans h1.output), Nat.le_trans h1.size (Nat.le_trans h2.size h3.size),
    fun k hk hc _ => (h3.block k hk).trans ((h2.block k (Nat.lt_of_lt_of_le hk h1.size) (Nat.ne_of_lt hk) hc).trans (h1.block k hk))⟩
set_option maxHeartbeats 8000000 in
set_option maxRecDepth 100000 in
/-- Not a good loan: nothing is done. -/
theorem loan_does.not_good (k : Nat) (id pr it su fe ppm : Int) (sd : Bool) (st cl en le fa ct : Int) (F : Value) (w : World) (h : loan_Good.f k id pr it su fe ppm sd st cl en le fa ct = some false) :
    Calls Try.prog 60 #[.agg (loanC id pr it su fe ppm sd st cl en le fa ct), F] w fun e w' => e = .returned (.tuple #[.agg (loanC 0 0 0 0 0 0 false 0 0 0 0 0 0), .int .i64 1]) ∧ Below w.heap.size w w' := by
  have H := Aside0.mk h
  clear h
  have hmf : ∀ (fn : Fn) (first cap : Array Value) (w : World), (Instr.makeFunc fn first cap).run Try.prog w = .ok (.func fn first cap) w := fun _ _ _ _ => rfl
  unfold loanC
  go_enter_defers Try.func60, Try.ntmps60
  go_upto_region 1 with (fail)
  obtain ⟨W, hW⟩ : ∃ W, W = ((w.alloc (Obj.cells #[.int .i64 id, .int .i64 pr, .int .i64 it, .int .i64 su, .int .i64 fe, .int .i64 ppm, .bool sd, .int .i64 st, .int .i64 cl, .int .i64 en, .int .i64 le, .int .i64 fa, .int .i64 ct] 23)).alloc (Obj.cells #[.int .i64 0, .int .i64 0, .int .i64 0, .int .i64 0, .int .i64 0, .int .i64 0, .bool false, .int .i64 0, .int .i64 0, .int .i64 0, .int .i64 0, .int .i64 0, .int .i64 0] 23)).alloc (Obj.cells #[.int .i64 0] 24) := ⟨_, rfl⟩
  have B0 : Aside0 (W.heap[w.heap.size]? = some (.cells (loanC id pr it su fe ppm sd st cl en le fa ct) 23 (0, 0))) := ⟨by rw [hW]; exact blk_alloc (blk_alloc (blk_new w _) _) _⟩
  have B1 : Aside0 (W.heap[w.heap.size + 1]? = some (.cells (loanC 0 0 0 0 0 0 false 0 0 0 0 0 0) 23 (0, 0))) := ⟨by
    have := blk_alloc (blk_new (w.alloc (Obj.cells #[.int .i64 id, .int .i64 pr, .int .i64 it, .int .i64 su, .int .i64 fe, .int .i64 ppm, .bool sd, .int .i64 st, .int .i64 cl, .int .i64 en, .int .i64 le, .int .i64 fa, .int .i64 ct] 23)) (Obj.cells #[.int .i64 0, .int .i64 0, .int .i64 0, .int .i64 0, .int .i64 0, .int .i64 0, .bool false, .int .i64 0, .int .i64 0, .int .i64 0, .int .i64 0, .int .i64 0, .int .i64 0] 23)) (Obj.cells #[.int .i64 0] 24)
    rw [hW]; simpa [loanC] using this⟩
  have B2 : Aside0 (W.heap[w.heap.size + 2]? = some (.cells #[.int .i64 0] 24 (0, 0))) := ⟨by
    have := blk_new ((w.alloc (Obj.cells #[.int .i64 id, .int .i64 pr, .int .i64 it, .int .i64 su, .int .i64 fe, .int .i64 ppm, .bool sd, .int .i64 st, .int .i64 cl, .int .i64 en, .int .i64 le, .int .i64 fa, .int .i64 ct] 23)).alloc (Obj.cells #[.int .i64 0, .int .i64 0, .int .i64 0, .int .i64 0, .int .i64 0, .int .i64 0, .bool false, .int .i64 0, .int .i64 0, .int .i64 0, .int .i64 0, .int .i64 0, .int .i64 0] 23)) (Obj.cells #[.int .i64 0] 24)
    rw [hW]; simpa using this⟩
  have HB : Aside0 (Below w.heap.size w W) := ⟨by rw [hW]; exact (((Below.refl _ _).alloc (Nat.le_refl _) _).alloc (by simp) _).alloc (by simp; omega) _⟩
  rw [← hW]
  clear hW
  rw [show w.heap.size + 1 + 1 = w.heap.size + 2 from rfl]
  have c0 : W.cell? ⟨w.heap.size, 0, none⟩ = some (.int .i64 id) := (blk_cell B0.out 0).trans rfl
  have c1 : W.cell? ⟨w.heap.size, 1, none⟩ = some (.int .i64 pr) := (blk_cell B0.out 1).trans rfl
  have c2 : W.cell? ⟨w.heap.size, 2, none⟩ = some (.int .i64 it) := (blk_cell B0.out 2).trans rfl
  have c3 : W.cell? ⟨w.heap.size, 3, none⟩ = some (.int .i64 su) := (blk_cell B0.out 3).trans rfl
  have c4 : W.cell? ⟨w.heap.size, 4, none⟩ = some (.int .i64 fe) := (blk_cell B0.out 4).trans rfl
  have c5 : W.cell? ⟨w.heap.size, 5, none⟩ = some (.int .i64 ppm) := (blk_cell B0.out 5).trans rfl
  have c6 : W.cell? ⟨w.heap.size, 6, none⟩ = some (.bool sd) := (blk_cell B0.out 6).trans rfl
  have c7 : W.cell? ⟨w.heap.size, 7, none⟩ = some (.int .i64 st) := (blk_cell B0.out 7).trans rfl
  have c8 : W.cell? ⟨w.heap.size, 8, none⟩ = some (.int .i64 cl) := (blk_cell B0.out 8).trans rfl
  have c9 : W.cell? ⟨w.heap.size, 9, none⟩ = some (.int .i64 en) := (blk_cell B0.out 9).trans rfl
  have c10 : W.cell? ⟨w.heap.size, 10, none⟩ = some (.int .i64 le) := (blk_cell B0.out 10).trans rfl
  have c11 : W.cell? ⟨w.heap.size, 11, none⟩ = some (.int .i64 fa) := (blk_cell B0.out 11).trans rfl
  have c12 : W.cell? ⟨w.heap.size, 12, none⟩ = some (.int .i64 ct) := (blk_cell B0.out 12).trans rfl
  go_wp2_with (first | (go_at_call 11; (with_reducible refine (loan_Good.calls k id pr it su fe ppm sd st cl en le fa ct false _ H.out).mono ?_); rintro e w1 ⟨rfl, hb⟩) | (go_at_call 73; (with_reducible refine (loan_does.stop_bad 1 _ (by decide)).mono ?_); rintro e w' ⟨rfl, ⟨nd, rfl⟩⟩))
  have K0 := Aside0.mk (blk_drewN (loan_does.kept hb B1.out) nd)
  have K1 := Aside0.mk (blk_drewN (loan_does.kept hb B2.out) nd)
  have HC : Below w.heap.size w (w1.drewN nd) := pw_below_drewN (below_step HB.out hb) nd
  refine leaves_cons (f := 72) (args := #[.pointer (some ⟨w.heap.size + 1, 0, none⟩), .pointer (some ⟨w.heap.size + 2, 0, none⟩)]) (by simp) (by simp [go_sem]) ?_
  refine (loan_does.caught (w.heap.size + 1) 1 _ 0 _ rfl K0.out K1.out).mono ?_
  rintro e u' w'' ⟨rfl, rfl, b1, b2, hB⟩
  have z0 : w''.cell? ⟨w.heap.size + 1, 0, none⟩ = some (.int .i64 0) := (blk_cell b1 0).trans rfl
  have z1 : w''.cell? ⟨w.heap.size + 1, 1, none⟩ = some (.int .i64 0) := (blk_cell b1 1).trans rfl
  have z2 : w''.cell? ⟨w.heap.size + 1, 2, none⟩ = some (.int .i64 0) := (blk_cell b1 2).trans rfl
  have z3 : w''.cell? ⟨w.heap.size + 1, 3, none⟩ = some (.int .i64 0) := (blk_cell b1 3).trans rfl
  have z4 : w''.cell? ⟨w.heap.size + 1, 4, none⟩ = some (.int .i64 0) := (blk_cell b1 4).trans rfl
  have z5 : w''.cell? ⟨w.heap.size + 1, 5, none⟩ = some (.int .i64 0) := (blk_cell b1 5).trans rfl
  have z6 : w''.cell? ⟨w.heap.size + 1, 6, none⟩ = some (.bool false) := (blk_cell b1 6).trans rfl
  have z7 : w''.cell? ⟨w.heap.size + 1, 7, none⟩ = some (.int .i64 0) := (blk_cell b1 7).trans rfl
  have z8 : w''.cell? ⟨w.heap.size + 1, 8, none⟩ = some (.int .i64 0) := (blk_cell b1 8).trans rfl
  have z9 : w''.cell? ⟨w.heap.size + 1, 9, none⟩ = some (.int .i64 0) := (blk_cell b1 9).trans rfl
  have z10 : w''.cell? ⟨w.heap.size + 1, 10, none⟩ = some (.int .i64 0) := (blk_cell b1 10).trans rfl
  have z11 : w''.cell? ⟨w.heap.size + 1, 11, none⟩ = some (.int .i64 0) := (blk_cell b1 11).trans rfl
  have z12 : w''.cell? ⟨w.heap.size + 1, 12, none⟩ = some (.int .i64 0) := (blk_cell b1 12).trans rfl
  have g1 : w''.cell? ⟨w.heap.size + 2, 0, none⟩ = some (.int .i64 1) := (blk_cell b2 0).trans rfl
  simp [Leaves, settle, results, Try.results60, go_sem, z0, z1, z2, z3, z4, z5, z6, z7, z8, z9, z10, z11, z12, g1, loanC]
  exact hB _ w (by omega) HC
set_option maxHeartbeats 8000000 in
set_option maxRecDepth 100000 in
theorem loan_does.good_ok (k : Nat) (id pr it su fe ppm : Int) (sd : Bool) (st cl en le fa ct : Int) (f : Nat) (caps : Array Value) (id' pr' it' su' fe' ppm' : Int) (sd' : Bool) (st' cl' en' le' fa' ct' : Int) (c : Nat) (o : Obj) (w : World)
    (hc : c ≤ w.heap.size) (hf : ∀ args W, (callFunc f args).run Try.prog W = .ok (.enter f args) W)
    (h : loan_Good.f k id pr it su fe ppm sd st cl en le fa ct = some true)
    (hK : ∀ W, W.heap[w.heap.size]? = some (.cells (loanC id pr it su fe ppm sd st cl en le fa ct) 23 (0, 0)) → w.heap.size + 3 ≤ W.heap.size → Below w.heap.size w W →
      Calls Try.prog f (#[.pointer (some ⟨w.heap.size, 0, none⟩)] ++ caps) W fun e W' => e = .returned (.tuple #[]) ∧ W'.heap[w.heap.size]? = some (.cells (loanC id' pr' it' su' fe' ppm' sd' st' cl' en' le' fa' ct') 23 (0, 0)) ∧ loan_does.Near w.heap.size c W W' ∧ (c < w.heap.size → W'.heap[c]? = some o)) :
    Calls Try.prog 60 #[.agg (loanC id pr it su fe ppm sd st cl en le fa ct), .func (.func f) #[] caps] w fun e w' => e = .returned (.tuple #[.agg (loanC id' pr' it' su' fe' ppm' sd' st' cl' en' le' fa' ct'), .int .i64 0]) ∧ loan_does.Near c c w w' ∧ (c < w.heap.size → w'.heap[c]? = some o) := by
  have H := Aside0.mk h
  have HK := Aside0.mk hK
  clear h hK
  have hmf : ∀ (fn : Fn) (first cap : Array Value) (w : World), (Instr.makeFunc fn first cap).run Try.prog w = .ok (.func fn first cap) w := fun _ _ _ _ => rfl
  unfold loanC
  go_enter_defers Try.func60, Try.ntmps60
  go_upto_region 1 with (fail)
  obtain ⟨W, hW⟩ : ∃ W, W = ((w.alloc (Obj.cells #[.int .i64 id, .int .i64 pr, .int .i64 it, .int .i64 su, .int .i64 fe, .int .i64 ppm, .bool sd, .int .i64 st, .int .i64 cl, .int .i64 en, .int .i64 le, .int .i64 fa, .int .i64 ct] 23)).alloc (Obj.cells #[.int .i64 0, .int .i64 0, .int .i64 0, .int .i64 0, .int .i64 0, .int .i64 0, .bool false, .int .i64 0, .int .i64 0, .int .i64 0, .int .i64 0, .int .i64 0, .int .i64 0] 23)).alloc (Obj.cells #[.int .i64 0] 24) := ⟨_, rfl⟩
  have B0 : Aside0 (W.heap[w.heap.size]? = some (.cells (loanC id pr it su fe ppm sd st cl en le fa ct) 23 (0, 0))) := ⟨by rw [hW]; exact blk_alloc (blk_alloc (blk_new w _) _) _⟩
  have B1 : Aside0 (W.heap[w.heap.size + 1]? = some (.cells (loanC 0 0 0 0 0 0 false 0 0 0 0 0 0) 23 (0, 0))) := ⟨by
    have := blk_alloc (blk_new (w.alloc (Obj.cells #[.int .i64 id, .int .i64 pr, .int .i64 it, .int .i64 su, .int .i64 fe, .int .i64 ppm, .bool sd, .int .i64 st, .int .i64 cl, .int .i64 en, .int .i64 le, .int .i64 fa, .int .i64 ct] 23)) (Obj.cells #[.int .i64 0, .int .i64 0, .int .i64 0, .int .i64 0, .int .i64 0, .int .i64 0, .bool false, .int .i64 0, .int .i64 0, .int .i64 0, .int .i64 0, .int .i64 0, .int .i64 0] 23)) (Obj.cells #[.int .i64 0] 24)
    rw [hW]; simpa [loanC] using this⟩
  have B2 : Aside0 (W.heap[w.heap.size + 2]? = some (.cells #[.int .i64 0] 24 (0, 0))) := ⟨by
    have := blk_new ((w.alloc (Obj.cells #[.int .i64 id, .int .i64 pr, .int .i64 it, .int .i64 su, .int .i64 fe, .int .i64 ppm, .bool sd, .int .i64 st, .int .i64 cl, .int .i64 en, .int .i64 le, .int .i64 fa, .int .i64 ct] 23)).alloc (Obj.cells #[.int .i64 0, .int .i64 0, .int .i64 0, .int .i64 0, .int .i64 0, .int .i64 0, .bool false, .int .i64 0, .int .i64 0, .int .i64 0, .int .i64 0, .int .i64 0, .int .i64 0] 23)) (Obj.cells #[.int .i64 0] 24)
    rw [hW]; simpa using this⟩
  have HB : Aside0 (Below w.heap.size w W) := ⟨by rw [hW]; exact (((Below.refl _ _).alloc (Nat.le_refl _) _).alloc (by simp) _).alloc (by simp; omega) _⟩
  rw [← hW]
  clear hW
  rw [show w.heap.size + 1 + 1 = w.heap.size + 2 from rfl]
  have c0 : W.cell? ⟨w.heap.size, 0, none⟩ = some (.int .i64 id) := (blk_cell B0.out 0).trans rfl
  have c1 : W.cell? ⟨w.heap.size, 1, none⟩ = some (.int .i64 pr) := (blk_cell B0.out 1).trans rfl
  have c2 : W.cell? ⟨w.heap.size, 2, none⟩ = some (.int .i64 it) := (blk_cell B0.out 2).trans rfl
  have c3 : W.cell? ⟨w.heap.size, 3, none⟩ = some (.int .i64 su) := (blk_cell B0.out 3).trans rfl
  have c4 : W.cell? ⟨w.heap.size, 4, none⟩ = some (.int .i64 fe) := (blk_cell B0.out 4).trans rfl
  have c5 : W.cell? ⟨w.heap.size, 5, none⟩ = some (.int .i64 ppm) := (blk_cell B0.out 5).trans rfl
  have c6 : W.cell? ⟨w.heap.size, 6, none⟩ = some (.bool sd) := (blk_cell B0.out 6).trans rfl
  have c7 : W.cell? ⟨w.heap.size, 7, none⟩ = some (.int .i64 st) := (blk_cell B0.out 7).trans rfl
  have c8 : W.cell? ⟨w.heap.size, 8, none⟩ = some (.int .i64 cl) := (blk_cell B0.out 8).trans rfl
  have c9 : W.cell? ⟨w.heap.size, 9, none⟩ = some (.int .i64 en) := (blk_cell B0.out 9).trans rfl
  have c10 : W.cell? ⟨w.heap.size, 10, none⟩ = some (.int .i64 le) := (blk_cell B0.out 10).trans rfl
  have c11 : W.cell? ⟨w.heap.size, 11, none⟩ = some (.int .i64 fa) := (blk_cell B0.out 11).trans rfl
  have c12 : W.cell? ⟨w.heap.size, 12, none⟩ = some (.int .i64 ct) := (blk_cell B0.out 12).trans rfl
  go_wp2_with (first | (go_at_call 11; (with_reducible refine (loan_Good.calls k id pr it su fe ppm sd st cl en le fa ct true _ H.out).mono ?_); rintro e w1 ⟨rfl, hb⟩) | (go_at_call 73; (with_reducible refine (loan_does.stop_ok 1 false _ (.inr rfl)).mono ?_); rintro e w' ⟨rfl, ⟨nd, rfl⟩⟩))
  have K0 := blk_drewN (loan_does.kept hb B0.out) nd
  have HC : Below w.heap.size w (w1.drewN nd) := pw_below_drewN (below_step HB.out hb) nd
  refine (HK.out _ K0 (by have := blk_lt (blk_drewN (loan_does.kept hb B2.out) nd); omega) HC).mono ?_
  rintro e w2 ⟨rfl, b0, hN, hO⟩
  have k1 : w2.heap[w.heap.size + 1]? = some (.cells (loanC 0 0 0 0 0 0 false 0 0 0 0 0 0) 23 (0, 0)) := (hN.block _ (blk_lt (blk_drewN (loan_does.kept hb B1.out) nd)) (by omega) (by omega)).trans (blk_drewN (loan_does.kept hb B1.out) nd)
  have k2 : w2.heap[w.heap.size + 2]? = some (.cells #[.int .i64 0] 24 (0, 0)) := (hN.block _ (blk_lt (blk_drewN (loan_does.kept hb B2.out) nd)) (by omega) (by omega)).trans (blk_drewN (loan_does.kept hb B2.out) nd)
  have y0 : w2.cell? ⟨w.heap.size, 0, none⟩ = some (.int .i64 id') := (blk_cell b0 0).trans rfl
  have y1 : w2.cell? ⟨w.heap.size, 1, none⟩ = some (.int .i64 pr') := (blk_cell b0 1).trans rfl
  have y2 : w2.cell? ⟨w.heap.size, 2, none⟩ = some (.int .i64 it') := (blk_cell b0 2).trans rfl
  have y3 : w2.cell? ⟨w.heap.size, 3, none⟩ = some (.int .i64 su') := (blk_cell b0 3).trans rfl
  have y4 : w2.cell? ⟨w.heap.size, 4, none⟩ = some (.int .i64 fe') := (blk_cell b0 4).trans rfl
  have y5 : w2.cell? ⟨w.heap.size, 5, none⟩ = some (.int .i64 ppm') := (blk_cell b0 5).trans rfl
  have y6 : w2.cell? ⟨w.heap.size, 6, none⟩ = some (.bool sd') := (blk_cell b0 6).trans rfl
  have y7 : w2.cell? ⟨w.heap.size, 7, none⟩ = some (.int .i64 st') := (blk_cell b0 7).trans rfl
  have y8 : w2.cell? ⟨w.heap.size, 8, none⟩ = some (.int .i64 cl') := (blk_cell b0 8).trans rfl
  have y9 : w2.cell? ⟨w.heap.size, 9, none⟩ = some (.int .i64 en') := (blk_cell b0 9).trans rfl
  have y10 : w2.cell? ⟨w.heap.size, 10, none⟩ = some (.int .i64 le') := (blk_cell b0 10).trans rfl
  have y11 : w2.cell? ⟨w.heap.size, 11, none⟩ = some (.int .i64 fa') := (blk_cell b0 11).trans rfl
  have y12 : w2.cell? ⟨w.heap.size, 12, none⟩ = some (.int .i64 ct') := (blk_cell b0 12).trans rfl
  have q2 : (w2.setRow (w.heap.size + 1) (loanC id' pr' it' su' fe' ppm' sd' st' cl' en' le' fa' ct')).heap[w.heap.size + 2]? = some (.cells #[.int .i64 0] 24 (0, 0)) := (setRow_other _ _ _ _ (by omega)).trans k2
  have d2 : (w2.setRow (w.heap.size + 1) (loanC id' pr' it' su' fe' ppm' sd' st' cl' en' le' fa' ct')).cell? ⟨w.heap.size + 2, 0, none⟩ = some (.int .i64 0) := (blk_cell q2 0).trans rfl
  have e2 := blk_frozen q2 0
  have K1 := Aside0.mk k1
  have K2 := Aside0.mk k2
  have Q2 := Aside0.mk q2
  have BO := Aside0.mk b0
  have HN := Aside0.mk hN
  have HO := Aside0.mk hO
  have HCC := Aside0.mk HC
  have HCl := Aside0.mk hc
  clear k1 k2 q2 b0 hN hO HC hb hc c0 c1 c2 c3 c4 c5 c6 c7 c8 c9 c10 c11 c12
  go_wp2_with ((with_reducible refine loan_does.gate 23 (.tmp 4) (.tmp 13) rfl ?_); refine loan_does.MARK ?_)
  unfold loan_does.Mark
  refine loan_does.st rfl 23 (.tmp 4) (.tmp 13) rfl rfl (w.heap.size + 1) (loanC id' pr' it' su' fe' ppm' sd' st' cl' en' le' fa' ct') ?hx ?hy 23 _ K1.out (by kernel_rfl) rfl (loan_does.one _ _ _ _ _ _ _ _ _ _ _ _ _) ?_
  case hx => simp [go_sem]
  case hy => simp [go_sem, loanC]
  go_wp2
  obtain ⟨W3, hW3⟩ : ∃ W3, W3 = (w2.setRow (w.heap.size + 1) (loanC id' pr' it' su' fe' ppm' sd' st' cl' en' le' fa' ct')).setCell ⟨w.heap.size + 2, 0, none⟩ (.int .i64 0) := ⟨_, rfl⟩
  have h31 : W3.heap[w.heap.size + 1]? = some (.cells (loanC id' pr' it' su' fe' ppm' sd' st' cl' en' le' fa' ct') 23 (0, 0)) := by rw [hW3]; exact blk_far (setRow_heap w2 _ _ _ 23 (0, 0) K1.out) (by simp) _
  have h32 : W3.heap[w.heap.size + 2]? = some (.cells #[.int .i64 0] 24 (0, 0)) := by rw [hW3]; exact blk_put Q2.out 0 _ rfl
  have h33 : Below w.heap.size w2 W3 := by rw [hW3]; exact (below_setRow (Below.refl _ _) (by omega) _).setCell (by simp) _
  rw [← hW3]
  clear hW3
  refine leaves_cons (f := 72) (args := #[.pointer (some ⟨w.heap.size + 1, 0, none⟩), .pointer (some ⟨w.heap.size + 2, 0, none⟩)]) (by simp) (by simp [go_sem]) ?_
  refine (loan_does.idle _ _ _).mono ?_
  rintro e u' w'' ⟨rfl, rfl, rfl⟩
  have z0 : w''.cell? ⟨w.heap.size + 1, 0, none⟩ = some (.int .i64 id') := (blk_cell h31 0).trans rfl
  have z1 : w''.cell? ⟨w.heap.size + 1, 1, none⟩ = some (.int .i64 pr') := (blk_cell h31 1).trans rfl
  have z2 : w''.cell? ⟨w.heap.size + 1, 2, none⟩ = some (.int .i64 it') := (blk_cell h31 2).trans rfl
  have z3 : w''.cell? ⟨w.heap.size + 1, 3, none⟩ = some (.int .i64 su') := (blk_cell h31 3).trans rfl
  have z4 : w''.cell? ⟨w.heap.size + 1, 4, none⟩ = some (.int .i64 fe') := (blk_cell h31 4).trans rfl
  have z5 : w''.cell? ⟨w.heap.size + 1, 5, none⟩ = some (.int .i64 ppm') := (blk_cell h31 5).trans rfl
  have z6 : w''.cell? ⟨w.heap.size + 1, 6, none⟩ = some (.bool sd') := (blk_cell h31 6).trans rfl
  have z7 : w''.cell? ⟨w.heap.size + 1, 7, none⟩ = some (.int .i64 st') := (blk_cell h31 7).trans rfl
  have z8 : w''.cell? ⟨w.heap.size + 1, 8, none⟩ = some (.int .i64 cl') := (blk_cell h31 8).trans rfl
  have z9 : w''.cell? ⟨w.heap.size + 1, 9, none⟩ = some (.int .i64 en') := (blk_cell h31 9).trans rfl
  have z10 : w''.cell? ⟨w.heap.size + 1, 10, none⟩ = some (.int .i64 le') := (blk_cell h31 10).trans rfl
  have z11 : w''.cell? ⟨w.heap.size + 1, 11, none⟩ = some (.int .i64 fa') := (blk_cell h31 11).trans rfl
  have z12 : w''.cell? ⟨w.heap.size + 1, 12, none⟩ = some (.int .i64 ct') := (blk_cell h31 12).trans rfl
  have g1 : w''.cell? ⟨w.heap.size + 2, 0, none⟩ = some (.int .i64 0) := (blk_cell h32 0).trans rfl
  simp [Leaves, settle, results, Try.results60, go_sem, z0, z1, z2, z3, z4, z5, z6, z7, z8, z9, z10, z11, z12, g1, loanC]
  exact ⟨loan_does.Near.fin HCC.out HN.out h33, fun h => (h33.block _ h).trans (HO.out h)⟩
set_option maxHeartbeats 8000000 in
set_option maxRecDepth 100000 in
theorem loan_does.good_bad (k : Nat) (id pr it su fe ppm : Int) (sd : Bool) (st cl en le fa ct : Int) (f : Nat) (caps : Array Value) (x : Int) (c : Nat) (o : Obj) (w : World)
    (hc : c ≤ w.heap.size) (hf : ∀ args W, (callFunc f args).run Try.prog W = .ok (.enter f args) W)
    (h : loan_Good.f k id pr it su fe ppm sd st cl en le fa ct = some true)
    (hK : ∀ W, W.heap[w.heap.size]? = some (.cells (loanC id pr it su fe ppm sd st cl en le fa ct) 23 (0, 0)) → w.heap.size + 3 ≤ W.heap.size → Below w.heap.size w W →
      Calls Try.prog f (#[.pointer (some ⟨w.heap.size, 0, none⟩)] ++ caps) W fun e W' => e = .panicked [{ v := .iface 24 (.int .i64 x), recovered := false }] ∧ loan_does.Near w.heap.size c W W' ∧ (c < w.heap.size → W'.heap[c]? = some o)) :
    Calls Try.prog 60 #[.agg (loanC id pr it su fe ppm sd st cl en le fa ct), .func (.func f) #[] caps] w fun e w' => e = .returned (.tuple #[.agg (loanC 0 0 0 0 0 0 false 0 0 0 0 0 0), .int .i64 x]) ∧ loan_does.Near c c w w' ∧ (c < w.heap.size → w'.heap[c]? = some o) := by
  have H := Aside0.mk h
  have HK := Aside0.mk hK
  clear h hK
  have hmf : ∀ (fn : Fn) (first cap : Array Value) (w : World), (Instr.makeFunc fn first cap).run Try.prog w = .ok (.func fn first cap) w := fun _ _ _ _ => rfl
  unfold loanC
  go_enter_defers Try.func60, Try.ntmps60
  go_upto_region 1 with (fail)
  obtain ⟨W, hW⟩ : ∃ W, W = ((w.alloc (Obj.cells #[.int .i64 id, .int .i64 pr, .int .i64 it, .int .i64 su, .int .i64 fe, .int .i64 ppm, .bool sd, .int .i64 st, .int .i64 cl, .int .i64 en, .int .i64 le, .int .i64 fa, .int .i64 ct] 23)).alloc (Obj.cells #[.int .i64 0, .int .i64 0, .int .i64 0, .int .i64 0, .int .i64 0, .int .i64 0, .bool false, .int .i64 0, .int .i64 0, .int .i64 0, .int .i64 0, .int .i64 0, .int .i64 0] 23)).alloc (Obj.cells #[.int .i64 0] 24) := ⟨_, rfl⟩
  have B0 : Aside0 (W.heap[w.heap.size]? = some (.cells (loanC id pr it su fe ppm sd st cl en le fa ct) 23 (0, 0))) := ⟨by rw [hW]; exact blk_alloc (blk_alloc (blk_new w _) _) _⟩
  have B1 : Aside0 (W.heap[w.heap.size + 1]? = some (.cells (loanC 0 0 0 0 0 0 false 0 0 0 0 0 0) 23 (0, 0))) := ⟨by
    have := blk_alloc (blk_new (w.alloc (Obj.cells #[.int .i64 id, .int .i64 pr, .int .i64 it, .int .i64 su, .int .i64 fe, .int .i64 ppm, .bool sd, .int .i64 st, .int .i64 cl, .int .i64 en, .int .i64 le, .int .i64 fa, .int .i64 ct] 23)) (Obj.cells #[.int .i64 0, .int .i64 0, .int .i64 0, .int .i64 0, .int .i64 0, .int .i64 0, .bool false, .int .i64 0, .int .i64 0, .int .i64 0, .int .i64 0, .int .i64 0, .int .i64 0] 23)) (Obj.cells #[.int .i64 0] 24)
    rw [hW]; simpa [loanC] using this⟩
  have B2 : Aside0 (W.heap[w.heap.size + 2]? = some (.cells #[.int .i64 0] 24 (0, 0))) := ⟨by
    have := blk_new ((w.alloc (Obj.cells #[.int .i64 id, .int .i64 pr, .int .i64 it, .int .i64 su, .int .i64 fe, .int .i64 ppm, .bool sd, .int .i64 st, .int .i64 cl, .int .i64 en, .int .i64 le, .int .i64 fa, .int .i64 ct] 23)).alloc (Obj.cells #[.int .i64 0, .int .i64 0, .int .i64 0, .int .i64 0, .int .i64 0, .int .i64 0, .bool false, .int .i64 0, .int .i64 0, .int .i64 0, .int .i64 0, .int .i64 0, .int .i64 0] 23)) (Obj.cells #[.int .i64 0] 24)
    rw [hW]; simpa using this⟩
  have HB : Aside0 (Below w.heap.size w W) := ⟨by rw [hW]; exact (((Below.refl _ _).alloc (Nat.le_refl _) _).alloc (by simp) _).alloc (by simp; omega) _⟩
  rw [← hW]
  clear hW
  rw [show w.heap.size + 1 + 1 = w.heap.size + 2 from rfl]
  have c0 : W.cell? ⟨w.heap.size, 0, none⟩ = some (.int .i64 id) := (blk_cell B0.out 0).trans rfl
  have c1 : W.cell? ⟨w.heap.size, 1, none⟩ = some (.int .i64 pr) := (blk_cell B0.out 1).trans rfl
  have c2 : W.cell? ⟨w.heap.size, 2, none⟩ = some (.int .i64 it) := (blk_cell B0.out 2).trans rfl
  have c3 : W.cell? ⟨w.heap.size, 3, none⟩ = some (.int .i64 su) := (blk_cell B0.out 3).trans rfl
  have c4 : W.cell? ⟨w.heap.size, 4, none⟩ = some (.int .i64 fe) := (blk_cell B0.out 4).trans rfl
  have c5 : W.cell? ⟨w.heap.size, 5, none⟩ = some (.int .i64 ppm) := (blk_cell B0.out 5).trans rfl
  have c6 : W.cell? ⟨w.heap.size, 6, none⟩ = some (.bool sd) := (blk_cell B0.out 6).trans rfl
  have c7 : W.cell? ⟨w.heap.size, 7, none⟩ = some (.int .i64 st) := (blk_cell B0.out 7).trans rfl
  have c8 : W.cell? ⟨w.heap.size, 8, none⟩ = some (.int .i64 cl) := (blk_cell B0.out 8).trans rfl
  have c9 : W.cell? ⟨w.heap.size, 9, none⟩ = some (.int .i64 en) := (blk_cell B0.out 9).trans rfl
  have c10 : W.cell? ⟨w.heap.size, 10, none⟩ = some (.int .i64 le) := (blk_cell B0.out 10).trans rfl
  have c11 : W.cell? ⟨w.heap.size, 11, none⟩ = some (.int .i64 fa) := (blk_cell B0.out 11).trans rfl
  have c12 : W.cell? ⟨w.heap.size, 12, none⟩ = some (.int .i64 ct) := (blk_cell B0.out 12).trans rfl
  go_wp2_with (first | (go_at_call 11; (with_reducible refine (loan_Good.calls k id pr it su fe ppm sd st cl en le fa ct true _ H.out).mono ?_); rintro e w1 ⟨rfl, hb⟩) | (go_at_call 73; (with_reducible refine (loan_does.stop_ok 1 false _ (.inr rfl)).mono ?_); rintro e w' ⟨rfl, ⟨nd, rfl⟩⟩))
  have K0 := blk_drewN (loan_does.kept hb B0.out) nd
  have HC : Below w.heap.size w (w1.drewN nd) := pw_below_drewN (below_step HB.out hb) nd
  refine (HK.out _ K0 (by have := blk_lt (blk_drewN (loan_does.kept hb B2.out) nd); omega) HC).mono ?_
  rintro e w2 ⟨rfl, hN, hO⟩
  have k1 : w2.heap[w.heap.size + 1]? = some (.cells (loanC 0 0 0 0 0 0 false 0 0 0 0 0 0) 23 (0, 0)) := (hN.block _ (blk_lt (blk_drewN (loan_does.kept hb B1.out) nd)) (by omega) (by omega)).trans (blk_drewN (loan_does.kept hb B1.out) nd)
  have k2 : w2.heap[w.heap.size + 2]? = some (.cells #[.int .i64 0] 24 (0, 0)) := (hN.block _ (blk_lt (blk_drewN (loan_does.kept hb B2.out) nd)) (by omega) (by omega)).trans (blk_drewN (loan_does.kept hb B2.out) nd)
  refine leaves_cons (f := 72) (args := #[.pointer (some ⟨w.heap.size + 1, 0, none⟩), .pointer (some ⟨w.heap.size + 2, 0, none⟩)]) (by simp) (by simp [go_sem]) ?_
  refine (loan_does.caught (w.heap.size + 1) x _ 0 _ rfl k1 k2).mono ?_
  rintro e u' w'' ⟨rfl, rfl, b1, b2, hB⟩
  have z0 : w''.cell? ⟨w.heap.size + 1, 0, none⟩ = some (.int .i64 0) := (blk_cell b1 0).trans rfl
  have z1 : w''.cell? ⟨w.heap.size + 1, 1, none⟩ = some (.int .i64 0) := (blk_cell b1 1).trans rfl
  have z2 : w''.cell? ⟨w.heap.size + 1, 2, none⟩ = some (.int .i64 0) := (blk_cell b1 2).trans rfl
  have z3 : w''.cell? ⟨w.heap.size + 1, 3, none⟩ = some (.int .i64 0) := (blk_cell b1 3).trans rfl
  have z4 : w''.cell? ⟨w.heap.size + 1, 4, none⟩ = some (.int .i64 0) := (blk_cell b1 4).trans rfl
  have z5 : w''.cell? ⟨w.heap.size + 1, 5, none⟩ = some (.int .i64 0) := (blk_cell b1 5).trans rfl
  have z6 : w''.cell? ⟨w.heap.size + 1, 6, none⟩ = some (.bool false) := (blk_cell b1 6).trans rfl
  have z7 : w''.cell? ⟨w.heap.size + 1, 7, none⟩ = some (.int .i64 0) := (blk_cell b1 7).trans rfl
  have z8 : w''.cell? ⟨w.heap.size + 1, 8, none⟩ = some (.int .i64 0) := (blk_cell b1 8).trans rfl
  have z9 : w''.cell? ⟨w.heap.size + 1, 9, none⟩ = some (.int .i64 0) := (blk_cell b1 9).trans rfl
  have z10 : w''.cell? ⟨w.heap.size + 1, 10, none⟩ = some (.int .i64 0) := (blk_cell b1 10).trans rfl
  have z11 : w''.cell? ⟨w.heap.size + 1, 11, none⟩ = some (.int .i64 0) := (blk_cell b1 11).trans rfl
  have z12 : w''.cell? ⟨w.heap.size + 1, 12, none⟩ = some (.int .i64 0) := (blk_cell b1 12).trans rfl
  have g1 : w''.cell? ⟨w.heap.size + 2, 0, none⟩ = some (.int .i64 x) := (blk_cell b2 0).trans rfl
  simp [Leaves, settle, results, Try.results60, go_sem, z0, z1, z2, z3, z4, z5, z6, z7, z8, z9, z10, z11, z12, g1, loanC]
  have h33 := hB w.heap.size w2 (by omega) (Below.refl _ _)
  exact ⟨loan_does.Near.fin HC hN h33, fun h => (h33.block _ h).trans (hO h)⟩
end Go.Proofs.Ytlhcohipnieidaa.P
