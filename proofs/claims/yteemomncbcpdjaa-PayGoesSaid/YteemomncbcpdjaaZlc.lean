/- A part of a proof. -/
import Derived.Test.YteemomncbcpdjaaPx3
import Derived.Test.YteemomncbcpdjaaPx4
import Derived.Test.YteemomncbcpdjaaPx5
import Derived.Test.YteemomncbcpdjaaPx7
import Derived.Test.YteemomncbcpdjaaZlb
import Derived.Deep.RegionHeld3
import Derived.Deep.RegionHeld2
import Derived.Laws.CopyOwn
namespace Go.Proofs.Yteemomncbcpdjaa.P
open Go.RowKit W.PrintWords W.PrintLast W.PrintMore
attribute [local go_sem] qZs qZq qZ5 qZ6 qZk qZl qZt qZp
set_option linter.unusedVariables false
set_option linter.unusedSimpArgs false
set_option maxHeartbeats 8000000 in
set_option maxRecDepth 100000 in
theorem qQb.qX7 (b : Nat) (id pr it su fe ppm : Int) (sd : Bool) (st en le fa ct : Int) (w : World) (h : w.heap[b]? = some (.cells (loanC id pr it su fe ppm sd st 0 en le fa ct) 43 (0, 0))) :
    Calls Try.prog 47 #[.pointer (some ⟨b, 0, none⟩)] w fun e w' => e = .returned (.tuple #[]) ∧ Drawn0 w w' := by
  have c8 : w.cell? ⟨b, 8, none⟩ = some (.int .i64 0) := (qQa h 8).trans rfl
  have f8 := qQi h 8
  clear h
  go_enter Try.func47, Try.ntmps47
  go_wp2_with (go_at_call 46; (with_reducible refine (qQb.qY0 61 false _ (.inr rfl)).mono ?_); rintro e w' ⟨rfl, ⟨nd, rfl⟩⟩)
  go_end0
  exact ⟨by first | rfl | (simp; done), by repeat (first | exact Drawn0.refl _ | apply Drawn0.step)⟩
set_option maxHeartbeats 8000000 in
set_option maxRecDepth 100000 in
theorem qQb.zQg (b : Nat) (id pr it su fe ppm : Int) (sd : Bool) (st cl en le fa ct : Int) (w : World) (h : w.heap[b]? = some (.cells (loanC id pr it su fe ppm sd st cl en le fa ct) 43 (0, 0))) (hc : cl ≠ 0) :
    Calls Try.prog 47 #[.pointer (some ⟨b, 0, none⟩)] w fun e w' => e = .panicked [{ v := .iface 27 (.int .i64 61), recovered := false }] ∧ Drawn0 w w' := by
  have c8 : w.cell? ⟨b, 8, none⟩ = some (.int .i64 cl) := (qQa h 8).trans rfl
  have f8 := qQi h 8
  have c1 : (cl != 0) = true := bne_iff_ne.mpr hc
  have c2 : (cl == 0) = false := beq_eq_false_iff_ne.mpr hc
  clear h hc
  go_enter Try.func47, Try.ntmps47
  go_wp2_with (go_at_call 46; (with_reducible refine (qQb.qXh 61 _ (by decide)).mono ?_); rintro e w' ⟨rfl, ⟨nd, rfl⟩⟩)
  exact ⟨rfl, rfl, by repeat (first | exact Drawn0.refl _ | apply Drawn0.step)⟩
end Go.Proofs.Yteemomncbcpdjaa.P
