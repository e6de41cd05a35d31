/- A part of a proof. -/
import Derived.Test.YteemomncbcpdjaaPx3
import Derived.Test.YteemomncbcpdjaaPx4
import Derived.Test.YteemomncbcpdjaaPx5
import Derived.Test.YteemomncbcpdjaaPx7
import Derived.Test.YteemomncbcpdjaaZlc
import Derived.Deep.RegionHeld3
import Derived.Laws.CopyOwn
namespace Go.Proofs.Yteemomncbcpdjaa.P
open Go.RowKit W.PrintWords W.PrintLast W.PrintMore
attribute [local go_sem] qZs qZq qZ5 qZ6 qZk qZl qZt qZp
set_option linter.unusedVariables false
set_option linter.unusedSimpArgs false
theorem qQb.Near.refl (a b : Nat) (w : World) : qQb.Near a b w w := ⟨rfl, rfl, rfl, Nat.le_refl _, fun _ _ _ _ => rfl⟩
theorem qQb.Near.trans {a b : Nat} {w w1 w2 : World} (h1 : qQb.Near a b w w1) (h2 : qQb.Near a b w1 w2) : qQb.Near a b w w2 :=
  ⟨h2.os.trans h1.os, h2.tape.trans h1.tape, h2.output.trans h1.output, Nat.le_trans h1.size h2.size, fun k hk ha hb => (h2.block k (Nat.lt_of_lt_of_le hk h1.size) ha hb).trans (h1.block k hk ha hb)⟩
theorem qQb.Near.step {a b : Nat} {w w1 w2 : World} (h1 : qQb.Near a b w w1) (h2 : Below w1.heap.size w1 w2) : qQb.Near a b w w2 := h1.trans (.of_below h2)
theorem qQb.Near.put {a b : Nat} {w w1 : World} (h1 : qQb.Near a b w w1) (p : Addr) (v : Value) (hp : p.block = a) : qQb.Near a b w (w1.setCell p v) :=
  h1.trans ⟨rfl, rfl, rfl, by simp [World.setCell], fun k _ ha _ => Below.heap_setCell _ _ _ _ (by omega)⟩
theorem qQb.Near.drewN {a b : Nat} {w w1 : World} (h1 : qQb.Near a b w w1) (n : Nat) : qQb.Near a b w (w1.drewN n) := h1.step (qZh (Below.refl _ _) n)
theorem qQb.Near.below {w w1 : World} (h : qQb.Near w.heap.size w.heap.size w w1) : Below w.heap.size w w1 := ⟨h.os, h.tape, h.output, h.size, fun k hk => h.block k hk (Nat.ne_of_lt hk) (Nat.ne_of_lt hk)⟩
theorem qQb.whole {it : Int} (i0 : 0 ≤ it) (i1 : it ≤ 1000000000000000000) : qZb.f it = some (it / 1000000) := by
  unfold qZb.f; rw [if_pos (by omega), if_neg (by omega)]
end Go.Proofs.Yteemomncbcpdjaa.P
