/- Loans: contracts of the functions on loans, walked by hand. -/
import Derived.Test.YtlhcohipnieidaaPx1
import Derived.Test.YtlhcohipnieidaaPx18
import Derived.Test.YtlhcohipnieidaaZlc
import Derived.Deep.RegionHeld3
import Derived.Laws.CopyOwn
namespace Go.Proofs.Ytlhcohipnieidaa.P
open Go.RowKit Go.Proofs.YtlhcohipnieidaaW.PrintWords Go.Proofs.YtlhcohipnieidaaW.PrintLast Go.Proofs.YtlhcohipnieidaaW.PrintMore
attribute [local go_sem] max2_int min2_int max_two min_two max_three min_three max_four min_four   -- for this text's walks alone
set_option linter.unusedVariables false
set_option linter.unusedSimpArgs false
theorem loan_does.Near.refl (a b : Nat) (w : World) : loan_does.Near a b w w := ⟨rfl, rfl, rfl, Nat.le_refl _, fun _ _ _ _ => rfl⟩
theorem loan_does.Near.trans {a b : Nat} {w w1 w2 : World} (h1 : loan_does.Near a b w w1) (h2 : loan_does.Near a b w1 w2) : loan_does.Near a b w w2 :=
  ⟨h2.os.trans h1.os, h2.tape.trans h1.tape, h2.output.trans h1.output, Nat.le_trans h1.size h2.size, fun k hk ha hb => (h2.block k (Nat.lt_of_lt_of_le hk h1.size) ha hb).trans (h1.block k hk ha hb)⟩
theorem loan_does.Near.step {a b : Nat} {w w1 w2 : World} (h1 : loan_does.Near a b w w1) (h2 : Below w1.heap.size w1 w2) : loan_does.Near a b w w2 := h1.trans (.of_below h2)
theorem loan_does.Near.put {a b : Nat} {w w1 : World} (h1 : loan_does.Near a b w w1) (p : Addr) (v : Value) (hp : p.block = a) : loan_does.Near a b w (w1.setCell p v) :=
  h1.trans ⟨rfl, rfl, rfl, by simp [World.setCell], fun k _ ha _ => Below.heap_setCell _ _ _ _ (by omega)⟩
theorem loan_does.Near.put2 {a b : Nat} {w w1 : World} (h1 : loan_does.Near a b w w1) (p : Addr) (v : Value) (hp : p.block = b) : loan_does.Near a b w (w1.setCell p v) :=
  h1.trans ⟨rfl, rfl, rfl, by simp [World.setCell], fun k _ _ hb => Below.heap_setCell _ _ _ _ (by omega)⟩
theorem loan_does.Near.drewN {a b : Nat} {w w1 : World} (h1 : loan_does.Near a b w w1) (n : Nat) : loan_does.Near a b w (w1.drewN n) := h1.step (pw_below_drewN (Below.refl _ _) n)
/-- Whole cents. -/
theorem loan_does.whole {it : Int} (i0 : 0 ≤ it) (i1 : it ≤ 1000000000000000000) : accrue_Whole.f it = some (it / 1000000) := by
  unfold accrue_Whole.f; rw [if_pos (by omega), if_neg (by omega)]
end Go.Proofs.Ytlhcohipnieidaa.P
