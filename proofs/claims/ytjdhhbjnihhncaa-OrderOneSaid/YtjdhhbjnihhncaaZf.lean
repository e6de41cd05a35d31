/- annuitykeep.Float: are two floats alike, bit for bit: walked by hand. -/
import Derived.Test.YtjdhhbjnihhncaaPx0
import Derived.Laws.FloatBits
namespace Go.Proofs.Ytjdhhbjnihhncaa.P
open Go.RowKit Go.Proofs.YtjdhhbjnihhncaaW.PrintWords Go.Proofs.YtjdhhbjnihhncaaW.PrintLast Go.Proofs.YtjdhhbjnihhncaaW.PrintMore
set_option linter.unusedVariables false
set_option linter.unusedSimpArgs false
def annuitykeep_Float.f (k : Nat) (a0 : Nat) (a1 : Nat) : Option Bool := some (a0 == a1)
theorem bits_run (a : Nat) (w : World) : (callFunc 38 #[.float .f64 a]).run Try.prog w = .ok (.value (.int .u64 a)) w := by
  rw [run_callFunc_extern (e := Extern.MathFloatBits.float64bits) Try.func38 (by kernel_rfl) (by kernel_rfl) (by kernel_rfl) (by kernel_rfl)]
  rfl
set_option maxHeartbeats 8000000 in
set_option maxRecDepth 100000 in
theorem annuitykeep_Float.calls (k : Nat) (a0 a1 : Nat) (r : Bool) (w : World) (h : annuitykeep_Float.f k a0 a1 = some r) :
    Calls Try.prog 32 #[.float .f64 a0, .float .f64 a1] w fun e w' => e = .returned (.bool r) ∧ Below w.heap.size w w' := by
  obtain rfl := Option.some.inj h
  clear h
  have HB := Aside0.mk (Below.refl w.heap.size w)
  go_enter Try.func32, Try.ntmps32
  have hx := bits_run
  go_wp2
  go_ret
  refine ⟨?_, HB.out⟩
  have e : ((a0 : Int) == (a1 : Int)) = (a0 == a1) := by rw [Bool.eq_iff_iff, beq_iff_eq, beq_iff_eq]; omega
  rw [← e]
  rfl
end Go.Proofs.Ytjdhhbjnihhncaa.P
