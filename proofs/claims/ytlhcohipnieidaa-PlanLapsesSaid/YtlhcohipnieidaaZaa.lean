/- What the printed walks say over and over, as lemmas with a tactic as their last argument. -/
import Derived.Test.YtlhcohipnieidaaPx0
namespace Go.Proofs.Ytlhcohipnieidaa.P
open Go.RowKit Go.Proofs.YtlhcohipnieidaaW.PrintWords Go.Proofs.YtlhcohipnieidaaW.PrintLast Go.Proofs.YtlhcohipnieidaaW.PrintMore
theorem rq {P Q : Prop} (h : Q) (f : Q → P := by intro h_; (with_reducible repeat (first | apply Kd.R_alloc | apply Kd.R_drewN | apply Kd.R_drew)); exact h_) : P := f h
theorem bb {P Q : Prop} (h : Q) (f : Q → P := by intro h_; (with_reducible repeat (first | refine blk_drewN ?_ _ | refine blk_drew ?_ | refine blk_alloc ?_ _)); exact h_) : P := f h
theorem h0q {P Q : Prop} (h : Q) (f : Q → P := by intro h_; repeat (first | (with_reducible first | exact h_ | apply below_alloc | apply pw_below_drewN | apply below_drew1) | exact h_)) : P := f h
theorem h1q {P Q G0 : Prop} (h : Q) (g0 : G0) (f : Q → G0 → P := by intro h_ g0_; repeat (first | (with_reducible first | exact h_ | apply below_alloc | apply pw_below_drewN | apply below_drew1 | refine below_set ?_ g0_) | exact h_)) : P := f h g0
theorem h2q {P Q G0 G1 : Prop} (h : Q) (g0 : G0) (g1 : G1) (f : Q → G0 → G1 → P := by intro h_ g0_ g1_; repeat (first | (with_reducible first | exact h_ | apply below_alloc | apply pw_below_drewN | apply below_drew1 | refine below_set ?_ g0_ | refine below_set ?_ g1_) | exact h_)) : P := f h g0 g1
theorem h3q {P Q G0 G1 G2 : Prop} (h : Q) (g0 : G0) (g1 : G1) (g2 : G2) (f : Q → G0 → G1 → G2 → P := by intro h_ g0_ g1_ g2_; repeat (first | (with_reducible first | exact h_ | apply below_alloc | apply pw_below_drewN | apply below_drew1 | refine below_set ?_ g0_ | refine below_set ?_ g1_ | refine below_set ?_ g2_) | exact h_)) : P := f h g0 g1 g2
theorem h4q {P Q G0 G1 G2 G3 : Prop} (h : Q) (g0 : G0) (g1 : G1) (g2 : G2) (g3 : G3) (f : Q → G0 → G1 → G2 → G3 → P := by intro h_ g0_ g1_ g2_ g3_; repeat (first | (with_reducible first | exact h_ | apply below_alloc | apply pw_below_drewN | apply below_drew1 | refine below_set ?_ g0_ | refine below_set ?_ g1_ | refine below_set ?_ g2_ | refine below_set ?_ g3_) | exact h_)) : P := f h g0 g1 g2 g3
theorem h5q {P Q G0 G1 G2 G3 G4 : Prop} (h : Q) (g0 : G0) (g1 : G1) (g2 : G2) (g3 : G3) (g4 : G4) (f : Q → G0 → G1 → G2 → G3 → G4 → P := by intro h_ g0_ g1_ g2_ g3_ g4_; repeat (first | (with_reducible first | exact h_ | apply below_alloc | apply pw_below_drewN | apply below_drew1 | refine below_set ?_ g0_ | refine below_set ?_ g1_ | refine below_set ?_ g2_ | refine below_set ?_ g3_ | refine below_set ?_ g4_) | exact h_)) : P := f h g0 g1 g2 g3 g4
theorem hxb {w w' : World} {p : Addr} {v : Value} (h : Below w.heap.size w w') (hx : w.cell? p = some v) : w'.cell? p = some v := (h.cell (World.block_lt_of_cell? w _ hx)).trans hx
theorem yd {p : Prop} [Decidable p] (h : decide p = true := by first | (with_reducible assumption) | assumption) : p := of_decide_eq_true h
end Go.Proofs.Ytlhcohipnieidaa.P
