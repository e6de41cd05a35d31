/- blend's wide numbers: walked by hand. -/
import Derived.Test.YtakcepffodipfaaZaa
import Derived.Test.YtakcepffodipfaaPx5
import Derived.Test.YtakcepffodipfaaPx7
import Derived.Laws.Externs
namespace Go.Proofs.Ytakcepffodipfaa.P
open Go.RowKit Go.Proofs.YtakcepffodipfaaW.PrintWords Go.Proofs.YtakcepffodipfaaW.PrintLast Go.Proofs.YtakcepffodipfaaW.PrintMore
attribute [local go_sem] max2_int min2_int max_two min_two max_three min_three max_four min_four   -- for this text's walks alone
set_option linter.unusedVariables false
set_option linter.unusedSimpArgs false
theorem run_Add64 (x y c : Int) (hx : 0 ≤ x) (hy : 0 ≤ y) (hc0 : 0 ≤ c) (hc : c ≤ 1) (w : World) :
    (callFunc 46 #[.int .u64 x, .int .u64 y, .int .u64 c]).run Try.prog w =
      .ok (.value (.tuple #[.int .u64 ((x + y + c) % 18446744073709551616), .int .u64 ((x + y + c) / 18446744073709551616)])) w := by
  rw [run_callFunc_extern Try.func46 (by kernel_rfl) (by kernel_rfl) (by kernel_rfl) (e := add64Entry) (by kernel_rfl), run_add64 x y c hx hy hc0 hc]
  rfl
set_option maxHeartbeats 8000000 in
set_option maxRecDepth 100000 in
/-- w.add where it does not run over. -/
theorem blend_wide.add_ok (u v a b : Int) (h0 : 0 ≤ u) (l0 : 0 ≤ v) (l1 : v < 18446744073709551616) (a0 : 0 ≤ a) (a1 : a < 18446744073709551616) (b0 : 0 ≤ b) (b1 : b < 18446744073709551616)
    (ok : u * 18446744073709551616 + v + a * b < 340282366920938463463374607431768211456) (w : World) :
    Calls Try.prog 32 #[.agg #[.int .u64 u, .int .u64 v], .int .u64 a, .int .u64 b] w fun e w' =>
      e = .returned (.agg #[.int .u64 ((u * 18446744073709551616 + v + a * b) / 18446744073709551616), .int .u64 ((u * 18446744073709551616 + v + a * b) % 18446744073709551616)]) ∧ Below w.heap.size w w' := by
  have hm : money_Mul.f a b = some (a * b / 18446744073709551616, a * b % 18446744073709551616) := by
    unfold money_Mul.f bits_Mul64.f
    rw [if_pos ⟨a0, a1, b0, b1⟩]; rfl
  obtain ⟨P, hP⟩ : ∃ P, P = a * b := ⟨_, rfl⟩
  have hP0 : 0 ≤ P := hP ▸ Int.mul_nonneg a0 b0
  rw [← hP] at hm ok ⊢
  obtain ⟨p, hp⟩ : ∃ p, p = P / 18446744073709551616 := ⟨_, rfl⟩
  obtain ⟨q, hq⟩ : ∃ q, q = P % 18446744073709551616 := ⟨_, rfl⟩
  obtain ⟨c, hc⟩ : ∃ c, c = (v + q + 0) / 18446744073709551616 := ⟨_, rfl⟩
  obtain ⟨X, hX⟩ : ∃ X, X = (u * 18446744073709551616 + v + P) / 18446744073709551616 := ⟨_, rfl⟩
  obtain ⟨Y, hY⟩ : ∃ Y, Y = (u * 18446744073709551616 + v + P) % 18446744073709551616 := ⟨_, rfl⟩
  have e1 := run_Add64 v q 0 l0 (by omega) (by omega) (by omega)
  have e2 := run_Add64 u p c h0 (by omega) (by omega) (by omega)
  have e3 : (u + p + c) / 18446744073709551616 = 0 := by omega
  have q1 : (u + p + c) % 18446744073709551616 = X := by omega
  have q2 : (v + q + 0) % 18446744073709551616 = Y := by omega
  rw [e3, q1] at e2
  rw [q2, ← hc] at e1
  rw [← hX, ← hY]
  rw [← hp, ← hq] at hm
  have HM := Aside0.mk hm
  clear hm q1 q2 e3 hP hP0 ok a0 a1 b0 b1 l1 hp hq hc hX hY h0 l0
  go_enter Try.func32, Try.ntmps32
  have hu := Try.underlying62
  have HB := Aside0.mk (Below.refl w.heap.size w)
  go_wp2_with (first | ((with_reducible refine gate_dst (N := 3) rfl ?_); refine box_event ?hg (N := 3) ?hd (cs := #[.int .u64 u, .int .u64 v]) (t := 62) ?hr ?_; (case hd => rfl); (case hg => rfl); (case hr => first | (go_simp; done) | (go_simp; rfl)); intro gb135 hg w7 hbox hb; have n0_ := Aside0.mk (below_step (by exact h0q HB.out) hb); have n1_ := Aside0.mk (hbox); have n2_ := Aside0.mk ((by rw [hg]; exact (below_size (by exact h0q HB.out)) : w.heap.size ≤ gb135)); have n3_ := Aside0.mk ((by rw [hg]; exact (below_size (by exact h0q HB.out)) : w.heap.size ≤ gb135)); clear HB; have HB := n0_; have BK135 := n1_; have GW135 := n2_; have GE135 := n3_; clear n0_ n1_ n2_ n3_; clear hb hbox hg) | ((with_reducible refine gate_dst (N := 6) rfl ?_); refine box_event ?hg (N := 6) ?hd (cs := #[.int .u64 0, .int .u64 0]) (t := 62) ?hr ?_; (case hd => rfl); (case hg => rfl); (case hr => first | (go_simp; done) | (go_simp; rfl)); intro gb136 hg w8 hbox hb; have n0_ := Aside0.mk (blk_below (g := gb135) (Up.up BK135.out) hb); have n1_ := Aside0.mk (below_step (by exact h1q HB.out GE135.out) hb); have n2_ := Aside0.mk (hbox); have n3_ := Aside0.mk ((by rw [hg]; exact (below_size (by exact h1q HB.out GE135.out)) : w.heap.size ≤ gb136)); have n4_ := Aside0.mk ((by rw [hg]; exact (below_size (by exact h1q HB.out GE135.out)) : w.heap.size ≤ gb136)); have n5_ := Aside0.mk ((by rw [hg]; exact Nat.ne_of_lt (blk_lt (g := gb135) (Up.up BK135.out)) : gb135 ≠ gb136)); have n6_ := Aside0.mk ((by rw [hg]; exact Nat.ne_of_gt (blk_lt (g := gb135) (Up.up BK135.out)) : gb136 ≠ gb135)); clear BK135; clear HB; have BK135 := n0_; have HB := n1_; have BK136 := n2_; have GW136 := n3_; have GE136 := n4_; have NB135_136 := n5_; have NB136_135 := n6_; clear n0_ n1_ n2_ n3_ n4_ n5_ n6_; clear hb hbox hg) | ((with_reducible refine gate_callee (f := 45) rfl ?_); refine goesL_ (some 13) rfl rfl Try.func45 (by kernel_rfl) rfl #[.int .u64 a, .int .u64 b] rfl (by (try simp only [List.map_toArray, List.map_cons, List.map_nil]); first | done | rfl | (simp only [List.length_drop, List.length_take]; rfl)) ?_; (with_reducible refine (money_Mul.calls a b _ _ _ HM.out).mono ?_); rintro e w' ⟨rfl, ⟨nd, rfl⟩⟩; refine ⟨_, rfl, ?_⟩; (try (rw [drewN_self w8]; generalize hq_ : World.drewN w8 _ = w8; have n0_ : Aside0 (w8.heap[gb135]? = some (.cells #[.int .u64 u, .int .u64 v] 62 (0, 0))) := ⟨by rw [← hq_]; exact (Up.up BK135.out)⟩; have n1_ : Aside0 (w8.heap[gb136]? = some (.cells #[.int .u64 0, .int .u64 0] 62 (0, 0))) := ⟨by rw [← hq_]; exact (Up.up BK136.out)⟩; have n2_ : Aside0 (Below w.heap.size w w8) := ⟨by rw [← hq_]; exact (by exact h2q HB.out GE135.out GE136.out)⟩; clear BK135 BK136 HB hq_; have BK135 := n0_; have BK136 := n1_; have HB := n2_; clear n0_ n1_ n2_)); have hnb9 := NB135_136.out; have hnc9 := NB136_135.out; have hcz10_0 : w8.cell? ⟨gb135, 0, none⟩ = some (.int .u64 u) := (blk_cell BK135.out 0).trans rfl; have hcz10_1 : w8.cell? ⟨gb135, 1, none⟩ = some (.int .u64 v) := (blk_cell BK135.out 1).trans rfl; have hfz10_0 := blk_frozen BK135.out 0; have hfz10_1 := blk_frozen BK135.out 1; have hczr_0 : w8.cell? ⟨gb136, 0, none⟩ = some (.int .u64 0) := (blk_cell BK136.out 0).trans rfl; have hczr_1 : w8.cell? ⟨gb136, 1, none⟩ = some (.int .u64 0) := (blk_cell BK136.out 1).trans rfl; have hfzr_0 := blk_frozen BK136.out 0; have hfzr_1 := blk_frozen BK136.out 1))
  refine bodyPost_ret (results_cell_row rfl _ _ gb136 62 #[.int .u64 X, .int .u64 Y] (0, 0) _ rfl (by (with_reducible repeat (first | refine blk_drewN ?_ _ | refine blk_drew ?_ | refine blk_alloc ?_ _)); refine blk_put (cs := #[.int .u64 X, .int .u64 0]) ?_ 1 _ rfl; (with_reducible repeat (first | refine blk_drewN ?_ _ | refine blk_drew ?_ | refine blk_alloc ?_ _)); refine blk_put (cs := #[.int .u64 0, .int .u64 0]) ?_ 0 _ rfl; (with_reducible repeat (first | refine blk_drewN ?_ _ | refine blk_drew ?_ | refine blk_alloc ?_ _)); exact BK136.out) Try.underlying62 rfl (by kernel_rfl)) rfl ?_
  exact ⟨by first | rfl | (simp [errW_none, errW_some] <;> rfl) | (simp [*, errW_none, errW_some] <;> rfl), by exact h2q HB.out GE135.out GE136.out⟩
end Go.Proofs.Ytakcepffodipfaa.P
