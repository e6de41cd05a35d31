/- Functions of the program as plain Lean functions, and proofs that its calls come to just their answers, where they tell one (written by a program of this session). -/
import Derived.Test.YteemomncbcpdjaaZaa
import Derived.Test.YteemomncbcpdjaaPx0
import Derived.Test.YteemomncbcpdjaaPx8
import Derived.Test.YteemomncbcpdjaaPx9
import Derived.Test.YteemomncbcpdjaaPx16
namespace Go.Proofs.Yteemomncbcpdjaa.P
open Go.RowKit Go.Proofs.YteemomncbcpdjaaW.PrintWords Go.Proofs.YteemomncbcpdjaaW.PrintLast Go.Proofs.YteemomncbcpdjaaW.PrintMore
attribute [local go_sem] max2_int min2_int max_two min_two max_three min_three max_four min_four   -- for this text's walks alone
set_option linter.unusedVariables false
set_option linter.unusedSimpArgs false

/-! ### annuitylaw20_PayFirst: function 6 -/
mutual
def annuitylaw20_PayFirst.l0 : Nat → List (S43) → List (S43) → Int → Option (Bool)
 | 0, _, _, _ => none
 | k + 1, x0, x5, x8 => if x8 < (x0.length : Int) then (annuitylaw20_PayFirst.l1 k x0 x5 x8 0) else ((annuitylaw20_wakes.f k).bind fun t382 => (some t382))
def annuitylaw20_PayFirst.l1 : Nat → List (S43) → List (S43) → Int → Int → Option (Bool)
 | 0, _, _, _, _ => none
 | k + 1, x0, x5, x8, x9 => if x9 < (x0.length : Int) then (if 0 ≤ x8 then (if x8 < (x0.length : Int) then (if ((rd_T43 x0 x8).f8) = 0 then (if 0 ≤ x9 then (if ((rd_T43 x0 x9).f8) = 0 then (if ((rd_T43 x0 x8).f5) > ((rd_T43 x0 x9).f5) then (if x9 < (x5.length : Int) then (if (wrap64 (Int.tdiv ((rd_T43 x5 x9).f2) 1000000)) < (wrap64 (Int.tdiv ((rd_T43 x0 x9).f2) 1000000)) then (if x8 < (x5.length : Int) then (if ((rd_T43 x5 x8).f2) ≥ 1000000 then (none) else (if ((rd_T43 x5 x9).f1) < ((rd_T43 x0 x9).f1) then (if ((rd_T43 x5 x8).f1) > 0 then (none) else (annuitylaw20_PayFirst.j2 k x0 x5 x8 x9)) else (annuitylaw20_PayFirst.j2 k x0 x5 x8 x9))) else (none)) else (if ((rd_T43 x5 x9).f1) < ((rd_T43 x0 x9).f1) then (if x8 < (x5.length : Int) then (if ((rd_T43 x5 x8).f1) > 0 then (none) else (annuitylaw20_PayFirst.j2 k x0 x5 x8 x9)) else (none)) else (annuitylaw20_PayFirst.j2 k x0 x5 x8 x9))) else (none)) else (annuitylaw20_PayFirst.j2 k x0 x5 x8 x9)) else (annuitylaw20_PayFirst.l1 k x0 x5 x8 (wrap64 (x9 + 1)))) else (none)) else (annuitylaw20_PayFirst.l1 k x0 x5 x8 (wrap64 (x9 + 1)))) else (none)) else (none)) else (annuitylaw20_PayFirst.l0 k x0 x5 (wrap64 (x8 + 1)))
def annuitylaw20_PayFirst.j2 : Nat → List (S43) → List (S43) → Int → Int → Option (Bool)
 | 0, _, _, _, _ => none
 | k + 1, x0, x5, x8, x9 => if 0 ≤ x8 then (if x8 < (x0.length : Int) then (if 0 ≤ x9 then (if x9 < (x0.length : Int) then (if ((rd_T43 x0 x8).f0) < ((rd_T43 x0 x9).f0) then (if x9 < (x5.length : Int) then (if ((rd_T43 x5 x9).f4) < ((rd_T43 x0 x9).f4) then (if x8 < (x5.length : Int) then (if ((rd_T43 x5 x8).f4) > 0 then (none) else (annuitylaw20_PayFirst.l1 k x0 x5 x8 (wrap64 (x9 + 1)))) else (none)) else (annuitylaw20_PayFirst.l1 k x0 x5 x8 (wrap64 (x9 + 1)))) else (none)) else (annuitylaw20_PayFirst.l1 k x0 x5 x8 (wrap64 (x9 + 1)))) else (none)) else (none)) else (none)) else (none)
end
def annuitylaw20_PayFirst.f (k : Nat) (l0 : List (S43)) (a1 : Int) : Option (Bool) := if (l0.length : Int) > 16 then ((annuitylaw20_wakes.f k).bind fun t368 => (some t368)) else ((annuitykeep_CopyLoans.f l0).bind fun t369 => ((pay_All.f k t369 a1).bind fun bt372 => (if bt372.2.2.2.2.2 = 0 then (if (bt372.1.length : Int) = (l0.length : Int) then (annuitylaw20_PayFirst.l0 k l0 bt372.1 0) else (none)) else (if bt372.2.2.2.2.1 = 0 then ((annuitylaw20_wakes.f k).bind fun t381 => (some t381)) else (none)))))
set_option maxHeartbeats 8000000 in
set_option maxRecDepth 100000 in
theorem annuitylaw20_PayFirst.calls (k : Nat) (A0 : Option Addr) (c0 : Nat) (l0 : List (S43)) (a1 : Int) (r : Bool) (w : World) (hr0 : Kd.C k43 w A0 l0.length l0) (hc0 : l0.length ≤ c0) (h : annuitylaw20_PayFirst.f k l0 a1 = some r) :
  Calls Try.prog 6 #[.slice A0 l0.length c0, .int .i64 a1] w fun e w' => e = .returned (.bool r) ∧ Below w.heap.size w w' := by
 have hu26 := Try.underlying26
 have HR0 := Aside0.mk hr0
 have HC0 := Aside0.mk hc0
 clear hr0 hc0
 have HB := Aside0.mk (Below.refl w.heap.size w)
 have H : (if (l0.length : Int) > 16 then ((annuitylaw20_wakes.f k).bind fun t368 => (some t368)) else ((annuitykeep_CopyLoans.f l0).bind fun t369 => ((pay_All.f k t369 a1).bind fun bt372 => (if bt372.2.2.2.2.2 = 0 then (if (bt372.1.length : Int) = (l0.length : Int) then (annuitylaw20_PayFirst.l0 k l0 bt372.1 0) else (none)) else (if bt372.2.2.2.2.1 = 0 then ((annuitylaw20_wakes.f k).bind fun t381 => (some t381)) else (none)))))) = some r := h
 clear h
 by_cases c3 : (l0.length : Int) > 16
 ·rw [if_pos c3] at H
  have c3b0 : decide (16 < (l0.length : Int)) = true := decide_eq_true c3
  have c3b1 : decide (16 < l0.length) = true := decide_eq_true (by omega)
  clear c3
  replace H := Option.bind_eq_some_iff.mp H
  obtain ⟨t368, A40, H⟩ := H
  replace H : (some t368) = some r := H
  have A4 := Aside0.mk A40
  clear A40
  obtain rfl := Option.some.inj H
  go_enter Try.func6, Try.ntmps6
  go_wp2_with (first | (go_at_call 7; (with_reducible refine (annuitylaw20_wakes.calls k  t368 _ A4.out).mono ?_); rintro e w5 ⟨rfl, hb⟩; have n0_ := Aside0.mk (below_step (by exact h0q HB.out) hb); clear HB; have HB := n0_; clear n0_; (try clear hb); (try clear hb2); (try clear hk); (try clear hi)))
  repeat (go_quiet (first | (go_at_call 7; (first | (with_reducible refine (annuitylaw20_wakes.calls k  t368 _ A4.out).mono ?_) | (simp only [i64_w, i32_w]; with_reducible refine (annuitylaw20_wakes.calls k  t368 _ A4.out).mono ?_)); rintro e w5 ⟨rfl, hb⟩; have n0_ := Aside0.mk (below_step (by exact h0q HB.out) hb); clear HB; have HB := n0_; clear n0_; (try clear hb); (try clear hb2); (try clear hk); (try clear hi))); try go_wp2_with (first | (go_at_call 7; (first | (with_reducible refine (annuitylaw20_wakes.calls k  t368 _ A4.out).mono ?_) | (simp only [i64_w, i32_w]; with_reducible refine (annuitylaw20_wakes.calls k  t368 _ A4.out).mono ?_)); rintro e w5 ⟨rfl, hb⟩; have n0_ := Aside0.mk (below_step (by exact h0q HB.out) hb); clear HB; have HB := n0_; clear n0_; (try clear hb); (try clear hb2); (try clear hk); (try clear hi))))
  go_ret
  exact ⟨by first | rfl | (simp [i64_w, i32_w, errW_none, errW_some]; done) | (simp [errW_none, errW_some] <;> rfl) | (simp [*, errW_none, errW_some] <;> rfl), by exact h0q HB.out⟩
 rw [if_neg c3] at H
 have c3b0 : decide (16 < (l0.length : Int)) = false := decide_eq_false c3
 have c3b1 : decide (16 < l0.length) = false := decide_eq_false (by omega)
 clear c3
 replace H := Option.bind_eq_some_iff.mp H
 obtain ⟨t369, A60, H⟩ := H
 replace H : ((pay_All.f k t369 a1).bind fun bt372 => (if bt372.2.2.2.2.2 = 0 then (if (bt372.1.length : Int) = (l0.length : Int) then (annuitylaw20_PayFirst.l0 k l0 bt372.1 0) else (none)) else (if bt372.2.2.2.2.1 = 0 then ((annuitylaw20_wakes.f k).bind fun t381 => (some t381)) else (none)))) = some r := H
 have A6 := Aside0.mk A60
 clear A60
 replace H := Option.bind_eq_some_iff.mp H
 obtain ⟨⟨t372, t375, t376, t377, t378, t379⟩, A70, H⟩ := H
 replace H : (if t379 = 0 then (if (t372.length : Int) = (l0.length : Int) then (annuitylaw20_PayFirst.l0 k l0 t372 0) else (none)) else (if t378 = 0 then ((annuitylaw20_wakes.f k).bind fun t381 => (some t381)) else (none))) = some r := H
 have A7 := Aside0.mk A70
 clear A70
 by_cases c8 : t379 = 0
 case neg =>
  rw [if_neg c8] at H
  have c8b0 : (t379 == 0) = false := beq_eq_false_iff_ne.mpr c8
  have c8b1 : (t379 != 0) = true := bne_iff_ne.mpr c8
  by_cases c45 : t378 = 0
  case neg =>
   rw [if_neg c45] at H
   exact absurd H (by simp)

  rw [if_pos c45] at H
  have c45b0 : (t378 == 0) = true := beq_iff_eq.mpr c45
  have c45b1 : (t378 != 0) = false := bne_eq_false_iff_eq.mpr c45
  clear c45
  replace H := Option.bind_eq_some_iff.mp H
  obtain ⟨t381, A460, H⟩ := H
  replace H : (some t381) = some r := H
  have A46 := Aside0.mk A460
  clear A460
  obtain rfl := Option.some.inj H
  go_enter Try.func6, Try.ntmps6
  go_wp2_with (first | (go_at_call 8; (with_reducible refine (annuitykeep_CopyLoans.calls _ _ l0 t369 _ ?side1 ?side2 A6.out).mono ?_); (case side1 => repeat (first | exact HR0.out | (with_reducible refine Kd.C_alloc ?_ _) | (with_reducible refine Kd.C_drewN ?_ _) | (with_reducible refine Kd.C_drew ?_))); (case side2 => exact HC0.out); rintro e w47 ⟨v370, rfl, ho0, hb⟩; have n0_ := Aside0.mk (Kd.R_lower ho0 (below_size (by exact h0q HB.out))); have n1_ := Aside0.mk (below_step (by exact h0q HB.out) hb); clear HB; have HO371 := n0_; have HB := n1_; clear n0_ n1_; (try clear hb); (try clear hb2); (try clear hk); (try clear hi); (try clear ho0); obtain ⟨Ao48, co48, eo48⟩ := Kd.R_slice HO371.out; subst eo48) | (go_at_call 9; (with_reducible refine (pay_All.calls k _ _ t369 a1 t372 t375 t376 t377 t378 t379 _ ?side1 ?side2 A7.out).mono ?_); (case side1 => repeat (first | exact (Kd.R_reads' HO371.out).2.2 | (with_reducible refine Kd.C_alloc ?_ _) | (with_reducible refine Kd.C_drewN ?_ _) | (with_reducible refine Kd.C_drew ?_))); (case side2 => exact (Kd.R_reads' HO371.out).2.1); rintro e w49 ⟨v373, rfl, ho0, hb⟩; have n0_ := Aside0.mk (Kd.R_elder' (by exact rq HO371.out) (Kd.R_base ho0) hb); have n1_ := Aside0.mk (Kd.R_lower (Kd.R_new' ho0 (Kd.R_lt (by exact rq HO371.out))) (below_size (by exact h0q HB.out))); have n2_ := Aside0.mk (below_step (by exact h0q HB.out) hb); clear HO371; clear HB; have HO371 := n0_; have HO374 := n1_; have HB := n2_; clear n0_ n1_ n2_; (try clear hb); (try clear hb2); (try clear hk); (try clear hi); (try clear ho0)) | ((with_reducible refine gate_dst (N := 6) rfl ?_); refine box_event ?hg (N := 6) ?hd (cs := #[.int .i64 0, .int .i64 0, .int .i64 0, .int .i64 0]) (t := 26) ?hr ?_; (case hd => rfl); (case hg => rfl); (case hr => first | (go_simp; done) | (go_simp; rfl)); intro gb380 hg w50 hbox hb; have n0_ := Aside0.mk (Kd.R_below (by exact rq HO371.out) hb); have n1_ := Aside0.mk (Kd.R_below (by exact rq HO374.out) hb); have n2_ := Aside0.mk (below_step (by exact h0q HB.out) hb); have n3_ := Aside0.mk (hbox); have n4_ := Aside0.mk ((by rw [hg]; exact (below_size (by exact h0q HB.out)) : w.heap.size ≤ gb380)); have n5_ := Aside0.mk ((by rw [hg]; exact (below_size (by exact h0q HB.out)) : w.heap.size ≤ gb380)); clear HO371; clear HO374; clear HB; have HO371 := n0_; have HO374 := n1_; have HB := n2_; have BK380 := n3_; have GW380 := n4_; have GE380 := n5_; clear n0_ n1_ n2_ n3_ n4_ n5_; clear hb hbox hg; have hcz51_0 : w50.cell? ⟨gb380, 0, none⟩ = some (.int .i64 0) := (blk_cell BK380.out 0).trans rfl; have hcz51_1 : w50.cell? ⟨gb380, 1, none⟩ = some (.int .i64 0) := (blk_cell BK380.out 1).trans rfl; have hcz51_2 : w50.cell? ⟨gb380, 2, none⟩ = some (.int .i64 0) := (blk_cell BK380.out 2).trans rfl; have hcz51_3 : w50.cell? ⟨gb380, 3, none⟩ = some (.int .i64 0) := (blk_cell BK380.out 3).trans rfl; have hfz51_0 := blk_frozen BK380.out 0; have hfz51_1 := blk_frozen BK380.out 1; have hfz51_2 := blk_frozen BK380.out 2; have hfz51_3 := blk_frozen BK380.out 3) | (go_at_call 7; (with_reducible refine (annuitylaw20_wakes.calls k  t381 _ A46.out).mono ?_); rintro e w52 ⟨rfl, hb⟩; have n0_ := Aside0.mk (Kd.R_below (by (with_reducible repeat (first | apply Kd.R_alloc | apply Kd.R_drewN | apply Kd.R_drew)); exact (Kd.R_mono (Kd.R_far (p := ⟨gb380, 3, none⟩) (Kd.R_far (p := ⟨gb380, 2, none⟩) (Kd.R_far (p := ⟨gb380, 1, none⟩) (Kd.R_far (p := ⟨gb380, 0, none⟩) (Kd.R_types HO371.out BK380.out (by decide)) (fun _ hk => hk.2) (.int .i64 t375)) (fun _ hk => hk.2) (.int .i64 t376)) (fun _ hk => hk.2) (.int .i64 t377)) (fun _ hk => hk.2) (.int .i64 t378)) (fun _ h_ => h_.1))) hb); have n1_ := Aside0.mk (Kd.R_below (by (with_reducible repeat (first | apply Kd.R_alloc | apply Kd.R_drewN | apply Kd.R_drew)); exact (Kd.R_mono (Kd.R_far (p := ⟨gb380, 3, none⟩) (Kd.R_far (p := ⟨gb380, 2, none⟩) (Kd.R_far (p := ⟨gb380, 1, none⟩) (Kd.R_far (p := ⟨gb380, 0, none⟩) (Kd.R_types HO374.out BK380.out (by decide)) (fun _ hk => hk.2) (.int .i64 t375)) (fun _ hk => hk.2) (.int .i64 t376)) (fun _ hk => hk.2) (.int .i64 t377)) (fun _ hk => hk.2) (.int .i64 t378)) (fun _ h_ => h_.1))) hb); have n2_ := Aside0.mk (blk_below (g := gb380) (o := .cells #[.int .i64 t375, .int .i64 t376, .int .i64 t377, .int .i64 t378] 26 (0, 0)) (by (with_reducible repeat (first | refine blk_drewN ?_ _ | refine blk_drew ?_ | refine blk_alloc ?_ _)); refine blk_put (cs := #[.int .i64 t375, .int .i64 t376, .int .i64 t377, .int .i64 0]) ?_ 3 _ rfl; (with_reducible repeat (first | refine blk_drewN ?_ _ | refine blk_drew ?_ | refine blk_alloc ?_ _)); refine blk_put (cs := #[.int .i64 t375, .int .i64 t376, .int .i64 0, .int .i64 0]) ?_ 2 _ rfl; (with_reducible repeat (first | refine blk_drewN ?_ _ | refine blk_drew ?_ | refine blk_alloc ?_ _)); refine blk_put (cs := #[.int .i64 t375, .int .i64 0, .int .i64 0, .int .i64 0]) ?_ 1 _ rfl; (with_reducible repeat (first | refine blk_drewN ?_ _ | refine blk_drew ?_ | refine blk_alloc ?_ _)); refine blk_put (cs := #[.int .i64 0, .int .i64 0, .int .i64 0, .int .i64 0]) ?_ 0 _ rfl; (with_reducible repeat (first | refine blk_drewN ?_ _ | refine blk_drew ?_ | refine blk_alloc ?_ _)); exact BK380.out) hb); have n3_ := Aside0.mk (below_step (by exact h1q HB.out GE380.out) hb); clear HO371; clear HO374; clear BK380; clear HB; have HO371 := n0_; have HO374 := n1_; have BK380 := n2_; have HB := n3_; clear n0_ n1_ n2_ n3_; (try clear hb); (try clear hb2); (try clear hk); (try clear hi)))
  repeat (go_quiet (first | (go_at_call 8; (first | (with_reducible refine (annuitykeep_CopyLoans.calls _ _ l0 t369 _ ?side1 ?side2 A6.out).mono ?_) | (simp only [i64_w, i32_w]; with_reducible refine (annuitykeep_CopyLoans.calls _ _ l0 t369 _ ?side1 ?side2 A6.out).mono ?_)); (case side1 => repeat (first | exact HR0.out | (with_reducible refine Kd.C_alloc ?_ _) | (with_reducible refine Kd.C_drewN ?_ _) | (with_reducible refine Kd.C_drew ?_))); (case side2 => exact HC0.out); rintro e w47 ⟨v370, rfl, ho0, hb⟩; have n0_ := Aside0.mk (Kd.R_lower ho0 (below_size (by exact h0q HB.out))); have n1_ := Aside0.mk (below_step (by exact h0q HB.out) hb); clear HB; have HO371 := n0_; have HB := n1_; clear n0_ n1_; (try clear hb); (try clear hb2); (try clear hk); (try clear hi); (try clear ho0); obtain ⟨Ao48, co48, eo48⟩ := Kd.R_slice HO371.out; subst eo48) | (go_at_call 9; (first | (with_reducible refine (pay_All.calls k _ _ t369 a1 t372 t375 t376 t377 t378 t379 _ ?side1 ?side2 A7.out).mono ?_) | (simp only [i64_w, i32_w]; with_reducible refine (pay_All.calls k _ _ t369 a1 t372 t375 t376 t377 t378 t379 _ ?side1 ?side2 A7.out).mono ?_)); (case side1 => repeat (first | exact (Kd.R_reads' HO371.out).2.2 | (with_reducible refine Kd.C_alloc ?_ _) | (with_reducible refine Kd.C_drewN ?_ _) | (with_reducible refine Kd.C_drew ?_))); (case side2 => exact (Kd.R_reads' HO371.out).2.1); rintro e w49 ⟨v373, rfl, ho0, hb⟩; have n0_ := Aside0.mk (Kd.R_elder' (by exact rq HO371.out) (Kd.R_base ho0) hb); have n1_ := Aside0.mk (Kd.R_lower (Kd.R_new' ho0 (Kd.R_lt (by exact rq HO371.out))) (below_size (by exact h0q HB.out))); have n2_ := Aside0.mk (below_step (by exact h0q HB.out) hb); clear HO371; clear HB; have HO371 := n0_; have HO374 := n1_; have HB := n2_; clear n0_ n1_ n2_; (try clear hb); (try clear hb2); (try clear hk); (try clear hi); (try clear ho0)) | ((with_reducible refine gate_dst (N := 6) rfl ?_); refine box_event ?hg (N := 6) ?hd (cs := #[.int .i64 0, .int .i64 0, .int .i64 0, .int .i64 0]) (t := 26) ?hr ?_; (case hd => rfl); (case hg => rfl); (case hr => first | (go_simp; done) | (go_simp; rfl)); intro gb380 hg w50 hbox hb; have n0_ := Aside0.mk (Kd.R_below (by exact rq HO371.out) hb); have n1_ := Aside0.mk (Kd.R_below (by exact rq HO374.out) hb); have n2_ := Aside0.mk (below_step (by exact h0q HB.out) hb); have n3_ := Aside0.mk (hbox); have n4_ := Aside0.mk ((by rw [hg]; exact (below_size (by exact h0q HB.out)) : w.heap.size ≤ gb380)); have n5_ := Aside0.mk ((by rw [hg]; exact (below_size (by exact h0q HB.out)) : w.heap.size ≤ gb380)); clear HO371; clear HO374; clear HB; have HO371 := n0_; have HO374 := n1_; have HB := n2_; have BK380 := n3_; have GW380 := n4_; have GE380 := n5_; clear n0_ n1_ n2_ n3_ n4_ n5_; clear hb hbox hg; have hcz51_0 : w50.cell? ⟨gb380, 0, none⟩ = some (.int .i64 0) := (blk_cell BK380.out 0).trans rfl; have hcz51_1 : w50.cell? ⟨gb380, 1, none⟩ = some (.int .i64 0) := (blk_cell BK380.out 1).trans rfl; have hcz51_2 : w50.cell? ⟨gb380, 2, none⟩ = some (.int .i64 0) := (blk_cell BK380.out 2).trans rfl; have hcz51_3 : w50.cell? ⟨gb380, 3, none⟩ = some (.int .i64 0) := (blk_cell BK380.out 3).trans rfl; have hfz51_0 := blk_frozen BK380.out 0; have hfz51_1 := blk_frozen BK380.out 1; have hfz51_2 := blk_frozen BK380.out 2; have hfz51_3 := blk_frozen BK380.out 3) | (go_at_call 7; (first | (with_reducible refine (annuitylaw20_wakes.calls k  t381 _ A46.out).mono ?_) | (simp only [i64_w, i32_w]; with_reducible refine (annuitylaw20_wakes.calls k  t381 _ A46.out).mono ?_)); rintro e w52 ⟨rfl, hb⟩; have n0_ := Aside0.mk (Kd.R_below (by (with_reducible repeat (first | apply Kd.R_alloc | apply Kd.R_drewN | apply Kd.R_drew)); exact (Kd.R_mono (Kd.R_far (p := ⟨gb380, 3, none⟩) (Kd.R_far (p := ⟨gb380, 2, none⟩) (Kd.R_far (p := ⟨gb380, 1, none⟩) (Kd.R_far (p := ⟨gb380, 0, none⟩) (Kd.R_types HO371.out BK380.out (by decide)) (fun _ hk => hk.2) (.int .i64 t375)) (fun _ hk => hk.2) (.int .i64 t376)) (fun _ hk => hk.2) (.int .i64 t377)) (fun _ hk => hk.2) (.int .i64 t378)) (fun _ h_ => h_.1))) hb); have n1_ := Aside0.mk (Kd.R_below (by (with_reducible repeat (first | apply Kd.R_alloc | apply Kd.R_drewN | apply Kd.R_drew)); exact (Kd.R_mono (Kd.R_far (p := ⟨gb380, 3, none⟩) (Kd.R_far (p := ⟨gb380, 2, none⟩) (Kd.R_far (p := ⟨gb380, 1, none⟩) (Kd.R_far (p := ⟨gb380, 0, none⟩) (Kd.R_types HO374.out BK380.out (by decide)) (fun _ hk => hk.2) (.int .i64 t375)) (fun _ hk => hk.2) (.int .i64 t376)) (fun _ hk => hk.2) (.int .i64 t377)) (fun _ hk => hk.2) (.int .i64 t378)) (fun _ h_ => h_.1))) hb); have n2_ := Aside0.mk (blk_below (g := gb380) (o := .cells #[.int .i64 t375, .int .i64 t376, .int .i64 t377, .int .i64 t378] 26 (0, 0)) (by (with_reducible repeat (first | refine blk_drewN ?_ _ | refine blk_drew ?_ | refine blk_alloc ?_ _)); refine blk_put (cs := #[.int .i64 t375, .int .i64 t376, .int .i64 t377, .int .i64 0]) ?_ 3 _ rfl; (with_reducible repeat (first | refine blk_drewN ?_ _ | refine blk_drew ?_ | refine blk_alloc ?_ _)); refine blk_put (cs := #[.int .i64 t375, .int .i64 t376, .int .i64 0, .int .i64 0]) ?_ 2 _ rfl; (with_reducible repeat (first | refine blk_drewN ?_ _ | refine blk_drew ?_ | refine blk_alloc ?_ _)); refine blk_put (cs := #[.int .i64 t375, .int .i64 0, .int .i64 0, .int .i64 0]) ?_ 1 _ rfl; (with_reducible repeat (first | refine blk_drewN ?_ _ | refine blk_drew ?_ | refine blk_alloc ?_ _)); refine blk_put (cs := #[.int .i64 0, .int .i64 0, .int .i64 0, .int .i64 0]) ?_ 0 _ rfl; (with_reducible repeat (first | refine blk_drewN ?_ _ | refine blk_drew ?_ | refine blk_alloc ?_ _)); exact BK380.out) hb); have n3_ := Aside0.mk (below_step (by exact h1q HB.out GE380.out) hb); clear HO371; clear HO374; clear BK380; clear HB; have HO371 := n0_; have HO374 := n1_; have BK380 := n2_; have HB := n3_; clear n0_ n1_ n2_ n3_; (try clear hb); (try clear hb2); (try clear hk); (try clear hi))); try go_wp2_with (first | (go_at_call 8; (first | (with_reducible refine (annuitykeep_CopyLoans.calls _ _ l0 t369 _ ?side1 ?side2 A6.out).mono ?_) | (simp only [i64_w, i32_w]; with_reducible refine (annuitykeep_CopyLoans.calls _ _ l0 t369 _ ?side1 ?side2 A6.out).mono ?_)); (case side1 => repeat (first | exact HR0.out | (with_reducible refine Kd.C_alloc ?_ _) | (with_reducible refine Kd.C_drewN ?_ _) | (with_reducible refine Kd.C_drew ?_))); (case side2 => exact HC0.out); rintro e w47 ⟨v370, rfl, ho0, hb⟩; have n0_ := Aside0.mk (Kd.R_lower ho0 (below_size (by exact h0q HB.out))); have n1_ := Aside0.mk (below_step (by exact h0q HB.out) hb); clear HB; have HO371 := n0_; have HB := n1_; clear n0_ n1_; (try clear hb); (try clear hb2); (try clear hk); (try clear hi); (try clear ho0); obtain ⟨Ao48, co48, eo48⟩ := Kd.R_slice HO371.out; subst eo48) | (go_at_call 9; (first | (with_reducible refine (pay_All.calls k _ _ t369 a1 t372 t375 t376 t377 t378 t379 _ ?side1 ?side2 A7.out).mono ?_) | (simp only [i64_w, i32_w]; with_reducible refine (pay_All.calls k _ _ t369 a1 t372 t375 t376 t377 t378 t379 _ ?side1 ?side2 A7.out).mono ?_)); (case side1 => repeat (first | exact (Kd.R_reads' HO371.out).2.2 | (with_reducible refine Kd.C_alloc ?_ _) | (with_reducible refine Kd.C_drewN ?_ _) | (with_reducible refine Kd.C_drew ?_))); (case side2 => exact (Kd.R_reads' HO371.out).2.1); rintro e w49 ⟨v373, rfl, ho0, hb⟩; have n0_ := Aside0.mk (Kd.R_elder' (by exact rq HO371.out) (Kd.R_base ho0) hb); have n1_ := Aside0.mk (Kd.R_lower (Kd.R_new' ho0 (Kd.R_lt (by exact rq HO371.out))) (below_size (by exact h0q HB.out))); have n2_ := Aside0.mk (below_step (by exact h0q HB.out) hb); clear HO371; clear HB; have HO371 := n0_; have HO374 := n1_; have HB := n2_; clear n0_ n1_ n2_; (try clear hb); (try clear hb2); (try clear hk); (try clear hi); (try clear ho0)) | ((with_reducible refine gate_dst (N := 6) rfl ?_); refine box_event ?hg (N := 6) ?hd (cs := #[.int .i64 0, .int .i64 0, .int .i64 0, .int .i64 0]) (t := 26) ?hr ?_; (case hd => rfl); (case hg => rfl); (case hr => first | (go_simp; done) | (go_simp; rfl)); intro gb380 hg w50 hbox hb; have n0_ := Aside0.mk (Kd.R_below (by exact rq HO371.out) hb); have n1_ := Aside0.mk (Kd.R_below (by exact rq HO374.out) hb); have n2_ := Aside0.mk (below_step (by exact h0q HB.out) hb); have n3_ := Aside0.mk (hbox); have n4_ := Aside0.mk ((by rw [hg]; exact (below_size (by exact h0q HB.out)) : w.heap.size ≤ gb380)); have n5_ := Aside0.mk ((by rw [hg]; exact (below_size (by exact h0q HB.out)) : w.heap.size ≤ gb380)); clear HO371; clear HO374; clear HB; have HO371 := n0_; have HO374 := n1_; have HB := n2_; have BK380 := n3_; have GW380 := n4_; have GE380 := n5_; clear n0_ n1_ n2_ n3_ n4_ n5_; clear hb hbox hg; have hcz51_0 : w50.cell? ⟨gb380, 0, none⟩ = some (.int .i64 0) := (blk_cell BK380.out 0).trans rfl; have hcz51_1 : w50.cell? ⟨gb380, 1, none⟩ = some (.int .i64 0) := (blk_cell BK380.out 1).trans rfl; have hcz51_2 : w50.cell? ⟨gb380, 2, none⟩ = some (.int .i64 0) := (blk_cell BK380.out 2).trans rfl; have hcz51_3 : w50.cell? ⟨gb380, 3, none⟩ = some (.int .i64 0) := (blk_cell BK380.out 3).trans rfl; have hfz51_0 := blk_frozen BK380.out 0; have hfz51_1 := blk_frozen BK380.out 1; have hfz51_2 := blk_frozen BK380.out 2; have hfz51_3 := blk_frozen BK380.out 3) | (go_at_call 7; (first | (with_reducible refine (annuitylaw20_wakes.calls k  t381 _ A46.out).mono ?_) | (simp only [i64_w, i32_w]; with_reducible refine (annuitylaw20_wakes.calls k  t381 _ A46.out).mono ?_)); rintro e w52 ⟨rfl, hb⟩; have n0_ := Aside0.mk (Kd.R_below (by (with_reducible repeat (first | apply Kd.R_alloc | apply Kd.R_drewN | apply Kd.R_drew)); exact (Kd.R_mono (Kd.R_far (p := ⟨gb380, 3, none⟩) (Kd.R_far (p := ⟨gb380, 2, none⟩) (Kd.R_far (p := ⟨gb380, 1, none⟩) (Kd.R_far (p := ⟨gb380, 0, none⟩) (Kd.R_types HO371.out BK380.out (by decide)) (fun _ hk => hk.2) (.int .i64 t375)) (fun _ hk => hk.2) (.int .i64 t376)) (fun _ hk => hk.2) (.int .i64 t377)) (fun _ hk => hk.2) (.int .i64 t378)) (fun _ h_ => h_.1))) hb); have n1_ := Aside0.mk (Kd.R_below (by (with_reducible repeat (first | apply Kd.R_alloc | apply Kd.R_drewN | apply Kd.R_drew)); exact (Kd.R_mono (Kd.R_far (p := ⟨gb380, 3, none⟩) (Kd.R_far (p := ⟨gb380, 2, none⟩) (Kd.R_far (p := ⟨gb380, 1, none⟩) (Kd.R_far (p := ⟨gb380, 0, none⟩) (Kd.R_types HO374.out BK380.out (by decide)) (fun _ hk => hk.2) (.int .i64 t375)) (fun _ hk => hk.2) (.int .i64 t376)) (fun _ hk => hk.2) (.int .i64 t377)) (fun _ hk => hk.2) (.int .i64 t378)) (fun _ h_ => h_.1))) hb); have n2_ := Aside0.mk (blk_below (g := gb380) (o := .cells #[.int .i64 t375, .int .i64 t376, .int .i64 t377, .int .i64 t378] 26 (0, 0)) (by (with_reducible repeat (first | refine blk_drewN ?_ _ | refine blk_drew ?_ | refine blk_alloc ?_ _)); refine blk_put (cs := #[.int .i64 t375, .int .i64 t376, .int .i64 t377, .int .i64 0]) ?_ 3 _ rfl; (with_reducible repeat (first | refine blk_drewN ?_ _ | refine blk_drew ?_ | refine blk_alloc ?_ _)); refine blk_put (cs := #[.int .i64 t375, .int .i64 t376, .int .i64 0, .int .i64 0]) ?_ 2 _ rfl; (with_reducible repeat (first | refine blk_drewN ?_ _ | refine blk_drew ?_ | refine blk_alloc ?_ _)); refine blk_put (cs := #[.int .i64 t375, .int .i64 0, .int .i64 0, .int .i64 0]) ?_ 1 _ rfl; (with_reducible repeat (first | refine blk_drewN ?_ _ | refine blk_drew ?_ | refine blk_alloc ?_ _)); refine blk_put (cs := #[.int .i64 0, .int .i64 0, .int .i64 0, .int .i64 0]) ?_ 0 _ rfl; (with_reducible repeat (first | refine blk_drewN ?_ _ | refine blk_drew ?_ | refine blk_alloc ?_ _)); exact BK380.out) hb); have n3_ := Aside0.mk (below_step (by exact h1q HB.out GE380.out) hb); clear HO371; clear HO374; clear BK380; clear HB; have HO371 := n0_; have HO374 := n1_; have BK380 := n2_; have HB := n3_; clear n0_ n1_ n2_ n3_; (try clear hb); (try clear hb2); (try clear hk); (try clear hi))))
  go_ret
  exact ⟨by first | rfl | (simp [i64_w, i32_w, errW_none, errW_some]; done) | (simp [errW_none, errW_some] <;> rfl) | (simp [*, errW_none, errW_some] <;> rfl), by exact h1q HB.out GE380.out⟩
 rw [if_pos c8] at H
 have c8b0 : (t379 == 0) = true := beq_iff_eq.mpr c8
 have c8b1 : (t379 != 0) = false := bne_eq_false_iff_eq.mpr c8
 clear c8
 by_cases c9 : (t372.length : Int) = (l0.length : Int)
 case neg =>
  rw [if_neg c9] at H
  exact absurd H (by simp)
 rw [if_pos c9] at H
 have c9b0 : ((t372.length : Int) == (l0.length : Int)) = true := beq_iff_eq.mpr c9
 have c9b1 : ((t372.length : Int) != (l0.length : Int)) = false := bne_eq_false_iff_eq.mpr c9
 have c9b2 : (t372.length == l0.length) = true := by first | simpa using c9 | (simp at c9 ⊢; omega)
 clear c9
 have H' := Aside0.mk H
 clear H
 go_enter Try.func6, Try.ntmps6
 go_wp2_with (first | (go_at_call 8; (with_reducible refine (annuitykeep_CopyLoans.calls _ _ l0 t369 _ ?side1 ?side2 A6.out).mono ?_); (case side1 => repeat (first | exact HR0.out | (with_reducible refine Kd.C_alloc ?_ _) | (with_reducible refine Kd.C_drewN ?_ _) | (with_reducible refine Kd.C_drew ?_))); (case side2 => exact HC0.out); rintro e w10 ⟨v370, rfl, ho0, hb⟩; have n0_ := Aside0.mk (Kd.R_lower ho0 (below_size (by exact h0q HB.out))); have n1_ := Aside0.mk (below_step (by exact h0q HB.out) hb); clear HB; have HO371 := n0_; have HB := n1_; clear n0_ n1_; (try clear hb); (try clear hb2); (try clear hk); (try clear hi); (try clear ho0); obtain ⟨Ao11, co11, eo11⟩ := Kd.R_slice HO371.out; subst eo11) | (go_at_call 9; (with_reducible refine (pay_All.calls k _ _ t369 a1 t372 t375 t376 t377 t378 t379 _ ?side1 ?side2 A7.out).mono ?_); (case side1 => repeat (first | exact (Kd.R_reads' HO371.out).2.2 | (with_reducible refine Kd.C_alloc ?_ _) | (with_reducible refine Kd.C_drewN ?_ _) | (with_reducible refine Kd.C_drew ?_))); (case side2 => exact (Kd.R_reads' HO371.out).2.1); rintro e w12 ⟨v373, rfl, ho0, hb⟩; have n0_ := Aside0.mk (Kd.R_elder' (by exact rq HO371.out) (Kd.R_base ho0) hb); have n1_ := Aside0.mk (Kd.R_lower (Kd.R_new' ho0 (Kd.R_lt (by exact rq HO371.out))) (below_size (by exact h0q HB.out))); have n2_ := Aside0.mk (below_step (by exact h0q HB.out) hb); clear HO371; clear HB; have HO371 := n0_; have HO374 := n1_; have HB := n2_; clear n0_ n1_ n2_; (try clear hb); (try clear hb2); (try clear hk); (try clear hi); (try clear ho0)) | ((with_reducible refine gate_dst (N := 6) rfl ?_); refine box_event ?hg (N := 6) ?hd (cs := #[.int .i64 0, .int .i64 0, .int .i64 0, .int .i64 0]) (t := 26) ?hr ?_; (case hd => rfl); (case hg => rfl); (case hr => first | (go_simp; done) | (go_simp; rfl)); intro gb380 hg w13 hbox hb; have n0_ := Aside0.mk (Kd.R_below (by exact rq HO371.out) hb); have n1_ := Aside0.mk (Kd.R_below (by exact rq HO374.out) hb); have n2_ := Aside0.mk (below_step (by exact h0q HB.out) hb); have n3_ := Aside0.mk (hbox); have n4_ := Aside0.mk ((by rw [hg]; exact (below_size (by exact h0q HB.out)) : w.heap.size ≤ gb380)); have n5_ := Aside0.mk ((by rw [hg]; exact (below_size (by exact h0q HB.out)) : w.heap.size ≤ gb380)); clear HO371; clear HO374; clear HB; have HO371 := n0_; have HO374 := n1_; have HB := n2_; have BK380 := n3_; have GW380 := n4_; have GE380 := n5_; clear n0_ n1_ n2_ n3_ n4_ n5_; clear hb hbox hg; have hcz14_0 : w13.cell? ⟨gb380, 0, none⟩ = some (.int .i64 0) := (blk_cell BK380.out 0).trans rfl; have hcz14_1 : w13.cell? ⟨gb380, 1, none⟩ = some (.int .i64 0) := (blk_cell BK380.out 1).trans rfl; have hcz14_2 : w13.cell? ⟨gb380, 2, none⟩ = some (.int .i64 0) := (blk_cell BK380.out 2).trans rfl; have hcz14_3 : w13.cell? ⟨gb380, 3, none⟩ = some (.int .i64 0) := (blk_cell BK380.out 3).trans rfl; have hfz14_0 := blk_frozen BK380.out 0; have hfz14_1 := blk_frozen BK380.out 1; have hfz14_2 := blk_frozen BK380.out 2; have hfz14_3 := blk_frozen BK380.out 3; obtain ⟨Ao15, co15, eo15⟩ := Kd.R_slice HO374.out; subst eo15))
 repeat (go_quiet (first | (go_at_call 8; (first | (with_reducible refine (annuitykeep_CopyLoans.calls _ _ l0 t369 _ ?side1 ?side2 A6.out).mono ?_) | (simp only [i64_w, i32_w]; with_reducible refine (annuitykeep_CopyLoans.calls _ _ l0 t369 _ ?side1 ?side2 A6.out).mono ?_)); (case side1 => repeat (first | exact HR0.out | (with_reducible refine Kd.C_alloc ?_ _) | (with_reducible refine Kd.C_drewN ?_ _) | (with_reducible refine Kd.C_drew ?_))); (case side2 => exact HC0.out); rintro e w10 ⟨v370, rfl, ho0, hb⟩; have n0_ := Aside0.mk (Kd.R_lower ho0 (below_size (by exact h0q HB.out))); have n1_ := Aside0.mk (below_step (by exact h0q HB.out) hb); clear HB; have HO371 := n0_; have HB := n1_; clear n0_ n1_; (try clear hb); (try clear hb2); (try clear hk); (try clear hi); (try clear ho0); obtain ⟨Ao11, co11, eo11⟩ := Kd.R_slice HO371.out; subst eo11) | (go_at_call 9; (first | (with_reducible refine (pay_All.calls k _ _ t369 a1 t372 t375 t376 t377 t378 t379 _ ?side1 ?side2 A7.out).mono ?_) | (simp only [i64_w, i32_w]; with_reducible refine (pay_All.calls k _ _ t369 a1 t372 t375 t376 t377 t378 t379 _ ?side1 ?side2 A7.out).mono ?_)); (case side1 => repeat (first | exact (Kd.R_reads' HO371.out).2.2 | (with_reducible refine Kd.C_alloc ?_ _) | (with_reducible refine Kd.C_drewN ?_ _) | (with_reducible refine Kd.C_drew ?_))); (case side2 => exact (Kd.R_reads' HO371.out).2.1); rintro e w12 ⟨v373, rfl, ho0, hb⟩; have n0_ := Aside0.mk (Kd.R_elder' (by exact rq HO371.out) (Kd.R_base ho0) hb); have n1_ := Aside0.mk (Kd.R_lower (Kd.R_new' ho0 (Kd.R_lt (by exact rq HO371.out))) (below_size (by exact h0q HB.out))); have n2_ := Aside0.mk (below_step (by exact h0q HB.out) hb); clear HO371; clear HB; have HO371 := n0_; have HO374 := n1_; have HB := n2_; clear n0_ n1_ n2_; (try clear hb); (try clear hb2); (try clear hk); (try clear hi); (try clear ho0)) | ((with_reducible refine gate_dst (N := 6) rfl ?_); refine box_event ?hg (N := 6) ?hd (cs := #[.int .i64 0, .int .i64 0, .int .i64 0, .int .i64 0]) (t := 26) ?hr ?_; (case hd => rfl); (case hg => rfl); (case hr => first | (go_simp; done) | (go_simp; rfl)); intro gb380 hg w13 hbox hb; have n0_ := Aside0.mk (Kd.R_below (by exact rq HO371.out) hb); have n1_ := Aside0.mk (Kd.R_below (by exact rq HO374.out) hb); have n2_ := Aside0.mk (below_step (by exact h0q HB.out) hb); have n3_ := Aside0.mk (hbox); have n4_ := Aside0.mk ((by rw [hg]; exact (below_size (by exact h0q HB.out)) : w.heap.size ≤ gb380)); have n5_ := Aside0.mk ((by rw [hg]; exact (below_size (by exact h0q HB.out)) : w.heap.size ≤ gb380)); clear HO371; clear HO374; clear HB; have HO371 := n0_; have HO374 := n1_; have HB := n2_; have BK380 := n3_; have GW380 := n4_; have GE380 := n5_; clear n0_ n1_ n2_ n3_ n4_ n5_; clear hb hbox hg; have hcz14_0 : w13.cell? ⟨gb380, 0, none⟩ = some (.int .i64 0) := (blk_cell BK380.out 0).trans rfl; have hcz14_1 : w13.cell? ⟨gb380, 1, none⟩ = some (.int .i64 0) := (blk_cell BK380.out 1).trans rfl; have hcz14_2 : w13.cell? ⟨gb380, 2, none⟩ = some (.int .i64 0) := (blk_cell BK380.out 2).trans rfl; have hcz14_3 : w13.cell? ⟨gb380, 3, none⟩ = some (.int .i64 0) := (blk_cell BK380.out 3).trans rfl; have hfz14_0 := blk_frozen BK380.out 0; have hfz14_1 := blk_frozen BK380.out 1; have hfz14_2 := blk_frozen BK380.out 2; have hfz14_3 := blk_frozen BK380.out 3; obtain ⟨Ao15, co15, eo15⟩ := Kd.R_slice HO374.out; subst eo15)); try go_wp2_with (first | (go_at_call 8; (first | (with_reducible refine (annuitykeep_CopyLoans.calls _ _ l0 t369 _ ?side1 ?side2 A6.out).mono ?_) | (simp only [i64_w, i32_w]; with_reducible refine (annuitykeep_CopyLoans.calls _ _ l0 t369 _ ?side1 ?side2 A6.out).mono ?_)); (case side1 => repeat (first | exact HR0.out | (with_reducible refine Kd.C_alloc ?_ _) | (with_reducible refine Kd.C_drewN ?_ _) | (with_reducible refine Kd.C_drew ?_))); (case side2 => exact HC0.out); rintro e w10 ⟨v370, rfl, ho0, hb⟩; have n0_ := Aside0.mk (Kd.R_lower ho0 (below_size (by exact h0q HB.out))); have n1_ := Aside0.mk (below_step (by exact h0q HB.out) hb); clear HB; have HO371 := n0_; have HB := n1_; clear n0_ n1_; (try clear hb); (try clear hb2); (try clear hk); (try clear hi); (try clear ho0); obtain ⟨Ao11, co11, eo11⟩ := Kd.R_slice HO371.out; subst eo11) | (go_at_call 9; (first | (with_reducible refine (pay_All.calls k _ _ t369 a1 t372 t375 t376 t377 t378 t379 _ ?side1 ?side2 A7.out).mono ?_) | (simp only [i64_w, i32_w]; with_reducible refine (pay_All.calls k _ _ t369 a1 t372 t375 t376 t377 t378 t379 _ ?side1 ?side2 A7.out).mono ?_)); (case side1 => repeat (first | exact (Kd.R_reads' HO371.out).2.2 | (with_reducible refine Kd.C_alloc ?_ _) | (with_reducible refine Kd.C_drewN ?_ _) | (with_reducible refine Kd.C_drew ?_))); (case side2 => exact (Kd.R_reads' HO371.out).2.1); rintro e w12 ⟨v373, rfl, ho0, hb⟩; have n0_ := Aside0.mk (Kd.R_elder' (by exact rq HO371.out) (Kd.R_base ho0) hb); have n1_ := Aside0.mk (Kd.R_lower (Kd.R_new' ho0 (Kd.R_lt (by exact rq HO371.out))) (below_size (by exact h0q HB.out))); have n2_ := Aside0.mk (below_step (by exact h0q HB.out) hb); clear HO371; clear HB; have HO371 := n0_; have HO374 := n1_; have HB := n2_; clear n0_ n1_ n2_; (try clear hb); (try clear hb2); (try clear hk); (try clear hi); (try clear ho0)) | ((with_reducible refine gate_dst (N := 6) rfl ?_); refine box_event ?hg (N := 6) ?hd (cs := #[.int .i64 0, .int .i64 0, .int .i64 0, .int .i64 0]) (t := 26) ?hr ?_; (case hd => rfl); (case hg => rfl); (case hr => first | (go_simp; done) | (go_simp; rfl)); intro gb380 hg w13 hbox hb; have n0_ := Aside0.mk (Kd.R_below (by exact rq HO371.out) hb); have n1_ := Aside0.mk (Kd.R_below (by exact rq HO374.out) hb); have n2_ := Aside0.mk (below_step (by exact h0q HB.out) hb); have n3_ := Aside0.mk (hbox); have n4_ := Aside0.mk ((by rw [hg]; exact (below_size (by exact h0q HB.out)) : w.heap.size ≤ gb380)); have n5_ := Aside0.mk ((by rw [hg]; exact (below_size (by exact h0q HB.out)) : w.heap.size ≤ gb380)); clear HO371; clear HO374; clear HB; have HO371 := n0_; have HO374 := n1_; have HB := n2_; have BK380 := n3_; have GW380 := n4_; have GE380 := n5_; clear n0_ n1_ n2_ n3_ n4_ n5_; clear hb hbox hg; have hcz14_0 : w13.cell? ⟨gb380, 0, none⟩ = some (.int .i64 0) := (blk_cell BK380.out 0).trans rfl; have hcz14_1 : w13.cell? ⟨gb380, 1, none⟩ = some (.int .i64 0) := (blk_cell BK380.out 1).trans rfl; have hcz14_2 : w13.cell? ⟨gb380, 2, none⟩ = some (.int .i64 0) := (blk_cell BK380.out 2).trans rfl; have hcz14_3 : w13.cell? ⟨gb380, 3, none⟩ = some (.int .i64 0) := (blk_cell BK380.out 3).trans rfl; have hfz14_0 := blk_frozen BK380.out 0; have hfz14_1 := blk_frozen BK380.out 1; have hfz14_2 := blk_frozen BK380.out 2; have hfz14_3 := blk_frozen BK380.out 3; obtain ⟨Ao15, co15, eo15⟩ := Kd.R_slice HO374.out; subst eo15)))
 go_loopg [8] k (fun kq v8 w' => ∃ (x8_1 : Int), v8 = .int .i64 x8_1 ∧ Aside0 (annuitylaw20_PayFirst.l0 kq l0 t372 x8_1 = some r) ∧ Aside0 (kq ≤ k) ∧ Aside0 (Kd.R k43 43 w' w.heap.size (fun _ => True) (.slice Ao15 t372.length co15) t372) ∧ Aside0 (w'.heap[gb380]? = some (.cells #[.int .i64 t375, .int .i64 t376, .int .i64 t377, .int .i64 t378] 26 (0, 0))) ∧ Aside0 (Below w.heap.size w w'))
 case atStart => exact ⟨(0), (by first | rfl | (simp [i64_w, i32_w, errW_none, errW_some]; done) | (simp; done) | (simp [*]; done)), H', ⟨Nat.le_refl _⟩, ⟨by (with_reducible repeat (first | apply Kd.R_alloc | apply Kd.R_drewN | apply Kd.R_drew)); exact Kd.R_mono (Kd.R_far (p := ⟨gb380, 3, none⟩) (Kd.R_far (p := ⟨gb380, 2, none⟩) (Kd.R_far (p := ⟨gb380, 1, none⟩) (Kd.R_far (p := ⟨gb380, 0, none⟩) (Kd.R_types HO374.out BK380.out (by decide)) (fun _ hk => hk.2) (.int .i64 t375)) (fun _ hk => hk.2) (.int .i64 t376)) (fun _ hk => hk.2) (.int .i64 t377)) (fun _ hk => hk.2) (.int .i64 t378)) (fun _ hk => trivial)⟩, ⟨by (with_reducible repeat (first | refine blk_drewN ?_ _ | refine blk_drew ?_ | refine blk_alloc ?_ _)); refine blk_put (cs := #[.int .i64 t375, .int .i64 t376, .int .i64 t377, .int .i64 0]) ?_ 3 _ rfl; (with_reducible repeat (first | refine blk_drewN ?_ _ | refine blk_drew ?_ | refine blk_alloc ?_ _)); refine blk_put (cs := #[.int .i64 t375, .int .i64 t376, .int .i64 0, .int .i64 0]) ?_ 2 _ rfl; (with_reducible repeat (first | refine blk_drewN ?_ _ | refine blk_drew ?_ | refine blk_alloc ?_ _)); refine blk_put (cs := #[.int .i64 t375, .int .i64 0, .int .i64 0, .int .i64 0]) ?_ 1 _ rfl; (with_reducible repeat (first | refine blk_drewN ?_ _ | refine blk_drew ?_ | refine blk_alloc ?_ _)); refine blk_put (cs := #[.int .i64 0, .int .i64 0, .int .i64 0, .int .i64 0]) ?_ 0 _ rfl; (with_reducible repeat (first | refine blk_drewN ?_ _ | refine blk_drew ?_ | refine blk_alloc ?_ _)); exact BK380.out⟩, ⟨by exact h1q HB.out GE380.out⟩⟩
 case round =>
  clear H'
  try clear c3
  try clear c3b0 c3b1
  try clear c8
  try clear c8b0 c8b1
  try clear c9
  try clear c9b0 c9b1
  try clear c9b2
  try clear hcz14_0
  try clear hcz14_1
  try clear hcz14_2
  try clear hcz14_3
  try clear hfz14_0
  try clear hfz14_1
  try clear hfz14_2
  try clear hfz14_3
  obtain ⟨x8_1, rfl, HA, HK1, HO_5, BK380, HB⟩ := hrel
  rcases gk with _ | k1
  ·exact absurd HA.out (by simp [annuitylaw20_PayFirst.l0])
  have H := HA.out
  clear HA
  simp only [annuitylaw20_PayFirst.l0] at H
  by_cases c16 : x8_1 < (l0.length : Int)
  case neg =>
   rw [if_neg c16] at H
   have c16b0 : decide (x8_1 < (l0.length : Int)) = false := decide_eq_false c16
   clear c16
   replace H := Option.bind_eq_some_iff.mp H
   obtain ⟨t382, A430, H⟩ := H
   replace H : (some t382) = some r := H
   have A43 := Aside0.mk A430
   clear A430
   obtain rfl := Option.some.inj H
   go_wp2_with (first | (go_at_call 7; (with_reducible refine (annuitylaw20_wakes.calls k1  t382 _ A43.out).mono ?_); rintro e w44 ⟨rfl, hb⟩; have n0_ := Aside0.mk (Kd.R_below (by exact rq HO_5.out) hb); have n1_ := Aside0.mk (blk_below (g := gb380) (Up.up BK380.out) hb); have n2_ := Aside0.mk (below_step (by exact h1q HB.out GE380.out) hb); clear HO_5; clear BK380; clear HB; have HO_5 := n0_; have BK380 := n1_; have HB := n2_; clear n0_ n1_ n2_; (try clear hb); (try clear hb2); (try clear hk); (try clear hi)))
   repeat (go_quiet (first | (go_at_call 7; (first | (with_reducible refine (annuitylaw20_wakes.calls k1  t382 _ A43.out).mono ?_) | (simp only [i64_w, i32_w]; with_reducible refine (annuitylaw20_wakes.calls k1  t382 _ A43.out).mono ?_)); rintro e w44 ⟨rfl, hb⟩; have n0_ := Aside0.mk (Kd.R_below (by exact rq HO_5.out) hb); have n1_ := Aside0.mk (blk_below (g := gb380) (Up.up BK380.out) hb); have n2_ := Aside0.mk (below_step (by exact h1q HB.out GE380.out) hb); clear HO_5; clear BK380; clear HB; have HO_5 := n0_; have BK380 := n1_; have HB := n2_; clear n0_ n1_ n2_; (try clear hb); (try clear hb2); (try clear hk); (try clear hi))); try go_wp2_with (first | (go_at_call 7; (first | (with_reducible refine (annuitylaw20_wakes.calls k1  t382 _ A43.out).mono ?_) | (simp only [i64_w, i32_w]; with_reducible refine (annuitylaw20_wakes.calls k1  t382 _ A43.out).mono ?_)); rintro e w44 ⟨rfl, hb⟩; have n0_ := Aside0.mk (Kd.R_below (by exact rq HO_5.out) hb); have n1_ := Aside0.mk (blk_below (g := gb380) (Up.up BK380.out) hb); have n2_ := Aside0.mk (below_step (by exact h1q HB.out GE380.out) hb); clear HO_5; clear BK380; clear HB; have HO_5 := n0_; have BK380 := n1_; have HB := n2_; clear n0_ n1_ n2_; (try clear hb); (try clear hb2); (try clear hk); (try clear hi))))
   go_ret
   exact ⟨by first | rfl | (simp [i64_w, i32_w, errW_none, errW_some]; done) | (simp [errW_none, errW_some] <;> rfl) | (simp [*, errW_none, errW_some] <;> rfl), by exact h1q HB.out GE380.out⟩
  rw [if_pos c16] at H
  have c16b0 : decide (x8_1 < (l0.length : Int)) = true := decide_eq_true c16
  clear c16
  have H' := Aside0.mk H
  clear H
  go_wp2
  repeat (go_quiet (fail); try go_wp2)
  go_loopg [9] k1 (fun kq v9 w' => ∃ (x9_2 : Int), v9 = .int .i64 x9_2 ∧ Aside0 (annuitylaw20_PayFirst.l1 kq l0 t372 x8_1 x9_2 = some r) ∧ Aside0 (kq ≤ k1) ∧ Aside0 (Kd.R k43 43 w' w.heap.size (fun _ => True) (.slice Ao15 t372.length co15) t372) ∧ Aside0 (w'.heap[gb380]? = some (.cells #[.int .i64 t375, .int .i64 t376, .int .i64 t377, .int .i64 t378] 26 (0, 0))) ∧ Aside0 (Below w.heap.size w w'))
  case atStart => exact ⟨(0), (by first | rfl | (simp [i64_w, i32_w, errW_none, errW_some]; done) | (simp; done) | (simp [*]; done)), H', ⟨Nat.le_refl _⟩, ⟨by exact rq HO_5.out⟩, ⟨by exact bb BK380.out⟩, ⟨by exact h1q HB.out GE380.out⟩⟩
  case round =>
   clear H'
   try clear c3
   try clear c3b0 c3b1
   try clear c8
   try clear c8b0 c8b1
   try clear c9
   try clear c9b0 c9b1
   try clear c9b2
   try clear c16
   try clear c16b0
   try clear hcz14_0
   try clear hcz14_1
   try clear hcz14_2
   try clear hcz14_3
   try clear hfz14_0
   try clear hfz14_1
   try clear hfz14_2
   try clear hfz14_3
   obtain ⟨x9_2, rfl, HA, HK2, HO_5, BK380, HB⟩ := hrel
   rcases gk with _ | k2
   ·exact absurd HA.out (by simp [annuitylaw20_PayFirst.l1])
   have H := HA.out
   clear HA
   simp only [annuitylaw20_PayFirst.l1] at H
   by_cases c17 : x9_2 < (l0.length : Int)
   case neg =>
    rw [if_neg c17] at H
    have c17b0 : decide (x9_2 < (l0.length : Int)) = false := decide_eq_false c17
    clear c17
    have H' := Aside0.mk H
    clear H
    go_wp2
    repeat (go_quiet (fail); try go_wp2)
    go_roundg k2
    case measure => have := HK1.out; have := HK2.out; omega
    case rel => exact ⟨(wrap64 (x8_1 + 1)), (by first | rfl | (simp [i64_w, i32_w, errW_none, errW_some]; done) | (simp; done) | (simp [*]; done)), H', ⟨by have := HK1.out; have := HK2.out; omega⟩, ⟨by exact rq HO_5.out⟩, ⟨by exact bb BK380.out⟩, ⟨by exact h1q HB.out GE380.out⟩⟩
   rw [if_pos c17] at H
   have c17b0 : decide (x9_2 < (l0.length : Int)) = true := decide_eq_true c17
   clear c17
   by_cases c18 : 0 ≤ x8_1
   case neg =>
    rw [if_neg c18] at H
    exact absurd H (by simp)
   rw [if_pos c18] at H
   have c18b0 : decide (0 ≤ x8_1) = true := decide_eq_true c18
   clear c18
   by_cases c19 : x8_1 < (l0.length : Int)
   case neg =>
    rw [if_neg c19] at H
    exact absurd H (by simp)
   rw [if_pos c19] at H
   have c19b0 : decide (x8_1 < (l0.length : Int)) = true := decide_eq_true c19
   clear c19
   by_cases c20 : ((rd_T43 l0 x8_1).f8) = 0
   case neg =>
    rw [if_neg c20] at H
    have c20b0 : (((rd_T43 l0 x8_1).f8) == 0) = false := beq_eq_false_iff_ne.mpr c20
    have c20b1 : (((rd_T43 l0 x8_1).f8) != 0) = true := bne_iff_ne.mpr c20
    have H' := Aside0.mk H
    clear H
    have p383 : 0 ≤ (x8_1 : Int) := yd
    have q383 : x8_1 < (l0.length : Int) := yd
    obtain ⟨ad383, e383, hx383_0, hx383_1, hx383_2, hx383_3, hx383_4, hx383_5, hx383_6, hx383_7, hx383_8, hx383_9, hx383_10, hx383_11, hx383_12⟩ := at_T43 HR0.out x8_1 p383 q383
    cases e383
    replace hx383_0 := hxb HB.out hx383_0
    replace hx383_1 := hxb HB.out hx383_1
    replace hx383_2 := hxb HB.out hx383_2
    replace hx383_3 := hxb HB.out hx383_3
    replace hx383_4 := hxb HB.out hx383_4
    replace hx383_5 := hxb HB.out hx383_5
    replace hx383_6 := hxb HB.out hx383_6
    replace hx383_7 := hxb HB.out hx383_7
    replace hx383_8 := hxb HB.out hx383_8
    replace hx383_9 := hxb HB.out hx383_9
    replace hx383_10 := hxb HB.out hx383_10
    replace hx383_11 := hxb HB.out hx383_11
    replace hx383_12 := hxb HB.out hx383_12
    replace p383 := eq_true p383
    replace q383 := eq_true q383
    go_wp2
    repeat (go_quiet (fail); try go_wp2)
    go_roundg k2
    case measure => have := HK1.out; have := HK2.out; omega
    case rel => exact ⟨(wrap64 (x9_2 + 1)), (by first | rfl | (simp [i64_w, i32_w, errW_none, errW_some]; done) | (simp; done) | (simp [*]; done)), H', ⟨by have := HK1.out; have := HK2.out; omega⟩, ⟨by exact rq HO_5.out⟩, ⟨by exact bb BK380.out⟩, ⟨by exact h1q HB.out GE380.out⟩⟩
   rw [if_pos c20] at H
   have c20b0 : (((rd_T43 l0 x8_1).f8) == 0) = true := beq_iff_eq.mpr c20
   have c20b1 : (((rd_T43 l0 x8_1).f8) != 0) = false := bne_eq_false_iff_eq.mpr c20
   clear c20
   by_cases c21 : 0 ≤ x9_2
   case neg =>
    rw [if_neg c21] at H
    exact absurd H (by simp)
   rw [if_pos c21] at H
   have c21b0 : decide (0 ≤ x9_2) = true := decide_eq_true c21
   clear c21
   by_cases c22 : ((rd_T43 l0 x9_2).f8) = 0
   case neg =>
    rw [if_neg c22] at H
    have c22b0 : (((rd_T43 l0 x9_2).f8) == 0) = false := beq_eq_false_iff_ne.mpr c22
    have c22b1 : (((rd_T43 l0 x9_2).f8) != 0) = true := bne_iff_ne.mpr c22
    have H' := Aside0.mk H
    clear H
    have p383 : 0 ≤ (x8_1 : Int) := yd
    have q383 : x8_1 < (l0.length : Int) := yd
    obtain ⟨ad383, e383, hx383_0, hx383_1, hx383_2, hx383_3, hx383_4, hx383_5, hx383_6, hx383_7, hx383_8, hx383_9, hx383_10, hx383_11, hx383_12⟩ := at_T43 HR0.out x8_1 p383 q383
    cases e383
    replace hx383_0 := hxb HB.out hx383_0
    replace hx383_1 := hxb HB.out hx383_1
    replace hx383_2 := hxb HB.out hx383_2
    replace hx383_3 := hxb HB.out hx383_3
    replace hx383_4 := hxb HB.out hx383_4
    replace hx383_5 := hxb HB.out hx383_5
    replace hx383_6 := hxb HB.out hx383_6
    replace hx383_7 := hxb HB.out hx383_7
    replace hx383_8 := hxb HB.out hx383_8
    replace hx383_9 := hxb HB.out hx383_9
    replace hx383_10 := hxb HB.out hx383_10
    replace hx383_11 := hxb HB.out hx383_11
    replace hx383_12 := hxb HB.out hx383_12
    replace p383 := eq_true p383
    replace q383 := eq_true q383
    have p384 : 0 ≤ (x9_2 : Int) := yd
    have q384 : x9_2 < (l0.length : Int) := yd
    obtain ⟨ad384, e384, hx384_0, hx384_1, hx384_2, hx384_3, hx384_4, hx384_5, hx384_6, hx384_7, hx384_8, hx384_9, hx384_10, hx384_11, hx384_12⟩ := at_T43 HR0.out x9_2 p384 q384
    obtain rfl : ad383 = ad384 := (by injection e384)
    replace hx384_0 := hxb HB.out hx384_0
    replace hx384_1 := hxb HB.out hx384_1
    replace hx384_2 := hxb HB.out hx384_2
    replace hx384_3 := hxb HB.out hx384_3
    replace hx384_4 := hxb HB.out hx384_4
    replace hx384_5 := hxb HB.out hx384_5
    replace hx384_6 := hxb HB.out hx384_6
    replace hx384_7 := hxb HB.out hx384_7
    replace hx384_8 := hxb HB.out hx384_8
    replace hx384_9 := hxb HB.out hx384_9
    replace hx384_10 := hxb HB.out hx384_10
    replace hx384_11 := hxb HB.out hx384_11
    replace hx384_12 := hxb HB.out hx384_12
    replace p384 := eq_true p384
    replace q384 := eq_true q384
    go_wp2
    repeat (go_quiet (fail); try go_wp2)
    go_roundg k2
    case measure => have := HK1.out; have := HK2.out; omega
    case rel => exact ⟨(wrap64 (x9_2 + 1)), (by first | rfl | (simp [i64_w, i32_w, errW_none, errW_some]; done) | (simp; done) | (simp [*]; done)), H', ⟨by have := HK1.out; have := HK2.out; omega⟩, ⟨by exact rq HO_5.out⟩, ⟨by exact bb BK380.out⟩, ⟨by exact h1q HB.out GE380.out⟩⟩
   rw [if_pos c22] at H
   have c22b0 : (((rd_T43 l0 x9_2).f8) == 0) = true := beq_iff_eq.mpr c22
   have c22b1 : (((rd_T43 l0 x9_2).f8) != 0) = false := bne_eq_false_iff_eq.mpr c22
   clear c22
   have HC23 := Aside0.mk H
   clear H
   have p383 : 0 ≤ (x8_1 : Int) := yd
   have q383 : x8_1 < (l0.length : Int) := yd
   obtain ⟨ad383, e383, hx383_0, hx383_1, hx383_2, hx383_3, hx383_4, hx383_5, hx383_6, hx383_7, hx383_8, hx383_9, hx383_10, hx383_11, hx383_12⟩ := at_T43 HR0.out x8_1 p383 q383
   cases e383
   replace hx383_0 := hxb HB.out hx383_0
   replace hx383_1 := hxb HB.out hx383_1
   replace hx383_2 := hxb HB.out hx383_2
   replace hx383_3 := hxb HB.out hx383_3
   replace hx383_4 := hxb HB.out hx383_4
   replace hx383_5 := hxb HB.out hx383_5
   replace hx383_6 := hxb HB.out hx383_6
   replace hx383_7 := hxb HB.out hx383_7
   replace hx383_8 := hxb HB.out hx383_8
   replace hx383_9 := hxb HB.out hx383_9
   replace hx383_10 := hxb HB.out hx383_10
   replace hx383_11 := hxb HB.out hx383_11
   replace hx383_12 := hxb HB.out hx383_12
   replace p383 := eq_true p383
   replace q383 := eq_true q383
   have p384 : 0 ≤ (x9_2 : Int) := yd
   have q384 : x9_2 < (l0.length : Int) := yd
   obtain ⟨ad384, e384, hx384_0, hx384_1, hx384_2, hx384_3, hx384_4, hx384_5, hx384_6, hx384_7, hx384_8, hx384_9, hx384_10, hx384_11, hx384_12⟩ := at_T43 HR0.out x9_2 p384 q384
   obtain rfl : ad383 = ad384 := (by injection e384)
   replace hx384_0 := hxb HB.out hx384_0
   replace hx384_1 := hxb HB.out hx384_1
   replace hx384_2 := hxb HB.out hx384_2
   replace hx384_3 := hxb HB.out hx384_3
   replace hx384_4 := hxb HB.out hx384_4
   replace hx384_5 := hxb HB.out hx384_5
   replace hx384_6 := hxb HB.out hx384_6
   replace hx384_7 := hxb HB.out hx384_7
   replace hx384_8 := hxb HB.out hx384_8
   replace hx384_9 := hxb HB.out hx384_9
   replace hx384_10 := hxb HB.out hx384_10
   replace hx384_11 := hxb HB.out hx384_11
   replace hx384_12 := hxb HB.out hx384_12
   replace p384 := eq_true p384
   replace q384 := eq_true q384
   have p385 : 0 ≤ (x8_1 : Int) := yd
   have q385 : x8_1 < (l0.length : Int) := yd
   obtain ⟨ad385, e385, hx385_0, hx385_1, hx385_2, hx385_3, hx385_4, hx385_5, hx385_6, hx385_7, hx385_8, hx385_9, hx385_10, hx385_11, hx385_12⟩ := at_T43 HR0.out x8_1 p385 q385
   obtain rfl : ad383 = ad385 := (by injection e385)
   replace hx385_0 := hxb HB.out hx385_0
   replace hx385_1 := hxb HB.out hx385_1
   replace hx385_2 := hxb HB.out hx385_2
   replace hx385_3 := hxb HB.out hx385_3
   replace hx385_4 := hxb HB.out hx385_4
   replace hx385_5 := hxb HB.out hx385_5
   replace hx385_6 := hxb HB.out hx385_6
   replace hx385_7 := hxb HB.out hx385_7
   replace hx385_8 := hxb HB.out hx385_8
   replace hx385_9 := hxb HB.out hx385_9
   replace hx385_10 := hxb HB.out hx385_10
   replace hx385_11 := hxb HB.out hx385_11
   replace hx385_12 := hxb HB.out hx385_12
   replace p385 := eq_true p385
   replace q385 := eq_true q385
   have p386 : 0 ≤ (x9_2 : Int) := yd
   have q386 : x9_2 < (l0.length : Int) := yd
   obtain ⟨ad386, e386, hx386_0, hx386_1, hx386_2, hx386_3, hx386_4, hx386_5, hx386_6, hx386_7, hx386_8, hx386_9, hx386_10, hx386_11, hx386_12⟩ := at_T43 HR0.out x9_2 p386 q386
   obtain rfl : ad383 = ad386 := (by injection e386)
   replace hx386_0 := hxb HB.out hx386_0
   replace hx386_1 := hxb HB.out hx386_1
   replace hx386_2 := hxb HB.out hx386_2
   replace hx386_3 := hxb HB.out hx386_3
   replace hx386_4 := hxb HB.out hx386_4
   replace hx386_5 := hxb HB.out hx386_5
   replace hx386_6 := hxb HB.out hx386_6
   replace hx386_7 := hxb HB.out hx386_7
   replace hx386_8 := hxb HB.out hx386_8
   replace hx386_9 := hxb HB.out hx386_9
   replace hx386_10 := hxb HB.out hx386_10
   replace hx386_11 := hxb HB.out hx386_11
   replace hx386_12 := hxb HB.out hx386_12
   replace p386 := eq_true p386
   replace q386 := eq_true q386
   go_upto_if 71 with (fail)
   repeat (go_quiet (fail); go_upto_if 71 with (fail))
   go_cut [] (fun wc => ∃ (kq : Nat), Aside0 (annuitylaw20_PayFirst.j2 kq l0 t372 x8_1 x9_2 = some r) ∧ Aside0 (kq ≤ k2) ∧ Aside0 (Kd.R k43 43 wc w.heap.size (fun _ => True) (.slice Ao15 t372.length co15) t372) ∧ Aside0 (wc.heap[gb380]? = some (.cells #[.int .i64 t375, .int .i64 t376, .int .i64 t377, .int .i64 t378] 26 (0, 0))) ∧ Aside0 (Below w.heap.size w wc))
   case first =>
    have H := HC23.out
    clear HC23
    by_cases c24 : ((rd_T43 l0 x8_1).f5) > ((rd_T43 l0 x9_2).f5)
    case neg =>
     rw [if_neg c24] at H
     have c24b0 : decide (((rd_T43 l0 x9_2).f5) < ((rd_T43 l0 x8_1).f5)) = false := decide_eq_false c24
     clear c24
     (first | rw [c24b0] | (simp only [i64_w, i32_w]; rw [c24b0]) | skip)
     have H' := Aside0.mk H
     clear H
     go_wp2
     repeat (go_quiet (fail); try go_wp2)
     go_meet
     case rel => exact ⟨_, H', ⟨by have := HK1.out; have := HK2.out; first | omega | exact Nat.le_refl _⟩, ⟨by exact rq HO_5.out⟩, ⟨by exact bb BK380.out⟩, ⟨by exact h1q HB.out GE380.out⟩⟩
    rw [if_pos c24] at H
    have c24b0 : decide (((rd_T43 l0 x9_2).f5) < ((rd_T43 l0 x8_1).f5)) = true := decide_eq_true c24
    clear c24
    (first | rw [c24b0] | (simp only [i64_w, i32_w]; rw [c24b0]) | skip)
    by_cases c25 : x9_2 < (t372.length : Int)
    case neg =>
     rw [if_neg c25] at H
     exact absurd H (by simp)
    rw [if_pos c25] at H
    have c25b0 : decide (x9_2 < (t372.length : Int)) = true := decide_eq_true c25
    clear c25
    by_cases c26 : (wrap64 (Int.tdiv ((rd_T43 t372 x9_2).f2) 1000000)) < (wrap64 (Int.tdiv ((rd_T43 l0 x9_2).f2) 1000000))
    case neg =>
     rw [if_neg c26] at H
     have c26b0 : decide ((wrap64 (Int.tdiv ((rd_T43 t372 x9_2).f2) 1000000)) < (wrap64 (Int.tdiv ((rd_T43 l0 x9_2).f2) 1000000))) = false := decide_eq_false c26
     clear c26
     by_cases c31 : ((rd_T43 t372 x9_2).f1) < ((rd_T43 l0 x9_2).f1)
     case neg =>
      rw [if_neg c31] at H
      have c31b0 : decide (((rd_T43 t372 x9_2).f1) < ((rd_T43 l0 x9_2).f1)) = false := decide_eq_false c31
      clear c31
      have H' := Aside0.mk H
      clear H
      have p387 : 0 ≤ (x9_2 : Int) := yd
      have q387 : x9_2 < (t372.length : Int) := yd
      obtain ⟨ad387, e387, hx387_0, hx387_1, hx387_2, hx387_3, hx387_4, hx387_5, hx387_6, hx387_7, hx387_8, hx387_9, hx387_10, hx387_11, hx387_12⟩ := at_T43 (Kd.R_reads' HO_5.out).2.2 x9_2 p387 q387
      cases e387
      replace p387 := eq_true p387
      replace q387 := eq_true q387
      have p388 : 0 ≤ (x9_2 : Int) := yd
      have q388 : x9_2 < (l0.length : Int) := yd
      obtain ⟨ad388, e388, hx388_0, hx388_1, hx388_2, hx388_3, hx388_4, hx388_5, hx388_6, hx388_7, hx388_8, hx388_9, hx388_10, hx388_11, hx388_12⟩ := at_T43 HR0.out x9_2 p388 q388
      obtain rfl : ad383 = ad388 := (by injection e388)
      replace hx388_0 := hxb HB.out hx388_0
      replace hx388_1 := hxb HB.out hx388_1
      replace hx388_2 := hxb HB.out hx388_2
      replace hx388_3 := hxb HB.out hx388_3
      replace hx388_4 := hxb HB.out hx388_4
      replace hx388_5 := hxb HB.out hx388_5
      replace hx388_6 := hxb HB.out hx388_6
      replace hx388_7 := hxb HB.out hx388_7
      replace hx388_8 := hxb HB.out hx388_8
      replace hx388_9 := hxb HB.out hx388_9
      replace hx388_10 := hxb HB.out hx388_10
      replace hx388_11 := hxb HB.out hx388_11
      replace hx388_12 := hxb HB.out hx388_12
      replace p388 := eq_true p388
      replace q388 := eq_true q388
      have p393 : 0 ≤ (x9_2 : Int) := yd
      have q393 : x9_2 < (t372.length : Int) := yd
      obtain ⟨ad393, e393, hx393_0, hx393_1, hx393_2, hx393_3, hx393_4, hx393_5, hx393_6, hx393_7, hx393_8, hx393_9, hx393_10, hx393_11, hx393_12⟩ := at_T43 (Kd.R_reads' HO_5.out).2.2 x9_2 p393 q393
      obtain rfl : ad387 = ad393 := (by injection e393)
      replace p393 := eq_true p393
      replace q393 := eq_true q393
      have p394 : 0 ≤ (x9_2 : Int) := yd
      have q394 : x9_2 < (l0.length : Int) := yd
      obtain ⟨ad394, e394, hx394_0, hx394_1, hx394_2, hx394_3, hx394_4, hx394_5, hx394_6, hx394_7, hx394_8, hx394_9, hx394_10, hx394_11, hx394_12⟩ := at_T43 HR0.out x9_2 p394 q394
      obtain rfl : ad383 = ad394 := (by injection e394)
      replace hx394_0 := hxb HB.out hx394_0
      replace hx394_1 := hxb HB.out hx394_1
      replace hx394_2 := hxb HB.out hx394_2
      replace hx394_3 := hxb HB.out hx394_3
      replace hx394_4 := hxb HB.out hx394_4
      replace hx394_5 := hxb HB.out hx394_5
      replace hx394_6 := hxb HB.out hx394_6
      replace hx394_7 := hxb HB.out hx394_7
      replace hx394_8 := hxb HB.out hx394_8
      replace hx394_9 := hxb HB.out hx394_9
      replace hx394_10 := hxb HB.out hx394_10
      replace hx394_11 := hxb HB.out hx394_11
      replace hx394_12 := hxb HB.out hx394_12
      replace p394 := eq_true p394
      replace q394 := eq_true q394
      go_wp2
      repeat (go_quiet (fail); try go_wp2)
      go_meet
      case rel => exact ⟨_, H', ⟨by have := HK1.out; have := HK2.out; first | omega | exact Nat.le_refl _⟩, ⟨by exact rq HO_5.out⟩, ⟨by exact bb BK380.out⟩, ⟨by exact h1q HB.out GE380.out⟩⟩
     rw [if_pos c31] at H
     have c31b0 : decide (((rd_T43 t372 x9_2).f1) < ((rd_T43 l0 x9_2).f1)) = true := decide_eq_true c31
     clear c31
     by_cases c32 : x8_1 < (t372.length : Int)
     case neg =>
      rw [if_neg c32] at H
      exact absurd H (by simp)
     rw [if_pos c32] at H
     have c32b0 : decide (x8_1 < (t372.length : Int)) = true := decide_eq_true c32
     clear c32
     by_cases c33 : ((rd_T43 t372 x8_1).f1) > 0
     ·rw [if_pos c33] at H
      exact absurd H (by simp)
     rw [if_neg c33] at H
     have c33b0 : decide (0 < ((rd_T43 t372 x8_1).f1)) = false := decide_eq_false c33
     clear c33
     have H' := Aside0.mk H
     clear H
     have p387 : 0 ≤ (x9_2 : Int) := yd
     have q387 : x9_2 < (t372.length : Int) := yd
     obtain ⟨ad387, e387, hx387_0, hx387_1, hx387_2, hx387_3, hx387_4, hx387_5, hx387_6, hx387_7, hx387_8, hx387_9, hx387_10, hx387_11, hx387_12⟩ := at_T43 (Kd.R_reads' HO_5.out).2.2 x9_2 p387 q387
     cases e387
     replace p387 := eq_true p387
     replace q387 := eq_true q387
     have p388 : 0 ≤ (x9_2 : Int) := yd
     have q388 : x9_2 < (l0.length : Int) := yd
     obtain ⟨ad388, e388, hx388_0, hx388_1, hx388_2, hx388_3, hx388_4, hx388_5, hx388_6, hx388_7, hx388_8, hx388_9, hx388_10, hx388_11, hx388_12⟩ := at_T43 HR0.out x9_2 p388 q388
     obtain rfl : ad383 = ad388 := (by injection e388)
     replace hx388_0 := hxb HB.out hx388_0
     replace hx388_1 := hxb HB.out hx388_1
     replace hx388_2 := hxb HB.out hx388_2
     replace hx388_3 := hxb HB.out hx388_3
     replace hx388_4 := hxb HB.out hx388_4
     replace hx388_5 := hxb HB.out hx388_5
     replace hx388_6 := hxb HB.out hx388_6
     replace hx388_7 := hxb HB.out hx388_7
     replace hx388_8 := hxb HB.out hx388_8
     replace hx388_9 := hxb HB.out hx388_9
     replace hx388_10 := hxb HB.out hx388_10
     replace hx388_11 := hxb HB.out hx388_11
     replace hx388_12 := hxb HB.out hx388_12
     replace p388 := eq_true p388
     replace q388 := eq_true q388
     have p393 : 0 ≤ (x9_2 : Int) := yd
     have q393 : x9_2 < (t372.length : Int) := yd
     obtain ⟨ad393, e393, hx393_0, hx393_1, hx393_2, hx393_3, hx393_4, hx393_5, hx393_6, hx393_7, hx393_8, hx393_9, hx393_10, hx393_11, hx393_12⟩ := at_T43 (Kd.R_reads' HO_5.out).2.2 x9_2 p393 q393
     obtain rfl : ad387 = ad393 := (by injection e393)
     replace p393 := eq_true p393
     replace q393 := eq_true q393
     have p394 : 0 ≤ (x9_2 : Int) := yd
     have q394 : x9_2 < (l0.length : Int) := yd
     obtain ⟨ad394, e394, hx394_0, hx394_1, hx394_2, hx394_3, hx394_4, hx394_5, hx394_6, hx394_7, hx394_8, hx394_9, hx394_10, hx394_11, hx394_12⟩ := at_T43 HR0.out x9_2 p394 q394
     obtain rfl : ad383 = ad394 := (by injection e394)
     replace hx394_0 := hxb HB.out hx394_0
     replace hx394_1 := hxb HB.out hx394_1
     replace hx394_2 := hxb HB.out hx394_2
     replace hx394_3 := hxb HB.out hx394_3
     replace hx394_4 := hxb HB.out hx394_4
     replace hx394_5 := hxb HB.out hx394_5
     replace hx394_6 := hxb HB.out hx394_6
     replace hx394_7 := hxb HB.out hx394_7
     replace hx394_8 := hxb HB.out hx394_8
     replace hx394_9 := hxb HB.out hx394_9
     replace hx394_10 := hxb HB.out hx394_10
     replace hx394_11 := hxb HB.out hx394_11
     replace hx394_12 := hxb HB.out hx394_12
     replace p394 := eq_true p394
     replace q394 := eq_true q394
     have p395 : 0 ≤ (x8_1 : Int) := yd
     have q395 : x8_1 < (t372.length : Int) := yd
     obtain ⟨ad395, e395, hx395_0, hx395_1, hx395_2, hx395_3, hx395_4, hx395_5, hx395_6, hx395_7, hx395_8, hx395_9, hx395_10, hx395_11, hx395_12⟩ := at_T43 (Kd.R_reads' HO_5.out).2.2 x8_1 p395 q395
     obtain rfl : ad387 = ad395 := (by injection e395)
     replace p395 := eq_true p395
     replace q395 := eq_true q395
     go_wp2
     repeat (go_quiet (fail); try go_wp2)
     go_meet
     case rel => exact ⟨_, H', ⟨by have := HK1.out; have := HK2.out; first | omega | exact Nat.le_refl _⟩, ⟨by exact rq HO_5.out⟩, ⟨by exact bb BK380.out⟩, ⟨by exact h1q HB.out GE380.out⟩⟩
    rw [if_pos c26] at H
    have c26b0 : decide ((wrap64 (Int.tdiv ((rd_T43 t372 x9_2).f2) 1000000)) < (wrap64 (Int.tdiv ((rd_T43 l0 x9_2).f2) 1000000))) = true := decide_eq_true c26
    clear c26
    by_cases c27 : x8_1 < (t372.length : Int)
    case neg =>
     rw [if_neg c27] at H
     exact absurd H (by simp)
    rw [if_pos c27] at H
    have c27b0 : decide (x8_1 < (t372.length : Int)) = true := decide_eq_true c27
    clear c27
    by_cases c28 : ((rd_T43 t372 x8_1).f2) ≥ 1000000
    ·rw [if_pos c28] at H
     exact absurd H (by simp)
    rw [if_neg c28] at H
    have c28b0 : decide (1000000 ≤ ((rd_T43 t372 x8_1).f2)) = false := decide_eq_false c28
    clear c28
    by_cases c29 : ((rd_T43 t372 x9_2).f1) < ((rd_T43 l0 x9_2).f1)
    case neg =>
     rw [if_neg c29] at H
     have c29b0 : decide (((rd_T43 t372 x9_2).f1) < ((rd_T43 l0 x9_2).f1)) = false := decide_eq_false c29
     clear c29
     have H' := Aside0.mk H
     clear H
     have p387 : 0 ≤ (x9_2 : Int) := yd
     have q387 : x9_2 < (t372.length : Int) := yd
     obtain ⟨ad387, e387, hx387_0, hx387_1, hx387_2, hx387_3, hx387_4, hx387_5, hx387_6, hx387_7, hx387_8, hx387_9, hx387_10, hx387_11, hx387_12⟩ := at_T43 (Kd.R_reads' HO_5.out).2.2 x9_2 p387 q387
     cases e387
     replace p387 := eq_true p387
     replace q387 := eq_true q387
     have p388 : 0 ≤ (x9_2 : Int) := yd
     have q388 : x9_2 < (l0.length : Int) := yd
     obtain ⟨ad388, e388, hx388_0, hx388_1, hx388_2, hx388_3, hx388_4, hx388_5, hx388_6, hx388_7, hx388_8, hx388_9, hx388_10, hx388_11, hx388_12⟩ := at_T43 HR0.out x9_2 p388 q388
     obtain rfl : ad383 = ad388 := (by injection e388)
     replace hx388_0 := hxb HB.out hx388_0
     replace hx388_1 := hxb HB.out hx388_1
     replace hx388_2 := hxb HB.out hx388_2
     replace hx388_3 := hxb HB.out hx388_3
     replace hx388_4 := hxb HB.out hx388_4
     replace hx388_5 := hxb HB.out hx388_5
     replace hx388_6 := hxb HB.out hx388_6
     replace hx388_7 := hxb HB.out hx388_7
     replace hx388_8 := hxb HB.out hx388_8
     replace hx388_9 := hxb HB.out hx388_9
     replace hx388_10 := hxb HB.out hx388_10
     replace hx388_11 := hxb HB.out hx388_11
     replace hx388_12 := hxb HB.out hx388_12
     replace p388 := eq_true p388
     replace q388 := eq_true q388
     have p389 : 0 ≤ (x8_1 : Int) := yd
     have q389 : x8_1 < (t372.length : Int) := yd
     obtain ⟨ad389, e389, hx389_0, hx389_1, hx389_2, hx389_3, hx389_4, hx389_5, hx389_6, hx389_7, hx389_8, hx389_9, hx389_10, hx389_11, hx389_12⟩ := at_T43 (Kd.R_reads' HO_5.out).2.2 x8_1 p389 q389
     obtain rfl : ad387 = ad389 := (by injection e389)
     replace p389 := eq_true p389
     replace q389 := eq_true q389
     have p390 : 0 ≤ (x9_2 : Int) := yd
     have q390 : x9_2 < (t372.length : Int) := yd
     obtain ⟨ad390, e390, hx390_0, hx390_1, hx390_2, hx390_3, hx390_4, hx390_5, hx390_6, hx390_7, hx390_8, hx390_9, hx390_10, hx390_11, hx390_12⟩ := at_T43 (Kd.R_reads' HO_5.out).2.2 x9_2 p390 q390
     obtain rfl : ad387 = ad390 := (by injection e390)
     replace p390 := eq_true p390
     replace q390 := eq_true q390
     have p391 : 0 ≤ (x9_2 : Int) := yd
     have q391 : x9_2 < (l0.length : Int) := yd
     obtain ⟨ad391, e391, hx391_0, hx391_1, hx391_2, hx391_3, hx391_4, hx391_5, hx391_6, hx391_7, hx391_8, hx391_9, hx391_10, hx391_11, hx391_12⟩ := at_T43 HR0.out x9_2 p391 q391
     obtain rfl : ad383 = ad391 := (by injection e391)
     replace hx391_0 := hxb HB.out hx391_0
     replace hx391_1 := hxb HB.out hx391_1
     replace hx391_2 := hxb HB.out hx391_2
     replace hx391_3 := hxb HB.out hx391_3
     replace hx391_4 := hxb HB.out hx391_4
     replace hx391_5 := hxb HB.out hx391_5
     replace hx391_6 := hxb HB.out hx391_6
     replace hx391_7 := hxb HB.out hx391_7
     replace hx391_8 := hxb HB.out hx391_8
     replace hx391_9 := hxb HB.out hx391_9
     replace hx391_10 := hxb HB.out hx391_10
     replace hx391_11 := hxb HB.out hx391_11
     replace hx391_12 := hxb HB.out hx391_12
     replace p391 := eq_true p391
     replace q391 := eq_true q391
     go_wp2
     repeat (go_quiet (fail); try go_wp2)
     go_meet
     case rel => exact ⟨_, H', ⟨by have := HK1.out; have := HK2.out; first | omega | exact Nat.le_refl _⟩, ⟨by exact rq HO_5.out⟩, ⟨by exact bb BK380.out⟩, ⟨by exact h1q HB.out GE380.out⟩⟩
    rw [if_pos c29] at H
    have c29b0 : decide (((rd_T43 t372 x9_2).f1) < ((rd_T43 l0 x9_2).f1)) = true := decide_eq_true c29
    clear c29
    by_cases c30 : ((rd_T43 t372 x8_1).f1) > 0
    ·rw [if_pos c30] at H
     exact absurd H (by simp)
    rw [if_neg c30] at H
    have c30b0 : decide (0 < ((rd_T43 t372 x8_1).f1)) = false := decide_eq_false c30
    clear c30
    have H' := Aside0.mk H
    clear H
    have p387 : 0 ≤ (x9_2 : Int) := yd
    have q387 : x9_2 < (t372.length : Int) := yd
    obtain ⟨ad387, e387, hx387_0, hx387_1, hx387_2, hx387_3, hx387_4, hx387_5, hx387_6, hx387_7, hx387_8, hx387_9, hx387_10, hx387_11, hx387_12⟩ := at_T43 (Kd.R_reads' HO_5.out).2.2 x9_2 p387 q387
    cases e387
    replace p387 := eq_true p387
    replace q387 := eq_true q387
    have p388 : 0 ≤ (x9_2 : Int) := yd
    have q388 : x9_2 < (l0.length : Int) := yd
    obtain ⟨ad388, e388, hx388_0, hx388_1, hx388_2, hx388_3, hx388_4, hx388_5, hx388_6, hx388_7, hx388_8, hx388_9, hx388_10, hx388_11, hx388_12⟩ := at_T43 HR0.out x9_2 p388 q388
    obtain rfl : ad383 = ad388 := (by injection e388)
    replace hx388_0 := hxb HB.out hx388_0
    replace hx388_1 := hxb HB.out hx388_1
    replace hx388_2 := hxb HB.out hx388_2
    replace hx388_3 := hxb HB.out hx388_3
    replace hx388_4 := hxb HB.out hx388_4
    replace hx388_5 := hxb HB.out hx388_5
    replace hx388_6 := hxb HB.out hx388_6
    replace hx388_7 := hxb HB.out hx388_7
    replace hx388_8 := hxb HB.out hx388_8
    replace hx388_9 := hxb HB.out hx388_9
    replace hx388_10 := hxb HB.out hx388_10
    replace hx388_11 := hxb HB.out hx388_11
    replace hx388_12 := hxb HB.out hx388_12
    replace p388 := eq_true p388
    replace q388 := eq_true q388
    have p389 : 0 ≤ (x8_1 : Int) := yd
    have q389 : x8_1 < (t372.length : Int) := yd
    obtain ⟨ad389, e389, hx389_0, hx389_1, hx389_2, hx389_3, hx389_4, hx389_5, hx389_6, hx389_7, hx389_8, hx389_9, hx389_10, hx389_11, hx389_12⟩ := at_T43 (Kd.R_reads' HO_5.out).2.2 x8_1 p389 q389
    obtain rfl : ad387 = ad389 := (by injection e389)
    replace p389 := eq_true p389
    replace q389 := eq_true q389
    have p390 : 0 ≤ (x9_2 : Int) := yd
    have q390 : x9_2 < (t372.length : Int) := yd
    obtain ⟨ad390, e390, hx390_0, hx390_1, hx390_2, hx390_3, hx390_4, hx390_5, hx390_6, hx390_7, hx390_8, hx390_9, hx390_10, hx390_11, hx390_12⟩ := at_T43 (Kd.R_reads' HO_5.out).2.2 x9_2 p390 q390
    obtain rfl : ad387 = ad390 := (by injection e390)
    replace p390 := eq_true p390
    replace q390 := eq_true q390
    have p391 : 0 ≤ (x9_2 : Int) := yd
    have q391 : x9_2 < (l0.length : Int) := yd
    obtain ⟨ad391, e391, hx391_0, hx391_1, hx391_2, hx391_3, hx391_4, hx391_5, hx391_6, hx391_7, hx391_8, hx391_9, hx391_10, hx391_11, hx391_12⟩ := at_T43 HR0.out x9_2 p391 q391
    obtain rfl : ad383 = ad391 := (by injection e391)
    replace hx391_0 := hxb HB.out hx391_0
    replace hx391_1 := hxb HB.out hx391_1
    replace hx391_2 := hxb HB.out hx391_2
    replace hx391_3 := hxb HB.out hx391_3
    replace hx391_4 := hxb HB.out hx391_4
    replace hx391_5 := hxb HB.out hx391_5
    replace hx391_6 := hxb HB.out hx391_6
    replace hx391_7 := hxb HB.out hx391_7
    replace hx391_8 := hxb HB.out hx391_8
    replace hx391_9 := hxb HB.out hx391_9
    replace hx391_10 := hxb HB.out hx391_10
    replace hx391_11 := hxb HB.out hx391_11
    replace hx391_12 := hxb HB.out hx391_12
    replace p391 := eq_true p391
    replace q391 := eq_true q391
    have p392 : 0 ≤ (x8_1 : Int) := yd
    have q392 : x8_1 < (t372.length : Int) := yd
    obtain ⟨ad392, e392, hx392_0, hx392_1, hx392_2, hx392_3, hx392_4, hx392_5, hx392_6, hx392_7, hx392_8, hx392_9, hx392_10, hx392_11, hx392_12⟩ := at_T43 (Kd.R_reads' HO_5.out).2.2 x8_1 p392 q392
    obtain rfl : ad387 = ad392 := (by injection e392)
    replace p392 := eq_true p392
    replace q392 := eq_true q392
    go_wp2
    repeat (go_quiet (fail); try go_wp2)
    go_meet
    case rel => exact ⟨_, H', ⟨by have := HK1.out; have := HK2.out; first | omega | exact Nat.le_refl _⟩, ⟨by exact rq HO_5.out⟩, ⟨by exact bb BK380.out⟩, ⟨by exact h1q HB.out GE380.out⟩⟩
   case rest =>
    clear HC23
    try clear c3
    try clear c3b0 c3b1
    try clear c8
    try clear c8b0 c8b1
    try clear c9
    try clear c9b0 c9b1
    try clear c9b2
    try clear c16
    try clear c16b0
    try clear c17
    try clear c17b0
    try clear c18
    try clear c18b0
    try clear c19
    try clear c19b0
    try clear c20
    try clear c20b0 c20b1
    try clear c21
    try clear c21b0
    try clear c22
    try clear c22b0 c22b1
    try clear c24
    try clear c24b0
    try clear c25
    try clear c25b0
    try clear c26
    try clear c26b0
    try clear c27
    try clear c27b0
    try clear c28
    try clear c28b0
    try clear c29
    try clear c29b0
    try clear c30
    try clear c30b0
    try clear c31
    try clear c31b0
    try clear c32
    try clear c32b0
    try clear c33
    try clear c33b0
    try clear hcz14_0
    try clear hcz14_1
    try clear hcz14_2
    try clear hcz14_3
    try clear hfz14_0
    try clear hfz14_1
    try clear hfz14_2
    try clear hfz14_3
    try clear hx383_0 hx383_1 hx383_10 hx383_11 hx383_12 hx383_2 hx383_3 hx383_4 hx383_5 hx383_6 hx383_7 hx383_8 hx383_9
    try clear hx384_0 hx384_1 hx384_10 hx384_11 hx384_12 hx384_2 hx384_3 hx384_4 hx384_5 hx384_6 hx384_7 hx384_8 hx384_9
    try clear hx385_0 hx385_1 hx385_10 hx385_11 hx385_12 hx385_2 hx385_3 hx385_4 hx385_5 hx385_6 hx385_7 hx385_8 hx385_9
    try clear hx386_0 hx386_1 hx386_10 hx386_11 hx386_12 hx386_2 hx386_3 hx386_4 hx386_5 hx386_6 hx386_7 hx386_8 hx386_9
    try clear hx387_0 hx387_1 hx387_10 hx387_11 hx387_12 hx387_2 hx387_3 hx387_4 hx387_5 hx387_6 hx387_7 hx387_8 hx387_9
    try clear hx388_0 hx388_1 hx388_10 hx388_11 hx388_12 hx388_2 hx388_3 hx388_4 hx388_5 hx388_6 hx388_7 hx388_8 hx388_9
    try clear hx389_0 hx389_1 hx389_10 hx389_11 hx389_12 hx389_2 hx389_3 hx389_4 hx389_5 hx389_6 hx389_7 hx389_8 hx389_9
    try clear hx390_0 hx390_1 hx390_10 hx390_11 hx390_12 hx390_2 hx390_3 hx390_4 hx390_5 hx390_6 hx390_7 hx390_8 hx390_9
    try clear hx391_0 hx391_1 hx391_10 hx391_11 hx391_12 hx391_2 hx391_3 hx391_4 hx391_5 hx391_6 hx391_7 hx391_8 hx391_9
    try clear hx392_0 hx392_1 hx392_10 hx392_11 hx392_12 hx392_2 hx392_3 hx392_4 hx392_5 hx392_6 hx392_7 hx392_8 hx392_9
    try clear hx393_0 hx393_1 hx393_10 hx393_11 hx393_12 hx393_2 hx393_3 hx393_4 hx393_5 hx393_6 hx393_7 hx393_8 hx393_9
    try clear hx394_0 hx394_1 hx394_10 hx394_11 hx394_12 hx394_2 hx394_3 hx394_4 hx394_5 hx394_6 hx394_7 hx394_8 hx394_9
    try clear hx395_0 hx395_1 hx395_10 hx395_11 hx395_12 hx395_2 hx395_3 hx395_4 hx395_5 hx395_6 hx395_7 hx395_8 hx395_9
    try clear p383
    try clear p384
    try clear p385
    try clear p386
    try clear p387
    try clear p388
    try clear p389
    try clear p390
    try clear p391
    try clear p392
    try clear p393
    try clear p394
    try clear p395
    try clear q383
    try clear q384
    try clear q385
    try clear q386
    try clear q387
    try clear q388
    try clear q389
    try clear q390
    try clear q391
    try clear q392
    try clear q393
    try clear q394
    try clear q395
    obtain ⟨kq, HA, HJ22, HO_5, BK380, HB⟩ := hcut
    rcases kq with _ | kj22
    ·exact absurd HA.out (by simp [annuitylaw20_PayFirst.j2])
    have H := HA.out
    clear HA
    simp only [annuitylaw20_PayFirst.j2] at H
    by_cases c34 : 0 ≤ x8_1
    case neg =>
     rw [if_neg c34] at H
     exact absurd H (by simp)
    rw [if_pos c34] at H
    have c34b0 : decide (0 ≤ x8_1) = true := decide_eq_true c34
    clear c34
    by_cases c35 : x8_1 < (l0.length : Int)
    case neg =>
     rw [if_neg c35] at H
     exact absurd H (by simp)
    rw [if_pos c35] at H
    have c35b0 : decide (x8_1 < (l0.length : Int)) = true := decide_eq_true c35
    clear c35
    by_cases c36 : 0 ≤ x9_2
    case neg =>
     rw [if_neg c36] at H
     exact absurd H (by simp)
    rw [if_pos c36] at H
    have c36b0 : decide (0 ≤ x9_2) = true := decide_eq_true c36
    clear c36
    by_cases c37 : x9_2 < (l0.length : Int)
    case neg =>
     rw [if_neg c37] at H
     exact absurd H (by simp)
    rw [if_pos c37] at H
    have c37b0 : decide (x9_2 < (l0.length : Int)) = true := decide_eq_true c37
    clear c37
    by_cases c38 : ((rd_T43 l0 x8_1).f0) < ((rd_T43 l0 x9_2).f0)
    case neg =>
     rw [if_neg c38] at H
     have c38b0 : decide (((rd_T43 l0 x8_1).f0) < ((rd_T43 l0 x9_2).f0)) = false := decide_eq_false c38
     clear c38
     have H' := Aside0.mk H
     clear H
     have p396 : 0 ≤ (x8_1 : Int) := yd
     have q396 : x8_1 < (l0.length : Int) := yd
     obtain ⟨ad396, e396, hx396_0, hx396_1, hx396_2, hx396_3, hx396_4, hx396_5, hx396_6, hx396_7, hx396_8, hx396_9, hx396_10, hx396_11, hx396_12⟩ := at_T43 HR0.out x8_1 p396 q396
     obtain rfl : ad383 = ad396 := (by injection e396)
     replace hx396_0 := hxb HB.out hx396_0
     replace hx396_1 := hxb HB.out hx396_1
     replace hx396_2 := hxb HB.out hx396_2
     replace hx396_3 := hxb HB.out hx396_3
     replace hx396_4 := hxb HB.out hx396_4
     replace hx396_5 := hxb HB.out hx396_5
     replace hx396_6 := hxb HB.out hx396_6
     replace hx396_7 := hxb HB.out hx396_7
     replace hx396_8 := hxb HB.out hx396_8
     replace hx396_9 := hxb HB.out hx396_9
     replace hx396_10 := hxb HB.out hx396_10
     replace hx396_11 := hxb HB.out hx396_11
     replace hx396_12 := hxb HB.out hx396_12
     replace p396 := eq_true p396
     replace q396 := eq_true q396
     have p397 : 0 ≤ (x9_2 : Int) := yd
     have q397 : x9_2 < (l0.length : Int) := yd
     obtain ⟨ad397, e397, hx397_0, hx397_1, hx397_2, hx397_3, hx397_4, hx397_5, hx397_6, hx397_7, hx397_8, hx397_9, hx397_10, hx397_11, hx397_12⟩ := at_T43 HR0.out x9_2 p397 q397
     obtain rfl : ad383 = ad397 := (by injection e397)
     replace hx397_0 := hxb HB.out hx397_0
     replace hx397_1 := hxb HB.out hx397_1
     replace hx397_2 := hxb HB.out hx397_2
     replace hx397_3 := hxb HB.out hx397_3
     replace hx397_4 := hxb HB.out hx397_4
     replace hx397_5 := hxb HB.out hx397_5
     replace hx397_6 := hxb HB.out hx397_6
     replace hx397_7 := hxb HB.out hx397_7
     replace hx397_8 := hxb HB.out hx397_8
     replace hx397_9 := hxb HB.out hx397_9
     replace hx397_10 := hxb HB.out hx397_10
     replace hx397_11 := hxb HB.out hx397_11
     replace hx397_12 := hxb HB.out hx397_12
     replace p397 := eq_true p397
     replace q397 := eq_true q397
     go_wp2
     repeat (go_quiet (fail); try go_wp2)
     go_roundg kj22
     case measure => have := HK1.out; have := HK2.out; have := HJ22.out; omega
     case rel => exact ⟨(wrap64 (x9_2 + 1)), (by first | rfl | (simp [i64_w, i32_w, errW_none, errW_some]; done) | (simp; done) | (simp [*]; done)), H', ⟨by have := HK1.out; have := HK2.out; have := HJ22.out; omega⟩, ⟨by exact rq HO_5.out⟩, ⟨by exact bb BK380.out⟩, ⟨by exact h1q HB.out GE380.out⟩⟩
    rw [if_pos c38] at H
    have c38b0 : decide (((rd_T43 l0 x8_1).f0) < ((rd_T43 l0 x9_2).f0)) = true := decide_eq_true c38
    clear c38
    by_cases c39 : x9_2 < (t372.length : Int)
    case neg =>
     rw [if_neg c39] at H
     exact absurd H (by simp)
    rw [if_pos c39] at H
    have c39b0 : decide (x9_2 < (t372.length : Int)) = true := decide_eq_true c39
    clear c39
    by_cases c40 : ((rd_T43 t372 x9_2).f4) < ((rd_T43 l0 x9_2).f4)
    case neg =>
     rw [if_neg c40] at H
     have c40b0 : decide (((rd_T43 t372 x9_2).f4) < ((rd_T43 l0 x9_2).f4)) = false := decide_eq_false c40
     clear c40
     have H' := Aside0.mk H
     clear H
     have p396 : 0 ≤ (x8_1 : Int) := yd
     have q396 : x8_1 < (l0.length : Int) := yd
     obtain ⟨ad396, e396, hx396_0, hx396_1, hx396_2, hx396_3, hx396_4, hx396_5, hx396_6, hx396_7, hx396_8, hx396_9, hx396_10, hx396_11, hx396_12⟩ := at_T43 HR0.out x8_1 p396 q396
     obtain rfl : ad383 = ad396 := (by injection e396)
     replace hx396_0 := hxb HB.out hx396_0
     replace hx396_1 := hxb HB.out hx396_1
     replace hx396_2 := hxb HB.out hx396_2
     replace hx396_3 := hxb HB.out hx396_3
     replace hx396_4 := hxb HB.out hx396_4
     replace hx396_5 := hxb HB.out hx396_5
     replace hx396_6 := hxb HB.out hx396_6
     replace hx396_7 := hxb HB.out hx396_7
     replace hx396_8 := hxb HB.out hx396_8
     replace hx396_9 := hxb HB.out hx396_9
     replace hx396_10 := hxb HB.out hx396_10
     replace hx396_11 := hxb HB.out hx396_11
     replace hx396_12 := hxb HB.out hx396_12
     replace p396 := eq_true p396
     replace q396 := eq_true q396
     have p397 : 0 ≤ (x9_2 : Int) := yd
     have q397 : x9_2 < (l0.length : Int) := yd
     obtain ⟨ad397, e397, hx397_0, hx397_1, hx397_2, hx397_3, hx397_4, hx397_5, hx397_6, hx397_7, hx397_8, hx397_9, hx397_10, hx397_11, hx397_12⟩ := at_T43 HR0.out x9_2 p397 q397
     obtain rfl : ad383 = ad397 := (by injection e397)
     replace hx397_0 := hxb HB.out hx397_0
     replace hx397_1 := hxb HB.out hx397_1
     replace hx397_2 := hxb HB.out hx397_2
     replace hx397_3 := hxb HB.out hx397_3
     replace hx397_4 := hxb HB.out hx397_4
     replace hx397_5 := hxb HB.out hx397_5
     replace hx397_6 := hxb HB.out hx397_6
     replace hx397_7 := hxb HB.out hx397_7
     replace hx397_8 := hxb HB.out hx397_8
     replace hx397_9 := hxb HB.out hx397_9
     replace hx397_10 := hxb HB.out hx397_10
     replace hx397_11 := hxb HB.out hx397_11
     replace hx397_12 := hxb HB.out hx397_12
     replace p397 := eq_true p397
     replace q397 := eq_true q397
     have p398 : 0 ≤ (x9_2 : Int) := yd
     have q398 : x9_2 < (t372.length : Int) := yd
     obtain ⟨ad398, e398, hx398_0, hx398_1, hx398_2, hx398_3, hx398_4, hx398_5, hx398_6, hx398_7, hx398_8, hx398_9, hx398_10, hx398_11, hx398_12⟩ := at_T43 (Kd.R_reads' HO_5.out).2.2 x9_2 p398 q398
     cases e398
     replace p398 := eq_true p398
     replace q398 := eq_true q398
     have p399 : 0 ≤ (x9_2 : Int) := yd
     have q399 : x9_2 < (l0.length : Int) := yd
     obtain ⟨ad399, e399, hx399_0, hx399_1, hx399_2, hx399_3, hx399_4, hx399_5, hx399_6, hx399_7, hx399_8, hx399_9, hx399_10, hx399_11, hx399_12⟩ := at_T43 HR0.out x9_2 p399 q399
     obtain rfl : ad383 = ad399 := (by injection e399)
     replace hx399_0 := hxb HB.out hx399_0
     replace hx399_1 := hxb HB.out hx399_1
     replace hx399_2 := hxb HB.out hx399_2
     replace hx399_3 := hxb HB.out hx399_3
     replace hx399_4 := hxb HB.out hx399_4
     replace hx399_5 := hxb HB.out hx399_5
     replace hx399_6 := hxb HB.out hx399_6
     replace hx399_7 := hxb HB.out hx399_7
     replace hx399_8 := hxb HB.out hx399_8
     replace hx399_9 := hxb HB.out hx399_9
     replace hx399_10 := hxb HB.out hx399_10
     replace hx399_11 := hxb HB.out hx399_11
     replace hx399_12 := hxb HB.out hx399_12
     replace p399 := eq_true p399
     replace q399 := eq_true q399
     go_wp2
     repeat (go_quiet (fail); try go_wp2)
     go_roundg kj22
     case measure => have := HK1.out; have := HK2.out; have := HJ22.out; omega
     case rel => exact ⟨(wrap64 (x9_2 + 1)), (by first | rfl | (simp [i64_w, i32_w, errW_none, errW_some]; done) | (simp; done) | (simp [*]; done)), H', ⟨by have := HK1.out; have := HK2.out; have := HJ22.out; omega⟩, ⟨by exact rq HO_5.out⟩, ⟨by exact bb BK380.out⟩, ⟨by exact h1q HB.out GE380.out⟩⟩
    rw [if_pos c40] at H
    have c40b0 : decide (((rd_T43 t372 x9_2).f4) < ((rd_T43 l0 x9_2).f4)) = true := decide_eq_true c40
    clear c40
    by_cases c41 : x8_1 < (t372.length : Int)
    case neg =>
     rw [if_neg c41] at H
     exact absurd H (by simp)
    rw [if_pos c41] at H
    have c41b0 : decide (x8_1 < (t372.length : Int)) = true := decide_eq_true c41
    clear c41
    by_cases c42 : ((rd_T43 t372 x8_1).f4) > 0
    ·rw [if_pos c42] at H
     exact absurd H (by simp)
    rw [if_neg c42] at H
    have c42b0 : decide (0 < ((rd_T43 t372 x8_1).f4)) = false := decide_eq_false c42
    clear c42
    have H' := Aside0.mk H
    clear H
    have p396 : 0 ≤ (x8_1 : Int) := yd
    have q396 : x8_1 < (l0.length : Int) := yd
    obtain ⟨ad396, e396, hx396_0, hx396_1, hx396_2, hx396_3, hx396_4, hx396_5, hx396_6, hx396_7, hx396_8, hx396_9, hx396_10, hx396_11, hx396_12⟩ := at_T43 HR0.out x8_1 p396 q396
    obtain rfl : ad383 = ad396 := (by injection e396)
    replace hx396_0 := hxb HB.out hx396_0
    replace hx396_1 := hxb HB.out hx396_1
    replace hx396_2 := hxb HB.out hx396_2
    replace hx396_3 := hxb HB.out hx396_3
    replace hx396_4 := hxb HB.out hx396_4
    replace hx396_5 := hxb HB.out hx396_5
    replace hx396_6 := hxb HB.out hx396_6
    replace hx396_7 := hxb HB.out hx396_7
    replace hx396_8 := hxb HB.out hx396_8
    replace hx396_9 := hxb HB.out hx396_9
    replace hx396_10 := hxb HB.out hx396_10
    replace hx396_11 := hxb HB.out hx396_11
    replace hx396_12 := hxb HB.out hx396_12
    replace p396 := eq_true p396
    replace q396 := eq_true q396
    have p397 : 0 ≤ (x9_2 : Int) := yd
    have q397 : x9_2 < (l0.length : Int) := yd
    obtain ⟨ad397, e397, hx397_0, hx397_1, hx397_2, hx397_3, hx397_4, hx397_5, hx397_6, hx397_7, hx397_8, hx397_9, hx397_10, hx397_11, hx397_12⟩ := at_T43 HR0.out x9_2 p397 q397
    obtain rfl : ad383 = ad397 := (by injection e397)
    replace hx397_0 := hxb HB.out hx397_0
    replace hx397_1 := hxb HB.out hx397_1
    replace hx397_2 := hxb HB.out hx397_2
    replace hx397_3 := hxb HB.out hx397_3
    replace hx397_4 := hxb HB.out hx397_4
    replace hx397_5 := hxb HB.out hx397_5
    replace hx397_6 := hxb HB.out hx397_6
    replace hx397_7 := hxb HB.out hx397_7
    replace hx397_8 := hxb HB.out hx397_8
    replace hx397_9 := hxb HB.out hx397_9
    replace hx397_10 := hxb HB.out hx397_10
    replace hx397_11 := hxb HB.out hx397_11
    replace hx397_12 := hxb HB.out hx397_12
    replace p397 := eq_true p397
    replace q397 := eq_true q397
    have p398 : 0 ≤ (x9_2 : Int) := yd
    have q398 : x9_2 < (t372.length : Int) := yd
    obtain ⟨ad398, e398, hx398_0, hx398_1, hx398_2, hx398_3, hx398_4, hx398_5, hx398_6, hx398_7, hx398_8, hx398_9, hx398_10, hx398_11, hx398_12⟩ := at_T43 (Kd.R_reads' HO_5.out).2.2 x9_2 p398 q398
    cases e398
    replace p398 := eq_true p398
    replace q398 := eq_true q398
    have p399 : 0 ≤ (x9_2 : Int) := yd
    have q399 : x9_2 < (l0.length : Int) := yd
    obtain ⟨ad399, e399, hx399_0, hx399_1, hx399_2, hx399_3, hx399_4, hx399_5, hx399_6, hx399_7, hx399_8, hx399_9, hx399_10, hx399_11, hx399_12⟩ := at_T43 HR0.out x9_2 p399 q399
    obtain rfl : ad383 = ad399 := (by injection e399)
    replace hx399_0 := hxb HB.out hx399_0
    replace hx399_1 := hxb HB.out hx399_1
    replace hx399_2 := hxb HB.out hx399_2
    replace hx399_3 := hxb HB.out hx399_3
    replace hx399_4 := hxb HB.out hx399_4
    replace hx399_5 := hxb HB.out hx399_5
    replace hx399_6 := hxb HB.out hx399_6
    replace hx399_7 := hxb HB.out hx399_7
    replace hx399_8 := hxb HB.out hx399_8
    replace hx399_9 := hxb HB.out hx399_9
    replace hx399_10 := hxb HB.out hx399_10
    replace hx399_11 := hxb HB.out hx399_11
    replace hx399_12 := hxb HB.out hx399_12
    replace p399 := eq_true p399
    replace q399 := eq_true q399
    have p400 : 0 ≤ (x8_1 : Int) := yd
    have q400 : x8_1 < (t372.length : Int) := yd
    obtain ⟨ad400, e400, hx400_0, hx400_1, hx400_2, hx400_3, hx400_4, hx400_5, hx400_6, hx400_7, hx400_8, hx400_9, hx400_10, hx400_11, hx400_12⟩ := at_T43 (Kd.R_reads' HO_5.out).2.2 x8_1 p400 q400
    obtain rfl : ad398 = ad400 := (by injection e400)
    replace p400 := eq_true p400
    replace q400 := eq_true q400
    go_wp2
    repeat (go_quiet (fail); try go_wp2)
    go_roundg kj22
    case measure => have := HK1.out; have := HK2.out; have := HJ22.out; omega
    case rel => exact ⟨(wrap64 (x9_2 + 1)), (by first | rfl | (simp [i64_w, i32_w, errW_none, errW_some]; done) | (simp; done) | (simp [*]; done)), H', ⟨by have := HK1.out; have := HK2.out; have := HJ22.out; omega⟩, ⟨by exact rq HO_5.out⟩, ⟨by exact bb BK380.out⟩, ⟨by exact h1q HB.out GE380.out⟩⟩
/-- What is known of an element that came in. -/
def annuitylaw20_PayFirst.wf43 (x : S43) : Prop := (Lit.int .i64 x.f0).wf = true ∧ (Lit.int .i64 x.f1).wf = true ∧ (Lit.int .i64 x.f2).wf = true ∧ (Lit.int .i64 x.f3).wf = true ∧ (Lit.int .i64 x.f4).wf = true ∧ (Lit.int .i64 x.f5).wf = true ∧ (Lit.int .i64 x.f7).wf = true ∧ (Lit.int .i64 x.f8).wf = true ∧ (Lit.int .i64 x.f9).wf = true ∧ (Lit.int .i64 x.f10).wf = true ∧ (Lit.int .i64 x.f11).wf = true ∧ (Lit.int .i64 x.f12).wf = true
/-- THE ONE PURE STATEMENT of annuitylaw20_PayFirst: yours. -/
def annuitylaw20_PayFirst.Pure : Prop := ∀ (l0 : List (S43)) (a1 : Int), l0.length ≤ maxLen → l0.length * 104 ≤ 140737488351232 → (∀ x ∈ l0, annuitylaw20_PayFirst.wf43 x) → (Lit.int .i64 a1).wf = true → ∃ k, annuitylaw20_PayFirst.f k l0 a1 = some true
theorem annuitylaw20_PayFirst.walk (P : annuitylaw20_PayFirst.Pure) (a0 : Option Addr) (cap0 : Nat) (l0 : List S43) (a1 : Int) (w : World) (hr0 : Kd.C k43 w a0 l0.length l0) (hc0 : l0.length ≤ cap0) (hm0 : l0.length ≤ maxLen) (y0 : l0.length * 104 ≤ 140737488351232) (hw0 : ∀ x ∈ l0, annuitylaw20_PayFirst.wf43 x) (w1 : (Lit.int .i64 a1).wf = true) :
  Calls Try.prog 6 #[.slice a0 l0.length cap0, .int .i64 a1] w fun e w' => e = .returned (.bool true) ∧ Below w.heap.size w w' := by
 obtain ⟨k, h⟩ := P l0 a1 hm0 y0 hw0 w1
 refine (annuitylaw20_PayFirst.calls k _ _ l0 a1 true w hr0 hc0 h).mono ?_
 rintro e w' ⟨rfl, hd⟩
 exact ⟨rfl, hd⟩

end Go.Proofs.Yteemomncbcpdjaa.P
