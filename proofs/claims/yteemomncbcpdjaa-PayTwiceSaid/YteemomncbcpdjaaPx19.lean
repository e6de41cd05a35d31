/- Functions of the program as plain Lean functions, and proofs that its calls come to just their answers, where they tell one (written by a program of this session). -/
import Derived.Test.YteemomncbcpdjaaZaa
import Derived.Test.YteemomncbcpdjaaPx0
import Derived.Test.YteemomncbcpdjaaPx8
import Derived.Test.YteemomncbcpdjaaPx9
import Derived.Test.YteemomncbcpdjaaPx14
import Derived.Test.YteemomncbcpdjaaPx16
namespace Go.Proofs.Yteemomncbcpdjaa.P
open Go.RowKit Go.Proofs.YteemomncbcpdjaaW.PrintWords Go.Proofs.YteemomncbcpdjaaW.PrintLast Go.Proofs.YteemomncbcpdjaaW.PrintMore
attribute [local go_sem] max2_int min2_int max_two min_two max_three min_three max_four min_four   -- for this text's walks alone
set_option linter.unusedVariables false
set_option linter.unusedSimpArgs false

/-! ### annuitylaw20_PayTwice: function 5 -/
def annuitylaw20_PayTwice.f (k : Nat) (l0 : List (S43)) (a1_0 : Int) (a1_1 : Int) : Option (Bool) := if (l0.length : Int) > 16 then ((annuitylaw20_wakes.f k).bind fun t330 => (some t330)) else ((annuitykeep_CopyLoans.f l0).bind fun t331 => ((pay_All.f k t331 (wrap64 (a1_0))).bind fun bt334 => (if bt334.2.2.2.2.2 = 0 then (if bt334.2.2.2.2.1 > 0 then ((annuitylaw20_wakes.f k).bind fun t343 => (some t343)) else ((pay_All.f k bt334.1 (wrap64 (a1_1))).bind fun bt344 => ((annuitykeep_CopyLoans.f l0).bind fun t353 => ((pay_All.f k t353 (wrap64 ((wrap64 (a1_0)) + (wrap64 (a1_1))))).bind fun bt356 => (if bt344.2.2.2.2.2 = 0 then (if bt356.2.2.2.2.2 = 0 then (if (wrap64 (bt334.2.1 + bt344.2.1)) = bt356.2.1 then (if (wrap64 (bt334.2.2.1 + bt344.2.2.1)) = bt356.2.2.1 then (if (wrap64 (bt334.2.2.2.1 + bt344.2.2.2.1)) = bt356.2.2.2.1 then (if bt344.2.2.2.2.1 = bt356.2.2.2.2.1 then ((annuitykeep_Loans.f k bt344.1 bt356.1).bind fun t365 => (if t365 = true then ((annuitylaw20_wakes.f k).bind fun t366 => (some t366)) else (none))) else (none)) else (none)) else (none)) else (none)) else (none)) else (none)))))) else ((annuitylaw20_wakes.f k).bind fun t367 => (some t367)))))
def annuitylaw20_PayTwice.T3 : Bool × List (List Nat × List Nat) := (true, [([], []), ([0], [0]), ([], []), ([2], [2]), ([3], [3]), ([1, 4, 1], [1, 4]), ([5], [5]), ([6], [6]), ([6], [6]), ([6], [6]), ([], []), ([7, 5, 0, 1, 2, 3, 4, 5, 6, 7, 10], [7]), ([10, 8, 11, 0, 1, 2, 3, 4, 5, 6, 7, 8, 10, 11], [8, 10]), ([9, 12, 0, 1, 2, 3, 4, 5, 6, 7, 8, 9, 10, 11, 12], [9])])
def annuitylaw20_PayTwice.B3 : List Nat := [0, 1, 0, 4, 12, 31, 63, 127, 127, 127, 0, 1279, 3583, 8191]
theorem annuitylaw20_PayTwice.tab3 : rtab .any (opsOf Try.f5 3) = annuitylaw20_PayTwice.T3 := by kernel_rfl
theorem annuitylaw20_PayTwice.bits3 : waitsOk annuitylaw20_PayTwice.T3.2 annuitylaw20_PayTwice.B3 = true := by kernel_rfl
def annuitylaw20_PayTwice.T7 : Bool × List (List Nat × List Nat) := (true, [([], []), ([0], [0]), ([], []), ([2], [2]), ([3], [3]), ([], []), ([5], [5]), ([6], [6]), ([4, 7], [4, 7]), ([1, 8, 1], [1, 8]), ([9], [9]), ([10], [10]), ([10], [10]), ([10], [10]), ([], []), ([11, 9, 0, 1, 2, 3, 4, 5, 6, 7, 8, 9, 10, 11, 14], [11]), ([14, 12, 15, 0, 1, 2, 3, 4, 5, 6, 7, 8, 9, 10, 11, 12, 14, 15], [12, 14]), ([13, 16, 0, 1, 2, 3, 4, 5, 6, 7, 8, 9, 10, 11, 12, 13, 14, 15, 16], [13])])
def annuitylaw20_PayTwice.B7 : List Nat := [0, 1, 0, 4, 12, 0, 32, 96, 252, 511, 1023, 2047, 2047, 2047, 0, 20479, 57343, 131071]
theorem annuitylaw20_PayTwice.tab7 : rtab .any (opsOf Try.f5 7) = annuitylaw20_PayTwice.T7 := by kernel_rfl
theorem annuitylaw20_PayTwice.bits7 : waitsOk annuitylaw20_PayTwice.T7.2 annuitylaw20_PayTwice.B7 = true := by kernel_rfl
set_option maxHeartbeats 8000000 in
set_option maxRecDepth 100000 in
theorem annuitylaw20_PayTwice.calls (k : Nat) (A0 : Option Addr) (c0 : Nat) (l0 : List (S43)) (a1_0 : Int) (a1_1 : Int) (r : Bool) (w : World) (hr0 : Kd.C k43 w A0 l0.length l0) (hc0 : l0.length ≤ c0) (h : annuitylaw20_PayTwice.f k l0 a1_0 a1_1 = some r) :
  Calls Try.prog 5 #[.slice A0 l0.length c0, .agg #[.int .u32 a1_0, .int .u32 a1_1]] w fun e w' => e = .returned (.bool r) ∧ Below w.heap.size w w' := by
 have hu46 := Try.underlying46
 have hu26 := Try.underlying26
 have HR0 := Aside0.mk hr0
 have HC0 := Aside0.mk hc0
 clear hr0 hc0
 have HB := Aside0.mk (Below.refl w.heap.size w)
 have H : (if (l0.length : Int) > 16 then ((annuitylaw20_wakes.f k).bind fun t330 => (some t330)) else ((annuitykeep_CopyLoans.f l0).bind fun t331 => ((pay_All.f k t331 (wrap64 (a1_0))).bind fun bt334 => (if bt334.2.2.2.2.2 = 0 then (if bt334.2.2.2.2.1 > 0 then ((annuitylaw20_wakes.f k).bind fun t343 => (some t343)) else ((pay_All.f k bt334.1 (wrap64 (a1_1))).bind fun bt344 => ((annuitykeep_CopyLoans.f l0).bind fun t353 => ((pay_All.f k t353 (wrap64 ((wrap64 (a1_0)) + (wrap64 (a1_1))))).bind fun bt356 => (if bt344.2.2.2.2.2 = 0 then (if bt356.2.2.2.2.2 = 0 then (if (wrap64 (bt334.2.1 + bt344.2.1)) = bt356.2.1 then (if (wrap64 (bt334.2.2.1 + bt344.2.2.1)) = bt356.2.2.1 then (if (wrap64 (bt334.2.2.2.1 + bt344.2.2.2.1)) = bt356.2.2.2.1 then (if bt344.2.2.2.2.1 = bt356.2.2.2.2.1 then ((annuitykeep_Loans.f k bt344.1 bt356.1).bind fun t365 => (if t365 = true then ((annuitylaw20_wakes.f k).bind fun t366 => (some t366)) else (none))) else (none)) else (none)) else (none)) else (none)) else (none)) else (none)))))) else ((annuitylaw20_wakes.f k).bind fun t367 => (some t367)))))) = some r := h
 clear h
 by_cases c3 : (l0.length : Int) > 16
 ·rw [if_pos c3] at H
  have c3b0 : decide (16 < (l0.length : Int)) = true := decide_eq_true c3
  have c3b1 : decide (16 < l0.length) = true := decide_eq_true (by omega)
  clear c3
  replace H := Option.bind_eq_some_iff.mp H
  obtain ⟨t330, A40, H⟩ := H
  replace H : (some t330) = some r := H
  have A4 := Aside0.mk A40
  clear A40
  obtain rfl := Option.some.inj H
  go_enter Try.func5, Try.ntmps5
  go_wp2_with (first | ((with_reducible refine gate_dst (N := 3) rfl ?_); refine box_event ?hg (N := 3) ?hd (cs := #[.int .u32 a1_0, .int .u32 a1_1]) (t := 46) ?hr ?_; (case hd => rfl); (case hg => rfl); (case hr => first | (go_simp; done) | (go_simp; rfl)); intro gb329 hg w5 hbox hb; have n0_ := Aside0.mk (below_step (by exact h0q HB.out) hb); have n1_ := Aside0.mk (hbox); have n2_ := Aside0.mk ((by rw [hg]; exact (below_size (by exact h0q HB.out)) : w.heap.size ≤ gb329)); have n3_ := Aside0.mk ((by rw [hg]; exact (below_size (by exact h0q HB.out)) : w.heap.size ≤ gb329)); clear HB; have HB := n0_; have BK329 := n1_; have GW329 := n2_; have GE329 := n3_; clear n0_ n1_ n2_ n3_; clear hb hbox hg) | ((with_reducible refine gate_callee (f := 7) rfl ?_); refine goesL_ (some 17) rfl rfl Try.func7 (by kernel_rfl) rfl #[] rfl (by (try simp only [List.map_toArray, List.map_cons, List.map_nil]); first | done | rfl | (simp only [List.length_drop, List.length_take]; rfl)) ?_; (with_reducible refine (annuitylaw20_wakes.calls k  t330 _ A4.out).mono ?_); rintro e w6 ⟨rfl, hb⟩; refine ⟨_, rfl, ?_⟩; have n0_ := Aside0.mk (blk_below (g := gb329) (Up.up BK329.out) hb); have n1_ := Aside0.mk (below_step (by exact h1q HB.out GE329.out) hb); clear BK329; clear HB; have BK329 := n0_; have HB := n1_; clear n0_ n1_; (try clear hb); (try clear hb2); (try clear hk); (try clear hi)))
  go_ret
  exact ⟨by first | rfl | (simp [errW_none, errW_some] <;> rfl) | (simp [*, errW_none, errW_some] <;> rfl), by exact h1q HB.out GE329.out⟩
 rw [if_neg c3] at H
 have c3b0 : decide (16 < (l0.length : Int)) = false := decide_eq_false c3
 have c3b1 : decide (16 < l0.length) = false := decide_eq_false (by omega)
 clear c3
 replace H := Option.bind_eq_some_iff.mp H
 obtain ⟨t331, A70, H⟩ := H
 replace H : ((pay_All.f k t331 (wrap64 (a1_0))).bind fun bt334 => (if bt334.2.2.2.2.2 = 0 then (if bt334.2.2.2.2.1 > 0 then ((annuitylaw20_wakes.f k).bind fun t343 => (some t343)) else ((pay_All.f k bt334.1 (wrap64 (a1_1))).bind fun bt344 => ((annuitykeep_CopyLoans.f l0).bind fun t353 => ((pay_All.f k t353 (wrap64 ((wrap64 (a1_0)) + (wrap64 (a1_1))))).bind fun bt356 => (if bt344.2.2.2.2.2 = 0 then (if bt356.2.2.2.2.2 = 0 then (if (wrap64 (bt334.2.1 + bt344.2.1)) = bt356.2.1 then (if (wrap64 (bt334.2.2.1 + bt344.2.2.1)) = bt356.2.2.1 then (if (wrap64 (bt334.2.2.2.1 + bt344.2.2.2.1)) = bt356.2.2.2.1 then (if bt344.2.2.2.2.1 = bt356.2.2.2.2.1 then ((annuitykeep_Loans.f k bt344.1 bt356.1).bind fun t365 => (if t365 = true then ((annuitylaw20_wakes.f k).bind fun t366 => (some t366)) else (none))) else (none)) else (none)) else (none)) else (none)) else (none)) else (none)))))) else ((annuitylaw20_wakes.f k).bind fun t367 => (some t367)))) = some r := H
 have A7 := Aside0.mk A70
 clear A70
 replace H := Option.bind_eq_some_iff.mp H
 obtain ⟨⟨t334, t337, t338, t339, t340, t341⟩, A80, H⟩ := H
 replace H : (if t341 = 0 then (if t340 > 0 then ((annuitylaw20_wakes.f k).bind fun t343 => (some t343)) else ((pay_All.f k t334 (wrap64 (a1_1))).bind fun bt344 => ((annuitykeep_CopyLoans.f l0).bind fun t353 => ((pay_All.f k t353 (wrap64 ((wrap64 (a1_0)) + (wrap64 (a1_1))))).bind fun bt356 => (if bt344.2.2.2.2.2 = 0 then (if bt356.2.2.2.2.2 = 0 then (if (wrap64 (t337 + bt344.2.1)) = bt356.2.1 then (if (wrap64 (t338 + bt344.2.2.1)) = bt356.2.2.1 then (if (wrap64 (t339 + bt344.2.2.2.1)) = bt356.2.2.2.1 then (if bt344.2.2.2.2.1 = bt356.2.2.2.2.1 then ((annuitykeep_Loans.f k bt344.1 bt356.1).bind fun t365 => (if t365 = true then ((annuitylaw20_wakes.f k).bind fun t366 => (some t366)) else (none))) else (none)) else (none)) else (none)) else (none)) else (none)) else (none)))))) else ((annuitylaw20_wakes.f k).bind fun t367 => (some t367))) = some r := H
 have A8 := Aside0.mk A80
 clear A80
 by_cases c9 : t341 = 0
 case neg =>
  rw [if_neg c9] at H
  have c9b0 : (t341 == 0) = false := beq_eq_false_iff_ne.mpr c9
  have c9b1 : (t341 != 0) = true := bne_iff_ne.mpr c9
  replace H := Option.bind_eq_some_iff.mp H
  obtain ⟨t367, A790, H⟩ := H
  replace H : (some t367) = some r := H
  have A79 := Aside0.mk A790
  clear A790
  obtain rfl := Option.some.inj H
  go_enter Try.func5, Try.ntmps5
  try go_wp2_with (first | ((with_reducible refine gate_dst (N := 3) rfl ?_); refine box_event ?hg (N := 3) ?hd (cs := #[.int .u32 a1_0, .int .u32 a1_1]) (t := 46) ?hr ?_; (case hd => rfl); (case hg => rfl); (case hr => first | (go_simp; done) | (go_simp; rfl)); intro gb329 hg w80 hbox hb; have n0_ := Aside0.mk (below_step (by exact h0q HB.out) hb); have n1_ := Aside0.mk (hbox); have n2_ := Aside0.mk ((by rw [hg]; exact (below_size (by exact h0q HB.out)) : w.heap.size ≤ gb329)); have n3_ := Aside0.mk ((by rw [hg]; exact (below_size (by exact h0q HB.out)) : w.heap.size ≤ gb329)); clear HB; have HB := n0_; have BK329 := n1_; have GW329 := n2_; have GE329 := n3_; clear n0_ n1_ n2_ n3_; clear hb hbox hg))
  have n0_ := Aside0.mk (blk_drew BK329.out)
  have n1_ := Aside0.mk (below_drew1 HB.out)
  clear BK329 HB
  have BK329 := n0_
  have HB := n1_
  clear n0_ n1_
  refine start_ (n := 14) (S := fun w' => w'.cell? ⟨gb329, 0, none⟩ = some (.int .u32 a1_0) ∧ w'.cell? ⟨gb329, 1, none⟩ = some (.int .u32 a1_1)) (ds := []) #[false, false, false, false, false, false, false, false, false, false, false, false, false, false] (by kernel_rfl) rfl rfl ⟨(blk_cell BK329.out 0).trans rfl, (blk_cell BK329.out 1).trans rfl⟩ (fun hHeld => ?_); refine with_tabW annuitylaw20_PayTwice.tab3 annuitylaw20_PayTwice.bits3 (fun HT_ HW_ => ?_)
  generalize w80.drew = w81 at BK329 HB hHeld ⊢
  refine pure_ (i := 0) (N := some 19) (v := ?_) (a' := ?_) #[true, false, false, false, false, false, false, false, false, false, false, false, false, false] rfl rfl (any_of HT_.out (by kernel_rfl)) (fun _ _ _ h => h) (Or.inl ⟨by rfl, ?_⟩) ?_ ?_
  rotate_left
  ·intro w'
   go_simp
   with_reducible rfl
  rotate_left
  ·simp only [Act.put, List.setIfInBounds_toArray, List.set_cons_zero, List.set_cons_succ, i64_w, i32_w]
   rfl
  refine pure_ (i := 2) (N := some 21) (v := ?_) (a' := ?_) #[true, false, true, false, false, false, false, false, false, false, false, false, false, false] rfl rfl (any_of HT_.out (by kernel_rfl)) (fun _ _ _ h => h) (Or.inl ⟨by rfl, ?_⟩) ?_ ?_
  rotate_left
  ·intro w'
   go_simp
   with_reducible rfl
  rotate_left
  ·simp only [Act.put, List.setIfInBounds_toArray, List.set_cons_zero, List.set_cons_succ, i64_w, i32_w]
   rfl
  refine take_ (i := 3) (N := some 22) (v := ?_) (a' := ?_) #[true, false, true, true, false, false, false, false, false, false, false, false, false, false] rfl rfl (take_ofW HT_.out HW_.out (by kernel_rfl)) (fun _ _ _ h => h) (Or.inl ⟨by rfl, ?_⟩) hHeld ?_ ?_
  rotate_left
  ·rintro w' ⟨s0, s1⟩
   go_simp
   with_reducible rfl
  rotate_left
  ·simp only [Act.put, List.setIfInBounds_toArray, List.set_cons_zero, List.set_cons_succ, i64_w, i32_w]
   rfl
  refine pure_ (i := 4) (N := some 23) (v := ?_) (a' := ?_) #[true, false, true, true, true, false, false, false, false, false, false, false, false, false] rfl rfl (any_of HT_.out (by kernel_rfl)) (fun _ _ _ h => h) (Or.inl ⟨by rfl, ?_⟩) ?_ ?_
  rotate_left
  ·intro w'
   go_simp
   with_reducible rfl
  rotate_left
  ·simp only [Act.put, List.setIfInBounds_toArray, List.set_cons_zero, List.set_cons_succ, i64_w, i32_w]
   rfl
  refine join_ (σ := Value × Value × Nat) 3 #[true, true, true, true, true, true, true, true, true, true, true, false, false, false] (fun s_ => [(20, s_.1), (24, .tuple #[s_.2.1, .agg #[.int .i64 t337, .int .i64 t338, .int .i64 t339, .int .i64 t340], .int .i64 t341]), (6, .pointer (some ⟨s_.2.2, 0, none⟩)), (18, .tuple #[s_.2.1, .agg #[.int .i64 t337, .int .i64 t338, .int .i64 t339, .int .i64 t340], .int .i64 t341]), (25, s_.2.1), (26, .agg #[.int .i64 t337, .int .i64 t338, .int .i64 t339, .int .i64 t340]), (27, .int .i64 t341)]) (fun s_ w' => (w'.cell? ⟨gb329, 0, none⟩ = some (.int .u32 a1_0) ∧ w'.cell? ⟨gb329, 1, none⟩ = some (.int .u32 a1_1)) ∧ (Kd.R k43 43 w' w.heap.size (fun k_ => some k_ ≠ (s_.2.1 : Value).ownBlock) s_.1 t331) ∧ (Kd.R k43 43 w' w.heap.size (fun k_ => some k_ ≠ (s_.1 : Value).ownBlock) s_.2.1 t334) ∧ (w'.heap[gb329]? = some (.cells #[.int .u32 a1_0, .int .u32 a1_1] 46 (0, 0))) ∧ (w'.heap[s_.2.2]? = some (.cells #[.int .i64 0, .int .i64 0, .int .i64 0, .int .i64 0] 26 (0, 0))) ∧ (w.heap.size ≤ s_.2.2) ∧ (w.heap.size ≤ s_.2.2) ∧ (gb329 ≠ s_.2.2) ∧ (s_.2.2 ≠ gb329) ∧ (Below w.heap.size w w')) ?_ ?_
  rotate_left
  ·intro hCont
   refine two_ (i := 1) (j := 10) (Ni := some 20) (Nj := some 6) #[true, true, true, true, true, false, false, false, false, false, false, false, false, false] #[true, false, true, true, true, false, false, false, false, false, true, false, false, false] rfl rfl rfl rfl (two_of HT_.out (by kernel_rfl)) (by decide) (by decide) (fun K hK => ?_) (fun K hK => ?_)
   ·skip
    refine goes_ Try.func8 (by kernel_rfl) rfl #[.slice A0 l0.length c0] (by rfl) rfl rfl (by (try simp only [List.map_toArray, List.map_cons, List.map_nil]); first | done | rfl | (simp only [List.length_drop, List.length_take]; rfl)) ?_
    with_reducible refine (annuitykeep_CopyLoans.calls _ _ l0 t331 _ ?side1 ?side2 A7.out).mono ?_
    (case side1 => repeat (first | exact (Kd.C_below HR0.out HB.out) | (with_reducible refine Kd.C_alloc ?_ _) | (with_reducible refine Kd.C_drewN ?_ _) | (with_reducible refine Kd.C_drew ?_)))
    (case side2 => exact HC0.out)
    rintro e w82 ⟨v332, rfl, ho0, hb⟩
    refine ⟨_, rfl, ?_⟩
    have n0_ := Aside0.mk (Kd.R_lower ho0 (below_size (by exact h1q HB.out GE329.out)))
    have n1_ := Aside0.mk (blk_below (g := gb329) (Up.up BK329.out) hb)
    have n2_ := Aside0.mk (below_step (by exact h1q HB.out GE329.out) hb)
    clear BK329 HB
    have HO333 := n0_
    have BK329 := n1_
    have HB := n2_
    clear n0_ n1_ n2_
    (try clear hb)
    (try clear hb2)
    (try clear hk)
    (try clear hi)
    (try clear ho0)
    obtain ⟨Ao83, co83, eo83⟩ := Kd.R_slice HO333.out
    (first | subst eo83 | (injection eo83 with f1_ f2_ f3_; have f4_ := f1_.symm; have f5_ := f3_.symm; clear f1_ f2_ f3_; subst f4_; subst f5_))
    refine hK.out _ _ ⟨(blk_cell BK329.out 0).trans rfl, (blk_cell BK329.out 1).trans rfl⟩ (fun hHeld => ?_)
    clear hK K
    refine norm_ (a' := ?_) ?_ ?_
    rotate_left
    ·show Act.put _ (some 20) _ = _
     simp only [Act.put, List.setIfInBounds_toArray, List.set_cons_zero, List.set_cons_succ, i64_w, i32_w]
     rfl
    refine two_ (i := 5) (j := 10) (Ni := some 24) (Nj := some 6) #[true, true, true, true, true, true, false, false, false, false, false, false, false, false] #[true, true, true, true, true, false, false, false, false, false, true, false, false, false] rfl rfl rfl rfl (two_of HT_.out (by kernel_rfl)) (by decide) (by decide) (fun K hK => ?_) (fun K hK => ?_)
    ·skip
     refine goes_ Try.func9 (by kernel_rfl) rfl #[.slice Ao83 t331.length co83, .int .i64 (wrap64 (a1_0))] (by rfl) rfl rfl (by (try simp only [List.map_toArray, List.map_cons, List.map_nil]); first | done | rfl | (simp only [List.length_drop, List.length_take]; rfl)) ?_
     with_reducible refine (pay_All.calls k _ _ t331 (wrap64 (a1_0)) t334 t337 t338 t339 t340 t341 _ ?side1 ?side2 A8.out).mono ?_
     (case side1 => repeat (first | exact (Kd.R_reads' HO333.out).2.2 | (with_reducible refine Kd.C_alloc ?_ _) | (with_reducible refine Kd.C_drewN ?_ _) | (with_reducible refine Kd.C_drew ?_)))
     (case side2 => exact (Kd.R_reads' HO333.out).2.1)
     rintro e w84 ⟨v335, rfl, ho0, hb⟩
     refine ⟨_, rfl, ?_⟩
     have n0_ := Aside0.mk (Kd.R_elder' (by exact rq HO333.out) (Kd.R_base ho0) hb)
     have n1_ := Aside0.mk (Kd.R_lower (Kd.R_new' ho0 (Kd.R_lt (by exact rq HO333.out))) (below_size (by exact h1q HB.out GE329.out)))
     have n2_ := Aside0.mk (blk_below (g := gb329) (Up.up BK329.out) hb)
     have n3_ := Aside0.mk (below_step (by exact h1q HB.out GE329.out) hb)
     clear HO333 BK329 HB
     have HO333 := n0_
     have HO336 := n1_
     have BK329 := n2_
     have HB := n3_
     clear n0_ n1_ n2_ n3_
     (try clear hb)
     (try clear hb2)
     (try clear hk)
     (try clear hi)
     (try clear ho0)
     refine hK.out _ _ ⟨(blk_cell BK329.out 0).trans rfl, (blk_cell BK329.out 1).trans rfl⟩ (fun hHeld => ?_)
     clear hK K
     refine norm_ (a' := ?_) ?_ ?_
     rotate_left
     ·show Act.put _ (some 24) _ = _
      simp only [Act.put, List.setIfInBounds_toArray, List.set_cons_zero, List.set_cons_succ, i64_w, i32_w]
      rfl
     refine pure_ (i := 6) (N := some 18) (v := ?_) (a' := ?_) #[true, true, true, true, true, true, true, false, false, false, false, false, false, false] rfl rfl (any_of HT_.out (by kernel_rfl)) (fun _ _ _ h => h) (Or.inl ⟨by rfl, ?_⟩) ?_ ?_
     rotate_left
     ·intro w'
      go_simp
      with_reducible rfl
     rotate_left
     ·simp only [Act.put, List.setIfInBounds_toArray, List.set_cons_zero, List.set_cons_succ, i64_w, i32_w]
      rfl
     refine pure_ (i := 7) (N := some 25) (v := ?_) (a' := ?_) #[true, true, true, true, true, true, true, true, false, false, false, false, false, false] rfl rfl (any_of HT_.out (by kernel_rfl)) (fun _ _ _ h => h) (Or.inl ⟨by rfl, ?_⟩) ?_ ?_
     rotate_left
     ·intro w'
      go_simp
      with_reducible rfl
     rotate_left
     ·simp only [Act.put, List.setIfInBounds_toArray, List.set_cons_zero, List.set_cons_succ, i64_w, i32_w]
      rfl
     refine pure_ (i := 8) (N := some 26) (v := ?_) (a' := ?_) #[true, true, true, true, true, true, true, true, true, false, false, false, false, false] rfl rfl (any_of HT_.out (by kernel_rfl)) (fun _ _ _ h => h) (Or.inl ⟨by rfl, ?_⟩) ?_ ?_
     rotate_left
     ·intro w'
      go_simp
      with_reducible rfl
     rotate_left
     ·simp only [Act.put, List.setIfInBounds_toArray, List.set_cons_zero, List.set_cons_succ, i64_w, i32_w]
      rfl
     refine pure_ (i := 9) (N := some 27) (v := ?_) (a' := ?_) #[true, true, true, true, true, true, true, true, true, true, false, false, false, false] rfl rfl (any_of HT_.out (by kernel_rfl)) (fun _ _ _ h => h) (Or.inl ⟨by rfl, ?_⟩) ?_ ?_
     rotate_left
     ·intro w'
      go_simp
      with_reducible rfl
     rotate_left
     ·simp only [Act.put, List.setIfInBounds_toArray, List.set_cons_zero, List.set_cons_succ, i64_w, i32_w]
      rfl
     refine one_ (i := 10) (N := some 6) #[true, true, true, true, true, true, true, true, true, true, true, false, false, false] rfl rfl (one_of HT_.out (by kernel_rfl)) (by decide) (fun K hK => ?_)
     refine box_step ?hg (N := 6) ?hd (cs := #[.int .i64 0, .int .i64 0, .int .i64 0, .int .i64 0]) (t := 26) ?hr ?_; (case hd => rfl); (case hg => rfl); (case hr => first | (go_simp; done) | (go_simp; rfl))
     intro gb342 hg w85 hbox hb
     have n0_ := Aside0.mk (Kd.R_below (by exact rq HO333.out) hb)
     have n1_ := Aside0.mk (Kd.R_below (by exact rq HO336.out) hb)
     have n2_ := Aside0.mk (blk_below (g := gb329) (Up.up BK329.out) hb)
     have n3_ := Aside0.mk (below_step (by exact h1q HB.out GE329.out) hb)
     have n4_ := Aside0.mk (hbox)
     have n5_ := Aside0.mk ((by rw [hg]; exact (below_size (by exact h1q HB.out GE329.out)) : w.heap.size ≤ gb342))
     have n6_ := Aside0.mk ((by rw [hg]; exact (below_size (by exact h1q HB.out GE329.out)) : w.heap.size ≤ gb342))
     have n7_ := Aside0.mk ((by rw [hg]; exact Nat.ne_of_lt (blk_lt (g := gb329) (Up.up BK329.out)) : gb329 ≠ gb342))
     have n8_ := Aside0.mk ((by rw [hg]; exact Nat.ne_of_gt (blk_lt (g := gb329) (Up.up BK329.out)) : gb342 ≠ gb329))
     clear HO333 HO336 BK329 HB
     have HO333 := n0_
     have HO336 := n1_
     have BK329 := n2_
     have HB := n3_
     have BK342 := n4_
     have GW342 := n5_
     have GE342 := n6_
     have NB329_342 := n7_
     have NB342_329 := n8_
     clear n0_ n1_ n2_ n3_ n4_ n5_ n6_ n7_ n8_ hb hbox hg
     refine hK.out _ _ ⟨(blk_cell BK329.out 0).trans rfl, (blk_cell BK329.out 1).trans rfl⟩ (fun hHeld => ?_)
     clear hK K
     refine norm_ (a' := ?_) ?_ ?_
     rotate_left
     ·show Act.put _ (some 6) _ = _
      simp only [Act.put, List.setIfInBounds_toArray, List.set_cons_zero, List.set_cons_succ, i64_w, i32_w]
      rfl
     exact norm_ (by simp only [putAll, Act.put, List.setIfInBounds_toArray, List.set_cons_zero, List.set_cons_succ]) (hCont (.slice Ao83 t331.length co83, v335, gb342) _ ⟨hHeld, (by (with_reducible repeat (first | apply Kd.R_alloc | apply Kd.R_drewN | apply Kd.R_drew)); exact Kd.R_mono HO333.out (fun _ hk => hk.2)), (by (with_reducible repeat (first | apply Kd.R_alloc | apply Kd.R_drewN | apply Kd.R_drew)); exact Kd.R_mono HO336.out (fun _ hk => hk.2)), (Up.up BK329.out), (Up.up BK342.out), GW342.out, GE342.out, NB329_342.out, NB342_329.out, (by exact h2q HB.out GE329.out GE342.out)⟩)
    ·skip
     refine box_step ?hg (N := 6) ?hd (cs := #[.int .i64 0, .int .i64 0, .int .i64 0, .int .i64 0]) (t := 26) ?hr ?_; (case hd => rfl); (case hg => rfl); (case hr => first | (go_simp; done) | (go_simp; rfl))
     intro gb342 hg w83 hbox hb
     have n0_ := Aside0.mk (Kd.R_below (by exact rq HO333.out) hb)
     have n1_ := Aside0.mk (blk_below (g := gb329) (Up.up BK329.out) hb)
     have n2_ := Aside0.mk (below_step (by exact h1q HB.out GE329.out) hb)
     have n3_ := Aside0.mk (hbox)
     have n4_ := Aside0.mk ((by rw [hg]; exact (below_size (by exact h1q HB.out GE329.out)) : w.heap.size ≤ gb342))
     have n5_ := Aside0.mk ((by rw [hg]; exact (below_size (by exact h1q HB.out GE329.out)) : w.heap.size ≤ gb342))
     have n6_ := Aside0.mk ((by rw [hg]; exact Nat.ne_of_lt (blk_lt (g := gb329) (Up.up BK329.out)) : gb329 ≠ gb342))
     have n7_ := Aside0.mk ((by rw [hg]; exact Nat.ne_of_gt (blk_lt (g := gb329) (Up.up BK329.out)) : gb342 ≠ gb329))
     clear HO333 BK329 HB
     have HO333 := n0_
     have BK329 := n1_
     have HB := n2_
     have BK342 := n3_
     have GW342 := n4_
     have GE342 := n5_
     have NB329_342 := n6_
     have NB342_329 := n7_
     clear n0_ n1_ n2_ n3_ n4_ n5_ n6_ n7_ hb hbox hg
     obtain ⟨Ao84, co84, eo84⟩ := Kd.R_slice HO333.out
     (first | subst eo84 | (injection eo84 with f1_ f2_ f3_; have f4_ := f1_.symm; have f5_ := f3_.symm; clear f1_ f2_ f3_; subst f4_; subst f5_))
     refine hK.out _ _ ⟨(blk_cell BK329.out 0).trans rfl, (blk_cell BK329.out 1).trans rfl⟩ (fun hHeld => ?_)
     clear hK K
     refine norm_ (a' := ?_) ?_ ?_
     rotate_left
     ·show Act.put _ (some 6) _ = _
      simp only [Act.put, List.setIfInBounds_toArray, List.set_cons_zero, List.set_cons_succ, i64_w, i32_w]
      rfl
     refine one_ (i := 5) (N := some 24) #[true, true, true, true, true, true, false, false, false, false, true, false, false, false] rfl rfl (one_of HT_.out (by kernel_rfl)) (by decide) (fun K hK => ?_)
     refine goes_ Try.func9 (by kernel_rfl) rfl #[.slice Ao84 t331.length co84, .int .i64 (wrap64 (a1_0))] (by rfl) rfl rfl (by (try simp only [List.map_toArray, List.map_cons, List.map_nil]); first | done | rfl | (simp only [List.length_drop, List.length_take]; rfl)) ?_
     with_reducible refine (pay_All.calls k _ _ t331 (wrap64 (a1_0)) t334 t337 t338 t339 t340 t341 _ ?side1 ?side2 A8.out).mono ?_
     (case side1 => repeat (first | exact (Kd.R_reads' HO333.out).2.2 | (with_reducible refine Kd.C_alloc ?_ _) | (with_reducible refine Kd.C_drewN ?_ _) | (with_reducible refine Kd.C_drew ?_)))
     (case side2 => exact (Kd.R_reads' HO333.out).2.1)
     rintro e w85 ⟨v335, rfl, ho0, hb⟩
     refine ⟨_, rfl, ?_⟩
     have n0_ := Aside0.mk (Kd.R_elder' (by exact rq HO333.out) (Kd.R_base ho0) hb)
     have n1_ := Aside0.mk (Kd.R_lower (Kd.R_new' ho0 (Kd.R_lt (by exact rq HO333.out))) (below_size (by exact h2q HB.out GE329.out GE342.out)))
     have n2_ := Aside0.mk (blk_below (g := gb329) (Up.up BK329.out) hb)
     have n3_ := Aside0.mk (blk_below (g := gb342) (Up.up BK342.out) hb)
     have n4_ := Aside0.mk (below_step (by exact h2q HB.out GE329.out GE342.out) hb)
     clear HO333 BK329 BK342 HB
     have HO333 := n0_
     have HO336 := n1_
     have BK329 := n2_
     have BK342 := n3_
     have HB := n4_
     clear n0_ n1_ n2_ n3_ n4_
     (try clear hb)
     (try clear hb2)
     (try clear hk)
     (try clear hi)
     (try clear ho0)
     refine hK.out _ _ ⟨(blk_cell BK329.out 0).trans rfl, (blk_cell BK329.out 1).trans rfl⟩ (fun hHeld => ?_)
     clear hK K
     refine norm_ (a' := ?_) ?_ ?_
     rotate_left
     ·show Act.put _ (some 24) _ = _
      simp only [Act.put, List.setIfInBounds_toArray, List.set_cons_zero, List.set_cons_succ, i64_w, i32_w]
      rfl
     refine pure_ (i := 6) (N := some 18) (v := ?_) (a' := ?_) #[true, true, true, true, true, true, true, false, false, false, true, false, false, false] rfl rfl (any_of HT_.out (by kernel_rfl)) (fun _ _ _ h => h) (Or.inl ⟨by rfl, ?_⟩) ?_ ?_
     rotate_left
     ·intro w'
      go_simp
      with_reducible rfl
     rotate_left
     ·simp only [Act.put, List.setIfInBounds_toArray, List.set_cons_zero, List.set_cons_succ, i64_w, i32_w]
      rfl
     refine pure_ (i := 7) (N := some 25) (v := ?_) (a' := ?_) #[true, true, true, true, true, true, true, true, false, false, true, false, false, false] rfl rfl (any_of HT_.out (by kernel_rfl)) (fun _ _ _ h => h) (Or.inl ⟨by rfl, ?_⟩) ?_ ?_
     rotate_left
     ·intro w'
      go_simp
      with_reducible rfl
     rotate_left
     ·simp only [Act.put, List.setIfInBounds_toArray, List.set_cons_zero, List.set_cons_succ, i64_w, i32_w]
      rfl
     refine pure_ (i := 8) (N := some 26) (v := ?_) (a' := ?_) #[true, true, true, true, true, true, true, true, true, false, true, false, false, false] rfl rfl (any_of HT_.out (by kernel_rfl)) (fun _ _ _ h => h) (Or.inl ⟨by rfl, ?_⟩) ?_ ?_
     rotate_left
     ·intro w'
      go_simp
      with_reducible rfl
     rotate_left
     ·simp only [Act.put, List.setIfInBounds_toArray, List.set_cons_zero, List.set_cons_succ, i64_w, i32_w]
      rfl
     refine pure_ (i := 9) (N := some 27) (v := ?_) (a' := ?_) #[true, true, true, true, true, true, true, true, true, true, true, false, false, false] rfl rfl (any_of HT_.out (by kernel_rfl)) (fun _ _ _ h => h) (Or.inl ⟨by rfl, ?_⟩) ?_ ?_
     rotate_left
     ·intro w'
      go_simp
      with_reducible rfl
     rotate_left
     ·simp only [Act.put, List.setIfInBounds_toArray, List.set_cons_zero, List.set_cons_succ, i64_w, i32_w]
      rfl
     exact norm_ (by simp only [putAll, Act.put, List.setIfInBounds_toArray, List.set_cons_zero, List.set_cons_succ]) (hCont (.slice Ao84 t331.length co84, v335, gb342) _ ⟨hHeld, (by (with_reducible repeat (first | apply Kd.R_alloc | apply Kd.R_drewN | apply Kd.R_drew)); exact Kd.R_mono HO333.out (fun _ hk => hk.2)), (by (with_reducible repeat (first | apply Kd.R_alloc | apply Kd.R_drewN | apply Kd.R_drew)); exact Kd.R_mono HO336.out (fun _ hk => hk.2)), (Up.up BK329.out), (Up.up BK342.out), GW342.out, GE342.out, NB329_342.out, NB342_329.out, (by exact h2q HB.out GE329.out GE342.out)⟩)
   ·skip
    refine box_step ?hg (N := 6) ?hd (cs := #[.int .i64 0, .int .i64 0, .int .i64 0, .int .i64 0]) (t := 26) ?hr ?_; (case hd => rfl); (case hg => rfl); (case hr => first | (go_simp; done) | (go_simp; rfl))
    intro gb342 hg w82 hbox hb
    have n0_ := Aside0.mk (blk_below (g := gb329) (Up.up BK329.out) hb)
    have n1_ := Aside0.mk (below_step (by exact h1q HB.out GE329.out) hb)
    have n2_ := Aside0.mk (hbox)
    have n3_ := Aside0.mk ((by rw [hg]; exact (below_size (by exact h1q HB.out GE329.out)) : w.heap.size ≤ gb342))
    have n4_ := Aside0.mk ((by rw [hg]; exact (below_size (by exact h1q HB.out GE329.out)) : w.heap.size ≤ gb342))
    have n5_ := Aside0.mk ((by rw [hg]; exact Nat.ne_of_lt (blk_lt (g := gb329) (Up.up BK329.out)) : gb329 ≠ gb342))
    have n6_ := Aside0.mk ((by rw [hg]; exact Nat.ne_of_gt (blk_lt (g := gb329) (Up.up BK329.out)) : gb342 ≠ gb329))
    clear BK329 HB
    have BK329 := n0_
    have HB := n1_
    have BK342 := n2_
    have GW342 := n3_
    have GE342 := n4_
    have NB329_342 := n5_
    have NB342_329 := n6_
    clear n0_ n1_ n2_ n3_ n4_ n5_ n6_ hb hbox hg
    refine hK.out _ _ ⟨(blk_cell BK329.out 0).trans rfl, (blk_cell BK329.out 1).trans rfl⟩ (fun hHeld => ?_)
    clear hK K
    refine norm_ (a' := ?_) ?_ ?_
    rotate_left
    ·show Act.put _ (some 6) _ = _
     simp only [Act.put, List.setIfInBounds_toArray, List.set_cons_zero, List.set_cons_succ, i64_w, i32_w]
     rfl
    refine one_ (i := 1) (N := some 20) #[true, true, true, true, true, false, false, false, false, false, true, false, false, false] rfl rfl (one_of HT_.out (by kernel_rfl)) (by decide) (fun K hK => ?_)
    refine goes_ Try.func8 (by kernel_rfl) rfl #[.slice A0 l0.length c0] (by rfl) rfl rfl (by (try simp only [List.map_toArray, List.map_cons, List.map_nil]); first | done | rfl | (simp only [List.length_drop, List.length_take]; rfl)) ?_
    with_reducible refine (annuitykeep_CopyLoans.calls _ _ l0 t331 _ ?side1 ?side2 A7.out).mono ?_
    (case side1 => repeat (first | exact (Kd.C_below HR0.out HB.out) | (with_reducible refine Kd.C_alloc ?_ _) | (with_reducible refine Kd.C_drewN ?_ _) | (with_reducible refine Kd.C_drew ?_)))
    (case side2 => exact HC0.out)
    rintro e w83 ⟨v332, rfl, ho0, hb⟩
    refine ⟨_, rfl, ?_⟩
    have n0_ := Aside0.mk (Kd.R_lower ho0 (below_size (by exact h2q HB.out GE329.out GE342.out)))
    have n1_ := Aside0.mk (blk_below (g := gb329) (Up.up BK329.out) hb)
    have n2_ := Aside0.mk (blk_below (g := gb342) (Up.up BK342.out) hb)
    have n3_ := Aside0.mk (below_step (by exact h2q HB.out GE329.out GE342.out) hb)
    clear BK329 BK342 HB
    have HO333 := n0_
    have BK329 := n1_
    have BK342 := n2_
    have HB := n3_
    clear n0_ n1_ n2_ n3_
    (try clear hb)
    (try clear hb2)
    (try clear hk)
    (try clear hi)
    (try clear ho0)
    obtain ⟨Ao84, co84, eo84⟩ := Kd.R_slice HO333.out
    (first | subst eo84 | (injection eo84 with f1_ f2_ f3_; have f4_ := f1_.symm; have f5_ := f3_.symm; clear f1_ f2_ f3_; subst f4_; subst f5_))
    refine hK.out _ _ ⟨(blk_cell BK329.out 0).trans rfl, (blk_cell BK329.out 1).trans rfl⟩ (fun hHeld => ?_)
    clear hK K
    refine norm_ (a' := ?_) ?_ ?_
    rotate_left
    ·show Act.put _ (some 20) _ = _
     simp only [Act.put, List.setIfInBounds_toArray, List.set_cons_zero, List.set_cons_succ, i64_w, i32_w]
     rfl
    refine one_ (i := 5) (N := some 24) #[true, true, true, true, true, true, false, false, false, false, true, false, false, false] rfl rfl (one_of HT_.out (by kernel_rfl)) (by decide) (fun K hK => ?_)
    refine goes_ Try.func9 (by kernel_rfl) rfl #[.slice Ao84 t331.length co84, .int .i64 (wrap64 (a1_0))] (by rfl) rfl rfl (by (try simp only [List.map_toArray, List.map_cons, List.map_nil]); first | done | rfl | (simp only [List.length_drop, List.length_take]; rfl)) ?_
    with_reducible refine (pay_All.calls k _ _ t331 (wrap64 (a1_0)) t334 t337 t338 t339 t340 t341 _ ?side1 ?side2 A8.out).mono ?_
    (case side1 => repeat (first | exact (Kd.R_reads' HO333.out).2.2 | (with_reducible refine Kd.C_alloc ?_ _) | (with_reducible refine Kd.C_drewN ?_ _) | (with_reducible refine Kd.C_drew ?_)))
    (case side2 => exact (Kd.R_reads' HO333.out).2.1)
    rintro e w85 ⟨v335, rfl, ho0, hb⟩
    refine ⟨_, rfl, ?_⟩
    have n0_ := Aside0.mk (Kd.R_elder' (by exact rq HO333.out) (Kd.R_base ho0) hb)
    have n1_ := Aside0.mk (Kd.R_lower (Kd.R_new' ho0 (Kd.R_lt (by exact rq HO333.out))) (below_size (by exact h2q HB.out GE329.out GE342.out)))
    have n2_ := Aside0.mk (blk_below (g := gb329) (Up.up BK329.out) hb)
    have n3_ := Aside0.mk (blk_below (g := gb342) (Up.up BK342.out) hb)
    have n4_ := Aside0.mk (below_step (by exact h2q HB.out GE329.out GE342.out) hb)
    clear HO333 BK329 BK342 HB
    have HO333 := n0_
    have HO336 := n1_
    have BK329 := n2_
    have BK342 := n3_
    have HB := n4_
    clear n0_ n1_ n2_ n3_ n4_
    (try clear hb)
    (try clear hb2)
    (try clear hk)
    (try clear hi)
    (try clear ho0)
    refine hK.out _ _ ⟨(blk_cell BK329.out 0).trans rfl, (blk_cell BK329.out 1).trans rfl⟩ (fun hHeld => ?_)
    clear hK K
    refine norm_ (a' := ?_) ?_ ?_
    rotate_left
    ·show Act.put _ (some 24) _ = _
     simp only [Act.put, List.setIfInBounds_toArray, List.set_cons_zero, List.set_cons_succ, i64_w, i32_w]
     rfl
    refine pure_ (i := 6) (N := some 18) (v := ?_) (a' := ?_) #[true, true, true, true, true, true, true, false, false, false, true, false, false, false] rfl rfl (any_of HT_.out (by kernel_rfl)) (fun _ _ _ h => h) (Or.inl ⟨by rfl, ?_⟩) ?_ ?_
    rotate_left
    ·intro w'
     go_simp
     with_reducible rfl
    rotate_left
    ·simp only [Act.put, List.setIfInBounds_toArray, List.set_cons_zero, List.set_cons_succ, i64_w, i32_w]
     rfl
    refine pure_ (i := 7) (N := some 25) (v := ?_) (a' := ?_) #[true, true, true, true, true, true, true, true, false, false, true, false, false, false] rfl rfl (any_of HT_.out (by kernel_rfl)) (fun _ _ _ h => h) (Or.inl ⟨by rfl, ?_⟩) ?_ ?_
    rotate_left
    ·intro w'
     go_simp
     with_reducible rfl
    rotate_left
    ·simp only [Act.put, List.setIfInBounds_toArray, List.set_cons_zero, List.set_cons_succ, i64_w, i32_w]
     rfl
    refine pure_ (i := 8) (N := some 26) (v := ?_) (a' := ?_) #[true, true, true, true, true, true, true, true, true, false, true, false, false, false] rfl rfl (any_of HT_.out (by kernel_rfl)) (fun _ _ _ h => h) (Or.inl ⟨by rfl, ?_⟩) ?_ ?_
    rotate_left
    ·intro w'
     go_simp
     with_reducible rfl
    rotate_left
    ·simp only [Act.put, List.setIfInBounds_toArray, List.set_cons_zero, List.set_cons_succ, i64_w, i32_w]
     rfl
    refine pure_ (i := 9) (N := some 27) (v := ?_) (a' := ?_) #[true, true, true, true, true, true, true, true, true, true, true, false, false, false] rfl rfl (any_of HT_.out (by kernel_rfl)) (fun _ _ _ h => h) (Or.inl ⟨by rfl, ?_⟩) ?_ ?_
    rotate_left
    ·intro w'
     go_simp
     with_reducible rfl
    rotate_left
    ·simp only [Act.put, List.setIfInBounds_toArray, List.set_cons_zero, List.set_cons_succ, i64_w, i32_w]
     rfl
    exact norm_ (by simp only [putAll, Act.put, List.setIfInBounds_toArray, List.set_cons_zero, List.set_cons_succ]) (hCont (.slice Ao84 t331.length co84, v335, gb342) _ ⟨hHeld, (by (with_reducible repeat (first | apply Kd.R_alloc | apply Kd.R_drewN | apply Kd.R_drew)); exact Kd.R_mono HO333.out (fun _ hk => hk.2)), (by (with_reducible repeat (first | apply Kd.R_alloc | apply Kd.R_drewN | apply Kd.R_drew)); exact Kd.R_mono HO336.out (fun _ hk => hk.2)), (Up.up BK329.out), (Up.up BK342.out), GW342.out, GE342.out, NB329_342.out, NB342_329.out, (by exact h2q HB.out GE329.out GE342.out)⟩)
  rintro ⟨v332, v335, gb342⟩ w86 ⟨hS_, h0_, h1_, h2_, h3_, h4_, h5_, h6_, h7_, h8_⟩
  have n0_ : Aside0 (Kd.R k43 43 w86 w.heap.size (fun k_ => some k_ ≠ (v335 : Value).ownBlock) v332 t331) := ⟨h0_⟩
  have n1_ : Aside0 (Kd.R k43 43 w86 w.heap.size (fun k_ => some k_ ≠ (v332 : Value).ownBlock) v335 t334) := ⟨h1_⟩
  have n2_ : Aside0 (w86.heap[gb329]? = some (.cells #[.int .u32 a1_0, .int .u32 a1_1] 46 (0, 0))) := ⟨h2_⟩
  have n3_ : Aside0 (w86.heap[gb342]? = some (.cells #[.int .i64 0, .int .i64 0, .int .i64 0, .int .i64 0] 26 (0, 0))) := ⟨h3_⟩
  have n4_ : Aside0 (w.heap.size ≤ gb342) := ⟨h4_⟩
  have n5_ : Aside0 (w.heap.size ≤ gb342) := ⟨h5_⟩
  have n6_ : Aside0 (gb329 ≠ gb342) := ⟨h6_⟩
  have n7_ : Aside0 (gb342 ≠ gb329) := ⟨h7_⟩
  have n8_ : Aside0 (Below w.heap.size w w86) := ⟨h8_⟩
  clear BK329 HB h0_ h1_ h2_ h3_ h4_ h5_ h6_ h7_ h8_
  have HO333 := n0_
  have HO336 := n1_
  have BK329 := n2_
  have BK342 := n3_
  have GW342 := n4_
  have GE342 := n5_
  have NB329_342 := n6_
  have NB342_329 := n7_
  have HB := n8_
  clear n0_ n1_ n2_ n3_ n4_ n5_ n6_ n7_ n8_
  have hHeld : w86.cell? ⟨gb329, 0, none⟩ = some (.int .u32 a1_0) ∧ w86.cell? ⟨gb329, 1, none⟩ = some (.int .u32 a1_1) := hS_
  refine norm_ (a' := ?_) ?_ ?_
  rotate_left
  ·simp only [putAll, Act.put, List.setIfInBounds_toArray, List.set_cons_zero, List.set_cons_succ]
   rfl
  refine pure_ (i := 11) (N := some 5) (v := ?_) (a' := ?_) #[true, true, true, true, true, true, true, true, true, true, true, true, false, false] rfl rfl (any_of HT_.out (by kernel_rfl)) (fun _ _ _ h => h) (Or.inl ⟨by rfl, ?_⟩) ?_ ?_
  rotate_left
  ·intro w'
   go_simp
   with_reducible rfl
  rotate_left
  ·simp only [Act.put, List.setIfInBounds_toArray, List.set_cons_zero, List.set_cons_succ, i64_w, i32_w]
   rfl
  refine one_ (i := 12) (N := none) #[true, true, true, true, true, true, true, true, true, true, true, true, true, false] rfl rfl (one_of HT_.out (by kernel_rfl)) (by decide) (fun K hK => ?_)
  have hs87 : w86.cell? ⟨gb342, 0, none⟩ = some (.int .i64 0) := (blk_cell BK342.out 0).trans rfl
  have hfs87 := blk_frozen BK342.out 0
  have hns87_0 := NB329_342.out
  have hms87_0 := NB342_329.out
  have hs88 : w86.cell? ⟨gb342, 1, none⟩ = some (.int .i64 0) := (blk_cell BK342.out 1).trans rfl
  have hfs88 := blk_frozen BK342.out 1
  have hns88_0 := NB329_342.out
  have hms88_0 := NB342_329.out
  have hs89 : w86.cell? ⟨gb342, 2, none⟩ = some (.int .i64 0) := (blk_cell BK342.out 2).trans rfl
  have hfs89 := blk_frozen BK342.out 2
  have hns89_0 := NB329_342.out
  have hms89_0 := NB342_329.out
  have hs90 : w86.cell? ⟨gb342, 3, none⟩ = some (.int .i64 0) := (blk_cell BK342.out 3).trans rfl
  have hfs90 := blk_frozen BK342.out 3
  have hns90_0 := NB329_342.out
  have hms90_0 := NB342_329.out
  refine skip_ (w1 := ?_) (by rfl) rfl ?_ ?_
  rotate_left
  ·go_simp
   rfl
  refine hK.out _ _ ⟨((cell_far (p := ⟨gb342, _, none⟩) NB329_342.out _).trans (((cell_far (p := ⟨gb342, _, none⟩) NB329_342.out _).trans (((cell_far (p := ⟨gb342, _, none⟩) NB329_342.out _).trans (((cell_far (p := ⟨gb342, _, none⟩) NB329_342.out _).trans (hHeld.1)))))))), ((cell_far (p := ⟨gb342, _, none⟩) NB329_342.out _).trans (((cell_far (p := ⟨gb342, _, none⟩) NB329_342.out _).trans (((cell_far (p := ⟨gb342, _, none⟩) NB329_342.out _).trans (((cell_far (p := ⟨gb342, _, none⟩) NB329_342.out _).trans (hHeld.2))))))))⟩ (fun hHeld => ?_)
  clear hK K
  refine pure_ (i := 13) (N := some 7) (v := ?_) (a' := ?_) #[true, true, true, true, true, true, true, true, true, true, true, true, true, true] rfl rfl (any_of HT_.out (by kernel_rfl)) (fun _ _ _ h => h) (Or.inl ⟨by rfl, ?_⟩) ?_ ?_
  rotate_left
  ·intro w'
   go_simp
   with_reducible rfl
  rotate_left
  ·simp only [Act.put, List.setIfInBounds_toArray, List.set_cons_zero, List.set_cons_succ, i64_w, i32_w]
   rfl
  refine done_ (done_of HT_.out (by kernel_rfl)) ?_
  try go_wp2_with (first | ((with_reducible refine gate_callee (f := 7) rfl ?_); refine goesL_ (some 35) rfl rfl Try.func7 (by kernel_rfl) rfl #[] rfl (by (try simp only [List.map_toArray, List.map_cons, List.map_nil]); first | done | rfl | (simp only [List.length_drop, List.length_take]; rfl)) ?_; (with_reducible refine (annuitylaw20_wakes.calls k  t367 _ A79.out).mono ?_); rintro e w91 ⟨rfl, hb⟩; refine ⟨_, rfl, ?_⟩; have n0_ := Aside0.mk (Kd.R_below (by (with_reducible repeat (first | apply Kd.R_alloc | apply Kd.R_drewN | apply Kd.R_drew)); exact (Kd.R_mono (Kd.R_far (p := ⟨gb342, 3, none⟩) (Kd.R_far (p := ⟨gb342, 2, none⟩) (Kd.R_far (p := ⟨gb342, 1, none⟩) (Kd.R_far (p := ⟨gb342, 0, none⟩) (Kd.R_types HO333.out BK342.out (by decide)) (fun _ hk => hk.2) (.int .i64 t337)) (fun _ hk => hk.2) (.int .i64 t338)) (fun _ hk => hk.2) (.int .i64 t339)) (fun _ hk => hk.2) (.int .i64 t340)) (fun _ h_ => h_.1))) hb); have n1_ := Aside0.mk (Kd.R_below (by (with_reducible repeat (first | apply Kd.R_alloc | apply Kd.R_drewN | apply Kd.R_drew)); exact (Kd.R_mono (Kd.R_far (p := ⟨gb342, 3, none⟩) (Kd.R_far (p := ⟨gb342, 2, none⟩) (Kd.R_far (p := ⟨gb342, 1, none⟩) (Kd.R_far (p := ⟨gb342, 0, none⟩) (Kd.R_types HO336.out BK342.out (by decide)) (fun _ hk => hk.2) (.int .i64 t337)) (fun _ hk => hk.2) (.int .i64 t338)) (fun _ hk => hk.2) (.int .i64 t339)) (fun _ hk => hk.2) (.int .i64 t340)) (fun _ h_ => h_.1))) hb); have n2_ := Aside0.mk (blk_below (g := gb329) (o := .cells #[.int .u32 a1_0, .int .u32 a1_1] 46 (0, 0)) (by (iterate 4 ((with_reducible repeat (first | refine blk_drewN ?_ _ | refine blk_drew ?_ | refine blk_alloc ?_ _)); refine blk_far ?_ NB329_342.out _)); (with_reducible repeat (first | refine blk_drewN ?_ _ | refine blk_drew ?_ | refine blk_alloc ?_ _)); exact BK329.out) hb); have n3_ := Aside0.mk (blk_below (g := gb342) (o := .cells #[.int .i64 t337, .int .i64 t338, .int .i64 t339, .int .i64 t340] 26 (0, 0)) (by (with_reducible repeat (first | refine blk_drewN ?_ _ | refine blk_drew ?_ | refine blk_alloc ?_ _)); refine blk_put (cs := #[.int .i64 t337, .int .i64 t338, .int .i64 t339, .int .i64 0]) ?_ 3 _ rfl; (with_reducible repeat (first | refine blk_drewN ?_ _ | refine blk_drew ?_ | refine blk_alloc ?_ _)); refine blk_put (cs := #[.int .i64 t337, .int .i64 t338, .int .i64 0, .int .i64 0]) ?_ 2 _ rfl; (with_reducible repeat (first | refine blk_drewN ?_ _ | refine blk_drew ?_ | refine blk_alloc ?_ _)); refine blk_put (cs := #[.int .i64 t337, .int .i64 0, .int .i64 0, .int .i64 0]) ?_ 1 _ rfl; (with_reducible repeat (first | refine blk_drewN ?_ _ | refine blk_drew ?_ | refine blk_alloc ?_ _)); refine blk_put (cs := #[.int .i64 0, .int .i64 0, .int .i64 0, .int .i64 0]) ?_ 0 _ rfl; (with_reducible repeat (first | refine blk_drewN ?_ _ | refine blk_drew ?_ | refine blk_alloc ?_ _)); exact BK342.out) hb); have n4_ := Aside0.mk (below_step (by exact h2q HB.out GE329.out GE342.out) hb); clear HO333; clear HO336; clear BK329; clear BK342; clear HB; have HO333 := n0_; have HO336 := n1_; have BK329 := n2_; have BK342 := n3_; have HB := n4_; clear n0_ n1_ n2_ n3_ n4_; (try clear hb); (try clear hb2); (try clear hk); (try clear hi)))
  go_ret
  exact ⟨by first | rfl | (simp [errW_none, errW_some] <;> rfl) | (simp [*, errW_none, errW_some] <;> rfl), by exact h2q HB.out GE329.out GE342.out⟩

 rw [if_pos c9] at H
 have c9b0 : (t341 == 0) = true := beq_iff_eq.mpr c9
 have c9b1 : (t341 != 0) = false := bne_eq_false_iff_eq.mpr c9
 clear c9
 by_cases c10 : t340 > 0
 ·rw [if_pos c10] at H
  have c10b0 : decide (0 < t340) = true := decide_eq_true c10
  clear c10
  replace H := Option.bind_eq_some_iff.mp H
  obtain ⟨t343, A110, H⟩ := H
  replace H : (some t343) = some r := H
  have A11 := Aside0.mk A110
  clear A110
  obtain rfl := Option.some.inj H
  go_enter Try.func5, Try.ntmps5
  try go_wp2_with (first | ((with_reducible refine gate_dst (N := 3) rfl ?_); refine box_event ?hg (N := 3) ?hd (cs := #[.int .u32 a1_0, .int .u32 a1_1]) (t := 46) ?hr ?_; (case hd => rfl); (case hg => rfl); (case hr => first | (go_simp; done) | (go_simp; rfl)); intro gb329 hg w12 hbox hb; have n0_ := Aside0.mk (below_step (by exact h0q HB.out) hb); have n1_ := Aside0.mk (hbox); have n2_ := Aside0.mk ((by rw [hg]; exact (below_size (by exact h0q HB.out)) : w.heap.size ≤ gb329)); have n3_ := Aside0.mk ((by rw [hg]; exact (below_size (by exact h0q HB.out)) : w.heap.size ≤ gb329)); clear HB; have HB := n0_; have BK329 := n1_; have GW329 := n2_; have GE329 := n3_; clear n0_ n1_ n2_ n3_; clear hb hbox hg))
  have n0_ := Aside0.mk (blk_drew BK329.out)
  have n1_ := Aside0.mk (below_drew1 HB.out)
  clear BK329 HB
  have BK329 := n0_
  have HB := n1_
  clear n0_ n1_
  refine start_ (n := 14) (S := fun w' => w'.cell? ⟨gb329, 0, none⟩ = some (.int .u32 a1_0) ∧ w'.cell? ⟨gb329, 1, none⟩ = some (.int .u32 a1_1)) (ds := []) #[false, false, false, false, false, false, false, false, false, false, false, false, false, false] (by kernel_rfl) rfl rfl ⟨(blk_cell BK329.out 0).trans rfl, (blk_cell BK329.out 1).trans rfl⟩ (fun hHeld => ?_); refine with_tabW annuitylaw20_PayTwice.tab3 annuitylaw20_PayTwice.bits3 (fun HT_ HW_ => ?_)
  generalize w12.drew = w13 at BK329 HB hHeld ⊢
  refine pure_ (i := 0) (N := some 19) (v := ?_) (a' := ?_) #[true, false, false, false, false, false, false, false, false, false, false, false, false, false] rfl rfl (any_of HT_.out (by kernel_rfl)) (fun _ _ _ h => h) (Or.inl ⟨by rfl, ?_⟩) ?_ ?_
  rotate_left
  ·intro w'
   go_simp
   with_reducible rfl
  rotate_left
  ·simp only [Act.put, List.setIfInBounds_toArray, List.set_cons_zero, List.set_cons_succ, i64_w, i32_w]
   rfl
  refine pure_ (i := 2) (N := some 21) (v := ?_) (a' := ?_) #[true, false, true, false, false, false, false, false, false, false, false, false, false, false] rfl rfl (any_of HT_.out (by kernel_rfl)) (fun _ _ _ h => h) (Or.inl ⟨by rfl, ?_⟩) ?_ ?_
  rotate_left
  ·intro w'
   go_simp
   with_reducible rfl
  rotate_left
  ·simp only [Act.put, List.setIfInBounds_toArray, List.set_cons_zero, List.set_cons_succ, i64_w, i32_w]
   rfl
  refine take_ (i := 3) (N := some 22) (v := ?_) (a' := ?_) #[true, false, true, true, false, false, false, false, false, false, false, false, false, false] rfl rfl (take_ofW HT_.out HW_.out (by kernel_rfl)) (fun _ _ _ h => h) (Or.inl ⟨by rfl, ?_⟩) hHeld ?_ ?_
  rotate_left
  ·rintro w' ⟨s0, s1⟩
   go_simp
   with_reducible rfl
  rotate_left
  ·simp only [Act.put, List.setIfInBounds_toArray, List.set_cons_zero, List.set_cons_succ, i64_w, i32_w]
   rfl
  refine pure_ (i := 4) (N := some 23) (v := ?_) (a' := ?_) #[true, false, true, true, true, false, false, false, false, false, false, false, false, false] rfl rfl (any_of HT_.out (by kernel_rfl)) (fun _ _ _ h => h) (Or.inl ⟨by rfl, ?_⟩) ?_ ?_
  rotate_left
  ·intro w'
   go_simp
   with_reducible rfl
  rotate_left
  ·simp only [Act.put, List.setIfInBounds_toArray, List.set_cons_zero, List.set_cons_succ, i64_w, i32_w]
   rfl
  refine join_ (σ := Value × Value × Nat) 3 #[true, true, true, true, true, true, true, true, true, true, true, false, false, false] (fun s_ => [(20, s_.1), (24, .tuple #[s_.2.1, .agg #[.int .i64 t337, .int .i64 t338, .int .i64 t339, .int .i64 t340], .int .i64 t341]), (6, .pointer (some ⟨s_.2.2, 0, none⟩)), (18, .tuple #[s_.2.1, .agg #[.int .i64 t337, .int .i64 t338, .int .i64 t339, .int .i64 t340], .int .i64 t341]), (25, s_.2.1), (26, .agg #[.int .i64 t337, .int .i64 t338, .int .i64 t339, .int .i64 t340]), (27, .int .i64 t341)]) (fun s_ w' => (w'.cell? ⟨gb329, 0, none⟩ = some (.int .u32 a1_0) ∧ w'.cell? ⟨gb329, 1, none⟩ = some (.int .u32 a1_1)) ∧ (Kd.R k43 43 w' w.heap.size (fun k_ => some k_ ≠ (s_.2.1 : Value).ownBlock) s_.1 t331) ∧ (Kd.R k43 43 w' w.heap.size (fun k_ => some k_ ≠ (s_.1 : Value).ownBlock) s_.2.1 t334) ∧ (w'.heap[gb329]? = some (.cells #[.int .u32 a1_0, .int .u32 a1_1] 46 (0, 0))) ∧ (w'.heap[s_.2.2]? = some (.cells #[.int .i64 0, .int .i64 0, .int .i64 0, .int .i64 0] 26 (0, 0))) ∧ (w.heap.size ≤ s_.2.2) ∧ (w.heap.size ≤ s_.2.2) ∧ (gb329 ≠ s_.2.2) ∧ (s_.2.2 ≠ gb329) ∧ (Below w.heap.size w w')) ?_ ?_
  rotate_left
  ·intro hCont
   refine two_ (i := 1) (j := 10) (Ni := some 20) (Nj := some 6) #[true, true, true, true, true, false, false, false, false, false, false, false, false, false] #[true, false, true, true, true, false, false, false, false, false, true, false, false, false] rfl rfl rfl rfl (two_of HT_.out (by kernel_rfl)) (by decide) (by decide) (fun K hK => ?_) (fun K hK => ?_)
   ·skip
    refine goes_ Try.func8 (by kernel_rfl) rfl #[.slice A0 l0.length c0] (by rfl) rfl rfl (by (try simp only [List.map_toArray, List.map_cons, List.map_nil]); first | done | rfl | (simp only [List.length_drop, List.length_take]; rfl)) ?_
    with_reducible refine (annuitykeep_CopyLoans.calls _ _ l0 t331 _ ?side1 ?side2 A7.out).mono ?_
    (case side1 => repeat (first | exact (Kd.C_below HR0.out HB.out) | (with_reducible refine Kd.C_alloc ?_ _) | (with_reducible refine Kd.C_drewN ?_ _) | (with_reducible refine Kd.C_drew ?_)))
    (case side2 => exact HC0.out)
    rintro e w14 ⟨v332, rfl, ho0, hb⟩
    refine ⟨_, rfl, ?_⟩
    have n0_ := Aside0.mk (Kd.R_lower ho0 (below_size (by exact h1q HB.out GE329.out)))
    have n1_ := Aside0.mk (blk_below (g := gb329) (Up.up BK329.out) hb)
    have n2_ := Aside0.mk (below_step (by exact h1q HB.out GE329.out) hb)
    clear BK329 HB
    have HO333 := n0_
    have BK329 := n1_
    have HB := n2_
    clear n0_ n1_ n2_
    (try clear hb)
    (try clear hb2)
    (try clear hk)
    (try clear hi)
    (try clear ho0)
    obtain ⟨Ao15, co15, eo15⟩ := Kd.R_slice HO333.out
    (first | subst eo15 | (injection eo15 with f1_ f2_ f3_; have f4_ := f1_.symm; have f5_ := f3_.symm; clear f1_ f2_ f3_; subst f4_; subst f5_))
    refine hK.out _ _ ⟨(blk_cell BK329.out 0).trans rfl, (blk_cell BK329.out 1).trans rfl⟩ (fun hHeld => ?_)
    clear hK K
    refine norm_ (a' := ?_) ?_ ?_
    rotate_left
    ·show Act.put _ (some 20) _ = _
     simp only [Act.put, List.setIfInBounds_toArray, List.set_cons_zero, List.set_cons_succ, i64_w, i32_w]
     rfl
    refine two_ (i := 5) (j := 10) (Ni := some 24) (Nj := some 6) #[true, true, true, true, true, true, false, false, false, false, false, false, false, false] #[true, true, true, true, true, false, false, false, false, false, true, false, false, false] rfl rfl rfl rfl (two_of HT_.out (by kernel_rfl)) (by decide) (by decide) (fun K hK => ?_) (fun K hK => ?_)
    ·skip
     refine goes_ Try.func9 (by kernel_rfl) rfl #[.slice Ao15 t331.length co15, .int .i64 (wrap64 (a1_0))] (by rfl) rfl rfl (by (try simp only [List.map_toArray, List.map_cons, List.map_nil]); first | done | rfl | (simp only [List.length_drop, List.length_take]; rfl)) ?_
     with_reducible refine (pay_All.calls k _ _ t331 (wrap64 (a1_0)) t334 t337 t338 t339 t340 t341 _ ?side1 ?side2 A8.out).mono ?_
     (case side1 => repeat (first | exact (Kd.R_reads' HO333.out).2.2 | (with_reducible refine Kd.C_alloc ?_ _) | (with_reducible refine Kd.C_drewN ?_ _) | (with_reducible refine Kd.C_drew ?_)))
     (case side2 => exact (Kd.R_reads' HO333.out).2.1)
     rintro e w16 ⟨v335, rfl, ho0, hb⟩
     refine ⟨_, rfl, ?_⟩
     have n0_ := Aside0.mk (Kd.R_elder' (by exact rq HO333.out) (Kd.R_base ho0) hb)
     have n1_ := Aside0.mk (Kd.R_lower (Kd.R_new' ho0 (Kd.R_lt (by exact rq HO333.out))) (below_size (by exact h1q HB.out GE329.out)))
     have n2_ := Aside0.mk (blk_below (g := gb329) (Up.up BK329.out) hb)
     have n3_ := Aside0.mk (below_step (by exact h1q HB.out GE329.out) hb)
     clear HO333 BK329 HB
     have HO333 := n0_
     have HO336 := n1_
     have BK329 := n2_
     have HB := n3_
     clear n0_ n1_ n2_ n3_
     (try clear hb)
     (try clear hb2)
     (try clear hk)
     (try clear hi)
     (try clear ho0)
     refine hK.out _ _ ⟨(blk_cell BK329.out 0).trans rfl, (blk_cell BK329.out 1).trans rfl⟩ (fun hHeld => ?_)
     clear hK K
     refine norm_ (a' := ?_) ?_ ?_
     rotate_left
     ·show Act.put _ (some 24) _ = _
      simp only [Act.put, List.setIfInBounds_toArray, List.set_cons_zero, List.set_cons_succ, i64_w, i32_w]
      rfl
     refine pure_ (i := 6) (N := some 18) (v := ?_) (a' := ?_) #[true, true, true, true, true, true, true, false, false, false, false, false, false, false] rfl rfl (any_of HT_.out (by kernel_rfl)) (fun _ _ _ h => h) (Or.inl ⟨by rfl, ?_⟩) ?_ ?_
     rotate_left
     ·intro w'
      go_simp
      with_reducible rfl
     rotate_left
     ·simp only [Act.put, List.setIfInBounds_toArray, List.set_cons_zero, List.set_cons_succ, i64_w, i32_w]
      rfl
     refine pure_ (i := 7) (N := some 25) (v := ?_) (a' := ?_) #[true, true, true, true, true, true, true, true, false, false, false, false, false, false] rfl rfl (any_of HT_.out (by kernel_rfl)) (fun _ _ _ h => h) (Or.inl ⟨by rfl, ?_⟩) ?_ ?_
     rotate_left
     ·intro w'
      go_simp
      with_reducible rfl
     rotate_left
     ·simp only [Act.put, List.setIfInBounds_toArray, List.set_cons_zero, List.set_cons_succ, i64_w, i32_w]
      rfl
     refine pure_ (i := 8) (N := some 26) (v := ?_) (a' := ?_) #[true, true, true, true, true, true, true, true, true, false, false, false, false, false] rfl rfl (any_of HT_.out (by kernel_rfl)) (fun _ _ _ h => h) (Or.inl ⟨by rfl, ?_⟩) ?_ ?_
     rotate_left
     ·intro w'
      go_simp
      with_reducible rfl
     rotate_left
     ·simp only [Act.put, List.setIfInBounds_toArray, List.set_cons_zero, List.set_cons_succ, i64_w, i32_w]
      rfl
     refine pure_ (i := 9) (N := some 27) (v := ?_) (a' := ?_) #[true, true, true, true, true, true, true, true, true, true, false, false, false, false] rfl rfl (any_of HT_.out (by kernel_rfl)) (fun _ _ _ h => h) (Or.inl ⟨by rfl, ?_⟩) ?_ ?_
     rotate_left
     ·intro w'
      go_simp
      with_reducible rfl
     rotate_left
     ·simp only [Act.put, List.setIfInBounds_toArray, List.set_cons_zero, List.set_cons_succ, i64_w, i32_w]
      rfl
     refine one_ (i := 10) (N := some 6) #[true, true, true, true, true, true, true, true, true, true, true, false, false, false] rfl rfl (one_of HT_.out (by kernel_rfl)) (by decide) (fun K hK => ?_)
     refine box_step ?hg (N := 6) ?hd (cs := #[.int .i64 0, .int .i64 0, .int .i64 0, .int .i64 0]) (t := 26) ?hr ?_; (case hd => rfl); (case hg => rfl); (case hr => first | (go_simp; done) | (go_simp; rfl))
     intro gb342 hg w17 hbox hb
     have n0_ := Aside0.mk (Kd.R_below (by exact rq HO333.out) hb)
     have n1_ := Aside0.mk (Kd.R_below (by exact rq HO336.out) hb)
     have n2_ := Aside0.mk (blk_below (g := gb329) (Up.up BK329.out) hb)
     have n3_ := Aside0.mk (below_step (by exact h1q HB.out GE329.out) hb)
     have n4_ := Aside0.mk (hbox)
     have n5_ := Aside0.mk ((by rw [hg]; exact (below_size (by exact h1q HB.out GE329.out)) : w.heap.size ≤ gb342))
     have n6_ := Aside0.mk ((by rw [hg]; exact (below_size (by exact h1q HB.out GE329.out)) : w.heap.size ≤ gb342))
     have n7_ := Aside0.mk ((by rw [hg]; exact Nat.ne_of_lt (blk_lt (g := gb329) (Up.up BK329.out)) : gb329 ≠ gb342))
     have n8_ := Aside0.mk ((by rw [hg]; exact Nat.ne_of_gt (blk_lt (g := gb329) (Up.up BK329.out)) : gb342 ≠ gb329))
     clear HO333 HO336 BK329 HB
     have HO333 := n0_
     have HO336 := n1_
     have BK329 := n2_
     have HB := n3_
     have BK342 := n4_
     have GW342 := n5_
     have GE342 := n6_
     have NB329_342 := n7_
     have NB342_329 := n8_
     clear n0_ n1_ n2_ n3_ n4_ n5_ n6_ n7_ n8_ hb hbox hg
     refine hK.out _ _ ⟨(blk_cell BK329.out 0).trans rfl, (blk_cell BK329.out 1).trans rfl⟩ (fun hHeld => ?_)
     clear hK K
     refine norm_ (a' := ?_) ?_ ?_
     rotate_left
     ·show Act.put _ (some 6) _ = _
      simp only [Act.put, List.setIfInBounds_toArray, List.set_cons_zero, List.set_cons_succ, i64_w, i32_w]
      rfl
     exact norm_ (by simp only [putAll, Act.put, List.setIfInBounds_toArray, List.set_cons_zero, List.set_cons_succ]) (hCont (.slice Ao15 t331.length co15, v335, gb342) _ ⟨hHeld, (by (with_reducible repeat (first | apply Kd.R_alloc | apply Kd.R_drewN | apply Kd.R_drew)); exact Kd.R_mono HO333.out (fun _ hk => hk.2)), (by (with_reducible repeat (first | apply Kd.R_alloc | apply Kd.R_drewN | apply Kd.R_drew)); exact Kd.R_mono HO336.out (fun _ hk => hk.2)), (Up.up BK329.out), (Up.up BK342.out), GW342.out, GE342.out, NB329_342.out, NB342_329.out, (by exact h2q HB.out GE329.out GE342.out)⟩)
    ·skip
     refine box_step ?hg (N := 6) ?hd (cs := #[.int .i64 0, .int .i64 0, .int .i64 0, .int .i64 0]) (t := 26) ?hr ?_; (case hd => rfl); (case hg => rfl); (case hr => first | (go_simp; done) | (go_simp; rfl))
     intro gb342 hg w15 hbox hb
     have n0_ := Aside0.mk (Kd.R_below (by exact rq HO333.out) hb)
     have n1_ := Aside0.mk (blk_below (g := gb329) (Up.up BK329.out) hb)
     have n2_ := Aside0.mk (below_step (by exact h1q HB.out GE329.out) hb)
     have n3_ := Aside0.mk (hbox)
     have n4_ := Aside0.mk ((by rw [hg]; exact (below_size (by exact h1q HB.out GE329.out)) : w.heap.size ≤ gb342))
     have n5_ := Aside0.mk ((by rw [hg]; exact (below_size (by exact h1q HB.out GE329.out)) : w.heap.size ≤ gb342))
     have n6_ := Aside0.mk ((by rw [hg]; exact Nat.ne_of_lt (blk_lt (g := gb329) (Up.up BK329.out)) : gb329 ≠ gb342))
     have n7_ := Aside0.mk ((by rw [hg]; exact Nat.ne_of_gt (blk_lt (g := gb329) (Up.up BK329.out)) : gb342 ≠ gb329))
     clear HO333 BK329 HB
     have HO333 := n0_
     have BK329 := n1_
     have HB := n2_
     have BK342 := n3_
     have GW342 := n4_
     have GE342 := n5_
     have NB329_342 := n6_
     have NB342_329 := n7_
     clear n0_ n1_ n2_ n3_ n4_ n5_ n6_ n7_ hb hbox hg
     obtain ⟨Ao16, co16, eo16⟩ := Kd.R_slice HO333.out
     (first | subst eo16 | (injection eo16 with f1_ f2_ f3_; have f4_ := f1_.symm; have f5_ := f3_.symm; clear f1_ f2_ f3_; subst f4_; subst f5_))
     refine hK.out _ _ ⟨(blk_cell BK329.out 0).trans rfl, (blk_cell BK329.out 1).trans rfl⟩ (fun hHeld => ?_)
     clear hK K
     refine norm_ (a' := ?_) ?_ ?_
     rotate_left
     ·show Act.put _ (some 6) _ = _
      simp only [Act.put, List.setIfInBounds_toArray, List.set_cons_zero, List.set_cons_succ, i64_w, i32_w]
      rfl
     refine one_ (i := 5) (N := some 24) #[true, true, true, true, true, true, false, false, false, false, true, false, false, false] rfl rfl (one_of HT_.out (by kernel_rfl)) (by decide) (fun K hK => ?_)
     refine goes_ Try.func9 (by kernel_rfl) rfl #[.slice Ao16 t331.length co16, .int .i64 (wrap64 (a1_0))] (by rfl) rfl rfl (by (try simp only [List.map_toArray, List.map_cons, List.map_nil]); first | done | rfl | (simp only [List.length_drop, List.length_take]; rfl)) ?_
     with_reducible refine (pay_All.calls k _ _ t331 (wrap64 (a1_0)) t334 t337 t338 t339 t340 t341 _ ?side1 ?side2 A8.out).mono ?_
     (case side1 => repeat (first | exact (Kd.R_reads' HO333.out).2.2 | (with_reducible refine Kd.C_alloc ?_ _) | (with_reducible refine Kd.C_drewN ?_ _) | (with_reducible refine Kd.C_drew ?_)))
     (case side2 => exact (Kd.R_reads' HO333.out).2.1)
     rintro e w17 ⟨v335, rfl, ho0, hb⟩
     refine ⟨_, rfl, ?_⟩
     have n0_ := Aside0.mk (Kd.R_elder' (by exact rq HO333.out) (Kd.R_base ho0) hb)
     have n1_ := Aside0.mk (Kd.R_lower (Kd.R_new' ho0 (Kd.R_lt (by exact rq HO333.out))) (below_size (by exact h2q HB.out GE329.out GE342.out)))
     have n2_ := Aside0.mk (blk_below (g := gb329) (Up.up BK329.out) hb)
     have n3_ := Aside0.mk (blk_below (g := gb342) (Up.up BK342.out) hb)
     have n4_ := Aside0.mk (below_step (by exact h2q HB.out GE329.out GE342.out) hb)
     clear HO333 BK329 BK342 HB
     have HO333 := n0_
     have HO336 := n1_
     have BK329 := n2_
     have BK342 := n3_
     have HB := n4_
     clear n0_ n1_ n2_ n3_ n4_
     (try clear hb)
     (try clear hb2)
     (try clear hk)
     (try clear hi)
     (try clear ho0)
     refine hK.out _ _ ⟨(blk_cell BK329.out 0).trans rfl, (blk_cell BK329.out 1).trans rfl⟩ (fun hHeld => ?_)
     clear hK K
     refine norm_ (a' := ?_) ?_ ?_
     rotate_left
     ·show Act.put _ (some 24) _ = _
      simp only [Act.put, List.setIfInBounds_toArray, List.set_cons_zero, List.set_cons_succ, i64_w, i32_w]
      rfl
     refine pure_ (i := 6) (N := some 18) (v := ?_) (a' := ?_) #[true, true, true, true, true, true, true, false, false, false, true, false, false, false] rfl rfl (any_of HT_.out (by kernel_rfl)) (fun _ _ _ h => h) (Or.inl ⟨by rfl, ?_⟩) ?_ ?_
     rotate_left
     ·intro w'
      go_simp
      with_reducible rfl
     rotate_left
     ·simp only [Act.put, List.setIfInBounds_toArray, List.set_cons_zero, List.set_cons_succ, i64_w, i32_w]
      rfl
     refine pure_ (i := 7) (N := some 25) (v := ?_) (a' := ?_) #[true, true, true, true, true, true, true, true, false, false, true, false, false, false] rfl rfl (any_of HT_.out (by kernel_rfl)) (fun _ _ _ h => h) (Or.inl ⟨by rfl, ?_⟩) ?_ ?_
     rotate_left
     ·intro w'
      go_simp
      with_reducible rfl
     rotate_left
     ·simp only [Act.put, List.setIfInBounds_toArray, List.set_cons_zero, List.set_cons_succ, i64_w, i32_w]
      rfl
     refine pure_ (i := 8) (N := some 26) (v := ?_) (a' := ?_) #[true, true, true, true, true, true, true, true, true, false, true, false, false, false] rfl rfl (any_of HT_.out (by kernel_rfl)) (fun _ _ _ h => h) (Or.inl ⟨by rfl, ?_⟩) ?_ ?_
     rotate_left
     ·intro w'
      go_simp
      with_reducible rfl
     rotate_left
     ·simp only [Act.put, List.setIfInBounds_toArray, List.set_cons_zero, List.set_cons_succ, i64_w, i32_w]
      rfl
     refine pure_ (i := 9) (N := some 27) (v := ?_) (a' := ?_) #[true, true, true, true, true, true, true, true, true, true, true, false, false, false] rfl rfl (any_of HT_.out (by kernel_rfl)) (fun _ _ _ h => h) (Or.inl ⟨by rfl, ?_⟩) ?_ ?_
     rotate_left
     ·intro w'
      go_simp
      with_reducible rfl
     rotate_left
     ·simp only [Act.put, List.setIfInBounds_toArray, List.set_cons_zero, List.set_cons_succ, i64_w, i32_w]
      rfl
     exact norm_ (by simp only [putAll, Act.put, List.setIfInBounds_toArray, List.set_cons_zero, List.set_cons_succ]) (hCont (.slice Ao16 t331.length co16, v335, gb342) _ ⟨hHeld, (by (with_reducible repeat (first | apply Kd.R_alloc | apply Kd.R_drewN | apply Kd.R_drew)); exact Kd.R_mono HO333.out (fun _ hk => hk.2)), (by (with_reducible repeat (first | apply Kd.R_alloc | apply Kd.R_drewN | apply Kd.R_drew)); exact Kd.R_mono HO336.out (fun _ hk => hk.2)), (Up.up BK329.out), (Up.up BK342.out), GW342.out, GE342.out, NB329_342.out, NB342_329.out, (by exact h2q HB.out GE329.out GE342.out)⟩)
   ·skip
    refine box_step ?hg (N := 6) ?hd (cs := #[.int .i64 0, .int .i64 0, .int .i64 0, .int .i64 0]) (t := 26) ?hr ?_; (case hd => rfl); (case hg => rfl); (case hr => first | (go_simp; done) | (go_simp; rfl))
    intro gb342 hg w14 hbox hb
    have n0_ := Aside0.mk (blk_below (g := gb329) (Up.up BK329.out) hb)
    have n1_ := Aside0.mk (below_step (by exact h1q HB.out GE329.out) hb)
    have n2_ := Aside0.mk (hbox)
    have n3_ := Aside0.mk ((by rw [hg]; exact (below_size (by exact h1q HB.out GE329.out)) : w.heap.size ≤ gb342))
    have n4_ := Aside0.mk ((by rw [hg]; exact (below_size (by exact h1q HB.out GE329.out)) : w.heap.size ≤ gb342))
    have n5_ := Aside0.mk ((by rw [hg]; exact Nat.ne_of_lt (blk_lt (g := gb329) (Up.up BK329.out)) : gb329 ≠ gb342))
    have n6_ := Aside0.mk ((by rw [hg]; exact Nat.ne_of_gt (blk_lt (g := gb329) (Up.up BK329.out)) : gb342 ≠ gb329))
    clear BK329 HB
    have BK329 := n0_
    have HB := n1_
    have BK342 := n2_
    have GW342 := n3_
    have GE342 := n4_
    have NB329_342 := n5_
    have NB342_329 := n6_
    clear n0_ n1_ n2_ n3_ n4_ n5_ n6_ hb hbox hg
    refine hK.out _ _ ⟨(blk_cell BK329.out 0).trans rfl, (blk_cell BK329.out 1).trans rfl⟩ (fun hHeld => ?_)
    clear hK K
    refine norm_ (a' := ?_) ?_ ?_
    rotate_left
    ·show Act.put _ (some 6) _ = _
     simp only [Act.put, List.setIfInBounds_toArray, List.set_cons_zero, List.set_cons_succ, i64_w, i32_w]
     rfl
    refine one_ (i := 1) (N := some 20) #[true, true, true, true, true, false, false, false, false, false, true, false, false, false] rfl rfl (one_of HT_.out (by kernel_rfl)) (by decide) (fun K hK => ?_)
    refine goes_ Try.func8 (by kernel_rfl) rfl #[.slice A0 l0.length c0] (by rfl) rfl rfl (by (try simp only [List.map_toArray, List.map_cons, List.map_nil]); first | done | rfl | (simp only [List.length_drop, List.length_take]; rfl)) ?_
    with_reducible refine (annuitykeep_CopyLoans.calls _ _ l0 t331 _ ?side1 ?side2 A7.out).mono ?_
    (case side1 => repeat (first | exact (Kd.C_below HR0.out HB.out) | (with_reducible refine Kd.C_alloc ?_ _) | (with_reducible refine Kd.C_drewN ?_ _) | (with_reducible refine Kd.C_drew ?_)))
    (case side2 => exact HC0.out)
    rintro e w15 ⟨v332, rfl, ho0, hb⟩
    refine ⟨_, rfl, ?_⟩
    have n0_ := Aside0.mk (Kd.R_lower ho0 (below_size (by exact h2q HB.out GE329.out GE342.out)))
    have n1_ := Aside0.mk (blk_below (g := gb329) (Up.up BK329.out) hb)
    have n2_ := Aside0.mk (blk_below (g := gb342) (Up.up BK342.out) hb)
    have n3_ := Aside0.mk (below_step (by exact h2q HB.out GE329.out GE342.out) hb)
    clear BK329 BK342 HB
    have HO333 := n0_
    have BK329 := n1_
    have BK342 := n2_
    have HB := n3_
    clear n0_ n1_ n2_ n3_
    (try clear hb)
    (try clear hb2)
    (try clear hk)
    (try clear hi)
    (try clear ho0)
    obtain ⟨Ao16, co16, eo16⟩ := Kd.R_slice HO333.out
    (first | subst eo16 | (injection eo16 with f1_ f2_ f3_; have f4_ := f1_.symm; have f5_ := f3_.symm; clear f1_ f2_ f3_; subst f4_; subst f5_))
    refine hK.out _ _ ⟨(blk_cell BK329.out 0).trans rfl, (blk_cell BK329.out 1).trans rfl⟩ (fun hHeld => ?_)
    clear hK K
    refine norm_ (a' := ?_) ?_ ?_
    rotate_left
    ·show Act.put _ (some 20) _ = _
     simp only [Act.put, List.setIfInBounds_toArray, List.set_cons_zero, List.set_cons_succ, i64_w, i32_w]
     rfl
    refine one_ (i := 5) (N := some 24) #[true, true, true, true, true, true, false, false, false, false, true, false, false, false] rfl rfl (one_of HT_.out (by kernel_rfl)) (by decide) (fun K hK => ?_)
    refine goes_ Try.func9 (by kernel_rfl) rfl #[.slice Ao16 t331.length co16, .int .i64 (wrap64 (a1_0))] (by rfl) rfl rfl (by (try simp only [List.map_toArray, List.map_cons, List.map_nil]); first | done | rfl | (simp only [List.length_drop, List.length_take]; rfl)) ?_
    with_reducible refine (pay_All.calls k _ _ t331 (wrap64 (a1_0)) t334 t337 t338 t339 t340 t341 _ ?side1 ?side2 A8.out).mono ?_
    (case side1 => repeat (first | exact (Kd.R_reads' HO333.out).2.2 | (with_reducible refine Kd.C_alloc ?_ _) | (with_reducible refine Kd.C_drewN ?_ _) | (with_reducible refine Kd.C_drew ?_)))
    (case side2 => exact (Kd.R_reads' HO333.out).2.1)
    rintro e w17 ⟨v335, rfl, ho0, hb⟩
    refine ⟨_, rfl, ?_⟩
    have n0_ := Aside0.mk (Kd.R_elder' (by exact rq HO333.out) (Kd.R_base ho0) hb)
    have n1_ := Aside0.mk (Kd.R_lower (Kd.R_new' ho0 (Kd.R_lt (by exact rq HO333.out))) (below_size (by exact h2q HB.out GE329.out GE342.out)))
    have n2_ := Aside0.mk (blk_below (g := gb329) (Up.up BK329.out) hb)
    have n3_ := Aside0.mk (blk_below (g := gb342) (Up.up BK342.out) hb)
    have n4_ := Aside0.mk (below_step (by exact h2q HB.out GE329.out GE342.out) hb)
    clear HO333 BK329 BK342 HB
    have HO333 := n0_
    have HO336 := n1_
    have BK329 := n2_
    have BK342 := n3_
    have HB := n4_
    clear n0_ n1_ n2_ n3_ n4_
    (try clear hb)
    (try clear hb2)
    (try clear hk)
    (try clear hi)
    (try clear ho0)
    refine hK.out _ _ ⟨(blk_cell BK329.out 0).trans rfl, (blk_cell BK329.out 1).trans rfl⟩ (fun hHeld => ?_)
    clear hK K
    refine norm_ (a' := ?_) ?_ ?_
    rotate_left
    ·show Act.put _ (some 24) _ = _
     simp only [Act.put, List.setIfInBounds_toArray, List.set_cons_zero, List.set_cons_succ, i64_w, i32_w]
     rfl
    refine pure_ (i := 6) (N := some 18) (v := ?_) (a' := ?_) #[true, true, true, true, true, true, true, false, false, false, true, false, false, false] rfl rfl (any_of HT_.out (by kernel_rfl)) (fun _ _ _ h => h) (Or.inl ⟨by rfl, ?_⟩) ?_ ?_
    rotate_left
    ·intro w'
     go_simp
     with_reducible rfl
    rotate_left
    ·simp only [Act.put, List.setIfInBounds_toArray, List.set_cons_zero, List.set_cons_succ, i64_w, i32_w]
     rfl
    refine pure_ (i := 7) (N := some 25) (v := ?_) (a' := ?_) #[true, true, true, true, true, true, true, true, false, false, true, false, false, false] rfl rfl (any_of HT_.out (by kernel_rfl)) (fun _ _ _ h => h) (Or.inl ⟨by rfl, ?_⟩) ?_ ?_
    rotate_left
    ·intro w'
     go_simp
     with_reducible rfl
    rotate_left
    ·simp only [Act.put, List.setIfInBounds_toArray, List.set_cons_zero, List.set_cons_succ, i64_w, i32_w]
     rfl
    refine pure_ (i := 8) (N := some 26) (v := ?_) (a' := ?_) #[true, true, true, true, true, true, true, true, true, false, true, false, false, false] rfl rfl (any_of HT_.out (by kernel_rfl)) (fun _ _ _ h => h) (Or.inl ⟨by rfl, ?_⟩) ?_ ?_
    rotate_left
    ·intro w'
     go_simp
     with_reducible rfl
    rotate_left
    ·simp only [Act.put, List.setIfInBounds_toArray, List.set_cons_zero, List.set_cons_succ, i64_w, i32_w]
     rfl
    refine pure_ (i := 9) (N := some 27) (v := ?_) (a' := ?_) #[true, true, true, true, true, true, true, true, true, true, true, false, false, false] rfl rfl (any_of HT_.out (by kernel_rfl)) (fun _ _ _ h => h) (Or.inl ⟨by rfl, ?_⟩) ?_ ?_
    rotate_left
    ·intro w'
     go_simp
     with_reducible rfl
    rotate_left
    ·simp only [Act.put, List.setIfInBounds_toArray, List.set_cons_zero, List.set_cons_succ, i64_w, i32_w]
     rfl
    exact norm_ (by simp only [putAll, Act.put, List.setIfInBounds_toArray, List.set_cons_zero, List.set_cons_succ]) (hCont (.slice Ao16 t331.length co16, v335, gb342) _ ⟨hHeld, (by (with_reducible repeat (first | apply Kd.R_alloc | apply Kd.R_drewN | apply Kd.R_drew)); exact Kd.R_mono HO333.out (fun _ hk => hk.2)), (by (with_reducible repeat (first | apply Kd.R_alloc | apply Kd.R_drewN | apply Kd.R_drew)); exact Kd.R_mono HO336.out (fun _ hk => hk.2)), (Up.up BK329.out), (Up.up BK342.out), GW342.out, GE342.out, NB329_342.out, NB342_329.out, (by exact h2q HB.out GE329.out GE342.out)⟩)
  rintro ⟨v332, v335, gb342⟩ w18 ⟨hS_, h0_, h1_, h2_, h3_, h4_, h5_, h6_, h7_, h8_⟩
  have n0_ : Aside0 (Kd.R k43 43 w18 w.heap.size (fun k_ => some k_ ≠ (v335 : Value).ownBlock) v332 t331) := ⟨h0_⟩
  have n1_ : Aside0 (Kd.R k43 43 w18 w.heap.size (fun k_ => some k_ ≠ (v332 : Value).ownBlock) v335 t334) := ⟨h1_⟩
  have n2_ : Aside0 (w18.heap[gb329]? = some (.cells #[.int .u32 a1_0, .int .u32 a1_1] 46 (0, 0))) := ⟨h2_⟩
  have n3_ : Aside0 (w18.heap[gb342]? = some (.cells #[.int .i64 0, .int .i64 0, .int .i64 0, .int .i64 0] 26 (0, 0))) := ⟨h3_⟩
  have n4_ : Aside0 (w.heap.size ≤ gb342) := ⟨h4_⟩
  have n5_ : Aside0 (w.heap.size ≤ gb342) := ⟨h5_⟩
  have n6_ : Aside0 (gb329 ≠ gb342) := ⟨h6_⟩
  have n7_ : Aside0 (gb342 ≠ gb329) := ⟨h7_⟩
  have n8_ : Aside0 (Below w.heap.size w w18) := ⟨h8_⟩
  clear BK329 HB h0_ h1_ h2_ h3_ h4_ h5_ h6_ h7_ h8_
  have HO333 := n0_
  have HO336 := n1_
  have BK329 := n2_
  have BK342 := n3_
  have GW342 := n4_
  have GE342 := n5_
  have NB329_342 := n6_
  have NB342_329 := n7_
  have HB := n8_
  clear n0_ n1_ n2_ n3_ n4_ n5_ n6_ n7_ n8_
  have hHeld : w18.cell? ⟨gb329, 0, none⟩ = some (.int .u32 a1_0) ∧ w18.cell? ⟨gb329, 1, none⟩ = some (.int .u32 a1_1) := hS_
  refine norm_ (a' := ?_) ?_ ?_
  rotate_left
  ·simp only [putAll, Act.put, List.setIfInBounds_toArray, List.set_cons_zero, List.set_cons_succ]
   rfl
  refine pure_ (i := 11) (N := some 5) (v := ?_) (a' := ?_) #[true, true, true, true, true, true, true, true, true, true, true, true, false, false] rfl rfl (any_of HT_.out (by kernel_rfl)) (fun _ _ _ h => h) (Or.inl ⟨by rfl, ?_⟩) ?_ ?_
  rotate_left
  ·intro w'
   go_simp
   with_reducible rfl
  rotate_left
  ·simp only [Act.put, List.setIfInBounds_toArray, List.set_cons_zero, List.set_cons_succ, i64_w, i32_w]
   rfl
  refine one_ (i := 12) (N := none) #[true, true, true, true, true, true, true, true, true, true, true, true, true, false] rfl rfl (one_of HT_.out (by kernel_rfl)) (by decide) (fun K hK => ?_)
  have hs19 : w18.cell? ⟨gb342, 0, none⟩ = some (.int .i64 0) := (blk_cell BK342.out 0).trans rfl
  have hfs19 := blk_frozen BK342.out 0
  have hns19_0 := NB329_342.out
  have hms19_0 := NB342_329.out
  have hs20 : w18.cell? ⟨gb342, 1, none⟩ = some (.int .i64 0) := (blk_cell BK342.out 1).trans rfl
  have hfs20 := blk_frozen BK342.out 1
  have hns20_0 := NB329_342.out
  have hms20_0 := NB342_329.out
  have hs21 : w18.cell? ⟨gb342, 2, none⟩ = some (.int .i64 0) := (blk_cell BK342.out 2).trans rfl
  have hfs21 := blk_frozen BK342.out 2
  have hns21_0 := NB329_342.out
  have hms21_0 := NB342_329.out
  have hs22 : w18.cell? ⟨gb342, 3, none⟩ = some (.int .i64 0) := (blk_cell BK342.out 3).trans rfl
  have hfs22 := blk_frozen BK342.out 3
  have hns22_0 := NB329_342.out
  have hms22_0 := NB342_329.out
  refine skip_ (w1 := ?_) (by rfl) rfl ?_ ?_
  rotate_left
  ·go_simp
   rfl
  refine hK.out _ _ ⟨((cell_far (p := ⟨gb342, _, none⟩) NB329_342.out _).trans (((cell_far (p := ⟨gb342, _, none⟩) NB329_342.out _).trans (((cell_far (p := ⟨gb342, _, none⟩) NB329_342.out _).trans (((cell_far (p := ⟨gb342, _, none⟩) NB329_342.out _).trans (hHeld.1)))))))), ((cell_far (p := ⟨gb342, _, none⟩) NB329_342.out _).trans (((cell_far (p := ⟨gb342, _, none⟩) NB329_342.out _).trans (((cell_far (p := ⟨gb342, _, none⟩) NB329_342.out _).trans (((cell_far (p := ⟨gb342, _, none⟩) NB329_342.out _).trans (hHeld.2))))))))⟩ (fun hHeld => ?_)
  clear hK K
  refine pure_ (i := 13) (N := some 7) (v := ?_) (a' := ?_) #[true, true, true, true, true, true, true, true, true, true, true, true, true, true] rfl rfl (any_of HT_.out (by kernel_rfl)) (fun _ _ _ h => h) (Or.inl ⟨by rfl, ?_⟩) ?_ ?_
  rotate_left
  ·intro w'
   go_simp
   with_reducible rfl
  rotate_left
  ·simp only [Act.put, List.setIfInBounds_toArray, List.set_cons_zero, List.set_cons_succ, i64_w, i32_w]
   rfl
  refine done_ (done_of HT_.out (by kernel_rfl)) ?_
  have hnb23 := NB342_329.out
  have hnc23 := NB329_342.out
  have hcz24_0 : w18.cell? ⟨gb342, 0, none⟩ = some (.int .i64 0) := (blk_cell BK342.out 0).trans rfl
  have hcz24_1 : w18.cell? ⟨gb342, 1, none⟩ = some (.int .i64 0) := (blk_cell BK342.out 1).trans rfl
  have hcz24_2 : w18.cell? ⟨gb342, 2, none⟩ = some (.int .i64 0) := (blk_cell BK342.out 2).trans rfl
  have hcz24_3 : w18.cell? ⟨gb342, 3, none⟩ = some (.int .i64 0) := (blk_cell BK342.out 3).trans rfl
  have hfz24_0 := blk_frozen BK342.out 0
  have hfz24_1 := blk_frozen BK342.out 1
  have hfz24_2 := blk_frozen BK342.out 2
  have hfz24_3 := blk_frozen BK342.out 3
  try go_wp2_with (first | ((with_reducible refine gate_callee (f := 7) rfl ?_); refine goesL_ (some 35) rfl rfl Try.func7 (by kernel_rfl) rfl #[] rfl (by (try simp only [List.map_toArray, List.map_cons, List.map_nil]); first | done | rfl | (simp only [List.length_drop, List.length_take]; rfl)) ?_; (with_reducible refine (annuitylaw20_wakes.calls k  t343 _ A11.out).mono ?_); rintro e w25 ⟨rfl, hb⟩; refine ⟨_, rfl, ?_⟩; have n0_ := Aside0.mk (Kd.R_below (by (with_reducible repeat (first | apply Kd.R_alloc | apply Kd.R_drewN | apply Kd.R_drew)); exact (Kd.R_mono (Kd.R_far (p := ⟨gb342, 3, none⟩) (Kd.R_far (p := ⟨gb342, 2, none⟩) (Kd.R_far (p := ⟨gb342, 1, none⟩) (Kd.R_far (p := ⟨gb342, 0, none⟩) (Kd.R_types HO333.out BK342.out (by decide)) (fun _ hk => hk.2) (.int .i64 t337)) (fun _ hk => hk.2) (.int .i64 t338)) (fun _ hk => hk.2) (.int .i64 t339)) (fun _ hk => hk.2) (.int .i64 t340)) (fun _ h_ => h_.1))) hb); have n1_ := Aside0.mk (Kd.R_below (by (with_reducible repeat (first | apply Kd.R_alloc | apply Kd.R_drewN | apply Kd.R_drew)); exact (Kd.R_mono (Kd.R_far (p := ⟨gb342, 3, none⟩) (Kd.R_far (p := ⟨gb342, 2, none⟩) (Kd.R_far (p := ⟨gb342, 1, none⟩) (Kd.R_far (p := ⟨gb342, 0, none⟩) (Kd.R_types HO336.out BK342.out (by decide)) (fun _ hk => hk.2) (.int .i64 t337)) (fun _ hk => hk.2) (.int .i64 t338)) (fun _ hk => hk.2) (.int .i64 t339)) (fun _ hk => hk.2) (.int .i64 t340)) (fun _ h_ => h_.1))) hb); have n2_ := Aside0.mk (blk_below (g := gb329) (o := .cells #[.int .u32 a1_0, .int .u32 a1_1] 46 (0, 0)) (by (iterate 4 ((with_reducible repeat (first | refine blk_drewN ?_ _ | refine blk_drew ?_ | refine blk_alloc ?_ _)); refine blk_far ?_ NB329_342.out _)); (with_reducible repeat (first | refine blk_drewN ?_ _ | refine blk_drew ?_ | refine blk_alloc ?_ _)); exact BK329.out) hb); have n3_ := Aside0.mk (blk_below (g := gb342) (o := .cells #[.int .i64 t337, .int .i64 t338, .int .i64 t339, .int .i64 t340] 26 (0, 0)) (by (with_reducible repeat (first | refine blk_drewN ?_ _ | refine blk_drew ?_ | refine blk_alloc ?_ _)); refine blk_put (cs := #[.int .i64 t337, .int .i64 t338, .int .i64 t339, .int .i64 0]) ?_ 3 _ rfl; (with_reducible repeat (first | refine blk_drewN ?_ _ | refine blk_drew ?_ | refine blk_alloc ?_ _)); refine blk_put (cs := #[.int .i64 t337, .int .i64 t338, .int .i64 0, .int .i64 0]) ?_ 2 _ rfl; (with_reducible repeat (first | refine blk_drewN ?_ _ | refine blk_drew ?_ | refine blk_alloc ?_ _)); refine blk_put (cs := #[.int .i64 t337, .int .i64 0, .int .i64 0, .int .i64 0]) ?_ 1 _ rfl; (with_reducible repeat (first | refine blk_drewN ?_ _ | refine blk_drew ?_ | refine blk_alloc ?_ _)); refine blk_put (cs := #[.int .i64 0, .int .i64 0, .int .i64 0, .int .i64 0]) ?_ 0 _ rfl; (with_reducible repeat (first | refine blk_drewN ?_ _ | refine blk_drew ?_ | refine blk_alloc ?_ _)); exact BK342.out) hb); have n4_ := Aside0.mk (below_step (by exact h2q HB.out GE329.out GE342.out) hb); clear HO333; clear HO336; clear BK329; clear BK342; clear HB; have HO333 := n0_; have HO336 := n1_; have BK329 := n2_; have BK342 := n3_; have HB := n4_; clear n0_ n1_ n2_ n3_ n4_; (try clear hb); (try clear hb2); (try clear hk); (try clear hi)))
  go_ret
  exact ⟨by first | rfl | (simp [errW_none, errW_some] <;> rfl) | (simp [*, errW_none, errW_some] <;> rfl), by exact h2q HB.out GE329.out GE342.out⟩
 rw [if_neg c10] at H
 have c10b0 : decide (0 < t340) = false := decide_eq_false c10
 clear c10
 replace H := Option.bind_eq_some_iff.mp H
 obtain ⟨⟨t344, t347, t348, t349, t350, t351⟩, A260, H⟩ := H
 replace H : ((annuitykeep_CopyLoans.f l0).bind fun t353 => ((pay_All.f k t353 (wrap64 ((wrap64 (a1_0)) + (wrap64 (a1_1))))).bind fun bt356 => (if t351 = 0 then (if bt356.2.2.2.2.2 = 0 then (if (wrap64 (t337 + t347)) = bt356.2.1 then (if (wrap64 (t338 + t348)) = bt356.2.2.1 then (if (wrap64 (t339 + t349)) = bt356.2.2.2.1 then (if t350 = bt356.2.2.2.2.1 then ((annuitykeep_Loans.f k t344 bt356.1).bind fun t365 => (if t365 = true then ((annuitylaw20_wakes.f k).bind fun t366 => (some t366)) else (none))) else (none)) else (none)) else (none)) else (none)) else (none)) else (none)))) = some r := H
 have A26 := Aside0.mk A260
 clear A260
 replace H := Option.bind_eq_some_iff.mp H
 obtain ⟨t353, A270, H⟩ := H
 replace H : ((pay_All.f k t353 (wrap64 ((wrap64 (a1_0)) + (wrap64 (a1_1))))).bind fun bt356 => (if t351 = 0 then (if bt356.2.2.2.2.2 = 0 then (if (wrap64 (t337 + t347)) = bt356.2.1 then (if (wrap64 (t338 + t348)) = bt356.2.2.1 then (if (wrap64 (t339 + t349)) = bt356.2.2.2.1 then (if t350 = bt356.2.2.2.2.1 then ((annuitykeep_Loans.f k t344 bt356.1).bind fun t365 => (if t365 = true then ((annuitylaw20_wakes.f k).bind fun t366 => (some t366)) else (none))) else (none)) else (none)) else (none)) else (none)) else (none)) else (none))) = some r := H
 have A27 := Aside0.mk A270
 clear A270
 replace H := Option.bind_eq_some_iff.mp H
 obtain ⟨⟨t356, t359, t360, t361, t362, t363⟩, A280, H⟩ := H
 replace H : (if t351 = 0 then (if t363 = 0 then (if (wrap64 (t337 + t347)) = t359 then (if (wrap64 (t338 + t348)) = t360 then (if (wrap64 (t339 + t349)) = t361 then (if t350 = t362 then ((annuitykeep_Loans.f k t344 t356).bind fun t365 => (if t365 = true then ((annuitylaw20_wakes.f k).bind fun t366 => (some t366)) else (none))) else (none)) else (none)) else (none)) else (none)) else (none)) else (none)) = some r := H
 have A28 := Aside0.mk A280
 clear A280
 by_cases c29 : t351 = 0
 case neg =>
  rw [if_neg c29] at H
  exact absurd H (by simp)
 rw [if_pos c29] at H
 have c29b0 : (t351 == 0) = true := beq_iff_eq.mpr c29
 have c29b1 : (t351 != 0) = false := bne_eq_false_iff_eq.mpr c29
 clear c29
 by_cases c30 : t363 = 0
 case neg =>
  rw [if_neg c30] at H
  exact absurd H (by simp)
 rw [if_pos c30] at H
 have c30b0 : (t363 == 0) = true := beq_iff_eq.mpr c30
 have c30b1 : (t363 != 0) = false := bne_eq_false_iff_eq.mpr c30
 clear c30
 by_cases c31 : (wrap64 (t337 + t347)) = t359
 case neg =>
  rw [if_neg c31] at H
  exact absurd H (by simp)
 rw [if_pos c31] at H
 have c31b0 : ((wrap64 (t337 + t347)) == t359) = true := beq_iff_eq.mpr c31
 have c31b1 : ((wrap64 (t337 + t347)) != t359) = false := bne_eq_false_iff_eq.mpr c31
 clear c31
 by_cases c32 : (wrap64 (t338 + t348)) = t360
 case neg =>
  rw [if_neg c32] at H
  exact absurd H (by simp)
 rw [if_pos c32] at H
 have c32b0 : ((wrap64 (t338 + t348)) == t360) = true := beq_iff_eq.mpr c32
 have c32b1 : ((wrap64 (t338 + t348)) != t360) = false := bne_eq_false_iff_eq.mpr c32
 clear c32
 by_cases c33 : (wrap64 (t339 + t349)) = t361
 case neg =>
  rw [if_neg c33] at H
  exact absurd H (by simp)
 rw [if_pos c33] at H
 have c33b0 : ((wrap64 (t339 + t349)) == t361) = true := beq_iff_eq.mpr c33
 have c33b1 : ((wrap64 (t339 + t349)) != t361) = false := bne_eq_false_iff_eq.mpr c33
 clear c33
 by_cases c34 : t350 = t362
 case neg =>
  rw [if_neg c34] at H
  exact absurd H (by simp)
 rw [if_pos c34] at H
 have c34b0 : (t350 == t362) = true := beq_iff_eq.mpr c34
 have c34b1 : (t350 != t362) = false := bne_eq_false_iff_eq.mpr c34
 clear c34
 replace H := Option.bind_eq_some_iff.mp H
 obtain ⟨t365, A350, H⟩ := H
 replace H : (if t365 = true then ((annuitylaw20_wakes.f k).bind fun t366 => (some t366)) else (none)) = some r := H
 have A35 := Aside0.mk A350
 clear A350
 by_cases c36 : t365 = true
 case neg =>
  replace c36 := Bool.eq_false_iff.mpr c36
  subst c36
  have H1 : (none) = some r := by rw [if_neg (show ¬ (false = true) by decide)] at H; exact H
  clear H
  have H := H1
  clear H1
  exact absurd H (by simp)
 subst c36
 have H1 : ((annuitylaw20_wakes.f k).bind fun t366 => (some t366)) = some r := by rw [if_pos rfl] at H; exact H
 clear H
 have H := H1
 clear H1
 replace H := Option.bind_eq_some_iff.mp H
 obtain ⟨t366, A370, H⟩ := H
 replace H : (some t366) = some r := H
 have A37 := Aside0.mk A370
 clear A370
 obtain rfl := Option.some.inj H
 go_enter Try.func5, Try.ntmps5
 try go_wp2_with (first | ((with_reducible refine gate_dst (N := 3) rfl ?_); refine box_event ?hg (N := 3) ?hd (cs := #[.int .u32 a1_0, .int .u32 a1_1]) (t := 46) ?hr ?_; (case hd => rfl); (case hg => rfl); (case hr => first | (go_simp; done) | (go_simp; rfl)); intro gb329 hg w38 hbox hb; have n0_ := Aside0.mk (below_step (by exact h0q HB.out) hb); have n1_ := Aside0.mk (hbox); have n2_ := Aside0.mk ((by rw [hg]; exact (below_size (by exact h0q HB.out)) : w.heap.size ≤ gb329)); have n3_ := Aside0.mk ((by rw [hg]; exact (below_size (by exact h0q HB.out)) : w.heap.size ≤ gb329)); clear HB; have HB := n0_; have BK329 := n1_; have GW329 := n2_; have GE329 := n3_; clear n0_ n1_ n2_ n3_; clear hb hbox hg))
 have n0_ := Aside0.mk (blk_drew BK329.out)
 have n1_ := Aside0.mk (below_drew1 HB.out)
 clear BK329 HB
 have BK329 := n0_
 have HB := n1_
 clear n0_ n1_
 refine start_ (n := 14) (S := fun w' => w'.cell? ⟨gb329, 0, none⟩ = some (.int .u32 a1_0) ∧ w'.cell? ⟨gb329, 1, none⟩ = some (.int .u32 a1_1)) (ds := []) #[false, false, false, false, false, false, false, false, false, false, false, false, false, false] (by kernel_rfl) rfl rfl ⟨(blk_cell BK329.out 0).trans rfl, (blk_cell BK329.out 1).trans rfl⟩ (fun hHeld => ?_); refine with_tabW annuitylaw20_PayTwice.tab3 annuitylaw20_PayTwice.bits3 (fun HT_ HW_ => ?_)
 generalize w38.drew = w39 at BK329 HB hHeld ⊢
 refine pure_ (i := 0) (N := some 19) (v := ?_) (a' := ?_) #[true, false, false, false, false, false, false, false, false, false, false, false, false, false] rfl rfl (any_of HT_.out (by kernel_rfl)) (fun _ _ _ h => h) (Or.inl ⟨by rfl, ?_⟩) ?_ ?_
 rotate_left
 ·intro w'
  go_simp
  with_reducible rfl
 rotate_left
 ·simp only [Act.put, List.setIfInBounds_toArray, List.set_cons_zero, List.set_cons_succ, i64_w, i32_w]
  rfl
 refine pure_ (i := 2) (N := some 21) (v := ?_) (a' := ?_) #[true, false, true, false, false, false, false, false, false, false, false, false, false, false] rfl rfl (any_of HT_.out (by kernel_rfl)) (fun _ _ _ h => h) (Or.inl ⟨by rfl, ?_⟩) ?_ ?_
 rotate_left
 ·intro w'
  go_simp
  with_reducible rfl
 rotate_left
 ·simp only [Act.put, List.setIfInBounds_toArray, List.set_cons_zero, List.set_cons_succ, i64_w, i32_w]
  rfl
 refine take_ (i := 3) (N := some 22) (v := ?_) (a' := ?_) #[true, false, true, true, false, false, false, false, false, false, false, false, false, false] rfl rfl (take_ofW HT_.out HW_.out (by kernel_rfl)) (fun _ _ _ h => h) (Or.inl ⟨by rfl, ?_⟩) hHeld ?_ ?_
 rotate_left
 ·rintro w' ⟨s0, s1⟩
  go_simp
  with_reducible rfl
 rotate_left
 ·simp only [Act.put, List.setIfInBounds_toArray, List.set_cons_zero, List.set_cons_succ, i64_w, i32_w]
  rfl
 refine pure_ (i := 4) (N := some 23) (v := ?_) (a' := ?_) #[true, false, true, true, true, false, false, false, false, false, false, false, false, false] rfl rfl (any_of HT_.out (by kernel_rfl)) (fun _ _ _ h => h) (Or.inl ⟨by rfl, ?_⟩) ?_ ?_
 rotate_left
 ·intro w'
  go_simp
  with_reducible rfl
 rotate_left
 ·simp only [Act.put, List.setIfInBounds_toArray, List.set_cons_zero, List.set_cons_succ, i64_w, i32_w]
  rfl
 refine join_ (σ := Value × Value × Nat) 3 #[true, true, true, true, true, true, true, true, true, true, true, false, false, false] (fun s_ => [(20, s_.1), (24, .tuple #[s_.2.1, .agg #[.int .i64 t337, .int .i64 t338, .int .i64 t339, .int .i64 t340], .int .i64 t341]), (6, .pointer (some ⟨s_.2.2, 0, none⟩)), (18, .tuple #[s_.2.1, .agg #[.int .i64 t337, .int .i64 t338, .int .i64 t339, .int .i64 t340], .int .i64 t341]), (25, s_.2.1), (26, .agg #[.int .i64 t337, .int .i64 t338, .int .i64 t339, .int .i64 t340]), (27, .int .i64 t341)]) (fun s_ w' => (w'.cell? ⟨gb329, 0, none⟩ = some (.int .u32 a1_0) ∧ w'.cell? ⟨gb329, 1, none⟩ = some (.int .u32 a1_1)) ∧ (Kd.R k43 43 w' w.heap.size (fun k_ => some k_ ≠ (s_.2.1 : Value).ownBlock) s_.1 t331) ∧ (Kd.R k43 43 w' w.heap.size (fun k_ => some k_ ≠ (s_.1 : Value).ownBlock) s_.2.1 t334) ∧ (w'.heap[gb329]? = some (.cells #[.int .u32 a1_0, .int .u32 a1_1] 46 (0, 0))) ∧ (w'.heap[s_.2.2]? = some (.cells #[.int .i64 0, .int .i64 0, .int .i64 0, .int .i64 0] 26 (0, 0))) ∧ (w.heap.size ≤ s_.2.2) ∧ (w.heap.size ≤ s_.2.2) ∧ (gb329 ≠ s_.2.2) ∧ (s_.2.2 ≠ gb329) ∧ (Below w.heap.size w w')) ?_ ?_
 rotate_left
 ·intro hCont
  refine two_ (i := 1) (j := 10) (Ni := some 20) (Nj := some 6) #[true, true, true, true, true, false, false, false, false, false, false, false, false, false] #[true, false, true, true, true, false, false, false, false, false, true, false, false, false] rfl rfl rfl rfl (two_of HT_.out (by kernel_rfl)) (by decide) (by decide) (fun K hK => ?_) (fun K hK => ?_)
  ·skip
   refine goes_ Try.func8 (by kernel_rfl) rfl #[.slice A0 l0.length c0] (by rfl) rfl rfl (by (try simp only [List.map_toArray, List.map_cons, List.map_nil]); first | done | rfl | (simp only [List.length_drop, List.length_take]; rfl)) ?_
   with_reducible refine (annuitykeep_CopyLoans.calls _ _ l0 t331 _ ?side1 ?side2 A7.out).mono ?_
   (case side1 => repeat (first | exact (Kd.C_below HR0.out HB.out) | (with_reducible refine Kd.C_alloc ?_ _) | (with_reducible refine Kd.C_drewN ?_ _) | (with_reducible refine Kd.C_drew ?_)))
   (case side2 => exact HC0.out)
   rintro e w40 ⟨v332, rfl, ho0, hb⟩
   refine ⟨_, rfl, ?_⟩
   have n0_ := Aside0.mk (Kd.R_lower ho0 (below_size (by exact h1q HB.out GE329.out)))
   have n1_ := Aside0.mk (blk_below (g := gb329) (Up.up BK329.out) hb)
   have n2_ := Aside0.mk (below_step (by exact h1q HB.out GE329.out) hb)
   clear BK329 HB
   have HO333 := n0_
   have BK329 := n1_
   have HB := n2_
   clear n0_ n1_ n2_
   (try clear hb)
   (try clear hb2)
   (try clear hk)
   (try clear hi)
   (try clear ho0)
   obtain ⟨Ao41, co41, eo41⟩ := Kd.R_slice HO333.out
   (first | subst eo41 | (injection eo41 with f1_ f2_ f3_; have f4_ := f1_.symm; have f5_ := f3_.symm; clear f1_ f2_ f3_; subst f4_; subst f5_))
   refine hK.out _ _ ⟨(blk_cell BK329.out 0).trans rfl, (blk_cell BK329.out 1).trans rfl⟩ (fun hHeld => ?_)
   clear hK K
   refine norm_ (a' := ?_) ?_ ?_
   rotate_left
   ·show Act.put _ (some 20) _ = _
    simp only [Act.put, List.setIfInBounds_toArray, List.set_cons_zero, List.set_cons_succ, i64_w, i32_w]
    rfl
   refine two_ (i := 5) (j := 10) (Ni := some 24) (Nj := some 6) #[true, true, true, true, true, true, false, false, false, false, false, false, false, false] #[true, true, true, true, true, false, false, false, false, false, true, false, false, false] rfl rfl rfl rfl (two_of HT_.out (by kernel_rfl)) (by decide) (by decide) (fun K hK => ?_) (fun K hK => ?_)
   ·skip
    refine goes_ Try.func9 (by kernel_rfl) rfl #[.slice Ao41 t331.length co41, .int .i64 (wrap64 (a1_0))] (by rfl) rfl rfl (by (try simp only [List.map_toArray, List.map_cons, List.map_nil]); first | done | rfl | (simp only [List.length_drop, List.length_take]; rfl)) ?_
    with_reducible refine (pay_All.calls k _ _ t331 (wrap64 (a1_0)) t334 t337 t338 t339 t340 t341 _ ?side1 ?side2 A8.out).mono ?_
    (case side1 => repeat (first | exact (Kd.R_reads' HO333.out).2.2 | (with_reducible refine Kd.C_alloc ?_ _) | (with_reducible refine Kd.C_drewN ?_ _) | (with_reducible refine Kd.C_drew ?_)))
    (case side2 => exact (Kd.R_reads' HO333.out).2.1)
    rintro e w42 ⟨v335, rfl, ho0, hb⟩
    refine ⟨_, rfl, ?_⟩
    have n0_ := Aside0.mk (Kd.R_elder' (by exact rq HO333.out) (Kd.R_base ho0) hb)
    have n1_ := Aside0.mk (Kd.R_lower (Kd.R_new' ho0 (Kd.R_lt (by exact rq HO333.out))) (below_size (by exact h1q HB.out GE329.out)))
    have n2_ := Aside0.mk (blk_below (g := gb329) (Up.up BK329.out) hb)
    have n3_ := Aside0.mk (below_step (by exact h1q HB.out GE329.out) hb)
    clear HO333 BK329 HB
    have HO333 := n0_
    have HO336 := n1_
    have BK329 := n2_
    have HB := n3_
    clear n0_ n1_ n2_ n3_
    (try clear hb)
    (try clear hb2)
    (try clear hk)
    (try clear hi)
    (try clear ho0)
    refine hK.out _ _ ⟨(blk_cell BK329.out 0).trans rfl, (blk_cell BK329.out 1).trans rfl⟩ (fun hHeld => ?_)
    clear hK K
    refine norm_ (a' := ?_) ?_ ?_
    rotate_left
    ·show Act.put _ (some 24) _ = _
     simp only [Act.put, List.setIfInBounds_toArray, List.set_cons_zero, List.set_cons_succ, i64_w, i32_w]
     rfl
    refine pure_ (i := 6) (N := some 18) (v := ?_) (a' := ?_) #[true, true, true, true, true, true, true, false, false, false, false, false, false, false] rfl rfl (any_of HT_.out (by kernel_rfl)) (fun _ _ _ h => h) (Or.inl ⟨by rfl, ?_⟩) ?_ ?_
    rotate_left
    ·intro w'
     go_simp
     with_reducible rfl
    rotate_left
    ·simp only [Act.put, List.setIfInBounds_toArray, List.set_cons_zero, List.set_cons_succ, i64_w, i32_w]
     rfl
    refine pure_ (i := 7) (N := some 25) (v := ?_) (a' := ?_) #[true, true, true, true, true, true, true, true, false, false, false, false, false, false] rfl rfl (any_of HT_.out (by kernel_rfl)) (fun _ _ _ h => h) (Or.inl ⟨by rfl, ?_⟩) ?_ ?_
    rotate_left
    ·intro w'
     go_simp
     with_reducible rfl
    rotate_left
    ·simp only [Act.put, List.setIfInBounds_toArray, List.set_cons_zero, List.set_cons_succ, i64_w, i32_w]
     rfl
    refine pure_ (i := 8) (N := some 26) (v := ?_) (a' := ?_) #[true, true, true, true, true, true, true, true, true, false, false, false, false, false] rfl rfl (any_of HT_.out (by kernel_rfl)) (fun _ _ _ h => h) (Or.inl ⟨by rfl, ?_⟩) ?_ ?_
    rotate_left
    ·intro w'
     go_simp
     with_reducible rfl
    rotate_left
    ·simp only [Act.put, List.setIfInBounds_toArray, List.set_cons_zero, List.set_cons_succ, i64_w, i32_w]
     rfl
    refine pure_ (i := 9) (N := some 27) (v := ?_) (a' := ?_) #[true, true, true, true, true, true, true, true, true, true, false, false, false, false] rfl rfl (any_of HT_.out (by kernel_rfl)) (fun _ _ _ h => h) (Or.inl ⟨by rfl, ?_⟩) ?_ ?_
    rotate_left
    ·intro w'
     go_simp
     with_reducible rfl
    rotate_left
    ·simp only [Act.put, List.setIfInBounds_toArray, List.set_cons_zero, List.set_cons_succ, i64_w, i32_w]
     rfl
    refine one_ (i := 10) (N := some 6) #[true, true, true, true, true, true, true, true, true, true, true, false, false, false] rfl rfl (one_of HT_.out (by kernel_rfl)) (by decide) (fun K hK => ?_)
    refine box_step ?hg (N := 6) ?hd (cs := #[.int .i64 0, .int .i64 0, .int .i64 0, .int .i64 0]) (t := 26) ?hr ?_; (case hd => rfl); (case hg => rfl); (case hr => first | (go_simp; done) | (go_simp; rfl))
    intro gb342 hg w43 hbox hb
    have n0_ := Aside0.mk (Kd.R_below (by exact rq HO333.out) hb)
    have n1_ := Aside0.mk (Kd.R_below (by exact rq HO336.out) hb)
    have n2_ := Aside0.mk (blk_below (g := gb329) (Up.up BK329.out) hb)
    have n3_ := Aside0.mk (below_step (by exact h1q HB.out GE329.out) hb)
    have n4_ := Aside0.mk (hbox)
    have n5_ := Aside0.mk ((by rw [hg]; exact (below_size (by exact h1q HB.out GE329.out)) : w.heap.size ≤ gb342))
    have n6_ := Aside0.mk ((by rw [hg]; exact (below_size (by exact h1q HB.out GE329.out)) : w.heap.size ≤ gb342))
    have n7_ := Aside0.mk ((by rw [hg]; exact Nat.ne_of_lt (blk_lt (g := gb329) (Up.up BK329.out)) : gb329 ≠ gb342))
    have n8_ := Aside0.mk ((by rw [hg]; exact Nat.ne_of_gt (blk_lt (g := gb329) (Up.up BK329.out)) : gb342 ≠ gb329))
    clear HO333 HO336 BK329 HB
    have HO333 := n0_
    have HO336 := n1_
    have BK329 := n2_
    have HB := n3_
    have BK342 := n4_
    have GW342 := n5_
    have GE342 := n6_
    have NB329_342 := n7_
    have NB342_329 := n8_
    clear n0_ n1_ n2_ n3_ n4_ n5_ n6_ n7_ n8_ hb hbox hg
    refine hK.out _ _ ⟨(blk_cell BK329.out 0).trans rfl, (blk_cell BK329.out 1).trans rfl⟩ (fun hHeld => ?_)
    clear hK K
    refine norm_ (a' := ?_) ?_ ?_
    rotate_left
    ·show Act.put _ (some 6) _ = _
     simp only [Act.put, List.setIfInBounds_toArray, List.set_cons_zero, List.set_cons_succ, i64_w, i32_w]
     rfl
    exact norm_ (by simp only [putAll, Act.put, List.setIfInBounds_toArray, List.set_cons_zero, List.set_cons_succ]) (hCont (.slice Ao41 t331.length co41, v335, gb342) _ ⟨hHeld, (by (with_reducible repeat (first | apply Kd.R_alloc | apply Kd.R_drewN | apply Kd.R_drew)); exact Kd.R_mono HO333.out (fun _ hk => hk.2)), (by (with_reducible repeat (first | apply Kd.R_alloc | apply Kd.R_drewN | apply Kd.R_drew)); exact Kd.R_mono HO336.out (fun _ hk => hk.2)), (Up.up BK329.out), (Up.up BK342.out), GW342.out, GE342.out, NB329_342.out, NB342_329.out, (by exact h2q HB.out GE329.out GE342.out)⟩)
   ·skip
    refine box_step ?hg (N := 6) ?hd (cs := #[.int .i64 0, .int .i64 0, .int .i64 0, .int .i64 0]) (t := 26) ?hr ?_; (case hd => rfl); (case hg => rfl); (case hr => first | (go_simp; done) | (go_simp; rfl))
    intro gb342 hg w41 hbox hb
    have n0_ := Aside0.mk (Kd.R_below (by exact rq HO333.out) hb)
    have n1_ := Aside0.mk (blk_below (g := gb329) (Up.up BK329.out) hb)
    have n2_ := Aside0.mk (below_step (by exact h1q HB.out GE329.out) hb)
    have n3_ := Aside0.mk (hbox)
    have n4_ := Aside0.mk ((by rw [hg]; exact (below_size (by exact h1q HB.out GE329.out)) : w.heap.size ≤ gb342))
    have n5_ := Aside0.mk ((by rw [hg]; exact (below_size (by exact h1q HB.out GE329.out)) : w.heap.size ≤ gb342))
    have n6_ := Aside0.mk ((by rw [hg]; exact Nat.ne_of_lt (blk_lt (g := gb329) (Up.up BK329.out)) : gb329 ≠ gb342))
    have n7_ := Aside0.mk ((by rw [hg]; exact Nat.ne_of_gt (blk_lt (g := gb329) (Up.up BK329.out)) : gb342 ≠ gb329))
    clear HO333 BK329 HB
    have HO333 := n0_
    have BK329 := n1_
    have HB := n2_
    have BK342 := n3_
    have GW342 := n4_
    have GE342 := n5_
    have NB329_342 := n6_
    have NB342_329 := n7_
    clear n0_ n1_ n2_ n3_ n4_ n5_ n6_ n7_ hb hbox hg
    obtain ⟨Ao42, co42, eo42⟩ := Kd.R_slice HO333.out
    (first | subst eo42 | (injection eo42 with f1_ f2_ f3_; have f4_ := f1_.symm; have f5_ := f3_.symm; clear f1_ f2_ f3_; subst f4_; subst f5_))
    refine hK.out _ _ ⟨(blk_cell BK329.out 0).trans rfl, (blk_cell BK329.out 1).trans rfl⟩ (fun hHeld => ?_)
    clear hK K
    refine norm_ (a' := ?_) ?_ ?_
    rotate_left
    ·show Act.put _ (some 6) _ = _
     simp only [Act.put, List.setIfInBounds_toArray, List.set_cons_zero, List.set_cons_succ, i64_w, i32_w]
     rfl
    refine one_ (i := 5) (N := some 24) #[true, true, true, true, true, true, false, false, false, false, true, false, false, false] rfl rfl (one_of HT_.out (by kernel_rfl)) (by decide) (fun K hK => ?_)
    refine goes_ Try.func9 (by kernel_rfl) rfl #[.slice Ao42 t331.length co42, .int .i64 (wrap64 (a1_0))] (by rfl) rfl rfl (by (try simp only [List.map_toArray, List.map_cons, List.map_nil]); first | done | rfl | (simp only [List.length_drop, List.length_take]; rfl)) ?_
    with_reducible refine (pay_All.calls k _ _ t331 (wrap64 (a1_0)) t334 t337 t338 t339 t340 t341 _ ?side1 ?side2 A8.out).mono ?_
    (case side1 => repeat (first | exact (Kd.R_reads' HO333.out).2.2 | (with_reducible refine Kd.C_alloc ?_ _) | (with_reducible refine Kd.C_drewN ?_ _) | (with_reducible refine Kd.C_drew ?_)))
    (case side2 => exact (Kd.R_reads' HO333.out).2.1)
    rintro e w43 ⟨v335, rfl, ho0, hb⟩
    refine ⟨_, rfl, ?_⟩
    have n0_ := Aside0.mk (Kd.R_elder' (by exact rq HO333.out) (Kd.R_base ho0) hb)
    have n1_ := Aside0.mk (Kd.R_lower (Kd.R_new' ho0 (Kd.R_lt (by exact rq HO333.out))) (below_size (by exact h2q HB.out GE329.out GE342.out)))
    have n2_ := Aside0.mk (blk_below (g := gb329) (Up.up BK329.out) hb)
    have n3_ := Aside0.mk (blk_below (g := gb342) (Up.up BK342.out) hb)
    have n4_ := Aside0.mk (below_step (by exact h2q HB.out GE329.out GE342.out) hb)
    clear HO333 BK329 BK342 HB
    have HO333 := n0_
    have HO336 := n1_
    have BK329 := n2_
    have BK342 := n3_
    have HB := n4_
    clear n0_ n1_ n2_ n3_ n4_
    (try clear hb)
    (try clear hb2)
    (try clear hk)
    (try clear hi)
    (try clear ho0)
    refine hK.out _ _ ⟨(blk_cell BK329.out 0).trans rfl, (blk_cell BK329.out 1).trans rfl⟩ (fun hHeld => ?_)
    clear hK K
    refine norm_ (a' := ?_) ?_ ?_
    rotate_left
    ·show Act.put _ (some 24) _ = _
     simp only [Act.put, List.setIfInBounds_toArray, List.set_cons_zero, List.set_cons_succ, i64_w, i32_w]
     rfl
    refine pure_ (i := 6) (N := some 18) (v := ?_) (a' := ?_) #[true, true, true, true, true, true, true, false, false, false, true, false, false, false] rfl rfl (any_of HT_.out (by kernel_rfl)) (fun _ _ _ h => h) (Or.inl ⟨by rfl, ?_⟩) ?_ ?_
    rotate_left
    ·intro w'
     go_simp
     with_reducible rfl
    rotate_left
    ·simp only [Act.put, List.setIfInBounds_toArray, List.set_cons_zero, List.set_cons_succ, i64_w, i32_w]
     rfl
    refine pure_ (i := 7) (N := some 25) (v := ?_) (a' := ?_) #[true, true, true, true, true, true, true, true, false, false, true, false, false, false] rfl rfl (any_of HT_.out (by kernel_rfl)) (fun _ _ _ h => h) (Or.inl ⟨by rfl, ?_⟩) ?_ ?_
    rotate_left
    ·intro w'
     go_simp
     with_reducible rfl
    rotate_left
    ·simp only [Act.put, List.setIfInBounds_toArray, List.set_cons_zero, List.set_cons_succ, i64_w, i32_w]
     rfl
    refine pure_ (i := 8) (N := some 26) (v := ?_) (a' := ?_) #[true, true, true, true, true, true, true, true, true, false, true, false, false, false] rfl rfl (any_of HT_.out (by kernel_rfl)) (fun _ _ _ h => h) (Or.inl ⟨by rfl, ?_⟩) ?_ ?_
    rotate_left
    ·intro w'
     go_simp
     with_reducible rfl
    rotate_left
    ·simp only [Act.put, List.setIfInBounds_toArray, List.set_cons_zero, List.set_cons_succ, i64_w, i32_w]
     rfl
    refine pure_ (i := 9) (N := some 27) (v := ?_) (a' := ?_) #[true, true, true, true, true, true, true, true, true, true, true, false, false, false] rfl rfl (any_of HT_.out (by kernel_rfl)) (fun _ _ _ h => h) (Or.inl ⟨by rfl, ?_⟩) ?_ ?_
    rotate_left
    ·intro w'
     go_simp
     with_reducible rfl
    rotate_left
    ·simp only [Act.put, List.setIfInBounds_toArray, List.set_cons_zero, List.set_cons_succ, i64_w, i32_w]
     rfl
    exact norm_ (by simp only [putAll, Act.put, List.setIfInBounds_toArray, List.set_cons_zero, List.set_cons_succ]) (hCont (.slice Ao42 t331.length co42, v335, gb342) _ ⟨hHeld, (by (with_reducible repeat (first | apply Kd.R_alloc | apply Kd.R_drewN | apply Kd.R_drew)); exact Kd.R_mono HO333.out (fun _ hk => hk.2)), (by (with_reducible repeat (first | apply Kd.R_alloc | apply Kd.R_drewN | apply Kd.R_drew)); exact Kd.R_mono HO336.out (fun _ hk => hk.2)), (Up.up BK329.out), (Up.up BK342.out), GW342.out, GE342.out, NB329_342.out, NB342_329.out, (by exact h2q HB.out GE329.out GE342.out)⟩)
  ·skip
   refine box_step ?hg (N := 6) ?hd (cs := #[.int .i64 0, .int .i64 0, .int .i64 0, .int .i64 0]) (t := 26) ?hr ?_; (case hd => rfl); (case hg => rfl); (case hr => first | (go_simp; done) | (go_simp; rfl))
   intro gb342 hg w40 hbox hb
   have n0_ := Aside0.mk (blk_below (g := gb329) (Up.up BK329.out) hb)
   have n1_ := Aside0.mk (below_step (by exact h1q HB.out GE329.out) hb)
   have n2_ := Aside0.mk (hbox)
   have n3_ := Aside0.mk ((by rw [hg]; exact (below_size (by exact h1q HB.out GE329.out)) : w.heap.size ≤ gb342))
   have n4_ := Aside0.mk ((by rw [hg]; exact (below_size (by exact h1q HB.out GE329.out)) : w.heap.size ≤ gb342))
   have n5_ := Aside0.mk ((by rw [hg]; exact Nat.ne_of_lt (blk_lt (g := gb329) (Up.up BK329.out)) : gb329 ≠ gb342))
   have n6_ := Aside0.mk ((by rw [hg]; exact Nat.ne_of_gt (blk_lt (g := gb329) (Up.up BK329.out)) : gb342 ≠ gb329))
   clear BK329 HB
   have BK329 := n0_
   have HB := n1_
   have BK342 := n2_
   have GW342 := n3_
   have GE342 := n4_
   have NB329_342 := n5_
   have NB342_329 := n6_
   clear n0_ n1_ n2_ n3_ n4_ n5_ n6_ hb hbox hg
   refine hK.out _ _ ⟨(blk_cell BK329.out 0).trans rfl, (blk_cell BK329.out 1).trans rfl⟩ (fun hHeld => ?_)
   clear hK K
   refine norm_ (a' := ?_) ?_ ?_
   rotate_left
   ·show Act.put _ (some 6) _ = _
    simp only [Act.put, List.setIfInBounds_toArray, List.set_cons_zero, List.set_cons_succ, i64_w, i32_w]
    rfl
   refine one_ (i := 1) (N := some 20) #[true, true, true, true, true, false, false, false, false, false, true, false, false, false] rfl rfl (one_of HT_.out (by kernel_rfl)) (by decide) (fun K hK => ?_)
   refine goes_ Try.func8 (by kernel_rfl) rfl #[.slice A0 l0.length c0] (by rfl) rfl rfl (by (try simp only [List.map_toArray, List.map_cons, List.map_nil]); first | done | rfl | (simp only [List.length_drop, List.length_take]; rfl)) ?_
   with_reducible refine (annuitykeep_CopyLoans.calls _ _ l0 t331 _ ?side1 ?side2 A7.out).mono ?_
   (case side1 => repeat (first | exact (Kd.C_below HR0.out HB.out) | (with_reducible refine Kd.C_alloc ?_ _) | (with_reducible refine Kd.C_drewN ?_ _) | (with_reducible refine Kd.C_drew ?_)))
   (case side2 => exact HC0.out)
   rintro e w41 ⟨v332, rfl, ho0, hb⟩
   refine ⟨_, rfl, ?_⟩
   have n0_ := Aside0.mk (Kd.R_lower ho0 (below_size (by exact h2q HB.out GE329.out GE342.out)))
   have n1_ := Aside0.mk (blk_below (g := gb329) (Up.up BK329.out) hb)
   have n2_ := Aside0.mk (blk_below (g := gb342) (Up.up BK342.out) hb)
   have n3_ := Aside0.mk (below_step (by exact h2q HB.out GE329.out GE342.out) hb)
   clear BK329 BK342 HB
   have HO333 := n0_
   have BK329 := n1_
   have BK342 := n2_
   have HB := n3_
   clear n0_ n1_ n2_ n3_
   (try clear hb)
   (try clear hb2)
   (try clear hk)
   (try clear hi)
   (try clear ho0)
   obtain ⟨Ao42, co42, eo42⟩ := Kd.R_slice HO333.out
   (first | subst eo42 | (injection eo42 with f1_ f2_ f3_; have f4_ := f1_.symm; have f5_ := f3_.symm; clear f1_ f2_ f3_; subst f4_; subst f5_))
   refine hK.out _ _ ⟨(blk_cell BK329.out 0).trans rfl, (blk_cell BK329.out 1).trans rfl⟩ (fun hHeld => ?_)
   clear hK K
   refine norm_ (a' := ?_) ?_ ?_
   rotate_left
   ·show Act.put _ (some 20) _ = _
    simp only [Act.put, List.setIfInBounds_toArray, List.set_cons_zero, List.set_cons_succ, i64_w, i32_w]
    rfl
   refine one_ (i := 5) (N := some 24) #[true, true, true, true, true, true, false, false, false, false, true, false, false, false] rfl rfl (one_of HT_.out (by kernel_rfl)) (by decide) (fun K hK => ?_)
   refine goes_ Try.func9 (by kernel_rfl) rfl #[.slice Ao42 t331.length co42, .int .i64 (wrap64 (a1_0))] (by rfl) rfl rfl (by (try simp only [List.map_toArray, List.map_cons, List.map_nil]); first | done | rfl | (simp only [List.length_drop, List.length_take]; rfl)) ?_
   with_reducible refine (pay_All.calls k _ _ t331 (wrap64 (a1_0)) t334 t337 t338 t339 t340 t341 _ ?side1 ?side2 A8.out).mono ?_
   (case side1 => repeat (first | exact (Kd.R_reads' HO333.out).2.2 | (with_reducible refine Kd.C_alloc ?_ _) | (with_reducible refine Kd.C_drewN ?_ _) | (with_reducible refine Kd.C_drew ?_)))
   (case side2 => exact (Kd.R_reads' HO333.out).2.1)
   rintro e w43 ⟨v335, rfl, ho0, hb⟩
   refine ⟨_, rfl, ?_⟩
   have n0_ := Aside0.mk (Kd.R_elder' (by exact rq HO333.out) (Kd.R_base ho0) hb)
   have n1_ := Aside0.mk (Kd.R_lower (Kd.R_new' ho0 (Kd.R_lt (by exact rq HO333.out))) (below_size (by exact h2q HB.out GE329.out GE342.out)))
   have n2_ := Aside0.mk (blk_below (g := gb329) (Up.up BK329.out) hb)
   have n3_ := Aside0.mk (blk_below (g := gb342) (Up.up BK342.out) hb)
   have n4_ := Aside0.mk (below_step (by exact h2q HB.out GE329.out GE342.out) hb)
   clear HO333 BK329 BK342 HB
   have HO333 := n0_
   have HO336 := n1_
   have BK329 := n2_
   have BK342 := n3_
   have HB := n4_
   clear n0_ n1_ n2_ n3_ n4_
   (try clear hb)
   (try clear hb2)
   (try clear hk)
   (try clear hi)
   (try clear ho0)
   refine hK.out _ _ ⟨(blk_cell BK329.out 0).trans rfl, (blk_cell BK329.out 1).trans rfl⟩ (fun hHeld => ?_)
   clear hK K
   refine norm_ (a' := ?_) ?_ ?_
   rotate_left
   ·show Act.put _ (some 24) _ = _
    simp only [Act.put, List.setIfInBounds_toArray, List.set_cons_zero, List.set_cons_succ, i64_w, i32_w]
    rfl
   refine pure_ (i := 6) (N := some 18) (v := ?_) (a' := ?_) #[true, true, true, true, true, true, true, false, false, false, true, false, false, false] rfl rfl (any_of HT_.out (by kernel_rfl)) (fun _ _ _ h => h) (Or.inl ⟨by rfl, ?_⟩) ?_ ?_
   rotate_left
   ·intro w'
    go_simp
    with_reducible rfl
   rotate_left
   ·simp only [Act.put, List.setIfInBounds_toArray, List.set_cons_zero, List.set_cons_succ, i64_w, i32_w]
    rfl
   refine pure_ (i := 7) (N := some 25) (v := ?_) (a' := ?_) #[true, true, true, true, true, true, true, true, false, false, true, false, false, false] rfl rfl (any_of HT_.out (by kernel_rfl)) (fun _ _ _ h => h) (Or.inl ⟨by rfl, ?_⟩) ?_ ?_
   rotate_left
   ·intro w'
    go_simp
    with_reducible rfl
   rotate_left
   ·simp only [Act.put, List.setIfInBounds_toArray, List.set_cons_zero, List.set_cons_succ, i64_w, i32_w]
    rfl
   refine pure_ (i := 8) (N := some 26) (v := ?_) (a' := ?_) #[true, true, true, true, true, true, true, true, true, false, true, false, false, false] rfl rfl (any_of HT_.out (by kernel_rfl)) (fun _ _ _ h => h) (Or.inl ⟨by rfl, ?_⟩) ?_ ?_
   rotate_left
   ·intro w'
    go_simp
    with_reducible rfl
   rotate_left
   ·simp only [Act.put, List.setIfInBounds_toArray, List.set_cons_zero, List.set_cons_succ, i64_w, i32_w]
    rfl
   refine pure_ (i := 9) (N := some 27) (v := ?_) (a' := ?_) #[true, true, true, true, true, true, true, true, true, true, true, false, false, false] rfl rfl (any_of HT_.out (by kernel_rfl)) (fun _ _ _ h => h) (Or.inl ⟨by rfl, ?_⟩) ?_ ?_
   rotate_left
   ·intro w'
    go_simp
    with_reducible rfl
   rotate_left
   ·simp only [Act.put, List.setIfInBounds_toArray, List.set_cons_zero, List.set_cons_succ, i64_w, i32_w]
    rfl
   exact norm_ (by simp only [putAll, Act.put, List.setIfInBounds_toArray, List.set_cons_zero, List.set_cons_succ]) (hCont (.slice Ao42 t331.length co42, v335, gb342) _ ⟨hHeld, (by (with_reducible repeat (first | apply Kd.R_alloc | apply Kd.R_drewN | apply Kd.R_drew)); exact Kd.R_mono HO333.out (fun _ hk => hk.2)), (by (with_reducible repeat (first | apply Kd.R_alloc | apply Kd.R_drewN | apply Kd.R_drew)); exact Kd.R_mono HO336.out (fun _ hk => hk.2)), (Up.up BK329.out), (Up.up BK342.out), GW342.out, GE342.out, NB329_342.out, NB342_329.out, (by exact h2q HB.out GE329.out GE342.out)⟩)
 rintro ⟨v332, v335, gb342⟩ w44 ⟨hS_, h0_, h1_, h2_, h3_, h4_, h5_, h6_, h7_, h8_⟩
 have n0_ : Aside0 (Kd.R k43 43 w44 w.heap.size (fun k_ => some k_ ≠ (v335 : Value).ownBlock) v332 t331) := ⟨h0_⟩
 have n1_ : Aside0 (Kd.R k43 43 w44 w.heap.size (fun k_ => some k_ ≠ (v332 : Value).ownBlock) v335 t334) := ⟨h1_⟩
 have n2_ : Aside0 (w44.heap[gb329]? = some (.cells #[.int .u32 a1_0, .int .u32 a1_1] 46 (0, 0))) := ⟨h2_⟩
 have n3_ : Aside0 (w44.heap[gb342]? = some (.cells #[.int .i64 0, .int .i64 0, .int .i64 0, .int .i64 0] 26 (0, 0))) := ⟨h3_⟩
 have n4_ : Aside0 (w.heap.size ≤ gb342) := ⟨h4_⟩
 have n5_ : Aside0 (w.heap.size ≤ gb342) := ⟨h5_⟩
 have n6_ : Aside0 (gb329 ≠ gb342) := ⟨h6_⟩
 have n7_ : Aside0 (gb342 ≠ gb329) := ⟨h7_⟩
 have n8_ : Aside0 (Below w.heap.size w w44) := ⟨h8_⟩
 clear BK329 HB h0_ h1_ h2_ h3_ h4_ h5_ h6_ h7_ h8_
 have HO333 := n0_
 have HO336 := n1_
 have BK329 := n2_
 have BK342 := n3_
 have GW342 := n4_
 have GE342 := n5_
 have NB329_342 := n6_
 have NB342_329 := n7_
 have HB := n8_
 clear n0_ n1_ n2_ n3_ n4_ n5_ n6_ n7_ n8_
 have hHeld : w44.cell? ⟨gb329, 0, none⟩ = some (.int .u32 a1_0) ∧ w44.cell? ⟨gb329, 1, none⟩ = some (.int .u32 a1_1) := hS_
 refine norm_ (a' := ?_) ?_ ?_
 rotate_left
 ·simp only [putAll, Act.put, List.setIfInBounds_toArray, List.set_cons_zero, List.set_cons_succ]
  rfl
 refine pure_ (i := 11) (N := some 5) (v := ?_) (a' := ?_) #[true, true, true, true, true, true, true, true, true, true, true, true, false, false] rfl rfl (any_of HT_.out (by kernel_rfl)) (fun _ _ _ h => h) (Or.inl ⟨by rfl, ?_⟩) ?_ ?_
 rotate_left
 ·intro w'
  go_simp
  with_reducible rfl
 rotate_left
 ·simp only [Act.put, List.setIfInBounds_toArray, List.set_cons_zero, List.set_cons_succ, i64_w, i32_w]
  rfl
 refine one_ (i := 12) (N := none) #[true, true, true, true, true, true, true, true, true, true, true, true, true, false] rfl rfl (one_of HT_.out (by kernel_rfl)) (by decide) (fun K hK => ?_)
 have hs45 : w44.cell? ⟨gb342, 0, none⟩ = some (.int .i64 0) := (blk_cell BK342.out 0).trans rfl
 have hfs45 := blk_frozen BK342.out 0
 have hns45_0 := NB329_342.out
 have hms45_0 := NB342_329.out
 have hs46 : w44.cell? ⟨gb342, 1, none⟩ = some (.int .i64 0) := (blk_cell BK342.out 1).trans rfl
 have hfs46 := blk_frozen BK342.out 1
 have hns46_0 := NB329_342.out
 have hms46_0 := NB342_329.out
 have hs47 : w44.cell? ⟨gb342, 2, none⟩ = some (.int .i64 0) := (blk_cell BK342.out 2).trans rfl
 have hfs47 := blk_frozen BK342.out 2
 have hns47_0 := NB329_342.out
 have hms47_0 := NB342_329.out
 have hs48 : w44.cell? ⟨gb342, 3, none⟩ = some (.int .i64 0) := (blk_cell BK342.out 3).trans rfl
 have hfs48 := blk_frozen BK342.out 3
 have hns48_0 := NB329_342.out
 have hms48_0 := NB342_329.out
 refine skip_ (w1 := ?_) (by rfl) rfl ?_ ?_
 rotate_left
 ·go_simp
  rfl
 refine hK.out _ _ ⟨((cell_far (p := ⟨gb342, _, none⟩) NB329_342.out _).trans (((cell_far (p := ⟨gb342, _, none⟩) NB329_342.out _).trans (((cell_far (p := ⟨gb342, _, none⟩) NB329_342.out _).trans (((cell_far (p := ⟨gb342, _, none⟩) NB329_342.out _).trans (hHeld.1)))))))), ((cell_far (p := ⟨gb342, _, none⟩) NB329_342.out _).trans (((cell_far (p := ⟨gb342, _, none⟩) NB329_342.out _).trans (((cell_far (p := ⟨gb342, _, none⟩) NB329_342.out _).trans (((cell_far (p := ⟨gb342, _, none⟩) NB329_342.out _).trans (hHeld.2))))))))⟩ (fun hHeld => ?_)
 clear hK K
 refine pure_ (i := 13) (N := some 7) (v := ?_) (a' := ?_) #[true, true, true, true, true, true, true, true, true, true, true, true, true, true] rfl rfl (any_of HT_.out (by kernel_rfl)) (fun _ _ _ h => h) (Or.inl ⟨by rfl, ?_⟩) ?_ ?_
 rotate_left
 ·intro w'
  go_simp
  with_reducible rfl
 rotate_left
 ·simp only [Act.put, List.setIfInBounds_toArray, List.set_cons_zero, List.set_cons_succ, i64_w, i32_w]
  rfl
 refine done_ (done_of HT_.out (by kernel_rfl)) ?_
 have hnb49 := NB342_329.out
 have hnc49 := NB329_342.out
 have hcz50_0 : w44.cell? ⟨gb342, 0, none⟩ = some (.int .i64 0) := (blk_cell BK342.out 0).trans rfl
 have hcz50_1 : w44.cell? ⟨gb342, 1, none⟩ = some (.int .i64 0) := (blk_cell BK342.out 1).trans rfl
 have hcz50_2 : w44.cell? ⟨gb342, 2, none⟩ = some (.int .i64 0) := (blk_cell BK342.out 2).trans rfl
 have hcz50_3 : w44.cell? ⟨gb342, 3, none⟩ = some (.int .i64 0) := (blk_cell BK342.out 3).trans rfl
 have hfz50_0 := blk_frozen BK342.out 0
 have hfz50_1 := blk_frozen BK342.out 1
 have hfz50_2 := blk_frozen BK342.out 2
 have hfz50_3 := blk_frozen BK342.out 3
 have hcz51_0 : w44.cell? ⟨gb329, 0, none⟩ = some (.int .u32 a1_0) := (blk_cell BK329.out 0).trans rfl
 have hcz51_1 : w44.cell? ⟨gb329, 1, none⟩ = some (.int .u32 a1_1) := (blk_cell BK329.out 1).trans rfl
 have hfz51_0 := blk_frozen BK329.out 0
 have hfz51_1 := blk_frozen BK329.out 1
 obtain ⟨Ao52, co52, eo52⟩ := Kd.R_slice HO336.out
 subst eo52
 try go_wp2_with (first | ((with_reducible refine gate_callee (f := 9) rfl ?_); refine goesL_ (some 41) rfl rfl Try.func9 (by kernel_rfl) rfl #[.slice Ao52 t334.length co52, .int .i64 (wrap64 (a1_1))] rfl (by (try simp only [List.map_toArray, List.map_cons, List.map_nil]); first | done | rfl | (simp only [List.length_drop, List.length_take]; rfl)) ?_; (with_reducible refine (pay_All.calls k _ _ t334 (wrap64 (a1_1)) t344 t347 t348 t349 t350 t351 _ ?side1 ?side2 A26.out).mono ?_); (case side1 => refine (Kd.R_reads' (e := 43) (base := w.heap.size) (ok := fun k_ => some k_ ≠ (v332 : Value).ownBlock) (n := t334.length) (c := co52) ?_).2.2; exact (by (with_reducible repeat (first | apply Kd.R_alloc | apply Kd.R_drewN | apply Kd.R_drew)); exact (Kd.R_mono (Kd.R_far (p := ⟨gb342, 3, none⟩) (Kd.R_far (p := ⟨gb342, 2, none⟩) (Kd.R_far (p := ⟨gb342, 1, none⟩) (Kd.R_far (p := ⟨gb342, 0, none⟩) (Kd.R_types HO336.out BK342.out (by decide)) (fun _ hk => hk.2) (.int .i64 t337)) (fun _ hk => hk.2) (.int .i64 t338)) (fun _ hk => hk.2) (.int .i64 t339)) (fun _ hk => hk.2) (.int .i64 t340)) (fun _ h_ => h_.1)))); (case side2 => exact (Kd.R_reads' HO336.out).2.1); rintro e w53 ⟨v345, rfl, ho0, hb⟩; refine ⟨_, rfl, ?_⟩; have n0_ := Aside0.mk (Kd.R_elder' (by (with_reducible repeat (first | apply Kd.R_alloc | apply Kd.R_drewN | apply Kd.R_drew)); exact (Kd.R_mono (Kd.R_far (p := ⟨gb342, 3, none⟩) (Kd.R_far (p := ⟨gb342, 2, none⟩) (Kd.R_far (p := ⟨gb342, 1, none⟩) (Kd.R_far (p := ⟨gb342, 0, none⟩) (Kd.R_types HO333.out BK342.out (by decide)) (fun _ hk => hk.2) (.int .i64 t337)) (fun _ hk => hk.2) (.int .i64 t338)) (fun _ hk => hk.2) (.int .i64 t339)) (fun _ hk => hk.2) (.int .i64 t340)) (fun _ h_ => h_.1))) (Kd.R_base ho0) hb); have n1_ := Aside0.mk (Kd.R_elder' (by (with_reducible repeat (first | apply Kd.R_alloc | apply Kd.R_drewN | apply Kd.R_drew)); exact (Kd.R_mono (Kd.R_far (p := ⟨gb342, 3, none⟩) (Kd.R_far (p := ⟨gb342, 2, none⟩) (Kd.R_far (p := ⟨gb342, 1, none⟩) (Kd.R_far (p := ⟨gb342, 0, none⟩) (Kd.R_types HO336.out BK342.out (by decide)) (fun _ hk => hk.2) (.int .i64 t337)) (fun _ hk => hk.2) (.int .i64 t338)) (fun _ hk => hk.2) (.int .i64 t339)) (fun _ hk => hk.2) (.int .i64 t340)) (fun _ h_ => h_.1))) (Kd.R_base ho0) hb); have n2_ := Aside0.mk (Kd.R_lower (Kd.R_new' (Kd.R_new' ho0 (Kd.R_lt (by (with_reducible repeat (first | apply Kd.R_alloc | apply Kd.R_drewN | apply Kd.R_drew)); exact (Kd.R_mono (Kd.R_far (p := ⟨gb342, 3, none⟩) (Kd.R_far (p := ⟨gb342, 2, none⟩) (Kd.R_far (p := ⟨gb342, 1, none⟩) (Kd.R_far (p := ⟨gb342, 0, none⟩) (Kd.R_types HO333.out BK342.out (by decide)) (fun _ hk => hk.2) (.int .i64 t337)) (fun _ hk => hk.2) (.int .i64 t338)) (fun _ hk => hk.2) (.int .i64 t339)) (fun _ hk => hk.2) (.int .i64 t340)) (fun _ h_ => h_.1))))) (Kd.R_lt (by (with_reducible repeat (first | apply Kd.R_alloc | apply Kd.R_drewN | apply Kd.R_drew)); exact (Kd.R_mono (Kd.R_far (p := ⟨gb342, 3, none⟩) (Kd.R_far (p := ⟨gb342, 2, none⟩) (Kd.R_far (p := ⟨gb342, 1, none⟩) (Kd.R_far (p := ⟨gb342, 0, none⟩) (Kd.R_types HO336.out BK342.out (by decide)) (fun _ hk => hk.2) (.int .i64 t337)) (fun _ hk => hk.2) (.int .i64 t338)) (fun _ hk => hk.2) (.int .i64 t339)) (fun _ hk => hk.2) (.int .i64 t340)) (fun _ h_ => h_.1))))) (below_size (by exact h2q HB.out GE329.out GE342.out))); have n3_ := Aside0.mk (blk_below (g := gb329) (o := .cells #[.int .u32 a1_0, .int .u32 a1_1] 46 (0, 0)) (by (iterate 4 ((with_reducible repeat (first | refine blk_drewN ?_ _ | refine blk_drew ?_ | refine blk_alloc ?_ _)); refine blk_far ?_ NB329_342.out _)); (with_reducible repeat (first | refine blk_drewN ?_ _ | refine blk_drew ?_ | refine blk_alloc ?_ _)); exact BK329.out) hb); have n4_ := Aside0.mk (blk_below (g := gb342) (o := .cells #[.int .i64 t337, .int .i64 t338, .int .i64 t339, .int .i64 t340] 26 (0, 0)) (by (with_reducible repeat (first | refine blk_drewN ?_ _ | refine blk_drew ?_ | refine blk_alloc ?_ _)); refine blk_put (cs := #[.int .i64 t337, .int .i64 t338, .int .i64 t339, .int .i64 0]) ?_ 3 _ rfl; (with_reducible repeat (first | refine blk_drewN ?_ _ | refine blk_drew ?_ | refine blk_alloc ?_ _)); refine blk_put (cs := #[.int .i64 t337, .int .i64 t338, .int .i64 0, .int .i64 0]) ?_ 2 _ rfl; (with_reducible repeat (first | refine blk_drewN ?_ _ | refine blk_drew ?_ | refine blk_alloc ?_ _)); refine blk_put (cs := #[.int .i64 t337, .int .i64 0, .int .i64 0, .int .i64 0]) ?_ 1 _ rfl; (with_reducible repeat (first | refine blk_drewN ?_ _ | refine blk_drew ?_ | refine blk_alloc ?_ _)); refine blk_put (cs := #[.int .i64 0, .int .i64 0, .int .i64 0, .int .i64 0]) ?_ 0 _ rfl; (with_reducible repeat (first | refine blk_drewN ?_ _ | refine blk_drew ?_ | refine blk_alloc ?_ _)); exact BK342.out) hb); have n5_ := Aside0.mk (below_step (by exact h2q HB.out GE329.out GE342.out) hb); clear HO333; clear HO336; clear BK329; clear BK342; clear HB; have HO333 := n0_; have HO336 := n1_; have HO346 := n2_; have BK329 := n3_; have BK342 := n4_; have HB := n5_; clear n0_ n1_ n2_ n3_ n4_ n5_; (try clear hb); (try clear hb2); (try clear hk); (try clear hi); (try clear ho0)) | ((with_reducible refine gate_dst (N := 9) rfl ?_); refine box_event ?hg (N := 9) ?hd (cs := #[.int .i64 0, .int .i64 0, .int .i64 0, .int .i64 0]) (t := 26) ?hr ?_; (case hd => rfl); (case hg => rfl); (case hr => first | (go_simp; done) | (go_simp; rfl)); intro gb352 hg w54 hbox hb; have n0_ := Aside0.mk (Kd.R_below (by exact rq HO333.out) hb); have n1_ := Aside0.mk (Kd.R_below (by exact rq HO336.out) hb); have n2_ := Aside0.mk (Kd.R_below (by exact rq HO346.out) hb); have n3_ := Aside0.mk (blk_below (g := gb329) (Up.up BK329.out) hb); have n4_ := Aside0.mk (blk_below (g := gb342) (Up.up BK342.out) hb); have n5_ := Aside0.mk (below_step (by exact h2q HB.out GE329.out GE342.out) hb); have n6_ := Aside0.mk (hbox); have n7_ := Aside0.mk ((by rw [hg]; exact (below_size (by exact h2q HB.out GE329.out GE342.out)) : w.heap.size ≤ gb352)); have n8_ := Aside0.mk ((by rw [hg]; exact (below_size (by exact h2q HB.out GE329.out GE342.out)) : w.heap.size ≤ gb352)); have n9_ := Aside0.mk ((by rw [hg]; exact Nat.ne_of_lt (blk_lt (g := gb329) (Up.up BK329.out)) : gb329 ≠ gb352)); have n10_ := Aside0.mk ((by rw [hg]; exact Nat.ne_of_gt (blk_lt (g := gb329) (Up.up BK329.out)) : gb352 ≠ gb329)); have n11_ := Aside0.mk ((by rw [hg]; exact Nat.ne_of_lt (blk_lt (g := gb342) (Up.up BK342.out)) : gb342 ≠ gb352)); have n12_ := Aside0.mk ((by rw [hg]; exact Nat.ne_of_gt (blk_lt (g := gb342) (Up.up BK342.out)) : gb352 ≠ gb342)); clear HO333; clear HO336; clear HO346; clear BK329; clear BK342; clear HB; have HO333 := n0_; have HO336 := n1_; have HO346 := n2_; have BK329 := n3_; have BK342 := n4_; have HB := n5_; have BK352 := n6_; have GW352 := n7_; have GE352 := n8_; have NB329_352 := n9_; have NB352_329 := n10_; have NB342_352 := n11_; have NB352_342 := n12_; clear n0_ n1_ n2_ n3_ n4_ n5_ n6_ n7_ n8_ n9_ n10_ n11_ n12_; clear hb hbox hg; have hnb55 := NB352_329.out; have hnc55 := NB329_352.out; have hnb56 := NB352_342.out; have hnc56 := NB342_352.out; have hcz57_0 : w54.cell? ⟨gb352, 0, none⟩ = some (.int .i64 0) := (blk_cell BK352.out 0).trans rfl; have hcz57_1 : w54.cell? ⟨gb352, 1, none⟩ = some (.int .i64 0) := (blk_cell BK352.out 1).trans rfl; have hcz57_2 : w54.cell? ⟨gb352, 2, none⟩ = some (.int .i64 0) := (blk_cell BK352.out 2).trans rfl; have hcz57_3 : w54.cell? ⟨gb352, 3, none⟩ = some (.int .i64 0) := (blk_cell BK352.out 3).trans rfl; have hfz57_0 := blk_frozen BK352.out 0; have hfz57_1 := blk_frozen BK352.out 1; have hfz57_2 := blk_frozen BK352.out 2; have hfz57_3 := blk_frozen BK352.out 3))
 have n0_ : Aside0 (Kd.R k43 43 ((((w54.setCell ⟨gb352, 0, none⟩ (.int .i64 t347)).setCell ⟨gb352, 1, none⟩ (.int .i64 t348)).setCell ⟨gb352, 2, none⟩ (.int .i64 t349)).setCell ⟨gb352, 3, none⟩ (.int .i64 t350)) w.heap.size (fun k_ => some k_ ≠ (.slice Ao52 t334.length co52 : Value).ownBlock ∧ some k_ ≠ (v345 : Value).ownBlock) v332 t331) := ⟨by (with_reducible repeat (first | apply Kd.R_alloc | apply Kd.R_drewN | apply Kd.R_drew)); exact Kd.R_mono (Kd.R_far (p := ⟨gb352, 3, none⟩) (Kd.R_far (p := ⟨gb352, 2, none⟩) (Kd.R_far (p := ⟨gb352, 1, none⟩) (Kd.R_far (p := ⟨gb352, 0, none⟩) (Kd.R_types HO333.out BK352.out (by decide)) (fun _ hk => hk.2) (.int .i64 t347)) (fun _ hk => hk.2) (.int .i64 t348)) (fun _ hk => hk.2) (.int .i64 t349)) (fun _ hk => hk.2) (.int .i64 t350)) (fun _ hk => ⟨hk.1.1, hk.1.2⟩)⟩
 have n1_ : Aside0 (Kd.R k43 43 ((((w54.setCell ⟨gb352, 0, none⟩ (.int .i64 t347)).setCell ⟨gb352, 1, none⟩ (.int .i64 t348)).setCell ⟨gb352, 2, none⟩ (.int .i64 t349)).setCell ⟨gb352, 3, none⟩ (.int .i64 t350)) w.heap.size (fun k_ => some k_ ≠ (v332 : Value).ownBlock ∧ some k_ ≠ (v345 : Value).ownBlock) (.slice Ao52 t334.length co52) t334) := ⟨by (with_reducible repeat (first | apply Kd.R_alloc | apply Kd.R_drewN | apply Kd.R_drew)); exact Kd.R_mono (Kd.R_far (p := ⟨gb352, 3, none⟩) (Kd.R_far (p := ⟨gb352, 2, none⟩) (Kd.R_far (p := ⟨gb352, 1, none⟩) (Kd.R_far (p := ⟨gb352, 0, none⟩) (Kd.R_types HO336.out BK352.out (by decide)) (fun _ hk => hk.2) (.int .i64 t347)) (fun _ hk => hk.2) (.int .i64 t348)) (fun _ hk => hk.2) (.int .i64 t349)) (fun _ hk => hk.2) (.int .i64 t350)) (fun _ hk => ⟨hk.1.1, hk.1.2⟩)⟩
 have n2_ : Aside0 (Kd.R k43 43 ((((w54.setCell ⟨gb352, 0, none⟩ (.int .i64 t347)).setCell ⟨gb352, 1, none⟩ (.int .i64 t348)).setCell ⟨gb352, 2, none⟩ (.int .i64 t349)).setCell ⟨gb352, 3, none⟩ (.int .i64 t350)) w.heap.size (fun k_ => some k_ ≠ (v332 : Value).ownBlock ∧ some k_ ≠ (.slice Ao52 t334.length co52 : Value).ownBlock) v345 t344) := ⟨by (with_reducible repeat (first | apply Kd.R_alloc | apply Kd.R_drewN | apply Kd.R_drew)); exact Kd.R_mono (Kd.R_far (p := ⟨gb352, 3, none⟩) (Kd.R_far (p := ⟨gb352, 2, none⟩) (Kd.R_far (p := ⟨gb352, 1, none⟩) (Kd.R_far (p := ⟨gb352, 0, none⟩) (Kd.R_types HO346.out BK352.out (by decide)) (fun _ hk => hk.2) (.int .i64 t347)) (fun _ hk => hk.2) (.int .i64 t348)) (fun _ hk => hk.2) (.int .i64 t349)) (fun _ hk => hk.2) (.int .i64 t350)) (fun _ hk => ⟨hk.1.1.2, hk.1.2⟩)⟩
 have n3_ : Aside0 (((((w54.setCell ⟨gb352, 0, none⟩ (.int .i64 t347)).setCell ⟨gb352, 1, none⟩ (.int .i64 t348)).setCell ⟨gb352, 2, none⟩ (.int .i64 t349)).setCell ⟨gb352, 3, none⟩ (.int .i64 t350)).heap[gb329]? = some (.cells #[.int .u32 a1_0, .int .u32 a1_1] 46 (0, 0))) := ⟨by (iterate 4 ((with_reducible repeat (first | refine blk_drewN ?_ _ | refine blk_drew ?_ | refine blk_alloc ?_ _)); refine blk_far ?_ NB329_352.out _)); (with_reducible repeat (first | refine blk_drewN ?_ _ | refine blk_drew ?_ | refine blk_alloc ?_ _)); exact BK329.out⟩
 have n4_ : Aside0 (((((w54.setCell ⟨gb352, 0, none⟩ (.int .i64 t347)).setCell ⟨gb352, 1, none⟩ (.int .i64 t348)).setCell ⟨gb352, 2, none⟩ (.int .i64 t349)).setCell ⟨gb352, 3, none⟩ (.int .i64 t350)).heap[gb342]? = some (.cells #[.int .i64 t337, .int .i64 t338, .int .i64 t339, .int .i64 t340] 26 (0, 0))) := ⟨by (iterate 4 ((with_reducible repeat (first | refine blk_drewN ?_ _ | refine blk_drew ?_ | refine blk_alloc ?_ _)); refine blk_far ?_ NB342_352.out _)); (with_reducible repeat (first | refine blk_drewN ?_ _ | refine blk_drew ?_ | refine blk_alloc ?_ _)); exact BK342.out⟩
 have n5_ : Aside0 (((((w54.setCell ⟨gb352, 0, none⟩ (.int .i64 t347)).setCell ⟨gb352, 1, none⟩ (.int .i64 t348)).setCell ⟨gb352, 2, none⟩ (.int .i64 t349)).setCell ⟨gb352, 3, none⟩ (.int .i64 t350)).heap[gb352]? = some (.cells #[.int .i64 t347, .int .i64 t348, .int .i64 t349, .int .i64 t350] 26 (0, 0))) := ⟨by (with_reducible repeat (first | refine blk_drewN ?_ _ | refine blk_drew ?_ | refine blk_alloc ?_ _)); refine blk_put (cs := #[.int .i64 t347, .int .i64 t348, .int .i64 t349, .int .i64 0]) ?_ 3 _ rfl; (with_reducible repeat (first | refine blk_drewN ?_ _ | refine blk_drew ?_ | refine blk_alloc ?_ _)); refine blk_put (cs := #[.int .i64 t347, .int .i64 t348, .int .i64 0, .int .i64 0]) ?_ 2 _ rfl; (with_reducible repeat (first | refine blk_drewN ?_ _ | refine blk_drew ?_ | refine blk_alloc ?_ _)); refine blk_put (cs := #[.int .i64 t347, .int .i64 0, .int .i64 0, .int .i64 0]) ?_ 1 _ rfl; (with_reducible repeat (first | refine blk_drewN ?_ _ | refine blk_drew ?_ | refine blk_alloc ?_ _)); refine blk_put (cs := #[.int .i64 0, .int .i64 0, .int .i64 0, .int .i64 0]) ?_ 0 _ rfl; (with_reducible repeat (first | refine blk_drewN ?_ _ | refine blk_drew ?_ | refine blk_alloc ?_ _)); exact BK352.out⟩
 have n6_ : Aside0 (Below w.heap.size w ((((w54.setCell ⟨gb352, 0, none⟩ (.int .i64 t347)).setCell ⟨gb352, 1, none⟩ (.int .i64 t348)).setCell ⟨gb352, 2, none⟩ (.int .i64 t349)).setCell ⟨gb352, 3, none⟩ (.int .i64 t350))) := ⟨by exact h3q HB.out GE329.out GE342.out GE352.out⟩
 (try clear HO333)
 (try clear HO336)
 (try clear HO346)
 (try clear BK329)
 (try clear BK342)
 (try clear BK352)
 (try clear HB)
 try simp only [show ∀ (w_ : World) (n_ : Nat) (p_ : Addr) (v_ : Value), (w_.drewN n_).setCell p_ v_ = (w_.setCell p_ v_).drewN n_ from fun _ _ _ _ => rfl]
 generalize ((((w54.setCell ⟨gb352, 0, none⟩ (.int .i64 t347)).setCell ⟨gb352, 1, none⟩ (.int .i64 t348)).setCell ⟨gb352, 2, none⟩ (.int .i64 t349)).setCell ⟨gb352, 3, none⟩ (.int .i64 t350)) = w58 at n0_ n1_ n2_ n3_ n4_ n5_ n6_ ⊢
 have HO333 := n0_
 have HO336 := n1_
 have HO346 := n2_
 have BK329 := n3_
 have BK342 := n4_
 have BK352 := n5_
 have HB := n6_
 clear n0_ n1_ n2_ n3_ n4_ n5_ n6_
 have n0_ := Aside0.mk (Kd.R_drew HO333.out)
 have n1_ := Aside0.mk (Kd.R_drew HO336.out)
 have n2_ := Aside0.mk (Kd.R_drew HO346.out)
 have n3_ := Aside0.mk (blk_drew BK329.out)
 have n4_ := Aside0.mk (blk_drew BK342.out)
 have n5_ := Aside0.mk (blk_drew BK352.out)
 have n6_ := Aside0.mk (below_drew1 HB.out)
 clear HO333 HO336 HO346 BK329 BK342 BK352 HB
 have HO333 := n0_
 have HO336 := n1_
 have HO346 := n2_
 have BK329 := n3_
 have BK342 := n4_
 have BK352 := n5_
 have HB := n6_
 clear n0_ n1_ n2_ n3_ n4_ n5_ n6_
 refine start_ (n := 18) (S := fun w' => w'.cell? ⟨gb329, 0, none⟩ = some (.int .u32 a1_0) ∧ w'.cell? ⟨gb329, 1, none⟩ = some (.int .u32 a1_1)) (ds := []) #[false, false, false, false, false, false, false, false, false, false, false, false, false, false, false, false, false, false] (by kernel_rfl) rfl rfl ⟨(blk_cell BK329.out 0).trans rfl, (blk_cell BK329.out 1).trans rfl⟩ (fun hHeld => ?_); refine with_tabW annuitylaw20_PayTwice.tab7 annuitylaw20_PayTwice.bits7 (fun HT_ HW_ => ?_)
 generalize w58.drew = w59 at HO333 HO336 HO346 BK329 BK342 BK352 HB hHeld ⊢
 refine pure_ (i := 0) (N := some 46) (v := ?_) (a' := ?_) #[true, false, false, false, false, false, false, false, false, false, false, false, false, false, false, false, false, false] rfl rfl (any_of HT_.out (by kernel_rfl)) (fun _ _ _ h => h) (Or.inl ⟨by rfl, ?_⟩) ?_ ?_
 rotate_left
 ·intro w'
  go_simp
  with_reducible rfl
 rotate_left
 ·simp only [Act.put, List.setIfInBounds_toArray, List.set_cons_zero, List.set_cons_succ, i64_w, i32_w]
  rfl
 refine pure_ (i := 2) (N := some 48) (v := ?_) (a' := ?_) #[true, false, true, false, false, false, false, false, false, false, false, false, false, false, false, false, false, false] rfl rfl (any_of HT_.out (by kernel_rfl)) (fun _ _ _ h => h) (Or.inl ⟨by rfl, ?_⟩) ?_ ?_
 rotate_left
 ·intro w'
  go_simp
  with_reducible rfl
 rotate_left
 ·simp only [Act.put, List.setIfInBounds_toArray, List.set_cons_zero, List.set_cons_succ, i64_w, i32_w]
  rfl
 refine pure_ (i := 5) (N := some 51) (v := ?_) (a' := ?_) #[true, false, true, false, false, true, false, false, false, false, false, false, false, false, false, false, false, false] rfl rfl (any_of HT_.out (by kernel_rfl)) (fun _ _ _ h => h) (Or.inl ⟨by rfl, ?_⟩) ?_ ?_
 rotate_left
 ·intro w'
  go_simp
  with_reducible rfl
 rotate_left
 ·simp only [Act.put, List.setIfInBounds_toArray, List.set_cons_zero, List.set_cons_succ, i64_w, i32_w]
  rfl
 refine take_ (i := 3) (N := some 49) (v := ?_) (a' := ?_) #[true, false, true, true, false, true, false, false, false, false, false, false, false, false, false, false, false, false] rfl rfl (take_ofW HT_.out HW_.out (by kernel_rfl)) (fun _ _ _ h => h) (Or.inl ⟨by rfl, ?_⟩) hHeld ?_ ?_
 rotate_left
 ·rintro w' ⟨s0, s1⟩
  go_simp
  with_reducible rfl
 rotate_left
 ·simp only [Act.put, List.setIfInBounds_toArray, List.set_cons_zero, List.set_cons_succ, i64_w, i32_w]
  rfl
 refine pure_ (i := 4) (N := some 50) (v := ?_) (a' := ?_) #[true, false, true, true, true, true, false, false, false, false, false, false, false, false, false, false, false, false] rfl rfl (any_of HT_.out (by kernel_rfl)) (fun _ _ _ h => h) (Or.inl ⟨by rfl, ?_⟩) ?_ ?_
 rotate_left
 ·intro w'
  go_simp
  with_reducible rfl
 rotate_left
 ·simp only [Act.put, List.setIfInBounds_toArray, List.set_cons_zero, List.set_cons_succ, i64_w, i32_w]
  rfl
 refine take_ (i := 6) (N := some 52) (v := ?_) (a' := ?_) #[true, false, true, true, true, true, true, false, false, false, false, false, false, false, false, false, false, false] rfl rfl (take_ofW HT_.out HW_.out (by kernel_rfl)) (fun _ _ _ h => h) (Or.inl ⟨by rfl, ?_⟩) hHeld ?_ ?_
 rotate_left
 ·rintro w' ⟨s0, s1⟩
  go_simp
  with_reducible rfl
 rotate_left
 ·simp only [Act.put, List.setIfInBounds_toArray, List.set_cons_zero, List.set_cons_succ, i64_w, i32_w]
  rfl
 refine pure_ (i := 7) (N := some 53) (v := ?_) (a' := ?_) #[true, false, true, true, true, true, true, true, false, false, false, false, false, false, false, false, false, false] rfl rfl (any_of HT_.out (by kernel_rfl)) (fun _ _ _ h => h) (Or.inl ⟨by rfl, ?_⟩) ?_ ?_
 rotate_left
 ·intro w'
  go_simp
  with_reducible rfl
 rotate_left
 ·simp only [Act.put, List.setIfInBounds_toArray, List.set_cons_zero, List.set_cons_succ, i64_w, i32_w]
  rfl
 refine pure_ (i := 8) (N := some 54) (v := ?_) (a' := ?_) #[true, false, true, true, true, true, true, true, true, false, false, false, false, false, false, false, false, false] rfl rfl (any_of HT_.out (by kernel_rfl)) (fun _ _ _ h => h) (Or.inl ⟨by rfl, ?_⟩) ?_ ?_
 rotate_left
 ·intro w'
  go_simp
  with_reducible rfl
 rotate_left
 ·simp only [Act.put, List.setIfInBounds_toArray, List.set_cons_zero, List.set_cons_succ, i64_w, i32_w]
  rfl
 refine join_ (σ := Value × Value × Nat) 3 #[true, true, true, true, true, true, true, true, true, true, true, true, true, true, true, false, false, false] (fun s_ => [(47, s_.1), (55, .tuple #[s_.2.1, .agg #[.int .i64 t359, .int .i64 t360, .int .i64 t361, .int .i64 t362], .int .i64 t363]), (12, .pointer (some ⟨s_.2.2, 0, none⟩)), (45, .tuple #[s_.2.1, .agg #[.int .i64 t359, .int .i64 t360, .int .i64 t361, .int .i64 t362], .int .i64 t363]), (56, s_.2.1), (57, .agg #[.int .i64 t359, .int .i64 t360, .int .i64 t361, .int .i64 t362]), (58, .int .i64 t363)]) (fun s_ w' => (w'.cell? ⟨gb329, 0, none⟩ = some (.int .u32 a1_0) ∧ w'.cell? ⟨gb329, 1, none⟩ = some (.int .u32 a1_1)) ∧ (Kd.R k43 43 w' w.heap.size (fun k_ => some k_ ≠ (.slice Ao52 t334.length co52 : Value).ownBlock ∧ some k_ ≠ (v345 : Value).ownBlock ∧ some k_ ≠ (s_.1 : Value).ownBlock ∧ some k_ ≠ (s_.2.1 : Value).ownBlock) v332 t331) ∧ (Kd.R k43 43 w' w.heap.size (fun k_ => some k_ ≠ (v332 : Value).ownBlock ∧ some k_ ≠ (v345 : Value).ownBlock ∧ some k_ ≠ (s_.1 : Value).ownBlock ∧ some k_ ≠ (s_.2.1 : Value).ownBlock) (.slice Ao52 t334.length co52) t334) ∧ (Kd.R k43 43 w' w.heap.size (fun k_ => some k_ ≠ (v332 : Value).ownBlock ∧ some k_ ≠ (.slice Ao52 t334.length co52 : Value).ownBlock ∧ some k_ ≠ (s_.1 : Value).ownBlock ∧ some k_ ≠ (s_.2.1 : Value).ownBlock) v345 t344) ∧ (Kd.R k43 43 w' w.heap.size (fun k_ => some k_ ≠ (v332 : Value).ownBlock ∧ some k_ ≠ (.slice Ao52 t334.length co52 : Value).ownBlock ∧ some k_ ≠ (v345 : Value).ownBlock ∧ some k_ ≠ (s_.2.1 : Value).ownBlock) s_.1 t353) ∧ (Kd.R k43 43 w' w.heap.size (fun k_ => some k_ ≠ (v332 : Value).ownBlock ∧ some k_ ≠ (.slice Ao52 t334.length co52 : Value).ownBlock ∧ some k_ ≠ (v345 : Value).ownBlock ∧ some k_ ≠ (s_.1 : Value).ownBlock) s_.2.1 t356) ∧ (w'.heap[gb329]? = some (.cells #[.int .u32 a1_0, .int .u32 a1_1] 46 (0, 0))) ∧ (w'.heap[gb342]? = some (.cells #[.int .i64 t337, .int .i64 t338, .int .i64 t339, .int .i64 t340] 26 (0, 0))) ∧ (w'.heap[gb352]? = some (.cells #[.int .i64 t347, .int .i64 t348, .int .i64 t349, .int .i64 t350] 26 (0, 0))) ∧ (w'.heap[s_.2.2]? = some (.cells #[.int .i64 0, .int .i64 0, .int .i64 0, .int .i64 0] 26 (0, 0))) ∧ (w.heap.size ≤ s_.2.2) ∧ (w.heap.size ≤ s_.2.2) ∧ (gb329 ≠ s_.2.2) ∧ (s_.2.2 ≠ gb329) ∧ (gb342 ≠ s_.2.2) ∧ (s_.2.2 ≠ gb342) ∧ (gb352 ≠ s_.2.2) ∧ (s_.2.2 ≠ gb352) ∧ (Below w.heap.size w w')) ?_ ?_
 rotate_left
 ·intro hCont
  refine two_ (i := 1) (j := 14) (Ni := some 47) (Nj := some 12) #[true, true, true, true, true, true, true, true, true, false, false, false, false, false, false, false, false, false] #[true, false, true, true, true, true, true, true, true, false, false, false, false, false, true, false, false, false] rfl rfl rfl rfl (two_of HT_.out (by kernel_rfl)) (by decide) (by decide) (fun K hK => ?_) (fun K hK => ?_)
  ·skip
   refine goes_ Try.func8 (by kernel_rfl) rfl #[.slice A0 l0.length c0] (by rfl) rfl rfl (by (try simp only [List.map_toArray, List.map_cons, List.map_nil]); first | done | rfl | (simp only [List.length_drop, List.length_take]; rfl)) ?_
   with_reducible refine (annuitykeep_CopyLoans.calls _ _ l0 t353 _ ?side1 ?side2 A27.out).mono ?_
   (case side1 => repeat (first | exact (Kd.C_below HR0.out HB.out) | (with_reducible refine Kd.C_alloc ?_ _) | (with_reducible refine Kd.C_drewN ?_ _) | (with_reducible refine Kd.C_drew ?_)))
   (case side2 => exact HC0.out)
   rintro e w60 ⟨v354, rfl, ho0, hb⟩
   refine ⟨_, rfl, ?_⟩
   have n0_ := Aside0.mk (Kd.R_elder' (by exact rq HO333.out) (Kd.R_base ho0) hb)
   have n1_ := Aside0.mk (Kd.R_elder' (by exact rq HO336.out) (Kd.R_base ho0) hb)
   have n2_ := Aside0.mk (Kd.R_elder' (by exact rq HO346.out) (Kd.R_base ho0) hb)
   have n3_ := Aside0.mk (Kd.R_lower (Kd.R_new' (Kd.R_new' (Kd.R_new' ho0 (Kd.R_lt (by exact rq HO333.out))) (Kd.R_lt (by exact rq HO336.out))) (Kd.R_lt (by exact rq HO346.out))) (below_size (by exact h3q HB.out GE329.out GE342.out GE352.out)))
   have n4_ := Aside0.mk (blk_below (g := gb329) (Up.up BK329.out) hb)
   have n5_ := Aside0.mk (blk_below (g := gb342) (Up.up BK342.out) hb)
   have n6_ := Aside0.mk (blk_below (g := gb352) (Up.up BK352.out) hb)
   have n7_ := Aside0.mk (below_step (by exact h3q HB.out GE329.out GE342.out GE352.out) hb)
   clear HO333 HO336 HO346 BK329 BK342 BK352 HB
   have HO333 := n0_
   have HO336 := n1_
   have HO346 := n2_
   have HO355 := n3_
   have BK329 := n4_
   have BK342 := n5_
   have BK352 := n6_
   have HB := n7_
   clear n0_ n1_ n2_ n3_ n4_ n5_ n6_ n7_
   (try clear hb)
   (try clear hb2)
   (try clear hk)
   (try clear hi)
   (try clear ho0)
   obtain ⟨Ao61, co61, eo61⟩ := Kd.R_slice HO355.out
   (first | subst eo61 | (injection eo61 with f1_ f2_ f3_; have f4_ := f1_.symm; have f5_ := f3_.symm; clear f1_ f2_ f3_; subst f4_; subst f5_))
   refine hK.out _ _ ⟨(blk_cell BK329.out 0).trans rfl, (blk_cell BK329.out 1).trans rfl⟩ (fun hHeld => ?_)
   clear hK K
   refine norm_ (a' := ?_) ?_ ?_
   rotate_left
   ·show Act.put _ (some 47) _ = _
    simp only [Act.put, List.setIfInBounds_toArray, List.set_cons_zero, List.set_cons_succ, i64_w, i32_w]
    rfl
   refine two_ (i := 9) (j := 14) (Ni := some 55) (Nj := some 12) #[true, true, true, true, true, true, true, true, true, true, false, false, false, false, false, false, false, false] #[true, true, true, true, true, true, true, true, true, false, false, false, false, false, true, false, false, false] rfl rfl rfl rfl (two_of HT_.out (by kernel_rfl)) (by decide) (by decide) (fun K hK => ?_) (fun K hK => ?_)
   ·skip
    refine goes_ Try.func9 (by kernel_rfl) rfl #[.slice Ao61 t353.length co61, .int .i64 (wrap64 ((wrap64 (a1_0)) + (wrap64 (a1_1))))] (by rfl) rfl rfl (by (try simp only [List.map_toArray, List.map_cons, List.map_nil]); first | done | rfl | (simp only [List.length_drop, List.length_take]; rfl)) ?_
    with_reducible refine (pay_All.calls k _ _ t353 (wrap64 ((wrap64 (a1_0)) + (wrap64 (a1_1)))) t356 t359 t360 t361 t362 t363 _ ?side1 ?side2 A28.out).mono ?_
    (case side1 => repeat (first | exact (Kd.R_reads' HO355.out).2.2 | (with_reducible refine Kd.C_alloc ?_ _) | (with_reducible refine Kd.C_drewN ?_ _) | (with_reducible refine Kd.C_drew ?_)))
    (case side2 => exact (Kd.R_reads' HO355.out).2.1)
    rintro e w62 ⟨v357, rfl, ho0, hb⟩
    refine ⟨_, rfl, ?_⟩
    have n0_ := Aside0.mk (Kd.R_elder' (by exact rq HO333.out) (Kd.R_base ho0) hb)
    have n1_ := Aside0.mk (Kd.R_elder' (by exact rq HO336.out) (Kd.R_base ho0) hb)
    have n2_ := Aside0.mk (Kd.R_elder' (by exact rq HO346.out) (Kd.R_base ho0) hb)
    have n3_ := Aside0.mk (Kd.R_elder' (by exact rq HO355.out) (Kd.R_base ho0) hb)
    have n4_ := Aside0.mk (Kd.R_lower (Kd.R_new' (Kd.R_new' (Kd.R_new' (Kd.R_new' ho0 (Kd.R_lt (by exact rq HO333.out))) (Kd.R_lt (by exact rq HO336.out))) (Kd.R_lt (by exact rq HO346.out))) (Kd.R_lt (by exact rq HO355.out))) (below_size (by exact h3q HB.out GE329.out GE342.out GE352.out)))
    have n5_ := Aside0.mk (blk_below (g := gb329) (Up.up BK329.out) hb)
    have n6_ := Aside0.mk (blk_below (g := gb342) (Up.up BK342.out) hb)
    have n7_ := Aside0.mk (blk_below (g := gb352) (Up.up BK352.out) hb)
    have n8_ := Aside0.mk (below_step (by exact h3q HB.out GE329.out GE342.out GE352.out) hb)
    clear HO333 HO336 HO346 HO355 BK329 BK342 BK352 HB
    have HO333 := n0_
    have HO336 := n1_
    have HO346 := n2_
    have HO355 := n3_
    have HO358 := n4_
    have BK329 := n5_
    have BK342 := n6_
    have BK352 := n7_
    have HB := n8_
    clear n0_ n1_ n2_ n3_ n4_ n5_ n6_ n7_ n8_
    (try clear hb)
    (try clear hb2)
    (try clear hk)
    (try clear hi)
    (try clear ho0)
    refine hK.out _ _ ⟨(blk_cell BK329.out 0).trans rfl, (blk_cell BK329.out 1).trans rfl⟩ (fun hHeld => ?_)
    clear hK K
    refine norm_ (a' := ?_) ?_ ?_
    rotate_left
    ·show Act.put _ (some 55) _ = _
     simp only [Act.put, List.setIfInBounds_toArray, List.set_cons_zero, List.set_cons_succ, i64_w, i32_w]
     rfl
    refine pure_ (i := 10) (N := some 45) (v := ?_) (a' := ?_) #[true, true, true, true, true, true, true, true, true, true, true, false, false, false, false, false, false, false] rfl rfl (any_of HT_.out (by kernel_rfl)) (fun _ _ _ h => h) (Or.inl ⟨by rfl, ?_⟩) ?_ ?_
    rotate_left
    ·intro w'
     go_simp
     with_reducible rfl
    rotate_left
    ·simp only [Act.put, List.setIfInBounds_toArray, List.set_cons_zero, List.set_cons_succ, i64_w, i32_w]
     rfl
    refine pure_ (i := 11) (N := some 56) (v := ?_) (a' := ?_) #[true, true, true, true, true, true, true, true, true, true, true, true, false, false, false, false, false, false] rfl rfl (any_of HT_.out (by kernel_rfl)) (fun _ _ _ h => h) (Or.inl ⟨by rfl, ?_⟩) ?_ ?_
    rotate_left
    ·intro w'
     go_simp
     with_reducible rfl
    rotate_left
    ·simp only [Act.put, List.setIfInBounds_toArray, List.set_cons_zero, List.set_cons_succ, i64_w, i32_w]
     rfl
    refine pure_ (i := 12) (N := some 57) (v := ?_) (a' := ?_) #[true, true, true, true, true, true, true, true, true, true, true, true, true, false, false, false, false, false] rfl rfl (any_of HT_.out (by kernel_rfl)) (fun _ _ _ h => h) (Or.inl ⟨by rfl, ?_⟩) ?_ ?_
    rotate_left
    ·intro w'
     go_simp
     with_reducible rfl
    rotate_left
    ·simp only [Act.put, List.setIfInBounds_toArray, List.set_cons_zero, List.set_cons_succ, i64_w, i32_w]
     rfl
    refine pure_ (i := 13) (N := some 58) (v := ?_) (a' := ?_) #[true, true, true, true, true, true, true, true, true, true, true, true, true, true, false, false, false, false] rfl rfl (any_of HT_.out (by kernel_rfl)) (fun _ _ _ h => h) (Or.inl ⟨by rfl, ?_⟩) ?_ ?_
    rotate_left
    ·intro w'
     go_simp
     with_reducible rfl
    rotate_left
    ·simp only [Act.put, List.setIfInBounds_toArray, List.set_cons_zero, List.set_cons_succ, i64_w, i32_w]
     rfl
    refine one_ (i := 14) (N := some 12) #[true, true, true, true, true, true, true, true, true, true, true, true, true, true, true, false, false, false] rfl rfl (one_of HT_.out (by kernel_rfl)) (by decide) (fun K hK => ?_)
    refine box_step ?hg (N := 12) ?hd (cs := #[.int .i64 0, .int .i64 0, .int .i64 0, .int .i64 0]) (t := 26) ?hr ?_; (case hd => rfl); (case hg => rfl); (case hr => first | (go_simp; done) | (go_simp; rfl))
    intro gb364 hg w63 hbox hb
    have n0_ := Aside0.mk (Kd.R_below (by exact rq HO333.out) hb)
    have n1_ := Aside0.mk (Kd.R_below (by exact rq HO336.out) hb)
    have n2_ := Aside0.mk (Kd.R_below (by exact rq HO346.out) hb)
    have n3_ := Aside0.mk (Kd.R_below (by exact rq HO355.out) hb)
    have n4_ := Aside0.mk (Kd.R_below (by exact rq HO358.out) hb)
    have n5_ := Aside0.mk (blk_below (g := gb329) (Up.up BK329.out) hb)
    have n6_ := Aside0.mk (blk_below (g := gb342) (Up.up BK342.out) hb)
    have n7_ := Aside0.mk (blk_below (g := gb352) (Up.up BK352.out) hb)
    have n8_ := Aside0.mk (below_step (by exact h3q HB.out GE329.out GE342.out GE352.out) hb)
    have n9_ := Aside0.mk (hbox)
    have n10_ := Aside0.mk ((by rw [hg]; exact (below_size (by exact h3q HB.out GE329.out GE342.out GE352.out)) : w.heap.size ≤ gb364))
    have n11_ := Aside0.mk ((by rw [hg]; exact (below_size (by exact h3q HB.out GE329.out GE342.out GE352.out)) : w.heap.size ≤ gb364))
    have n12_ := Aside0.mk ((by rw [hg]; exact Nat.ne_of_lt (blk_lt (g := gb329) (Up.up BK329.out)) : gb329 ≠ gb364))
    have n13_ := Aside0.mk ((by rw [hg]; exact Nat.ne_of_gt (blk_lt (g := gb329) (Up.up BK329.out)) : gb364 ≠ gb329))
    have n14_ := Aside0.mk ((by rw [hg]; exact Nat.ne_of_lt (blk_lt (g := gb342) (Up.up BK342.out)) : gb342 ≠ gb364))
    have n15_ := Aside0.mk ((by rw [hg]; exact Nat.ne_of_gt (blk_lt (g := gb342) (Up.up BK342.out)) : gb364 ≠ gb342))
    have n16_ := Aside0.mk ((by rw [hg]; exact Nat.ne_of_lt (blk_lt (g := gb352) (Up.up BK352.out)) : gb352 ≠ gb364))
    have n17_ := Aside0.mk ((by rw [hg]; exact Nat.ne_of_gt (blk_lt (g := gb352) (Up.up BK352.out)) : gb364 ≠ gb352))
    clear HO333 HO336 HO346 HO355 HO358 BK329 BK342 BK352 HB
    have HO333 := n0_
    have HO336 := n1_
    have HO346 := n2_
    have HO355 := n3_
    have HO358 := n4_
    have BK329 := n5_
    have BK342 := n6_
    have BK352 := n7_
    have HB := n8_
    have BK364 := n9_
    have GW364 := n10_
    have GE364 := n11_
    have NB329_364 := n12_
    have NB364_329 := n13_
    have NB342_364 := n14_
    have NB364_342 := n15_
    have NB352_364 := n16_
    have NB364_352 := n17_
    clear n0_ n1_ n2_ n3_ n4_ n5_ n6_ n7_ n8_ n9_ n10_ n11_ n12_ n13_ n14_ n15_ n16_ n17_ hb hbox hg
    refine hK.out _ _ ⟨(blk_cell BK329.out 0).trans rfl, (blk_cell BK329.out 1).trans rfl⟩ (fun hHeld => ?_)
    clear hK K
    refine norm_ (a' := ?_) ?_ ?_
    rotate_left
    ·show Act.put _ (some 12) _ = _
     simp only [Act.put, List.setIfInBounds_toArray, List.set_cons_zero, List.set_cons_succ, i64_w, i32_w]
     rfl
    exact norm_ (by simp only [putAll, Act.put, List.setIfInBounds_toArray, List.set_cons_zero, List.set_cons_succ]) (hCont (.slice Ao61 t353.length co61, v357, gb364) _ ⟨hHeld, (by (with_reducible repeat (first | apply Kd.R_alloc | apply Kd.R_drewN | apply Kd.R_drew)); exact Kd.R_mono HO333.out (fun _ hk => ⟨hk.1.1.1, ⟨hk.1.1.2, ⟨hk.1.2, hk.2⟩⟩⟩)), (by (with_reducible repeat (first | apply Kd.R_alloc | apply Kd.R_drewN | apply Kd.R_drew)); exact Kd.R_mono HO336.out (fun _ hk => ⟨hk.1.1.1, ⟨hk.1.1.2, ⟨hk.1.2, hk.2⟩⟩⟩)), (by (with_reducible repeat (first | apply Kd.R_alloc | apply Kd.R_drewN | apply Kd.R_drew)); exact Kd.R_mono HO346.out (fun _ hk => ⟨hk.1.1.1, ⟨hk.1.1.2, ⟨hk.1.2, hk.2⟩⟩⟩)), (by (with_reducible repeat (first | apply Kd.R_alloc | apply Kd.R_drewN | apply Kd.R_drew)); exact Kd.R_mono HO355.out (fun _ hk => ⟨hk.1.1.1.2, ⟨hk.1.1.2, ⟨hk.1.2, hk.2⟩⟩⟩)), (by (with_reducible repeat (first | apply Kd.R_alloc | apply Kd.R_drewN | apply Kd.R_drew)); exact Kd.R_mono HO358.out (fun _ hk => ⟨hk.1.1.1.2, ⟨hk.1.1.2, ⟨hk.1.2, hk.2⟩⟩⟩)), (Up.up BK329.out), (Up.up BK342.out), (Up.up BK352.out), (Up.up BK364.out), GW364.out, GE364.out, NB329_364.out, NB364_329.out, NB342_364.out, NB364_342.out, NB352_364.out, NB364_352.out, (by exact h4q HB.out GE329.out GE342.out GE352.out GE364.out)⟩)
   ·skip
    refine box_step ?hg (N := 12) ?hd (cs := #[.int .i64 0, .int .i64 0, .int .i64 0, .int .i64 0]) (t := 26) ?hr ?_; (case hd => rfl); (case hg => rfl); (case hr => first | (go_simp; done) | (go_simp; rfl))
    intro gb364 hg w61 hbox hb
    have n0_ := Aside0.mk (Kd.R_below (by exact rq HO333.out) hb)
    have n1_ := Aside0.mk (Kd.R_below (by exact rq HO336.out) hb)
    have n2_ := Aside0.mk (Kd.R_below (by exact rq HO346.out) hb)
    have n3_ := Aside0.mk (Kd.R_below (by exact rq HO355.out) hb)
    have n4_ := Aside0.mk (blk_below (g := gb329) (Up.up BK329.out) hb)
    have n5_ := Aside0.mk (blk_below (g := gb342) (Up.up BK342.out) hb)
    have n6_ := Aside0.mk (blk_below (g := gb352) (Up.up BK352.out) hb)
    have n7_ := Aside0.mk (below_step (by exact h3q HB.out GE329.out GE342.out GE352.out) hb)
    have n8_ := Aside0.mk (hbox)
    have n9_ := Aside0.mk ((by rw [hg]; exact (below_size (by exact h3q HB.out GE329.out GE342.out GE352.out)) : w.heap.size ≤ gb364))
    have n10_ := Aside0.mk ((by rw [hg]; exact (below_size (by exact h3q HB.out GE329.out GE342.out GE352.out)) : w.heap.size ≤ gb364))
    have n11_ := Aside0.mk ((by rw [hg]; exact Nat.ne_of_lt (blk_lt (g := gb329) (Up.up BK329.out)) : gb329 ≠ gb364))
    have n12_ := Aside0.mk ((by rw [hg]; exact Nat.ne_of_gt (blk_lt (g := gb329) (Up.up BK329.out)) : gb364 ≠ gb329))
    have n13_ := Aside0.mk ((by rw [hg]; exact Nat.ne_of_lt (blk_lt (g := gb342) (Up.up BK342.out)) : gb342 ≠ gb364))
    have n14_ := Aside0.mk ((by rw [hg]; exact Nat.ne_of_gt (blk_lt (g := gb342) (Up.up BK342.out)) : gb364 ≠ gb342))
    have n15_ := Aside0.mk ((by rw [hg]; exact Nat.ne_of_lt (blk_lt (g := gb352) (Up.up BK352.out)) : gb352 ≠ gb364))
    have n16_ := Aside0.mk ((by rw [hg]; exact Nat.ne_of_gt (blk_lt (g := gb352) (Up.up BK352.out)) : gb364 ≠ gb352))
    clear HO333 HO336 HO346 HO355 BK329 BK342 BK352 HB
    have HO333 := n0_
    have HO336 := n1_
    have HO346 := n2_
    have HO355 := n3_
    have BK329 := n4_
    have BK342 := n5_
    have BK352 := n6_
    have HB := n7_
    have BK364 := n8_
    have GW364 := n9_
    have GE364 := n10_
    have NB329_364 := n11_
    have NB364_329 := n12_
    have NB342_364 := n13_
    have NB364_342 := n14_
    have NB352_364 := n15_
    have NB364_352 := n16_
    clear n0_ n1_ n2_ n3_ n4_ n5_ n6_ n7_ n8_ n9_ n10_ n11_ n12_ n13_ n14_ n15_ n16_ hb hbox hg
    obtain ⟨Ao62, co62, eo62⟩ := Kd.R_slice HO355.out
    (first | subst eo62 | (injection eo62 with f1_ f2_ f3_; have f4_ := f1_.symm; have f5_ := f3_.symm; clear f1_ f2_ f3_; subst f4_; subst f5_))
    refine hK.out _ _ ⟨(blk_cell BK329.out 0).trans rfl, (blk_cell BK329.out 1).trans rfl⟩ (fun hHeld => ?_)
    clear hK K
    refine norm_ (a' := ?_) ?_ ?_
    rotate_left
    ·show Act.put _ (some 12) _ = _
     simp only [Act.put, List.setIfInBounds_toArray, List.set_cons_zero, List.set_cons_succ, i64_w, i32_w]
     rfl
    refine one_ (i := 9) (N := some 55) #[true, true, true, true, true, true, true, true, true, true, false, false, false, false, true, false, false, false] rfl rfl (one_of HT_.out (by kernel_rfl)) (by decide) (fun K hK => ?_)
    refine goes_ Try.func9 (by kernel_rfl) rfl #[.slice Ao62 t353.length co62, .int .i64 (wrap64 ((wrap64 (a1_0)) + (wrap64 (a1_1))))] (by rfl) rfl rfl (by (try simp only [List.map_toArray, List.map_cons, List.map_nil]); first | done | rfl | (simp only [List.length_drop, List.length_take]; rfl)) ?_
    with_reducible refine (pay_All.calls k _ _ t353 (wrap64 ((wrap64 (a1_0)) + (wrap64 (a1_1)))) t356 t359 t360 t361 t362 t363 _ ?side1 ?side2 A28.out).mono ?_
    (case side1 => repeat (first | exact (Kd.R_reads' HO355.out).2.2 | (with_reducible refine Kd.C_alloc ?_ _) | (with_reducible refine Kd.C_drewN ?_ _) | (with_reducible refine Kd.C_drew ?_)))
    (case side2 => exact (Kd.R_reads' HO355.out).2.1)
    rintro e w63 ⟨v357, rfl, ho0, hb⟩
    refine ⟨_, rfl, ?_⟩
    have n0_ := Aside0.mk (Kd.R_elder' (by exact rq HO333.out) (Kd.R_base ho0) hb)
    have n1_ := Aside0.mk (Kd.R_elder' (by exact rq HO336.out) (Kd.R_base ho0) hb)
    have n2_ := Aside0.mk (Kd.R_elder' (by exact rq HO346.out) (Kd.R_base ho0) hb)
    have n3_ := Aside0.mk (Kd.R_elder' (by exact rq HO355.out) (Kd.R_base ho0) hb)
    have n4_ := Aside0.mk (Kd.R_lower (Kd.R_new' (Kd.R_new' (Kd.R_new' (Kd.R_new' ho0 (Kd.R_lt (by exact rq HO333.out))) (Kd.R_lt (by exact rq HO336.out))) (Kd.R_lt (by exact rq HO346.out))) (Kd.R_lt (by exact rq HO355.out))) (below_size (by exact h4q HB.out GE329.out GE342.out GE352.out GE364.out)))
    have n5_ := Aside0.mk (blk_below (g := gb329) (Up.up BK329.out) hb)
    have n6_ := Aside0.mk (blk_below (g := gb342) (Up.up BK342.out) hb)
    have n7_ := Aside0.mk (blk_below (g := gb352) (Up.up BK352.out) hb)
    have n8_ := Aside0.mk (blk_below (g := gb364) (Up.up BK364.out) hb)
    have n9_ := Aside0.mk (below_step (by exact h4q HB.out GE329.out GE342.out GE352.out GE364.out) hb)
    clear HO333 HO336 HO346 HO355 BK329 BK342 BK352 BK364 HB
    have HO333 := n0_
    have HO336 := n1_
    have HO346 := n2_
    have HO355 := n3_
    have HO358 := n4_
    have BK329 := n5_
    have BK342 := n6_
    have BK352 := n7_
    have BK364 := n8_
    have HB := n9_
    clear n0_ n1_ n2_ n3_ n4_ n5_ n6_ n7_ n8_ n9_
    (try clear hb)
    (try clear hb2)
    (try clear hk)
    (try clear hi)
    (try clear ho0)
    refine hK.out _ _ ⟨(blk_cell BK329.out 0).trans rfl, (blk_cell BK329.out 1).trans rfl⟩ (fun hHeld => ?_)
    clear hK K
    refine norm_ (a' := ?_) ?_ ?_
    rotate_left
    ·show Act.put _ (some 55) _ = _
     simp only [Act.put, List.setIfInBounds_toArray, List.set_cons_zero, List.set_cons_succ, i64_w, i32_w]
     rfl
    refine pure_ (i := 10) (N := some 45) (v := ?_) (a' := ?_) #[true, true, true, true, true, true, true, true, true, true, true, false, false, false, true, false, false, false] rfl rfl (any_of HT_.out (by kernel_rfl)) (fun _ _ _ h => h) (Or.inl ⟨by rfl, ?_⟩) ?_ ?_
    rotate_left
    ·intro w'
     go_simp
     with_reducible rfl
    rotate_left
    ·simp only [Act.put, List.setIfInBounds_toArray, List.set_cons_zero, List.set_cons_succ, i64_w, i32_w]
     rfl
    refine pure_ (i := 11) (N := some 56) (v := ?_) (a' := ?_) #[true, true, true, true, true, true, true, true, true, true, true, true, false, false, true, false, false, false] rfl rfl (any_of HT_.out (by kernel_rfl)) (fun _ _ _ h => h) (Or.inl ⟨by rfl, ?_⟩) ?_ ?_
    rotate_left
    ·intro w'
     go_simp
     with_reducible rfl
    rotate_left
    ·simp only [Act.put, List.setIfInBounds_toArray, List.set_cons_zero, List.set_cons_succ, i64_w, i32_w]
     rfl
    refine pure_ (i := 12) (N := some 57) (v := ?_) (a' := ?_) #[true, true, true, true, true, true, true, true, true, true, true, true, true, false, true, false, false, false] rfl rfl (any_of HT_.out (by kernel_rfl)) (fun _ _ _ h => h) (Or.inl ⟨by rfl, ?_⟩) ?_ ?_
    rotate_left
    ·intro w'
     go_simp
     with_reducible rfl
    rotate_left
    ·simp only [Act.put, List.setIfInBounds_toArray, List.set_cons_zero, List.set_cons_succ, i64_w, i32_w]
     rfl
    refine pure_ (i := 13) (N := some 58) (v := ?_) (a' := ?_) #[true, true, true, true, true, true, true, true, true, true, true, true, true, true, true, false, false, false] rfl rfl (any_of HT_.out (by kernel_rfl)) (fun _ _ _ h => h) (Or.inl ⟨by rfl, ?_⟩) ?_ ?_
    rotate_left
    ·intro w'
     go_simp
     with_reducible rfl
    rotate_left
    ·simp only [Act.put, List.setIfInBounds_toArray, List.set_cons_zero, List.set_cons_succ, i64_w, i32_w]
     rfl
    exact norm_ (by simp only [putAll, Act.put, List.setIfInBounds_toArray, List.set_cons_zero, List.set_cons_succ]) (hCont (.slice Ao62 t353.length co62, v357, gb364) _ ⟨hHeld, (by (with_reducible repeat (first | apply Kd.R_alloc | apply Kd.R_drewN | apply Kd.R_drew)); exact Kd.R_mono HO333.out (fun _ hk => ⟨hk.1.1.1, ⟨hk.1.1.2, ⟨hk.1.2, hk.2⟩⟩⟩)), (by (with_reducible repeat (first | apply Kd.R_alloc | apply Kd.R_drewN | apply Kd.R_drew)); exact Kd.R_mono HO336.out (fun _ hk => ⟨hk.1.1.1, ⟨hk.1.1.2, ⟨hk.1.2, hk.2⟩⟩⟩)), (by (with_reducible repeat (first | apply Kd.R_alloc | apply Kd.R_drewN | apply Kd.R_drew)); exact Kd.R_mono HO346.out (fun _ hk => ⟨hk.1.1.1, ⟨hk.1.1.2, ⟨hk.1.2, hk.2⟩⟩⟩)), (by (with_reducible repeat (first | apply Kd.R_alloc | apply Kd.R_drewN | apply Kd.R_drew)); exact Kd.R_mono HO355.out (fun _ hk => ⟨hk.1.1.1.2, ⟨hk.1.1.2, ⟨hk.1.2, hk.2⟩⟩⟩)), (by (with_reducible repeat (first | apply Kd.R_alloc | apply Kd.R_drewN | apply Kd.R_drew)); exact Kd.R_mono HO358.out (fun _ hk => ⟨hk.1.1.1.2, ⟨hk.1.1.2, ⟨hk.1.2, hk.2⟩⟩⟩)), (Up.up BK329.out), (Up.up BK342.out), (Up.up BK352.out), (Up.up BK364.out), GW364.out, GE364.out, NB329_364.out, NB364_329.out, NB342_364.out, NB364_342.out, NB352_364.out, NB364_352.out, (by exact h4q HB.out GE329.out GE342.out GE352.out GE364.out)⟩)
  ·skip
   refine box_step ?hg (N := 12) ?hd (cs := #[.int .i64 0, .int .i64 0, .int .i64 0, .int .i64 0]) (t := 26) ?hr ?_; (case hd => rfl); (case hg => rfl); (case hr => first | (go_simp; done) | (go_simp; rfl))
   intro gb364 hg w60 hbox hb
   have n0_ := Aside0.mk (Kd.R_below (by exact rq HO333.out) hb)
   have n1_ := Aside0.mk (Kd.R_below (by exact rq HO336.out) hb)
   have n2_ := Aside0.mk (Kd.R_below (by exact rq HO346.out) hb)
   have n3_ := Aside0.mk (blk_below (g := gb329) (Up.up BK329.out) hb)
   have n4_ := Aside0.mk (blk_below (g := gb342) (Up.up BK342.out) hb)
   have n5_ := Aside0.mk (blk_below (g := gb352) (Up.up BK352.out) hb)
   have n6_ := Aside0.mk (below_step (by exact h3q HB.out GE329.out GE342.out GE352.out) hb)
   have n7_ := Aside0.mk (hbox)
   have n8_ := Aside0.mk ((by rw [hg]; exact (below_size (by exact h3q HB.out GE329.out GE342.out GE352.out)) : w.heap.size ≤ gb364))
   have n9_ := Aside0.mk ((by rw [hg]; exact (below_size (by exact h3q HB.out GE329.out GE342.out GE352.out)) : w.heap.size ≤ gb364))
   have n10_ := Aside0.mk ((by rw [hg]; exact Nat.ne_of_lt (blk_lt (g := gb329) (Up.up BK329.out)) : gb329 ≠ gb364))
   have n11_ := Aside0.mk ((by rw [hg]; exact Nat.ne_of_gt (blk_lt (g := gb329) (Up.up BK329.out)) : gb364 ≠ gb329))
   have n12_ := Aside0.mk ((by rw [hg]; exact Nat.ne_of_lt (blk_lt (g := gb342) (Up.up BK342.out)) : gb342 ≠ gb364))
   have n13_ := Aside0.mk ((by rw [hg]; exact Nat.ne_of_gt (blk_lt (g := gb342) (Up.up BK342.out)) : gb364 ≠ gb342))
   have n14_ := Aside0.mk ((by rw [hg]; exact Nat.ne_of_lt (blk_lt (g := gb352) (Up.up BK352.out)) : gb352 ≠ gb364))
   have n15_ := Aside0.mk ((by rw [hg]; exact Nat.ne_of_gt (blk_lt (g := gb352) (Up.up BK352.out)) : gb364 ≠ gb352))
   clear HO333 HO336 HO346 BK329 BK342 BK352 HB
   have HO333 := n0_
   have HO336 := n1_
   have HO346 := n2_
   have BK329 := n3_
   have BK342 := n4_
   have BK352 := n5_
   have HB := n6_
   have BK364 := n7_
   have GW364 := n8_
   have GE364 := n9_
   have NB329_364 := n10_
   have NB364_329 := n11_
   have NB342_364 := n12_
   have NB364_342 := n13_
   have NB352_364 := n14_
   have NB364_352 := n15_
   clear n0_ n1_ n2_ n3_ n4_ n5_ n6_ n7_ n8_ n9_ n10_ n11_ n12_ n13_ n14_ n15_ hb hbox hg
   refine hK.out _ _ ⟨(blk_cell BK329.out 0).trans rfl, (blk_cell BK329.out 1).trans rfl⟩ (fun hHeld => ?_)
   clear hK K
   refine norm_ (a' := ?_) ?_ ?_
   rotate_left
   ·show Act.put _ (some 12) _ = _
    simp only [Act.put, List.setIfInBounds_toArray, List.set_cons_zero, List.set_cons_succ, i64_w, i32_w]
    rfl
   refine one_ (i := 1) (N := some 47) #[true, true, true, true, true, true, true, true, true, false, false, false, false, false, true, false, false, false] rfl rfl (one_of HT_.out (by kernel_rfl)) (by decide) (fun K hK => ?_)
   refine goes_ Try.func8 (by kernel_rfl) rfl #[.slice A0 l0.length c0] (by rfl) rfl rfl (by (try simp only [List.map_toArray, List.map_cons, List.map_nil]); first | done | rfl | (simp only [List.length_drop, List.length_take]; rfl)) ?_
   with_reducible refine (annuitykeep_CopyLoans.calls _ _ l0 t353 _ ?side1 ?side2 A27.out).mono ?_
   (case side1 => repeat (first | exact (Kd.C_below HR0.out HB.out) | (with_reducible refine Kd.C_alloc ?_ _) | (with_reducible refine Kd.C_drewN ?_ _) | (with_reducible refine Kd.C_drew ?_)))
   (case side2 => exact HC0.out)
   rintro e w61 ⟨v354, rfl, ho0, hb⟩
   refine ⟨_, rfl, ?_⟩
   have n0_ := Aside0.mk (Kd.R_elder' (by exact rq HO333.out) (Kd.R_base ho0) hb)
   have n1_ := Aside0.mk (Kd.R_elder' (by exact rq HO336.out) (Kd.R_base ho0) hb)
   have n2_ := Aside0.mk (Kd.R_elder' (by exact rq HO346.out) (Kd.R_base ho0) hb)
   have n3_ := Aside0.mk (Kd.R_lower (Kd.R_new' (Kd.R_new' (Kd.R_new' ho0 (Kd.R_lt (by exact rq HO333.out))) (Kd.R_lt (by exact rq HO336.out))) (Kd.R_lt (by exact rq HO346.out))) (below_size (by exact h4q HB.out GE329.out GE342.out GE352.out GE364.out)))
   have n4_ := Aside0.mk (blk_below (g := gb329) (Up.up BK329.out) hb)
   have n5_ := Aside0.mk (blk_below (g := gb342) (Up.up BK342.out) hb)
   have n6_ := Aside0.mk (blk_below (g := gb352) (Up.up BK352.out) hb)
   have n7_ := Aside0.mk (blk_below (g := gb364) (Up.up BK364.out) hb)
   have n8_ := Aside0.mk (below_step (by exact h4q HB.out GE329.out GE342.out GE352.out GE364.out) hb)
   clear HO333 HO336 HO346 BK329 BK342 BK352 BK364 HB
   have HO333 := n0_
   have HO336 := n1_
   have HO346 := n2_
   have HO355 := n3_
   have BK329 := n4_
   have BK342 := n5_
   have BK352 := n6_
   have BK364 := n7_
   have HB := n8_
   clear n0_ n1_ n2_ n3_ n4_ n5_ n6_ n7_ n8_
   (try clear hb)
   (try clear hb2)
   (try clear hk)
   (try clear hi)
   (try clear ho0)
   obtain ⟨Ao62, co62, eo62⟩ := Kd.R_slice HO355.out
   (first | subst eo62 | (injection eo62 with f1_ f2_ f3_; have f4_ := f1_.symm; have f5_ := f3_.symm; clear f1_ f2_ f3_; subst f4_; subst f5_))
   refine hK.out _ _ ⟨(blk_cell BK329.out 0).trans rfl, (blk_cell BK329.out 1).trans rfl⟩ (fun hHeld => ?_)
   clear hK K
   refine norm_ (a' := ?_) ?_ ?_
   rotate_left
   ·show Act.put _ (some 47) _ = _
    simp only [Act.put, List.setIfInBounds_toArray, List.set_cons_zero, List.set_cons_succ, i64_w, i32_w]
    rfl
   refine one_ (i := 9) (N := some 55) #[true, true, true, true, true, true, true, true, true, true, false, false, false, false, true, false, false, false] rfl rfl (one_of HT_.out (by kernel_rfl)) (by decide) (fun K hK => ?_)
   refine goes_ Try.func9 (by kernel_rfl) rfl #[.slice Ao62 t353.length co62, .int .i64 (wrap64 ((wrap64 (a1_0)) + (wrap64 (a1_1))))] (by rfl) rfl rfl (by (try simp only [List.map_toArray, List.map_cons, List.map_nil]); first | done | rfl | (simp only [List.length_drop, List.length_take]; rfl)) ?_
   with_reducible refine (pay_All.calls k _ _ t353 (wrap64 ((wrap64 (a1_0)) + (wrap64 (a1_1)))) t356 t359 t360 t361 t362 t363 _ ?side1 ?side2 A28.out).mono ?_
   (case side1 => repeat (first | exact (Kd.R_reads' HO355.out).2.2 | (with_reducible refine Kd.C_alloc ?_ _) | (with_reducible refine Kd.C_drewN ?_ _) | (with_reducible refine Kd.C_drew ?_)))
   (case side2 => exact (Kd.R_reads' HO355.out).2.1)
   rintro e w63 ⟨v357, rfl, ho0, hb⟩
   refine ⟨_, rfl, ?_⟩
   have n0_ := Aside0.mk (Kd.R_elder' (by exact rq HO333.out) (Kd.R_base ho0) hb)
   have n1_ := Aside0.mk (Kd.R_elder' (by exact rq HO336.out) (Kd.R_base ho0) hb)
   have n2_ := Aside0.mk (Kd.R_elder' (by exact rq HO346.out) (Kd.R_base ho0) hb)
   have n3_ := Aside0.mk (Kd.R_elder' (by exact rq HO355.out) (Kd.R_base ho0) hb)
   have n4_ := Aside0.mk (Kd.R_lower (Kd.R_new' (Kd.R_new' (Kd.R_new' (Kd.R_new' ho0 (Kd.R_lt (by exact rq HO333.out))) (Kd.R_lt (by exact rq HO336.out))) (Kd.R_lt (by exact rq HO346.out))) (Kd.R_lt (by exact rq HO355.out))) (below_size (by exact h4q HB.out GE329.out GE342.out GE352.out GE364.out)))
   have n5_ := Aside0.mk (blk_below (g := gb329) (Up.up BK329.out) hb)
   have n6_ := Aside0.mk (blk_below (g := gb342) (Up.up BK342.out) hb)
   have n7_ := Aside0.mk (blk_below (g := gb352) (Up.up BK352.out) hb)
   have n8_ := Aside0.mk (blk_below (g := gb364) (Up.up BK364.out) hb)
   have n9_ := Aside0.mk (below_step (by exact h4q HB.out GE329.out GE342.out GE352.out GE364.out) hb)
   clear HO333 HO336 HO346 HO355 BK329 BK342 BK352 BK364 HB
   have HO333 := n0_
   have HO336 := n1_
   have HO346 := n2_
   have HO355 := n3_
   have HO358 := n4_
   have BK329 := n5_
   have BK342 := n6_
   have BK352 := n7_
   have BK364 := n8_
   have HB := n9_
   clear n0_ n1_ n2_ n3_ n4_ n5_ n6_ n7_ n8_ n9_
   (try clear hb)
   (try clear hb2)
   (try clear hk)
   (try clear hi)
   (try clear ho0)
   refine hK.out _ _ ⟨(blk_cell BK329.out 0).trans rfl, (blk_cell BK329.out 1).trans rfl⟩ (fun hHeld => ?_)
   clear hK K
   refine norm_ (a' := ?_) ?_ ?_
   rotate_left
   ·show Act.put _ (some 55) _ = _
    simp only [Act.put, List.setIfInBounds_toArray, List.set_cons_zero, List.set_cons_succ, i64_w, i32_w]
    rfl
   refine pure_ (i := 10) (N := some 45) (v := ?_) (a' := ?_) #[true, true, true, true, true, true, true, true, true, true, true, false, false, false, true, false, false, false] rfl rfl (any_of HT_.out (by kernel_rfl)) (fun _ _ _ h => h) (Or.inl ⟨by rfl, ?_⟩) ?_ ?_
   rotate_left
   ·intro w'
    go_simp
    with_reducible rfl
   rotate_left
   ·simp only [Act.put, List.setIfInBounds_toArray, List.set_cons_zero, List.set_cons_succ, i64_w, i32_w]
    rfl
   refine pure_ (i := 11) (N := some 56) (v := ?_) (a' := ?_) #[true, true, true, true, true, true, true, true, true, true, true, true, false, false, true, false, false, false] rfl rfl (any_of HT_.out (by kernel_rfl)) (fun _ _ _ h => h) (Or.inl ⟨by rfl, ?_⟩) ?_ ?_
   rotate_left
   ·intro w'
    go_simp
    with_reducible rfl
   rotate_left
   ·simp only [Act.put, List.setIfInBounds_toArray, List.set_cons_zero, List.set_cons_succ, i64_w, i32_w]
    rfl
   refine pure_ (i := 12) (N := some 57) (v := ?_) (a' := ?_) #[true, true, true, true, true, true, true, true, true, true, true, true, true, false, true, false, false, false] rfl rfl (any_of HT_.out (by kernel_rfl)) (fun _ _ _ h => h) (Or.inl ⟨by rfl, ?_⟩) ?_ ?_
   rotate_left
   ·intro w'
    go_simp
    with_reducible rfl
   rotate_left
   ·simp only [Act.put, List.setIfInBounds_toArray, List.set_cons_zero, List.set_cons_succ, i64_w, i32_w]
    rfl
   refine pure_ (i := 13) (N := some 58) (v := ?_) (a' := ?_) #[true, true, true, true, true, true, true, true, true, true, true, true, true, true, true, false, false, false] rfl rfl (any_of HT_.out (by kernel_rfl)) (fun _ _ _ h => h) (Or.inl ⟨by rfl, ?_⟩) ?_ ?_
   rotate_left
   ·intro w'
    go_simp
    with_reducible rfl
   rotate_left
   ·simp only [Act.put, List.setIfInBounds_toArray, List.set_cons_zero, List.set_cons_succ, i64_w, i32_w]
    rfl
   exact norm_ (by simp only [putAll, Act.put, List.setIfInBounds_toArray, List.set_cons_zero, List.set_cons_succ]) (hCont (.slice Ao62 t353.length co62, v357, gb364) _ ⟨hHeld, (by (with_reducible repeat (first | apply Kd.R_alloc | apply Kd.R_drewN | apply Kd.R_drew)); exact Kd.R_mono HO333.out (fun _ hk => ⟨hk.1.1.1, ⟨hk.1.1.2, ⟨hk.1.2, hk.2⟩⟩⟩)), (by (with_reducible repeat (first | apply Kd.R_alloc | apply Kd.R_drewN | apply Kd.R_drew)); exact Kd.R_mono HO336.out (fun _ hk => ⟨hk.1.1.1, ⟨hk.1.1.2, ⟨hk.1.2, hk.2⟩⟩⟩)), (by (with_reducible repeat (first | apply Kd.R_alloc | apply Kd.R_drewN | apply Kd.R_drew)); exact Kd.R_mono HO346.out (fun _ hk => ⟨hk.1.1.1, ⟨hk.1.1.2, ⟨hk.1.2, hk.2⟩⟩⟩)), (by (with_reducible repeat (first | apply Kd.R_alloc | apply Kd.R_drewN | apply Kd.R_drew)); exact Kd.R_mono HO355.out (fun _ hk => ⟨hk.1.1.1.2, ⟨hk.1.1.2, ⟨hk.1.2, hk.2⟩⟩⟩)), (by (with_reducible repeat (first | apply Kd.R_alloc | apply Kd.R_drewN | apply Kd.R_drew)); exact Kd.R_mono HO358.out (fun _ hk => ⟨hk.1.1.1.2, ⟨hk.1.1.2, ⟨hk.1.2, hk.2⟩⟩⟩)), (Up.up BK329.out), (Up.up BK342.out), (Up.up BK352.out), (Up.up BK364.out), GW364.out, GE364.out, NB329_364.out, NB364_329.out, NB342_364.out, NB364_342.out, NB352_364.out, NB364_352.out, (by exact h4q HB.out GE329.out GE342.out GE352.out GE364.out)⟩)
 rintro ⟨v354, v357, gb364⟩ w64 ⟨hS_, h0_, h1_, h2_, h3_, h4_, h5_, h6_, h7_, h8_, h9_, h10_, h11_, h12_, h13_, h14_, h15_, h16_, h17_⟩
 have n0_ : Aside0 (Kd.R k43 43 w64 w.heap.size (fun k_ => some k_ ≠ (.slice Ao52 t334.length co52 : Value).ownBlock ∧ some k_ ≠ (v345 : Value).ownBlock ∧ some k_ ≠ (v354 : Value).ownBlock ∧ some k_ ≠ (v357 : Value).ownBlock) v332 t331) := ⟨h0_⟩
 have n1_ : Aside0 (Kd.R k43 43 w64 w.heap.size (fun k_ => some k_ ≠ (v332 : Value).ownBlock ∧ some k_ ≠ (v345 : Value).ownBlock ∧ some k_ ≠ (v354 : Value).ownBlock ∧ some k_ ≠ (v357 : Value).ownBlock) (.slice Ao52 t334.length co52) t334) := ⟨h1_⟩
 have n2_ : Aside0 (Kd.R k43 43 w64 w.heap.size (fun k_ => some k_ ≠ (v332 : Value).ownBlock ∧ some k_ ≠ (.slice Ao52 t334.length co52 : Value).ownBlock ∧ some k_ ≠ (v354 : Value).ownBlock ∧ some k_ ≠ (v357 : Value).ownBlock) v345 t344) := ⟨h2_⟩
 have n3_ : Aside0 (Kd.R k43 43 w64 w.heap.size (fun k_ => some k_ ≠ (v332 : Value).ownBlock ∧ some k_ ≠ (.slice Ao52 t334.length co52 : Value).ownBlock ∧ some k_ ≠ (v345 : Value).ownBlock ∧ some k_ ≠ (v357 : Value).ownBlock) v354 t353) := ⟨h3_⟩
 have n4_ : Aside0 (Kd.R k43 43 w64 w.heap.size (fun k_ => some k_ ≠ (v332 : Value).ownBlock ∧ some k_ ≠ (.slice Ao52 t334.length co52 : Value).ownBlock ∧ some k_ ≠ (v345 : Value).ownBlock ∧ some k_ ≠ (v354 : Value).ownBlock) v357 t356) := ⟨h4_⟩
 have n5_ : Aside0 (w64.heap[gb329]? = some (.cells #[.int .u32 a1_0, .int .u32 a1_1] 46 (0, 0))) := ⟨h5_⟩
 have n6_ : Aside0 (w64.heap[gb342]? = some (.cells #[.int .i64 t337, .int .i64 t338, .int .i64 t339, .int .i64 t340] 26 (0, 0))) := ⟨h6_⟩
 have n7_ : Aside0 (w64.heap[gb352]? = some (.cells #[.int .i64 t347, .int .i64 t348, .int .i64 t349, .int .i64 t350] 26 (0, 0))) := ⟨h7_⟩
 have n8_ : Aside0 (w64.heap[gb364]? = some (.cells #[.int .i64 0, .int .i64 0, .int .i64 0, .int .i64 0] 26 (0, 0))) := ⟨h8_⟩
 have n9_ : Aside0 (w.heap.size ≤ gb364) := ⟨h9_⟩
 have n10_ : Aside0 (w.heap.size ≤ gb364) := ⟨h10_⟩
 have n11_ : Aside0 (gb329 ≠ gb364) := ⟨h11_⟩
 have n12_ : Aside0 (gb364 ≠ gb329) := ⟨h12_⟩
 have n13_ : Aside0 (gb342 ≠ gb364) := ⟨h13_⟩
 have n14_ : Aside0 (gb364 ≠ gb342) := ⟨h14_⟩
 have n15_ : Aside0 (gb352 ≠ gb364) := ⟨h15_⟩
 have n16_ : Aside0 (gb364 ≠ gb352) := ⟨h16_⟩
 have n17_ : Aside0 (Below w.heap.size w w64) := ⟨h17_⟩
 clear HO333 HO336 HO346 BK329 BK342 BK352 HB h0_ h1_ h2_ h3_ h4_ h5_ h6_ h7_ h8_ h9_ h10_ h11_ h12_ h13_ h14_ h15_ h16_ h17_
 have HO333 := n0_
 have HO336 := n1_
 have HO346 := n2_
 have HO355 := n3_
 have HO358 := n4_
 have BK329 := n5_
 have BK342 := n6_
 have BK352 := n7_
 have BK364 := n8_
 have GW364 := n9_
 have GE364 := n10_
 have NB329_364 := n11_
 have NB364_329 := n12_
 have NB342_364 := n13_
 have NB364_342 := n14_
 have NB352_364 := n15_
 have NB364_352 := n16_
 have HB := n17_
 clear n0_ n1_ n2_ n3_ n4_ n5_ n6_ n7_ n8_ n9_ n10_ n11_ n12_ n13_ n14_ n15_ n16_ n17_
 have hHeld : w64.cell? ⟨gb329, 0, none⟩ = some (.int .u32 a1_0) ∧ w64.cell? ⟨gb329, 1, none⟩ = some (.int .u32 a1_1) := hS_
 refine norm_ (a' := ?_) ?_ ?_
 rotate_left
 ·simp only [putAll, Act.put, List.setIfInBounds_toArray, List.set_cons_zero, List.set_cons_succ]
  rfl
 refine pure_ (i := 15) (N := some 11) (v := ?_) (a' := ?_) #[true, true, true, true, true, true, true, true, true, true, true, true, true, true, true, true, false, false] rfl rfl (any_of HT_.out (by kernel_rfl)) (fun _ _ _ h => h) (Or.inl ⟨by rfl, ?_⟩) ?_ ?_
 rotate_left
 ·intro w'
  go_simp
  with_reducible rfl
 rotate_left
 ·simp only [Act.put, List.setIfInBounds_toArray, List.set_cons_zero, List.set_cons_succ, i64_w, i32_w]
  rfl
 refine one_ (i := 16) (N := none) #[true, true, true, true, true, true, true, true, true, true, true, true, true, true, true, true, true, false] rfl rfl (one_of HT_.out (by kernel_rfl)) (by decide) (fun K hK => ?_)
 have hs65 : w64.cell? ⟨gb364, 0, none⟩ = some (.int .i64 0) := (blk_cell BK364.out 0).trans rfl
 have hfs65 := blk_frozen BK364.out 0
 have hns65_0 := NB329_364.out
 have hns65_1 := NB342_364.out
 have hns65_2 := NB352_364.out
 have hms65_0 := NB364_329.out
 have hms65_1 := NB364_342.out
 have hms65_2 := NB364_352.out
 have hs66 : w64.cell? ⟨gb364, 1, none⟩ = some (.int .i64 0) := (blk_cell BK364.out 1).trans rfl
 have hfs66 := blk_frozen BK364.out 1
 have hns66_0 := NB329_364.out
 have hns66_1 := NB342_364.out
 have hns66_2 := NB352_364.out
 have hms66_0 := NB364_329.out
 have hms66_1 := NB364_342.out
 have hms66_2 := NB364_352.out
 have hs67 : w64.cell? ⟨gb364, 2, none⟩ = some (.int .i64 0) := (blk_cell BK364.out 2).trans rfl
 have hfs67 := blk_frozen BK364.out 2
 have hns67_0 := NB329_364.out
 have hns67_1 := NB342_364.out
 have hns67_2 := NB352_364.out
 have hms67_0 := NB364_329.out
 have hms67_1 := NB364_342.out
 have hms67_2 := NB364_352.out
 have hs68 : w64.cell? ⟨gb364, 3, none⟩ = some (.int .i64 0) := (blk_cell BK364.out 3).trans rfl
 have hfs68 := blk_frozen BK364.out 3
 have hns68_0 := NB329_364.out
 have hns68_1 := NB342_364.out
 have hns68_2 := NB352_364.out
 have hms68_0 := NB364_329.out
 have hms68_1 := NB364_342.out
 have hms68_2 := NB364_352.out
 refine skip_ (w1 := ?_) (by rfl) rfl ?_ ?_
 rotate_left
 ·go_simp
  rfl
 refine hK.out _ _ ⟨((cell_far (p := ⟨gb364, _, none⟩) NB329_364.out _).trans (((cell_far (p := ⟨gb364, _, none⟩) NB329_364.out _).trans (((cell_far (p := ⟨gb364, _, none⟩) NB329_364.out _).trans (((cell_far (p := ⟨gb364, _, none⟩) NB329_364.out _).trans (hHeld.1)))))))), ((cell_far (p := ⟨gb364, _, none⟩) NB329_364.out _).trans (((cell_far (p := ⟨gb364, _, none⟩) NB329_364.out _).trans (((cell_far (p := ⟨gb364, _, none⟩) NB329_364.out _).trans (((cell_far (p := ⟨gb364, _, none⟩) NB329_364.out _).trans (hHeld.2))))))))⟩ (fun hHeld => ?_)
 clear hK K
 refine pure_ (i := 17) (N := some 13) (v := ?_) (a' := ?_) #[true, true, true, true, true, true, true, true, true, true, true, true, true, true, true, true, true, true] rfl rfl (any_of HT_.out (by kernel_rfl)) (fun _ _ _ h => h) (Or.inl ⟨by rfl, ?_⟩) ?_ ?_
 rotate_left
 ·intro w'
  go_simp
  with_reducible rfl
 rotate_left
 ·simp only [Act.put, List.setIfInBounds_toArray, List.set_cons_zero, List.set_cons_succ, i64_w, i32_w]
  rfl
 refine done_ (done_of HT_.out (by kernel_rfl)) ?_
 have hnb69 := NB342_364.out
 have hnc69 := NB364_342.out
 have hcz70_0 : w64.cell? ⟨gb342, 0, none⟩ = some (.int .i64 t337) := (blk_cell BK342.out 0).trans rfl
 have hcz70_1 : w64.cell? ⟨gb342, 1, none⟩ = some (.int .i64 t338) := (blk_cell BK342.out 1).trans rfl
 have hcz70_2 : w64.cell? ⟨gb342, 2, none⟩ = some (.int .i64 t339) := (blk_cell BK342.out 2).trans rfl
 have hcz70_3 : w64.cell? ⟨gb342, 3, none⟩ = some (.int .i64 t340) := (blk_cell BK342.out 3).trans rfl
 have hfz70_0 := blk_frozen BK342.out 0
 have hfz70_1 := blk_frozen BK342.out 1
 have hfz70_2 := blk_frozen BK342.out 2
 have hfz70_3 := blk_frozen BK342.out 3
 have hnb71 := NB352_364.out
 have hnc71 := NB364_352.out
 have hcz72_0 : w64.cell? ⟨gb352, 0, none⟩ = some (.int .i64 t347) := (blk_cell BK352.out 0).trans rfl
 have hcz72_1 : w64.cell? ⟨gb352, 1, none⟩ = some (.int .i64 t348) := (blk_cell BK352.out 1).trans rfl
 have hcz72_2 : w64.cell? ⟨gb352, 2, none⟩ = some (.int .i64 t349) := (blk_cell BK352.out 2).trans rfl
 have hcz72_3 : w64.cell? ⟨gb352, 3, none⟩ = some (.int .i64 t350) := (blk_cell BK352.out 3).trans rfl
 have hfz72_0 := blk_frozen BK352.out 0
 have hfz72_1 := blk_frozen BK352.out 1
 have hfz72_2 := blk_frozen BK352.out 2
 have hfz72_3 := blk_frozen BK352.out 3
 have hnb73 := NB364_329.out
 have hnc73 := NB329_364.out
 have hcz74_0 : w64.cell? ⟨gb364, 0, none⟩ = some (.int .i64 0) := (blk_cell BK364.out 0).trans rfl
 have hcz74_1 : w64.cell? ⟨gb364, 1, none⟩ = some (.int .i64 0) := (blk_cell BK364.out 1).trans rfl
 have hcz74_2 : w64.cell? ⟨gb364, 2, none⟩ = some (.int .i64 0) := (blk_cell BK364.out 2).trans rfl
 have hcz74_3 : w64.cell? ⟨gb364, 3, none⟩ = some (.int .i64 0) := (blk_cell BK364.out 3).trans rfl
 have hfz74_0 := blk_frozen BK364.out 0
 have hfz74_1 := blk_frozen BK364.out 1
 have hfz74_2 := blk_frozen BK364.out 2
 have hfz74_3 := blk_frozen BK364.out 3
 obtain ⟨Ao75, co75, eo75⟩ := Kd.R_slice HO346.out
 subst eo75
 obtain ⟨Ao76, co76, eo76⟩ := Kd.R_slice HO358.out
 subst eo76
 try go_wp2_with (first | (go_at_call 14; (with_reducible refine (annuitykeep_Loans.calls k _ _ t344 _ _ t356 true _ ?side1 ?side2 ?side3 ?side4 A35.out).mono ?_); (case side1 => refine (Kd.R_reads' (e := 43) (base := w.heap.size) (ok := fun k_ => (some k_ ≠ (v332 : Value).ownBlock ∧ (some k_ ≠ (.slice Ao52 t334.length co52 : Value).ownBlock ∧ (some k_ ≠ (v354 : Value).ownBlock ∧ some k_ ≠ (.slice Ao76 t356.length co76 : Value).ownBlock)))) (n := t344.length) (c := co75) ?_).2.2; exact (by (with_reducible repeat (first | apply Kd.R_alloc | apply Kd.R_drewN | apply Kd.R_drew)); exact (Kd.R_mono (Kd.R_far (p := ⟨gb364, 3, none⟩) (Kd.R_far (p := ⟨gb364, 2, none⟩) (Kd.R_far (p := ⟨gb364, 1, none⟩) (Kd.R_far (p := ⟨gb364, 0, none⟩) (Kd.R_types HO346.out BK364.out (by decide)) (fun _ hk => hk.2) (.int .i64 t359)) (fun _ hk => hk.2) (.int .i64 t360)) (fun _ hk => hk.2) (.int .i64 t361)) (fun _ hk => hk.2) (.int .i64 t362)) (fun _ h_ => h_.1)))); (case side2 => exact (Kd.R_reads' HO346.out).2.1); (case side3 => refine (Kd.R_reads' (e := 43) (base := w.heap.size) (ok := fun k_ => (some k_ ≠ (v332 : Value).ownBlock ∧ (some k_ ≠ (.slice Ao52 t334.length co52 : Value).ownBlock ∧ (some k_ ≠ (.slice Ao75 t344.length co75 : Value).ownBlock ∧ some k_ ≠ (v354 : Value).ownBlock)))) (n := t356.length) (c := co76) ?_).2.2; exact (by (with_reducible repeat (first | apply Kd.R_alloc | apply Kd.R_drewN | apply Kd.R_drew)); exact (Kd.R_mono (Kd.R_far (p := ⟨gb364, 3, none⟩) (Kd.R_far (p := ⟨gb364, 2, none⟩) (Kd.R_far (p := ⟨gb364, 1, none⟩) (Kd.R_far (p := ⟨gb364, 0, none⟩) (Kd.R_types HO358.out BK364.out (by decide)) (fun _ hk => hk.2) (.int .i64 t359)) (fun _ hk => hk.2) (.int .i64 t360)) (fun _ hk => hk.2) (.int .i64 t361)) (fun _ hk => hk.2) (.int .i64 t362)) (fun _ h_ => h_.1)))); (case side4 => exact (Kd.R_reads' HO358.out).2.1); rintro e w77 ⟨rfl, hb⟩; have n0_ := Aside0.mk (Kd.R_below (by (with_reducible repeat (first | apply Kd.R_alloc | apply Kd.R_drewN | apply Kd.R_drew)); exact (Kd.R_mono (Kd.R_far (p := ⟨gb364, 3, none⟩) (Kd.R_far (p := ⟨gb364, 2, none⟩) (Kd.R_far (p := ⟨gb364, 1, none⟩) (Kd.R_far (p := ⟨gb364, 0, none⟩) (Kd.R_types HO333.out BK364.out (by decide)) (fun _ hk => hk.2) (.int .i64 t359)) (fun _ hk => hk.2) (.int .i64 t360)) (fun _ hk => hk.2) (.int .i64 t361)) (fun _ hk => hk.2) (.int .i64 t362)) (fun _ h_ => h_.1))) hb); have n1_ := Aside0.mk (Kd.R_below (by (with_reducible repeat (first | apply Kd.R_alloc | apply Kd.R_drewN | apply Kd.R_drew)); exact (Kd.R_mono (Kd.R_far (p := ⟨gb364, 3, none⟩) (Kd.R_far (p := ⟨gb364, 2, none⟩) (Kd.R_far (p := ⟨gb364, 1, none⟩) (Kd.R_far (p := ⟨gb364, 0, none⟩) (Kd.R_types HO336.out BK364.out (by decide)) (fun _ hk => hk.2) (.int .i64 t359)) (fun _ hk => hk.2) (.int .i64 t360)) (fun _ hk => hk.2) (.int .i64 t361)) (fun _ hk => hk.2) (.int .i64 t362)) (fun _ h_ => h_.1))) hb); have n2_ := Aside0.mk (Kd.R_below (by (with_reducible repeat (first | apply Kd.R_alloc | apply Kd.R_drewN | apply Kd.R_drew)); exact (Kd.R_mono (Kd.R_far (p := ⟨gb364, 3, none⟩) (Kd.R_far (p := ⟨gb364, 2, none⟩) (Kd.R_far (p := ⟨gb364, 1, none⟩) (Kd.R_far (p := ⟨gb364, 0, none⟩) (Kd.R_types HO346.out BK364.out (by decide)) (fun _ hk => hk.2) (.int .i64 t359)) (fun _ hk => hk.2) (.int .i64 t360)) (fun _ hk => hk.2) (.int .i64 t361)) (fun _ hk => hk.2) (.int .i64 t362)) (fun _ h_ => h_.1))) hb); have n3_ := Aside0.mk (Kd.R_below (by (with_reducible repeat (first | apply Kd.R_alloc | apply Kd.R_drewN | apply Kd.R_drew)); exact (Kd.R_mono (Kd.R_far (p := ⟨gb364, 3, none⟩) (Kd.R_far (p := ⟨gb364, 2, none⟩) (Kd.R_far (p := ⟨gb364, 1, none⟩) (Kd.R_far (p := ⟨gb364, 0, none⟩) (Kd.R_types HO355.out BK364.out (by decide)) (fun _ hk => hk.2) (.int .i64 t359)) (fun _ hk => hk.2) (.int .i64 t360)) (fun _ hk => hk.2) (.int .i64 t361)) (fun _ hk => hk.2) (.int .i64 t362)) (fun _ h_ => h_.1))) hb); have n4_ := Aside0.mk (Kd.R_below (by (with_reducible repeat (first | apply Kd.R_alloc | apply Kd.R_drewN | apply Kd.R_drew)); exact (Kd.R_mono (Kd.R_far (p := ⟨gb364, 3, none⟩) (Kd.R_far (p := ⟨gb364, 2, none⟩) (Kd.R_far (p := ⟨gb364, 1, none⟩) (Kd.R_far (p := ⟨gb364, 0, none⟩) (Kd.R_types HO358.out BK364.out (by decide)) (fun _ hk => hk.2) (.int .i64 t359)) (fun _ hk => hk.2) (.int .i64 t360)) (fun _ hk => hk.2) (.int .i64 t361)) (fun _ hk => hk.2) (.int .i64 t362)) (fun _ h_ => h_.1))) hb); have n5_ := Aside0.mk (blk_below (g := gb329) (o := .cells #[.int .u32 a1_0, .int .u32 a1_1] 46 (0, 0)) (by (iterate 4 ((with_reducible repeat (first | refine blk_drewN ?_ _ | refine blk_drew ?_ | refine blk_alloc ?_ _)); refine blk_far ?_ NB329_364.out _)); (with_reducible repeat (first | refine blk_drewN ?_ _ | refine blk_drew ?_ | refine blk_alloc ?_ _)); exact BK329.out) hb); have n6_ := Aside0.mk (blk_below (g := gb342) (o := .cells #[.int .i64 t337, .int .i64 t338, .int .i64 t339, .int .i64 t340] 26 (0, 0)) (by (iterate 4 ((with_reducible repeat (first | refine blk_drewN ?_ _ | refine blk_drew ?_ | refine blk_alloc ?_ _)); refine blk_far ?_ NB342_364.out _)); (with_reducible repeat (first | refine blk_drewN ?_ _ | refine blk_drew ?_ | refine blk_alloc ?_ _)); exact BK342.out) hb); have n7_ := Aside0.mk (blk_below (g := gb352) (o := .cells #[.int .i64 t347, .int .i64 t348, .int .i64 t349, .int .i64 t350] 26 (0, 0)) (by (iterate 4 ((with_reducible repeat (first | refine blk_drewN ?_ _ | refine blk_drew ?_ | refine blk_alloc ?_ _)); refine blk_far ?_ NB352_364.out _)); (with_reducible repeat (first | refine blk_drewN ?_ _ | refine blk_drew ?_ | refine blk_alloc ?_ _)); exact BK352.out) hb); have n8_ := Aside0.mk (blk_below (g := gb364) (o := .cells #[.int .i64 t359, .int .i64 t360, .int .i64 t361, .int .i64 t362] 26 (0, 0)) (by (with_reducible repeat (first | refine blk_drewN ?_ _ | refine blk_drew ?_ | refine blk_alloc ?_ _)); refine blk_put (cs := #[.int .i64 t359, .int .i64 t360, .int .i64 t361, .int .i64 0]) ?_ 3 _ rfl; (with_reducible repeat (first | refine blk_drewN ?_ _ | refine blk_drew ?_ | refine blk_alloc ?_ _)); refine blk_put (cs := #[.int .i64 t359, .int .i64 t360, .int .i64 0, .int .i64 0]) ?_ 2 _ rfl; (with_reducible repeat (first | refine blk_drewN ?_ _ | refine blk_drew ?_ | refine blk_alloc ?_ _)); refine blk_put (cs := #[.int .i64 t359, .int .i64 0, .int .i64 0, .int .i64 0]) ?_ 1 _ rfl; (with_reducible repeat (first | refine blk_drewN ?_ _ | refine blk_drew ?_ | refine blk_alloc ?_ _)); refine blk_put (cs := #[.int .i64 0, .int .i64 0, .int .i64 0, .int .i64 0]) ?_ 0 _ rfl; (with_reducible repeat (first | refine blk_drewN ?_ _ | refine blk_drew ?_ | refine blk_alloc ?_ _)); exact BK364.out) hb); have n9_ := Aside0.mk (below_step (by exact h4q HB.out GE329.out GE342.out GE352.out GE364.out) hb); clear HO333; clear HO336; clear HO346; clear HO355; clear HO358; clear BK329; clear BK342; clear BK352; clear BK364; clear HB; have HO333 := n0_; have HO336 := n1_; have HO346 := n2_; have HO355 := n3_; have HO358 := n4_; have BK329 := n5_; have BK342 := n6_; have BK352 := n7_; have BK364 := n8_; have HB := n9_; clear n0_ n1_ n2_ n3_ n4_ n5_ n6_ n7_ n8_ n9_; (try clear hb); (try clear hb2); (try clear hk); (try clear hi)) | (go_at_call 7; (with_reducible refine (annuitylaw20_wakes.calls k  t366 _ A37.out).mono ?_); rintro e w78 ⟨rfl, hb⟩; have n0_ := Aside0.mk (Kd.R_below (by exact rq HO333.out) hb); have n1_ := Aside0.mk (Kd.R_below (by exact rq HO336.out) hb); have n2_ := Aside0.mk (Kd.R_below (by exact rq HO346.out) hb); have n3_ := Aside0.mk (Kd.R_below (by exact rq HO355.out) hb); have n4_ := Aside0.mk (Kd.R_below (by exact rq HO358.out) hb); have n5_ := Aside0.mk (blk_below (g := gb329) (Up.up BK329.out) hb); have n6_ := Aside0.mk (blk_below (g := gb342) (Up.up BK342.out) hb); have n7_ := Aside0.mk (blk_below (g := gb352) (Up.up BK352.out) hb); have n8_ := Aside0.mk (blk_below (g := gb364) (Up.up BK364.out) hb); have n9_ := Aside0.mk (below_step (by exact h4q HB.out GE329.out GE342.out GE352.out GE364.out) hb); clear HO333; clear HO336; clear HO346; clear HO355; clear HO358; clear BK329; clear BK342; clear BK352; clear BK364; clear HB; have HO333 := n0_; have HO336 := n1_; have HO346 := n2_; have HO355 := n3_; have HO358 := n4_; have BK329 := n5_; have BK342 := n6_; have BK352 := n7_; have BK364 := n8_; have HB := n9_; clear n0_ n1_ n2_ n3_ n4_ n5_ n6_ n7_ n8_ n9_; (try clear hb); (try clear hb2); (try clear hk); (try clear hi)))
 go_ret
 exact ⟨by first | rfl | (simp [errW_none, errW_some] <;> rfl) | (simp [*, errW_none, errW_some] <;> rfl), by exact h4q HB.out GE329.out GE342.out GE352.out GE364.out⟩
/-- What is known of an element that came in. -/
def annuitylaw20_PayTwice.wf43 (x : S43) : Prop := (Lit.int .i64 x.f0).wf = true ∧ (Lit.int .i64 x.f1).wf = true ∧ (Lit.int .i64 x.f2).wf = true ∧ (Lit.int .i64 x.f3).wf = true ∧ (Lit.int .i64 x.f4).wf = true ∧ (Lit.int .i64 x.f5).wf = true ∧ (Lit.int .i64 x.f7).wf = true ∧ (Lit.int .i64 x.f8).wf = true ∧ (Lit.int .i64 x.f9).wf = true ∧ (Lit.int .i64 x.f10).wf = true ∧ (Lit.int .i64 x.f11).wf = true ∧ (Lit.int .i64 x.f12).wf = true
/-- THE ONE PURE STATEMENT of annuitylaw20_PayTwice: yours. -/
def annuitylaw20_PayTwice.Pure : Prop := ∀ (l0 : List (S43)) (a1_0 : Int) (a1_1 : Int), l0.length ≤ maxLen → l0.length * 104 ≤ 140737488351232 → (∀ x ∈ l0, annuitylaw20_PayTwice.wf43 x) → (Lit.int .u32 a1_0).wf = true → (Lit.int .u32 a1_1).wf = true → ∃ k, annuitylaw20_PayTwice.f k l0 a1_0 a1_1 = some true
theorem annuitylaw20_PayTwice.walk (P : annuitylaw20_PayTwice.Pure) (a0 : Option Addr) (cap0 : Nat) (l0 : List S43) (a1_0 : Int) (a1_1 : Int) (w : World) (hr0 : Kd.C k43 w a0 l0.length l0) (hc0 : l0.length ≤ cap0) (hm0 : l0.length ≤ maxLen) (y0 : l0.length * 104 ≤ 140737488351232) (hw0 : ∀ x ∈ l0, annuitylaw20_PayTwice.wf43 x) (w1_0 : (Lit.int .u32 a1_0).wf = true) (w1_1 : (Lit.int .u32 a1_1).wf = true) :
  Calls Try.prog 5 #[.slice a0 l0.length cap0, .agg #[.int .u32 a1_0, .int .u32 a1_1]] w fun e w' => e = .returned (.bool true) ∧ Below w.heap.size w w' := by
 obtain ⟨k, h⟩ := P l0 a1_0 a1_1 hm0 y0 hw0 w1_0 w1_1
 refine (annuitylaw20_PayTwice.calls k _ _ l0 a1_0 a1_1 true w hr0 hc0 h).mono ?_
 rintro e w' ⟨rfl, hd⟩
 exact ⟨rfl, hd⟩

end Go.Proofs.Yteemomncbcpdjaa.P
