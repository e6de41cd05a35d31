/- Functions of the program as plain Lean functions, and proofs that its calls come to just their answers, where they tell one (written by a program of this session). -/
import Derived.Test.YtibjbgfphhmogaaPx0
import Derived.Test.YtibjbgfphhmogaaPx6
import Derived.Test.YtibjbgfphhmogaaPx7
import Derived.Test.YtibjbgfphhmogaaPx11
import Derived.Test.YtibjbgfphhmogaaPx12
import Derived.Test.YtibjbgfphhmogaaPx17
import Derived.Test.YtibjbgfphhmogaaZf
import Derived.Test.YtibjbgfphhmogaaZg
namespace Go.Proofs.Ytibjbgfphhmogaa.P
open Go.RowKit Go.Proofs.YtibjbgfphhmogaaW.PrintWords Go.Proofs.YtibjbgfphhmogaaW.PrintLast Go.Proofs.YtibjbgfphhmogaaW.PrintMore
attribute [local go_sem] max2_int min2_int max_two min_two max_three min_three max_four min_four   -- for this text's walks alone
set_option linter.unusedVariables false
set_option linter.unusedSimpArgs false

/-! ### annuitylaw19_BillAhead: function 7 -/
def annuitylaw19_BillAhead.j0 : Nat → List (S45) → Int → Int → Int → Int → Option (Bool)
  | 0, _, _, _, _, _ => none
  | k + 1, x0, x2, x7, x390000, x390001 => if (wrap64 (x7 + (wrap64 (x2)))) > 2879 then ((annuitylaw19_wakes.f k).bind fun t395 => (some t395)) else (if (x0.length : Int) > 390 then ((annuitylaw19_wakes.f k).bind fun t396 => (some t396)) else ((annuitykeep_CopyBills.f k x0).bind fun t397 => ((bill_Issue.f k t397 (wrap64 (x7 + (wrap64 (x2)))) (wrap64 (x390000)) (wrap64 (x390001)) 2 (([4, 5] : List Int))).bind fun bt403 => (if bt403.2.2 = 0 then (if (bt403.1.length : Int) = (wrap64 ((x0.length : Int) + 1)) then (if 0 ≤ (x0.length : Int) then (if (x0.length : Int) ≤ (bt403.1.length : Int) then ((annuitykeep_Bills.f k (bt403.1.take ((x0.length : Int) : Int).toNat) x0).bind fun t413 => (if t413 = true then (if (x0.length : Int) < (bt403.1.length : Int) then (if (wrap64 ((wrap64 (x390001)) - bt403.2.1)) = (mn (wrap64 (x390000)) (wrap64 (x390001))) then (if ((rd_T45 bt403.1 (x0.length : Int)).f2) = (wrap64 ((wrap64 (x390000)) - (wrap64 ((wrap64 (x390001)) - bt403.2.1)))) then (if ((rd_T45 bt403.1 (x0.length : Int)).f0) = (wrap64 (x7 + (wrap64 (x2)))) then (if ((rd_T45 bt403.1 (x0.length : Int)).f4) = 2 then ((annuitykeep_Ints.f k ((rd_T45 bt403.1 (x0.length : Int)).f5) (([4, 5] : List Int))).bind fun t419 => (if t419 = true then ((bill_Find.f k bt403.1 (wrap64 (x7 + (wrap64 (x2))))).bind fun bt420 => (if bt420.2.2.2.2.2.2 = true then ((annuitykeep_Bill.f k ((rd_T45 bt403.1 (x0.length : Int)).f0) ((rd_T45 bt403.1 (x0.length : Int)).f1) ((rd_T45 bt403.1 (x0.length : Int)).f2) ((rd_T45 bt403.1 (x0.length : Int)).f3) ((rd_T45 bt403.1 (x0.length : Int)).f4) ((rd_T45 bt403.1 (x0.length : Int)).f5) bt420.1 bt420.2.1 bt420.2.2.1 bt420.2.2.2.1 bt420.2.2.2.2.1 bt420.2.2.2.2.2.1).bind fun t430 => (if t430 = true then (if ((decide (((rd_T45 bt403.1 (x0.length : Int)).f3) ≥ 0)) == (((rd_T45 bt403.1 (x0.length : Int)).f2) == 0)) = true then ((annuitylaw19_wakes.f k).bind fun t431 => (some t431)) else (none)) else (none))) else (none))) else (none))) else (none)) else (none)) else (none)) else (none)) else (none)) else (none))) else (none)) else (none)) else (none)) else (none)))))
def annuitylaw19_BillAhead.f (k : Nat) (l0 : List (S45)) (a1_0 : Int) (a1_1 : Int) (a2 : Int) : Option (Bool) := (annuitylaw19_Large.f k l0).bind fun t390 => (if t390 = true then ((annuitylaw19_wakes.f k).bind fun t391 => (some t391)) else ((annuityref19_Good.f k l0).bind fun t392 => (if t392 = true then (if (l0.length : Int) > 0 then (if 0 ≤ (wrap64 ((l0.length : Int) - 1)) then (if (wrap64 ((l0.length : Int) - 1)) < (l0.length : Int) then (annuitylaw19_BillAhead.j0 k l0 a2 (wrap64 (((rd_T45 l0 (wrap64 ((l0.length : Int) - 1))).f0) + 1)) a1_0 a1_1) else (none)) else (none)) else (annuitylaw19_BillAhead.j0 k l0 a2 0 a1_0 a1_1)) else ((annuitylaw19_wakes.f k).bind fun t393 => (some t393)))))
theorem annuitylaw19_BillAhead.mono_l : ∀ k, (∀ y0 y1 y2 y3 y4, LeO (annuitylaw19_BillAhead.j0 k y0 y1 y2 y3 y4) (annuitylaw19_BillAhead.j0 (k + 1) y0 y1 y2 y3 y4))
  | 0 => fun _ _ _ _ _ r h => by simp [annuitylaw19_BillAhead.j0] at h
  | k + 1 => by
    have ih0 := annuitylaw19_BillAhead.mono_l k
    · intro y0 y1 y2 y3 y4
      unfold annuitylaw19_BillAhead.j0
      repeat' first
      | (with_reducible exact ih0 _ _ _ _ _)
      | (with_reducible exact annuitykeep_Bill.mono _ _ _ _ _ _ _ _ _ _ _ _ _)
      | (with_reducible exact annuitykeep_Bills.mono _ _ _)
      | (with_reducible exact annuitykeep_CopyBills.mono _ _)
      | (with_reducible exact annuitykeep_Ints.mono _ _ _)
      | (with_reducible exact annuitylaw19_Large.mono _ _)
      | (with_reducible exact annuitylaw19_wakes.mono _)
      | (with_reducible exact annuityref19_Good.mono _ _)
      | (with_reducible exact bill_Find.mono _ _ _)
      | (with_reducible exact bill_Issue.mono _ _ _ _ _ _ _)
      | (with_reducible exact LeO.refl _)
      | (with_reducible exact LeO.none _)
      | (with_reducible refine LeO.ite ?_ ?_)
      | (with_reducible refine LeO.bind ?_ (fun _ => ?_))
      | exact ih0 _ _ _ _ _
      | exact annuitykeep_Bill.mono _ _ _ _ _ _ _ _ _ _ _ _ _
      | exact annuitykeep_Bills.mono _ _ _
      | exact annuitykeep_CopyBills.mono _ _
      | exact annuitykeep_Ints.mono _ _ _
      | exact annuitylaw19_Large.mono _ _
      | exact annuitylaw19_wakes.mono _
      | exact annuityref19_Good.mono _ _
      | exact bill_Find.mono _ _ _
      | exact bill_Issue.mono _ _ _ _ _ _ _
      | exact LeO.none _
      | refine LeO.ite ?_ ?_
      | refine LeO.bind ?_ (fun _ => ?_)
theorem annuitylaw19_BillAhead.mono : ∀ a0 a1 a2 a3 k, LeO (annuitylaw19_BillAhead.f k a0 a1 a2 a3) (annuitylaw19_BillAhead.f (k + 1) a0 a1 a2 a3) := by
  intro a0 a1 a2 a3 k
  have ih0 := annuitylaw19_BillAhead.mono_l k
  unfold annuitylaw19_BillAhead.f
  repeat' first
      | (with_reducible exact ih0 _ _ _ _ _)
      | (with_reducible exact annuitykeep_Bill.mono _ _ _ _ _ _ _ _ _ _ _ _ _)
      | (with_reducible exact annuitykeep_Bills.mono _ _ _)
      | (with_reducible exact annuitykeep_CopyBills.mono _ _)
      | (with_reducible exact annuitykeep_Ints.mono _ _ _)
      | (with_reducible exact annuitylaw19_Large.mono _ _)
      | (with_reducible exact annuitylaw19_wakes.mono _)
      | (with_reducible exact annuityref19_Good.mono _ _)
      | (with_reducible exact bill_Find.mono _ _ _)
      | (with_reducible exact bill_Issue.mono _ _ _ _ _ _ _)
      | (with_reducible exact LeO.refl _)
      | (with_reducible exact LeO.none _)
      | (with_reducible refine LeO.ite ?_ ?_)
      | (with_reducible refine LeO.bind ?_ (fun _ => ?_))
      | exact ih0 _ _ _ _ _
      | exact annuitykeep_Bill.mono _ _ _ _ _ _ _ _ _ _ _ _ _
      | exact annuitykeep_Bills.mono _ _ _
      | exact annuitykeep_CopyBills.mono _ _
      | exact annuitykeep_Ints.mono _ _ _
      | exact annuitylaw19_Large.mono _ _
      | exact annuitylaw19_wakes.mono _
      | exact annuityref19_Good.mono _ _
      | exact bill_Find.mono _ _ _
      | exact bill_Issue.mono _ _ _ _ _ _ _
      | exact LeO.none _
      | refine LeO.ite ?_ ?_
      | refine LeO.bind ?_ (fun _ => ?_)
def annuitylaw19_BillAhead.T9 : Bool × List (List Nat × List Nat) := (true, [([], []), ([0], [0]), ([], []), ([], []), ([3], [3]), ([4], [4]), ([], []), ([6], [6]), ([7], [7]), ([], []), ([1, 2, 5, 8, 9, 1], [1, 2, 5, 8, 9]), ([10], [10]), ([11], [11]), ([11], [11]), ([11], [11]), ([12, 10, 0, 1, 2, 3, 4, 5, 6, 7, 8, 9, 10, 11, 12], [12]), ([13, 15, 0, 1, 2, 3, 4, 5, 6, 7, 8, 9, 10, 11, 12, 13, 15], [13]), ([14, 16, 0, 1, 2, 3, 4, 5, 6, 7, 8, 9, 10, 11, 12, 13, 14, 15, 16], [14])])
def annuitylaw19_BillAhead.B9 : List Nat := [0, 1, 0, 0, 8, 24, 0, 64, 192, 0, 1023, 2047, 4095, 4095, 4095, 8191, 49151, 131071]
theorem annuitylaw19_BillAhead.tab9 : rtab .any (opsOf Try.f7 9) = annuitylaw19_BillAhead.T9 := by kernel_rfl
theorem annuitylaw19_BillAhead.bits9 : waitsOk annuitylaw19_BillAhead.T9.2 annuitylaw19_BillAhead.B9 = true := by kernel_rfl
set_option maxHeartbeats 8000000 in
set_option maxRecDepth 100000 in
theorem annuitylaw19_BillAhead.calls (k : Nat) (A0 : Option Addr) (c0 : Nat) (l0 : List (S45)) (a1_0 : Int) (a1_1 : Int) (a2 : Int) (r : Bool) (w : World) (hr0 : Kd.C k45 w A0 l0.length l0) (hc0 : l0.length ≤ c0) (h : annuitylaw19_BillAhead.f k l0 a1_0 a1_1 a2 = some r) :
    Calls Try.prog 7 #[.slice A0 l0.length c0, .agg #[.int .u32 a1_0, .int .u32 a1_1], .int .u8 a2] w fun e w' => e = .returned (.bool r) ∧ Below w.heap.size w w' := by
  have hu42 := Try.underlying42
  have hu45 := Try.underlying45
  have HR0 := Aside0.mk hr0
  have HC0 := Aside0.mk hc0
  clear hr0 hc0
  have HB := Aside0.mk (Below.refl w.heap.size w)
  have H : ((annuitylaw19_Large.f k l0).bind fun t390 => (if t390 = true then ((annuitylaw19_wakes.f k).bind fun t391 => (some t391)) else ((annuityref19_Good.f k l0).bind fun t392 => (if t392 = true then (if (l0.length : Int) > 0 then (if 0 ≤ (wrap64 ((l0.length : Int) - 1)) then (if (wrap64 ((l0.length : Int) - 1)) < (l0.length : Int) then (annuitylaw19_BillAhead.j0 k l0 a2 (wrap64 (((rd_T45 l0 (wrap64 ((l0.length : Int) - 1))).f0) + 1)) a1_0 a1_1) else (none)) else (none)) else (annuitylaw19_BillAhead.j0 k l0 a2 0 a1_0 a1_1)) else ((annuitylaw19_wakes.f k).bind fun t393 => (some t393)))))) = some r := h
  clear h
  replace H := Option.bind_eq_some_iff.mp H
  obtain ⟨t390, A40, H⟩ := H
  replace H : (if t390 = true then ((annuitylaw19_wakes.f k).bind fun t391 => (some t391)) else ((annuityref19_Good.f k l0).bind fun t392 => (if t392 = true then (if (l0.length : Int) > 0 then (if 0 ≤ (wrap64 ((l0.length : Int) - 1)) then (if (wrap64 ((l0.length : Int) - 1)) < (l0.length : Int) then (annuitylaw19_BillAhead.j0 k l0 a2 (wrap64 (((rd_T45 l0 (wrap64 ((l0.length : Int) - 1))).f0) + 1)) a1_0 a1_1) else (none)) else (none)) else (annuitylaw19_BillAhead.j0 k l0 a2 0 a1_0 a1_1)) else ((annuitylaw19_wakes.f k).bind fun t393 => (some t393))))) = some r := H
  have A4 := Aside0.mk A40
  clear A40
  by_cases c5 : t390 = true
  · subst c5
    have H1 : ((annuitylaw19_wakes.f k).bind fun t391 => (some t391)) = some r := by rw [if_pos rfl] at H; exact H
    clear H
    have H := H1
    clear H1
    replace H := Option.bind_eq_some_iff.mp H
    obtain ⟨t391, A60, H⟩ := H
    replace H : (some t391) = some r := H
    have A6 := Aside0.mk A60
    clear A60
    obtain rfl := Option.some.inj H
    go_enter Try.func7, Try.ntmps7
    go_wp2_with (first | ((with_reducible refine gate_dst (N := 4) rfl ?_); (try (refine gate_guard (by rfl) ?_; dsimp only)); refine box_event ?hg (N := 4) ?hd (cs := #[.int .u32 a1_0, .int .u32 a1_1]) (t := 42) ?hr ?_; (case hd => rfl); (case hg => rfl); (case hr => first | (go_simp; done) | (go_simp; rfl)); intro gb389 hg w7 hbox hb; have n0_ := Aside0.mk (below_step (by repeat (first | (with_reducible first | exact HB.out | apply below_alloc | apply pw_below_drewN | apply below_drew1) | exact HB.out)) hb); have n1_ := Aside0.mk (hbox); have n2_ := Aside0.mk ((by rw [hg]; exact (below_size (by repeat (first | (with_reducible first | exact HB.out | apply below_alloc | apply pw_below_drewN | apply below_drew1) | exact HB.out))) : w.heap.size ≤ gb389)); have n3_ := Aside0.mk ((by rw [hg]; exact (below_size (by repeat (first | (with_reducible first | exact HB.out | apply below_alloc | apply pw_below_drewN | apply below_drew1) | exact HB.out))) : w.heap.size ≤ gb389)); clear HB; have HB := n0_; have BK389 := n1_; have GW389 := n2_; have GE389 := n3_; clear n0_ n1_ n2_ n3_; clear hb hbox hg) | ((with_reducible refine gate_callee (f := 8) rfl ?_); refine goesL_ (some 16) rfl rfl Try.func8 (by kernel_rfl) rfl #[.slice A0 l0.length c0] rfl (by (try simp only [List.map_toArray, List.map_cons, List.map_nil]); first | done | rfl | (simp only [List.length_drop, List.length_take]; rfl)) ?_; (with_reducible refine (annuitylaw19_Large.calls k _ _ l0 true _ ?side1 ?side2 A4.out).mono ?_); (case side1 => repeat (first | exact (Kd.C_below HR0.out HB.out) | (with_reducible refine Kd.C_alloc ?_ _) | (with_reducible refine Kd.C_drewN ?_ _) | (with_reducible refine Kd.C_drew ?_))); (case side2 => exact HC0.out); rintro e w8 ⟨rfl, hb⟩; refine ⟨_, rfl, ?_⟩; have n0_ := Aside0.mk (blk_below (g := gb389) (Up.up BK389.out) hb); have n1_ := Aside0.mk (below_step (by repeat (first | (with_reducible first | exact HB.out | apply below_alloc | apply pw_below_drewN | apply below_drew1 | refine below_set ?_ GE389.out) | exact HB.out)) hb); clear BK389; clear HB; have BK389 := n0_; have HB := n1_; clear n0_ n1_; (try clear hb); (try clear hb2); (try clear hk); (try clear hi)) | ((with_reducible refine gate_callee (f := 9) rfl ?_); refine goesL_ (some 22) rfl rfl Try.func9 (by kernel_rfl) rfl #[] rfl (by (try simp only [List.map_toArray, List.map_cons, List.map_nil]); first | done | rfl | (simp only [List.length_drop, List.length_take]; rfl)) ?_; (with_reducible refine (annuitylaw19_wakes.calls k  t391 _ A6.out).mono ?_); rintro e w9 ⟨rfl, hb⟩; refine ⟨_, rfl, ?_⟩; have n0_ := Aside0.mk (blk_below (g := gb389) (Up.up BK389.out) hb); have n1_ := Aside0.mk (below_step (by repeat (first | (with_reducible first | exact HB.out | apply below_alloc | apply pw_below_drewN | apply below_drew1 | refine below_set ?_ GE389.out) | exact HB.out)) hb); clear BK389; clear HB; have BK389 := n0_; have HB := n1_; clear n0_ n1_; (try clear hb); (try clear hb2); (try clear hk); (try clear hi)))
    go_ret
    exact ⟨by first | rfl | (simp [errW_none, errW_some] <;> rfl) | (simp [*, errW_none, errW_some] <;> rfl), by repeat (first | (with_reducible first | exact HB.out | apply below_alloc | apply pw_below_drewN | apply below_drew1 | refine below_set ?_ GE389.out) | exact HB.out)⟩
  · replace c5 := Bool.eq_false_iff.mpr c5
    subst c5
    have H1 : ((annuityref19_Good.f k l0).bind fun t392 => (if t392 = true then (if (l0.length : Int) > 0 then (if 0 ≤ (wrap64 ((l0.length : Int) - 1)) then (if (wrap64 ((l0.length : Int) - 1)) < (l0.length : Int) then (annuitylaw19_BillAhead.j0 k l0 a2 (wrap64 (((rd_T45 l0 (wrap64 ((l0.length : Int) - 1))).f0) + 1)) a1_0 a1_1) else (none)) else (none)) else (annuitylaw19_BillAhead.j0 k l0 a2 0 a1_0 a1_1)) else ((annuitylaw19_wakes.f k).bind fun t393 => (some t393)))) = some r := by rw [if_neg (show ¬ (false = true) by decide)] at H; exact H
    clear H
    have H := H1
    clear H1
    replace H := Option.bind_eq_some_iff.mp H
    obtain ⟨t392, A100, H⟩ := H
    replace H : (if t392 = true then (if (l0.length : Int) > 0 then (if 0 ≤ (wrap64 ((l0.length : Int) - 1)) then (if (wrap64 ((l0.length : Int) - 1)) < (l0.length : Int) then (annuitylaw19_BillAhead.j0 k l0 a2 (wrap64 (((rd_T45 l0 (wrap64 ((l0.length : Int) - 1))).f0) + 1)) a1_0 a1_1) else (none)) else (none)) else (annuitylaw19_BillAhead.j0 k l0 a2 0 a1_0 a1_1)) else ((annuitylaw19_wakes.f k).bind fun t393 => (some t393))) = some r := H
    have A10 := Aside0.mk A100
    clear A100
    by_cases c11 : t392 = true
    · subst c11
      have H1 : (if (l0.length : Int) > 0 then (if 0 ≤ (wrap64 ((l0.length : Int) - 1)) then (if (wrap64 ((l0.length : Int) - 1)) < (l0.length : Int) then (annuitylaw19_BillAhead.j0 k l0 a2 (wrap64 (((rd_T45 l0 (wrap64 ((l0.length : Int) - 1))).f0) + 1)) a1_0 a1_1) else (none)) else (none)) else (annuitylaw19_BillAhead.j0 k l0 a2 0 a1_0 a1_1)) = some r := by rw [if_pos rfl] at H; exact H
      clear H
      have H := H1
      clear H1
      have HC12 := Aside0.mk H
      clear H
      go_enter Try.func7, Try.ntmps7
      go_upto_if 25 with (first | ((with_reducible refine gate_dst (N := 4) rfl ?_); (try (refine gate_guard (by rfl) ?_; dsimp only)); refine box_event ?hg (N := 4) ?hd (cs := #[.int .u32 a1_0, .int .u32 a1_1]) (t := 42) ?hr ?_; (case hd => rfl); (case hg => rfl); (case hr => first | (go_simp; done) | (go_simp; rfl)); intro gb389 hg w13 hbox hb; have n0_ := Aside0.mk (below_step (by repeat (first | (with_reducible first | exact HB.out | apply below_alloc | apply pw_below_drewN | apply below_drew1) | exact HB.out)) hb); have n1_ := Aside0.mk (hbox); have n2_ := Aside0.mk ((by rw [hg]; exact (below_size (by repeat (first | (with_reducible first | exact HB.out | apply below_alloc | apply pw_below_drewN | apply below_drew1) | exact HB.out))) : w.heap.size ≤ gb389)); have n3_ := Aside0.mk ((by rw [hg]; exact (below_size (by repeat (first | (with_reducible first | exact HB.out | apply below_alloc | apply pw_below_drewN | apply below_drew1) | exact HB.out))) : w.heap.size ≤ gb389)); clear HB; have HB := n0_; have BK389 := n1_; have GW389 := n2_; have GE389 := n3_; clear n0_ n1_ n2_ n3_; clear hb hbox hg) | ((with_reducible refine gate_callee (f := 8) rfl ?_); refine goesL_ (some 16) rfl rfl Try.func8 (by kernel_rfl) rfl #[.slice A0 l0.length c0] rfl (by (try simp only [List.map_toArray, List.map_cons, List.map_nil]); first | done | rfl | (simp only [List.length_drop, List.length_take]; rfl)) ?_; (with_reducible refine (annuitylaw19_Large.calls k _ _ l0 false _ ?side1 ?side2 A4.out).mono ?_); (case side1 => repeat (first | exact (Kd.C_below HR0.out HB.out) | (with_reducible refine Kd.C_alloc ?_ _) | (with_reducible refine Kd.C_drewN ?_ _) | (with_reducible refine Kd.C_drew ?_))); (case side2 => exact HC0.out); rintro e w14 ⟨rfl, hb⟩; refine ⟨_, rfl, ?_⟩; have n0_ := Aside0.mk (blk_below (g := gb389) (Up.up BK389.out) hb); have n1_ := Aside0.mk (below_step (by repeat (first | (with_reducible first | exact HB.out | apply below_alloc | apply pw_below_drewN | apply below_drew1 | refine below_set ?_ GE389.out) | exact HB.out)) hb); clear BK389; clear HB; have BK389 := n0_; have HB := n1_; clear n0_ n1_; (try clear hb); (try clear hb2); (try clear hk); (try clear hi)) | (go_at_call 16; (with_reducible refine (annuityref19_Good.calls k _ _ l0 true _ ?side1 ?side2 A10.out).mono ?_); (case side1 => repeat (first | exact (Kd.C_below HR0.out HB.out) | (with_reducible refine Kd.C_alloc ?_ _) | (with_reducible refine Kd.C_drewN ?_ _) | (with_reducible refine Kd.C_drew ?_))); (case side2 => exact HC0.out); rintro e w15 ⟨rfl, hb⟩; have n0_ := Aside0.mk (blk_below (g := gb389) (Up.up BK389.out) hb); have n1_ := Aside0.mk (below_step (by repeat (first | (with_reducible first | exact HB.out | apply below_alloc | apply pw_below_drewN | apply below_drew1 | refine below_set ?_ GE389.out) | exact HB.out)) hb); clear BK389; clear HB; have BK389 := n0_; have HB := n1_; clear n0_ n1_; (try clear hb); (try clear hb2); (try clear hk); (try clear hi)))
      (try simp only [Act.put, List.setIfInBounds_toArray, List.set_cons_zero, List.set_cons_succ])
      go_cut [7] (fun v7 wc => ∃ (kq : Nat) (x7_11 : Int), v7 = .int .i64 x7_11 ∧ Aside0 (annuitylaw19_BillAhead.j0 kq l0 a2 x7_11 a1_0 a1_1 = some r) ∧ Aside0 (kq ≤ k) ∧ Aside0 (wc.heap[gb389]? = some (.cells #[.int .u32 a1_0, .int .u32 a1_1] 42 (0, 0))) ∧ Aside0 (Below w.heap.size w wc))
      case first =>
        have H := HC12.out
        clear HC12
        by_cases c16 : (l0.length : Int) > 0
        · rw [if_pos c16] at H
          have c16b0 : decide (0 < (l0.length : Int)) = true := decide_eq_true c16
          have c16b1 : decide (0 < l0.length) = true := decide_eq_true (by omega)
          clear c16
          (first | rw [c16b0] | (simp only [i64_w, i32_w]; rw [c16b0]) | rw [c16b1] | skip)
          obtain ⟨ji17, hji17⟩ : ∃ j_ : Int, (wrap64 ((l0.length : Int) - 1)) = j_ := ⟨_, rfl⟩
          replace H : (if 0 ≤ (ji17) then (if (ji17) < (l0.length : Int) then (annuitylaw19_BillAhead.j0 k l0 a2 (wrap64 (((rd_T45 l0 (ji17)).f0) + 1)) a1_0 a1_1) else (none)) else (none)) = some r := by first | (rw [hji17] at H; exact H) | (simp only [hji17] at H ⊢; exact H)
          have hji17w : (IntKind.i64.wrap ((l0.length : Int) - 1)) = ji17 := (i64_w _).trans hji17
          by_cases c18 : 0 ≤ (ji17)
          · rw [if_pos c18] at H
            have c18b0 : decide (0 ≤ (ji17)) = true := decide_eq_true c18
            clear c18
            by_cases c19 : (ji17) < (l0.length : Int)
            · rw [if_pos c19] at H
              have c19b0 : decide ((ji17) < (l0.length : Int)) = true := decide_eq_true c19
              clear c19
              have H' := Aside0.mk H
              clear H
              have p394 : 0 ≤ ((ji17) : Int) := of_decide_eq_true (by first | (with_reducible assumption) | assumption)
              have q394 : (ji17) < (l0.length : Int) := of_decide_eq_true (by first | (with_reducible assumption) | assumption)
              obtain ⟨ad394, A394_5, c394_5, e394, hx394_0, hx394_1, hx394_2, hx394_3, hx394_4, hx394_5, hl394_5, hi394_5⟩ := at_T45 HR0.out (ji17) p394 q394
              cases e394
              replace hx394_0 := (HB.out.cell (World.block_lt_of_cell? w _ hx394_0)).trans hx394_0
              replace hx394_1 := (HB.out.cell (World.block_lt_of_cell? w _ hx394_1)).trans hx394_1
              replace hx394_2 := (HB.out.cell (World.block_lt_of_cell? w _ hx394_2)).trans hx394_2
              replace hx394_3 := (HB.out.cell (World.block_lt_of_cell? w _ hx394_3)).trans hx394_3
              replace hx394_4 := (HB.out.cell (World.block_lt_of_cell? w _ hx394_4)).trans hx394_4
              replace hx394_5 := (HB.out.cell (World.block_lt_of_cell? w _ hx394_5)).trans hx394_5
              have HR394_5 := Aside0.mk hi394_5
              have HC394_5 := Aside0.mk hl394_5
              clear hi394_5 hl394_5
              replace p394 := eq_true p394
              replace q394 := eq_true q394
              go_wp2
              go_meet
              case rel => exact ⟨_, (wrap64 (((rd_T45 l0 (ji17)).f0) + 1)), (by first | rfl | (simp; done) | (simp only [← hji17] <;> (first | rfl | simp)) | (simp [*]; done)), H', ⟨by first | omega | exact Nat.le_refl _⟩, ⟨by (with_reducible repeat (first | refine blk_drewN ?_ _ | refine blk_drew ?_ | refine blk_alloc ?_ _)); exact BK389.out⟩, ⟨by repeat (first | (with_reducible first | exact HB.out | apply below_alloc | apply pw_below_drewN | apply below_drew1 | refine below_set ?_ GE389.out) | exact HB.out)⟩⟩
            · rw [if_neg c19] at H
              exact absurd H (by simp)
          · rw [if_neg c18] at H
            exact absurd H (by simp)
        · rw [if_neg c16] at H
          have c16b0 : decide (0 < (l0.length : Int)) = false := decide_eq_false c16
          have c16b1 : decide (0 < l0.length) = false := decide_eq_false (by omega)
          clear c16
          (first | rw [c16b0] | (simp only [i64_w, i32_w]; rw [c16b0]) | rw [c16b1] | skip)
          have H' := Aside0.mk H
          clear H
          go_wp2
          go_meet
          case rel => exact ⟨_, (0), (by first | rfl | (simp; done) | (simp [*]; done)), H', ⟨by first | omega | exact Nat.le_refl _⟩, ⟨by (with_reducible repeat (first | refine blk_drewN ?_ _ | refine blk_drew ?_ | refine blk_alloc ?_ _)); exact BK389.out⟩, ⟨by repeat (first | (with_reducible first | exact HB.out | apply below_alloc | apply pw_below_drewN | apply below_drew1 | refine below_set ?_ GE389.out) | exact HB.out)⟩⟩
      case rest =>
        clear HC12
        try clear c1
        try clear p2
        try clear c3
        try clear p3
        try clear q3
        try clear hx3
        try clear c5
        try clear p6
        try clear c7
        try clear c8
        try clear c9
        try clear c11
        try clear c16
        try clear c16b0
        try clear c16b1
        try clear c18
        try clear c18b0
        try clear c19
        try clear c19b0
        try clear hx394_0
        try clear hx394_1
        try clear hx394_2
        try clear hx394_3
        try clear hx394_4
        try clear hx394_5
        try clear p394
        try clear q394
        obtain ⟨kq, x7_11, rfl, HA, HJ11, BK389, HB⟩ := hcut
        cases kq with
        | zero => exact absurd HA.out (by simp [annuitylaw19_BillAhead.j0])
        | succ kj11 =>
          have H := HA.out
          clear HA
          simp only [annuitylaw19_BillAhead.j0] at H
          by_cases c20 : (wrap64 (x7_11 + (wrap64 (a2)))) > 2879
          · rw [if_pos c20] at H
            have c20b0 : decide (2879 < (wrap64 (x7_11 + (wrap64 (a2))))) = true := decide_eq_true c20
            clear c20
            replace H := Option.bind_eq_some_iff.mp H
            obtain ⟨t395, A210, H⟩ := H
            replace H : (some t395) = some r := H
            have A21 := Aside0.mk A210
            clear A210
            obtain rfl := Option.some.inj H
            go_wp2_with (first | ((with_reducible refine gate_callee (f := 9) rfl ?_); refine goesL_ (some 45) rfl rfl Try.func9 (by kernel_rfl) rfl #[] rfl (by (try simp only [List.map_toArray, List.map_cons, List.map_nil]); first | done | rfl | (simp only [List.length_drop, List.length_take]; rfl)) ?_; (with_reducible refine (annuitylaw19_wakes.calls kj11  t395 _ A21.out).mono ?_); rintro e w22 ⟨rfl, hb⟩; refine ⟨_, rfl, ?_⟩; have n0_ := Aside0.mk (blk_below (g := gb389) (Up.up BK389.out) hb); have n1_ := Aside0.mk (below_step (by repeat (first | (with_reducible first | exact HB.out | apply below_alloc | apply pw_below_drewN | apply below_drew1 | refine below_set ?_ GE389.out) | exact HB.out)) hb); clear BK389; clear HB; have BK389 := n0_; have HB := n1_; clear n0_ n1_; (try clear hb); (try clear hb2); (try clear hk); (try clear hi)))
            go_ret
            exact ⟨by first | rfl | (simp [errW_none, errW_some] <;> rfl) | (simp [*, errW_none, errW_some] <;> rfl), by repeat (first | (with_reducible first | exact HB.out | apply below_alloc | apply pw_below_drewN | apply below_drew1 | refine below_set ?_ GE389.out) | exact HB.out)⟩
          · rw [if_neg c20] at H
            have c20b0 : decide (2879 < (wrap64 (x7_11 + (wrap64 (a2))))) = false := decide_eq_false c20
            clear c20
            by_cases c23 : (l0.length : Int) > 390
            · rw [if_pos c23] at H
              have c23b0 : decide (390 < (l0.length : Int)) = true := decide_eq_true c23
              have c23b1 : decide (390 < l0.length) = true := decide_eq_true (by omega)
              clear c23
              replace H := Option.bind_eq_some_iff.mp H
              obtain ⟨t396, A240, H⟩ := H
              replace H : (some t396) = some r := H
              have A24 := Aside0.mk A240
              clear A240
              obtain rfl := Option.some.inj H
              go_wp2_with (first | ((with_reducible refine gate_callee (f := 9) rfl ?_); refine goesL_ (some 45) rfl rfl Try.func9 (by kernel_rfl) rfl #[] rfl (by (try simp only [List.map_toArray, List.map_cons, List.map_nil]); first | done | rfl | (simp only [List.length_drop, List.length_take]; rfl)) ?_; (with_reducible refine (annuitylaw19_wakes.calls kj11  t396 _ A24.out).mono ?_); rintro e w25 ⟨rfl, hb⟩; refine ⟨_, rfl, ?_⟩; have n0_ := Aside0.mk (blk_below (g := gb389) (Up.up BK389.out) hb); have n1_ := Aside0.mk (below_step (by repeat (first | (with_reducible first | exact HB.out | apply below_alloc | apply pw_below_drewN | apply below_drew1 | refine below_set ?_ GE389.out) | exact HB.out)) hb); clear BK389; clear HB; have BK389 := n0_; have HB := n1_; clear n0_ n1_; (try clear hb); (try clear hb2); (try clear hk); (try clear hi)))
              go_ret
              exact ⟨by first | rfl | (simp [errW_none, errW_some] <;> rfl) | (simp [*, errW_none, errW_some] <;> rfl), by repeat (first | (with_reducible first | exact HB.out | apply below_alloc | apply pw_below_drewN | apply below_drew1 | refine below_set ?_ GE389.out) | exact HB.out)⟩
            · rw [if_neg c23] at H
              have c23b0 : decide (390 < (l0.length : Int)) = false := decide_eq_false c23
              have c23b1 : decide (390 < l0.length) = false := decide_eq_false (by omega)
              clear c23
              replace H := Option.bind_eq_some_iff.mp H
              obtain ⟨t397, A260, H⟩ := H
              replace H : ((bill_Issue.f kj11 t397 (wrap64 (x7_11 + (wrap64 (a2)))) (wrap64 (a1_0)) (wrap64 (a1_1)) 2 (([4, 5] : List Int))).bind fun bt403 => (if bt403.2.2 = 0 then (if (bt403.1.length : Int) = (wrap64 ((l0.length : Int) + 1)) then (if 0 ≤ (l0.length : Int) then (if (l0.length : Int) ≤ (bt403.1.length : Int) then ((annuitykeep_Bills.f kj11 (bt403.1.take ((l0.length : Int) : Int).toNat) l0).bind fun t413 => (if t413 = true then (if (l0.length : Int) < (bt403.1.length : Int) then (if (wrap64 ((wrap64 (a1_1)) - bt403.2.1)) = (mn (wrap64 (a1_0)) (wrap64 (a1_1))) then (if ((rd_T45 bt403.1 (l0.length : Int)).f2) = (wrap64 ((wrap64 (a1_0)) - (wrap64 ((wrap64 (a1_1)) - bt403.2.1)))) then (if ((rd_T45 bt403.1 (l0.length : Int)).f0) = (wrap64 (x7_11 + (wrap64 (a2)))) then (if ((rd_T45 bt403.1 (l0.length : Int)).f4) = 2 then ((annuitykeep_Ints.f kj11 ((rd_T45 bt403.1 (l0.length : Int)).f5) (([4, 5] : List Int))).bind fun t419 => (if t419 = true then ((bill_Find.f kj11 bt403.1 (wrap64 (x7_11 + (wrap64 (a2))))).bind fun bt420 => (if bt420.2.2.2.2.2.2 = true then ((annuitykeep_Bill.f kj11 ((rd_T45 bt403.1 (l0.length : Int)).f0) ((rd_T45 bt403.1 (l0.length : Int)).f1) ((rd_T45 bt403.1 (l0.length : Int)).f2) ((rd_T45 bt403.1 (l0.length : Int)).f3) ((rd_T45 bt403.1 (l0.length : Int)).f4) ((rd_T45 bt403.1 (l0.length : Int)).f5) bt420.1 bt420.2.1 bt420.2.2.1 bt420.2.2.2.1 bt420.2.2.2.2.1 bt420.2.2.2.2.2.1).bind fun t430 => (if t430 = true then (if ((decide (((rd_T45 bt403.1 (l0.length : Int)).f3) ≥ 0)) == (((rd_T45 bt403.1 (l0.length : Int)).f2) == 0)) = true then ((annuitylaw19_wakes.f kj11).bind fun t431 => (some t431)) else (none)) else (none))) else (none))) else (none))) else (none)) else (none)) else (none)) else (none)) else (none)) else (none))) else (none)) else (none)) else (none)) else (none))) = some r := H
              have A26 := Aside0.mk A260
              clear A260
              obtain ⟨y400, hy400⟩ : ∃ y_ : List Int, y_ = (([4, 5] : List Int)) := ⟨_, rfl⟩
              replace H : ((bill_Issue.f kj11 t397 (wrap64 (x7_11 + (wrap64 (a2)))) (wrap64 (a1_0)) (wrap64 (a1_1)) 2 y400).bind fun bt403 => (if bt403.2.2 = 0 then (if (bt403.1.length : Int) = (wrap64 ((l0.length : Int) + 1)) then (if 0 ≤ (l0.length : Int) then (if (l0.length : Int) ≤ (bt403.1.length : Int) then ((annuitykeep_Bills.f kj11 (bt403.1.take ((l0.length : Int) : Int).toNat) l0).bind fun t413 => (if t413 = true then (if (l0.length : Int) < (bt403.1.length : Int) then (if (wrap64 ((wrap64 (a1_1)) - bt403.2.1)) = (mn (wrap64 (a1_0)) (wrap64 (a1_1))) then (if ((rd_T45 bt403.1 (l0.length : Int)).f2) = (wrap64 ((wrap64 (a1_0)) - (wrap64 ((wrap64 (a1_1)) - bt403.2.1)))) then (if ((rd_T45 bt403.1 (l0.length : Int)).f0) = (wrap64 (x7_11 + (wrap64 (a2)))) then (if ((rd_T45 bt403.1 (l0.length : Int)).f4) = 2 then ((annuitykeep_Ints.f kj11 ((rd_T45 bt403.1 (l0.length : Int)).f5) (([4, 5] : List Int))).bind fun t419 => (if t419 = true then ((bill_Find.f kj11 bt403.1 (wrap64 (x7_11 + (wrap64 (a2))))).bind fun bt420 => (if bt420.2.2.2.2.2.2 = true then ((annuitykeep_Bill.f kj11 ((rd_T45 bt403.1 (l0.length : Int)).f0) ((rd_T45 bt403.1 (l0.length : Int)).f1) ((rd_T45 bt403.1 (l0.length : Int)).f2) ((rd_T45 bt403.1 (l0.length : Int)).f3) ((rd_T45 bt403.1 (l0.length : Int)).f4) ((rd_T45 bt403.1 (l0.length : Int)).f5) bt420.1 bt420.2.1 bt420.2.2.1 bt420.2.2.2.1 bt420.2.2.2.2.1 bt420.2.2.2.2.2.1).bind fun t430 => (if t430 = true then (if ((decide (((rd_T45 bt403.1 (l0.length : Int)).f3) ≥ 0)) == (((rd_T45 bt403.1 (l0.length : Int)).f2) == 0)) = true then ((annuitylaw19_wakes.f kj11).bind fun t431 => (some t431)) else (none)) else (none))) else (none))) else (none))) else (none)) else (none)) else (none)) else (none)) else (none)) else (none))) else (none)) else (none)) else (none)) else (none))) = some r := by first | (rw [hy400]; with_reducible exact H) | (have H2_ := (Option.bind_some _ _).symm.trans H; rw [hy400]; with_reducible exact H2_) | (have H2_ := (Option.bind_some _ _).symm.trans H; with_reducible exact H2_) | with_reducible exact H | (rw [hy400]; exact H) | exact H
              have Ny400 := Aside0.mk hy400
              clear hy400
              replace H := Option.bind_eq_some_iff.mp H
              obtain ⟨⟨t403, t406, t407⟩, A270, H⟩ := H
              replace H : (if t407 = 0 then (if (t403.length : Int) = (wrap64 ((l0.length : Int) + 1)) then (if 0 ≤ (l0.length : Int) then (if (l0.length : Int) ≤ (t403.length : Int) then ((annuitykeep_Bills.f kj11 (t403.take ((l0.length : Int) : Int).toNat) l0).bind fun t413 => (if t413 = true then (if (l0.length : Int) < (t403.length : Int) then (if (wrap64 ((wrap64 (a1_1)) - t406)) = (mn (wrap64 (a1_0)) (wrap64 (a1_1))) then (if ((rd_T45 t403 (l0.length : Int)).f2) = (wrap64 ((wrap64 (a1_0)) - (wrap64 ((wrap64 (a1_1)) - t406)))) then (if ((rd_T45 t403 (l0.length : Int)).f0) = (wrap64 (x7_11 + (wrap64 (a2)))) then (if ((rd_T45 t403 (l0.length : Int)).f4) = 2 then ((annuitykeep_Ints.f kj11 ((rd_T45 t403 (l0.length : Int)).f5) (([4, 5] : List Int))).bind fun t419 => (if t419 = true then ((bill_Find.f kj11 t403 (wrap64 (x7_11 + (wrap64 (a2))))).bind fun bt420 => (if bt420.2.2.2.2.2.2 = true then ((annuitykeep_Bill.f kj11 ((rd_T45 t403 (l0.length : Int)).f0) ((rd_T45 t403 (l0.length : Int)).f1) ((rd_T45 t403 (l0.length : Int)).f2) ((rd_T45 t403 (l0.length : Int)).f3) ((rd_T45 t403 (l0.length : Int)).f4) ((rd_T45 t403 (l0.length : Int)).f5) bt420.1 bt420.2.1 bt420.2.2.1 bt420.2.2.2.1 bt420.2.2.2.2.1 bt420.2.2.2.2.2.1).bind fun t430 => (if t430 = true then (if ((decide (((rd_T45 t403 (l0.length : Int)).f3) ≥ 0)) == (((rd_T45 t403 (l0.length : Int)).f2) == 0)) = true then ((annuitylaw19_wakes.f kj11).bind fun t431 => (some t431)) else (none)) else (none))) else (none))) else (none))) else (none)) else (none)) else (none)) else (none)) else (none)) else (none))) else (none)) else (none)) else (none)) else (none)) = some r := H
              have A27 := Aside0.mk A270
              clear A270
              by_cases c28 : t407 = 0
              · rw [if_pos c28] at H
                have c28b0 : (t407 == 0) = true := beq_iff_eq.mpr c28
                have c28b1 : (t407 != 0) = false := bne_eq_false_iff_eq.mpr c28
                clear c28
                by_cases c29 : (t403.length : Int) = (wrap64 ((l0.length : Int) + 1))
                · rw [if_pos c29] at H
                  have c29b0 : ((t403.length : Int) == (wrap64 ((l0.length : Int) + 1))) = true := beq_iff_eq.mpr c29
                  have c29b1 : ((t403.length : Int) != (wrap64 ((l0.length : Int) + 1))) = false := bne_eq_false_iff_eq.mpr c29
                  clear c29
                  by_cases c30 : 0 ≤ (l0.length : Int)
                  · rw [if_pos c30] at H
                    have c30b0 := eq_true c30
                    have c30b1 : decide (0 ≤ (l0.length : Int)) = true := decide_eq_true c30
                    clear c30
                    by_cases c31 : (l0.length : Int) ≤ (t403.length : Int)
                    · rw [if_pos c31] at H
                      have c31b0 := eq_true c31
                      have c31b1 : decide ((l0.length : Int) ≤ (t403.length : Int)) = true := decide_eq_true c31
                      clear c31
                      obtain ⟨y408, hy408⟩ : ∃ y_ : List (S45), y_ = (t403.take ((l0.length : Int) : Int).toNat) := ⟨_, rfl⟩
                      replace H : ((annuitykeep_Bills.f kj11 y408 l0).bind fun t413 => (if t413 = true then (if (l0.length : Int) < (t403.length : Int) then (if (wrap64 ((wrap64 (a1_1)) - t406)) = (mn (wrap64 (a1_0)) (wrap64 (a1_1))) then (if ((rd_T45 t403 (l0.length : Int)).f2) = (wrap64 ((wrap64 (a1_0)) - (wrap64 ((wrap64 (a1_1)) - t406)))) then (if ((rd_T45 t403 (l0.length : Int)).f0) = (wrap64 (x7_11 + (wrap64 (a2)))) then (if ((rd_T45 t403 (l0.length : Int)).f4) = 2 then ((annuitykeep_Ints.f kj11 ((rd_T45 t403 (l0.length : Int)).f5) (([4, 5] : List Int))).bind fun t419 => (if t419 = true then ((bill_Find.f kj11 t403 (wrap64 (x7_11 + (wrap64 (a2))))).bind fun bt420 => (if bt420.2.2.2.2.2.2 = true then ((annuitykeep_Bill.f kj11 ((rd_T45 t403 (l0.length : Int)).f0) ((rd_T45 t403 (l0.length : Int)).f1) ((rd_T45 t403 (l0.length : Int)).f2) ((rd_T45 t403 (l0.length : Int)).f3) ((rd_T45 t403 (l0.length : Int)).f4) ((rd_T45 t403 (l0.length : Int)).f5) bt420.1 bt420.2.1 bt420.2.2.1 bt420.2.2.2.1 bt420.2.2.2.2.1 bt420.2.2.2.2.2.1).bind fun t430 => (if t430 = true then (if ((decide (((rd_T45 t403 (l0.length : Int)).f3) ≥ 0)) == (((rd_T45 t403 (l0.length : Int)).f2) == 0)) = true then ((annuitylaw19_wakes.f kj11).bind fun t431 => (some t431)) else (none)) else (none))) else (none))) else (none))) else (none)) else (none)) else (none)) else (none)) else (none)) else (none))) = some r := by first | (rw [hy408]; with_reducible exact H) | (have H2_ := (Option.bind_some _ _).symm.trans H; rw [hy408]; with_reducible exact H2_) | (have H2_ := (Option.bind_some _ _).symm.trans H; with_reducible exact H2_) | with_reducible exact H | (rw [hy408]; exact H) | exact H
                      have Ny408 := Aside0.mk hy408
                      clear hy408
                      replace H := Option.bind_eq_some_iff.mp H
                      obtain ⟨t413, A320, H⟩ := H
                      replace H : (if t413 = true then (if (l0.length : Int) < (t403.length : Int) then (if (wrap64 ((wrap64 (a1_1)) - t406)) = (mn (wrap64 (a1_0)) (wrap64 (a1_1))) then (if ((rd_T45 t403 (l0.length : Int)).f2) = (wrap64 ((wrap64 (a1_0)) - (wrap64 ((wrap64 (a1_1)) - t406)))) then (if ((rd_T45 t403 (l0.length : Int)).f0) = (wrap64 (x7_11 + (wrap64 (a2)))) then (if ((rd_T45 t403 (l0.length : Int)).f4) = 2 then ((annuitykeep_Ints.f kj11 ((rd_T45 t403 (l0.length : Int)).f5) (([4, 5] : List Int))).bind fun t419 => (if t419 = true then ((bill_Find.f kj11 t403 (wrap64 (x7_11 + (wrap64 (a2))))).bind fun bt420 => (if bt420.2.2.2.2.2.2 = true then ((annuitykeep_Bill.f kj11 ((rd_T45 t403 (l0.length : Int)).f0) ((rd_T45 t403 (l0.length : Int)).f1) ((rd_T45 t403 (l0.length : Int)).f2) ((rd_T45 t403 (l0.length : Int)).f3) ((rd_T45 t403 (l0.length : Int)).f4) ((rd_T45 t403 (l0.length : Int)).f5) bt420.1 bt420.2.1 bt420.2.2.1 bt420.2.2.2.1 bt420.2.2.2.2.1 bt420.2.2.2.2.2.1).bind fun t430 => (if t430 = true then (if ((decide (((rd_T45 t403 (l0.length : Int)).f3) ≥ 0)) == (((rd_T45 t403 (l0.length : Int)).f2) == 0)) = true then ((annuitylaw19_wakes.f kj11).bind fun t431 => (some t431)) else (none)) else (none))) else (none))) else (none))) else (none)) else (none)) else (none)) else (none)) else (none)) else (none)) = some r := H
                      have A32 := Aside0.mk A320
                      clear A320
                      by_cases c33 : t413 = true
                      · subst c33
                        have H1 : (if (l0.length : Int) < (t403.length : Int) then (if (wrap64 ((wrap64 (a1_1)) - t406)) = (mn (wrap64 (a1_0)) (wrap64 (a1_1))) then (if ((rd_T45 t403 (l0.length : Int)).f2) = (wrap64 ((wrap64 (a1_0)) - (wrap64 ((wrap64 (a1_1)) - t406)))) then (if ((rd_T45 t403 (l0.length : Int)).f0) = (wrap64 (x7_11 + (wrap64 (a2)))) then (if ((rd_T45 t403 (l0.length : Int)).f4) = 2 then ((annuitykeep_Ints.f kj11 ((rd_T45 t403 (l0.length : Int)).f5) (([4, 5] : List Int))).bind fun t419 => (if t419 = true then ((bill_Find.f kj11 t403 (wrap64 (x7_11 + (wrap64 (a2))))).bind fun bt420 => (if bt420.2.2.2.2.2.2 = true then ((annuitykeep_Bill.f kj11 ((rd_T45 t403 (l0.length : Int)).f0) ((rd_T45 t403 (l0.length : Int)).f1) ((rd_T45 t403 (l0.length : Int)).f2) ((rd_T45 t403 (l0.length : Int)).f3) ((rd_T45 t403 (l0.length : Int)).f4) ((rd_T45 t403 (l0.length : Int)).f5) bt420.1 bt420.2.1 bt420.2.2.1 bt420.2.2.2.1 bt420.2.2.2.2.1 bt420.2.2.2.2.2.1).bind fun t430 => (if t430 = true then (if ((decide (((rd_T45 t403 (l0.length : Int)).f3) ≥ 0)) == (((rd_T45 t403 (l0.length : Int)).f2) == 0)) = true then ((annuitylaw19_wakes.f kj11).bind fun t431 => (some t431)) else (none)) else (none))) else (none))) else (none))) else (none)) else (none)) else (none)) else (none)) else (none)) = some r := by rw [if_pos rfl] at H; exact H
                        clear H
                        have H := H1
                        clear H1
                        by_cases c34 : (l0.length : Int) < (t403.length : Int)
                        · rw [if_pos c34] at H
                          have c34b0 : decide ((l0.length : Int) < (t403.length : Int)) = true := decide_eq_true c34
                          have c34b1 : decide (l0.length < t403.length) = true := decide_eq_true (Int.ofNat_lt.mp c34)
                          clear c34
                          obtain ⟨ji35, hji35⟩ : ∃ j_ : Int, (mn (wrap64 (a1_0)) (wrap64 (a1_1))) = j_ := ⟨_, rfl⟩
                          replace H : (if (wrap64 ((wrap64 (a1_1)) - t406)) = (ji35) then (if ((rd_T45 t403 (l0.length : Int)).f2) = (wrap64 ((wrap64 (a1_0)) - (wrap64 ((wrap64 (a1_1)) - t406)))) then (if ((rd_T45 t403 (l0.length : Int)).f0) = (wrap64 (x7_11 + (wrap64 (a2)))) then (if ((rd_T45 t403 (l0.length : Int)).f4) = 2 then ((annuitykeep_Ints.f kj11 ((rd_T45 t403 (l0.length : Int)).f5) (([4, 5] : List Int))).bind fun t419 => (if t419 = true then ((bill_Find.f kj11 t403 (wrap64 (x7_11 + (wrap64 (a2))))).bind fun bt420 => (if bt420.2.2.2.2.2.2 = true then ((annuitykeep_Bill.f kj11 ((rd_T45 t403 (l0.length : Int)).f0) ((rd_T45 t403 (l0.length : Int)).f1) ((rd_T45 t403 (l0.length : Int)).f2) ((rd_T45 t403 (l0.length : Int)).f3) ((rd_T45 t403 (l0.length : Int)).f4) ((rd_T45 t403 (l0.length : Int)).f5) bt420.1 bt420.2.1 bt420.2.2.1 bt420.2.2.2.1 bt420.2.2.2.2.1 bt420.2.2.2.2.2.1).bind fun t430 => (if t430 = true then (if ((decide (((rd_T45 t403 (l0.length : Int)).f3) ≥ 0)) == (((rd_T45 t403 (l0.length : Int)).f2) == 0)) = true then ((annuitylaw19_wakes.f kj11).bind fun t431 => (some t431)) else (none)) else (none))) else (none))) else (none))) else (none)) else (none)) else (none)) else (none)) = some r := by first | (rw [hji35] at H; exact H) | (simp only [hji35] at H ⊢; exact H)
                          (try rw [hji35] at A26)
                          (try rw [hji35] at A27)
                          (try rw [hji35] at A32)
                          have hji35_ : (if (wrap64 (a1_1)) < (wrap64 (a1_0)) then (wrap64 (a1_1)) else (wrap64 (a1_0))) = ji35 := hji35
                          by_cases c36 : (wrap64 ((wrap64 (a1_1)) - t406)) = (ji35)
                          · rw [if_pos c36] at H
                            have c36b0 : ((wrap64 ((wrap64 (a1_1)) - t406)) == (ji35)) = true := beq_iff_eq.mpr c36
                            have c36b1 : ((wrap64 ((wrap64 (a1_1)) - t406)) != (ji35)) = false := bne_eq_false_iff_eq.mpr c36
                            clear c36
                            by_cases c37 : ((rd_T45 t403 (l0.length : Int)).f2) = (wrap64 ((wrap64 (a1_0)) - (wrap64 ((wrap64 (a1_1)) - t406))))
                            · rw [if_pos c37] at H
                              have c37b0 : (((rd_T45 t403 (l0.length : Int)).f2) == (wrap64 ((wrap64 (a1_0)) - (wrap64 ((wrap64 (a1_1)) - t406))))) = true := beq_iff_eq.mpr c37
                              have c37b1 : (((rd_T45 t403 (l0.length : Int)).f2) != (wrap64 ((wrap64 (a1_0)) - (wrap64 ((wrap64 (a1_1)) - t406))))) = false := bne_eq_false_iff_eq.mpr c37
                              clear c37
                              by_cases c38 : ((rd_T45 t403 (l0.length : Int)).f0) = (wrap64 (x7_11 + (wrap64 (a2))))
                              · rw [if_pos c38] at H
                                have c38b0 : (((rd_T45 t403 (l0.length : Int)).f0) == (wrap64 (x7_11 + (wrap64 (a2))))) = true := beq_iff_eq.mpr c38
                                have c38b1 : (((rd_T45 t403 (l0.length : Int)).f0) != (wrap64 (x7_11 + (wrap64 (a2))))) = false := bne_eq_false_iff_eq.mpr c38
                                clear c38
                                by_cases c39 : ((rd_T45 t403 (l0.length : Int)).f4) = 2
                                · rw [if_pos c39] at H
                                  have c39b0 : (((rd_T45 t403 (l0.length : Int)).f4) == 2) = true := beq_iff_eq.mpr c39
                                  have c39b1 : (((rd_T45 t403 (l0.length : Int)).f4) != 2) = false := bne_eq_false_iff_eq.mpr c39
                                  clear c39
                                  obtain ⟨y416, hy416⟩ : ∃ y_ : List Int, y_ = (([4, 5] : List Int)) := ⟨_, rfl⟩
                                  replace H : ((annuitykeep_Ints.f kj11 ((rd_T45 t403 (l0.length : Int)).f5) y416).bind fun t419 => (if t419 = true then ((bill_Find.f kj11 t403 (wrap64 (x7_11 + (wrap64 (a2))))).bind fun bt420 => (if bt420.2.2.2.2.2.2 = true then ((annuitykeep_Bill.f kj11 ((rd_T45 t403 (l0.length : Int)).f0) ((rd_T45 t403 (l0.length : Int)).f1) ((rd_T45 t403 (l0.length : Int)).f2) ((rd_T45 t403 (l0.length : Int)).f3) ((rd_T45 t403 (l0.length : Int)).f4) ((rd_T45 t403 (l0.length : Int)).f5) bt420.1 bt420.2.1 bt420.2.2.1 bt420.2.2.2.1 bt420.2.2.2.2.1 bt420.2.2.2.2.2.1).bind fun t430 => (if t430 = true then (if ((decide (((rd_T45 t403 (l0.length : Int)).f3) ≥ 0)) == (((rd_T45 t403 (l0.length : Int)).f2) == 0)) = true then ((annuitylaw19_wakes.f kj11).bind fun t431 => (some t431)) else (none)) else (none))) else (none))) else (none))) = some r := by first | (rw [hy416]; with_reducible exact H) | (have H2_ := (Option.bind_some _ _).symm.trans H; rw [hy416]; with_reducible exact H2_) | (have H2_ := (Option.bind_some _ _).symm.trans H; with_reducible exact H2_) | with_reducible exact H | (rw [hy416]; exact H) | exact H
                                  have Ny416 := Aside0.mk hy416
                                  clear hy416
                                  replace H := Option.bind_eq_some_iff.mp H
                                  obtain ⟨t419, A400, H⟩ := H
                                  replace H : (if t419 = true then ((bill_Find.f kj11 t403 (wrap64 (x7_11 + (wrap64 (a2))))).bind fun bt420 => (if bt420.2.2.2.2.2.2 = true then ((annuitykeep_Bill.f kj11 ((rd_T45 t403 (l0.length : Int)).f0) ((rd_T45 t403 (l0.length : Int)).f1) ((rd_T45 t403 (l0.length : Int)).f2) ((rd_T45 t403 (l0.length : Int)).f3) ((rd_T45 t403 (l0.length : Int)).f4) ((rd_T45 t403 (l0.length : Int)).f5) bt420.1 bt420.2.1 bt420.2.2.1 bt420.2.2.2.1 bt420.2.2.2.2.1 bt420.2.2.2.2.2.1).bind fun t430 => (if t430 = true then (if ((decide (((rd_T45 t403 (l0.length : Int)).f3) ≥ 0)) == (((rd_T45 t403 (l0.length : Int)).f2) == 0)) = true then ((annuitylaw19_wakes.f kj11).bind fun t431 => (some t431)) else (none)) else (none))) else (none))) else (none)) = some r := H
                                  have A40 := Aside0.mk A400
                                  clear A400
                                  by_cases c41 : t419 = true
                                  · subst c41
                                    have H1 : ((bill_Find.f kj11 t403 (wrap64 (x7_11 + (wrap64 (a2))))).bind fun bt420 => (if bt420.2.2.2.2.2.2 = true then ((annuitykeep_Bill.f kj11 ((rd_T45 t403 (l0.length : Int)).f0) ((rd_T45 t403 (l0.length : Int)).f1) ((rd_T45 t403 (l0.length : Int)).f2) ((rd_T45 t403 (l0.length : Int)).f3) ((rd_T45 t403 (l0.length : Int)).f4) ((rd_T45 t403 (l0.length : Int)).f5) bt420.1 bt420.2.1 bt420.2.2.1 bt420.2.2.2.1 bt420.2.2.2.2.1 bt420.2.2.2.2.2.1).bind fun t430 => (if t430 = true then (if ((decide (((rd_T45 t403 (l0.length : Int)).f3) ≥ 0)) == (((rd_T45 t403 (l0.length : Int)).f2) == 0)) = true then ((annuitylaw19_wakes.f kj11).bind fun t431 => (some t431)) else (none)) else (none))) else (none))) = some r := by rw [if_pos rfl] at H; exact H
                                    clear H
                                    have H := H1
                                    clear H1
                                    replace H := Option.bind_eq_some_iff.mp H
                                    obtain ⟨⟨t420, t421, t422, t423, t424, t425, t428⟩, A420, H⟩ := H
                                    replace H : (if t428 = true then ((annuitykeep_Bill.f kj11 ((rd_T45 t403 (l0.length : Int)).f0) ((rd_T45 t403 (l0.length : Int)).f1) ((rd_T45 t403 (l0.length : Int)).f2) ((rd_T45 t403 (l0.length : Int)).f3) ((rd_T45 t403 (l0.length : Int)).f4) ((rd_T45 t403 (l0.length : Int)).f5) t420 t421 t422 t423 t424 t425).bind fun t430 => (if t430 = true then (if ((decide (((rd_T45 t403 (l0.length : Int)).f3) ≥ 0)) == (((rd_T45 t403 (l0.length : Int)).f2) == 0)) = true then ((annuitylaw19_wakes.f kj11).bind fun t431 => (some t431)) else (none)) else (none))) else (none)) = some r := H
                                    have A42 := Aside0.mk A420
                                    clear A420
                                    by_cases c43 : t428 = true
                                    · subst c43
                                      have H1 : ((annuitykeep_Bill.f kj11 ((rd_T45 t403 (l0.length : Int)).f0) ((rd_T45 t403 (l0.length : Int)).f1) ((rd_T45 t403 (l0.length : Int)).f2) ((rd_T45 t403 (l0.length : Int)).f3) ((rd_T45 t403 (l0.length : Int)).f4) ((rd_T45 t403 (l0.length : Int)).f5) t420 t421 t422 t423 t424 t425).bind fun t430 => (if t430 = true then (if ((decide (((rd_T45 t403 (l0.length : Int)).f3) ≥ 0)) == (((rd_T45 t403 (l0.length : Int)).f2) == 0)) = true then ((annuitylaw19_wakes.f kj11).bind fun t431 => (some t431)) else (none)) else (none))) = some r := by rw [if_pos rfl] at H; exact H
                                      clear H
                                      have H := H1
                                      clear H1
                                      replace H := Option.bind_eq_some_iff.mp H
                                      obtain ⟨t430, A440, H⟩ := H
                                      replace H : (if t430 = true then (if ((decide (((rd_T45 t403 (l0.length : Int)).f3) ≥ 0)) == (((rd_T45 t403 (l0.length : Int)).f2) == 0)) = true then ((annuitylaw19_wakes.f kj11).bind fun t431 => (some t431)) else (none)) else (none)) = some r := H
                                      have A44 := Aside0.mk A440
                                      clear A440
                                      by_cases c45 : t430 = true
                                      · subst c45
                                        have H1 : (if ((decide (((rd_T45 t403 (l0.length : Int)).f3) ≥ 0)) == (((rd_T45 t403 (l0.length : Int)).f2) == 0)) = true then ((annuitylaw19_wakes.f kj11).bind fun t431 => (some t431)) else (none)) = some r := by rw [if_pos rfl] at H; exact H
                                        clear H
                                        have H := H1
                                        clear H1
                                        by_cases c46 : ((decide (((rd_T45 t403 (l0.length : Int)).f3) ≥ 0)) == (((rd_T45 t403 (l0.length : Int)).f2) == 0)) = true
                                        · rw [if_pos c46] at H
                                          have c46b0 : ((decide (((rd_T45 t403 (l0.length : Int)).f3) ≥ 0)) == (((rd_T45 t403 (l0.length : Int)).f2) == 0)) = true := c46
                                          (try (have c46b1 : decide ((decide (((rd_T45 t403 (l0.length : Int)).f3) ≥ 0)) = (((rd_T45 t403 (l0.length : Int)).f2) == 0)) = true := by simpa using c46))
                                          (try (have c46b2 : ((decide (((rd_T45 t403 (l0.length : Int)).f3) ≥ 0)) == (((rd_T45 t403 (l0.length : Int)).f2) == 0)) = true := by simpa using c46))
                                          clear c46
                                          replace H := Option.bind_eq_some_iff.mp H
                                          obtain ⟨t431, A470, H⟩ := H
                                          replace H : (some t431) = some r := H
                                          have A47 := Aside0.mk A470
                                          clear A470
                                          obtain rfl := Option.some.inj H
                                          try go_wp2
                                          have n0_ := Aside0.mk (blk_drew BK389.out)
                                          have n1_ := Aside0.mk (below_drew1 HB.out)
                                          clear BK389
                                          clear HB
                                          have BK389 := n0_
                                          have HB := n1_
                                          clear n0_ n1_
                                          refine start_ (n := 18) (S := fun w' => True) (ds := []) #[false, false, false, false, false, false, false, false, false, false, false, false, false, false, false, false, false, false] (by kernel_rfl) rfl rfl trivial (fun hHeld => ?_); refine with_tabW annuitylaw19_BillAhead.tab9 annuitylaw19_BillAhead.bits9 (fun HT_ HW_ => ?_)
                                          generalize wc.drew = w48 at BK389 HB hHeld ⊢
                                          refine pure_ (i := 0) (N := some 47) (v := ?_) (a' := ?_) #[true, false, false, false, false, false, false, false, false, false, false, false, false, false, false, false, false, false] rfl rfl (any_of HT_.out (by kernel_rfl)) (fun _ _ _ h => h) (Or.inl ⟨by rfl, ?_⟩) ?_ ?_
                                          rotate_left
                                          · intro w'
                                            go_simp
                                            with_reducible rfl
                                          rotate_left
                                          · simp only [Act.put, List.setIfInBounds_toArray, List.set_cons_zero, List.set_cons_succ, i64_w, i32_w]
                                            rfl
                                          refine pure_ (i := 2) (N := some 49) (v := ?_) (a' := ?_) #[true, false, true, false, false, false, false, false, false, false, false, false, false, false, false, false, false, false] rfl rfl (any_of HT_.out (by kernel_rfl)) (fun _ _ _ h => h) (Or.inl ⟨by rfl, ?_⟩) ?_ ?_
                                          rotate_left
                                          · intro w'
                                            go_simp
                                            with_reducible rfl
                                          rotate_left
                                          · simp only [Act.put, List.setIfInBounds_toArray, List.set_cons_zero, List.set_cons_succ, i64_w, i32_w]
                                            rfl
                                          refine inv_at [1, 3, 4, 5, 6, 7, 8, 9, 10, 11, 12, 13, 14, 15, 16, 17] (fun a0_ b a w' => ∃ (v398 : Value) (v401 : Value) (v404 : Value) (m10_ : Value) (m11_ : Value) (m12_ : Value) (m15_ : Value), a = putSel a0_ b [(1, 48, v398), (3, 50, .pointer (some ⟨gb389, 0, none⟩)), (4, 51, .int .u32 a1_0), (5, 52, .int .i64 (wrap64 (a1_0))), (6, 53, .pointer (some ⟨gb389, 1, none⟩)), (7, 54, .int .u32 a1_1), (8, 55, .int .i64 (wrap64 (a1_1))), (9, 56, v401), (10, 57, m10_), (11, 46, m11_), (12, 58, m12_), (13, 59, .int .i64 t406), (14, 60, .int .i64 t407), (15, 8, m15_), (16, 9, .int .i64 t406), (17, 10, .int .i64 t407)] ∧ (w'.heap[gb389]? = some (.cells #[.int .u32 a1_0, .int .u32 a1_1] 42 (0, 0))) ∧ (Below w.heap.size w w') ∧ (b 1 = true → Kd.N k45 45 w' w.heap.size (fun k_ => k_ ≠ gb389) v398 t397) ∧ (b 9 = true → Kd.R (Kd.int .i64) 3 w' w.heap.size (fun _ => True) v401 y400) ∧ (b 10 = true → Kd.N k45 45 w' w.heap.size (fun k_ => k_ ≠ gb389) v404 t403) ∧ (b 10 = true → (m10_ : Value) = .tuple #[v404, .int .i64 t406, .int .i64 t407]) ∧ (b 11 = true → (m11_ : Value) = .tuple #[v404, .int .i64 t406, .int .i64 t407]) ∧ (b 12 = true → (m12_ : Value) = v404) ∧ (b 15 = true → (m15_ : Value) = v404)) HT_.out HW_.out (by kernel_rfl) (by kernel_rfl) ?_ ?_ ?_
                                          · exact ⟨.bool false, .bool false, .bool false, .bool false, .bool false, .bool false, .bool false, by simp only [putSel, Bool.false_eq_true, if_false], BK389.out, HB.out, fun h_ => absurd h_ (by decide), fun h_ => absurd h_ (by decide), fun h_ => absurd h_ (by decide), fun h_ => absurd h_ (by decide), fun h_ => absurd h_ (by decide), fun h_ => absurd h_ (by decide), fun h_ => absurd h_ (by decide)⟩
                                          · skip
                                            clear BK389 HB
                                            refine steps_cons ?_ ?_
                                            · rintro b a w' ⟨v398, v401, v404, m10_, m11_, m12_, m15_, ha, Q_BK389, Q_HB, Q_HO399, Q_HO402, Q_HO405, Q_X10_, Q_X11_, Q_X12_, Q_X15_⟩ hb_ hon hoff
                                              refine ⟨_, rfl, fun K hK => ?_⟩
                                              have e47 : a.tmps[47]? = some (.slice A0 l0.length c0) := by rw [ha]; exact (putSel_off rfl).trans rfl
                                              replace ha := Aside0.mk ha
                                              have BK389 := Aside0.mk Q_BK389
                                              have HB := Aside0.mk Q_HB
                                              refine goes_ Try.func10 (by kernel_rfl) rfl #[.slice A0 l0.length c0] (by rfl) rfl rfl (by first | (simp only [List.map_toArray, List.map_cons, List.map_nil, Act.eval, Array.getD_eq_getD_getElem?, Option.getD_some, e47]; done) | (simp only [List.map_toArray, List.map_cons, List.map_nil, Act.eval, Array.getD_eq_getD_getElem?, Option.getD_some, e47]; rfl)) ?_
                                              with_reducible refine (annuitykeep_CopyBills.calls kj11 _ _ l0 t397 _ ?side1 ?side2 A26.out).mono ?_
                                              (case side1 => repeat (first | exact (Kd.C_below HR0.out HB.out) | (with_reducible refine Kd.C_alloc ?_ _) | (with_reducible refine Kd.C_drewN ?_ _) | (with_reducible refine Kd.C_drew ?_)))
                                              (case side2 => exact HC0.out)
                                              rintro e w49 ⟨v398, rfl, ho0, hb⟩
                                              refine ⟨_, rfl, ?_⟩
                                              have n0_ := Aside0.mk (Kd.N_lower (Kd.N_mono (ok' := fun k_ => k_ ≠ gb389) (Kd.S_N (Kd.S_bound ho0)) (fun k_ hk_ => (Kd.freshB (g := gb389) (Up.up BK389.out) k_ hk_.2.1))) (below_size (by repeat (first | (with_reducible first | exact HB.out | apply below_alloc | apply pw_below_drewN | apply below_drew1 | refine below_set ?_ GE389.out) | exact HB.out))))
                                              have n1_ := Aside0.mk (blk_below (g := gb389) (Up.up BK389.out) hb)
                                              have n2_ := Aside0.mk (below_step (by repeat (first | (with_reducible first | exact HB.out | apply below_alloc | apply pw_below_drewN | apply below_drew1 | refine below_set ?_ GE389.out) | exact HB.out)) hb)
                                              have z_HO402 := fun (h0_ : b 9 = true) => (show Kd.R (Kd.int .i64) 3 w49 w.heap.size (fun _ => True) v401 y400 from by first | exact (Kd.R_below (by (with_reducible repeat (first | apply Kd.R_alloc | apply Kd.R_drewN | apply Kd.R_drew)); exact (Q_HO402 h0_)) hb) | exact Kd.R_mono (Kd.R_below (by (with_reducible repeat (first | apply Kd.R_alloc | apply Kd.R_drewN | apply Kd.R_drew)); exact (Q_HO402 h0_)) hb) (fun _ h_ => by first | trivial | exact h_ | exact h_.1))
                                              clear BK389
                                              clear HB
                                              have HO399 := n0_
                                              have BK389 := n1_
                                              have HB := n2_
                                              clear n0_ n1_ n2_
                                              (try clear hb)
                                              (try clear hb2)
                                              (try clear hk)
                                              (try clear hi)
                                              (try clear ho0)
                                              refine hK.out _ _ ⟨v398, v401, v404, m10_, m11_, m12_, m15_, (by rw [ha.out]; exact putSel_upk 0 hb_ rfl rfl rfl), (Up.up BK389.out), (by repeat (first | (with_reducible first | exact HB.out | apply below_alloc | apply pw_below_drewN | apply below_drew1 | refine below_set ?_ GE389.out) | exact HB.out)), fun _ => (by (with_reducible repeat (first | apply Kd.N_alloc | apply Kd.N_drewN | apply Kd.N_drew)); exact HO399.out), z_HO402, fun h0_ => absurd ((hoff 10 (by kernel_rfl)).symm.trans h0_) (by decide), fun h0_ => absurd ((hoff 10 (by kernel_rfl)).symm.trans h0_) (by decide), fun h0_ => absurd ((hoff 11 (by kernel_rfl)).symm.trans h0_) (by decide), fun h0_ => absurd ((hoff 12 (by kernel_rfl)).symm.trans h0_) (by decide), fun h0_ => absurd ((hoff 15 (by kernel_rfl)).symm.trans h0_) (by decide)⟩
                                            refine steps_cons ?_ ?_
                                            · rintro b a w' ⟨v398, v401, v404, m10_, m11_, m12_, m15_, ha, Q_BK389, Q_HB, Q_HO399, Q_HO402, Q_HO405, Q_X10_, Q_X11_, Q_X12_, Q_X15_⟩ hb_ hon hoff
                                              refine ⟨_, rfl, fun K hK => ?_⟩
                                              have e4 : a.tmps[4]? = some (.pointer (some ⟨gb389, 0, none⟩)) := by rw [ha]; exact (putSel_off rfl).trans rfl
                                              replace ha := Aside0.mk ha
                                              have BK389 := Aside0.mk Q_BK389
                                              have HB := Aside0.mk Q_HB
                                              refine value_ (w1 := w') (v := .pointer (some ⟨gb389, 0, none⟩)) (by rfl) rfl ?_ ?_
                                              · go_simp
                                                (try simp only [i64_w])
                                                try rfl
                                              refine hK.out _ _ ⟨v398, v401, v404, m10_, m11_, m12_, m15_, (by rw [ha.out]; exact putSel_upk 1 hb_ rfl rfl rfl), Q_BK389, Q_HB, Q_HO399, Q_HO402, fun h0_ => absurd ((hoff 10 (by kernel_rfl)).symm.trans h0_) (by decide), fun h0_ => absurd ((hoff 10 (by kernel_rfl)).symm.trans h0_) (by decide), fun h0_ => absurd ((hoff 11 (by kernel_rfl)).symm.trans h0_) (by decide), fun h0_ => absurd ((hoff 12 (by kernel_rfl)).symm.trans h0_) (by decide), fun h0_ => absurd ((hoff 15 (by kernel_rfl)).symm.trans h0_) (by decide)⟩
                                            refine steps_cons ?_ ?_
                                            · rintro b a w' ⟨v398, v401, v404, m10_, m11_, m12_, m15_, ha, Q_BK389, Q_HB, Q_HO399, Q_HO402, Q_HO405, Q_X10_, Q_X11_, Q_X12_, Q_X15_⟩ hb_ hon hoff
                                              refine ⟨_, rfl, fun K hK => ?_⟩
                                              have e50 : a.tmps[50]? = some (.pointer (some ⟨gb389, 0, none⟩)) := by rw [ha]; exact putSel_on (e := (3, 50, .pointer (some ⟨gb389, 0, none⟩))) 1 rfl rfl (hon 3 (by kernel_rfl)) rfl
                                              replace ha := Aside0.mk ha
                                              have BK389 := Aside0.mk Q_BK389
                                              have HB := Aside0.mk Q_HB
                                              have hc0_ : w'.cell? ⟨gb389, 0, none⟩ = some (.int .u32 a1_0) := (blk_cell BK389.out 0).trans rfl
                                              have hc1_ : w'.cell? ⟨gb389, 1, none⟩ = some (.int .u32 a1_1) := (blk_cell BK389.out 1).trans rfl
                                              refine value_ (w1 := w') (v := .int .u32 a1_0) (by rfl) rfl ?_ ?_
                                              · go_simp
                                                (try simp only [i64_w])
                                                try rfl
                                              refine hK.out _ _ ⟨v398, v401, v404, m10_, m11_, m12_, m15_, (by rw [ha.out]; exact putSel_upk 2 hb_ rfl rfl rfl), Q_BK389, Q_HB, Q_HO399, Q_HO402, fun h0_ => absurd ((hoff 10 (by kernel_rfl)).symm.trans h0_) (by decide), fun h0_ => absurd ((hoff 10 (by kernel_rfl)).symm.trans h0_) (by decide), fun h0_ => absurd ((hoff 11 (by kernel_rfl)).symm.trans h0_) (by decide), fun h0_ => absurd ((hoff 12 (by kernel_rfl)).symm.trans h0_) (by decide), fun h0_ => absurd ((hoff 15 (by kernel_rfl)).symm.trans h0_) (by decide)⟩
                                            refine steps_cons ?_ ?_
                                            · rintro b a w' ⟨v398, v401, v404, m10_, m11_, m12_, m15_, ha, Q_BK389, Q_HB, Q_HO399, Q_HO402, Q_HO405, Q_X10_, Q_X11_, Q_X12_, Q_X15_⟩ hb_ hon hoff
                                              refine ⟨_, rfl, fun K hK => ?_⟩
                                              have e51 : a.tmps[51]? = some (.int .u32 a1_0) := by rw [ha]; exact putSel_on (e := (4, 51, .int .u32 a1_0)) 2 rfl rfl (hon 4 (by kernel_rfl)) rfl
                                              replace ha := Aside0.mk ha
                                              have BK389 := Aside0.mk Q_BK389
                                              have HB := Aside0.mk Q_HB
                                              refine value_ (w1 := w') (v := .int .i64 (wrap64 (a1_0))) (by rfl) rfl ?_ ?_
                                              · go_simp
                                                (try simp only [i64_w])
                                                try rfl
                                              refine hK.out _ _ ⟨v398, v401, v404, m10_, m11_, m12_, m15_, (by rw [ha.out]; exact putSel_upk 3 hb_ rfl rfl rfl), Q_BK389, Q_HB, Q_HO399, Q_HO402, fun h0_ => absurd ((hoff 10 (by kernel_rfl)).symm.trans h0_) (by decide), fun h0_ => absurd ((hoff 10 (by kernel_rfl)).symm.trans h0_) (by decide), fun h0_ => absurd ((hoff 11 (by kernel_rfl)).symm.trans h0_) (by decide), fun h0_ => absurd ((hoff 12 (by kernel_rfl)).symm.trans h0_) (by decide), fun h0_ => absurd ((hoff 15 (by kernel_rfl)).symm.trans h0_) (by decide)⟩
                                            refine steps_cons ?_ ?_
                                            · rintro b a w' ⟨v398, v401, v404, m10_, m11_, m12_, m15_, ha, Q_BK389, Q_HB, Q_HO399, Q_HO402, Q_HO405, Q_X10_, Q_X11_, Q_X12_, Q_X15_⟩ hb_ hon hoff
                                              refine ⟨_, rfl, fun K hK => ?_⟩
                                              have e4 : a.tmps[4]? = some (.pointer (some ⟨gb389, 0, none⟩)) := by rw [ha]; exact (putSel_off rfl).trans rfl
                                              replace ha := Aside0.mk ha
                                              have BK389 := Aside0.mk Q_BK389
                                              have HB := Aside0.mk Q_HB
                                              refine value_ (w1 := w') (v := .pointer (some ⟨gb389, 1, none⟩)) (by rfl) rfl ?_ ?_
                                              · go_simp
                                                (try simp only [i64_w])
                                                try rfl
                                              refine hK.out _ _ ⟨v398, v401, v404, m10_, m11_, m12_, m15_, (by rw [ha.out]; exact putSel_upk 4 hb_ rfl rfl rfl), Q_BK389, Q_HB, Q_HO399, Q_HO402, fun h0_ => absurd ((hoff 10 (by kernel_rfl)).symm.trans h0_) (by decide), fun h0_ => absurd ((hoff 10 (by kernel_rfl)).symm.trans h0_) (by decide), fun h0_ => absurd ((hoff 11 (by kernel_rfl)).symm.trans h0_) (by decide), fun h0_ => absurd ((hoff 12 (by kernel_rfl)).symm.trans h0_) (by decide), fun h0_ => absurd ((hoff 15 (by kernel_rfl)).symm.trans h0_) (by decide)⟩
                                            refine steps_cons ?_ ?_
                                            · rintro b a w' ⟨v398, v401, v404, m10_, m11_, m12_, m15_, ha, Q_BK389, Q_HB, Q_HO399, Q_HO402, Q_HO405, Q_X10_, Q_X11_, Q_X12_, Q_X15_⟩ hb_ hon hoff
                                              refine ⟨_, rfl, fun K hK => ?_⟩
                                              have e53 : a.tmps[53]? = some (.pointer (some ⟨gb389, 1, none⟩)) := by rw [ha]; exact putSel_on (e := (6, 53, .pointer (some ⟨gb389, 1, none⟩))) 4 rfl rfl (hon 6 (by kernel_rfl)) rfl
                                              replace ha := Aside0.mk ha
                                              have BK389 := Aside0.mk Q_BK389
                                              have HB := Aside0.mk Q_HB
                                              have hc0_ : w'.cell? ⟨gb389, 0, none⟩ = some (.int .u32 a1_0) := (blk_cell BK389.out 0).trans rfl
                                              have hc1_ : w'.cell? ⟨gb389, 1, none⟩ = some (.int .u32 a1_1) := (blk_cell BK389.out 1).trans rfl
                                              refine value_ (w1 := w') (v := .int .u32 a1_1) (by rfl) rfl ?_ ?_
                                              · go_simp
                                                (try simp only [i64_w])
                                                try rfl
                                              refine hK.out _ _ ⟨v398, v401, v404, m10_, m11_, m12_, m15_, (by rw [ha.out]; exact putSel_upk 5 hb_ rfl rfl rfl), Q_BK389, Q_HB, Q_HO399, Q_HO402, fun h0_ => absurd ((hoff 10 (by kernel_rfl)).symm.trans h0_) (by decide), fun h0_ => absurd ((hoff 10 (by kernel_rfl)).symm.trans h0_) (by decide), fun h0_ => absurd ((hoff 11 (by kernel_rfl)).symm.trans h0_) (by decide), fun h0_ => absurd ((hoff 12 (by kernel_rfl)).symm.trans h0_) (by decide), fun h0_ => absurd ((hoff 15 (by kernel_rfl)).symm.trans h0_) (by decide)⟩
                                            refine steps_cons ?_ ?_
                                            · rintro b a w' ⟨v398, v401, v404, m10_, m11_, m12_, m15_, ha, Q_BK389, Q_HB, Q_HO399, Q_HO402, Q_HO405, Q_X10_, Q_X11_, Q_X12_, Q_X15_⟩ hb_ hon hoff
                                              refine ⟨_, rfl, fun K hK => ?_⟩
                                              have e54 : a.tmps[54]? = some (.int .u32 a1_1) := by rw [ha]; exact putSel_on (e := (7, 54, .int .u32 a1_1)) 5 rfl rfl (hon 7 (by kernel_rfl)) rfl
                                              replace ha := Aside0.mk ha
                                              have BK389 := Aside0.mk Q_BK389
                                              have HB := Aside0.mk Q_HB
                                              refine value_ (w1 := w') (v := .int .i64 (wrap64 (a1_1))) (by rfl) rfl ?_ ?_
                                              · go_simp
                                                (try simp only [i64_w])
                                                try rfl
                                              refine hK.out _ _ ⟨v398, v401, v404, m10_, m11_, m12_, m15_, (by rw [ha.out]; exact putSel_upk 6 hb_ rfl rfl rfl), Q_BK389, Q_HB, Q_HO399, Q_HO402, fun h0_ => absurd ((hoff 10 (by kernel_rfl)).symm.trans h0_) (by decide), fun h0_ => absurd ((hoff 10 (by kernel_rfl)).symm.trans h0_) (by decide), fun h0_ => absurd ((hoff 11 (by kernel_rfl)).symm.trans h0_) (by decide), fun h0_ => absurd ((hoff 12 (by kernel_rfl)).symm.trans h0_) (by decide), fun h0_ => absurd ((hoff 15 (by kernel_rfl)).symm.trans h0_) (by decide)⟩
                                            refine steps_cons ?_ ?_
                                            · rintro b a w' ⟨v398, v401, v404, m10_, m11_, m12_, m15_, ha, Q_BK389, Q_HB, Q_HO399, Q_HO402, Q_HO405, Q_X10_, Q_X11_, Q_X12_, Q_X15_⟩ hb_ hon hoff
                                              refine ⟨_, rfl, fun K hK => ?_⟩
                                              replace ha := Aside0.mk ha
                                              have BK389 := Aside0.mk Q_BK389
                                              have HB := Aside0.mk Q_HB
                                              refine Kd.R_lit_step (Kd.int .i64) _ 3 ?hg (N := 56) ?hd (xs := ([4, 5] : List Int)) (inner := [.int .i64 4, .int .i64 5]) (ok := fun _ => True) (okp := fun _ => True) ?hr ?hp (fun _ hk => hk) trivial (Below.refl _ _) (Nat.le_refl _) (by simp) ?_; (case hd => rfl); (case hg => rfl); (case hr => first | (go_simp; done) | (go_simp; rfl)); (case hp => exact (Reps.one (show Kd.M (Kd.int .i64) _ _ _ 4 [.int .i64 4] from rfl) (Reps.one (show Kd.M (Kd.int .i64) _ _ _ 5 [.int .i64 5] from rfl) (Reps.none _ _))))
                                              intro v401 w49 ho50 hb hg_ hnew_
                                              clear hg_ hnew_
                                              (first | rw [← Ny400.out] at ho50 | (simp only [Int.reduceToNat] at ho50; rw [← Ny400.out] at ho50))
                                              have n0_ := Aside0.mk (Kd.R_lower ho50 (below_size (by repeat (first | (with_reducible first | exact HB.out | apply below_alloc | apply pw_below_drewN | apply below_drew1 | refine below_set ?_ GE389.out) | exact HB.out))))
                                              have n1_ := Aside0.mk (blk_below (g := gb389) (Up.up BK389.out) hb)
                                              have n2_ := Aside0.mk (below_step (by repeat (first | (with_reducible first | exact HB.out | apply below_alloc | apply pw_below_drewN | apply below_drew1 | refine below_set ?_ GE389.out) | exact HB.out)) hb)
                                              have z_HO399 := fun (h0_ : b 1 = true) => (show Kd.N k45 45 w49 w.heap.size (fun k_ => k_ ≠ gb389) v398 t397 from by first | exact (Kd.N_elder' (by (with_reducible repeat (first | apply Kd.N_alloc | apply Kd.N_drewN | apply Kd.N_drew)); exact (Q_HO399 h0_)) (Kd.R_base ho50) hb) | exact Kd.N_mono (Kd.N_elder' (by (with_reducible repeat (first | apply Kd.N_alloc | apply Kd.N_drewN | apply Kd.N_drew)); exact (Q_HO399 h0_)) (Kd.R_base ho50) hb) (fun _ h_ => by first | trivial | exact h_ | exact h_.1))
                                              clear BK389
                                              clear HB
                                              have HO402 := n0_
                                              have BK389 := n1_
                                              have HB := n2_
                                              clear n0_ n1_ n2_
                                              clear hb ho50
                                              refine hK.out _ _ ⟨v398, v401, v404, m10_, m11_, m12_, m15_, (by rw [ha.out]; exact putSel_upk 7 hb_ rfl rfl rfl), (Up.up BK389.out), (by repeat (first | (with_reducible first | exact HB.out | apply below_alloc | apply pw_below_drewN | apply below_drew1 | refine below_set ?_ GE389.out) | exact HB.out)), z_HO399, fun _ => (by (with_reducible repeat (first | apply Kd.R_alloc | apply Kd.R_drewN | apply Kd.R_drew)); exact HO402.out), fun h0_ => absurd ((hoff 10 (by kernel_rfl)).symm.trans h0_) (by decide), fun h0_ => absurd ((hoff 10 (by kernel_rfl)).symm.trans h0_) (by decide), fun h0_ => absurd ((hoff 11 (by kernel_rfl)).symm.trans h0_) (by decide), fun h0_ => absurd ((hoff 12 (by kernel_rfl)).symm.trans h0_) (by decide), fun h0_ => absurd ((hoff 15 (by kernel_rfl)).symm.trans h0_) (by decide)⟩
                                            refine steps_cons ?_ ?_
                                            · rintro b a w' ⟨v398, v401, v404, m10_, m11_, m12_, m15_, ha, Q_BK389, Q_HB, Q_HO399, Q_HO402, Q_HO405, Q_X10_, Q_X11_, Q_X12_, Q_X15_⟩ hb_ hon hoff
                                              refine ⟨_, rfl, fun K hK => ?_⟩
                                              have e48 : a.tmps[48]? = some (v398) := by rw [ha]; exact putSel_on (e := (1, 48, v398)) 0 rfl rfl (hon 1 (by kernel_rfl)) rfl
                                              have e49 : a.tmps[49]? = some (.int .i64 (wrap64 (x7_11 + (wrap64 (a2))))) := by rw [ha]; exact (putSel_off rfl).trans rfl
                                              have e52 : a.tmps[52]? = some (.int .i64 (wrap64 (a1_0))) := by rw [ha]; exact putSel_on (e := (5, 52, .int .i64 (wrap64 (a1_0)))) 3 rfl rfl (hon 5 (by kernel_rfl)) rfl
                                              have e55 : a.tmps[55]? = some (.int .i64 (wrap64 (a1_1))) := by rw [ha]; exact putSel_on (e := (8, 55, .int .i64 (wrap64 (a1_1)))) 6 rfl rfl (hon 8 (by kernel_rfl)) rfl
                                              have e56 : a.tmps[56]? = some (v401) := by rw [ha]; exact putSel_on (e := (9, 56, v401)) 7 rfl rfl (hon 9 (by kernel_rfl)) rfl
                                              replace ha := Aside0.mk ha
                                              have BK389 := Aside0.mk Q_BK389
                                              have HB := Aside0.mk Q_HB
                                              have HO399 := Aside0.mk (Q_HO399 (hon 1 (by kernel_rfl)))
                                              have HO402 := Aside0.mk (Q_HO402 (hon 9 (by kernel_rfl)))
                                              obtain ⟨Ao53, co53, eo53⟩ := Kd.N_slice HO399.out
                                              (first | subst eo53 | (injection eo53 with f1_ f2_ f3_; have f4_ := f1_.symm; have f5_ := f3_.symm; clear f1_ f2_ f3_; subst f4_; subst f5_))
                                              obtain ⟨Ao54, co54, eo54⟩ := Kd.R_slice HO402.out
                                              (first | subst eo54 | (injection eo54 with f1_ f2_ f3_; have f4_ := f1_.symm; have f5_ := f3_.symm; clear f1_ f2_ f3_; subst f4_; subst f5_))
                                              refine goes_ Try.func11 (by kernel_rfl) rfl #[.slice Ao53 t397.length co53, .int .i64 (wrap64 (x7_11 + (wrap64 (a2)))), .int .i64 (wrap64 (a1_0)), .int .i64 (wrap64 (a1_1)), .int .i64 2, .slice Ao54 y400.length co54] (by rfl) rfl rfl (by first | (simp only [List.map_toArray, List.map_cons, List.map_nil, Act.eval, Array.getD_eq_getD_getElem?, Option.getD_some, e48, e49, e52, e55, e56]; done) | (simp only [List.map_toArray, List.map_cons, List.map_nil, Act.eval, Array.getD_eq_getD_getElem?, Option.getD_some, e48, e49, e52, e55, e56]; rfl)) ?_
                                              with_reducible refine (bill_Issue.calls kj11 _ _ t397 (wrap64 (x7_11 + (wrap64 (a2)))) (wrap64 (a1_0)) (wrap64 (a1_1)) 2 _ _ y400 t403 t406 t407 _ ?side1 ?side2 ?side3 ?side4 A27.out).mono ?_
                                              (case side1 => repeat (first | exact (Kd.N_reads' HO399.out).2.2 | (with_reducible refine Kd.C_alloc ?_ _) | (with_reducible refine Kd.C_drewN ?_ _) | (with_reducible refine Kd.C_drew ?_)))
                                              (case side2 => exact (Kd.N_reads' HO399.out).2.1)
                                              (case side3 => repeat (first | exact (Kd.R_reads' HO402.out).2.2 | (with_reducible refine Kd.C_alloc ?_ _) | (with_reducible refine Kd.C_drewN ?_ _) | (with_reducible refine Kd.C_drew ?_)))
                                              (case side4 => exact (Kd.R_reads' HO402.out).2.1)
                                              rintro e w55 ⟨v404, rfl, ho0, hb⟩
                                              refine ⟨_, rfl, ?_⟩
                                              have n0_ := Aside0.mk (Kd.N_elder' (by (with_reducible repeat (first | apply Kd.N_alloc | apply Kd.N_drewN | apply Kd.N_drew)); exact HO399.out) (by first | exact Kd.N_base ho0 | exact Kd.N_base (Kd.S_N ho0)) hb)
                                              have n1_ := Aside0.mk (Kd.R_below (by (with_reducible repeat (first | apply Kd.R_alloc | apply Kd.R_drewN | apply Kd.R_drew)); exact HO402.out) hb)
                                              have n2_ := Aside0.mk (Kd.N_lower (Kd.N_mono (ok' := fun k_ => some k_ ≠ (.slice Ao53 t397.length co53 : Value).ownBlock ∧ some k_ ≠ (.slice Ao54 y400.length co54 : Value).ownBlock ∧ k_ ≠ gb389) ho0 (fun k_ hk_ => ⟨(Kd.fresh' (Kd.N_lt (by (with_reducible repeat (first | apply Kd.N_alloc | apply Kd.N_drewN | apply Kd.N_drew)); exact HO399.out)) k_ hk_), (Kd.fresh' (Kd.R_lt (by (with_reducible repeat (first | apply Kd.R_alloc | apply Kd.R_drewN | apply Kd.R_drew)); exact HO402.out)) k_ hk_), (Kd.freshB (g := gb389) (Up.up BK389.out) k_ hk_)⟩)) (below_size (by repeat (first | (with_reducible first | exact HB.out | apply below_alloc | apply pw_below_drewN | apply below_drew1 | refine below_set ?_ GE389.out) | exact HB.out))))
                                              have n3_ := Aside0.mk (blk_below (g := gb389) (Up.up BK389.out) hb)
                                              have n4_ := Aside0.mk (below_step (by repeat (first | (with_reducible first | exact HB.out | apply below_alloc | apply pw_below_drewN | apply below_drew1 | refine below_set ?_ GE389.out) | exact HB.out)) hb)
                                              clear HO399
                                              clear HO402
                                              clear BK389
                                              clear HB
                                              have HO399 := n0_
                                              have HO402 := n1_
                                              have HO405 := n2_
                                              have BK389 := n3_
                                              have HB := n4_
                                              clear n0_ n1_ n2_ n3_ n4_
                                              (try clear hb)
                                              (try clear hb2)
                                              (try clear hk)
                                              (try clear hi)
                                              (try clear ho0)
                                              refine hK.out _ _ ⟨.slice Ao53 t397.length co53, .slice Ao54 y400.length co54, v404, (.tuple #[v404, .int .i64 t406, .int .i64 t407]), m11_, m12_, m15_, (by rw [ha.out]; exact putSel_upk 8 hb_ rfl rfl rfl), (Up.up BK389.out), (by repeat (first | (with_reducible first | exact HB.out | apply below_alloc | apply pw_below_drewN | apply below_drew1 | refine below_set ?_ GE389.out) | exact HB.out)), fun _ => (by (with_reducible repeat (first | apply Kd.N_alloc | apply Kd.N_drewN | apply Kd.N_drew)); exact Kd.N_mono HO399.out (fun _ hk => by (repeat' (with_reducible apply And.intro)) <;> first | exact hk | exact hk.1 | exact hk.2 | exact hk.1.1 | exact hk.1.2 | exact hk.2.1 | exact hk.2.2)), fun _ => (by (with_reducible repeat (first | apply Kd.R_alloc | apply Kd.R_drewN | apply Kd.R_drew)); exact HO402.out), fun _ => (by (with_reducible repeat (first | apply Kd.N_alloc | apply Kd.N_drewN | apply Kd.N_drew)); first | exact HO405.out | exact Kd.N_mono HO405.out (fun _ hk => by (repeat' (with_reducible apply And.intro)) <;> first | exact hk | exact hk.1 | exact hk.2 | exact hk.1.1 | exact hk.1.2 | exact hk.2.1 | exact hk.2.2)), fun _ => rfl, fun h0_ => absurd ((hoff 11 (by kernel_rfl)).symm.trans h0_) (by decide), fun h0_ => absurd ((hoff 12 (by kernel_rfl)).symm.trans h0_) (by decide), fun h0_ => absurd ((hoff 15 (by kernel_rfl)).symm.trans h0_) (by decide)⟩
                                            refine steps_cons ?_ ?_
                                            · rintro b a w' ⟨v398, v401, v404, m10_, m11_, m12_, m15_, ha, Q_BK389, Q_HB, Q_HO399, Q_HO402, Q_HO405, Q_X10_, Q_X11_, Q_X12_, Q_X15_⟩ hb_ hon hoff
                                              refine ⟨_, rfl, fun K hK => ?_⟩
                                              have e57 : a.tmps[57]? = some (m10_) := by rw [ha]; exact putSel_on (e := (10, 57, m10_)) 8 rfl rfl (hon 10 (by kernel_rfl)) rfl
                                              rw [Q_X10_ (hon 10 (by kernel_rfl))] at e57
                                              replace ha := Aside0.mk ha
                                              have BK389 := Aside0.mk Q_BK389
                                              have HB := Aside0.mk Q_HB
                                              have HO399 := Aside0.mk (Q_HO399 (hon 1 (by kernel_rfl)))
                                              have HO402 := Aside0.mk (Q_HO402 (hon 9 (by kernel_rfl)))
                                              have HO405 := Aside0.mk (Q_HO405 (hon 10 (by kernel_rfl)))
                                              refine value_ (w1 := w') (v := .tuple #[v404, .int .i64 t406, .int .i64 t407]) (by rfl) rfl ?_ ?_
                                              · go_simp
                                                (try simp only [i64_w])
                                                try rfl
                                              refine hK.out _ _ ⟨v398, v401, v404, m10_, (.tuple #[v404, .int .i64 t406, .int .i64 t407]), m12_, m15_, (by rw [ha.out]; exact putSel_upk 9 hb_ rfl rfl rfl), Q_BK389, Q_HB, Q_HO399, Q_HO402, Q_HO405, Q_X10_, fun _ => rfl, fun h0_ => absurd ((hoff 12 (by kernel_rfl)).symm.trans h0_) (by decide), fun h0_ => absurd ((hoff 15 (by kernel_rfl)).symm.trans h0_) (by decide)⟩
                                            refine steps_cons ?_ ?_
                                            · rintro b a w' ⟨v398, v401, v404, m10_, m11_, m12_, m15_, ha, Q_BK389, Q_HB, Q_HO399, Q_HO402, Q_HO405, Q_X10_, Q_X11_, Q_X12_, Q_X15_⟩ hb_ hon hoff
                                              refine ⟨_, rfl, fun K hK => ?_⟩
                                              have e46 : a.tmps[46]? = some (m11_) := by rw [ha]; exact putSel_on (e := (11, 46, m11_)) 9 rfl rfl (hon 11 (by kernel_rfl)) rfl
                                              rw [Q_X11_ (hon 11 (by kernel_rfl))] at e46
                                              replace ha := Aside0.mk ha
                                              have BK389 := Aside0.mk Q_BK389
                                              have HB := Aside0.mk Q_HB
                                              have HO399 := Aside0.mk (Q_HO399 (hon 1 (by kernel_rfl)))
                                              have HO402 := Aside0.mk (Q_HO402 (hon 9 (by kernel_rfl)))
                                              have HO405 := Aside0.mk (Q_HO405 (hon 10 (by kernel_rfl)))
                                              obtain ⟨Ao12_0, co12_0, eo_⟩ := Kd.N_slice HO405.out
                                              subst eo_
                                              refine value_ (w1 := w') (v := .slice Ao12_0 t403.length co12_0) (by rfl) rfl ?_ ?_
                                              · go_simp
                                                (try simp only [i64_w])
                                                try rfl
                                              refine hK.out _ _ ⟨v398, v401, .slice Ao12_0 t403.length co12_0, m10_, m11_, (.slice Ao12_0 t403.length co12_0), m15_, (by rw [ha.out]; exact putSel_upk 10 hb_ rfl rfl rfl), Q_BK389, Q_HB, Q_HO399, Q_HO402, Q_HO405, Q_X10_, Q_X11_, fun _ => rfl, fun h0_ => absurd ((hoff 15 (by kernel_rfl)).symm.trans h0_) (by decide)⟩
                                            refine steps_cons ?_ ?_
                                            · rintro b a w' ⟨v398, v401, v404, m10_, m11_, m12_, m15_, ha, Q_BK389, Q_HB, Q_HO399, Q_HO402, Q_HO405, Q_X10_, Q_X11_, Q_X12_, Q_X15_⟩ hb_ hon hoff
                                              refine ⟨_, rfl, fun K hK => ?_⟩
                                              have e46 : a.tmps[46]? = some (m11_) := by rw [ha]; exact putSel_on (e := (11, 46, m11_)) 9 rfl rfl (hon 11 (by kernel_rfl)) rfl
                                              rw [Q_X11_ (hon 11 (by kernel_rfl))] at e46
                                              replace ha := Aside0.mk ha
                                              have BK389 := Aside0.mk Q_BK389
                                              have HB := Aside0.mk Q_HB
                                              have HO399 := Aside0.mk (Q_HO399 (hon 1 (by kernel_rfl)))
                                              have HO402 := Aside0.mk (Q_HO402 (hon 9 (by kernel_rfl)))
                                              have HO405 := Aside0.mk (Q_HO405 (hon 10 (by kernel_rfl)))
                                              obtain ⟨Ao13_0, co13_0, eo_⟩ := Kd.N_slice HO405.out
                                              subst eo_
                                              refine value_ (w1 := w') (v := .int .i64 t406) (by rfl) rfl ?_ ?_
                                              · go_simp
                                                (try simp only [i64_w])
                                                try rfl
                                              refine hK.out _ _ ⟨v398, v401, .slice Ao13_0 t403.length co13_0, m10_, m11_, m12_, m15_, (by rw [ha.out]; exact putSel_upk 11 hb_ rfl rfl rfl), Q_BK389, Q_HB, Q_HO399, Q_HO402, Q_HO405, Q_X10_, Q_X11_, Q_X12_, Q_X15_⟩
                                            refine steps_cons ?_ ?_
                                            · rintro b a w' ⟨v398, v401, v404, m10_, m11_, m12_, m15_, ha, Q_BK389, Q_HB, Q_HO399, Q_HO402, Q_HO405, Q_X10_, Q_X11_, Q_X12_, Q_X15_⟩ hb_ hon hoff
                                              refine ⟨_, rfl, fun K hK => ?_⟩
                                              have e46 : a.tmps[46]? = some (m11_) := by rw [ha]; exact putSel_on (e := (11, 46, m11_)) 9 rfl rfl (hon 11 (by kernel_rfl)) rfl
                                              rw [Q_X11_ (hon 11 (by kernel_rfl))] at e46
                                              replace ha := Aside0.mk ha
                                              have BK389 := Aside0.mk Q_BK389
                                              have HB := Aside0.mk Q_HB
                                              have HO399 := Aside0.mk (Q_HO399 (hon 1 (by kernel_rfl)))
                                              have HO402 := Aside0.mk (Q_HO402 (hon 9 (by kernel_rfl)))
                                              have HO405 := Aside0.mk (Q_HO405 (hon 10 (by kernel_rfl)))
                                              obtain ⟨Ao14_0, co14_0, eo_⟩ := Kd.N_slice HO405.out
                                              subst eo_
                                              refine value_ (w1 := w') (v := .int .i64 t407) (by rfl) rfl ?_ ?_
                                              · go_simp
                                                (try simp only [i64_w])
                                                try rfl
                                              refine hK.out _ _ ⟨v398, v401, .slice Ao14_0 t403.length co14_0, m10_, m11_, m12_, m15_, (by rw [ha.out]; exact putSel_upk 12 hb_ rfl rfl rfl), Q_BK389, Q_HB, Q_HO399, Q_HO402, Q_HO405, Q_X10_, Q_X11_, Q_X12_, Q_X15_⟩
                                            refine steps_cons ?_ ?_
                                            · rintro b a w' ⟨v398, v401, v404, m10_, m11_, m12_, m15_, ha, Q_BK389, Q_HB, Q_HO399, Q_HO402, Q_HO405, Q_X10_, Q_X11_, Q_X12_, Q_X15_⟩ hb_ hon hoff
                                              refine ⟨_, rfl, fun K hK => ?_⟩
                                              have e58 : a.tmps[58]? = some (m12_) := by rw [ha]; exact putSel_on (e := (12, 58, m12_)) 10 rfl rfl (hon 12 (by kernel_rfl)) rfl
                                              rw [Q_X12_ (hon 12 (by kernel_rfl))] at e58
                                              replace ha := Aside0.mk ha
                                              have BK389 := Aside0.mk Q_BK389
                                              have HB := Aside0.mk Q_HB
                                              have HO399 := Aside0.mk (Q_HO399 (hon 1 (by kernel_rfl)))
                                              have HO402 := Aside0.mk (Q_HO402 (hon 9 (by kernel_rfl)))
                                              have HO405 := Aside0.mk (Q_HO405 (hon 10 (by kernel_rfl)))
                                              refine value_ (w1 := w') (v := v404) (by rfl) rfl ?_ ?_
                                              · go_simp
                                                (try simp only [i64_w])
                                                try rfl
                                              refine hK.out _ _ ⟨v398, v401, v404, m10_, m11_, m12_, (v404), (by rw [ha.out]; exact putSel_upk 13 hb_ rfl rfl rfl), Q_BK389, Q_HB, Q_HO399, Q_HO402, Q_HO405, Q_X10_, Q_X11_, Q_X12_, fun _ => rfl⟩
                                            refine steps_cons ?_ ?_
                                            · rintro b a w' ⟨v398, v401, v404, m10_, m11_, m12_, m15_, ha, Q_BK389, Q_HB, Q_HO399, Q_HO402, Q_HO405, Q_X10_, Q_X11_, Q_X12_, Q_X15_⟩ hb_ hon hoff
                                              refine ⟨_, rfl, fun K hK => ?_⟩
                                              have e59 : a.tmps[59]? = some (.int .i64 t406) := by rw [ha]; exact putSel_on (e := (13, 59, .int .i64 t406)) 11 rfl rfl (hon 13 (by kernel_rfl)) rfl
                                              replace ha := Aside0.mk ha
                                              have BK389 := Aside0.mk Q_BK389
                                              have HB := Aside0.mk Q_HB
                                              have HO399 := Aside0.mk (Q_HO399 (hon 1 (by kernel_rfl)))
                                              have HO402 := Aside0.mk (Q_HO402 (hon 9 (by kernel_rfl)))
                                              have HO405 := Aside0.mk (Q_HO405 (hon 10 (by kernel_rfl)))
                                              refine value_ (w1 := w') (v := .int .i64 t406) (by rfl) rfl ?_ ?_
                                              · go_simp
                                                (try simp only [i64_w])
                                                try rfl
                                              refine hK.out _ _ ⟨v398, v401, v404, m10_, m11_, m12_, m15_, (by rw [ha.out]; exact putSel_upk 14 hb_ rfl rfl rfl), Q_BK389, Q_HB, Q_HO399, Q_HO402, Q_HO405, Q_X10_, Q_X11_, Q_X12_, Q_X15_⟩
                                            refine steps_cons ?_ ?_
                                            · rintro b a w' ⟨v398, v401, v404, m10_, m11_, m12_, m15_, ha, Q_BK389, Q_HB, Q_HO399, Q_HO402, Q_HO405, Q_X10_, Q_X11_, Q_X12_, Q_X15_⟩ hb_ hon hoff
                                              refine ⟨_, rfl, fun K hK => ?_⟩
                                              have e60 : a.tmps[60]? = some (.int .i64 t407) := by rw [ha]; exact putSel_on (e := (14, 60, .int .i64 t407)) 12 rfl rfl (hon 14 (by kernel_rfl)) rfl
                                              replace ha := Aside0.mk ha
                                              have BK389 := Aside0.mk Q_BK389
                                              have HB := Aside0.mk Q_HB
                                              have HO399 := Aside0.mk (Q_HO399 (hon 1 (by kernel_rfl)))
                                              have HO402 := Aside0.mk (Q_HO402 (hon 9 (by kernel_rfl)))
                                              have HO405 := Aside0.mk (Q_HO405 (hon 10 (by kernel_rfl)))
                                              refine value_ (w1 := w') (v := .int .i64 t407) (by rfl) rfl ?_ ?_
                                              · go_simp
                                                (try simp only [i64_w])
                                                try rfl
                                              refine hK.out _ _ ⟨v398, v401, v404, m10_, m11_, m12_, m15_, (by rw [ha.out]; exact putSel_upk 15 hb_ rfl rfl rfl), Q_BK389, Q_HB, Q_HO399, Q_HO402, Q_HO405, Q_X10_, Q_X11_, Q_X12_, Q_X15_⟩
                                            exact steps_nil
                                          rintro b a w55 hall ⟨v398, v401, v404, m10_, m11_, m12_, m15_, ha, Q_BK389, Q_HB, Q_HO399, Q_HO402, Q_HO405, Q_X10_, Q_X11_, Q_X12_, Q_X15_⟩
                                          clear BK389 HB
                                          have hb1_ := hall 1 (by kernel_rfl)
                                          have hb3_ := hall 3 (by kernel_rfl)
                                          have hb4_ := hall 4 (by kernel_rfl)
                                          have hb5_ := hall 5 (by kernel_rfl)
                                          have hb6_ := hall 6 (by kernel_rfl)
                                          have hb7_ := hall 7 (by kernel_rfl)
                                          have hb8_ := hall 8 (by kernel_rfl)
                                          have hb9_ := hall 9 (by kernel_rfl)
                                          have hb10_ := hall 10 (by kernel_rfl)
                                          have hb11_ := hall 11 (by kernel_rfl)
                                          have hb12_ := hall 12 (by kernel_rfl)
                                          have hb13_ := hall 13 (by kernel_rfl)
                                          have hb14_ := hall 14 (by kernel_rfl)
                                          have hb15_ := hall 15 (by kernel_rfl)
                                          have hb16_ := hall 16 (by kernel_rfl)
                                          have hb17_ := hall 17 (by kernel_rfl)
                                          subst ha
                                          obtain rfl := Q_X10_ hb10_
                                          obtain rfl := Q_X11_ hb11_
                                          obtain rfl := Q_X12_ hb12_
                                          obtain rfl := Q_X15_ hb15_
                                          simp only [putSel, hb1_, hb3_, hb4_, hb5_, hb6_, hb7_, hb8_, hb9_, hb10_, hb11_, hb12_, hb13_, hb14_, hb15_, hb16_, hb17_, if_true, Act.put, List.setIfInBounds_toArray, List.set_cons_zero, List.set_cons_succ]
                                          have BK389 := Aside0.mk Q_BK389
                                          clear Q_BK389
                                          have HB := Aside0.mk Q_HB
                                          clear Q_HB
                                          have HO399 := Aside0.mk (Q_HO399 hb1_)
                                          clear Q_HO399
                                          have HO402 := Aside0.mk (Q_HO402 hb9_)
                                          clear Q_HO402
                                          have HO405 := Aside0.mk (Q_HO405 hb10_)
                                          clear Q_HO405
                                          clear hall hb1_ hb3_ hb4_ hb5_ hb6_ hb7_ hb8_ hb9_ hb10_ hb11_ hb12_ hb13_ hb14_ hb15_ hb16_ hb17_
                                          obtain ⟨Ao56, co56, eo56⟩ := Kd.N_slice HO405.out
                                          subst eo56
                                          have q57 : ((l0.length : Int) : Int) ≤ ((t403.length : Int) : Int) := of_decide_eq_true (by first | (with_reducible assumption) | assumption)
                                          obtain ⟨i057, hi057, _, hsz57, _⟩ := info_parts info45
                                          have hroom57 : t403.length ≤ co56 := (Kd.N_reads' HO405.out).2.1
                                          have hC57 : Kd.F k45 _ _ Ao56 t403.length t403 := (Kd.V_at (base := w.heap.size) (Kd.N_V HO405.out)).2.2
                                          have hcut57 := cut_to (P := Try.prog) 22 45 .i64 Try.underlying22 hi057 Ao56 t403.length co56 (l0.length : Int) (of_decide_eq_true (by first | (with_reducible assumption) | assumption)) q57 hroom57
                                          have hr57 := Kd.F_take (m := ((l0.length : Int) : Int).toNat) hC57 (by omega)
                                          have hy57 : y408.length = ((l0.length : Int) : Int).toNat := (by rw [Ny408.out, List.length_take]; omega)
                                          rw [← Ny408.out] at hr57
                                          rw [← hy57] at hcut57
                                          have HO412 := Aside0.mk (show Kd.V k45 45 _ w.heap.size _ (.slice Ao56 y408.length co56) y408 from Kd.V_mk (by omega) hr57)
                                          have HC412 := Aside0.mk (show y408.length ≤ co56 from by omega)
                                          clear hr57 hC57 hroom57 hi057 hsz57
                                          have KY57 := Aside0.mk hy57
                                          clear hy57
                                          replace q57 := eq_true q57
                                          try go_wp2_with (first | (go_at_call 13; (with_reducible refine (annuitykeep_Bills.calls kj11 _ _ y408 _ _ l0 true _ ?side1 ?side2 ?side3 ?side4 A32.out).mono ?_); (case side1 => repeat (first | exact (Kd.V_reads' HO412.out).2.2 | (with_reducible refine Kd.C_alloc ?_ _) | (with_reducible refine Kd.C_drewN ?_ _) | (with_reducible refine Kd.C_drew ?_))); (case side2 => exact (Kd.V_reads' HO412.out).2.1); (case side3 => repeat (first | exact (Kd.C_below HR0.out HB.out) | (with_reducible refine Kd.C_alloc ?_ _) | (with_reducible refine Kd.C_drewN ?_ _) | (with_reducible refine Kd.C_drew ?_))); (case side4 => exact HC0.out); rintro e w58 ⟨rfl, hb⟩; have n0_ := Aside0.mk (Kd.N_below (by (with_reducible repeat (first | apply Kd.N_alloc | apply Kd.N_drewN | apply Kd.N_drew)); exact HO399.out) hb); have n1_ := Aside0.mk (Kd.R_below (by (with_reducible repeat (first | apply Kd.R_alloc | apply Kd.R_drewN | apply Kd.R_drew)); exact HO402.out) hb); have n2_ := Aside0.mk (Kd.N_below (by (with_reducible repeat (first | apply Kd.N_alloc | apply Kd.N_drewN | apply Kd.N_drew)); exact HO405.out) hb); have n3_ := Aside0.mk (Kd.V_below (by (with_reducible repeat (first | apply Kd.V_alloc | apply Kd.V_drewN | apply Kd.V_drew)); exact HO412.out) hb); have n4_ := Aside0.mk (blk_below (g := gb389) (Up.up BK389.out) hb); have n5_ := Aside0.mk (below_step (by repeat (first | (with_reducible first | exact HB.out | apply below_alloc | apply pw_below_drewN | apply below_drew1 | refine below_set ?_ GE389.out) | exact HB.out)) hb); clear HO399; clear HO402; clear HO405; clear HO412; clear BK389; clear HB; have HO399 := n0_; have HO402 := n1_; have HO405 := n2_; have HO412 := n3_; have BK389 := n4_; have HB := n5_; clear n0_ n1_ n2_ n3_ n4_ n5_; (try clear hb); (try clear hb2); (try clear hk); (try clear hi); have p414 : 0 ≤ ((l0.length : Int) : Int) := of_decide_eq_true (by first | (with_reducible assumption) | assumption); have q414 : (l0.length : Int) < (t403.length : Int) := of_decide_eq_true (by first | (with_reducible assumption) | assumption); obtain ⟨ad414, A414_5, c414_5, e414, hx414_0, hx414_1, hx414_2, hx414_3, hx414_4, hx414_5, hl414_5, hi414_5⟩ := at_T45 (Kd.N_reads' HO405.out).2.2 (l0.length : Int) p414 q414; cases e414; obtain ⟨ce414, hce414, hMe414, hcc414⟩ := Kd.N_get HO405.out z45 (l0.length : Int) p414 (by first | exact q414 | exact of_decide_eq_true (by first | (with_reducible assumption) | assumption) | (have e_ := (Kd.N_reads' HO405.out).1; omega)); obtain ⟨ua414_5, uc414_5, rfl, ul414_5, ge414_5⟩ := k45_openF hMe414; have hv414_5 := hcc414 5 _ rfl; rw [add_field _ _ 5 (by omega)] at hv414_5; replace hv414_5 := Option.some.inj (hv414_5.symm.trans hx414_5); injection hv414_5 with hva_ hvn_ hvc_; rw [hva_] at ge414_5; rw [hvc_] at ul414_5; have HL414_5 := Aside0.mk (show Kd.V (Kd.int .i64) 3 _ w.heap.size _ _ ((rd_T45 t403 (l0.length : Int)).f5) from Kd.V_mk ul414_5 ge414_5); clear hva_ hvn_ hvc_ ge414_5 ul414_5; clear hcc414 hce414; have HR414_5 := Aside0.mk hi414_5; have HC414_5 := Aside0.mk hl414_5; clear hi414_5 hl414_5; (try simp only [Go.IntWalk.toNatUp] at hx414_0); (try simp only [Go.IntWalk.toNatUp] at hx414_1); (try simp only [Go.IntWalk.toNatUp] at hx414_2); (try simp only [Go.IntWalk.toNatUp] at hx414_3); (try simp only [Go.IntWalk.toNatUp] at hx414_4); (try simp only [Go.IntWalk.toNatUp] at hx414_5); replace p414 := eq_true p414; replace q414 := eq_true q414) | ((with_reducible refine gate_dst (N := 11) rfl ?_); (try (refine gate_guard (by rfl) ?_; dsimp only)); refine box_event ?hg (N := 11) ?hd (cs := #[.int .i64 0, .int .i64 0, .int .i64 0, .int .i64 0, .int .i64 0, .slice none 0 0]) (t := 45) ?hr ?_; (case hd => rfl); (case hg => rfl); (case hr => first | (go_simp; done) | (go_simp; rfl)); intro gb415 hg w59 hbox hb; have n0_ := Aside0.mk (Kd.N_below (Kd.N_elderB (by (with_reducible repeat (first | apply Kd.N_alloc | apply Kd.N_drewN | apply Kd.N_drew)); exact HO399.out) gb415 (Nat.le_of_eq hg.symm)) hb); have n1_ := Aside0.mk (Kd.R_below (by (with_reducible repeat (first | apply Kd.R_alloc | apply Kd.R_drewN | apply Kd.R_drew)); exact HO402.out) hb); have n2_ := Aside0.mk (Kd.N_below (Kd.N_elderB (by (with_reducible repeat (first | apply Kd.N_alloc | apply Kd.N_drewN | apply Kd.N_drew)); exact HO405.out) gb415 (Nat.le_of_eq hg.symm)) hb); have n3_ := Aside0.mk (Kd.V_below (Kd.V_elderB (by (with_reducible repeat (first | apply Kd.V_alloc | apply Kd.V_drewN | apply Kd.V_drew)); exact HO412.out) gb415 (Nat.le_of_eq hg.symm)) hb); have n4_ := Aside0.mk (Kd.V_below (Kd.V_elderB (by (with_reducible repeat (first | apply Kd.V_alloc | apply Kd.V_drewN | apply Kd.V_drew)); exact HL414_5.out) gb415 (Nat.le_of_eq hg.symm)) hb); have n5_ := Aside0.mk (blk_below (g := gb389) (Up.up BK389.out) hb); have n6_ := Aside0.mk (Kd.C_below (by repeat (first | (with_reducible exact HR414_5.out) | (with_reducible refine Kd.C_alloc ?_ _) | (with_reducible refine Kd.C_drewN ?_ _) | (with_reducible refine Kd.C_drew ?_) | exact HR414_5.out)) hb); have n7_ := Aside0.mk (below_step (by repeat (first | (with_reducible first | exact HB.out | apply below_alloc | apply pw_below_drewN | apply below_drew1 | refine below_set ?_ GE389.out) | exact HB.out)) hb); have n8_ := Aside0.mk (hbox); have n9_ := Aside0.mk ((by rw [hg]; exact (below_size (by repeat (first | (with_reducible first | exact HB.out | apply below_alloc | apply pw_below_drewN | apply below_drew1 | refine below_set ?_ GE389.out) | exact HB.out))) : w.heap.size ≤ gb415)); have n10_ := Aside0.mk ((by rw [hg]; exact (below_size (by repeat (first | (with_reducible first | exact HB.out | apply below_alloc | apply pw_below_drewN | apply below_drew1 | refine below_set ?_ GE389.out) | exact HB.out))) : w.heap.size ≤ gb415)); have n11_ := Aside0.mk ((by rw [hg]; exact Nat.ne_of_lt (blk_lt (g := gb389) (Up.up BK389.out)) : gb389 ≠ gb415)); have n12_ := Aside0.mk ((by rw [hg]; exact Nat.ne_of_gt (blk_lt (g := gb389) (Up.up BK389.out)) : gb415 ≠ gb389)); clear HO399; clear HO402; clear HO405; clear HO412; clear HL414_5; clear BK389; clear HR414_5; clear HB; have HO399 := n0_; have HO402 := n1_; have HO405 := n2_; have HO412 := n3_; have HL414_5 := n4_; have BK389 := n5_; have HR414_5 := n6_; have HB := n7_; have BK415 := n8_; have GW415 := n9_; have GE415 := n10_; have NB389_415 := n11_; have NB415_389 := n12_; clear n0_ n1_ n2_ n3_ n4_ n5_ n6_ n7_ n8_ n9_ n10_ n11_ n12_; clear hb hbox hg; have hnb60 := NB415_389.out; have hnc60 := NB389_415.out; have hcz61_0 : w59.cell? ⟨gb415, 0, none⟩ = some (.int .i64 0) := (blk_cell BK415.out 0).trans rfl; have hcz61_1 : w59.cell? ⟨gb415, 1, none⟩ = some (.int .i64 0) := (blk_cell BK415.out 1).trans rfl; have hcz61_2 : w59.cell? ⟨gb415, 2, none⟩ = some (.int .i64 0) := (blk_cell BK415.out 2).trans rfl; have hcz61_3 : w59.cell? ⟨gb415, 3, none⟩ = some (.int .i64 0) := (blk_cell BK415.out 3).trans rfl; have hcz61_4 : w59.cell? ⟨gb415, 4, none⟩ = some (.int .i64 0) := (blk_cell BK415.out 4).trans rfl; have hcz61_5 : w59.cell? ⟨gb415, 5, none⟩ = some (.slice none 0 0) := (blk_cell BK415.out 5).trans rfl; have hfz61_0 := blk_frozen BK415.out 0; have hfz61_1 := blk_frozen BK415.out 1; have hfz61_2 := blk_frozen BK415.out 2; have hfz61_3 := blk_frozen BK415.out 3; have hfz61_4 := blk_frozen BK415.out 4; have hfz61_5 := blk_frozen BK415.out 5; have hcz62_0 : w59.cell? ⟨gb389, 0, none⟩ = some (.int .u32 a1_0) := (blk_cell BK389.out 0).trans rfl; have hcz62_1 : w59.cell? ⟨gb389, 1, none⟩ = some (.int .u32 a1_1) := (blk_cell BK389.out 1).trans rfl; have hfz62_0 := blk_frozen BK389.out 0; have hfz62_1 := blk_frozen BK389.out 1) | ((with_reducible refine gate_dst (N := 123) rfl ?_); (try (refine gate_guard (by rfl) ?_; dsimp only)); refine Kd.R_lit (Kd.int .i64) _ 3 ?hg (N := 123) ?hd (xs := ([4, 5] : List Int)) (inner := [.int .i64 4, .int .i64 5]) (ok := fun _ => True) (okp := fun _ => True) ?hr ?hp (fun _ hk => hk) trivial (Below.refl _ _) (Nat.le_refl _) (by simp) ?_; (case hd => rfl); (case hg => rfl); (case hr => first | (go_simp; done) | (go_simp; rfl)); (case hp => exact (Reps.one (show Kd.M (Kd.int .i64) _ _ _ 4 [.int .i64 4] from rfl) (Reps.one (show Kd.M (Kd.int .i64) _ _ _ 5 [.int .i64 5] from rfl) (Reps.none _ _)))); intro v417 w63 ho64 hb hg_ hnew_; clear hg_ hnew_; (first | rw [← Ny416.out] at ho64 | (simp only [Int.reduceToNat] at ho64; rw [← Ny416.out] at ho64)); have n0_ := Aside0.mk (Kd.N_elder' (by (with_reducible repeat (first | apply Kd.N_alloc | apply Kd.N_drewN | apply Kd.N_drew)); exact (Kd.N_mono (Kd.N_far (p := ⟨gb415, 5, none⟩) (Kd.N_far (p := ⟨gb415, 4, none⟩) (Kd.N_far (p := ⟨gb415, 3, none⟩) (Kd.N_far (p := ⟨gb415, 2, none⟩) (Kd.N_far (p := ⟨gb415, 1, none⟩) (Kd.N_far (p := ⟨gb415, 0, none⟩) (Kd.N_mono HO399.out (fun k_ hk => (⟨hk, hk.2⟩ : _ ∧ k_ ≠ gb415))) (fun _ hk => hk.2) (.int .i64 ((rd_T45 t403 (l0.length : Int)).f0))) (fun _ hk => hk.2) (.int .i64 ((rd_T45 t403 (l0.length : Int)).f1))) (fun _ hk => hk.2) (.int .i64 ((rd_T45 t403 (l0.length : Int)).f2))) (fun _ hk => hk.2) (.int .i64 ((rd_T45 t403 (l0.length : Int)).f3))) (fun _ hk => hk.2) (.int .i64 ((rd_T45 t403 (l0.length : Int)).f4))) (fun _ hk => hk.2) (.slice A414_5 ((rd_T45 t403 (l0.length : Int)).f5).length c414_5)) (fun _ h_ => h_.1))) (Kd.R_base ho64) hb); have n1_ := Aside0.mk (Kd.R_elder' (by (with_reducible repeat (first | apply Kd.R_alloc | apply Kd.R_drewN | apply Kd.R_drew)); exact (Kd.R_mono (Kd.R_far (p := ⟨gb415, 5, none⟩) (Kd.R_far (p := ⟨gb415, 4, none⟩) (Kd.R_far (p := ⟨gb415, 3, none⟩) (Kd.R_far (p := ⟨gb415, 2, none⟩) (Kd.R_far (p := ⟨gb415, 1, none⟩) (Kd.R_far (p := ⟨gb415, 0, none⟩) (Kd.R_types HO402.out BK415.out (by decide)) (fun _ hk => hk.2) (.int .i64 ((rd_T45 t403 (l0.length : Int)).f0))) (fun _ hk => hk.2) (.int .i64 ((rd_T45 t403 (l0.length : Int)).f1))) (fun _ hk => hk.2) (.int .i64 ((rd_T45 t403 (l0.length : Int)).f2))) (fun _ hk => hk.2) (.int .i64 ((rd_T45 t403 (l0.length : Int)).f3))) (fun _ hk => hk.2) (.int .i64 ((rd_T45 t403 (l0.length : Int)).f4))) (fun _ hk => hk.2) (.slice A414_5 ((rd_T45 t403 (l0.length : Int)).f5).length c414_5)) (fun _ h_ => h_.1))) (Kd.R_base ho64) hb); have n2_ := Aside0.mk (Kd.N_elder' (by (with_reducible repeat (first | apply Kd.N_alloc | apply Kd.N_drewN | apply Kd.N_drew)); exact (Kd.N_mono (Kd.N_far (p := ⟨gb415, 5, none⟩) (Kd.N_far (p := ⟨gb415, 4, none⟩) (Kd.N_far (p := ⟨gb415, 3, none⟩) (Kd.N_far (p := ⟨gb415, 2, none⟩) (Kd.N_far (p := ⟨gb415, 1, none⟩) (Kd.N_far (p := ⟨gb415, 0, none⟩) (Kd.N_mono HO405.out (fun k_ hk => (⟨hk, hk.2⟩ : _ ∧ k_ ≠ gb415))) (fun _ hk => hk.2) (.int .i64 ((rd_T45 t403 (l0.length : Int)).f0))) (fun _ hk => hk.2) (.int .i64 ((rd_T45 t403 (l0.length : Int)).f1))) (fun _ hk => hk.2) (.int .i64 ((rd_T45 t403 (l0.length : Int)).f2))) (fun _ hk => hk.2) (.int .i64 ((rd_T45 t403 (l0.length : Int)).f3))) (fun _ hk => hk.2) (.int .i64 ((rd_T45 t403 (l0.length : Int)).f4))) (fun _ hk => hk.2) (.slice A414_5 ((rd_T45 t403 (l0.length : Int)).f5).length c414_5)) (fun _ h_ => h_.1))) (Kd.R_base ho64) hb); have n3_ := Aside0.mk (Kd.V_elder' (by (with_reducible repeat (first | apply Kd.V_alloc | apply Kd.V_drewN | apply Kd.V_drew)); exact (Kd.V_mono (Kd.V_far (p := ⟨gb415, 5, none⟩) (Kd.V_far (p := ⟨gb415, 4, none⟩) (Kd.V_far (p := ⟨gb415, 3, none⟩) (Kd.V_far (p := ⟨gb415, 2, none⟩) (Kd.V_far (p := ⟨gb415, 1, none⟩) (Kd.V_far (p := ⟨gb415, 0, none⟩) (Kd.V_mono HO412.out (fun k_ hk => (⟨hk, hk.2⟩ : _ ∧ k_ ≠ gb415))) (fun _ hk => hk.2) (.int .i64 ((rd_T45 t403 (l0.length : Int)).f0))) (fun _ hk => hk.2) (.int .i64 ((rd_T45 t403 (l0.length : Int)).f1))) (fun _ hk => hk.2) (.int .i64 ((rd_T45 t403 (l0.length : Int)).f2))) (fun _ hk => hk.2) (.int .i64 ((rd_T45 t403 (l0.length : Int)).f3))) (fun _ hk => hk.2) (.int .i64 ((rd_T45 t403 (l0.length : Int)).f4))) (fun _ hk => hk.2) (.slice A414_5 ((rd_T45 t403 (l0.length : Int)).f5).length c414_5)) (fun _ h_ => h_.1))) (Kd.R_base ho64) hb); have n4_ := Aside0.mk (Kd.V_elder' (by (with_reducible repeat (first | apply Kd.V_alloc | apply Kd.V_drewN | apply Kd.V_drew)); exact (Kd.V_mono (Kd.V_far (p := ⟨gb415, 5, none⟩) (Kd.V_far (p := ⟨gb415, 4, none⟩) (Kd.V_far (p := ⟨gb415, 3, none⟩) (Kd.V_far (p := ⟨gb415, 2, none⟩) (Kd.V_far (p := ⟨gb415, 1, none⟩) (Kd.V_far (p := ⟨gb415, 0, none⟩) (Kd.V_mono HL414_5.out (fun k_ hk => (⟨hk, hk.2⟩ : _ ∧ k_ ≠ gb415))) (fun _ hk => hk.2) (.int .i64 ((rd_T45 t403 (l0.length : Int)).f0))) (fun _ hk => hk.2) (.int .i64 ((rd_T45 t403 (l0.length : Int)).f1))) (fun _ hk => hk.2) (.int .i64 ((rd_T45 t403 (l0.length : Int)).f2))) (fun _ hk => hk.2) (.int .i64 ((rd_T45 t403 (l0.length : Int)).f3))) (fun _ hk => hk.2) (.int .i64 ((rd_T45 t403 (l0.length : Int)).f4))) (fun _ hk => hk.2) (.slice A414_5 ((rd_T45 t403 (l0.length : Int)).f5).length c414_5)) (fun _ h_ => h_.1))) (Kd.R_base ho64) hb); have n5_ := Aside0.mk (Kd.R_lower (Kd.R_new' ho64 (Kd.R_lt (by (with_reducible repeat (first | apply Kd.R_alloc | apply Kd.R_drewN | apply Kd.R_drew)); exact (Kd.R_mono (Kd.R_far (p := ⟨gb415, 5, none⟩) (Kd.R_far (p := ⟨gb415, 4, none⟩) (Kd.R_far (p := ⟨gb415, 3, none⟩) (Kd.R_far (p := ⟨gb415, 2, none⟩) (Kd.R_far (p := ⟨gb415, 1, none⟩) (Kd.R_far (p := ⟨gb415, 0, none⟩) (Kd.R_types HO402.out BK415.out (by decide)) (fun _ hk => hk.2) (.int .i64 ((rd_T45 t403 (l0.length : Int)).f0))) (fun _ hk => hk.2) (.int .i64 ((rd_T45 t403 (l0.length : Int)).f1))) (fun _ hk => hk.2) (.int .i64 ((rd_T45 t403 (l0.length : Int)).f2))) (fun _ hk => hk.2) (.int .i64 ((rd_T45 t403 (l0.length : Int)).f3))) (fun _ hk => hk.2) (.int .i64 ((rd_T45 t403 (l0.length : Int)).f4))) (fun _ hk => hk.2) (.slice A414_5 ((rd_T45 t403 (l0.length : Int)).f5).length c414_5)) (fun _ h_ => h_.1))))) (below_size (by repeat (first | (with_reducible first | exact HB.out | apply below_alloc | apply pw_below_drewN | apply below_drew1 | refine below_set ?_ GE389.out | refine below_set ?_ GE415.out) | exact HB.out)))); have n6_ := Aside0.mk (blk_below (g := gb389) (o := .cells #[.int .u32 a1_0, .int .u32 a1_1] 42 (0, 0)) (by (iterate 6 ((with_reducible repeat (first | refine blk_drewN ?_ _ | refine blk_drew ?_ | refine blk_alloc ?_ _)); refine blk_far ?_ NB389_415.out _)); (with_reducible repeat (first | refine blk_drewN ?_ _ | refine blk_drew ?_ | refine blk_alloc ?_ _)); exact BK389.out) hb); have n7_ := Aside0.mk (Kd.C_below ((Kd.V_reads' (by (with_reducible repeat (first | apply Kd.V_alloc | apply Kd.V_drewN | apply Kd.V_drew)); exact (Kd.V_mono (Kd.V_far (p := ⟨gb415, 5, none⟩) (Kd.V_far (p := ⟨gb415, 4, none⟩) (Kd.V_far (p := ⟨gb415, 3, none⟩) (Kd.V_far (p := ⟨gb415, 2, none⟩) (Kd.V_far (p := ⟨gb415, 1, none⟩) (Kd.V_far (p := ⟨gb415, 0, none⟩) (Kd.V_mono HL414_5.out (fun k_ hk => (⟨hk, hk.2⟩ : _ ∧ k_ ≠ gb415))) (fun _ hk => hk.2) (.int .i64 ((rd_T45 t403 (l0.length : Int)).f0))) (fun _ hk => hk.2) (.int .i64 ((rd_T45 t403 (l0.length : Int)).f1))) (fun _ hk => hk.2) (.int .i64 ((rd_T45 t403 (l0.length : Int)).f2))) (fun _ hk => hk.2) (.int .i64 ((rd_T45 t403 (l0.length : Int)).f3))) (fun _ hk => hk.2) (.int .i64 ((rd_T45 t403 (l0.length : Int)).f4))) (fun _ hk => hk.2) (.slice A414_5 ((rd_T45 t403 (l0.length : Int)).f5).length c414_5)) (fun _ h_ => h_.1)))).2.2) hb); have n8_ := Aside0.mk (blk_below (g := gb415) (o := .cells #[.int .i64 ((rd_T45 t403 (l0.length : Int)).f0), .int .i64 ((rd_T45 t403 (l0.length : Int)).f1), .int .i64 ((rd_T45 t403 (l0.length : Int)).f2), .int .i64 ((rd_T45 t403 (l0.length : Int)).f3), .int .i64 ((rd_T45 t403 (l0.length : Int)).f4), .slice A414_5 ((rd_T45 t403 (l0.length : Int)).f5).length c414_5] 45 (0, 0)) (by (with_reducible repeat (first | refine blk_drewN ?_ _ | refine blk_drew ?_ | refine blk_alloc ?_ _)); refine blk_put (cs := #[.int .i64 ((rd_T45 t403 (l0.length : Int)).f0), .int .i64 ((rd_T45 t403 (l0.length : Int)).f1), .int .i64 ((rd_T45 t403 (l0.length : Int)).f2), .int .i64 ((rd_T45 t403 (l0.length : Int)).f3), .int .i64 ((rd_T45 t403 (l0.length : Int)).f4), .slice none 0 0]) ?_ 5 _ rfl; (with_reducible repeat (first | refine blk_drewN ?_ _ | refine blk_drew ?_ | refine blk_alloc ?_ _)); refine blk_put (cs := #[.int .i64 ((rd_T45 t403 (l0.length : Int)).f0), .int .i64 ((rd_T45 t403 (l0.length : Int)).f1), .int .i64 ((rd_T45 t403 (l0.length : Int)).f2), .int .i64 ((rd_T45 t403 (l0.length : Int)).f3), .int .i64 0, .slice none 0 0]) ?_ 4 _ rfl; (with_reducible repeat (first | refine blk_drewN ?_ _ | refine blk_drew ?_ | refine blk_alloc ?_ _)); refine blk_put (cs := #[.int .i64 ((rd_T45 t403 (l0.length : Int)).f0), .int .i64 ((rd_T45 t403 (l0.length : Int)).f1), .int .i64 ((rd_T45 t403 (l0.length : Int)).f2), .int .i64 0, .int .i64 0, .slice none 0 0]) ?_ 3 _ rfl; (with_reducible repeat (first | refine blk_drewN ?_ _ | refine blk_drew ?_ | refine blk_alloc ?_ _)); refine blk_put (cs := #[.int .i64 ((rd_T45 t403 (l0.length : Int)).f0), .int .i64 ((rd_T45 t403 (l0.length : Int)).f1), .int .i64 0, .int .i64 0, .int .i64 0, .slice none 0 0]) ?_ 2 _ rfl; (with_reducible repeat (first | refine blk_drewN ?_ _ | refine blk_drew ?_ | refine blk_alloc ?_ _)); refine blk_put (cs := #[.int .i64 ((rd_T45 t403 (l0.length : Int)).f0), .int .i64 0, .int .i64 0, .int .i64 0, .int .i64 0, .slice none 0 0]) ?_ 1 _ rfl; (with_reducible repeat (first | refine blk_drewN ?_ _ | refine blk_drew ?_ | refine blk_alloc ?_ _)); refine blk_put (cs := #[.int .i64 0, .int .i64 0, .int .i64 0, .int .i64 0, .int .i64 0, .slice none 0 0]) ?_ 0 _ rfl; (with_reducible repeat (first | refine blk_drewN ?_ _ | refine blk_drew ?_ | refine blk_alloc ?_ _)); exact BK415.out) hb); have n9_ := Aside0.mk (below_step (by repeat (first | (with_reducible first | exact HB.out | apply below_alloc | apply pw_below_drewN | apply below_drew1 | refine below_set ?_ GE389.out | refine below_set ?_ GE415.out) | exact HB.out)) hb); clear HO399; clear HO402; clear HO405; clear HO412; clear HL414_5; clear BK389; clear HR414_5; clear BK415; clear HB; have HO399 := n0_; have HO402 := n1_; have HO405 := n2_; have HO412 := n3_; have HL414_5 := n4_; have HO418 := n5_; have BK389 := n6_; have HR414_5 := n7_; have BK415 := n8_; have HB := n9_; clear n0_ n1_ n2_ n3_ n4_ n5_ n6_ n7_ n8_ n9_; clear hb ho64; obtain ⟨Ao65, co65, eo65⟩ := Kd.R_slice HO418.out; subst eo65) | (go_at_call 26; (with_reducible refine (annuitykeep_Ints.calls kj11 _ _ ((rd_T45 t403 (l0.length : Int)).f5) _ _ y416 true _ ?side1 ?side2 ?side3 ?side4 A40.out).mono ?_); (case side1 => repeat (first | exact (by repeat (first | (with_reducible exact HR414_5.out) | (with_reducible refine Kd.C_alloc ?_ _) | (with_reducible refine Kd.C_drewN ?_ _) | (with_reducible refine Kd.C_drew ?_) | exact HR414_5.out)) | (with_reducible refine Kd.C_alloc ?_ _) | (with_reducible refine Kd.C_drewN ?_ _) | (with_reducible refine Kd.C_drew ?_))); (case side2 => exact HC414_5.out); (case side3 => repeat (first | exact (Kd.R_reads' HO418.out).2.2 | (with_reducible refine Kd.C_alloc ?_ _) | (with_reducible refine Kd.C_drewN ?_ _) | (with_reducible refine Kd.C_drew ?_))); (case side4 => exact (Kd.R_reads' HO418.out).2.1); rintro e w' ⟨rfl, ⟨nd, rfl⟩⟩; (try (rw [drewN_self w63]; generalize hq_ : World.drewN w63 _ = w63; have n0_ : Aside0 (Kd.V (Kd.int .i64) 3 w63 w.heap.size (fun k_ => some k_ ≠ (v398 : Value).ownBlock ∧ some k_ ≠ (v401 : Value).ownBlock ∧ some k_ ≠ (.slice (some ad414) t403.length co56 : Value).ownBlock ∧ some k_ ≠ (.slice Ao65 y416.length co65 : Value).ownBlock ∧ k_ ≠ gb389 ∧ k_ ≠ gb415) (.slice A414_5 ((rd_T45 t403 (l0.length : Int)).f5).length c414_5) ((rd_T45 t403 (l0.length : Int)).f5)) := ⟨by rw [← hq_]; exact (by (with_reducible repeat (first | apply Kd.V_alloc | apply Kd.V_drewN | apply Kd.V_drew)); exact Kd.V_mono HL414_5.out (fun _ hk => ⟨hk.1.1.1.1, ⟨hk.1.1.1.2.1, ⟨hk.1.1.2, ⟨hk.2, ⟨hk.1.1.1.2.2, hk.1.2⟩⟩⟩⟩⟩))⟩; have n1_ : Aside0 (Kd.N k45 45 w63 w.heap.size (fun k_ => some k_ ≠ (v401 : Value).ownBlock ∧ some k_ ≠ (.slice (some ad414) t403.length co56 : Value).ownBlock ∧ some k_ ≠ (.slice Ao65 y416.length co65 : Value).ownBlock ∧ k_ ≠ gb389 ∧ k_ ≠ gb415) v398 t397) := ⟨by rw [← hq_]; exact (by (with_reducible repeat (first | apply Kd.N_alloc | apply Kd.N_drewN | apply Kd.N_drew)); exact Kd.N_mono HO399.out (fun _ hk => ⟨hk.1.1.1, ⟨hk.1.1.2.1, ⟨hk.2, ⟨hk.1.1.2.2, hk.1.2⟩⟩⟩⟩))⟩; have n2_ : Aside0 (Kd.R (Kd.int .i64) 3 w63 w.heap.size (fun k_ => some k_ ≠ (.slice Ao65 y416.length co65 : Value).ownBlock) v401 y400) := ⟨by rw [← hq_]; exact (by (with_reducible repeat (first | apply Kd.R_alloc | apply Kd.R_drewN | apply Kd.R_drew)); exact Kd.R_mono HO402.out (fun _ hk => hk.2))⟩; have n3_ : Aside0 (Kd.N k45 45 w63 w.heap.size (fun k_ => some k_ ≠ (v398 : Value).ownBlock ∧ some k_ ≠ (v401 : Value).ownBlock ∧ some k_ ≠ (.slice Ao65 y416.length co65 : Value).ownBlock ∧ k_ ≠ gb389 ∧ k_ ≠ gb415) (.slice (some ad414) t403.length co56) t403) := ⟨by rw [← hq_]; exact (by (with_reducible repeat (first | apply Kd.N_alloc | apply Kd.N_drewN | apply Kd.N_drew)); exact Kd.N_mono HO405.out (fun _ hk => ⟨hk.1.1.1, ⟨hk.1.1.2.1, ⟨hk.2, ⟨hk.1.1.2.2, hk.1.2⟩⟩⟩⟩))⟩; have n4_ : Aside0 (Kd.V k45 45 w63 w.heap.size (fun k_ => some k_ ≠ (v398 : Value).ownBlock ∧ some k_ ≠ (v401 : Value).ownBlock ∧ some k_ ≠ (.slice Ao65 y416.length co65 : Value).ownBlock ∧ k_ ≠ gb389 ∧ k_ ≠ gb415) (.slice (some ad414) y408.length co56) y408) := ⟨by rw [← hq_]; exact (by (with_reducible repeat (first | apply Kd.V_alloc | apply Kd.V_drewN | apply Kd.V_drew)); exact Kd.V_mono HO412.out (fun _ hk => ⟨hk.1.1.1, ⟨hk.1.1.2.1, ⟨hk.2, ⟨hk.1.1.2.2, hk.1.2⟩⟩⟩⟩))⟩; have n5_ : Aside0 (Kd.R (Kd.int .i64) 3 w63 w.heap.size (fun k_ => some k_ ≠ (v401 : Value).ownBlock) (.slice Ao65 y416.length co65) y416) := ⟨by rw [← hq_]; exact (by (with_reducible repeat (first | apply Kd.R_alloc | apply Kd.R_drewN | apply Kd.R_drew)); exact Kd.R_mono HO418.out (fun _ hk => hk.2))⟩; have n6_ : Aside0 (w63.heap[gb389]? = some (.cells #[.int .u32 a1_0, .int .u32 a1_1] 42 (0, 0))) := ⟨by rw [← hq_]; exact (Up.up BK389.out)⟩; have n7_ : Aside0 (w63.heap[gb415]? = some (.cells #[.int .i64 ((rd_T45 t403 (l0.length : Int)).f0), .int .i64 ((rd_T45 t403 (l0.length : Int)).f1), .int .i64 ((rd_T45 t403 (l0.length : Int)).f2), .int .i64 ((rd_T45 t403 (l0.length : Int)).f3), .int .i64 ((rd_T45 t403 (l0.length : Int)).f4), .slice A414_5 ((rd_T45 t403 (l0.length : Int)).f5).length c414_5] 45 (0, 0))) := ⟨by rw [← hq_]; exact (Up.up BK415.out)⟩; have n8_ : Aside0 (Below w.heap.size w w63) := ⟨by rw [← hq_]; exact (by repeat (first | (with_reducible first | exact HB.out | apply below_alloc | apply pw_below_drewN | apply below_drew1 | refine below_set ?_ GE389.out | refine below_set ?_ GE415.out) | exact HB.out))⟩; have n9_ : Aside0 (Kd.C (Kd.int .i64) w63 A414_5 ((rd_T45 t403 (l0.length : Int)).f5).length ((rd_T45 t403 (l0.length : Int)).f5)) := ⟨by rw [← hq_]; exact (by repeat (first | (with_reducible exact HR414_5.out) | (with_reducible refine Kd.C_alloc ?_ _) | (with_reducible refine Kd.C_drewN ?_ _) | (with_reducible refine Kd.C_drew ?_) | exact HR414_5.out))⟩; clear HL414_5 HO399 HO402 HO405 HO412 HO418 BK389 BK415 HB HR414_5 hq_; have HL414_5 := n0_; have HO399 := n1_; have HO402 := n2_; have HO405 := n3_; have HO412 := n4_; have HO418 := n5_; have BK389 := n6_; have BK415 := n7_; have HB := n8_; have HR414_5 := n9_; clear n0_ n1_ n2_ n3_ n4_ n5_ n6_ n7_ n8_ n9_))) | ((with_reducible refine gate_callee (f := 18) rfl ?_); refine goesL_ (some 130) rfl rfl Try.func18 (by kernel_rfl) rfl #[.slice (some ad414) t403.length co56, .int .i64 (wrap64 (x7_11 + (wrap64 (a2))))] rfl (by (try simp only [List.map_toArray, List.map_cons, List.map_nil]); first | done | rfl | (simp only [List.length_drop, List.length_take]; rfl)) ?_; (with_reducible refine (bill_Find.calls kj11 _ _ t403 (wrap64 (x7_11 + (wrap64 (a2)))) t420 t421 t422 t423 t424 t425 true _ ?side1 ?side2 A42.out).mono ?_); (case side1 => repeat (first | exact (Kd.N_reads' HO405.out).2.2 | (with_reducible refine Kd.C_alloc ?_ _) | (with_reducible refine Kd.C_drewN ?_ _) | (with_reducible refine Kd.C_drew ?_))); (case side2 => exact (Kd.N_reads' HO405.out).2.1); rintro e w66 ⟨v426, rfl, ho0, hb⟩; refine ⟨_, rfl, ?_⟩; have n0_ := Aside0.mk (Kd.N_elder' (by (with_reducible repeat (first | apply Kd.N_alloc | apply Kd.N_drewN | apply Kd.N_drew)); exact HO399.out) (Kd.R_base ho0) hb); have n1_ := Aside0.mk (Kd.R_elder' (by (with_reducible repeat (first | apply Kd.R_alloc | apply Kd.R_drewN | apply Kd.R_drew)); exact HO402.out) (Kd.R_base ho0) hb); have n2_ := Aside0.mk (Kd.N_elder' (by (with_reducible repeat (first | apply Kd.N_alloc | apply Kd.N_drewN | apply Kd.N_drew)); exact HO405.out) (Kd.R_base ho0) hb); have n3_ := Aside0.mk (Kd.V_elder' (by (with_reducible repeat (first | apply Kd.V_alloc | apply Kd.V_drewN | apply Kd.V_drew)); exact HO412.out) (Kd.R_base ho0) hb); have n4_ := Aside0.mk (Kd.V_elder' (by (with_reducible repeat (first | apply Kd.V_alloc | apply Kd.V_drewN | apply Kd.V_drew)); exact HL414_5.out) (Kd.R_base ho0) hb); have n5_ := Aside0.mk (Kd.R_elder' (by (with_reducible repeat (first | apply Kd.R_alloc | apply Kd.R_drewN | apply Kd.R_drew)); exact HO418.out) (Kd.R_base ho0) hb); have n6_ := Aside0.mk (Kd.R_lower (Kd.R_new' (Kd.R_new' ho0 (Kd.R_lt (by (with_reducible repeat (first | apply Kd.R_alloc | apply Kd.R_drewN | apply Kd.R_drew)); exact HO402.out))) (Kd.R_lt (by (with_reducible repeat (first | apply Kd.R_alloc | apply Kd.R_drewN | apply Kd.R_drew)); exact HO418.out))) (below_size (by repeat (first | (with_reducible first | exact HB.out | apply below_alloc | apply pw_below_drewN | apply below_drew1 | refine below_set ?_ GE389.out | refine below_set ?_ GE415.out) | exact HB.out)))); have n7_ := Aside0.mk (blk_below (g := gb389) (Up.up BK389.out) hb); have n8_ := Aside0.mk (Kd.C_below (by repeat (first | (with_reducible exact HR414_5.out) | (with_reducible refine Kd.C_alloc ?_ _) | (with_reducible refine Kd.C_drewN ?_ _) | (with_reducible refine Kd.C_drew ?_) | exact HR414_5.out)) hb); have n9_ := Aside0.mk (blk_below (g := gb415) (Up.up BK415.out) hb); have n10_ := Aside0.mk (below_step (by repeat (first | (with_reducible first | exact HB.out | apply below_alloc | apply pw_below_drewN | apply below_drew1 | refine below_set ?_ GE389.out | refine below_set ?_ GE415.out) | exact HB.out)) hb); clear HO399; clear HO402; clear HO405; clear HO412; clear HL414_5; clear HO418; clear BK389; clear HR414_5; clear BK415; clear HB; have HO399 := n0_; have HO402 := n1_; have HO405 := n2_; have HO412 := n3_; have HL414_5 := n4_; have HO418 := n5_; have HO427 := n6_; have BK389 := n7_; have HR414_5 := n8_; have BK415 := n9_; have HB := n10_; clear n0_ n1_ n2_ n3_ n4_ n5_ n6_ n7_ n8_ n9_ n10_; (try clear hb); (try clear hb2); (try clear hk); (try clear hi); (try clear ho0)) | ((with_reducible refine gate_dst (N := 13) rfl ?_); (try (refine gate_guard (by rfl) ?_; dsimp only)); refine box_event ?hg (N := 13) ?hd (cs := #[.int .i64 0, .int .i64 0, .int .i64 0, .int .i64 0, .int .i64 0, .slice none 0 0]) (t := 45) ?hr ?_; (case hd => rfl); (case hg => rfl); (case hr => first | (go_simp; done) | (go_simp; rfl)); intro gb429 hg w67 hbox hb; have n0_ := Aside0.mk (Kd.N_below (Kd.N_elderB (by (with_reducible repeat (first | apply Kd.N_alloc | apply Kd.N_drewN | apply Kd.N_drew)); exact HO399.out) gb429 (Nat.le_of_eq hg.symm)) hb); have n1_ := Aside0.mk (Kd.R_below (by (with_reducible repeat (first | apply Kd.R_alloc | apply Kd.R_drewN | apply Kd.R_drew)); exact HO402.out) hb); have n2_ := Aside0.mk (Kd.N_below (Kd.N_elderB (by (with_reducible repeat (first | apply Kd.N_alloc | apply Kd.N_drewN | apply Kd.N_drew)); exact HO405.out) gb429 (Nat.le_of_eq hg.symm)) hb); have n3_ := Aside0.mk (Kd.V_below (Kd.V_elderB (by (with_reducible repeat (first | apply Kd.V_alloc | apply Kd.V_drewN | apply Kd.V_drew)); exact HO412.out) gb429 (Nat.le_of_eq hg.symm)) hb); have n4_ := Aside0.mk (Kd.V_below (Kd.V_elderB (by (with_reducible repeat (first | apply Kd.V_alloc | apply Kd.V_drewN | apply Kd.V_drew)); exact HL414_5.out) gb429 (Nat.le_of_eq hg.symm)) hb); have n5_ := Aside0.mk (Kd.R_below (by (with_reducible repeat (first | apply Kd.R_alloc | apply Kd.R_drewN | apply Kd.R_drew)); exact HO418.out) hb); have n6_ := Aside0.mk (Kd.R_below (by (with_reducible repeat (first | apply Kd.R_alloc | apply Kd.R_drewN | apply Kd.R_drew)); exact HO427.out) hb); have n7_ := Aside0.mk (blk_below (g := gb389) (Up.up BK389.out) hb); have n8_ := Aside0.mk (Kd.C_below (by repeat (first | (with_reducible exact HR414_5.out) | (with_reducible refine Kd.C_alloc ?_ _) | (with_reducible refine Kd.C_drewN ?_ _) | (with_reducible refine Kd.C_drew ?_) | exact HR414_5.out)) hb); have n9_ := Aside0.mk (blk_below (g := gb415) (Up.up BK415.out) hb); have n10_ := Aside0.mk (below_step (by repeat (first | (with_reducible first | exact HB.out | apply below_alloc | apply pw_below_drewN | apply below_drew1 | refine below_set ?_ GE389.out | refine below_set ?_ GE415.out) | exact HB.out)) hb); have n11_ := Aside0.mk (hbox); have n12_ := Aside0.mk ((by rw [hg]; exact (below_size (by repeat (first | (with_reducible first | exact HB.out | apply below_alloc | apply pw_below_drewN | apply below_drew1 | refine below_set ?_ GE389.out | refine below_set ?_ GE415.out) | exact HB.out))) : w.heap.size ≤ gb429)); have n13_ := Aside0.mk ((by rw [hg]; exact (below_size (by repeat (first | (with_reducible first | exact HB.out | apply below_alloc | apply pw_below_drewN | apply below_drew1 | refine below_set ?_ GE389.out | refine below_set ?_ GE415.out) | exact HB.out))) : w.heap.size ≤ gb429)); have n14_ := Aside0.mk ((by rw [hg]; exact Nat.ne_of_lt (blk_lt (g := gb389) (Up.up BK389.out)) : gb389 ≠ gb429)); have n15_ := Aside0.mk ((by rw [hg]; exact Nat.ne_of_gt (blk_lt (g := gb389) (Up.up BK389.out)) : gb429 ≠ gb389)); have n16_ := Aside0.mk ((by rw [hg]; exact Nat.ne_of_lt (blk_lt (g := gb415) (Up.up BK415.out)) : gb415 ≠ gb429)); have n17_ := Aside0.mk ((by rw [hg]; exact Nat.ne_of_gt (blk_lt (g := gb415) (Up.up BK415.out)) : gb429 ≠ gb415)); clear HO399; clear HO402; clear HO405; clear HO412; clear HL414_5; clear HO418; clear HO427; clear BK389; clear HR414_5; clear BK415; clear HB; have HO399 := n0_; have HO402 := n1_; have HO405 := n2_; have HO412 := n3_; have HL414_5 := n4_; have HO418 := n5_; have HO427 := n6_; have BK389 := n7_; have HR414_5 := n8_; have BK415 := n9_; have HB := n10_; have BK429 := n11_; have GW429 := n12_; have GE429 := n13_; have NB389_429 := n14_; have NB429_389 := n15_; have NB415_429 := n16_; have NB429_415 := n17_; clear n0_ n1_ n2_ n3_ n4_ n5_ n6_ n7_ n8_ n9_ n10_ n11_ n12_ n13_ n14_ n15_ n16_ n17_; clear hb hbox hg; have hnb68 := NB429_389.out; have hnc68 := NB389_429.out; have hnb69 := NB429_415.out; have hnc69 := NB415_429.out; have hcz70_0 : w67.cell? ⟨gb429, 0, none⟩ = some (.int .i64 0) := (blk_cell BK429.out 0).trans rfl; have hcz70_1 : w67.cell? ⟨gb429, 1, none⟩ = some (.int .i64 0) := (blk_cell BK429.out 1).trans rfl; have hcz70_2 : w67.cell? ⟨gb429, 2, none⟩ = some (.int .i64 0) := (blk_cell BK429.out 2).trans rfl; have hcz70_3 : w67.cell? ⟨gb429, 3, none⟩ = some (.int .i64 0) := (blk_cell BK429.out 3).trans rfl; have hcz70_4 : w67.cell? ⟨gb429, 4, none⟩ = some (.int .i64 0) := (blk_cell BK429.out 4).trans rfl; have hcz70_5 : w67.cell? ⟨gb429, 5, none⟩ = some (.slice none 0 0) := (blk_cell BK429.out 5).trans rfl; have hfz70_0 := blk_frozen BK429.out 0; have hfz70_1 := blk_frozen BK429.out 1; have hfz70_2 := blk_frozen BK429.out 2; have hfz70_3 := blk_frozen BK429.out 3; have hfz70_4 := blk_frozen BK429.out 4; have hfz70_5 := blk_frozen BK429.out 5; obtain ⟨Ao71, co71, eo71⟩ := Kd.R_slice HO427.out; subst eo71; have hcz72_0 : w67.cell? ⟨gb415, 0, none⟩ = some (.int .i64 ((rd_T45 t403 (l0.length : Int)).f0)) := (blk_cell BK415.out 0).trans rfl; have hcz72_1 : w67.cell? ⟨gb415, 1, none⟩ = some (.int .i64 ((rd_T45 t403 (l0.length : Int)).f1)) := (blk_cell BK415.out 1).trans rfl; have hcz72_2 : w67.cell? ⟨gb415, 2, none⟩ = some (.int .i64 ((rd_T45 t403 (l0.length : Int)).f2)) := (blk_cell BK415.out 2).trans rfl; have hcz72_3 : w67.cell? ⟨gb415, 3, none⟩ = some (.int .i64 ((rd_T45 t403 (l0.length : Int)).f3)) := (blk_cell BK415.out 3).trans rfl; have hcz72_4 : w67.cell? ⟨gb415, 4, none⟩ = some (.int .i64 ((rd_T45 t403 (l0.length : Int)).f4)) := (blk_cell BK415.out 4).trans rfl; have hcz72_5 : w67.cell? ⟨gb415, 5, none⟩ = some (.slice A414_5 ((rd_T45 t403 (l0.length : Int)).f5).length c414_5) := (blk_cell BK415.out 5).trans rfl; have hfz72_0 := blk_frozen BK415.out 0; have hfz72_1 := blk_frozen BK415.out 1; have hfz72_2 := blk_frozen BK415.out 2; have hfz72_3 := blk_frozen BK415.out 3; have hfz72_4 := blk_frozen BK415.out 4; have hfz72_5 := blk_frozen BK415.out 5) | (go_at_call 25; (with_reducible refine (annuitykeep_Bill.calls kj11 ((rd_T45 t403 (l0.length : Int)).f0) ((rd_T45 t403 (l0.length : Int)).f1) ((rd_T45 t403 (l0.length : Int)).f2) ((rd_T45 t403 (l0.length : Int)).f3) ((rd_T45 t403 (l0.length : Int)).f4) _ _ ((rd_T45 t403 (l0.length : Int)).f5) t420 t421 t422 t423 t424 _ _ t425 true _ ?side1 ?side2 ?side3 ?side4 A44.out).mono ?_); (case side1 => repeat (first | exact ((Kd.V_reads' (by (with_reducible repeat (first | apply Kd.V_alloc | apply Kd.V_drewN | apply Kd.V_drew)); exact (Kd.V_mono (Kd.V_far (p := ⟨gb429, 5, none⟩) (Kd.V_far (p := ⟨gb429, 4, none⟩) (Kd.V_far (p := ⟨gb429, 3, none⟩) (Kd.V_far (p := ⟨gb429, 2, none⟩) (Kd.V_far (p := ⟨gb429, 1, none⟩) (Kd.V_far (p := ⟨gb429, 0, none⟩) (Kd.V_mono HL414_5.out (fun k_ hk => (⟨hk, hk.2⟩ : _ ∧ k_ ≠ gb429))) (fun _ hk => hk.2) (.int .i64 t420)) (fun _ hk => hk.2) (.int .i64 t421)) (fun _ hk => hk.2) (.int .i64 t422)) (fun _ hk => hk.2) (.int .i64 t423)) (fun _ hk => hk.2) (.int .i64 t424)) (fun _ hk => hk.2) (.slice Ao71 t425.length co71)) (fun _ h_ => h_.1)))).2.2) | (with_reducible refine Kd.C_alloc ?_ _) | (with_reducible refine Kd.C_drewN ?_ _) | (with_reducible refine Kd.C_drew ?_))); (case side2 => exact HC414_5.out); (case side3 => refine (Kd.R_reads' (e := 3) (base := w.heap.size) (ok := fun k_ => ((True ∧ some k_ ≠ (v401 : Value).ownBlock) ∧ some k_ ≠ (.slice Ao65 y416.length co65 : Value).ownBlock)) (n := t425.length) (c := co71) ?_).2.2; exact (by (with_reducible repeat (first | apply Kd.R_alloc | apply Kd.R_drewN | apply Kd.R_drew)); exact (Kd.R_mono (Kd.R_far (p := ⟨gb429, 5, none⟩) (Kd.R_far (p := ⟨gb429, 4, none⟩) (Kd.R_far (p := ⟨gb429, 3, none⟩) (Kd.R_far (p := ⟨gb429, 2, none⟩) (Kd.R_far (p := ⟨gb429, 1, none⟩) (Kd.R_far (p := ⟨gb429, 0, none⟩) (Kd.R_types HO427.out BK429.out (by decide)) (fun _ hk => hk.2) (.int .i64 t420)) (fun _ hk => hk.2) (.int .i64 t421)) (fun _ hk => hk.2) (.int .i64 t422)) (fun _ hk => hk.2) (.int .i64 t423)) (fun _ hk => hk.2) (.int .i64 t424)) (fun _ hk => hk.2) (.slice Ao71 t425.length co71)) (fun _ h_ => h_.1)))); (case side4 => exact (Kd.R_reads' HO427.out).2.1); rintro e w73 ⟨rfl, hb⟩; have n0_ := Aside0.mk (Kd.N_below (by (with_reducible repeat (first | apply Kd.N_alloc | apply Kd.N_drewN | apply Kd.N_drew)); exact (Kd.N_mono (Kd.N_far (p := ⟨gb429, 5, none⟩) (Kd.N_far (p := ⟨gb429, 4, none⟩) (Kd.N_far (p := ⟨gb429, 3, none⟩) (Kd.N_far (p := ⟨gb429, 2, none⟩) (Kd.N_far (p := ⟨gb429, 1, none⟩) (Kd.N_far (p := ⟨gb429, 0, none⟩) (Kd.N_mono HO399.out (fun k_ hk => (⟨hk, hk.2⟩ : _ ∧ k_ ≠ gb429))) (fun _ hk => hk.2) (.int .i64 t420)) (fun _ hk => hk.2) (.int .i64 t421)) (fun _ hk => hk.2) (.int .i64 t422)) (fun _ hk => hk.2) (.int .i64 t423)) (fun _ hk => hk.2) (.int .i64 t424)) (fun _ hk => hk.2) (.slice Ao71 t425.length co71)) (fun _ h_ => h_.1))) hb); have n1_ := Aside0.mk (Kd.R_below (by (with_reducible repeat (first | apply Kd.R_alloc | apply Kd.R_drewN | apply Kd.R_drew)); exact (Kd.R_mono (Kd.R_far (p := ⟨gb429, 5, none⟩) (Kd.R_far (p := ⟨gb429, 4, none⟩) (Kd.R_far (p := ⟨gb429, 3, none⟩) (Kd.R_far (p := ⟨gb429, 2, none⟩) (Kd.R_far (p := ⟨gb429, 1, none⟩) (Kd.R_far (p := ⟨gb429, 0, none⟩) (Kd.R_types HO402.out BK429.out (by decide)) (fun _ hk => hk.2) (.int .i64 t420)) (fun _ hk => hk.2) (.int .i64 t421)) (fun _ hk => hk.2) (.int .i64 t422)) (fun _ hk => hk.2) (.int .i64 t423)) (fun _ hk => hk.2) (.int .i64 t424)) (fun _ hk => hk.2) (.slice Ao71 t425.length co71)) (fun _ h_ => h_.1))) hb); have n2_ := Aside0.mk (Kd.N_below (by (with_reducible repeat (first | apply Kd.N_alloc | apply Kd.N_drewN | apply Kd.N_drew)); exact (Kd.N_mono (Kd.N_far (p := ⟨gb429, 5, none⟩) (Kd.N_far (p := ⟨gb429, 4, none⟩) (Kd.N_far (p := ⟨gb429, 3, none⟩) (Kd.N_far (p := ⟨gb429, 2, none⟩) (Kd.N_far (p := ⟨gb429, 1, none⟩) (Kd.N_far (p := ⟨gb429, 0, none⟩) (Kd.N_mono HO405.out (fun k_ hk => (⟨hk, hk.2⟩ : _ ∧ k_ ≠ gb429))) (fun _ hk => hk.2) (.int .i64 t420)) (fun _ hk => hk.2) (.int .i64 t421)) (fun _ hk => hk.2) (.int .i64 t422)) (fun _ hk => hk.2) (.int .i64 t423)) (fun _ hk => hk.2) (.int .i64 t424)) (fun _ hk => hk.2) (.slice Ao71 t425.length co71)) (fun _ h_ => h_.1))) hb); have n3_ := Aside0.mk (Kd.V_below (by (with_reducible repeat (first | apply Kd.V_alloc | apply Kd.V_drewN | apply Kd.V_drew)); exact (Kd.V_mono (Kd.V_far (p := ⟨gb429, 5, none⟩) (Kd.V_far (p := ⟨gb429, 4, none⟩) (Kd.V_far (p := ⟨gb429, 3, none⟩) (Kd.V_far (p := ⟨gb429, 2, none⟩) (Kd.V_far (p := ⟨gb429, 1, none⟩) (Kd.V_far (p := ⟨gb429, 0, none⟩) (Kd.V_mono HO412.out (fun k_ hk => (⟨hk, hk.2⟩ : _ ∧ k_ ≠ gb429))) (fun _ hk => hk.2) (.int .i64 t420)) (fun _ hk => hk.2) (.int .i64 t421)) (fun _ hk => hk.2) (.int .i64 t422)) (fun _ hk => hk.2) (.int .i64 t423)) (fun _ hk => hk.2) (.int .i64 t424)) (fun _ hk => hk.2) (.slice Ao71 t425.length co71)) (fun _ h_ => h_.1))) hb); have n4_ := Aside0.mk (Kd.V_below (by (with_reducible repeat (first | apply Kd.V_alloc | apply Kd.V_drewN | apply Kd.V_drew)); exact (Kd.V_mono (Kd.V_far (p := ⟨gb429, 5, none⟩) (Kd.V_far (p := ⟨gb429, 4, none⟩) (Kd.V_far (p := ⟨gb429, 3, none⟩) (Kd.V_far (p := ⟨gb429, 2, none⟩) (Kd.V_far (p := ⟨gb429, 1, none⟩) (Kd.V_far (p := ⟨gb429, 0, none⟩) (Kd.V_mono HL414_5.out (fun k_ hk => (⟨hk, hk.2⟩ : _ ∧ k_ ≠ gb429))) (fun _ hk => hk.2) (.int .i64 t420)) (fun _ hk => hk.2) (.int .i64 t421)) (fun _ hk => hk.2) (.int .i64 t422)) (fun _ hk => hk.2) (.int .i64 t423)) (fun _ hk => hk.2) (.int .i64 t424)) (fun _ hk => hk.2) (.slice Ao71 t425.length co71)) (fun _ h_ => h_.1))) hb); have n5_ := Aside0.mk (Kd.R_below (by (with_reducible repeat (first | apply Kd.R_alloc | apply Kd.R_drewN | apply Kd.R_drew)); exact (Kd.R_mono (Kd.R_far (p := ⟨gb429, 5, none⟩) (Kd.R_far (p := ⟨gb429, 4, none⟩) (Kd.R_far (p := ⟨gb429, 3, none⟩) (Kd.R_far (p := ⟨gb429, 2, none⟩) (Kd.R_far (p := ⟨gb429, 1, none⟩) (Kd.R_far (p := ⟨gb429, 0, none⟩) (Kd.R_types HO418.out BK429.out (by decide)) (fun _ hk => hk.2) (.int .i64 t420)) (fun _ hk => hk.2) (.int .i64 t421)) (fun _ hk => hk.2) (.int .i64 t422)) (fun _ hk => hk.2) (.int .i64 t423)) (fun _ hk => hk.2) (.int .i64 t424)) (fun _ hk => hk.2) (.slice Ao71 t425.length co71)) (fun _ h_ => h_.1))) hb); have n6_ := Aside0.mk (Kd.R_below (by (with_reducible repeat (first | apply Kd.R_alloc | apply Kd.R_drewN | apply Kd.R_drew)); exact (Kd.R_mono (Kd.R_far (p := ⟨gb429, 5, none⟩) (Kd.R_far (p := ⟨gb429, 4, none⟩) (Kd.R_far (p := ⟨gb429, 3, none⟩) (Kd.R_far (p := ⟨gb429, 2, none⟩) (Kd.R_far (p := ⟨gb429, 1, none⟩) (Kd.R_far (p := ⟨gb429, 0, none⟩) (Kd.R_types HO427.out BK429.out (by decide)) (fun _ hk => hk.2) (.int .i64 t420)) (fun _ hk => hk.2) (.int .i64 t421)) (fun _ hk => hk.2) (.int .i64 t422)) (fun _ hk => hk.2) (.int .i64 t423)) (fun _ hk => hk.2) (.int .i64 t424)) (fun _ hk => hk.2) (.slice Ao71 t425.length co71)) (fun _ h_ => h_.1))) hb); have n7_ := Aside0.mk (blk_below (g := gb389) (o := .cells #[.int .u32 a1_0, .int .u32 a1_1] 42 (0, 0)) (by (iterate 6 ((with_reducible repeat (first | refine blk_drewN ?_ _ | refine blk_drew ?_ | refine blk_alloc ?_ _)); refine blk_far ?_ NB389_429.out _)); (with_reducible repeat (first | refine blk_drewN ?_ _ | refine blk_drew ?_ | refine blk_alloc ?_ _)); exact BK389.out) hb); have n8_ := Aside0.mk (Kd.C_below ((Kd.V_reads' (by (with_reducible repeat (first | apply Kd.V_alloc | apply Kd.V_drewN | apply Kd.V_drew)); exact (Kd.V_mono (Kd.V_far (p := ⟨gb429, 5, none⟩) (Kd.V_far (p := ⟨gb429, 4, none⟩) (Kd.V_far (p := ⟨gb429, 3, none⟩) (Kd.V_far (p := ⟨gb429, 2, none⟩) (Kd.V_far (p := ⟨gb429, 1, none⟩) (Kd.V_far (p := ⟨gb429, 0, none⟩) (Kd.V_mono HL414_5.out (fun k_ hk => (⟨hk, hk.2⟩ : _ ∧ k_ ≠ gb429))) (fun _ hk => hk.2) (.int .i64 t420)) (fun _ hk => hk.2) (.int .i64 t421)) (fun _ hk => hk.2) (.int .i64 t422)) (fun _ hk => hk.2) (.int .i64 t423)) (fun _ hk => hk.2) (.int .i64 t424)) (fun _ hk => hk.2) (.slice Ao71 t425.length co71)) (fun _ h_ => h_.1)))).2.2) hb); have n9_ := Aside0.mk (blk_below (g := gb415) (o := .cells #[.int .i64 ((rd_T45 t403 (l0.length : Int)).f0), .int .i64 ((rd_T45 t403 (l0.length : Int)).f1), .int .i64 ((rd_T45 t403 (l0.length : Int)).f2), .int .i64 ((rd_T45 t403 (l0.length : Int)).f3), .int .i64 ((rd_T45 t403 (l0.length : Int)).f4), .slice A414_5 ((rd_T45 t403 (l0.length : Int)).f5).length c414_5] 45 (0, 0)) (by (iterate 6 ((with_reducible repeat (first | refine blk_drewN ?_ _ | refine blk_drew ?_ | refine blk_alloc ?_ _)); refine blk_far ?_ NB415_429.out _)); (with_reducible repeat (first | refine blk_drewN ?_ _ | refine blk_drew ?_ | refine blk_alloc ?_ _)); exact BK415.out) hb); have n10_ := Aside0.mk (blk_below (g := gb429) (o := .cells #[.int .i64 t420, .int .i64 t421, .int .i64 t422, .int .i64 t423, .int .i64 t424, .slice Ao71 t425.length co71] 45 (0, 0)) (by (with_reducible repeat (first | refine blk_drewN ?_ _ | refine blk_drew ?_ | refine blk_alloc ?_ _)); refine blk_put (cs := #[.int .i64 t420, .int .i64 t421, .int .i64 t422, .int .i64 t423, .int .i64 t424, .slice none 0 0]) ?_ 5 _ rfl; (with_reducible repeat (first | refine blk_drewN ?_ _ | refine blk_drew ?_ | refine blk_alloc ?_ _)); refine blk_put (cs := #[.int .i64 t420, .int .i64 t421, .int .i64 t422, .int .i64 t423, .int .i64 0, .slice none 0 0]) ?_ 4 _ rfl; (with_reducible repeat (first | refine blk_drewN ?_ _ | refine blk_drew ?_ | refine blk_alloc ?_ _)); refine blk_put (cs := #[.int .i64 t420, .int .i64 t421, .int .i64 t422, .int .i64 0, .int .i64 0, .slice none 0 0]) ?_ 3 _ rfl; (with_reducible repeat (first | refine blk_drewN ?_ _ | refine blk_drew ?_ | refine blk_alloc ?_ _)); refine blk_put (cs := #[.int .i64 t420, .int .i64 t421, .int .i64 0, .int .i64 0, .int .i64 0, .slice none 0 0]) ?_ 2 _ rfl; (with_reducible repeat (first | refine blk_drewN ?_ _ | refine blk_drew ?_ | refine blk_alloc ?_ _)); refine blk_put (cs := #[.int .i64 t420, .int .i64 0, .int .i64 0, .int .i64 0, .int .i64 0, .slice none 0 0]) ?_ 1 _ rfl; (with_reducible repeat (first | refine blk_drewN ?_ _ | refine blk_drew ?_ | refine blk_alloc ?_ _)); refine blk_put (cs := #[.int .i64 0, .int .i64 0, .int .i64 0, .int .i64 0, .int .i64 0, .slice none 0 0]) ?_ 0 _ rfl; (with_reducible repeat (first | refine blk_drewN ?_ _ | refine blk_drew ?_ | refine blk_alloc ?_ _)); exact BK429.out) hb); have n11_ := Aside0.mk (below_step (by repeat (first | (with_reducible first | exact HB.out | apply below_alloc | apply pw_below_drewN | apply below_drew1 | refine below_set ?_ GE389.out | refine below_set ?_ GE415.out | refine below_set ?_ GE429.out) | exact HB.out)) hb); clear HO399; clear HO402; clear HO405; clear HO412; clear HL414_5; clear HO418; clear HO427; clear BK389; clear HR414_5; clear BK415; clear BK429; clear HB; have HO399 := n0_; have HO402 := n1_; have HO405 := n2_; have HO412 := n3_; have HL414_5 := n4_; have HO418 := n5_; have HO427 := n6_; have BK389 := n7_; have HR414_5 := n8_; have BK415 := n9_; have BK429 := n10_; have HB := n11_; clear n0_ n1_ n2_ n3_ n4_ n5_ n6_ n7_ n8_ n9_ n10_ n11_; (try clear hb); (try clear hb2); (try clear hk); (try clear hi); have hcz74_0 : w73.cell? ⟨gb415, 0, none⟩ = some (.int .i64 ((rd_T45 t403 (l0.length : Int)).f0)) := (blk_cell BK415.out 0).trans rfl; have hcz74_1 : w73.cell? ⟨gb415, 1, none⟩ = some (.int .i64 ((rd_T45 t403 (l0.length : Int)).f1)) := (blk_cell BK415.out 1).trans rfl; have hcz74_2 : w73.cell? ⟨gb415, 2, none⟩ = some (.int .i64 ((rd_T45 t403 (l0.length : Int)).f2)) := (blk_cell BK415.out 2).trans rfl; have hcz74_3 : w73.cell? ⟨gb415, 3, none⟩ = some (.int .i64 ((rd_T45 t403 (l0.length : Int)).f3)) := (blk_cell BK415.out 3).trans rfl; have hcz74_4 : w73.cell? ⟨gb415, 4, none⟩ = some (.int .i64 ((rd_T45 t403 (l0.length : Int)).f4)) := (blk_cell BK415.out 4).trans rfl; have hcz74_5 : w73.cell? ⟨gb415, 5, none⟩ = some (.slice A414_5 ((rd_T45 t403 (l0.length : Int)).f5).length c414_5) := (blk_cell BK415.out 5).trans rfl; have hfz74_0 := blk_frozen BK415.out 0; have hfz74_1 := blk_frozen BK415.out 1; have hfz74_2 := blk_frozen BK415.out 2; have hfz74_3 := blk_frozen BK415.out 3; have hfz74_4 := blk_frozen BK415.out 4; have hfz74_5 := blk_frozen BK415.out 5) | (go_at_call 9; (with_reducible refine (annuitylaw19_wakes.calls kj11  t431 _ A47.out).mono ?_); rintro e w75 ⟨rfl, hb⟩; have n0_ := Aside0.mk (Kd.N_below (by (with_reducible repeat (first | apply Kd.N_alloc | apply Kd.N_drewN | apply Kd.N_drew)); exact HO399.out) hb); have n1_ := Aside0.mk (Kd.R_below (by (with_reducible repeat (first | apply Kd.R_alloc | apply Kd.R_drewN | apply Kd.R_drew)); exact HO402.out) hb); have n2_ := Aside0.mk (Kd.N_below (by (with_reducible repeat (first | apply Kd.N_alloc | apply Kd.N_drewN | apply Kd.N_drew)); exact HO405.out) hb); have n3_ := Aside0.mk (Kd.V_below (by (with_reducible repeat (first | apply Kd.V_alloc | apply Kd.V_drewN | apply Kd.V_drew)); exact HO412.out) hb); have n4_ := Aside0.mk (Kd.V_below (by (with_reducible repeat (first | apply Kd.V_alloc | apply Kd.V_drewN | apply Kd.V_drew)); exact HL414_5.out) hb); have n5_ := Aside0.mk (Kd.R_below (by (with_reducible repeat (first | apply Kd.R_alloc | apply Kd.R_drewN | apply Kd.R_drew)); exact HO418.out) hb); have n6_ := Aside0.mk (Kd.R_below (by (with_reducible repeat (first | apply Kd.R_alloc | apply Kd.R_drewN | apply Kd.R_drew)); exact HO427.out) hb); have n7_ := Aside0.mk (blk_below (g := gb389) (Up.up BK389.out) hb); have n8_ := Aside0.mk (Kd.C_below (by repeat (first | (with_reducible exact HR414_5.out) | (with_reducible refine Kd.C_alloc ?_ _) | (with_reducible refine Kd.C_drewN ?_ _) | (with_reducible refine Kd.C_drew ?_) | exact HR414_5.out)) hb); have n9_ := Aside0.mk (blk_below (g := gb415) (Up.up BK415.out) hb); have n10_ := Aside0.mk (blk_below (g := gb429) (Up.up BK429.out) hb); have n11_ := Aside0.mk (below_step (by repeat (first | (with_reducible first | exact HB.out | apply below_alloc | apply pw_below_drewN | apply below_drew1 | refine below_set ?_ GE389.out | refine below_set ?_ GE415.out | refine below_set ?_ GE429.out) | exact HB.out)) hb); clear HO399; clear HO402; clear HO405; clear HO412; clear HL414_5; clear HO418; clear HO427; clear BK389; clear HR414_5; clear BK415; clear BK429; clear HB; have HO399 := n0_; have HO402 := n1_; have HO405 := n2_; have HO412 := n3_; have HL414_5 := n4_; have HO418 := n5_; have HO427 := n6_; have BK389 := n7_; have HR414_5 := n8_; have BK415 := n9_; have BK429 := n10_; have HB := n11_; clear n0_ n1_ n2_ n3_ n4_ n5_ n6_ n7_ n8_ n9_ n10_ n11_; (try clear hb); (try clear hb2); (try clear hk); (try clear hi)))
                                          go_ret
                                          exact ⟨by first | rfl | (simp [errW_none, errW_some] <;> rfl) | (simp only [← hji35]; first | rfl | (simp [errW_none, errW_some] <;> rfl)) | (simp [*, errW_none, errW_some] <;> rfl), by repeat (first | (with_reducible first | exact HB.out | apply below_alloc | apply pw_below_drewN | apply below_drew1 | refine below_set ?_ GE389.out | refine below_set ?_ GE415.out | refine below_set ?_ GE429.out) | exact HB.out)⟩
                                        · rw [if_neg c46] at H
                                          exact absurd H (by simp)
                                      · replace c45 := Bool.eq_false_iff.mpr c45
                                        subst c45
                                        have H1 : (none) = some r := by rw [if_neg (show ¬ (false = true) by decide)] at H; exact H
                                        clear H
                                        have H := H1
                                        clear H1
                                        exact absurd H (by simp)
                                    · replace c43 := Bool.eq_false_iff.mpr c43
                                      subst c43
                                      have H1 : (none) = some r := by rw [if_neg (show ¬ (false = true) by decide)] at H; exact H
                                      clear H
                                      have H := H1
                                      clear H1
                                      exact absurd H (by simp)
                                  · replace c41 := Bool.eq_false_iff.mpr c41
                                    subst c41
                                    have H1 : (none) = some r := by rw [if_neg (show ¬ (false = true) by decide)] at H; exact H
                                    clear H
                                    have H := H1
                                    clear H1
                                    exact absurd H (by simp)
                                · rw [if_neg c39] at H
                                  exact absurd H (by simp)
                              · rw [if_neg c38] at H
                                exact absurd H (by simp)
                            · rw [if_neg c37] at H
                              exact absurd H (by simp)
                          · rw [if_neg c36] at H
                            exact absurd H (by simp)
                        · rw [if_neg c34] at H
                          exact absurd H (by simp)
                      · replace c33 := Bool.eq_false_iff.mpr c33
                        subst c33
                        have H1 : (none) = some r := by rw [if_neg (show ¬ (false = true) by decide)] at H; exact H
                        clear H
                        have H := H1
                        clear H1
                        exact absurd H (by simp)
                    · rw [if_neg c31] at H
                      exact absurd H (by simp)
                  · rw [if_neg c30] at H
                    exact absurd H (by simp)
                · rw [if_neg c29] at H
                  exact absurd H (by simp)
              · rw [if_neg c28] at H
                exact absurd H (by simp)
    · replace c11 := Bool.eq_false_iff.mpr c11
      subst c11
      have H1 : ((annuitylaw19_wakes.f k).bind fun t393 => (some t393)) = some r := by rw [if_neg (show ¬ (false = true) by decide)] at H; exact H
      clear H
      have H := H1
      clear H1
      replace H := Option.bind_eq_some_iff.mp H
      obtain ⟨t393, A760, H⟩ := H
      replace H : (some t393) = some r := H
      have A76 := Aside0.mk A760
      clear A760
      obtain rfl := Option.some.inj H
      go_enter Try.func7, Try.ntmps7
      go_wp2_with (first | ((with_reducible refine gate_dst (N := 4) rfl ?_); (try (refine gate_guard (by rfl) ?_; dsimp only)); refine box_event ?hg (N := 4) ?hd (cs := #[.int .u32 a1_0, .int .u32 a1_1]) (t := 42) ?hr ?_; (case hd => rfl); (case hg => rfl); (case hr => first | (go_simp; done) | (go_simp; rfl)); intro gb389 hg w77 hbox hb; have n0_ := Aside0.mk (below_step (by repeat (first | (with_reducible first | exact HB.out | apply below_alloc | apply pw_below_drewN | apply below_drew1) | exact HB.out)) hb); have n1_ := Aside0.mk (hbox); have n2_ := Aside0.mk ((by rw [hg]; exact (below_size (by repeat (first | (with_reducible first | exact HB.out | apply below_alloc | apply pw_below_drewN | apply below_drew1) | exact HB.out))) : w.heap.size ≤ gb389)); have n3_ := Aside0.mk ((by rw [hg]; exact (below_size (by repeat (first | (with_reducible first | exact HB.out | apply below_alloc | apply pw_below_drewN | apply below_drew1) | exact HB.out))) : w.heap.size ≤ gb389)); clear HB; have HB := n0_; have BK389 := n1_; have GW389 := n2_; have GE389 := n3_; clear n0_ n1_ n2_ n3_; clear hb hbox hg) | ((with_reducible refine gate_callee (f := 8) rfl ?_); refine goesL_ (some 16) rfl rfl Try.func8 (by kernel_rfl) rfl #[.slice A0 l0.length c0] rfl (by (try simp only [List.map_toArray, List.map_cons, List.map_nil]); first | done | rfl | (simp only [List.length_drop, List.length_take]; rfl)) ?_; (with_reducible refine (annuitylaw19_Large.calls k _ _ l0 false _ ?side1 ?side2 A4.out).mono ?_); (case side1 => repeat (first | exact (Kd.C_below HR0.out HB.out) | (with_reducible refine Kd.C_alloc ?_ _) | (with_reducible refine Kd.C_drewN ?_ _) | (with_reducible refine Kd.C_drew ?_))); (case side2 => exact HC0.out); rintro e w78 ⟨rfl, hb⟩; refine ⟨_, rfl, ?_⟩; have n0_ := Aside0.mk (blk_below (g := gb389) (Up.up BK389.out) hb); have n1_ := Aside0.mk (below_step (by repeat (first | (with_reducible first | exact HB.out | apply below_alloc | apply pw_below_drewN | apply below_drew1 | refine below_set ?_ GE389.out) | exact HB.out)) hb); clear BK389; clear HB; have BK389 := n0_; have HB := n1_; clear n0_ n1_; (try clear hb); (try clear hb2); (try clear hk); (try clear hi)) | (go_at_call 16; (with_reducible refine (annuityref19_Good.calls k _ _ l0 false _ ?side1 ?side2 A10.out).mono ?_); (case side1 => repeat (first | exact (Kd.C_below HR0.out HB.out) | (with_reducible refine Kd.C_alloc ?_ _) | (with_reducible refine Kd.C_drewN ?_ _) | (with_reducible refine Kd.C_drew ?_))); (case side2 => exact HC0.out); rintro e w79 ⟨rfl, hb⟩; have n0_ := Aside0.mk (blk_below (g := gb389) (Up.up BK389.out) hb); have n1_ := Aside0.mk (below_step (by repeat (first | (with_reducible first | exact HB.out | apply below_alloc | apply pw_below_drewN | apply below_drew1 | refine below_set ?_ GE389.out) | exact HB.out)) hb); clear BK389; clear HB; have BK389 := n0_; have HB := n1_; clear n0_ n1_; (try clear hb); (try clear hb2); (try clear hk); (try clear hi)) | ((with_reducible refine gate_callee (f := 9) rfl ?_); refine goesL_ (some 22) rfl rfl Try.func9 (by kernel_rfl) rfl #[] rfl (by (try simp only [List.map_toArray, List.map_cons, List.map_nil]); first | done | rfl | (simp only [List.length_drop, List.length_take]; rfl)) ?_; (with_reducible refine (annuitylaw19_wakes.calls k  t393 _ A76.out).mono ?_); rintro e w80 ⟨rfl, hb⟩; refine ⟨_, rfl, ?_⟩; have n0_ := Aside0.mk (blk_below (g := gb389) (Up.up BK389.out) hb); have n1_ := Aside0.mk (below_step (by repeat (first | (with_reducible first | exact HB.out | apply below_alloc | apply pw_below_drewN | apply below_drew1 | refine below_set ?_ GE389.out) | exact HB.out)) hb); clear BK389; clear HB; have BK389 := n0_; have HB := n1_; clear n0_ n1_; (try clear hb); (try clear hb2); (try clear hk); (try clear hi)))
      go_ret
      exact ⟨by first | rfl | (simp [errW_none, errW_some] <;> rfl) | (simp [*, errW_none, errW_some] <;> rfl), by repeat (first | (with_reducible first | exact HB.out | apply below_alloc | apply pw_below_drewN | apply below_drew1 | refine below_set ?_ GE389.out) | exact HB.out)⟩

/-- What is known of an element that came in. -/
def annuitylaw19_BillAhead.wf45 (x : S45) : Prop := (Lit.int .i64 x.f0).wf = true ∧ (Lit.int .i64 x.f1).wf = true ∧ (Lit.int .i64 x.f2).wf = true ∧ (Lit.int .i64 x.f3).wf = true ∧ (Lit.int .i64 x.f4).wf = true ∧ (x.f5.length ≤ maxLen ∧ ∀ y ∈ x.f5, (Lit.int .i64 y).wf = true)
/-- THE ONE PURE STATEMENT of annuitylaw19_BillAhead: yours. -/
def annuitylaw19_BillAhead.Pure : Prop := ∀ (l0 : List (S45)) (a1_0 : Int) (a1_1 : Int) (a2 : Int), l0.length ≤ maxLen → l0.length * 64 ≤ 140737488351232 → (∀ x ∈ l0, annuitylaw19_BillAhead.wf45 x) → (Lit.int .u32 a1_0).wf = true → (Lit.int .u32 a1_1).wf = true → (Lit.int .u8 a2).wf = true → ∃ k, annuitylaw19_BillAhead.f k l0 a1_0 a1_1 a2 = some true
theorem annuitylaw19_BillAhead.walk (P : annuitylaw19_BillAhead.Pure) (a0 : Option Addr) (cap0 : Nat) (l0 : List S45) (a1_0 : Int) (a1_1 : Int) (a2 : Int) (w : World) (hr0 : Kd.C k45 w a0 l0.length l0) (hc0 : l0.length ≤ cap0) (hm0 : l0.length ≤ maxLen) (y0 : l0.length * 64 ≤ 140737488351232) (hw0 : ∀ x ∈ l0, annuitylaw19_BillAhead.wf45 x) (w1_0 : (Lit.int .u32 a1_0).wf = true) (w1_1 : (Lit.int .u32 a1_1).wf = true) (w2 : (Lit.int .u8 a2).wf = true) :
    Calls Try.prog 7 #[.slice a0 l0.length cap0, .agg #[.int .u32 a1_0, .int .u32 a1_1], .int .u8 a2] w fun e w' => e = .returned (.bool true) ∧ Below w.heap.size w w' := by
  obtain ⟨k, h⟩ := P l0 a1_0 a1_1 a2 hm0 y0 hw0 w1_0 w1_1 w2
  refine (annuitylaw19_BillAhead.calls k _ _ l0 a1_0 a1_1 a2 true w hr0 hc0 h).mono ?_
  rintro e w' ⟨rfl, hd⟩
  exact ⟨rfl, hd⟩

end Go.Proofs.Ytibjbgfphhmogaa.P
