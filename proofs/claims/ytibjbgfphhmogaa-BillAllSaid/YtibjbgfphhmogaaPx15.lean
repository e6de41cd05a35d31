/- Functions of the program as plain Lean functions, and proofs that its calls come to just their answers, where they tell one (written by a program of this session). -/
import Derived.Test.YtibjbgfphhmogaaPx0
import Derived.Test.YtibjbgfphhmogaaZg
namespace Go.Proofs.Ytibjbgfphhmogaa.P
open Go.RowKit Go.Proofs.YtibjbgfphhmogaaW.PrintWords Go.Proofs.YtibjbgfphhmogaaW.PrintLast Go.Proofs.YtibjbgfphhmogaaW.PrintMore
attribute [local go_sem] max2_int min2_int max_two min_two max_three min_three max_four min_four   -- for this text's walks alone
set_option linter.unusedVariables false
set_option linter.unusedSimpArgs false

-- NOT PRINTED: function 4 (annuitylaw19_BillCredits)

/-! ### annuitykeep_Mod: function 17 -/
def annuitykeep_Mod.f (a0 : Int) (a1 : Int) : Option (Int) := if a1 < 1 then (some 0) else (if a1 = 0 then (none) else (some (Int.tmod (wrap64 ((Int.tmod a0 a1) + a1)) a1)))
set_option maxHeartbeats 8000000 in
set_option maxRecDepth 100000 in
theorem annuitykeep_Mod.calls (a0 : Int) (a1 : Int) (r : Int) (w : World) (h : annuitykeep_Mod.f a0 a1 = some r) :
    Calls Try.prog 17 #[.int .i64 a0, .int .i64 a1] w fun e w' => e = .returned (.int .i64 r) ∧ Drawn0 w w' := by
  have H : (if a1 < 1 then (some 0) else (if a1 = 0 then (none) else (some (Int.tmod (wrap64 ((Int.tmod a0 a1) + a1)) a1)))) = some r := h
  clear h
  by_cases c3 : a1 < 1
  · rw [if_pos c3] at H
    have c3b0 : decide (a1 < 1) = true := decide_eq_true c3
    clear c3
    obtain rfl := Option.some.inj H
    go_enter Try.func17, Try.ntmps17
    go_wp2
    go_ret
    exact ⟨by first | rfl | (simp; done) | (simp [*]; done), by repeat (first | exact Drawn0.refl _ | apply Drawn0.step)⟩
  · rw [if_neg c3] at H
    have c3b0 : decide (a1 < 1) = false := decide_eq_false c3
    clear c3
    by_cases c4 : a1 = 0
    · rw [if_pos c4] at H
      exact absurd H (by simp)
    · rw [if_neg c4] at H
      have c4b0 : (a1 == 0) = false := beq_eq_false_iff_ne.mpr c4
      have c4b1 : (a1 != 0) = true := bne_iff_ne.mpr c4
      obtain rfl := Option.some.inj H
      go_enter Try.func17, Try.ntmps17
      go_wp2
      go_ret
      exact ⟨by first | rfl | (simp; done) | (simp [*]; done), by repeat (first | exact Drawn0.refl _ | apply Drawn0.step)⟩

-- NOT PRINTED: function 5 (annuitylaw19_BillAll)

-- NOT PRINTED: function 37 (bill_Find_1)

-- NOT PRINTED: function 18 (bill_Find)

/-! ### annuityref19_Find: function 19 -/
mutual
def annuityref19_Find.l0 : Nat → List (S45) → Int → Int → Option (Int × Int × Int × Int × Int × List Int × Bool)
  | 0, _, _, _ => none
  | k + 1, x0, x1, x5 => (annuityref19_Good.f k x0).bind fun t345 => (if t345 = true then (annuityref19_Find.j1 k x0 x1 x5 (decide (x5 < (x0.length : Int)))) else (annuityref19_Find.j1 k x0 x1 x5 false))
def annuityref19_Find.j1 : Nat → List (S45) → Int → Int → Bool → Option (Int × Int × Int × Int × Int × List Int × Bool)
  | 0, _, _, _, _ => none
  | k + 1, x0, x1, x5, x13 => if x13 = true then (if 0 ≤ x5 then (if x5 < (x0.length : Int) then (if ((rd_T45 x0 x5).f0) = x1 then (some ((rd_T45 x0 x5).f0, (rd_T45 x0 x5).f1, (rd_T45 x0 x5).f2, (rd_T45 x0 x5).f3, (rd_T45 x0 x5).f4, (rd_T45 x0 x5).f5, true)) else (annuityref19_Find.l0 k x0 x1 (wrap64 (x5 + 1)))) else (none)) else (none)) else (some (0, 0, 0, 0, 0, ([] : List Int), false))
end
def annuityref19_Find.f (k : Nat) (l0 : List (S45)) (a1 : Int) : Option (Int × Int × Int × Int × Int × List Int × Bool) := annuityref19_Find.l0 k l0 a1 0
theorem annuityref19_Find.mono_l : ∀ k, (∀ y0 y1 y2, LeO (annuityref19_Find.l0 k y0 y1 y2) (annuityref19_Find.l0 (k + 1) y0 y1 y2)) ∧ (∀ y0 y1 y2 y3, LeO (annuityref19_Find.j1 k y0 y1 y2 y3) (annuityref19_Find.j1 (k + 1) y0 y1 y2 y3))
  | 0 => ⟨fun _ _ _ r h => by simp [annuityref19_Find.l0] at h, fun _ _ _ _ r h => by simp [annuityref19_Find.j1] at h⟩
  | k + 1 => by
    obtain ⟨ih0, ih1⟩ := annuityref19_Find.mono_l k
    refine ⟨?_, ?_⟩
    · intro y0 y1 y2
      unfold annuityref19_Find.l0
      repeat' first
      | (with_reducible exact ih0 _ _ _)
      | (with_reducible exact ih1 _ _ _ _)
      | (with_reducible exact annuityref19_Good.mono _ _)
      | (with_reducible exact LeO.refl _)
      | (with_reducible exact LeO.none _)
      | (with_reducible refine LeO.ite ?_ ?_)
      | (with_reducible refine LeO.bind ?_ (fun _ => ?_))
      | exact ih0 _ _ _
      | exact ih1 _ _ _ _
      | exact annuityref19_Good.mono _ _
      | exact LeO.none _
      | refine LeO.ite ?_ ?_
      | refine LeO.bind ?_ (fun _ => ?_)
    · intro y0 y1 y2 y3
      unfold annuityref19_Find.j1
      repeat' first
      | (with_reducible exact ih0 _ _ _)
      | (with_reducible exact ih1 _ _ _ _)
      | (with_reducible exact annuityref19_Good.mono _ _)
      | (with_reducible exact LeO.refl _)
      | (with_reducible exact LeO.none _)
      | (with_reducible refine LeO.ite ?_ ?_)
      | (with_reducible refine LeO.bind ?_ (fun _ => ?_))
      | exact ih0 _ _ _
      | exact ih1 _ _ _ _
      | exact annuityref19_Good.mono _ _
      | exact LeO.none _
      | refine LeO.ite ?_ ?_
      | refine LeO.bind ?_ (fun _ => ?_)
theorem annuityref19_Find.mono : ∀ a0 a1 k, LeO (annuityref19_Find.f k a0 a1) (annuityref19_Find.f (k + 1) a0 a1) := by
  intro a0 a1 k
  obtain ⟨ih0, ih1⟩ := annuityref19_Find.mono_l k
  unfold annuityref19_Find.f
  repeat' first
      | (with_reducible exact ih0 _ _ _)
      | (with_reducible exact ih1 _ _ _ _)
      | (with_reducible exact annuityref19_Good.mono _ _)
      | (with_reducible exact LeO.refl _)
      | (with_reducible exact LeO.none _)
      | (with_reducible refine LeO.ite ?_ ?_)
      | (with_reducible refine LeO.bind ?_ (fun _ => ?_))
      | exact ih0 _ _ _
      | exact ih1 _ _ _ _
      | exact annuityref19_Good.mono _ _
      | exact LeO.none _
      | refine LeO.ite ?_ ?_
      | refine LeO.bind ?_ (fun _ => ?_)
set_option maxHeartbeats 8000000 in
set_option maxRecDepth 100000 in
theorem annuityref19_Find.calls (k : Nat) (P0_ : Nat → Prop) (A0 : Option Addr) (c0 : Nat) (l0 : List (S45)) (a1 : Int) (r1 : Int) (r2 : Int) (r3 : Int) (r4 : Int) (r5 : Int) (r6 : List Int) (r7 : Bool) (w : World) (hs0 : Kd.V k45 45 w w.heap.size (fun k_ => P0_ k_) (.slice A0 l0.length c0) l0) (h : annuityref19_Find.f k l0 a1 = some (r1, r2, r3, r4, r5, r6, r7)) :
    Calls Try.prog 19 #[.slice A0 l0.length c0, .int .i64 a1] w fun e w' => ∃ v5_ : Value, e = .returned (.agg #[.int .i64 r1, .int .i64 r2, .int .i64 r3, .int .i64 r4, .int .i64 r5, v5_, .bool r7]) ∧ Kd.V (Kd.int .i64) 3 w' w.heap.size (fun k_ => (P0_ k_ ∨ w.heap.size ≤ k_)) v5_ r6 ∧ Below w.heap.size w w' := by
  have hu50 := Try.underlying50
  have hu45 := Try.underlying45
  have HO0 := Aside0.mk (show Kd.V k45 45 w w.heap.size (fun k_ => (P0_ k_ ∨ w.heap.size ≤ k_)) (.slice A0 l0.length c0) l0 from Kd.V_mono hs0 (fun k_ hk => .inl hk))
  have HB := Aside0.mk (Below.refl w.heap.size w)
  have H : (annuityref19_Find.l0 k l0 a1 0) = some (r1, r2, r3, r4, r5, r6, r7) := h
  clear h
  have H' := Aside0.mk H
  clear H
  go_enter Try.func19, Try.ntmps19
  go_wp2_with (first | ((with_reducible refine gate_dst (N := 4) rfl ?_); (try (refine gate_guard (by rfl) ?_; dsimp only)); refine box_event ?hg (N := 4) ?hd (cs := #[.int .i64 0, .int .i64 0, .int .i64 0, .int .i64 0, .int .i64 0, .slice none 0 0, .bool false]) (t := 50) ?hr ?_; (case hd => rfl); (case hg => rfl); (case hr => first | (go_simp; done) | (go_simp; rfl)); intro gb344 hg w3 hbox hb; have n0_ := Aside0.mk (Kd.V_below (Kd.V_elderB (by (with_reducible repeat (first | apply Kd.V_alloc | apply Kd.V_drewN | apply Kd.V_drew)); exact HO0.out) gb344 (Nat.le_of_eq hg.symm)) hb); have n1_ := Aside0.mk (below_step (by repeat (first | (with_reducible first | exact HB.out | apply below_alloc | apply pw_below_drewN | apply below_drew1) | exact HB.out)) hb); have n2_ := Aside0.mk (hbox); have n3_ := Aside0.mk ((by rw [hg]; exact (below_size (by repeat (first | (with_reducible first | exact HB.out | apply below_alloc | apply pw_below_drewN | apply below_drew1) | exact HB.out))) : w.heap.size ≤ gb344)); have n4_ := Aside0.mk ((by rw [hg]; exact (below_size (by repeat (first | (with_reducible first | exact HB.out | apply below_alloc | apply pw_below_drewN | apply below_drew1) | exact HB.out))) : w.heap.size ≤ gb344)); clear HO0; clear HB; have HO0 := n0_; have HB := n1_; have BK344 := n2_; have GW344 := n3_; have GE344 := n4_; clear n0_ n1_ n2_ n3_ n4_; clear hb hbox hg))
  go_loopg [5] k (fun kq v5 w' => ∃ (x5_1 : Int) (x345000_1 : Int) (x345001_1 : Int) (x345002_1 : Int) (x345003_1 : Int) (x345004_1 : Int) (x345006_1 : Bool), v5 = .int .i64 x5_1 ∧ Aside0 (annuityref19_Find.l0 kq l0 a1 x5_1 = some (r1, r2, r3, r4, r5, r6, r7)) ∧ Aside0 (kq ≤ k) ∧ Aside0 (Kd.V k45 45 w' w.heap.size (fun k_ => (P0_ k_ ∨ w.heap.size ≤ k_) ∧ k_ ≠ gb344) (.slice A0 l0.length c0) l0) ∧ Aside0 (w'.heap[gb344]? = some (.cells #[.int .i64 x345000_1, .int .i64 x345001_1, .int .i64 x345002_1, .int .i64 x345003_1, .int .i64 x345004_1, (.slice none 0 0), .bool x345006_1] 50 (0, 0))) ∧ Aside0 (Below w.heap.size w w'))
  case atStart => exact ⟨(0), (0), (0), (0), (0), (0), (false), (by first | rfl | (simp; done) | (simp [*]; done)), H', ⟨Nat.le_refl _⟩, ⟨by (with_reducible repeat (first | apply Kd.V_alloc | apply Kd.V_drewN | apply Kd.V_drew)); exact HO0.out⟩, ⟨by (with_reducible repeat (first | refine blk_drewN ?_ _ | refine blk_drew ?_ | refine blk_alloc ?_ _)); exact BK344.out⟩, ⟨by repeat (first | (with_reducible first | exact HB.out | apply below_alloc | apply pw_below_drewN | apply below_drew1 | refine below_set ?_ GE344.out) | exact HB.out)⟩⟩
  case round =>
    clear H'
    try clear c1
    try clear p2
    obtain ⟨x5_1, x345000_1, x345001_1, x345002_1, x345003_1, x345004_1, x345006_1, rfl, HA, HK1, HO_0, BK344, HB⟩ := hrel
    cases gk with
    | zero => exact absurd HA.out (by simp [annuityref19_Find.l0])
    | succ k1 =>
      have H := HA.out
      clear HA
      simp only [annuityref19_Find.l0] at H
      have HC4 := Aside0.mk H
      clear H
      go_upto_region 2 with (fail)
      go_cut [13] (fun v13 wc => ∃ (kq : Nat) (x13_3 : Bool), v13 = .bool x13_3 ∧ Aside0 (annuityref19_Find.j1 kq l0 a1 x5_1 x13_3 = some (r1, r2, r3, r4, r5, r6, r7)) ∧ Aside0 (kq ≤ k1) ∧ Aside0 (Kd.V k45 45 wc w.heap.size (fun k_ => (P0_ k_ ∨ w.heap.size ≤ k_) ∧ k_ ≠ gb344) (.slice A0 l0.length c0) l0) ∧ Aside0 (wc.heap[gb344]? = some (.cells #[.int .i64 x345000_1, .int .i64 x345001_1, .int .i64 x345002_1, .int .i64 x345003_1, .int .i64 x345004_1, (.slice none 0 0), .bool x345006_1] 50 (0, 0))) ∧ Aside0 (Below w.heap.size w wc))
      case first =>
        have H := HC4.out
        clear HC4
        replace H := Option.bind_eq_some_iff.mp H
        obtain ⟨t345, A50, H⟩ := H
        replace H : (if t345 = true then (annuityref19_Find.j1 k1 l0 a1 x5_1 (decide (x5_1 < (l0.length : Int)))) else (annuityref19_Find.j1 k1 l0 a1 x5_1 false)) = some (r1, r2, r3, r4, r5, r6, r7) := H
        have A5 := Aside0.mk A50
        clear A50
        by_cases c6 : t345 = true
        · subst c6
          have H1 : (annuityref19_Find.j1 k1 l0 a1 x5_1 (decide (x5_1 < (l0.length : Int)))) = some (r1, r2, r3, r4, r5, r6, r7) := by rw [if_pos rfl] at H; exact H
          clear H
          have H := H1
          clear H1
          have H' := Aside0.mk H
          clear H
          go_wp2_with (first | ((with_reducible refine gate_callee (f := 16) rfl ?_); refine goesL_ (some 7) rfl rfl Try.func16 (by kernel_rfl) rfl #[.slice A0 l0.length c0] rfl (by (try simp only [List.map_toArray, List.map_cons, List.map_nil]); first | done | rfl | (simp only [List.length_drop, List.length_take]; rfl)) ?_; (with_reducible refine (annuityref19_Good.calls k1 _ _ l0 true _ ?side1 ?side2 A5.out).mono ?_); (case side1 => repeat (first | exact (Kd.V_reads' HO_0.out).2.2 | (with_reducible refine Kd.C_alloc ?_ _) | (with_reducible refine Kd.C_drewN ?_ _) | (with_reducible refine Kd.C_drew ?_))); (case side2 => exact (Kd.V_reads' HO_0.out).2.1); rintro e w7 ⟨rfl, hb⟩; refine ⟨_, rfl, ?_⟩; have n0_ := Aside0.mk (Kd.V_below (by (with_reducible repeat (first | apply Kd.V_alloc | apply Kd.V_drewN | apply Kd.V_drew)); exact HO_0.out) hb); have n1_ := Aside0.mk (blk_below (g := gb344) (Up.up BK344.out) hb); have n2_ := Aside0.mk (below_step (by repeat (first | (with_reducible first | exact HB.out | apply below_alloc | apply pw_below_drewN | apply below_drew1 | refine below_set ?_ GE344.out) | exact HB.out)) hb); clear HO_0; clear BK344; clear HB; have HO_0 := n0_; have BK344 := n1_; have HB := n2_; clear n0_ n1_ n2_; (try clear hb); (try clear hb2); (try clear hk); (try clear hi)))
          go_meet
          case rel => exact ⟨_, (decide (x5_1 < (l0.length : Int))), (by first | rfl | (simp; done) | (simp [*]; done)), H', ⟨by have := HK1.out; first | omega | exact Nat.le_refl _⟩, ⟨by (with_reducible repeat (first | apply Kd.V_alloc | apply Kd.V_drewN | apply Kd.V_drew)); exact HO_0.out⟩, ⟨by (with_reducible repeat (first | refine blk_drewN ?_ _ | refine blk_drew ?_ | refine blk_alloc ?_ _)); exact BK344.out⟩, ⟨by repeat (first | (with_reducible first | exact HB.out | apply below_alloc | apply pw_below_drewN | apply below_drew1 | refine below_set ?_ GE344.out) | exact HB.out)⟩⟩
        · replace c6 := Bool.eq_false_iff.mpr c6
          subst c6
          have H1 : (annuityref19_Find.j1 k1 l0 a1 x5_1 false) = some (r1, r2, r3, r4, r5, r6, r7) := by rw [if_neg (show ¬ (false = true) by decide)] at H; exact H
          clear H
          have H := H1
          clear H1
          have H' := Aside0.mk H
          clear H
          go_wp2_with (first | ((with_reducible refine gate_callee (f := 16) rfl ?_); refine goesL_ (some 7) rfl rfl Try.func16 (by kernel_rfl) rfl #[.slice A0 l0.length c0] rfl (by (try simp only [List.map_toArray, List.map_cons, List.map_nil]); first | done | rfl | (simp only [List.length_drop, List.length_take]; rfl)) ?_; (with_reducible refine (annuityref19_Good.calls k1 _ _ l0 false _ ?side1 ?side2 A5.out).mono ?_); (case side1 => repeat (first | exact (Kd.V_reads' HO_0.out).2.2 | (with_reducible refine Kd.C_alloc ?_ _) | (with_reducible refine Kd.C_drewN ?_ _) | (with_reducible refine Kd.C_drew ?_))); (case side2 => exact (Kd.V_reads' HO_0.out).2.1); rintro e w8 ⟨rfl, hb⟩; refine ⟨_, rfl, ?_⟩; have n0_ := Aside0.mk (Kd.V_below (by (with_reducible repeat (first | apply Kd.V_alloc | apply Kd.V_drewN | apply Kd.V_drew)); exact HO_0.out) hb); have n1_ := Aside0.mk (blk_below (g := gb344) (Up.up BK344.out) hb); have n2_ := Aside0.mk (below_step (by repeat (first | (with_reducible first | exact HB.out | apply below_alloc | apply pw_below_drewN | apply below_drew1 | refine below_set ?_ GE344.out) | exact HB.out)) hb); clear HO_0; clear BK344; clear HB; have HO_0 := n0_; have BK344 := n1_; have HB := n2_; clear n0_ n1_ n2_; (try clear hb); (try clear hb2); (try clear hk); (try clear hi)))
          go_meet
          case rel => exact ⟨_, (false), (by first | rfl | (simp; done) | (simp [*]; done)), H', ⟨by have := HK1.out; first | omega | exact Nat.le_refl _⟩, ⟨by (with_reducible repeat (first | apply Kd.V_alloc | apply Kd.V_drewN | apply Kd.V_drew)); exact HO_0.out⟩, ⟨by (with_reducible repeat (first | refine blk_drewN ?_ _ | refine blk_drew ?_ | refine blk_alloc ?_ _)); exact BK344.out⟩, ⟨by repeat (first | (with_reducible first | exact HB.out | apply below_alloc | apply pw_below_drewN | apply below_drew1 | refine below_set ?_ GE344.out) | exact HB.out)⟩⟩
      case rest =>
        clear HC4
        try clear c1
        try clear p2
        try clear c6
        try clear p2
        obtain ⟨kq, x13_3, rfl, HA, HJ3, HO_0, BK344, HB⟩ := hcut
        cases kq with
        | zero => exact absurd HA.out (by simp [annuityref19_Find.j1])
        | succ kj3 =>
          have H := HA.out
          clear HA
          simp only [annuityref19_Find.j1] at H
          by_cases c9 : x13_3 = true
          · subst c9
            have H1 : (if 0 ≤ x5_1 then (if x5_1 < (l0.length : Int) then (if ((rd_T45 l0 x5_1).f0) = a1 then (some ((rd_T45 l0 x5_1).f0, (rd_T45 l0 x5_1).f1, (rd_T45 l0 x5_1).f2, (rd_T45 l0 x5_1).f3, (rd_T45 l0 x5_1).f4, (rd_T45 l0 x5_1).f5, true)) else (annuityref19_Find.l0 kj3 l0 a1 (wrap64 (x5_1 + 1)))) else (none)) else (none)) = some (r1, r2, r3, r4, r5, r6, r7) := by rw [if_pos rfl] at H; exact H
            clear H
            have H := H1
            clear H1
            by_cases c10 : 0 ≤ x5_1
            · rw [if_pos c10] at H
              have c10b0 : decide (0 ≤ x5_1) = true := decide_eq_true c10
              clear c10
              by_cases c11 : x5_1 < (l0.length : Int)
              · rw [if_pos c11] at H
                have c11b0 : decide (x5_1 < (l0.length : Int)) = true := decide_eq_true c11
                clear c11
                by_cases c12 : ((rd_T45 l0 x5_1).f0) = a1
                · rw [if_pos c12] at H
                  have c12b0 : (((rd_T45 l0 x5_1).f0) == a1) = true := beq_iff_eq.mpr c12
                  have c12b1 : (((rd_T45 l0 x5_1).f0) != a1) = false := bne_eq_false_iff_eq.mpr c12
                  clear c12
                  simp only [Option.some.injEq, Prod.mk.injEq] at H
                  obtain ⟨rfl, rfl, rfl, rfl, rfl, rfl, rfl⟩ := H
                  have p346 : 0 ≤ (x5_1 : Int) := of_decide_eq_true (by first | (with_reducible assumption) | assumption)
                  have q346 : x5_1 < (l0.length : Int) := of_decide_eq_true (by first | (with_reducible assumption) | assumption)
                  obtain ⟨ad346, A346_5, c346_5, e346, hx346_0, hx346_1, hx346_2, hx346_3, hx346_4, hx346_5, hl346_5, hi346_5⟩ := at_T45 (Kd.V_reads' HO_0.out).2.2 x5_1 p346 q346
                  cases e346
                  obtain ⟨ce346, hce346, hMe346, hcc346⟩ := Kd.V_get HO_0.out z45 x5_1 p346 (by first | exact q346 | exact of_decide_eq_true (by first | (with_reducible assumption) | assumption) | (have e_ := (Kd.V_reads' HO_0.out).1; omega))
                  obtain ⟨ua346_5, uc346_5, rfl, ul346_5, ge346_5⟩ := k45_openF hMe346
                  have hv346_5 := hcc346 5 _ rfl
                  rw [add_field _ _ 5 (by omega)] at hv346_5
                  replace hv346_5 := Option.some.inj (hv346_5.symm.trans hx346_5)
                  injection hv346_5 with hva_ hvn_ hvc_
                  rw [hva_] at ge346_5
                  rw [hvc_] at ul346_5
                  have HL346_5 := Aside0.mk (show Kd.V (Kd.int .i64) 3 _ w.heap.size _ _ ((rd_T45 l0 x5_1).f5) from Kd.V_mk ul346_5 ge346_5)
                  clear hva_ hvn_ hvc_ ge346_5 ul346_5
                  clear hcc346 hce346
                  have HR346_5 := Aside0.mk hi346_5
                  have HC346_5 := Aside0.mk hl346_5
                  clear hi346_5 hl346_5
                  replace p346 := eq_true p346
                  replace q346 := eq_true q346
                  have p347 : 0 ≤ (x5_1 : Int) := of_decide_eq_true (by first | (with_reducible assumption) | assumption)
                  have q347 : x5_1 < (l0.length : Int) := of_decide_eq_true (by first | (with_reducible assumption) | assumption)
                  obtain ⟨ad347, A347_5, c347_5, e347, hx347_0, hx347_1, hx347_2, hx347_3, hx347_4, hx347_5, hl347_5, hi347_5⟩ := at_T45 (Kd.V_reads' HO_0.out).2.2 x5_1 p347 q347
                  obtain rfl : ad346 = ad347 := (by injection e347)
                  obtain ⟨ce347, hce347, hMe347, hcc347⟩ := Kd.V_get HO_0.out z45 x5_1 p347 (by first | exact q347 | exact of_decide_eq_true (by first | (with_reducible assumption) | assumption) | (have e_ := (Kd.V_reads' HO_0.out).1; omega))
                  obtain ⟨ua347_5, uc347_5, rfl, ul347_5, ge347_5⟩ := k45_openF hMe347
                  have hv347_5 := hcc347 5 _ rfl
                  rw [add_field _ _ 5 (by omega)] at hv347_5
                  replace hv347_5 := Option.some.inj (hv347_5.symm.trans hx347_5)
                  injection hv347_5 with hva_ hvn_ hvc_
                  rw [hva_] at ge347_5
                  rw [hvc_] at ul347_5
                  have HL347_5 := Aside0.mk (show Kd.V (Kd.int .i64) 3 _ w.heap.size _ _ ((rd_T45 l0 x5_1).f5) from Kd.V_mk ul347_5 ge347_5)
                  clear hva_ hvn_ hvc_ ge347_5 ul347_5
                  clear hcc347 hce347
                  have HR347_5 := Aside0.mk hi347_5
                  have HC347_5 := Aside0.mk hl347_5
                  clear hi347_5 hl347_5
                  replace p347 := eq_true p347
                  replace q347 := eq_true q347
                  have ea_ := Option.some.inj (hx346_5.symm.trans hx347_5)
                  injection ea_ with ea_ en_ ec_
                  subst ea_
                  subst ec_
                  clear en_
                  have hcz13_0 : wc.cell? ⟨gb344, 0, none⟩ = some (.int .i64 x345000_1) := (blk_cell BK344.out 0).trans rfl
                  have hcz13_1 : wc.cell? ⟨gb344, 1, none⟩ = some (.int .i64 x345001_1) := (blk_cell BK344.out 1).trans rfl
                  have hcz13_2 : wc.cell? ⟨gb344, 2, none⟩ = some (.int .i64 x345002_1) := (blk_cell BK344.out 2).trans rfl
                  have hcz13_3 : wc.cell? ⟨gb344, 3, none⟩ = some (.int .i64 x345003_1) := (blk_cell BK344.out 3).trans rfl
                  have hcz13_4 : wc.cell? ⟨gb344, 4, none⟩ = some (.int .i64 x345004_1) := (blk_cell BK344.out 4).trans rfl
                  have hcz13_5 : wc.cell? ⟨gb344, 5, none⟩ = some (.slice none 0 0) := (blk_cell BK344.out 5).trans rfl
                  have hcz13_6 : wc.cell? ⟨gb344, 6, none⟩ = some (.bool x345006_1) := (blk_cell BK344.out 6).trans rfl
                  have hfz13_0 := blk_frozen BK344.out 0
                  have hfz13_1 := blk_frozen BK344.out 1
                  have hfz13_2 := blk_frozen BK344.out 2
                  have hfz13_3 := blk_frozen BK344.out 3
                  have hfz13_4 := blk_frozen BK344.out 4
                  have hfz13_5 := blk_frozen BK344.out 5
                  have hfz13_6 := blk_frozen BK344.out 6
                  go_wp2
                  refine bodyPost_ret (results_cell_row rfl _ _ gb344 50 #[.int .i64 ((rd_T45 l0 x5_1).f0), .int .i64 ((rd_T45 l0 x5_1).f1), .int .i64 ((rd_T45 l0 x5_1).f2), .int .i64 ((rd_T45 l0 x5_1).f3), .int .i64 ((rd_T45 l0 x5_1).f4), .slice A346_5 ((rd_T45 l0 x5_1).f5).length c346_5, .bool true] (0, 0) _ rfl (by (with_reducible repeat (first | refine blk_drewN ?_ _ | refine blk_drew ?_ | refine blk_alloc ?_ _)); refine blk_put (cs := #[.int .i64 ((rd_T45 l0 x5_1).f0), .int .i64 ((rd_T45 l0 x5_1).f1), .int .i64 ((rd_T45 l0 x5_1).f2), .int .i64 ((rd_T45 l0 x5_1).f3), .int .i64 ((rd_T45 l0 x5_1).f4), .slice A346_5 ((rd_T45 l0 x5_1).f5).length c346_5, .bool x345006_1]) ?_ 6 _ rfl; (with_reducible repeat (first | refine blk_drewN ?_ _ | refine blk_drew ?_ | refine blk_alloc ?_ _)); refine blk_put (cs := #[.int .i64 ((rd_T45 l0 x5_1).f0), .int .i64 ((rd_T45 l0 x5_1).f1), .int .i64 ((rd_T45 l0 x5_1).f2), .int .i64 ((rd_T45 l0 x5_1).f3), .int .i64 ((rd_T45 l0 x5_1).f4), .slice none 0 0, .bool x345006_1]) ?_ 5 _ rfl; (with_reducible repeat (first | refine blk_drewN ?_ _ | refine blk_drew ?_ | refine blk_alloc ?_ _)); refine blk_put (cs := #[.int .i64 ((rd_T45 l0 x5_1).f0), .int .i64 ((rd_T45 l0 x5_1).f1), .int .i64 ((rd_T45 l0 x5_1).f2), .int .i64 ((rd_T45 l0 x5_1).f3), .int .i64 x345004_1, .slice none 0 0, .bool x345006_1]) ?_ 4 _ rfl; (with_reducible repeat (first | refine blk_drewN ?_ _ | refine blk_drew ?_ | refine blk_alloc ?_ _)); refine blk_put (cs := #[.int .i64 ((rd_T45 l0 x5_1).f0), .int .i64 ((rd_T45 l0 x5_1).f1), .int .i64 ((rd_T45 l0 x5_1).f2), .int .i64 x345003_1, .int .i64 x345004_1, .slice none 0 0, .bool x345006_1]) ?_ 3 _ rfl; (with_reducible repeat (first | refine blk_drewN ?_ _ | refine blk_drew ?_ | refine blk_alloc ?_ _)); refine blk_put (cs := #[.int .i64 ((rd_T45 l0 x5_1).f0), .int .i64 ((rd_T45 l0 x5_1).f1), .int .i64 x345002_1, .int .i64 x345003_1, .int .i64 x345004_1, .slice none 0 0, .bool x345006_1]) ?_ 2 _ rfl; (with_reducible repeat (first | refine blk_drewN ?_ _ | refine blk_drew ?_ | refine blk_alloc ?_ _)); refine blk_put (cs := #[.int .i64 ((rd_T45 l0 x5_1).f0), .int .i64 x345001_1, .int .i64 x345002_1, .int .i64 x345003_1, .int .i64 x345004_1, .slice none 0 0, .bool x345006_1]) ?_ 1 _ rfl; (with_reducible repeat (first | refine blk_drewN ?_ _ | refine blk_drew ?_ | refine blk_alloc ?_ _)); refine blk_put (cs := #[.int .i64 x345000_1, .int .i64 x345001_1, .int .i64 x345002_1, .int .i64 x345003_1, .int .i64 x345004_1, .slice none 0 0, .bool x345006_1]) ?_ 0 _ rfl; (with_reducible repeat (first | refine blk_drewN ?_ _ | refine blk_drew ?_ | refine blk_alloc ?_ _)); exact BK344.out) Try.underlying50 rfl (by kernel_rfl)) rfl ?_
                  exact ⟨_, by first | rfl | (simp [errW_none, errW_some] <;> rfl) | (simp [*, errW_none, errW_some] <;> rfl), by (with_reducible repeat (first | apply Kd.V_alloc | apply Kd.V_drewN | apply Kd.V_drew)); exact Kd.V_mono (Kd.V_far (p := ⟨gb344, 6, none⟩) (Kd.V_far (p := ⟨gb344, 5, none⟩) (Kd.V_far (p := ⟨gb344, 4, none⟩) (Kd.V_far (p := ⟨gb344, 3, none⟩) (Kd.V_far (p := ⟨gb344, 2, none⟩) (Kd.V_far (p := ⟨gb344, 1, none⟩) (Kd.V_far (p := ⟨gb344, 0, none⟩) (Kd.V_mono HL347_5.out (fun k_ hk => (⟨hk, hk.2⟩ : _ ∧ k_ ≠ gb344))) (fun _ hk => hk.2) (.int .i64 ((rd_T45 l0 x5_1).f0))) (fun _ hk => hk.2) (.int .i64 ((rd_T45 l0 x5_1).f1))) (fun _ hk => hk.2) (.int .i64 ((rd_T45 l0 x5_1).f2))) (fun _ hk => hk.2) (.int .i64 ((rd_T45 l0 x5_1).f3))) (fun _ hk => hk.2) (.int .i64 ((rd_T45 l0 x5_1).f4))) (fun _ hk => hk.2) (.slice A346_5 ((rd_T45 l0 x5_1).f5).length c346_5)) (fun _ hk => hk.2) (.bool true)) (fun _ hk => hk.1.1), by repeat (first | (with_reducible first | exact HB.out | apply below_alloc | apply pw_below_drewN | apply below_drew1 | refine below_set ?_ GE344.out) | exact HB.out)⟩
                · rw [if_neg c12] at H
                  have c12b0 : (((rd_T45 l0 x5_1).f0) == a1) = false := beq_eq_false_iff_ne.mpr c12
                  have c12b1 : (((rd_T45 l0 x5_1).f0) != a1) = true := bne_iff_ne.mpr c12
                  have H' := Aside0.mk H
                  clear H
                  have p346 : 0 ≤ (x5_1 : Int) := of_decide_eq_true (by first | (with_reducible assumption) | assumption)
                  have q346 : x5_1 < (l0.length : Int) := of_decide_eq_true (by first | (with_reducible assumption) | assumption)
                  obtain ⟨ad346, A346_5, c346_5, e346, hx346_0, hx346_1, hx346_2, hx346_3, hx346_4, hx346_5, hl346_5, hi346_5⟩ := at_T45 (Kd.V_reads' HO_0.out).2.2 x5_1 p346 q346
                  cases e346
                  obtain ⟨ce346, hce346, hMe346, hcc346⟩ := Kd.V_get HO_0.out z45 x5_1 p346 (by first | exact q346 | exact of_decide_eq_true (by first | (with_reducible assumption) | assumption) | (have e_ := (Kd.V_reads' HO_0.out).1; omega))
                  obtain ⟨ua346_5, uc346_5, rfl, ul346_5, ge346_5⟩ := k45_openF hMe346
                  have hv346_5 := hcc346 5 _ rfl
                  rw [add_field _ _ 5 (by omega)] at hv346_5
                  replace hv346_5 := Option.some.inj (hv346_5.symm.trans hx346_5)
                  injection hv346_5 with hva_ hvn_ hvc_
                  rw [hva_] at ge346_5
                  rw [hvc_] at ul346_5
                  have HL346_5 := Aside0.mk (show Kd.V (Kd.int .i64) 3 _ w.heap.size _ _ ((rd_T45 l0 x5_1).f5) from Kd.V_mk ul346_5 ge346_5)
                  clear hva_ hvn_ hvc_ ge346_5 ul346_5
                  clear hcc346 hce346
                  have HR346_5 := Aside0.mk hi346_5
                  have HC346_5 := Aside0.mk hl346_5
                  clear hi346_5 hl346_5
                  replace p346 := eq_true p346
                  replace q346 := eq_true q346
                  go_wp2
                  go_roundg kj3
                  case measure => have := HK1.out; have := HJ3.out; omega
                  case rel => exact ⟨(wrap64 (x5_1 + 1)), (x345000_1), (x345001_1), (x345002_1), (x345003_1), (x345004_1), (x345006_1), (by first | rfl | (simp; done) | (simp [*]; done)), H', ⟨by have := HK1.out; have := HJ3.out; omega⟩, ⟨by (with_reducible repeat (first | apply Kd.V_alloc | apply Kd.V_drewN | apply Kd.V_drew)); exact HO_0.out⟩, ⟨by (with_reducible repeat (first | refine blk_drewN ?_ _ | refine blk_drew ?_ | refine blk_alloc ?_ _)); exact BK344.out⟩, ⟨by repeat (first | (with_reducible first | exact HB.out | apply below_alloc | apply pw_below_drewN | apply below_drew1 | refine below_set ?_ GE344.out) | exact HB.out)⟩⟩
              · rw [if_neg c11] at H
                exact absurd H (by simp)
            · rw [if_neg c10] at H
              exact absurd H (by simp)
          · replace c9 := Bool.eq_false_iff.mpr c9
            subst c9
            have H1 : (some (0, 0, 0, 0, 0, ([] : List Int), false)) = some (r1, r2, r3, r4, r5, r6, r7) := by rw [if_neg (show ¬ (false = true) by decide)] at H; exact H
            clear H
            have H := H1
            clear H1
            simp only [Option.some.injEq, Prod.mk.injEq] at H
            obtain ⟨rfl, rfl, rfl, rfl, rfl, rfl, rfl⟩ := H
            have hcz14_0 : wc.cell? ⟨gb344, 0, none⟩ = some (.int .i64 x345000_1) := (blk_cell BK344.out 0).trans rfl
            have hcz14_1 : wc.cell? ⟨gb344, 1, none⟩ = some (.int .i64 x345001_1) := (blk_cell BK344.out 1).trans rfl
            have hcz14_2 : wc.cell? ⟨gb344, 2, none⟩ = some (.int .i64 x345002_1) := (blk_cell BK344.out 2).trans rfl
            have hcz14_3 : wc.cell? ⟨gb344, 3, none⟩ = some (.int .i64 x345003_1) := (blk_cell BK344.out 3).trans rfl
            have hcz14_4 : wc.cell? ⟨gb344, 4, none⟩ = some (.int .i64 x345004_1) := (blk_cell BK344.out 4).trans rfl
            have hcz14_5 : wc.cell? ⟨gb344, 5, none⟩ = some (.slice none 0 0) := (blk_cell BK344.out 5).trans rfl
            have hcz14_6 : wc.cell? ⟨gb344, 6, none⟩ = some (.bool x345006_1) := (blk_cell BK344.out 6).trans rfl
            have hfz14_0 := blk_frozen BK344.out 0
            have hfz14_1 := blk_frozen BK344.out 1
            have hfz14_2 := blk_frozen BK344.out 2
            have hfz14_3 := blk_frozen BK344.out 3
            have hfz14_4 := blk_frozen BK344.out 4
            have hfz14_5 := blk_frozen BK344.out 5
            have hfz14_6 := blk_frozen BK344.out 6
            go_wp2
            refine bodyPost_ret (results_cell_row rfl _ _ gb344 50 #[.int .i64 0, .int .i64 0, .int .i64 0, .int .i64 0, .int .i64 0, .slice none 0 0, .bool false] (0, 0) _ rfl (by (with_reducible repeat (first | refine blk_drewN ?_ _ | refine blk_drew ?_ | refine blk_alloc ?_ _)); refine blk_put (cs := #[.int .i64 0, .int .i64 0, .int .i64 0, .int .i64 0, .int .i64 0, .slice none 0 0, .bool x345006_1]) ?_ 6 _ rfl; (with_reducible repeat (first | refine blk_drewN ?_ _ | refine blk_drew ?_ | refine blk_alloc ?_ _)); refine blk_put (cs := #[.int .i64 0, .int .i64 0, .int .i64 0, .int .i64 0, .int .i64 0, .slice none 0 0, .bool x345006_1]) ?_ 5 _ rfl; (with_reducible repeat (first | refine blk_drewN ?_ _ | refine blk_drew ?_ | refine blk_alloc ?_ _)); refine blk_put (cs := #[.int .i64 0, .int .i64 0, .int .i64 0, .int .i64 0, .int .i64 x345004_1, .slice none 0 0, .bool x345006_1]) ?_ 4 _ rfl; (with_reducible repeat (first | refine blk_drewN ?_ _ | refine blk_drew ?_ | refine blk_alloc ?_ _)); refine blk_put (cs := #[.int .i64 0, .int .i64 0, .int .i64 0, .int .i64 x345003_1, .int .i64 x345004_1, .slice none 0 0, .bool x345006_1]) ?_ 3 _ rfl; (with_reducible repeat (first | refine blk_drewN ?_ _ | refine blk_drew ?_ | refine blk_alloc ?_ _)); refine blk_put (cs := #[.int .i64 0, .int .i64 0, .int .i64 x345002_1, .int .i64 x345003_1, .int .i64 x345004_1, .slice none 0 0, .bool x345006_1]) ?_ 2 _ rfl; (with_reducible repeat (first | refine blk_drewN ?_ _ | refine blk_drew ?_ | refine blk_alloc ?_ _)); refine blk_put (cs := #[.int .i64 0, .int .i64 x345001_1, .int .i64 x345002_1, .int .i64 x345003_1, .int .i64 x345004_1, .slice none 0 0, .bool x345006_1]) ?_ 1 _ rfl; (with_reducible repeat (first | refine blk_drewN ?_ _ | refine blk_drew ?_ | refine blk_alloc ?_ _)); refine blk_put (cs := #[.int .i64 x345000_1, .int .i64 x345001_1, .int .i64 x345002_1, .int .i64 x345003_1, .int .i64 x345004_1, .slice none 0 0, .bool x345006_1]) ?_ 0 _ rfl; (with_reducible repeat (first | refine blk_drewN ?_ _ | refine blk_drew ?_ | refine blk_alloc ?_ _)); exact BK344.out) Try.underlying50 rfl (by kernel_rfl)) rfl ?_
            exact ⟨_, by first | rfl | (simp [errW_none, errW_some] <;> rfl) | (simp [*, errW_none, errW_some] <;> rfl), Kd.V_nil _ _ _ _ _, by repeat (first | (with_reducible first | exact HB.out | apply below_alloc | apply pw_below_drewN | apply below_drew1 | refine below_set ?_ GE344.out) | exact HB.out)⟩

end Go.Proofs.Ytibjbgfphhmogaa.P
