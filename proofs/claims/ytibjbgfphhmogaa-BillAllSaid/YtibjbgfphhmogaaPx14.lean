/- Functions of the program as plain Lean functions, and proofs that its calls come to just their answers, where they tell one (written by a program of this session). -/
import Derived.Test.YtibjbgfphhmogaaPx0
import Derived.Test.YtibjbgfphhmogaaPx7
import Derived.Test.YtibjbgfphhmogaaZg
namespace Go.Proofs.Ytibjbgfphhmogaa.P
open Go.RowKit Go.Proofs.YtibjbgfphhmogaaW.PrintWords Go.Proofs.YtibjbgfphhmogaaW.PrintLast Go.Proofs.YtibjbgfphhmogaaW.PrintMore
attribute [local go_sem] max2_int min2_int max_two min_two max_three min_three max_four min_four   -- for this text's walks alone
set_option linter.unusedVariables false
set_option linter.unusedSimpArgs false

/-! ### annuityref19_Credit: function 15 -/
mutual
def annuityref19_Credit.j0 : Nat → List (S45) → Int → Int → Bool → Option ((List (S45)) × Int × Int)
  | 0, _, _, _, _ => none
  | k + 1, x0, x1, x2, x22 => if x22 = true then (some (([] : List (S45)), 0, 1)) else ((annuitykeep_CopyBills.f k x0).bind fun t263 => (annuityref19_Credit.l0 k x1 x2 t263 0))
def annuityref19_Credit.l0 : Nat → Int → Int → List (S45) → Int → Option ((List (S45)) × Int × Int)
  | 0, _, _, _, _ => none
  | k + 1, x1, x2, x8, x9 => if x9 < (x8.length : Int) then (if 0 ≤ x9 then (if ((rd_T45 x8 x9).f2) = 0 then (annuityref19_Credit.l0 k x1 x2 x8 (wrap64 (x9 + 1))) else ((some (x8.set (x9 : Int).toNat (⟨(rd_T45 x8 x9).f0, (rd_T45 x8 x9).f1, wrap64 (((rd_T45 x8 x9).f2) - (mn x1 ((rd_T45 x8 x9).f2))), (rd_T45 x8 x9).f3, (rd_T45 x8 x9).f4, (rd_T45 x8 x9).f5⟩ : S45) : List (S45))).bind fun y269 => (if ((rd_T45 y269 x9).f2) = 0 then (annuityref19_Credit.l0 k (wrap64 (x1 - (mn x1 ((rd_T45 x8 x9).f2)))) x2 (y269.set (x9 : Int).toNat (⟨(rd_T45 y269 x9).f0, (rd_T45 y269 x9).f1, (rd_T45 y269 x9).f2, x2, (rd_T45 y269 x9).f4, (rd_T45 y269 x9).f5⟩ : S45)) (wrap64 (x9 + 1))) else (annuityref19_Credit.l0 k (wrap64 (x1 - (mn x1 ((rd_T45 x8 x9).f2)))) x2 y269 (wrap64 (x9 + 1)))))) else (none)) else (some (x8, x1, 0))
end
def annuityref19_Credit.f (k : Nat) (l0 : List (S45)) (a1 : Int) (a2 : Int) : Option ((List (S45)) × Int × Int) := (annuityref19_Good.f k l0).bind fun t260 => (if t260 = true then ((annuityref19_money.f a1).bind fun t261 => (if t261 = true then ((annuityref04_Good.f a2).bind fun t262 => (annuityref19_Credit.j0 k l0 a1 a2 (!t262))) else (annuityref19_Credit.j0 k l0 a1 a2 true))) else (some (([] : List (S45)), 0, 11)))
theorem annuityref19_Credit.mono_l : ∀ k, (∀ y0 y1 y2 y3, LeO (annuityref19_Credit.j0 k y0 y1 y2 y3) (annuityref19_Credit.j0 (k + 1) y0 y1 y2 y3)) ∧ (∀ y0 y1 y2 y3, LeO (annuityref19_Credit.l0 k y0 y1 y2 y3) (annuityref19_Credit.l0 (k + 1) y0 y1 y2 y3))
  | 0 => ⟨fun _ _ _ _ r h => by simp [annuityref19_Credit.j0] at h, fun _ _ _ _ r h => by simp [annuityref19_Credit.l0] at h⟩
  | k + 1 => by
    obtain ⟨ih0, ih1⟩ := annuityref19_Credit.mono_l k
    refine ⟨?_, ?_⟩
    · intro y0 y1 y2 y3
      unfold annuityref19_Credit.j0
      repeat' first
      | (with_reducible exact ih0 _ _ _ _)
      | (with_reducible exact ih1 _ _ _ _)
      | (with_reducible exact annuitykeep_CopyBills.mono _ _)
      | (with_reducible exact annuityref19_Good.mono _ _)
      | (with_reducible exact LeO.refl _)
      | (with_reducible exact LeO.none _)
      | (with_reducible refine LeO.ite ?_ ?_)
      | (with_reducible refine LeO.bind ?_ (fun _ => ?_))
      | exact ih0 _ _ _ _
      | exact ih1 _ _ _ _
      | exact annuitykeep_CopyBills.mono _ _
      | exact annuityref19_Good.mono _ _
      | exact LeO.none _
      | refine LeO.ite ?_ ?_
      | refine LeO.bind ?_ (fun _ => ?_)
    · intro y0 y1 y2 y3
      unfold annuityref19_Credit.l0
      repeat' first
      | (with_reducible exact ih0 _ _ _ _)
      | (with_reducible exact ih1 _ _ _ _)
      | (with_reducible exact annuitykeep_CopyBills.mono _ _)
      | (with_reducible exact annuityref19_Good.mono _ _)
      | (with_reducible exact LeO.refl _)
      | (with_reducible exact LeO.none _)
      | (with_reducible refine LeO.ite ?_ ?_)
      | (with_reducible refine LeO.bind ?_ (fun _ => ?_))
      | exact ih0 _ _ _ _
      | exact ih1 _ _ _ _
      | exact annuitykeep_CopyBills.mono _ _
      | exact annuityref19_Good.mono _ _
      | exact LeO.none _
      | refine LeO.ite ?_ ?_
      | refine LeO.bind ?_ (fun _ => ?_)
theorem annuityref19_Credit.mono : ∀ a0 a1 a2 k, LeO (annuityref19_Credit.f k a0 a1 a2) (annuityref19_Credit.f (k + 1) a0 a1 a2) := by
  intro a0 a1 a2 k
  obtain ⟨ih0, ih1⟩ := annuityref19_Credit.mono_l k
  unfold annuityref19_Credit.f
  repeat' first
      | (with_reducible exact ih0 _ _ _ _)
      | (with_reducible exact ih1 _ _ _ _)
      | (with_reducible exact annuitykeep_CopyBills.mono _ _)
      | (with_reducible exact annuityref19_Good.mono _ _)
      | (with_reducible exact LeO.refl _)
      | (with_reducible exact LeO.none _)
      | (with_reducible refine LeO.ite ?_ ?_)
      | (with_reducible refine LeO.bind ?_ (fun _ => ?_))
      | exact ih0 _ _ _ _
      | exact ih1 _ _ _ _
      | exact annuitykeep_CopyBills.mono _ _
      | exact annuityref19_Good.mono _ _
      | exact LeO.none _
      | refine LeO.ite ?_ ?_
      | refine LeO.bind ?_ (fun _ => ?_)
set_option maxHeartbeats 8000000 in
set_option maxRecDepth 100000 in
theorem annuityref19_Credit.calls (k : Nat) (A0 : Option Addr) (c0 : Nat) (l0 : List (S45)) (a1 : Int) (a2 : Int) (r1 : List (S45)) (r2 : Int) (r3 : Int) (w : World) (hr0 : Kd.C k45 w A0 l0.length l0) (hc0 : l0.length ≤ c0) (h : annuityref19_Credit.f k l0 a1 a2 = some (r1, r2, r3)) :
    Calls Try.prog 15 #[.slice A0 l0.length c0, .int .i64 a1, .int .i64 a2] w fun e w' => ∃ v0_ : Value, e = .returned (.tuple #[.agg #[v0_, .int .i64 r2], .int .i64 r3]) ∧ Kd.S k45 45 w' w.heap.size (fun _ => True) v0_ r1 ∧ Below w.heap.size w w' := by
  have hu33 := Try.underlying33
  have HR0 := Aside0.mk hr0
  have HC0 := Aside0.mk hc0
  clear hr0 hc0
  have HB := Aside0.mk (Below.refl w.heap.size w)
  have H : ((annuityref19_Good.f k l0).bind fun t260 => (if t260 = true then ((annuityref19_money.f a1).bind fun t261 => (if t261 = true then ((annuityref04_Good.f a2).bind fun t262 => (annuityref19_Credit.j0 k l0 a1 a2 (!t262))) else (annuityref19_Credit.j0 k l0 a1 a2 true))) else (some (([] : List (S45)), 0, 11)))) = some (r1, r2, r3) := h
  clear h
  replace H := Option.bind_eq_some_iff.mp H
  obtain ⟨t260, A40, H⟩ := H
  replace H : (if t260 = true then ((annuityref19_money.f a1).bind fun t261 => (if t261 = true then ((annuityref04_Good.f a2).bind fun t262 => (annuityref19_Credit.j0 k l0 a1 a2 (!t262))) else (annuityref19_Credit.j0 k l0 a1 a2 true))) else (some (([] : List (S45)), 0, 11))) = some (r1, r2, r3) := H
  have A4 := Aside0.mk A40
  clear A40
  by_cases c5 : t260 = true
  · subst c5
    have H1 : ((annuityref19_money.f a1).bind fun t261 => (if t261 = true then ((annuityref04_Good.f a2).bind fun t262 => (annuityref19_Credit.j0 k l0 a1 a2 (!t262))) else (annuityref19_Credit.j0 k l0 a1 a2 true))) = some (r1, r2, r3) := by rw [if_pos rfl] at H; exact H
    clear H
    have H := H1
    clear H1
    have HC6 := Aside0.mk H
    clear H
    go_enter Try.func15, Try.ntmps15
    go_upto_region 3 with (first | ((with_reducible refine gate_dst (N := 6) rfl ?_); refine box_event ?hg (N := 6) ?hd (cs := #[.slice none 0 0, .int .i64 0]) (t := 33) ?hr ?_; (case hd => rfl); (case hg => rfl); (case hr => first | (go_simp; done) | (go_simp; rfl)); intro gb259 hg w7 hbox hb; have n0_ := Aside0.mk (below_step (by repeat (first | (with_reducible first | exact HB.out | apply below_alloc | apply pw_below_drewN | apply below_drew1) | exact HB.out)) hb); have n1_ := Aside0.mk (hbox); have n2_ := Aside0.mk ((by rw [hg]; exact (below_size (by repeat (first | (with_reducible first | exact HB.out | apply below_alloc | apply pw_below_drewN | apply below_drew1) | exact HB.out))) : w.heap.size ≤ gb259)); have n3_ := Aside0.mk ((by rw [hg]; exact (below_size (by repeat (first | (with_reducible first | exact HB.out | apply below_alloc | apply pw_below_drewN | apply below_drew1) | exact HB.out))) : w.heap.size ≤ gb259)); clear HB; have HB := n0_; have BK259 := n1_; have GW259 := n2_; have GE259 := n3_; clear n0_ n1_ n2_ n3_; clear hb hbox hg) | ((with_reducible refine gate_callee (f := 16) rfl ?_); refine goesL_ (some 12) rfl rfl Try.func16 (by kernel_rfl) rfl #[.slice A0 l0.length c0] rfl (by (try simp only [List.map_toArray, List.map_cons, List.map_nil]); first | done | rfl | (simp only [List.length_drop, List.length_take]; rfl)) ?_; (with_reducible refine (annuityref19_Good.calls k _ _ l0 true _ ?side1 ?side2 A4.out).mono ?_); (case side1 => repeat (first | exact (Kd.C_below HR0.out HB.out) | (with_reducible refine Kd.C_alloc ?_ _) | (with_reducible refine Kd.C_drewN ?_ _) | (with_reducible refine Kd.C_drew ?_))); (case side2 => exact HC0.out); rintro e w8 ⟨rfl, hb⟩; refine ⟨_, rfl, ?_⟩; have n0_ := Aside0.mk (blk_below (g := gb259) (Up.up BK259.out) hb); have n1_ := Aside0.mk (below_step (by repeat (first | (with_reducible first | exact HB.out | apply below_alloc | apply pw_below_drewN | apply below_drew1 | refine below_set ?_ GE259.out) | exact HB.out)) hb); clear BK259; clear HB; have BK259 := n0_; have HB := n1_; clear n0_ n1_; (try clear hb); (try clear hb2); (try clear hk); (try clear hi)))
    (try simp only [Act.put, List.setIfInBounds_toArray, List.set_cons_zero, List.set_cons_succ])
    go_cut [22] (fun v22 wc => ∃ (kq : Nat) (x22_5 : Bool), v22 = .bool x22_5 ∧ Aside0 (annuityref19_Credit.j0 kq l0 a1 a2 x22_5 = some (r1, r2, r3)) ∧ Aside0 (kq ≤ k) ∧ Aside0 (wc.heap[gb259]? = some (.cells #[(.slice none 0 0), .int .i64 0] 33 (0, 0))) ∧ Aside0 (Below w.heap.size w wc))
    case first =>
      have H := HC6.out
      clear HC6
      replace H := Option.bind_eq_some_iff.mp H
      obtain ⟨t261, A90, H⟩ := H
      replace H : (if t261 = true then ((annuityref04_Good.f a2).bind fun t262 => (annuityref19_Credit.j0 k l0 a1 a2 (!t262))) else (annuityref19_Credit.j0 k l0 a1 a2 true)) = some (r1, r2, r3) := H
      have A9 := Aside0.mk A90
      clear A90
      by_cases c10 : t261 = true
      · subst c10
        have H1 : ((annuityref04_Good.f a2).bind fun t262 => (annuityref19_Credit.j0 k l0 a1 a2 (!t262))) = some (r1, r2, r3) := by rw [if_pos rfl] at H; exact H
        clear H
        have H := H1
        clear H1
        replace H := Option.bind_eq_some_iff.mp H
        obtain ⟨t262, A110, H⟩ := H
        replace H : (annuityref19_Credit.j0 k l0 a1 a2 (!t262)) = some (r1, r2, r3) := H
        have A11 := Aside0.mk A110
        clear A110
        have H' := Aside0.mk H
        clear H
        go_wp2_with (first | ((with_reducible refine gate_callee (f := 32) rfl ?_); refine goesL_ (some 16) rfl rfl Try.func32 (by kernel_rfl) rfl #[.int .i64 a1] rfl (by (try simp only [List.map_toArray, List.map_cons, List.map_nil]); first | done | rfl | (simp only [List.length_drop, List.length_take]; rfl)) ?_; (with_reducible refine (annuityref19_money.calls a1 true _ A9.out).mono ?_); rintro e w' ⟨rfl, ⟨nd, rfl⟩⟩; refine ⟨_, rfl, ?_⟩) | (go_at_call 35; (with_reducible refine (annuityref04_Good.calls a2 t262 _ A11.out).mono ?_); rintro e w' ⟨rfl, ⟨nd, rfl⟩⟩))
        go_meet
        case rel => exact ⟨_, (!t262), (by first | rfl | (simp; done) | (simp [*]; done)), H', ⟨by first | omega | exact Nat.le_refl _⟩, ⟨by (with_reducible repeat (first | refine blk_drewN ?_ _ | refine blk_drew ?_ | refine blk_alloc ?_ _)); exact BK259.out⟩, ⟨by repeat (first | (with_reducible first | exact HB.out | apply below_alloc | apply pw_below_drewN | apply below_drew1 | refine below_set ?_ GE259.out) | exact HB.out)⟩⟩
      · replace c10 := Bool.eq_false_iff.mpr c10
        subst c10
        have H1 : (annuityref19_Credit.j0 k l0 a1 a2 true) = some (r1, r2, r3) := by rw [if_neg (show ¬ (false = true) by decide)] at H; exact H
        clear H
        have H := H1
        clear H1
        have H' := Aside0.mk H
        clear H
        go_wp2_with (first | ((with_reducible refine gate_callee (f := 32) rfl ?_); refine goesL_ (some 16) rfl rfl Try.func32 (by kernel_rfl) rfl #[.int .i64 a1] rfl (by (try simp only [List.map_toArray, List.map_cons, List.map_nil]); first | done | rfl | (simp only [List.length_drop, List.length_take]; rfl)) ?_; (with_reducible refine (annuityref19_money.calls a1 false _ A9.out).mono ?_); rintro e w' ⟨rfl, ⟨nd, rfl⟩⟩; refine ⟨_, rfl, ?_⟩))
        go_meet
        case rel => exact ⟨_, (true), (by first | rfl | (simp; done) | (simp [*]; done)), H', ⟨by first | omega | exact Nat.le_refl _⟩, ⟨by (with_reducible repeat (first | refine blk_drewN ?_ _ | refine blk_drew ?_ | refine blk_alloc ?_ _)); exact BK259.out⟩, ⟨by repeat (first | (with_reducible first | exact HB.out | apply below_alloc | apply pw_below_drewN | apply below_drew1 | refine below_set ?_ GE259.out) | exact HB.out)⟩⟩
    case rest =>
      clear HC6
      try clear c1
      try clear p2
      try clear c3
      try clear c5
      try clear c10
      obtain ⟨kq, x22_5, rfl, HA, HJ5, BK259, HB⟩ := hcut
      cases kq with
      | zero => exact absurd HA.out (by simp [annuityref19_Credit.j0])
      | succ kj5 =>
        have H := HA.out
        clear HA
        simp only [annuityref19_Credit.j0] at H
        by_cases c12 : x22_5 = true
        · subst c12
          have H1 : (some (([] : List (S45)), 0, 1)) = some (r1, r2, r3) := by rw [if_pos rfl] at H; exact H
          clear H
          have H := H1
          clear H1
          simp only [Option.some.injEq, Prod.mk.injEq] at H
          obtain ⟨rfl, rfl, rfl⟩ := H
          have hcz13_0 : wc.cell? ⟨gb259, 0, none⟩ = some (.slice none 0 0) := (blk_cell BK259.out 0).trans rfl
          have hcz13_1 : wc.cell? ⟨gb259, 1, none⟩ = some (.int .i64 0) := (blk_cell BK259.out 1).trans rfl
          have hfz13_0 := blk_frozen BK259.out 0
          have hfz13_1 := blk_frozen BK259.out 1
          go_wp2
          refine bodyPost_ret (results_ct rfl _ _ gb259 33 #[.slice none 0 0, .int .i64 0] (0, 0) _ rfl (by (with_reducible repeat (first | refine blk_drewN ?_ _ | refine blk_drew ?_ | refine blk_alloc ?_ _)); refine blk_put (cs := #[.slice none 0 0, .int .i64 0]) ?_ 1 _ rfl; (with_reducible repeat (first | refine blk_drewN ?_ _ | refine blk_drew ?_ | refine blk_alloc ?_ _)); refine blk_put (cs := #[.slice none 0 0, .int .i64 0]) ?_ 0 _ rfl; (with_reducible repeat (first | refine blk_drewN ?_ _ | refine blk_drew ?_ | refine blk_alloc ?_ _)); exact BK259.out) Try.underlying33 rfl (by kernel_rfl)) rfl ?_
          exact ⟨_, by first | rfl | (simp [errW_none, errW_some] <;> rfl) | (simp [*, errW_none, errW_some] <;> rfl), by first | exact Kd.S_nil _ _ _ _ _ | exact Kd.N_nil _ _ _ _ _ | exact Kd.V_nil _ _ _ _ _ | exact Kd.Q_nil _ _ _ _ _ | exact Kd.R_nil _ _ _ _ _, by repeat (first | (with_reducible first | exact HB.out | apply below_alloc | apply pw_below_drewN | apply below_drew1 | refine below_set ?_ GE259.out) | exact HB.out)⟩
        · replace c12 := Bool.eq_false_iff.mpr c12
          subst c12
          have H1 : ((annuitykeep_CopyBills.f kj5 l0).bind fun t263 => (annuityref19_Credit.l0 kj5 a1 a2 t263 0)) = some (r1, r2, r3) := by rw [if_neg (show ¬ (false = true) by decide)] at H; exact H
          clear H
          have H := H1
          clear H1
          replace H := Option.bind_eq_some_iff.mp H
          obtain ⟨t263, A140, H⟩ := H
          replace H : (annuityref19_Credit.l0 kj5 a1 a2 t263 0) = some (r1, r2, r3) := H
          have A14 := Aside0.mk A140
          clear A140
          have H' := Aside0.mk H
          clear H
          go_wp2_with (first | ((with_reducible refine gate_callee (f := 10) rfl ?_); refine goesL_ (some 25) rfl rfl Try.func10 (by kernel_rfl) rfl #[.slice A0 l0.length c0] rfl (by (try simp only [List.map_toArray, List.map_cons, List.map_nil]); first | done | rfl | (simp only [List.length_drop, List.length_take]; rfl)) ?_; (with_reducible refine (annuitykeep_CopyBills.calls kj5 _ _ l0 t263 _ ?side1 ?side2 A14.out).mono ?_); (case side1 => repeat (first | exact (Kd.C_below HR0.out HB.out) | (with_reducible refine Kd.C_alloc ?_ _) | (with_reducible refine Kd.C_drewN ?_ _) | (with_reducible refine Kd.C_drew ?_))); (case side2 => exact HC0.out); rintro e w15 ⟨v264, rfl, ho0, hb⟩; refine ⟨_, rfl, ?_⟩; have n0_ := Aside0.mk (Kd.S_lower ho0 (below_size (by repeat (first | (with_reducible first | exact HB.out | apply below_alloc | apply pw_below_drewN | apply below_drew1 | refine below_set ?_ GE259.out) | exact HB.out)))); have n1_ := Aside0.mk (blk_below (g := gb259) (Up.up BK259.out) hb); have n2_ := Aside0.mk (below_step (by repeat (first | (with_reducible first | exact HB.out | apply below_alloc | apply pw_below_drewN | apply below_drew1 | refine below_set ?_ GE259.out) | exact HB.out)) hb); clear BK259; clear HB; have HO265 := n0_; have BK259 := n1_; have HB := n2_; clear n0_ n1_ n2_; (try clear hb); (try clear hb2); (try clear hk); (try clear hi); (try clear ho0)))
          go_loopg [1, 9] kj5 (fun kq v1 v9 w' => ∃ (x1_2 : Int) (x8_2 : List (S45)) (x9_2 : Int), v1 = .int .i64 x1_2 ∧ v9 = .int .i64 x9_2 ∧ Aside0 (annuityref19_Credit.l0 kq x1_2 a2 x8_2 x9_2 = some (r1, r2, r3)) ∧ Aside0 (kq ≤ kj5) ∧ Aside0 (Kd.S k45 45 w' w.heap.size (fun _ => True) v264 x8_2) ∧ Aside0 (w'.heap[gb259]? = some (.cells #[(.slice none 0 0), .int .i64 0] 33 (0, 0))) ∧ Aside0 (Below w.heap.size w w'))
          case atStart => exact ⟨(a1), (t263), (0), (by first | rfl | (simp; done) | (simp [*]; done)), (by first | rfl | (simp; done) | (simp [*]; done)), H', ⟨Nat.le_refl _⟩, ⟨by (with_reducible repeat (first | apply Kd.S_alloc | apply Kd.S_drewN | apply Kd.S_drew)); exact HO265.out⟩, ⟨by (with_reducible repeat (first | refine blk_drewN ?_ _ | refine blk_drew ?_ | refine blk_alloc ?_ _)); exact BK259.out⟩, ⟨by repeat (first | (with_reducible first | exact HB.out | apply below_alloc | apply pw_below_drewN | apply below_drew1 | refine below_set ?_ GE259.out) | exact HB.out)⟩⟩
          case round =>
            clear H'
            try clear c1
            try clear p2
            try clear c3
            try clear c5
            try clear c10
            try clear c12
            try clear c15
            try clear hcz13_0
            try clear hcz13_1
            try clear hfz13_0
            try clear hfz13_1
            try clear p2
            obtain ⟨x1_2, x8_2, x9_2, rfl, rfl, HA, HK2, HO_8, BK259, HB⟩ := hrel
            cases gk with
            | zero => exact absurd HA.out (by simp [annuityref19_Credit.l0])
            | succ k2 =>
              have H := HA.out
              clear HA
              simp only [annuityref19_Credit.l0] at H
              by_cases c16 : x9_2 < (x8_2.length : Int)
              · rw [if_pos c16] at H
                have c16b0 : decide (x9_2 < (x8_2.length : Int)) = true := decide_eq_true c16
                clear c16
                by_cases c17 : 0 ≤ x9_2
                · rw [if_pos c17] at H
                  have c17b0 : decide (0 ≤ x9_2) = true := decide_eq_true c17
                  clear c17
                  by_cases c18 : ((rd_T45 x8_2 x9_2).f2) = 0
                  · rw [if_pos c18] at H
                    have c18b0 : (((rd_T45 x8_2 x9_2).f2) == 0) = true := beq_iff_eq.mpr c18
                    have c18b1 : (((rd_T45 x8_2 x9_2).f2) != 0) = false := bne_eq_false_iff_eq.mpr c18
                    clear c18
                    have H' := Aside0.mk H
                    clear H
                    obtain ⟨Ao19, co19, eo19⟩ := Kd.S_slice HO_8.out
                    subst eo19
                    have p266 : 0 ≤ (x9_2 : Int) := of_decide_eq_true (by first | (with_reducible assumption) | assumption)
                    have q266 : x9_2 < (x8_2.length : Int) := of_decide_eq_true (by first | (with_reducible assumption) | assumption)
                    obtain ⟨ad266, A266_5, c266_5, e266, hx266_0, hx266_1, hx266_2, hx266_3, hx266_4, hx266_5, hl266_5, hi266_5⟩ := at_T45 (Kd.S_reads' HO_8.out).2.2 x9_2 p266 q266
                    cases e266
                    obtain ⟨ce266, hce266, hMe266, hcc266⟩ := Kd.S_get HO_8.out z45 x9_2 p266 (by first | exact q266 | exact of_decide_eq_true (by first | (with_reducible assumption) | assumption) | (have e_ := (Kd.S_reads' HO_8.out).1; omega))
                    obtain ⟨ve266_5, rfl, ge266_5⟩ := k45_openM hMe266
                    have hv266_5 := hcc266 5 _ rfl
                    rw [add_field _ _ 5 (by omega)] at hv266_5
                    replace hv266_5 := Option.some.inj (hv266_5.symm.trans hx266_5)
                    rw [hv266_5] at ge266_5
                    have HL266_5 := Aside0.mk (show Kd.R (Kd.int .i64) 3 _ _ _ _ ((rd_T45 x8_2 x9_2).f5) from ge266_5)
                    clear hv266_5 ge266_5
                    clear hcc266 hce266
                    have HR266_5 := Aside0.mk hi266_5
                    have HC266_5 := Aside0.mk hl266_5
                    clear hi266_5 hl266_5
                    replace p266 := eq_true p266
                    replace q266 := eq_true q266
                    go_wp2
                    go_roundg k2
                    case measure => have := HJ5.out; have := HK2.out; omega
                    case rel => exact ⟨(x1_2), (x8_2), (wrap64 (x9_2 + 1)), (by first | rfl | (simp; done) | (simp [*]; done)), (by first | rfl | (simp; done) | (simp [*]; done)), H', ⟨by have := HJ5.out; have := HK2.out; omega⟩, ⟨by (with_reducible repeat (first | apply Kd.S_alloc | apply Kd.S_drewN | apply Kd.S_drew)); exact HO_8.out⟩, ⟨by (with_reducible repeat (first | refine blk_drewN ?_ _ | refine blk_drew ?_ | refine blk_alloc ?_ _)); exact BK259.out⟩, ⟨by repeat (first | (with_reducible first | exact HB.out | apply below_alloc | apply pw_below_drewN | apply below_drew1 | refine below_set ?_ GE259.out) | exact HB.out)⟩⟩
                  · rw [if_neg c18] at H
                    have c18b0 : (((rd_T45 x8_2 x9_2).f2) == 0) = false := beq_eq_false_iff_ne.mpr c18
                    have c18b1 : (((rd_T45 x8_2 x9_2).f2) != 0) = true := bne_iff_ne.mpr c18
                    obtain ⟨ji20, hji20⟩ : ∃ j_ : Int, (mn x1_2 ((rd_T45 x8_2 x9_2).f2)) = j_ := ⟨_, rfl⟩
                    replace H : ((some (x8_2.set (x9_2 : Int).toNat (⟨(rd_T45 x8_2 x9_2).f0, (rd_T45 x8_2 x9_2).f1, wrap64 (((rd_T45 x8_2 x9_2).f2) - (ji20)), (rd_T45 x8_2 x9_2).f3, (rd_T45 x8_2 x9_2).f4, (rd_T45 x8_2 x9_2).f5⟩ : S45) : List (S45))).bind fun y269 => (if ((rd_T45 y269 x9_2).f2) = 0 then (annuityref19_Credit.l0 k2 (wrap64 (x1_2 - (ji20))) a2 (y269.set (x9_2 : Int).toNat (⟨(rd_T45 y269 x9_2).f0, (rd_T45 y269 x9_2).f1, (rd_T45 y269 x9_2).f2, a2, (rd_T45 y269 x9_2).f4, (rd_T45 y269 x9_2).f5⟩ : S45)) (wrap64 (x9_2 + 1))) else (annuityref19_Credit.l0 k2 (wrap64 (x1_2 - (ji20))) a2 y269 (wrap64 (x9_2 + 1))))) = some (r1, r2, r3) := by first | (rw [hji20] at H; exact H) | (simp only [hji20] at H ⊢; exact H)
                    have hji20_ : (if ((rd_T45 x8_2 x9_2).f2) < x1_2 then ((rd_T45 x8_2 x9_2).f2) else x1_2) = ji20 := hji20
                    obtain ⟨y269, hy269⟩ : ∃ y_ : List (S45), y_ = (x8_2.set (x9_2 : Int).toNat (⟨(rd_T45 x8_2 x9_2).f0, (rd_T45 x8_2 x9_2).f1, wrap64 (((rd_T45 x8_2 x9_2).f2) - (ji20)), (rd_T45 x8_2 x9_2).f3, (rd_T45 x8_2 x9_2).f4, (rd_T45 x8_2 x9_2).f5⟩ : S45)) := ⟨_, rfl⟩
                    replace H : (if ((rd_T45 y269 x9_2).f2) = 0 then (annuityref19_Credit.l0 k2 (wrap64 (x1_2 - (ji20))) a2 (y269.set (x9_2 : Int).toNat (⟨(rd_T45 y269 x9_2).f0, (rd_T45 y269 x9_2).f1, (rd_T45 y269 x9_2).f2, a2, (rd_T45 y269 x9_2).f4, (rd_T45 y269 x9_2).f5⟩ : S45)) (wrap64 (x9_2 + 1))) else (annuityref19_Credit.l0 k2 (wrap64 (x1_2 - (ji20))) a2 y269 (wrap64 (x9_2 + 1)))) = some (r1, r2, r3) := by first | (rw [hy269]; with_reducible exact H) | (have H2_ := (Option.bind_some _ _).symm.trans H; rw [hy269]; with_reducible exact H2_) | (have H2_ := (Option.bind_some _ _).symm.trans H; with_reducible exact H2_) | with_reducible exact H | (rw [hy269]; exact H) | exact H
                    have Ny269 := Aside0.mk hy269
                    clear hy269
                    by_cases c22 : ((rd_T45 y269 x9_2).f2) = 0
                    · rw [if_pos c22] at H
                      have c22b0 : (((rd_T45 y269 x9_2).f2) == 0) = true := beq_iff_eq.mpr c22
                      have c22b1 : (((rd_T45 y269 x9_2).f2) != 0) = false := bne_eq_false_iff_eq.mpr c22
                      clear c22
                      obtain ⟨y271, hy271⟩ : ∃ y_ : List (S45), y_ = (y269.set (x9_2 : Int).toNat (⟨(rd_T45 y269 x9_2).f0, (rd_T45 y269 x9_2).f1, (rd_T45 y269 x9_2).f2, a2, (rd_T45 y269 x9_2).f4, (rd_T45 y269 x9_2).f5⟩ : S45)) := ⟨_, rfl⟩
                      replace H : (annuityref19_Credit.l0 k2 (wrap64 (x1_2 - (ji20))) a2 y271 (wrap64 (x9_2 + 1))) = some (r1, r2, r3) := by first | (rw [hy271]; with_reducible exact H) | (have H2_ := (Option.bind_some _ _).symm.trans H; rw [hy271]; with_reducible exact H2_) | (have H2_ := (Option.bind_some _ _).symm.trans H; with_reducible exact H2_) | with_reducible exact H | (rw [hy271]; exact H) | exact H
                      have Ny271 := Aside0.mk hy271
                      clear hy271
                      have H' := Aside0.mk H
                      clear H
                      obtain ⟨Ao24, co24, eo24⟩ := Kd.S_slice HO_8.out
                      subst eo24
                      have p266 : 0 ≤ (x9_2 : Int) := of_decide_eq_true (by first | (with_reducible assumption) | assumption)
                      have q266 : x9_2 < (x8_2.length : Int) := of_decide_eq_true (by first | (with_reducible assumption) | assumption)
                      obtain ⟨ad266, A266_5, c266_5, e266, hx266_0, hx266_1, hx266_2, hx266_3, hx266_4, hx266_5, hl266_5, hi266_5⟩ := at_T45 (Kd.S_reads' HO_8.out).2.2 x9_2 p266 q266
                      cases e266
                      obtain ⟨ce266, hce266, hMe266, hcc266⟩ := Kd.S_get HO_8.out z45 x9_2 p266 (by first | exact q266 | exact of_decide_eq_true (by first | (with_reducible assumption) | assumption) | (have e_ := (Kd.S_reads' HO_8.out).1; omega))
                      obtain ⟨ve266_5, rfl, ge266_5⟩ := k45_openM hMe266
                      have hv266_5 := hcc266 5 _ rfl
                      rw [add_field _ _ 5 (by omega)] at hv266_5
                      replace hv266_5 := Option.some.inj (hv266_5.symm.trans hx266_5)
                      rw [hv266_5] at ge266_5
                      have HL266_5 := Aside0.mk (show Kd.R (Kd.int .i64) 3 _ _ _ _ ((rd_T45 x8_2 x9_2).f5) from ge266_5)
                      clear hv266_5 ge266_5
                      clear hcc266 hce266
                      have HR266_5 := Aside0.mk hi266_5
                      have HC266_5 := Aside0.mk hl266_5
                      clear hi266_5 hl266_5
                      replace p266 := eq_true p266
                      replace q266 := eq_true q266
                      have p267 : 0 ≤ (x9_2 : Int) := of_decide_eq_true (by first | (with_reducible assumption) | assumption)
                      have q267 : x9_2 < (x8_2.length : Int) := of_decide_eq_true (by first | (with_reducible assumption) | assumption)
                      obtain ⟨ad267, A267_5, c267_5, e267, hx267_0, hx267_1, hx267_2, hx267_3, hx267_4, hx267_5, hl267_5, hi267_5⟩ := at_T45 (Kd.S_reads' HO_8.out).2.2 x9_2 p267 q267
                      obtain rfl : ad266 = ad267 := (by injection e267)
                      obtain ⟨ce267, hce267, hMe267, hcc267⟩ := Kd.S_get HO_8.out z45 x9_2 p267 (by first | exact q267 | exact of_decide_eq_true (by first | (with_reducible assumption) | assumption) | (have e_ := (Kd.S_reads' HO_8.out).1; omega))
                      obtain ⟨ve267_5, rfl, ge267_5⟩ := k45_openM hMe267
                      have hv267_5 := hcc267 5 _ rfl
                      rw [add_field _ _ 5 (by omega)] at hv267_5
                      replace hv267_5 := Option.some.inj (hv267_5.symm.trans hx267_5)
                      rw [hv267_5] at ge267_5
                      have HL267_5 := Aside0.mk (show Kd.R (Kd.int .i64) 3 _ _ _ _ ((rd_T45 x8_2 x9_2).f5) from ge267_5)
                      clear hv267_5 ge267_5
                      clear hcc267 hce267
                      have HR267_5 := Aside0.mk hi267_5
                      have HC267_5 := Aside0.mk hl267_5
                      clear hi267_5 hl267_5
                      replace p267 := eq_true p267
                      replace q267 := eq_true q267
                      have ea_ := Option.some.inj (hx266_5.symm.trans hx267_5)
                      injection ea_ with ea_ en_ ec_
                      subst ea_
                      subst ec_
                      clear en_
                      have p268 : 0 ≤ (x9_2 : Int) := of_decide_eq_true (by first | (with_reducible assumption) | assumption)
                      have q268 : x9_2 < (x8_2.length : Int) := of_decide_eq_true (by first | (with_reducible assumption) | assumption)
                      obtain ⟨ad268, A268_5, c268_5, e268, hx268_0, hx268_1, hx268_2, hx268_3, hx268_4, hx268_5, hl268_5, hi268_5⟩ := at_T45 (Kd.S_reads' HO_8.out).2.2 x9_2 p268 q268
                      obtain rfl : ad266 = ad268 := (by injection e268)
                      obtain ⟨ce268, hce268, hMe268, hcc268⟩ := Kd.S_get HO_8.out z45 x9_2 p268 (by first | exact q268 | exact of_decide_eq_true (by first | (with_reducible assumption) | assumption) | (have e_ := (Kd.S_reads' HO_8.out).1; omega))
                      obtain ⟨ve268_5, rfl, ge268_5⟩ := k45_openM hMe268
                      have hv268_5 := hcc268 5 _ rfl
                      rw [add_field _ _ 5 (by omega)] at hv268_5
                      replace hv268_5 := Option.some.inj (hv268_5.symm.trans hx268_5)
                      rw [hv268_5] at ge268_5
                      have HL268_5 := Aside0.mk (show Kd.R (Kd.int .i64) 3 _ _ _ _ ((rd_T45 x8_2 x9_2).f5) from ge268_5)
                      clear hv268_5 ge268_5
                      clear hcc268 hce268
                      have HR268_5 := Aside0.mk hi268_5
                      have HC268_5 := Aside0.mk hl268_5
                      clear hi268_5 hl268_5
                      replace p268 := eq_true p268
                      replace q268 := eq_true q268
                      have ea_ := Option.some.inj (hx266_5.symm.trans hx268_5)
                      injection ea_ with ea_ en_ ec_
                      subst ea_
                      subst ec_
                      clear en_
                      have p21 : 0 ≤ (x9_2 : Int) := of_decide_eq_true (by first | (with_reducible assumption) | assumption)
                      have q21 : (x9_2 : Int) < ((x8_2.length : Int) : Int) := of_decide_eq_true (by first | (with_reducible assumption) | assumption)
                      obtain ⟨go21, co21, eo21, gb21, gl21, cl21, HG21⟩ := Kd.S_form HO_8.out (by omega)
                      (first | cases eo21 | (injection eo21 with ea_ en_ ec_; (first | subst ea_ | (injection ea_ with ea_; subst ea_)); subst ec_; clear en_))
                      have GB21 := Aside0.mk gb21
                      have GG21 := Aside0.mk HG21
                      clear gb21 gl21 HG21
                      (first | simp only [add_plain] at hx266_0 | skip)
                      (first | simp only [add_plain] at hx266_1 | skip)
                      (first | simp only [add_plain] at hx266_2 | skip)
                      (first | simp only [add_plain] at hx266_3 | skip)
                      (first | simp only [add_plain] at hx266_4 | skip)
                      (first | simp only [add_plain] at hx266_5 | skip)
                      (first | simp only [add_plain] at hx267_0 | skip)
                      (first | simp only [add_plain] at hx267_1 | skip)
                      (first | simp only [add_plain] at hx267_2 | skip)
                      (first | simp only [add_plain] at hx267_3 | skip)
                      (first | simp only [add_plain] at hx267_4 | skip)
                      (first | simp only [add_plain] at hx267_5 | skip)
                      (first | simp only [add_plain] at hx268_0 | skip)
                      (first | simp only [add_plain] at hx268_1 | skip)
                      (first | simp only [add_plain] at hx268_2 | skip)
                      (first | simp only [add_plain] at hx268_3 | skip)
                      (first | simp only [add_plain] at hx268_4 | skip)
                      (first | simp only [add_plain] at hx268_5 | skip)
                      obtain ⟨_, ce21, hcl21, hM21, hcc21, hfr21, _, _⟩ := Kd.S_elem HO_8.out z45 (x9_2 : Int) p21 q21
                      obtain ⟨ve21_5, rfl, ge21_5⟩ := k45_openM hM21
                      have hx21_0 : wr.cell? ⟨go21, (x9_2 : Int).toNat * 6, none⟩ = some (.int .i64 ((rd_T45 x8_2 x9_2).f0)) := hcc21 0 _ rfl
                      have hx21_1 : wr.cell? ⟨go21, (x9_2 : Int).toNat * 6 + 1, none⟩ = some (.int .i64 ((rd_T45 x8_2 x9_2).f1)) := hcc21 1 _ rfl
                      have hx21_2 : wr.cell? ⟨go21, (x9_2 : Int).toNat * 6 + 2, none⟩ = some (.int .i64 ((rd_T45 x8_2 x9_2).f2)) := hcc21 2 _ rfl
                      have hx21_3 : wr.cell? ⟨go21, (x9_2 : Int).toNat * 6 + 3, none⟩ = some (.int .i64 ((rd_T45 x8_2 x9_2).f3)) := hcc21 3 _ rfl
                      have hx21_4 : wr.cell? ⟨go21, (x9_2 : Int).toNat * 6 + 4, none⟩ = some (.int .i64 ((rd_T45 x8_2 x9_2).f4)) := hcc21 4 _ rfl
                      have hx21_5 : wr.cell? ⟨go21, (x9_2 : Int).toNat * 6 + 5, none⟩ = some (ve21_5) := hcc21 5 _ rfl
                      have hf21_0 : wr.frozen? ⟨go21, (x9_2 : Int).toNat * 6, none⟩ = false := hfr21 0
                      have hf21_1 : wr.frozen? ⟨go21, (x9_2 : Int).toNat * 6 + 1, none⟩ = false := hfr21 1
                      have hf21_2 : wr.frozen? ⟨go21, (x9_2 : Int).toNat * 6 + 2, none⟩ = false := hfr21 2
                      have hf21_3 : wr.frozen? ⟨go21, (x9_2 : Int).toNat * 6 + 3, none⟩ = false := hfr21 3
                      have hf21_4 : wr.frozen? ⟨go21, (x9_2 : Int).toNat * 6 + 4, none⟩ = false := hfr21 4
                      have hf21_5 : wr.frozen? ⟨go21, (x9_2 : Int).toNat * 6 + 5, none⟩ = false := hfr21 5
                      clear hcl21 hcc21 hfr21 hM21
                      replace p21 := eq_true p21
                      replace q21 := eq_true q21
                      have HX25 := Aside0.mk (show Kd.S k45 45 wr w.heap.size (fun k_ => ((fun _ => True)) k_ ∧ ¬ ((fun _ => False)) k_) (.slice (some ⟨go21, 0, none⟩) x8_2.length co24) x8_2 from (by (with_reducible repeat (first | apply Kd.S_alloc | apply Kd.S_drewN | apply Kd.S_drew)); exact Kd.S_mono HO_8.out (fun k_ hk => ⟨trivial, fun e_ => e_⟩)))
                      obtain ⟨oki25, ce25, hcl25, hM25, hcc25, hfr25, hoki25, hH25⟩ := Kd.S_elem HX25.out z45 (x9_2 : Int) (of_decide_eq_true (by first | (with_reducible assumption) | assumption)) (by have h_ : (x9_2 : Int) < ((x8_2.length : Int) : Int) := of_decide_eq_true (by first | (with_reducible assumption) | assumption); first | exact h_ | (have e_ := (Kd.S_reads' HO_8.out).1; omega) | simpa using h_)
                      obtain ⟨ve25_5, rfl, ge25_5⟩ := k45_openM hM25
                      have HP25 := Kd.S_seg hH25 (of_decide_eq_true (by first | (with_reducible assumption) | assumption)) (by have h_ : (x9_2 : Int) < ((x8_2.length : Int) : Int) := of_decide_eq_true (by first | (with_reducible assumption) | assumption); first | exact h_ | (have e_ := (Kd.S_reads' HO_8.out).1; omega) | simpa using h_) (seg := [.int .i64 (wrap64 (((rd_T45 x8_2 x9_2).f2) - (ji20)))]) (j := 2) (show 3 ≤ 6 from by decide) (x' := (⟨(rd_T45 x8_2 x9_2).f0, (rd_T45 x8_2 x9_2).f1, wrap64 (((rd_T45 x8_2 x9_2).f2) - (ji20)), (rd_T45 x8_2 x9_2).f3, (rd_T45 x8_2 x9_2).f4, (rd_T45 x8_2 x9_2).f5⟩ : S45)) (k45_mkM _ _ _ (⟨(rd_T45 x8_2 x9_2).f0, (rd_T45 x8_2 x9_2).f1, wrap64 (((rd_T45 x8_2 x9_2).f2) - (ji20)), (rd_T45 x8_2 x9_2).f3, (rd_T45 x8_2 x9_2).f4, (rd_T45 x8_2 x9_2).f5⟩ : S45) (Kd.R_mono ge25_5 (fun _ h_ => Or.inl h_))) (fun _ hk => hk) (fun k_ hk_ => hk_.elim)
                      have hx25_2 := hcc25 2 _ rfl
                      (try simp only [show (k45).sz = 6 from rfl, Nat.mul_one, Nat.add_zero] at hx25_2)
                      have hf25_2 := hfr25 2
                      (try simp only [show (k45).sz = 6 from rfl, Nat.mul_one, Nat.add_zero] at hf25_2)
                      clear hcl25 hcc25 hfr25 hM25 hoki25 hH25
                      go_wp2_with (first | ((with_reducible refine gate_store (t := 2) (p := 53) rfl ?_); refine store_event (t := 2) (p := 53) (v := ?vo_w26) (w1 := (wr.setCell ⟨go21, (x9_2 : Int).toNat * 6 + 2, none⟩ (.int .i64 (wrap64 (((rd_T45 x8_2 x9_2).f2) - (ji20)))))) ?hg ?ho ?hn ?hr ?_; (case ho => rfl); (case hg => rfl); (case hn => rfl); (case hr => first | (go_simp; done) | (go_simp; rfl)); intro w26 hw; have hg : wr.grownBy w26 (some go21) := (by rw [hw]; exact HP25.2); have hp_ : Kd.S k45 45 w26 w.heap.size (fun _ => True) (.slice (some ⟨go21, 0, none⟩) x8_2.length co24) y269 := (by rw [hw, Ny269.out]; exact HP25.1); clear HP25; have n0_ := Aside0.mk (hp_); have n1_ := Aside0.mk (blk_grown (g := gb259) (Up.up BK259.out) hg (Kd.S_ne HO_8.out BK259.out (by decide))); have n2_ := Aside0.mk (Kd.R_after (v := (.slice (some ⟨go21, 0, none⟩) x8_2.length co24)) (v1 := (.slice (some ⟨go21, 0, none⟩) x8_2.length co24)) (ok := (fun _ => True)) (by (with_reducible repeat (first | apply Kd.R_alloc | apply Kd.R_drewN | apply Kd.R_drew)); exact HL266_5.out) hg (.inl rfl)); have n3_ := Aside0.mk (Kd.R_after (v := (.slice (some ⟨go21, 0, none⟩) x8_2.length co24)) (v1 := (.slice (some ⟨go21, 0, none⟩) x8_2.length co24)) (ok := (fun _ => True)) (by (with_reducible repeat (first | apply Kd.R_alloc | apply Kd.R_drewN | apply Kd.R_drew)); exact HL267_5.out) hg (.inl rfl)); have n4_ := Aside0.mk (Kd.R_after (v := (.slice (some ⟨go21, 0, none⟩) x8_2.length co24)) (v1 := (.slice (some ⟨go21, 0, none⟩) x8_2.length co24)) (ok := (fun _ => True)) (by (with_reducible repeat (first | apply Kd.R_alloc | apply Kd.R_drewN | apply Kd.R_drew)); exact HL268_5.out) hg (.inl rfl)); have n5_ := Aside0.mk ((by rw [hw]; exact below_set (HB.out) GB21.out : Below w.heap.size w w26)); clear HO_8; clear BK259; clear HL266_5; clear HL267_5; clear HL268_5; clear HB; have HO_8 := n0_; have BK259 := n1_; have HL266_5 := n2_; have HL267_5 := n3_; have HL268_5 := n4_; have HB := n5_; clear n0_ n1_ n2_ n3_ n4_ n5_; clear hg hw hp_; have p270 : 0 ≤ (x9_2 : Int) := of_decide_eq_true (by first | (with_reducible assumption) | assumption); have q270 : x9_2 < (y269.length : Int) := (by have h_ : (x9_2 : Int) < ((x8_2.length : Int) : Int) := of_decide_eq_true (by first | (with_reducible assumption) | assumption); first | (have e_ := (Kd.S_reads' HO_8.out).1; omega) | simpa only [Ny269.out, List.length_set] using h_); have ql270 : ((x9_2 : Int) < ((x8_2.length : Int) : Int)) = True := eq_true (of_decide_eq_true (by first | (with_reducible assumption) | assumption)); obtain ⟨ad270, A270_5, c270_5, e270, hx270_0, hx270_1, hx270_2, hx270_3, hx270_4, hx270_5, hl270_5, hi270_5⟩ := at_T45 (Kd.S_reads' HO_8.out).2.2 x9_2 p270 q270; obtain rfl : (⟨go21, 0, none⟩ : Addr) = ad270 := (by injection e270); obtain ⟨ce270, hce270, hMe270, hcc270⟩ := Kd.S_get HO_8.out z45 x9_2 p270 (by first | exact q270 | exact of_decide_eq_true (by first | (with_reducible assumption) | assumption) | (have e_ := (Kd.S_reads' HO_8.out).1; omega)); obtain ⟨ve270_5, rfl, ge270_5⟩ := k45_openM hMe270; have hv270_5 := hcc270 5 _ rfl; rw [add_field _ _ 5 (by omega)] at hv270_5; replace hv270_5 := Option.some.inj (hv270_5.symm.trans hx270_5); rw [hv270_5] at ge270_5; have HL270_5 := Aside0.mk (show Kd.R (Kd.int .i64) 3 _ _ _ _ ((rd_T45 y269 x9_2).f5) from ge270_5); clear hv270_5 ge270_5; clear hcc270 hce270; (first | simp only [add_plain] at hx270_0 | simp only [add_at] at hx270_0 | simp only [Addr.add, Nat.zero_add] at hx270_0 | skip); (first | simp only [add_plain] at hx270_1 | simp only [add_at] at hx270_1 | simp only [Addr.add, Nat.zero_add] at hx270_1 | skip); (first | simp only [add_plain] at hx270_2 | simp only [add_at] at hx270_2 | simp only [Addr.add, Nat.zero_add] at hx270_2 | skip); (first | simp only [add_plain] at hx270_3 | simp only [add_at] at hx270_3 | simp only [Addr.add, Nat.zero_add] at hx270_3 | skip); (first | simp only [add_plain] at hx270_4 | simp only [add_at] at hx270_4 | simp only [Addr.add, Nat.zero_add] at hx270_4 | skip); (first | simp only [add_plain] at hx270_5 | simp only [add_at] at hx270_5 | simp only [Addr.add, Nat.zero_add] at hx270_5 | skip); have HR270_5 := Aside0.mk hi270_5; have HC270_5 := Aside0.mk hl270_5; clear hi270_5 hl270_5; replace p270 := eq_true p270; replace q270 := eq_true q270; have p23 : 0 ≤ (x9_2 : Int) := of_decide_eq_true (by first | (with_reducible assumption) | assumption); have q23 : (x9_2 : Int) < ((x8_2.length : Int) : Int) := of_decide_eq_true (by first | (with_reducible assumption) | assumption); obtain ⟨_, ce23, hcl23, hM23, hcc23, hfr23, _, _⟩ := Kd.S_elem HO_8.out z45 (x9_2 : Int) p23 q23; obtain ⟨ve23_5, rfl, ge23_5⟩ := k45_openM hM23; have hx23_0 : w26.cell? ⟨go21, (x9_2 : Int).toNat * 6, none⟩ = some (.int .i64 ((rd_T45 y269 x9_2).f0)) := hcc23 0 _ rfl; have hx23_1 : w26.cell? ⟨go21, (x9_2 : Int).toNat * 6 + 1, none⟩ = some (.int .i64 ((rd_T45 y269 x9_2).f1)) := hcc23 1 _ rfl; have hx23_2 : w26.cell? ⟨go21, (x9_2 : Int).toNat * 6 + 2, none⟩ = some (.int .i64 ((rd_T45 y269 x9_2).f2)) := hcc23 2 _ rfl; have hx23_3 : w26.cell? ⟨go21, (x9_2 : Int).toNat * 6 + 3, none⟩ = some (.int .i64 ((rd_T45 y269 x9_2).f3)) := hcc23 3 _ rfl; have hx23_4 : w26.cell? ⟨go21, (x9_2 : Int).toNat * 6 + 4, none⟩ = some (.int .i64 ((rd_T45 y269 x9_2).f4)) := hcc23 4 _ rfl; have hx23_5 : w26.cell? ⟨go21, (x9_2 : Int).toNat * 6 + 5, none⟩ = some (ve23_5) := hcc23 5 _ rfl; have hf23_0 : w26.frozen? ⟨go21, (x9_2 : Int).toNat * 6, none⟩ = false := hfr23 0; have hf23_1 : w26.frozen? ⟨go21, (x9_2 : Int).toNat * 6 + 1, none⟩ = false := hfr23 1; have hf23_2 : w26.frozen? ⟨go21, (x9_2 : Int).toNat * 6 + 2, none⟩ = false := hfr23 2; have hf23_3 : w26.frozen? ⟨go21, (x9_2 : Int).toNat * 6 + 3, none⟩ = false := hfr23 3; have hf23_4 : w26.frozen? ⟨go21, (x9_2 : Int).toNat * 6 + 4, none⟩ = false := hfr23 4; have hf23_5 : w26.frozen? ⟨go21, (x9_2 : Int).toNat * 6 + 5, none⟩ = false := hfr23 5; clear hcl23 hcc23 hfr23 hM23; replace p23 := eq_true p23; replace q23 := eq_true q23; have HX27 := Aside0.mk (show Kd.S k45 45 w26 w.heap.size (fun k_ => ((fun _ => True)) k_ ∧ ¬ ((fun _ => False)) k_) (.slice (some ⟨go21, 0, none⟩) x8_2.length co24) y269 from (by (with_reducible repeat (first | apply Kd.S_alloc | apply Kd.S_drewN | apply Kd.S_drew)); exact Kd.S_mono HO_8.out (fun k_ hk => ⟨trivial, fun e_ => e_⟩))); obtain ⟨oki27, ce27, hcl27, hM27, hcc27, hfr27, hoki27, hH27⟩ := Kd.S_elem HX27.out z45 (x9_2 : Int) (of_decide_eq_true (by first | (with_reducible assumption) | assumption)) (by have h_ : (x9_2 : Int) < ((x8_2.length : Int) : Int) := of_decide_eq_true (by first | (with_reducible assumption) | assumption); first | exact h_ | (have e_ := (Kd.S_reads' HO_8.out).1; omega) | simpa using h_); obtain ⟨ve27_5, rfl, ge27_5⟩ := k45_openM hM27; have HP27 := Kd.S_seg hH27 (of_decide_eq_true (by first | (with_reducible assumption) | assumption)) (by have h_ : (x9_2 : Int) < ((x8_2.length : Int) : Int) := of_decide_eq_true (by first | (with_reducible assumption) | assumption); first | exact h_ | (have e_ := (Kd.S_reads' HO_8.out).1; omega) | simpa using h_) (seg := [.int .i64 a2]) (j := 3) (show 4 ≤ 6 from by decide) (x' := (⟨(rd_T45 y269 x9_2).f0, (rd_T45 y269 x9_2).f1, (rd_T45 y269 x9_2).f2, a2, (rd_T45 y269 x9_2).f4, (rd_T45 y269 x9_2).f5⟩ : S45)) (k45_mkM _ _ _ (⟨(rd_T45 y269 x9_2).f0, (rd_T45 y269 x9_2).f1, (rd_T45 y269 x9_2).f2, a2, (rd_T45 y269 x9_2).f4, (rd_T45 y269 x9_2).f5⟩ : S45) (Kd.R_mono ge27_5 (fun _ h_ => Or.inl h_))) (fun _ hk => hk) (fun k_ hk_ => hk_.elim); have hx27_3 := hcc27 3 _ rfl; (try simp only [show (k45).sz = 6 from rfl, Nat.mul_one, Nat.add_zero] at hx27_3); have hf27_3 := hfr27 3; (try simp only [show (k45).sz = 6 from rfl, Nat.mul_one, Nat.add_zero] at hf27_3); clear hcl27 hcc27 hfr27 hM27 hoki27 hH27) | ((with_reducible refine gate_store (t := 3) (p := 67) rfl ?_); refine store_event (t := 3) (p := 67) (v := ?vo_w28) (w1 := (w26.setCell ⟨go21, (x9_2 : Int).toNat * 6 + 3, none⟩ (.int .i64 a2))) ?hg ?ho ?hn ?hr ?_; (case ho => rfl); (case hg => rfl); (case hn => rfl); (case hr => first | (go_simp; done) | (go_simp; rfl)); intro w28 hw; have hg : w26.grownBy w28 (some go21) := (by rw [hw]; exact HP27.2); have hp_ : Kd.S k45 45 w28 w.heap.size (fun _ => True) (.slice (some ⟨go21, 0, none⟩) x8_2.length co24) y271 := (by rw [hw, Ny271.out]; exact HP27.1); clear HP27; have n0_ := Aside0.mk (hp_); have n1_ := Aside0.mk (blk_grown (g := gb259) (Up.up BK259.out) hg (Kd.S_ne HO_8.out BK259.out (by decide))); have n2_ := Aside0.mk (Kd.R_after (v := (.slice (some ⟨go21, 0, none⟩) x8_2.length co24)) (v1 := (.slice (some ⟨go21, 0, none⟩) x8_2.length co24)) (ok := (fun _ => True)) (by (with_reducible repeat (first | apply Kd.R_alloc | apply Kd.R_drewN | apply Kd.R_drew)); exact HL266_5.out) hg (.inl rfl)); have n3_ := Aside0.mk (Kd.R_after (v := (.slice (some ⟨go21, 0, none⟩) x8_2.length co24)) (v1 := (.slice (some ⟨go21, 0, none⟩) x8_2.length co24)) (ok := (fun _ => True)) (by (with_reducible repeat (first | apply Kd.R_alloc | apply Kd.R_drewN | apply Kd.R_drew)); exact HL267_5.out) hg (.inl rfl)); have n4_ := Aside0.mk (Kd.R_after (v := (.slice (some ⟨go21, 0, none⟩) x8_2.length co24)) (v1 := (.slice (some ⟨go21, 0, none⟩) x8_2.length co24)) (ok := (fun _ => True)) (by (with_reducible repeat (first | apply Kd.R_alloc | apply Kd.R_drewN | apply Kd.R_drew)); exact HL268_5.out) hg (.inl rfl)); have n5_ := Aside0.mk (Kd.R_after (v := (.slice (some ⟨go21, 0, none⟩) x8_2.length co24)) (v1 := (.slice (some ⟨go21, 0, none⟩) x8_2.length co24)) (ok := (fun _ => True)) (by (with_reducible repeat (first | apply Kd.R_alloc | apply Kd.R_drewN | apply Kd.R_drew)); exact HL270_5.out) hg (.inl rfl)); have n6_ := Aside0.mk ((by rw [hw]; exact below_set (HB.out) GB21.out : Below w.heap.size w w28)); clear HO_8; clear BK259; clear HL266_5; clear HL267_5; clear HL268_5; clear HL270_5; clear HB; have HO_8 := n0_; have BK259 := n1_; have HL266_5 := n2_; have HL267_5 := n3_; have HL268_5 := n4_; have HL270_5 := n5_; have HB := n6_; clear n0_ n1_ n2_ n3_ n4_ n5_ n6_; clear hg hw hp_))
                      go_roundg k2
                      case measure => have := HJ5.out; have := HK2.out; omega
                      case rel => exact ⟨(wrap64 (x1_2 - (ji20))), (y271), (wrap64 (x9_2 + 1)), (by first | rfl | (simp; done) | (simp only [← hji20] <;> (first | rfl | simp)) | (simp [*]; done)), (by first | rfl | (simp; done) | (simp [*]; done)), H', ⟨by have := HJ5.out; have := HK2.out; omega⟩, ⟨by (with_reducible repeat (first | apply Kd.S_alloc | apply Kd.S_drewN | apply Kd.S_drew)); exact HO_8.out⟩, ⟨by (with_reducible repeat (first | refine blk_drewN ?_ _ | refine blk_drew ?_ | refine blk_alloc ?_ _)); exact BK259.out⟩, ⟨by repeat (first | (with_reducible first | exact HB.out | apply below_alloc | apply pw_below_drewN | apply below_drew1 | refine below_set ?_ GE259.out) | exact HB.out)⟩⟩
                    · rw [if_neg c22] at H
                      have c22b0 : (((rd_T45 y269 x9_2).f2) == 0) = false := beq_eq_false_iff_ne.mpr c22
                      have c22b1 : (((rd_T45 y269 x9_2).f2) != 0) = true := bne_iff_ne.mpr c22
                      have H' := Aside0.mk H
                      clear H
                      obtain ⟨Ao29, co29, eo29⟩ := Kd.S_slice HO_8.out
                      subst eo29
                      have p266 : 0 ≤ (x9_2 : Int) := of_decide_eq_true (by first | (with_reducible assumption) | assumption)
                      have q266 : x9_2 < (x8_2.length : Int) := of_decide_eq_true (by first | (with_reducible assumption) | assumption)
                      obtain ⟨ad266, A266_5, c266_5, e266, hx266_0, hx266_1, hx266_2, hx266_3, hx266_4, hx266_5, hl266_5, hi266_5⟩ := at_T45 (Kd.S_reads' HO_8.out).2.2 x9_2 p266 q266
                      cases e266
                      obtain ⟨ce266, hce266, hMe266, hcc266⟩ := Kd.S_get HO_8.out z45 x9_2 p266 (by first | exact q266 | exact of_decide_eq_true (by first | (with_reducible assumption) | assumption) | (have e_ := (Kd.S_reads' HO_8.out).1; omega))
                      obtain ⟨ve266_5, rfl, ge266_5⟩ := k45_openM hMe266
                      have hv266_5 := hcc266 5 _ rfl
                      rw [add_field _ _ 5 (by omega)] at hv266_5
                      replace hv266_5 := Option.some.inj (hv266_5.symm.trans hx266_5)
                      rw [hv266_5] at ge266_5
                      have HL266_5 := Aside0.mk (show Kd.R (Kd.int .i64) 3 _ _ _ _ ((rd_T45 x8_2 x9_2).f5) from ge266_5)
                      clear hv266_5 ge266_5
                      clear hcc266 hce266
                      have HR266_5 := Aside0.mk hi266_5
                      have HC266_5 := Aside0.mk hl266_5
                      clear hi266_5 hl266_5
                      replace p266 := eq_true p266
                      replace q266 := eq_true q266
                      have p267 : 0 ≤ (x9_2 : Int) := of_decide_eq_true (by first | (with_reducible assumption) | assumption)
                      have q267 : x9_2 < (x8_2.length : Int) := of_decide_eq_true (by first | (with_reducible assumption) | assumption)
                      obtain ⟨ad267, A267_5, c267_5, e267, hx267_0, hx267_1, hx267_2, hx267_3, hx267_4, hx267_5, hl267_5, hi267_5⟩ := at_T45 (Kd.S_reads' HO_8.out).2.2 x9_2 p267 q267
                      obtain rfl : ad266 = ad267 := (by injection e267)
                      obtain ⟨ce267, hce267, hMe267, hcc267⟩ := Kd.S_get HO_8.out z45 x9_2 p267 (by first | exact q267 | exact of_decide_eq_true (by first | (with_reducible assumption) | assumption) | (have e_ := (Kd.S_reads' HO_8.out).1; omega))
                      obtain ⟨ve267_5, rfl, ge267_5⟩ := k45_openM hMe267
                      have hv267_5 := hcc267 5 _ rfl
                      rw [add_field _ _ 5 (by omega)] at hv267_5
                      replace hv267_5 := Option.some.inj (hv267_5.symm.trans hx267_5)
                      rw [hv267_5] at ge267_5
                      have HL267_5 := Aside0.mk (show Kd.R (Kd.int .i64) 3 _ _ _ _ ((rd_T45 x8_2 x9_2).f5) from ge267_5)
                      clear hv267_5 ge267_5
                      clear hcc267 hce267
                      have HR267_5 := Aside0.mk hi267_5
                      have HC267_5 := Aside0.mk hl267_5
                      clear hi267_5 hl267_5
                      replace p267 := eq_true p267
                      replace q267 := eq_true q267
                      have ea_ := Option.some.inj (hx266_5.symm.trans hx267_5)
                      injection ea_ with ea_ en_ ec_
                      subst ea_
                      subst ec_
                      clear en_
                      have p268 : 0 ≤ (x9_2 : Int) := of_decide_eq_true (by first | (with_reducible assumption) | assumption)
                      have q268 : x9_2 < (x8_2.length : Int) := of_decide_eq_true (by first | (with_reducible assumption) | assumption)
                      obtain ⟨ad268, A268_5, c268_5, e268, hx268_0, hx268_1, hx268_2, hx268_3, hx268_4, hx268_5, hl268_5, hi268_5⟩ := at_T45 (Kd.S_reads' HO_8.out).2.2 x9_2 p268 q268
                      obtain rfl : ad266 = ad268 := (by injection e268)
                      obtain ⟨ce268, hce268, hMe268, hcc268⟩ := Kd.S_get HO_8.out z45 x9_2 p268 (by first | exact q268 | exact of_decide_eq_true (by first | (with_reducible assumption) | assumption) | (have e_ := (Kd.S_reads' HO_8.out).1; omega))
                      obtain ⟨ve268_5, rfl, ge268_5⟩ := k45_openM hMe268
                      have hv268_5 := hcc268 5 _ rfl
                      rw [add_field _ _ 5 (by omega)] at hv268_5
                      replace hv268_5 := Option.some.inj (hv268_5.symm.trans hx268_5)
                      rw [hv268_5] at ge268_5
                      have HL268_5 := Aside0.mk (show Kd.R (Kd.int .i64) 3 _ _ _ _ ((rd_T45 x8_2 x9_2).f5) from ge268_5)
                      clear hv268_5 ge268_5
                      clear hcc268 hce268
                      have HR268_5 := Aside0.mk hi268_5
                      have HC268_5 := Aside0.mk hl268_5
                      clear hi268_5 hl268_5
                      replace p268 := eq_true p268
                      replace q268 := eq_true q268
                      have ea_ := Option.some.inj (hx266_5.symm.trans hx268_5)
                      injection ea_ with ea_ en_ ec_
                      subst ea_
                      subst ec_
                      clear en_
                      have p21 : 0 ≤ (x9_2 : Int) := of_decide_eq_true (by first | (with_reducible assumption) | assumption)
                      have q21 : (x9_2 : Int) < ((x8_2.length : Int) : Int) := of_decide_eq_true (by first | (with_reducible assumption) | assumption)
                      obtain ⟨go21, co21, eo21, gb21, gl21, cl21, HG21⟩ := Kd.S_form HO_8.out (by omega)
                      (first | cases eo21 | (injection eo21 with ea_ en_ ec_; (first | subst ea_ | (injection ea_ with ea_; subst ea_)); subst ec_; clear en_))
                      have GB21 := Aside0.mk gb21
                      have GG21 := Aside0.mk HG21
                      clear gb21 gl21 HG21
                      (first | simp only [add_plain] at hx266_0 | skip)
                      (first | simp only [add_plain] at hx266_1 | skip)
                      (first | simp only [add_plain] at hx266_2 | skip)
                      (first | simp only [add_plain] at hx266_3 | skip)
                      (first | simp only [add_plain] at hx266_4 | skip)
                      (first | simp only [add_plain] at hx266_5 | skip)
                      (first | simp only [add_plain] at hx267_0 | skip)
                      (first | simp only [add_plain] at hx267_1 | skip)
                      (first | simp only [add_plain] at hx267_2 | skip)
                      (first | simp only [add_plain] at hx267_3 | skip)
                      (first | simp only [add_plain] at hx267_4 | skip)
                      (first | simp only [add_plain] at hx267_5 | skip)
                      (first | simp only [add_plain] at hx268_0 | skip)
                      (first | simp only [add_plain] at hx268_1 | skip)
                      (first | simp only [add_plain] at hx268_2 | skip)
                      (first | simp only [add_plain] at hx268_3 | skip)
                      (first | simp only [add_plain] at hx268_4 | skip)
                      (first | simp only [add_plain] at hx268_5 | skip)
                      obtain ⟨_, ce21, hcl21, hM21, hcc21, hfr21, _, _⟩ := Kd.S_elem HO_8.out z45 (x9_2 : Int) p21 q21
                      obtain ⟨ve21_5, rfl, ge21_5⟩ := k45_openM hM21
                      have hx21_0 : wr.cell? ⟨go21, (x9_2 : Int).toNat * 6, none⟩ = some (.int .i64 ((rd_T45 x8_2 x9_2).f0)) := hcc21 0 _ rfl
                      have hx21_1 : wr.cell? ⟨go21, (x9_2 : Int).toNat * 6 + 1, none⟩ = some (.int .i64 ((rd_T45 x8_2 x9_2).f1)) := hcc21 1 _ rfl
                      have hx21_2 : wr.cell? ⟨go21, (x9_2 : Int).toNat * 6 + 2, none⟩ = some (.int .i64 ((rd_T45 x8_2 x9_2).f2)) := hcc21 2 _ rfl
                      have hx21_3 : wr.cell? ⟨go21, (x9_2 : Int).toNat * 6 + 3, none⟩ = some (.int .i64 ((rd_T45 x8_2 x9_2).f3)) := hcc21 3 _ rfl
                      have hx21_4 : wr.cell? ⟨go21, (x9_2 : Int).toNat * 6 + 4, none⟩ = some (.int .i64 ((rd_T45 x8_2 x9_2).f4)) := hcc21 4 _ rfl
                      have hx21_5 : wr.cell? ⟨go21, (x9_2 : Int).toNat * 6 + 5, none⟩ = some (ve21_5) := hcc21 5 _ rfl
                      have hf21_0 : wr.frozen? ⟨go21, (x9_2 : Int).toNat * 6, none⟩ = false := hfr21 0
                      have hf21_1 : wr.frozen? ⟨go21, (x9_2 : Int).toNat * 6 + 1, none⟩ = false := hfr21 1
                      have hf21_2 : wr.frozen? ⟨go21, (x9_2 : Int).toNat * 6 + 2, none⟩ = false := hfr21 2
                      have hf21_3 : wr.frozen? ⟨go21, (x9_2 : Int).toNat * 6 + 3, none⟩ = false := hfr21 3
                      have hf21_4 : wr.frozen? ⟨go21, (x9_2 : Int).toNat * 6 + 4, none⟩ = false := hfr21 4
                      have hf21_5 : wr.frozen? ⟨go21, (x9_2 : Int).toNat * 6 + 5, none⟩ = false := hfr21 5
                      clear hcl21 hcc21 hfr21 hM21
                      replace p21 := eq_true p21
                      replace q21 := eq_true q21
                      have HX30 := Aside0.mk (show Kd.S k45 45 wr w.heap.size (fun k_ => ((fun _ => True)) k_ ∧ ¬ ((fun _ => False)) k_) (.slice (some ⟨go21, 0, none⟩) x8_2.length co29) x8_2 from (by (with_reducible repeat (first | apply Kd.S_alloc | apply Kd.S_drewN | apply Kd.S_drew)); exact Kd.S_mono HO_8.out (fun k_ hk => ⟨trivial, fun e_ => e_⟩)))
                      obtain ⟨oki30, ce30, hcl30, hM30, hcc30, hfr30, hoki30, hH30⟩ := Kd.S_elem HX30.out z45 (x9_2 : Int) (of_decide_eq_true (by first | (with_reducible assumption) | assumption)) (by have h_ : (x9_2 : Int) < ((x8_2.length : Int) : Int) := of_decide_eq_true (by first | (with_reducible assumption) | assumption); first | exact h_ | (have e_ := (Kd.S_reads' HO_8.out).1; omega) | simpa using h_)
                      obtain ⟨ve30_5, rfl, ge30_5⟩ := k45_openM hM30
                      have HP30 := Kd.S_seg hH30 (of_decide_eq_true (by first | (with_reducible assumption) | assumption)) (by have h_ : (x9_2 : Int) < ((x8_2.length : Int) : Int) := of_decide_eq_true (by first | (with_reducible assumption) | assumption); first | exact h_ | (have e_ := (Kd.S_reads' HO_8.out).1; omega) | simpa using h_) (seg := [.int .i64 (wrap64 (((rd_T45 x8_2 x9_2).f2) - (ji20)))]) (j := 2) (show 3 ≤ 6 from by decide) (x' := (⟨(rd_T45 x8_2 x9_2).f0, (rd_T45 x8_2 x9_2).f1, wrap64 (((rd_T45 x8_2 x9_2).f2) - (ji20)), (rd_T45 x8_2 x9_2).f3, (rd_T45 x8_2 x9_2).f4, (rd_T45 x8_2 x9_2).f5⟩ : S45)) (k45_mkM _ _ _ (⟨(rd_T45 x8_2 x9_2).f0, (rd_T45 x8_2 x9_2).f1, wrap64 (((rd_T45 x8_2 x9_2).f2) - (ji20)), (rd_T45 x8_2 x9_2).f3, (rd_T45 x8_2 x9_2).f4, (rd_T45 x8_2 x9_2).f5⟩ : S45) (Kd.R_mono ge30_5 (fun _ h_ => Or.inl h_))) (fun _ hk => hk) (fun k_ hk_ => hk_.elim)
                      have hx30_2 := hcc30 2 _ rfl
                      (try simp only [show (k45).sz = 6 from rfl, Nat.mul_one, Nat.add_zero] at hx30_2)
                      have hf30_2 := hfr30 2
                      (try simp only [show (k45).sz = 6 from rfl, Nat.mul_one, Nat.add_zero] at hf30_2)
                      clear hcl30 hcc30 hfr30 hM30 hoki30 hH30
                      go_wp2_with (first | ((with_reducible refine gate_store (t := 2) (p := 53) rfl ?_); refine store_event (t := 2) (p := 53) (v := ?vo_w31) (w1 := (wr.setCell ⟨go21, (x9_2 : Int).toNat * 6 + 2, none⟩ (.int .i64 (wrap64 (((rd_T45 x8_2 x9_2).f2) - (ji20)))))) ?hg ?ho ?hn ?hr ?_; (case ho => rfl); (case hg => rfl); (case hn => rfl); (case hr => first | (go_simp; done) | (go_simp; rfl)); intro w31 hw; have hg : wr.grownBy w31 (some go21) := (by rw [hw]; exact HP30.2); have hp_ : Kd.S k45 45 w31 w.heap.size (fun _ => True) (.slice (some ⟨go21, 0, none⟩) x8_2.length co29) y269 := (by rw [hw, Ny269.out]; exact HP30.1); clear HP30; have n0_ := Aside0.mk (hp_); have n1_ := Aside0.mk (blk_grown (g := gb259) (Up.up BK259.out) hg (Kd.S_ne HO_8.out BK259.out (by decide))); have n2_ := Aside0.mk (Kd.R_after (v := (.slice (some ⟨go21, 0, none⟩) x8_2.length co29)) (v1 := (.slice (some ⟨go21, 0, none⟩) x8_2.length co29)) (ok := (fun _ => True)) (by (with_reducible repeat (first | apply Kd.R_alloc | apply Kd.R_drewN | apply Kd.R_drew)); exact HL266_5.out) hg (.inl rfl)); have n3_ := Aside0.mk (Kd.R_after (v := (.slice (some ⟨go21, 0, none⟩) x8_2.length co29)) (v1 := (.slice (some ⟨go21, 0, none⟩) x8_2.length co29)) (ok := (fun _ => True)) (by (with_reducible repeat (first | apply Kd.R_alloc | apply Kd.R_drewN | apply Kd.R_drew)); exact HL267_5.out) hg (.inl rfl)); have n4_ := Aside0.mk (Kd.R_after (v := (.slice (some ⟨go21, 0, none⟩) x8_2.length co29)) (v1 := (.slice (some ⟨go21, 0, none⟩) x8_2.length co29)) (ok := (fun _ => True)) (by (with_reducible repeat (first | apply Kd.R_alloc | apply Kd.R_drewN | apply Kd.R_drew)); exact HL268_5.out) hg (.inl rfl)); have n5_ := Aside0.mk ((by rw [hw]; exact below_set (HB.out) GB21.out : Below w.heap.size w w31)); clear HO_8; clear BK259; clear HL266_5; clear HL267_5; clear HL268_5; clear HB; have HO_8 := n0_; have BK259 := n1_; have HL266_5 := n2_; have HL267_5 := n3_; have HL268_5 := n4_; have HB := n5_; clear n0_ n1_ n2_ n3_ n4_ n5_; clear hg hw hp_; have p270 : 0 ≤ (x9_2 : Int) := of_decide_eq_true (by first | (with_reducible assumption) | assumption); have q270 : x9_2 < (y269.length : Int) := (by have h_ : (x9_2 : Int) < ((x8_2.length : Int) : Int) := of_decide_eq_true (by first | (with_reducible assumption) | assumption); first | (have e_ := (Kd.S_reads' HO_8.out).1; omega) | simpa only [Ny269.out, List.length_set] using h_); have ql270 : ((x9_2 : Int) < ((x8_2.length : Int) : Int)) = True := eq_true (of_decide_eq_true (by first | (with_reducible assumption) | assumption)); obtain ⟨ad270, A270_5, c270_5, e270, hx270_0, hx270_1, hx270_2, hx270_3, hx270_4, hx270_5, hl270_5, hi270_5⟩ := at_T45 (Kd.S_reads' HO_8.out).2.2 x9_2 p270 q270; obtain rfl : (⟨go21, 0, none⟩ : Addr) = ad270 := (by injection e270); obtain ⟨ce270, hce270, hMe270, hcc270⟩ := Kd.S_get HO_8.out z45 x9_2 p270 (by first | exact q270 | exact of_decide_eq_true (by first | (with_reducible assumption) | assumption) | (have e_ := (Kd.S_reads' HO_8.out).1; omega)); obtain ⟨ve270_5, rfl, ge270_5⟩ := k45_openM hMe270; have hv270_5 := hcc270 5 _ rfl; rw [add_field _ _ 5 (by omega)] at hv270_5; replace hv270_5 := Option.some.inj (hv270_5.symm.trans hx270_5); rw [hv270_5] at ge270_5; have HL270_5 := Aside0.mk (show Kd.R (Kd.int .i64) 3 _ _ _ _ ((rd_T45 y269 x9_2).f5) from ge270_5); clear hv270_5 ge270_5; clear hcc270 hce270; (first | simp only [add_plain] at hx270_0 | simp only [add_at] at hx270_0 | simp only [Addr.add, Nat.zero_add] at hx270_0 | skip); (first | simp only [add_plain] at hx270_1 | simp only [add_at] at hx270_1 | simp only [Addr.add, Nat.zero_add] at hx270_1 | skip); (first | simp only [add_plain] at hx270_2 | simp only [add_at] at hx270_2 | simp only [Addr.add, Nat.zero_add] at hx270_2 | skip); (first | simp only [add_plain] at hx270_3 | simp only [add_at] at hx270_3 | simp only [Addr.add, Nat.zero_add] at hx270_3 | skip); (first | simp only [add_plain] at hx270_4 | simp only [add_at] at hx270_4 | simp only [Addr.add, Nat.zero_add] at hx270_4 | skip); (first | simp only [add_plain] at hx270_5 | simp only [add_at] at hx270_5 | simp only [Addr.add, Nat.zero_add] at hx270_5 | skip); have HR270_5 := Aside0.mk hi270_5; have HC270_5 := Aside0.mk hl270_5; clear hi270_5 hl270_5; replace p270 := eq_true p270; replace q270 := eq_true q270))
                      go_roundg k2
                      case measure => have := HJ5.out; have := HK2.out; omega
                      case rel => exact ⟨(wrap64 (x1_2 - (ji20))), (y269), (wrap64 (x9_2 + 1)), (by first | rfl | (simp; done) | (simp only [← hji20] <;> (first | rfl | simp)) | (simp [*]; done)), (by first | rfl | (simp; done) | (simp [*]; done)), H', ⟨by have := HJ5.out; have := HK2.out; omega⟩, ⟨by (with_reducible repeat (first | apply Kd.S_alloc | apply Kd.S_drewN | apply Kd.S_drew)); exact HO_8.out⟩, ⟨by (with_reducible repeat (first | refine blk_drewN ?_ _ | refine blk_drew ?_ | refine blk_alloc ?_ _)); exact BK259.out⟩, ⟨by repeat (first | (with_reducible first | exact HB.out | apply below_alloc | apply pw_below_drewN | apply below_drew1 | refine below_set ?_ GE259.out) | exact HB.out)⟩⟩
                · rw [if_neg c17] at H
                  exact absurd H (by simp)
              · rw [if_neg c16] at H
                have c16b0 : decide (x9_2 < (x8_2.length : Int)) = false := decide_eq_false c16
                clear c16
                simp only [Option.some.injEq, Prod.mk.injEq] at H
                obtain ⟨rfl, rfl, rfl⟩ := H
                obtain ⟨Ao32, co32, eo32⟩ := Kd.S_slice HO_8.out
                subst eo32
                have hcz33_0 : wr.cell? ⟨gb259, 0, none⟩ = some (.slice none 0 0) := (blk_cell BK259.out 0).trans rfl
                have hcz33_1 : wr.cell? ⟨gb259, 1, none⟩ = some (.int .i64 0) := (blk_cell BK259.out 1).trans rfl
                have hfz33_0 := blk_frozen BK259.out 0
                have hfz33_1 := blk_frozen BK259.out 1
                go_wp2
                refine bodyPost_ret (results_ct rfl _ _ gb259 33 #[.slice Ao32 x8_2.length co32, .int .i64 x1_2] (0, 0) _ rfl (by (with_reducible repeat (first | refine blk_drewN ?_ _ | refine blk_drew ?_ | refine blk_alloc ?_ _)); refine blk_put (cs := #[.slice Ao32 x8_2.length co32, .int .i64 0]) ?_ 1 _ rfl; (with_reducible repeat (first | refine blk_drewN ?_ _ | refine blk_drew ?_ | refine blk_alloc ?_ _)); refine blk_put (cs := #[.slice none 0 0, .int .i64 0]) ?_ 0 _ rfl; (with_reducible repeat (first | refine blk_drewN ?_ _ | refine blk_drew ?_ | refine blk_alloc ?_ _)); exact BK259.out) Try.underlying33 rfl (by kernel_rfl)) rfl ?_
                exact ⟨_, by first | rfl | (simp [errW_none, errW_some] <;> rfl) | (simp [*, errW_none, errW_some] <;> rfl), by (with_reducible repeat (first | apply Kd.S_alloc | apply Kd.S_drewN | apply Kd.S_drew)); exact Kd.S_mono (Kd.S_far (p := ⟨gb259, 1, none⟩) (Kd.S_far (p := ⟨gb259, 0, none⟩) (Kd.S_types HO_8.out BK259.out (by decide)) (fun _ hk => hk.2) (.slice Ao32 x8_2.length co32)) (fun _ hk => hk.2) (.int .i64 x1_2)) (fun _ hk => trivial), by repeat (first | (with_reducible first | exact HB.out | apply below_alloc | apply pw_below_drewN | apply below_drew1 | refine below_set ?_ GE259.out) | exact HB.out)⟩
  · replace c5 := Bool.eq_false_iff.mpr c5
    subst c5
    have H1 : (some (([] : List (S45)), 0, 11)) = some (r1, r2, r3) := by rw [if_neg (show ¬ (false = true) by decide)] at H; exact H
    clear H
    have H := H1
    clear H1
    simp only [Option.some.injEq, Prod.mk.injEq] at H
    obtain ⟨rfl, rfl, rfl⟩ := H
    go_enter Try.func15, Try.ntmps15
    go_wp2_with (first | ((with_reducible refine gate_dst (N := 6) rfl ?_); refine box_event ?hg (N := 6) ?hd (cs := #[.slice none 0 0, .int .i64 0]) (t := 33) ?hr ?_; (case hd => rfl); (case hg => rfl); (case hr => first | (go_simp; done) | (go_simp; rfl)); intro gb259 hg w34 hbox hb; have n0_ := Aside0.mk (below_step (by repeat (first | (with_reducible first | exact HB.out | apply below_alloc | apply pw_below_drewN | apply below_drew1) | exact HB.out)) hb); have n1_ := Aside0.mk (hbox); have n2_ := Aside0.mk ((by rw [hg]; exact (below_size (by repeat (first | (with_reducible first | exact HB.out | apply below_alloc | apply pw_below_drewN | apply below_drew1) | exact HB.out))) : w.heap.size ≤ gb259)); have n3_ := Aside0.mk ((by rw [hg]; exact (below_size (by repeat (first | (with_reducible first | exact HB.out | apply below_alloc | apply pw_below_drewN | apply below_drew1) | exact HB.out))) : w.heap.size ≤ gb259)); clear HB; have HB := n0_; have BK259 := n1_; have GW259 := n2_; have GE259 := n3_; clear n0_ n1_ n2_ n3_; clear hb hbox hg) | ((with_reducible refine gate_callee (f := 16) rfl ?_); refine goesL_ (some 12) rfl rfl Try.func16 (by kernel_rfl) rfl #[.slice A0 l0.length c0] rfl (by (try simp only [List.map_toArray, List.map_cons, List.map_nil]); first | done | rfl | (simp only [List.length_drop, List.length_take]; rfl)) ?_; (with_reducible refine (annuityref19_Good.calls k _ _ l0 false _ ?side1 ?side2 A4.out).mono ?_); (case side1 => repeat (first | exact (Kd.C_below HR0.out HB.out) | (with_reducible refine Kd.C_alloc ?_ _) | (with_reducible refine Kd.C_drewN ?_ _) | (with_reducible refine Kd.C_drew ?_))); (case side2 => exact HC0.out); rintro e w35 ⟨rfl, hb⟩; refine ⟨_, rfl, ?_⟩; have n0_ := Aside0.mk (blk_below (g := gb259) (Up.up BK259.out) hb); have n1_ := Aside0.mk (below_step (by repeat (first | (with_reducible first | exact HB.out | apply below_alloc | apply pw_below_drewN | apply below_drew1 | refine below_set ?_ GE259.out) | exact HB.out)) hb); clear BK259; clear HB; have BK259 := n0_; have HB := n1_; clear n0_ n1_; (try clear hb); (try clear hb2); (try clear hk); (try clear hi); have hcz36_0 : w35.cell? ⟨gb259, 0, none⟩ = some (.slice none 0 0) := (blk_cell BK259.out 0).trans rfl; have hcz36_1 : w35.cell? ⟨gb259, 1, none⟩ = some (.int .i64 0) := (blk_cell BK259.out 1).trans rfl; have hfz36_0 := blk_frozen BK259.out 0; have hfz36_1 := blk_frozen BK259.out 1))
    refine bodyPost_ret (results_ct rfl _ _ gb259 33 #[.slice none 0 0, .int .i64 0] (0, 0) _ rfl (by (with_reducible repeat (first | refine blk_drewN ?_ _ | refine blk_drew ?_ | refine blk_alloc ?_ _)); refine blk_put (cs := #[.slice none 0 0, .int .i64 0]) ?_ 1 _ rfl; (with_reducible repeat (first | refine blk_drewN ?_ _ | refine blk_drew ?_ | refine blk_alloc ?_ _)); refine blk_put (cs := #[.slice none 0 0, .int .i64 0]) ?_ 0 _ rfl; (with_reducible repeat (first | refine blk_drewN ?_ _ | refine blk_drew ?_ | refine blk_alloc ?_ _)); exact BK259.out) Try.underlying33 rfl (by kernel_rfl)) rfl ?_
    exact ⟨_, by first | rfl | (simp [errW_none, errW_some] <;> rfl) | (simp [*, errW_none, errW_some] <;> rfl), by first | exact Kd.S_nil _ _ _ _ _ | exact Kd.N_nil _ _ _ _ _ | exact Kd.V_nil _ _ _ _ _ | exact Kd.Q_nil _ _ _ _ _ | exact Kd.R_nil _ _ _ _ _, by repeat (first | (with_reducible first | exact HB.out | apply below_alloc | apply pw_below_drewN | apply below_drew1 | refine below_set ?_ GE259.out) | exact HB.out)⟩

end Go.Proofs.Ytibjbgfphhmogaa.P
