/- Functions of the program as plain Lean functions, and proofs that its calls come to just their answers, where they tell one (written by a program of this session). -/
import Derived.Test.YtibjbgfphhmogaaPx0
import Derived.Test.YtibjbgfphhmogaaPx7
import Derived.Test.YtibjbgfphhmogaaPx9
import Derived.Test.YtibjbgfphhmogaaZg
namespace Go.Proofs.Ytibjbgfphhmogaa.P
open Go.RowKit Go.Proofs.YtibjbgfphhmogaaW.PrintWords Go.Proofs.YtibjbgfphhmogaaW.PrintLast Go.Proofs.YtibjbgfphhmogaaW.PrintMore
attribute [local go_sem] max2_int min2_int max_two min_two max_three min_three max_four min_four   -- for this text's walks alone
set_option linter.unusedVariables false
set_option linter.unusedSimpArgs false

/-! ### annuityref19_Issue: function 12 -/
def annuityref19_Issue.j0 : Nat → List (S45) → Int → Int → Int → Int → List Int → Bool → Option ((List (S45)) × Int × Int)
  | 0, _, _, _, _, _, _, _ => none
  | k + 1, x0, x1, x2, x3, x4, x5, x51 => if x51 = true then (some (([] : List (S45)), 0, 1)) else ((some (([] : List Int) : List Int)).bind fun y195 => (if y195.length + x5.length < 17592186044416 then ((some (y195 ++ x5 : List Int)).bind fun y198 => (if (wrap64 (x2 - (mn x2 x3))) = 0 then ((annuityref04_First.f k x1).bind fun bt202 => ((annuitykeep_CopyBills.f k x0).bind fun t204 => ((some (([(⟨x1, x2, wrap64 (x2 - (mn x2 x3)), bt202.1, x4, y198⟩ : S45)] : List (S45)) : List (S45))).bind fun y207 => (if t204.length + y207.length < 2199023255552 then (some ((t204 ++ y207), wrap64 (x3 - (mn x2 x3)), 0)) else (none))))) else ((annuitykeep_CopyBills.f k x0).bind fun t213 => ((some (([(⟨x1, x2, wrap64 (x2 - (mn x2 x3)), (-1), x4, y198⟩ : S45)] : List (S45)) : List (S45))).bind fun y216 => (if t213.length + y216.length < 2199023255552 then (some ((t213 ++ y216), wrap64 (x3 - (mn x2 x3)), 0)) else (none)))))) else (none)))
def annuityref19_Issue.f (k : Nat) (l0 : List (S45)) (a1 : Int) (a2 : Int) (a3 : Int) (a4 : Int) (l5 : List Int) : Option ((List (S45)) × Int × Int) := (annuityref19_Good.f k l0).bind fun t189 => (if t189 = true then (if a1 < 0 then (annuityref19_Issue.j0 k l0 a1 a2 a3 a4 l5 true) else (if a1 > 2879 then (annuityref19_Issue.j0 k l0 a1 a2 a3 a4 l5 true) else (if (l0.length : Int) > 0 then (if 0 ≤ (wrap64 ((l0.length : Int) - 1)) then (if (wrap64 ((l0.length : Int) - 1)) < (l0.length : Int) then (if a1 ≤ ((rd_T45 l0 (wrap64 ((l0.length : Int) - 1))).f0) then (annuityref19_Issue.j0 k l0 a1 a2 a3 a4 l5 true) else ((annuityref19_money.f a2).bind fun t191 => (if t191 = true then ((annuityref19_money.f a3).bind fun t192 => (annuityref19_Issue.j0 k l0 a1 a2 a3 a4 l5 (!t192))) else (annuityref19_Issue.j0 k l0 a1 a2 a3 a4 l5 true)))) else (none)) else (none)) else ((annuityref19_money.f a2).bind fun t193 => (if t193 = true then ((annuityref19_money.f a3).bind fun t194 => (annuityref19_Issue.j0 k l0 a1 a2 a3 a4 l5 (!t194))) else (annuityref19_Issue.j0 k l0 a1 a2 a3 a4 l5 true)))))) else (some (([] : List (S45)), 0, 11)))
theorem annuityref19_Issue.mono_l : ∀ k, (∀ y0 y1 y2 y3 y4 y5 y6, LeO (annuityref19_Issue.j0 k y0 y1 y2 y3 y4 y5 y6) (annuityref19_Issue.j0 (k + 1) y0 y1 y2 y3 y4 y5 y6))
  | 0 => fun _ _ _ _ _ _ _ r h => by simp [annuityref19_Issue.j0] at h
  | k + 1 => by
    have ih0 := annuityref19_Issue.mono_l k
    · intro y0 y1 y2 y3 y4 y5 y6
      unfold annuityref19_Issue.j0
      repeat' first
      | (with_reducible exact ih0 _ _ _ _ _ _ _)
      | (with_reducible exact annuitykeep_CopyBills.mono _ _)
      | (with_reducible exact annuityref04_First.mono _ _)
      | (with_reducible exact annuityref19_Good.mono _ _)
      | (with_reducible exact LeO.refl _)
      | (with_reducible exact LeO.none _)
      | (with_reducible refine LeO.ite ?_ ?_)
      | (with_reducible refine LeO.bind ?_ (fun _ => ?_))
      | exact ih0 _ _ _ _ _ _ _
      | exact annuitykeep_CopyBills.mono _ _
      | exact annuityref04_First.mono _ _
      | exact annuityref19_Good.mono _ _
      | exact LeO.none _
      | refine LeO.ite ?_ ?_
      | refine LeO.bind ?_ (fun _ => ?_)
theorem annuityref19_Issue.mono : ∀ a0 a1 a2 a3 a4 a5 k, LeO (annuityref19_Issue.f k a0 a1 a2 a3 a4 a5) (annuityref19_Issue.f (k + 1) a0 a1 a2 a3 a4 a5) := by
  intro a0 a1 a2 a3 a4 a5 k
  have ih0 := annuityref19_Issue.mono_l k
  unfold annuityref19_Issue.f
  repeat' first
      | (with_reducible exact ih0 _ _ _ _ _ _ _)
      | (with_reducible exact annuitykeep_CopyBills.mono _ _)
      | (with_reducible exact annuityref04_First.mono _ _)
      | (with_reducible exact annuityref19_Good.mono _ _)
      | (with_reducible exact LeO.refl _)
      | (with_reducible exact LeO.none _)
      | (with_reducible refine LeO.ite ?_ ?_)
      | (with_reducible refine LeO.bind ?_ (fun _ => ?_))
      | exact ih0 _ _ _ _ _ _ _
      | exact annuitykeep_CopyBills.mono _ _
      | exact annuityref04_First.mono _ _
      | exact annuityref19_Good.mono _ _
      | exact LeO.none _
      | refine LeO.ite ?_ ?_
      | refine LeO.bind ?_ (fun _ => ?_)
def annuityref19_Issue.T9 : Bool × List (List Nat × List Nat) := (true, [([], []), ([0], [0]), ([], []), ([2], [2]), ([1, 3, 1], [1, 3]), ([], []), ([], []), ([5, 6], [5, 6]), ([4, 7], [4, 7]), ([8, 4, 0, 1, 2, 3, 4, 5, 6, 7, 8], [8]), ([9, 0, 1, 2, 3, 4, 5, 6, 7, 8, 9], [])])
def annuityref19_Issue.B9 : List Nat := [0, 1, 0, 4, 15, 0, 0, 96, 255, 511, 1023]
theorem annuityref19_Issue.tab9 : rtab .any (opsOf Try.f12 9) = annuityref19_Issue.T9 := by kernel_rfl
theorem annuityref19_Issue.bits9 : waitsOk annuityref19_Issue.T9.2 annuityref19_Issue.B9 = true := by kernel_rfl
set_option maxHeartbeats 8000000 in
set_option maxRecDepth 100000 in
theorem annuityref19_Issue.calls (k : Nat) (A0 : Option Addr) (c0 : Nat) (l0 : List (S45)) (a1 : Int) (a2 : Int) (a3 : Int) (a4 : Int) (A5 : Option Addr) (c5 : Nat) (l5 : List Int) (r1 : List (S45)) (r2 : Int) (r3 : Int) (w : World) (hr0 : Kd.C k45 w A0 l0.length l0) (hc0 : l0.length ≤ c0) (hr5 : Kd.C (Kd.int .i64) w A5 l5.length l5) (hc5 : l5.length ≤ c5) (h : annuityref19_Issue.f k l0 a1 a2 a3 a4 l5 = some (r1, r2, r3)) :
    Calls Try.prog 12 #[.slice A0 l0.length c0, .int .i64 a1, .int .i64 a2, .int .i64 a3, .int .i64 a4, .slice A5 l5.length c5] w fun e w' => ∃ v0_ : Value, e = .returned (.tuple #[.agg #[v0_, .int .i64 r2], .int .i64 r3]) ∧ Kd.N k45 45 w' w.heap.size (fun k_ => (w.heap.size ≤ k_)) v0_ r1 ∧ Below w.heap.size w w' := by
  have hu33 := Try.underlying33
  have hu45 := Try.underlying45
  have HR0 := Aside0.mk hr0
  have HC0 := Aside0.mk hc0
  clear hr0 hc0
  have HR5 := Aside0.mk hr5
  have HC5 := Aside0.mk hc5
  clear hr5 hc5
  have HB := Aside0.mk (Below.refl w.heap.size w)
  have H : ((annuityref19_Good.f k l0).bind fun t189 => (if t189 = true then (if a1 < 0 then (annuityref19_Issue.j0 k l0 a1 a2 a3 a4 l5 true) else (if a1 > 2879 then (annuityref19_Issue.j0 k l0 a1 a2 a3 a4 l5 true) else (if (l0.length : Int) > 0 then (if 0 ≤ (wrap64 ((l0.length : Int) - 1)) then (if (wrap64 ((l0.length : Int) - 1)) < (l0.length : Int) then (if a1 ≤ ((rd_T45 l0 (wrap64 ((l0.length : Int) - 1))).f0) then (annuityref19_Issue.j0 k l0 a1 a2 a3 a4 l5 true) else ((annuityref19_money.f a2).bind fun t191 => (if t191 = true then ((annuityref19_money.f a3).bind fun t192 => (annuityref19_Issue.j0 k l0 a1 a2 a3 a4 l5 (!t192))) else (annuityref19_Issue.j0 k l0 a1 a2 a3 a4 l5 true)))) else (none)) else (none)) else ((annuityref19_money.f a2).bind fun t193 => (if t193 = true then ((annuityref19_money.f a3).bind fun t194 => (annuityref19_Issue.j0 k l0 a1 a2 a3 a4 l5 (!t194))) else (annuityref19_Issue.j0 k l0 a1 a2 a3 a4 l5 true)))))) else (some (([] : List (S45)), 0, 11)))) = some (r1, r2, r3) := h
  clear h
  replace H := Option.bind_eq_some_iff.mp H
  obtain ⟨t189, A70, H⟩ := H
  replace H : (if t189 = true then (if a1 < 0 then (annuityref19_Issue.j0 k l0 a1 a2 a3 a4 l5 true) else (if a1 > 2879 then (annuityref19_Issue.j0 k l0 a1 a2 a3 a4 l5 true) else (if (l0.length : Int) > 0 then (if 0 ≤ (wrap64 ((l0.length : Int) - 1)) then (if (wrap64 ((l0.length : Int) - 1)) < (l0.length : Int) then (if a1 ≤ ((rd_T45 l0 (wrap64 ((l0.length : Int) - 1))).f0) then (annuityref19_Issue.j0 k l0 a1 a2 a3 a4 l5 true) else ((annuityref19_money.f a2).bind fun t191 => (if t191 = true then ((annuityref19_money.f a3).bind fun t192 => (annuityref19_Issue.j0 k l0 a1 a2 a3 a4 l5 (!t192))) else (annuityref19_Issue.j0 k l0 a1 a2 a3 a4 l5 true)))) else (none)) else (none)) else ((annuityref19_money.f a2).bind fun t193 => (if t193 = true then ((annuityref19_money.f a3).bind fun t194 => (annuityref19_Issue.j0 k l0 a1 a2 a3 a4 l5 (!t194))) else (annuityref19_Issue.j0 k l0 a1 a2 a3 a4 l5 true)))))) else (some (([] : List (S45)), 0, 11))) = some (r1, r2, r3) := H
  have A7 := Aside0.mk A70
  clear A70
  by_cases c8 : t189 = true
  · subst c8
    have H1 : (if a1 < 0 then (annuityref19_Issue.j0 k l0 a1 a2 a3 a4 l5 true) else (if a1 > 2879 then (annuityref19_Issue.j0 k l0 a1 a2 a3 a4 l5 true) else (if (l0.length : Int) > 0 then (if 0 ≤ (wrap64 ((l0.length : Int) - 1)) then (if (wrap64 ((l0.length : Int) - 1)) < (l0.length : Int) then (if a1 ≤ ((rd_T45 l0 (wrap64 ((l0.length : Int) - 1))).f0) then (annuityref19_Issue.j0 k l0 a1 a2 a3 a4 l5 true) else ((annuityref19_money.f a2).bind fun t191 => (if t191 = true then ((annuityref19_money.f a3).bind fun t192 => (annuityref19_Issue.j0 k l0 a1 a2 a3 a4 l5 (!t192))) else (annuityref19_Issue.j0 k l0 a1 a2 a3 a4 l5 true)))) else (none)) else (none)) else ((annuityref19_money.f a2).bind fun t193 => (if t193 = true then ((annuityref19_money.f a3).bind fun t194 => (annuityref19_Issue.j0 k l0 a1 a2 a3 a4 l5 (!t194))) else (annuityref19_Issue.j0 k l0 a1 a2 a3 a4 l5 true)))))) = some (r1, r2, r3) := by rw [if_pos rfl] at H; exact H
    clear H
    have H := H1
    clear H1
    have HC9 := Aside0.mk H
    clear H
    go_enter Try.func12, Try.ntmps12
    go_upto_region 3 with (first | ((with_reducible refine gate_dst (N := 12) rfl ?_); (try (refine gate_guard (by rfl) ?_; dsimp only)); refine box_event ?hg (N := 12) ?hd (cs := #[.slice none 0 0, .int .i64 0]) (t := 33) ?hr ?_; (case hd => rfl); (case hg => rfl); (case hr => first | (go_simp; done) | (go_simp; rfl)); intro gb188 hg w10 hbox hb; have n0_ := Aside0.mk (below_step (by repeat (first | (with_reducible first | exact HB.out | apply below_alloc | apply pw_below_drewN | apply below_drew1) | exact HB.out)) hb); have n1_ := Aside0.mk (hbox); have n2_ := Aside0.mk ((by rw [hg]; exact (below_size (by repeat (first | (with_reducible first | exact HB.out | apply below_alloc | apply pw_below_drewN | apply below_drew1) | exact HB.out))) : w.heap.size ≤ gb188)); have n3_ := Aside0.mk ((by rw [hg]; exact (below_size (by repeat (first | (with_reducible first | exact HB.out | apply below_alloc | apply pw_below_drewN | apply below_drew1) | exact HB.out))) : w.heap.size ≤ gb188)); clear HB; have HB := n0_; have BK188 := n1_; have GW188 := n2_; have GE188 := n3_; clear n0_ n1_ n2_ n3_; clear hb hbox hg) | ((with_reducible refine gate_callee (f := 16) rfl ?_); refine goesL_ (some 17) rfl rfl Try.func16 (by kernel_rfl) rfl #[.slice A0 l0.length c0] rfl (by (try simp only [List.map_toArray, List.map_cons, List.map_nil]); first | done | rfl | (simp only [List.length_drop, List.length_take]; rfl)) ?_; (with_reducible refine (annuityref19_Good.calls k _ _ l0 true _ ?side1 ?side2 A7.out).mono ?_); (case side1 => repeat (first | exact (Kd.C_below HR0.out HB.out) | (with_reducible refine Kd.C_alloc ?_ _) | (with_reducible refine Kd.C_drewN ?_ _) | (with_reducible refine Kd.C_drew ?_))); (case side2 => exact HC0.out); rintro e w11 ⟨rfl, hb⟩; refine ⟨_, rfl, ?_⟩; have n0_ := Aside0.mk (blk_below (g := gb188) (Up.up BK188.out) hb); have n1_ := Aside0.mk (below_step (by repeat (first | (with_reducible first | exact HB.out | apply below_alloc | apply pw_below_drewN | apply below_drew1 | refine below_set ?_ GE188.out) | exact HB.out)) hb); clear BK188; clear HB; have BK188 := n0_; have HB := n1_; clear n0_ n1_; (try clear hb); (try clear hb2); (try clear hk); (try clear hi)))
    (try simp only [Act.put, List.setIfInBounds_toArray, List.set_cons_zero, List.set_cons_succ])
    go_cut [51] (fun v51 wc => ∃ (kq : Nat) (x51_8 : Bool), v51 = .bool x51_8 ∧ Aside0 (annuityref19_Issue.j0 kq l0 a1 a2 a3 a4 l5 x51_8 = some (r1, r2, r3)) ∧ Aside0 (kq ≤ k) ∧ Aside0 (wc.heap[gb188]? = some (.cells #[(.slice none 0 0), .int .i64 0] 33 (0, 0))) ∧ Aside0 (Below w.heap.size w wc))
    case first =>
      have H := HC9.out
      clear HC9
      by_cases c12 : a1 < 0
      · rw [if_pos c12] at H
        have c12b0 : decide (a1 < 0) = true := decide_eq_true c12
        clear c12
        (first | rw [c12b0] | (simp only [i64_w, i32_w]; rw [c12b0]) | skip)
        have H' := Aside0.mk H
        clear H
        go_wp2
        go_meet
        case rel => exact ⟨_, (true), (by first | rfl | (simp; done) | (simp [*]; done)), H', ⟨by first | omega | exact Nat.le_refl _⟩, ⟨by (with_reducible repeat (first | refine blk_drewN ?_ _ | refine blk_drew ?_ | refine blk_alloc ?_ _)); exact BK188.out⟩, ⟨by repeat (first | (with_reducible first | exact HB.out | apply below_alloc | apply pw_below_drewN | apply below_drew1 | refine below_set ?_ GE188.out) | exact HB.out)⟩⟩
      · rw [if_neg c12] at H
        have c12b0 : decide (a1 < 0) = false := decide_eq_false c12
        clear c12
        (first | rw [c12b0] | (simp only [i64_w, i32_w]; rw [c12b0]) | skip)
        by_cases c13 : a1 > 2879
        · rw [if_pos c13] at H
          have c13b0 : decide (2879 < a1) = true := decide_eq_true c13
          clear c13
          have H' := Aside0.mk H
          clear H
          go_wp2
          go_meet
          case rel => exact ⟨_, (true), (by first | rfl | (simp; done) | (simp [*]; done)), H', ⟨by first | omega | exact Nat.le_refl _⟩, ⟨by (with_reducible repeat (first | refine blk_drewN ?_ _ | refine blk_drew ?_ | refine blk_alloc ?_ _)); exact BK188.out⟩, ⟨by repeat (first | (with_reducible first | exact HB.out | apply below_alloc | apply pw_below_drewN | apply below_drew1 | refine below_set ?_ GE188.out) | exact HB.out)⟩⟩
        · rw [if_neg c13] at H
          have c13b0 : decide (2879 < a1) = false := decide_eq_false c13
          clear c13
          by_cases c14 : (l0.length : Int) > 0
          · rw [if_pos c14] at H
            have c14b0 : decide (0 < (l0.length : Int)) = true := decide_eq_true c14
            have c14b1 : decide (0 < l0.length) = true := decide_eq_true (by omega)
            clear c14
            obtain ⟨ji15, hji15⟩ : ∃ j_ : Int, (wrap64 ((l0.length : Int) - 1)) = j_ := ⟨_, rfl⟩
            replace H : (if 0 ≤ (ji15) then (if (ji15) < (l0.length : Int) then (if a1 ≤ ((rd_T45 l0 (ji15)).f0) then (annuityref19_Issue.j0 k l0 a1 a2 a3 a4 l5 true) else ((annuityref19_money.f a2).bind fun t191 => (if t191 = true then ((annuityref19_money.f a3).bind fun t192 => (annuityref19_Issue.j0 k l0 a1 a2 a3 a4 l5 (!t192))) else (annuityref19_Issue.j0 k l0 a1 a2 a3 a4 l5 true)))) else (none)) else (none)) = some (r1, r2, r3) := by first | (rw [hji15] at H; exact H) | (simp only [hji15] at H ⊢; exact H)
            have hji15w : (IntKind.i64.wrap ((l0.length : Int) - 1)) = ji15 := (i64_w _).trans hji15
            by_cases c16 : 0 ≤ (ji15)
            · rw [if_pos c16] at H
              have c16b0 : decide (0 ≤ (ji15)) = true := decide_eq_true c16
              clear c16
              by_cases c17 : (ji15) < (l0.length : Int)
              · rw [if_pos c17] at H
                have c17b0 : decide ((ji15) < (l0.length : Int)) = true := decide_eq_true c17
                clear c17
                by_cases c18 : a1 ≤ ((rd_T45 l0 (ji15)).f0)
                · rw [if_pos c18] at H
                  have c18b0 : decide (a1 ≤ ((rd_T45 l0 (ji15)).f0)) = true := decide_eq_true c18
                  clear c18
                  have H' := Aside0.mk H
                  clear H
                  have p190 : 0 ≤ ((ji15) : Int) := of_decide_eq_true (by first | (with_reducible assumption) | assumption)
                  have q190 : (ji15) < (l0.length : Int) := of_decide_eq_true (by first | (with_reducible assumption) | assumption)
                  obtain ⟨ad190, A190_5, c190_5, e190, hx190_0, hx190_1, hx190_2, hx190_3, hx190_4, hx190_5, hl190_5, hi190_5⟩ := at_T45 HR0.out (ji15) p190 q190
                  cases e190
                  replace hx190_0 := (HB.out.cell (World.block_lt_of_cell? w _ hx190_0)).trans hx190_0
                  replace hx190_1 := (HB.out.cell (World.block_lt_of_cell? w _ hx190_1)).trans hx190_1
                  replace hx190_2 := (HB.out.cell (World.block_lt_of_cell? w _ hx190_2)).trans hx190_2
                  replace hx190_3 := (HB.out.cell (World.block_lt_of_cell? w _ hx190_3)).trans hx190_3
                  replace hx190_4 := (HB.out.cell (World.block_lt_of_cell? w _ hx190_4)).trans hx190_4
                  replace hx190_5 := (HB.out.cell (World.block_lt_of_cell? w _ hx190_5)).trans hx190_5
                  have HR190_5 := Aside0.mk hi190_5
                  have HC190_5 := Aside0.mk hl190_5
                  clear hi190_5 hl190_5
                  replace p190 := eq_true p190
                  replace q190 := eq_true q190
                  go_wp2
                  go_meet
                  case rel => exact ⟨_, (true), (by first | rfl | (simp; done) | (simp [*]; done)), H', ⟨by first | omega | exact Nat.le_refl _⟩, ⟨by (with_reducible repeat (first | refine blk_drewN ?_ _ | refine blk_drew ?_ | refine blk_alloc ?_ _)); exact BK188.out⟩, ⟨by repeat (first | (with_reducible first | exact HB.out | apply below_alloc | apply pw_below_drewN | apply below_drew1 | refine below_set ?_ GE188.out) | exact HB.out)⟩⟩
                · rw [if_neg c18] at H
                  have c18b0 : decide (a1 ≤ ((rd_T45 l0 (ji15)).f0)) = false := decide_eq_false c18
                  clear c18
                  replace H := Option.bind_eq_some_iff.mp H
                  obtain ⟨t191, A190, H⟩ := H
                  replace H : (if t191 = true then ((annuityref19_money.f a3).bind fun t192 => (annuityref19_Issue.j0 k l0 a1 a2 a3 a4 l5 (!t192))) else (annuityref19_Issue.j0 k l0 a1 a2 a3 a4 l5 true)) = some (r1, r2, r3) := H
                  have A19 := Aside0.mk A190
                  clear A190
                  by_cases c20 : t191 = true
                  · subst c20
                    have H1 : ((annuityref19_money.f a3).bind fun t192 => (annuityref19_Issue.j0 k l0 a1 a2 a3 a4 l5 (!t192))) = some (r1, r2, r3) := by rw [if_pos rfl] at H; exact H
                    clear H
                    have H := H1
                    clear H1
                    replace H := Option.bind_eq_some_iff.mp H
                    obtain ⟨t192, A210, H⟩ := H
                    replace H : (annuityref19_Issue.j0 k l0 a1 a2 a3 a4 l5 (!t192)) = some (r1, r2, r3) := H
                    have A21 := Aside0.mk A210
                    clear A210
                    have H' := Aside0.mk H
                    clear H
                    have p190 : 0 ≤ ((ji15) : Int) := of_decide_eq_true (by first | (with_reducible assumption) | assumption)
                    have q190 : (ji15) < (l0.length : Int) := of_decide_eq_true (by first | (with_reducible assumption) | assumption)
                    obtain ⟨ad190, A190_5, c190_5, e190, hx190_0, hx190_1, hx190_2, hx190_3, hx190_4, hx190_5, hl190_5, hi190_5⟩ := at_T45 HR0.out (ji15) p190 q190
                    cases e190
                    replace hx190_0 := (HB.out.cell (World.block_lt_of_cell? w _ hx190_0)).trans hx190_0
                    replace hx190_1 := (HB.out.cell (World.block_lt_of_cell? w _ hx190_1)).trans hx190_1
                    replace hx190_2 := (HB.out.cell (World.block_lt_of_cell? w _ hx190_2)).trans hx190_2
                    replace hx190_3 := (HB.out.cell (World.block_lt_of_cell? w _ hx190_3)).trans hx190_3
                    replace hx190_4 := (HB.out.cell (World.block_lt_of_cell? w _ hx190_4)).trans hx190_4
                    replace hx190_5 := (HB.out.cell (World.block_lt_of_cell? w _ hx190_5)).trans hx190_5
                    have HR190_5 := Aside0.mk hi190_5
                    have HC190_5 := Aside0.mk hl190_5
                    clear hi190_5 hl190_5
                    replace p190 := eq_true p190
                    replace q190 := eq_true q190
                    go_wp2_with (first | (go_at_call 32; (with_reducible refine (annuityref19_money.calls a2 true _ A19.out).mono ?_); rintro e w' ⟨rfl, ⟨nd, rfl⟩⟩) | (go_at_call 32; (with_reducible refine (annuityref19_money.calls a3 t192 _ A21.out).mono ?_); rintro e w' ⟨rfl, ⟨nd, rfl⟩⟩))
                    go_meet
                    case rel => exact ⟨_, (!t192), (by first | rfl | (simp; done) | (simp [*]; done)), H', ⟨by first | omega | exact Nat.le_refl _⟩, ⟨by (with_reducible repeat (first | refine blk_drewN ?_ _ | refine blk_drew ?_ | refine blk_alloc ?_ _)); exact BK188.out⟩, ⟨by repeat (first | (with_reducible first | exact HB.out | apply below_alloc | apply pw_below_drewN | apply below_drew1 | refine below_set ?_ GE188.out) | exact HB.out)⟩⟩
                  · replace c20 := Bool.eq_false_iff.mpr c20
                    subst c20
                    have H1 : (annuityref19_Issue.j0 k l0 a1 a2 a3 a4 l5 true) = some (r1, r2, r3) := by rw [if_neg (show ¬ (false = true) by decide)] at H; exact H
                    clear H
                    have H := H1
                    clear H1
                    have H' := Aside0.mk H
                    clear H
                    have p190 : 0 ≤ ((ji15) : Int) := of_decide_eq_true (by first | (with_reducible assumption) | assumption)
                    have q190 : (ji15) < (l0.length : Int) := of_decide_eq_true (by first | (with_reducible assumption) | assumption)
                    obtain ⟨ad190, A190_5, c190_5, e190, hx190_0, hx190_1, hx190_2, hx190_3, hx190_4, hx190_5, hl190_5, hi190_5⟩ := at_T45 HR0.out (ji15) p190 q190
                    cases e190
                    replace hx190_0 := (HB.out.cell (World.block_lt_of_cell? w _ hx190_0)).trans hx190_0
                    replace hx190_1 := (HB.out.cell (World.block_lt_of_cell? w _ hx190_1)).trans hx190_1
                    replace hx190_2 := (HB.out.cell (World.block_lt_of_cell? w _ hx190_2)).trans hx190_2
                    replace hx190_3 := (HB.out.cell (World.block_lt_of_cell? w _ hx190_3)).trans hx190_3
                    replace hx190_4 := (HB.out.cell (World.block_lt_of_cell? w _ hx190_4)).trans hx190_4
                    replace hx190_5 := (HB.out.cell (World.block_lt_of_cell? w _ hx190_5)).trans hx190_5
                    have HR190_5 := Aside0.mk hi190_5
                    have HC190_5 := Aside0.mk hl190_5
                    clear hi190_5 hl190_5
                    replace p190 := eq_true p190
                    replace q190 := eq_true q190
                    go_wp2_with (first | (go_at_call 32; (with_reducible refine (annuityref19_money.calls a2 false _ A19.out).mono ?_); rintro e w' ⟨rfl, ⟨nd, rfl⟩⟩))
                    go_meet
                    case rel => exact ⟨_, (true), (by first | rfl | (simp; done) | (simp [*]; done)), H', ⟨by first | omega | exact Nat.le_refl _⟩, ⟨by (with_reducible repeat (first | refine blk_drewN ?_ _ | refine blk_drew ?_ | refine blk_alloc ?_ _)); exact BK188.out⟩, ⟨by repeat (first | (with_reducible first | exact HB.out | apply below_alloc | apply pw_below_drewN | apply below_drew1 | refine below_set ?_ GE188.out) | exact HB.out)⟩⟩
              · rw [if_neg c17] at H
                exact absurd H (by simp)
            · rw [if_neg c16] at H
              exact absurd H (by simp)
          · rw [if_neg c14] at H
            have c14b0 : decide (0 < (l0.length : Int)) = false := decide_eq_false c14
            have c14b1 : decide (0 < l0.length) = false := decide_eq_false (by omega)
            clear c14
            replace H := Option.bind_eq_some_iff.mp H
            obtain ⟨t193, A220, H⟩ := H
            replace H : (if t193 = true then ((annuityref19_money.f a3).bind fun t194 => (annuityref19_Issue.j0 k l0 a1 a2 a3 a4 l5 (!t194))) else (annuityref19_Issue.j0 k l0 a1 a2 a3 a4 l5 true)) = some (r1, r2, r3) := H
            have A22 := Aside0.mk A220
            clear A220
            by_cases c23 : t193 = true
            · subst c23
              have H1 : ((annuityref19_money.f a3).bind fun t194 => (annuityref19_Issue.j0 k l0 a1 a2 a3 a4 l5 (!t194))) = some (r1, r2, r3) := by rw [if_pos rfl] at H; exact H
              clear H
              have H := H1
              clear H1
              replace H := Option.bind_eq_some_iff.mp H
              obtain ⟨t194, A240, H⟩ := H
              replace H : (annuityref19_Issue.j0 k l0 a1 a2 a3 a4 l5 (!t194)) = some (r1, r2, r3) := H
              have A24 := Aside0.mk A240
              clear A240
              have H' := Aside0.mk H
              clear H
              go_wp2_with (first | (go_at_call 32; (with_reducible refine (annuityref19_money.calls a2 true _ A22.out).mono ?_); rintro e w' ⟨rfl, ⟨nd, rfl⟩⟩) | (go_at_call 32; (with_reducible refine (annuityref19_money.calls a3 t194 _ A24.out).mono ?_); rintro e w' ⟨rfl, ⟨nd, rfl⟩⟩))
              go_meet
              case rel => exact ⟨_, (!t194), (by first | rfl | (simp; done) | (simp [*]; done)), H', ⟨by first | omega | exact Nat.le_refl _⟩, ⟨by (with_reducible repeat (first | refine blk_drewN ?_ _ | refine blk_drew ?_ | refine blk_alloc ?_ _)); exact BK188.out⟩, ⟨by repeat (first | (with_reducible first | exact HB.out | apply below_alloc | apply pw_below_drewN | apply below_drew1 | refine below_set ?_ GE188.out) | exact HB.out)⟩⟩
            · replace c23 := Bool.eq_false_iff.mpr c23
              subst c23
              have H1 : (annuityref19_Issue.j0 k l0 a1 a2 a3 a4 l5 true) = some (r1, r2, r3) := by rw [if_neg (show ¬ (false = true) by decide)] at H; exact H
              clear H
              have H := H1
              clear H1
              have H' := Aside0.mk H
              clear H
              go_wp2_with (first | (go_at_call 32; (with_reducible refine (annuityref19_money.calls a2 false _ A22.out).mono ?_); rintro e w' ⟨rfl, ⟨nd, rfl⟩⟩))
              go_meet
              case rel => exact ⟨_, (true), (by first | rfl | (simp; done) | (simp [*]; done)), H', ⟨by first | omega | exact Nat.le_refl _⟩, ⟨by (with_reducible repeat (first | refine blk_drewN ?_ _ | refine blk_drew ?_ | refine blk_alloc ?_ _)); exact BK188.out⟩, ⟨by repeat (first | (with_reducible first | exact HB.out | apply below_alloc | apply pw_below_drewN | apply below_drew1 | refine below_set ?_ GE188.out) | exact HB.out)⟩⟩
    case rest =>
      clear HC9
      try clear c1
      try clear p1
      try clear q1
      try clear hx1
      try clear c2
      try clear p2
      try clear c5
      try clear p6
      try clear c8
      try clear c12
      try clear c12b0
      try clear c13
      try clear c13b0
      try clear c14
      try clear c14b0
      try clear c14b1
      try clear c16
      try clear c16b0
      try clear c17
      try clear c17b0
      try clear c18
      try clear c18b0
      try clear c19
      try clear p19
      try clear q19
      try clear hx19
      try clear c20
      try clear c23
      try clear hx190_0
      try clear hx190_1
      try clear hx190_2
      try clear hx190_3
      try clear hx190_4
      try clear hx190_5
      try clear p190
      try clear q190
      obtain ⟨kq, x51_8, rfl, HA, HJ8, BK188, HB⟩ := hcut
      cases kq with
      | zero => exact absurd HA.out (by simp [annuityref19_Issue.j0])
      | succ kj8 =>
        have H := HA.out
        clear HA
        simp only [annuityref19_Issue.j0] at H
        by_cases c25 : x51_8 = true
        · subst c25
          have H1 : (some (([] : List (S45)), 0, 1)) = some (r1, r2, r3) := by rw [if_pos rfl] at H; exact H
          clear H
          have H := H1
          clear H1
          simp only [Option.some.injEq, Prod.mk.injEq] at H
          obtain ⟨rfl, rfl, rfl⟩ := H
          have hcz26_0 : wc.cell? ⟨gb188, 0, none⟩ = some (.slice none 0 0) := (blk_cell BK188.out 0).trans rfl
          have hcz26_1 : wc.cell? ⟨gb188, 1, none⟩ = some (.int .i64 0) := (blk_cell BK188.out 1).trans rfl
          have hfz26_0 := blk_frozen BK188.out 0
          have hfz26_1 := blk_frozen BK188.out 1
          go_wp2
          refine bodyPost_ret (results_ct rfl _ _ gb188 33 #[.slice none 0 0, .int .i64 0] (0, 0) _ rfl (by (with_reducible repeat (first | refine blk_drewN ?_ _ | refine blk_drew ?_ | refine blk_alloc ?_ _)); refine blk_put (cs := #[.slice none 0 0, .int .i64 0]) ?_ 1 _ rfl; (with_reducible repeat (first | refine blk_drewN ?_ _ | refine blk_drew ?_ | refine blk_alloc ?_ _)); refine blk_put (cs := #[.slice none 0 0, .int .i64 0]) ?_ 0 _ rfl; (with_reducible repeat (first | refine blk_drewN ?_ _ | refine blk_drew ?_ | refine blk_alloc ?_ _)); exact BK188.out) Try.underlying33 rfl (by kernel_rfl)) rfl ?_
          exact ⟨_, by first | rfl | (simp [errW_none, errW_some] <;> rfl) | (simp [*, errW_none, errW_some] <;> rfl), by first | exact Kd.S_nil _ _ _ _ _ | exact Kd.N_nil _ _ _ _ _ | exact Kd.V_nil _ _ _ _ _ | exact Kd.Q_nil _ _ _ _ _ | exact Kd.R_nil _ _ _ _ _, by repeat (first | (with_reducible first | exact HB.out | apply below_alloc | apply pw_below_drewN | apply below_drew1 | refine below_set ?_ GE188.out) | exact HB.out)⟩
        · replace c25 := Bool.eq_false_iff.mpr c25
          subst c25
          have H1 : ((some (([] : List Int) : List Int)).bind fun y195 => (if y195.length + l5.length < 17592186044416 then ((some (y195 ++ l5 : List Int)).bind fun y198 => (if (wrap64 (a2 - (mn a2 a3))) = 0 then ((annuityref04_First.f kj8 a1).bind fun bt202 => ((annuitykeep_CopyBills.f kj8 l0).bind fun t204 => ((some (([(⟨a1, a2, wrap64 (a2 - (mn a2 a3)), bt202.1, a4, y198⟩ : S45)] : List (S45)) : List (S45))).bind fun y207 => (if t204.length + y207.length < 2199023255552 then (some ((t204 ++ y207), wrap64 (a3 - (mn a2 a3)), 0)) else (none))))) else ((annuitykeep_CopyBills.f kj8 l0).bind fun t213 => ((some (([(⟨a1, a2, wrap64 (a2 - (mn a2 a3)), (-1), a4, y198⟩ : S45)] : List (S45)) : List (S45))).bind fun y216 => (if t213.length + y216.length < 2199023255552 then (some ((t213 ++ y216), wrap64 (a3 - (mn a2 a3)), 0)) else (none)))))) else (none))) = some (r1, r2, r3) := by rw [if_neg (show ¬ (false = true) by decide)] at H; exact H
          clear H
          have H := H1
          clear H1
          obtain ⟨ji27, hji27⟩ : ∃ j_ : Int, (mn a2 a3) = j_ := ⟨_, rfl⟩
          replace H : ((some (([] : List Int) : List Int)).bind fun y195 => (if y195.length + l5.length < 17592186044416 then ((some (y195 ++ l5 : List Int)).bind fun y198 => (if (wrap64 (a2 - (ji27))) = 0 then ((annuityref04_First.f kj8 a1).bind fun bt202 => ((annuitykeep_CopyBills.f kj8 l0).bind fun t204 => ((some (([(⟨a1, a2, wrap64 (a2 - (ji27)), bt202.1, a4, y198⟩ : S45)] : List (S45)) : List (S45))).bind fun y207 => (if t204.length + y207.length < 2199023255552 then (some ((t204 ++ y207), wrap64 (a3 - (ji27)), 0)) else (none))))) else ((annuitykeep_CopyBills.f kj8 l0).bind fun t213 => ((some (([(⟨a1, a2, wrap64 (a2 - (ji27)), (-1), a4, y198⟩ : S45)] : List (S45)) : List (S45))).bind fun y216 => (if t213.length + y216.length < 2199023255552 then (some ((t213 ++ y216), wrap64 (a3 - (ji27)), 0)) else (none)))))) else (none))) = some (r1, r2, r3) := by first | (rw [hji27] at H; exact H) | (simp only [hji27] at H ⊢; exact H)
          have hji27_ : (if a3 < a2 then a3 else a2) = ji27 := hji27
          obtain ⟨y195, hy195⟩ : ∃ y_ : List Int, y_ = (([] : List Int)) := ⟨_, rfl⟩
          replace H : (if y195.length + l5.length < 17592186044416 then ((some (y195 ++ l5 : List Int)).bind fun y198 => (if (wrap64 (a2 - (ji27))) = 0 then ((annuityref04_First.f kj8 a1).bind fun bt202 => ((annuitykeep_CopyBills.f kj8 l0).bind fun t204 => ((some (([(⟨a1, a2, wrap64 (a2 - (ji27)), bt202.1, a4, y198⟩ : S45)] : List (S45)) : List (S45))).bind fun y207 => (if t204.length + y207.length < 2199023255552 then (some ((t204 ++ y207), wrap64 (a3 - (ji27)), 0)) else (none))))) else ((annuitykeep_CopyBills.f kj8 l0).bind fun t213 => ((some (([(⟨a1, a2, wrap64 (a2 - (ji27)), (-1), a4, y198⟩ : S45)] : List (S45)) : List (S45))).bind fun y216 => (if t213.length + y216.length < 2199023255552 then (some ((t213 ++ y216), wrap64 (a3 - (ji27)), 0)) else (none)))))) else (none)) = some (r1, r2, r3) := by first | (rw [hy195]; with_reducible exact H) | (have H2_ := (Option.bind_some _ _).symm.trans H; rw [hy195]; with_reducible exact H2_) | (have H2_ := (Option.bind_some _ _).symm.trans H; with_reducible exact H2_) | with_reducible exact H | (rw [hy195]; exact H) | exact H
          have Ny195 := Aside0.mk hy195
          clear hy195
          by_cases c28 : y195.length + l5.length < 17592186044416
          · rw [if_pos c28] at H
            have LMc28 := Aside0.mk c28
            clear c28
            obtain ⟨y198, hy198⟩ : ∃ y_ : List Int, y_ = (y195 ++ l5) := ⟨_, rfl⟩
            replace H : (if (wrap64 (a2 - (ji27))) = 0 then ((annuityref04_First.f kj8 a1).bind fun bt202 => ((annuitykeep_CopyBills.f kj8 l0).bind fun t204 => ((some (([(⟨a1, a2, wrap64 (a2 - (ji27)), bt202.1, a4, y198⟩ : S45)] : List (S45)) : List (S45))).bind fun y207 => (if t204.length + y207.length < 2199023255552 then (some ((t204 ++ y207), wrap64 (a3 - (ji27)), 0)) else (none))))) else ((annuitykeep_CopyBills.f kj8 l0).bind fun t213 => ((some (([(⟨a1, a2, wrap64 (a2 - (ji27)), (-1), a4, y198⟩ : S45)] : List (S45)) : List (S45))).bind fun y216 => (if t213.length + y216.length < 2199023255552 then (some ((t213 ++ y216), wrap64 (a3 - (ji27)), 0)) else (none))))) = some (r1, r2, r3) := by first | (rw [hy198]; with_reducible exact H) | (have H2_ := (Option.bind_some _ _).symm.trans H; rw [hy198]; with_reducible exact H2_) | (have H2_ := (Option.bind_some _ _).symm.trans H; with_reducible exact H2_) | with_reducible exact H | (rw [hy198]; exact H) | exact H
            have Ny198 := Aside0.mk hy198
            clear hy198
            by_cases c29 : (wrap64 (a2 - (ji27))) = 0
            · rw [if_pos c29] at H
              have c29b0 : ((wrap64 (a2 - (ji27))) == 0) = true := beq_iff_eq.mpr c29
              have c29b1 : ((wrap64 (a2 - (ji27))) != 0) = false := bne_eq_false_iff_eq.mpr c29
              clear c29
              replace H := Option.bind_eq_some_iff.mp H
              obtain ⟨⟨t202, t203⟩, A300, H⟩ := H
              replace H : ((annuitykeep_CopyBills.f kj8 l0).bind fun t204 => ((some (([(⟨a1, a2, wrap64 (a2 - (ji27)), t202, a4, y198⟩ : S45)] : List (S45)) : List (S45))).bind fun y207 => (if t204.length + y207.length < 2199023255552 then (some ((t204 ++ y207), wrap64 (a3 - (ji27)), 0)) else (none)))) = some (r1, r2, r3) := H
              have A30 := Aside0.mk A300
              clear A300
              replace H := Option.bind_eq_some_iff.mp H
              obtain ⟨t204, A310, H⟩ := H
              replace H : ((some (([(⟨a1, a2, wrap64 (a2 - (ji27)), t202, a4, y198⟩ : S45)] : List (S45)) : List (S45))).bind fun y207 => (if t204.length + y207.length < 2199023255552 then (some ((t204 ++ y207), wrap64 (a3 - (ji27)), 0)) else (none))) = some (r1, r2, r3) := H
              have A31 := Aside0.mk A310
              clear A310
              obtain ⟨y207, hy207⟩ : ∃ y_ : List (S45), y_ = (([(⟨a1, a2, wrap64 (a2 - (ji27)), t202, a4, y198⟩ : S45)] : List (S45))) := ⟨_, rfl⟩
              replace H : (if t204.length + y207.length < 2199023255552 then (some ((t204 ++ y207), wrap64 (a3 - (ji27)), 0)) else (none)) = some (r1, r2, r3) := by first | (rw [hy207]; with_reducible exact H) | (have H2_ := (Option.bind_some _ _).symm.trans H; rw [hy207]; with_reducible exact H2_) | (have H2_ := (Option.bind_some _ _).symm.trans H; with_reducible exact H2_) | with_reducible exact H | (rw [hy207]; exact H) | exact H
              have Ny207 := Aside0.mk hy207
              clear hy207
              by_cases c32 : t204.length + y207.length < 2199023255552
              · rw [if_pos c32] at H
                have LMc32 := Aside0.mk c32
                clear c32
                obtain ⟨y210, hy210⟩ : ∃ y_ : List (S45), y_ = (t204 ++ y207) := ⟨_, rfl⟩
                replace H : (some (y210, wrap64 (a3 - (ji27)), 0)) = some (r1, r2, r3) := by first | (rw [hy210]; with_reducible exact H) | (have H2_ := (Option.bind_some _ _).symm.trans H; rw [hy210]; with_reducible exact H2_) | (have H2_ := (Option.bind_some _ _).symm.trans H; with_reducible exact H2_) | with_reducible exact H | (rw [hy210]; exact H) | exact H
                have Ny210 := Aside0.mk hy210
                clear hy210
                simp only [Option.some.injEq, Prod.mk.injEq] at H
                obtain ⟨rfl, rfl, rfl⟩ := H
                try go_wp2_with (first | ((with_reducible refine gate_dst (N := 62) rfl ?_); (try (refine gate_guard (by rfl) ?_; dsimp only)); refine Kd.R_lit (Kd.int .i64) _ 3 ?hg (N := 62) ?hd (xs := ([] : List Int)) (inner := []) (ok := fun _ => True) (okp := fun _ => True) ?hr ?hp (fun _ hk => hk) trivial (Below.refl _ _) (Nat.le_refl _) (by simp) ?_; (case hd => rfl); (case hg => rfl); (case hr => first | (go_simp; done) | (go_simp; rfl)); (case hp => exact (Reps.none _ _)); intro v196 w33 ho34 hb hg_ hnew_; clear hg_ hnew_; (first | rw [← Ny195.out] at ho34 | (simp only [Int.reduceToNat] at ho34; rw [← Ny195.out] at ho34)); have n0_ := Aside0.mk (Kd.R_lower (Kd.R_newM (M := fun k_ => (w.heap.size ≤ k_)) ho34 (below_size (by repeat (first | (with_reducible first | exact HB.out | apply below_alloc | apply pw_below_drewN | apply below_drew1 | refine below_set ?_ GE188.out) | exact HB.out))) (fun k_ h_ => h_)) (below_size (by repeat (first | (with_reducible first | exact HB.out | apply below_alloc | apply pw_below_drewN | apply below_drew1 | refine below_set ?_ GE188.out) | exact HB.out)))); have n1_ := Aside0.mk (blk_below (g := gb188) (Up.up BK188.out) hb); have n2_ := Aside0.mk (below_step (by repeat (first | (with_reducible first | exact HB.out | apply below_alloc | apply pw_below_drewN | apply below_drew1 | refine below_set ?_ GE188.out) | exact HB.out)) hb); clear BK188; clear HB; have HO197 := n0_; have BK188 := n1_; have HB := n2_; clear n0_ n1_ n2_; clear hb ho34) | ((with_reducible refine gate_builtin (b := .append) (xs := #[.tmp 62, .tmp 63]) rfl ?_); (try (refine gate_guard (by rfl) ?_; dsimp only)); at_builtin; refine Kd.R_append_rows (Kd.int .i64) (w0 := w) w.heap.size rfl (.tmp 62) (.tmp 63) 28 3 (.int .i64 0) 8 rfl Try.underlying28 info3 rfl (by decide) (by omega) v196 y195 l5 _ _ _ (fun k_ => (w.heap.size ≤ k_)) (fun _ => False) rfl rfl ?aO ?aR (fun _ _ h => h) (fun _ h => h.elim) ?aF ?aB ?aS ?aL ?_; (case aR => repeat (first | exact (Kd.C_below HR5.out HB.out) | (with_reducible refine Kd.C_alloc ?_ _) | (with_reducible refine Kd.C_drewN ?_ _) | (with_reducible refine Kd.C_drew ?_))); (case aB => exact (by repeat (first | (with_reducible first | exact HB.out | apply below_alloc | apply pw_below_drewN | apply below_drew1 | refine below_set ?_ GE188.out) | exact HB.out))); (case aF => exact (fun k_ hk => (Nat.le_trans (below_size (by repeat (first | (with_reducible first | exact HB.out | apply below_alloc | apply pw_below_drewN | apply below_drew1 | refine below_set ?_ GE188.out) | exact HB.out))) hk))); (case aO => exact (by (with_reducible repeat (first | apply Kd.R_alloc | apply Kd.R_drewN | apply Kd.R_drew)); exact Kd.R_mono HO197.out (fun _ hk => hk.1))); (case aS => exact (below_size (by repeat (first | (with_reducible first | exact HB.out | apply below_alloc | apply pw_below_drewN | apply below_drew1 | refine below_set ?_ GE188.out) | exact HB.out)))); (case aL => have := LMc28.out; omega); intro v199 w35 ho hb hg hat; rw [← Ny198.out] at ho; have n0_ := Aside0.mk (blk_grown (g := gb188) (Up.up BK188.out) hg (Kd.R_ne HO197.out BK188.out (by decide))); have n1_ := Aside0.mk (hb); have n2_ := Aside0.mk (ho); clear BK188; clear HB; clear HO197; have BK188 := n0_; have HB := n1_; have HO200 := n2_; clear n0_ n1_ n2_; clear ho hb hg hat; obtain ⟨Ao36, co36, eo36⟩ := Kd.R_slice HO200.out; subst eo36) | ((with_reducible refine gate_dst (N := 15) rfl ?_); (try (refine gate_guard (by rfl) ?_; dsimp only)); refine box_event ?hg (N := 15) ?hd (cs := #[.int .i64 0, .int .i64 0, .int .i64 0, .int .i64 0, .int .i64 0, .slice none 0 0]) (t := 45) ?hr ?_; (case hd => rfl); (case hg => rfl); (case hr => first | (go_simp; done) | (go_simp; rfl)); intro gb201 hg w37 hbox hb; have n0_ := Aside0.mk (Kd.R_below (by (with_reducible repeat (first | apply Kd.R_alloc | apply Kd.R_drewN | apply Kd.R_drew)); exact HO200.out) hb); have n1_ := Aside0.mk (blk_below (g := gb188) (Up.up BK188.out) hb); have n2_ := Aside0.mk (below_step (by repeat (first | (with_reducible first | exact HB.out | apply below_alloc | apply pw_below_drewN | apply below_drew1 | refine below_set ?_ GE188.out) | exact HB.out)) hb); have n3_ := Aside0.mk (hbox); have n4_ := Aside0.mk ((by rw [hg]; exact (below_size (by repeat (first | (with_reducible first | exact HB.out | apply below_alloc | apply pw_below_drewN | apply below_drew1 | refine below_set ?_ GE188.out) | exact HB.out))) : w.heap.size ≤ gb201)); have n5_ := Aside0.mk ((by rw [hg]; exact (below_size (by repeat (first | (with_reducible first | exact HB.out | apply below_alloc | apply pw_below_drewN | apply below_drew1 | refine below_set ?_ GE188.out) | exact HB.out))) : w.heap.size ≤ gb201)); have n6_ := Aside0.mk ((by rw [hg]; exact Nat.ne_of_lt (blk_lt (g := gb188) (Up.up BK188.out)) : gb188 ≠ gb201)); have n7_ := Aside0.mk ((by rw [hg]; exact Nat.ne_of_gt (blk_lt (g := gb188) (Up.up BK188.out)) : gb201 ≠ gb188)); clear HO200; clear BK188; clear HB; have HO200 := n0_; have BK188 := n1_; have HB := n2_; have BK201 := n3_; have GW201 := n4_; have GE201 := n5_; have NB188_201 := n6_; have NB201_188 := n7_; clear n0_ n1_ n2_ n3_ n4_ n5_ n6_ n7_; clear hb hbox hg; have hnb38 := NB201_188.out; have hnc38 := NB188_201.out; have hcz39_0 : w37.cell? ⟨gb201, 0, none⟩ = some (.int .i64 0) := (blk_cell BK201.out 0).trans rfl; have hcz39_1 : w37.cell? ⟨gb201, 1, none⟩ = some (.int .i64 0) := (blk_cell BK201.out 1).trans rfl; have hcz39_2 : w37.cell? ⟨gb201, 2, none⟩ = some (.int .i64 0) := (blk_cell BK201.out 2).trans rfl; have hcz39_3 : w37.cell? ⟨gb201, 3, none⟩ = some (.int .i64 0) := (blk_cell BK201.out 3).trans rfl; have hcz39_4 : w37.cell? ⟨gb201, 4, none⟩ = some (.int .i64 0) := (blk_cell BK201.out 4).trans rfl; have hcz39_5 : w37.cell? ⟨gb201, 5, none⟩ = some (.slice none 0 0) := (blk_cell BK201.out 5).trans rfl; have hfz39_0 := blk_frozen BK201.out 0; have hfz39_1 := blk_frozen BK201.out 1; have hfz39_2 := blk_frozen BK201.out 2; have hfz39_3 := blk_frozen BK201.out 3; have hfz39_4 := blk_frozen BK201.out 4; have hfz39_5 := blk_frozen BK201.out 5) | ((with_reducible refine gate_callee (f := 33) rfl ?_); refine goesL_ (some 71) rfl rfl Try.func33 (by kernel_rfl) rfl #[.int .i64 a1] rfl (by (try simp only [List.map_toArray, List.map_cons, List.map_nil]); first | done | rfl | (simp only [List.length_drop, List.length_take]; rfl)) ?_; (with_reducible refine (annuityref04_First.calls kj8 a1 t202 t203 _ A30.out).mono ?_); rintro e w' ⟨rfl, ⟨nd, rfl⟩⟩; refine ⟨_, rfl, ?_⟩))
                have n0_ : Aside0 (Kd.R (Kd.int .i64) 3 (((((((w37.setCell ⟨gb201, 0, none⟩ (.int .i64 a1)).setCell ⟨gb201, 1, none⟩ (.int .i64 a2)).setCell ⟨gb201, 2, none⟩ (.int .i64 (wrap64 (a2 - (ji27))))).setCell ⟨gb201, 3, none⟩ (.int .i64 (-1))).setCell ⟨gb201, 4, none⟩ (.int .i64 a4)).setCell ⟨gb201, 5, none⟩ (.slice Ao36 y198.length co36)).setCell ⟨gb201, 3, none⟩ (.int .i64 t202)) w.heap.size (fun k_ => (w.heap.size ≤ k_)) (.slice Ao36 y198.length co36) y198) := ⟨by (with_reducible repeat (first | apply Kd.R_alloc | apply Kd.R_drewN | apply Kd.R_drew)); exact Kd.R_mono (Kd.R_far (p := ⟨gb201, 3, none⟩) (Kd.R_far (p := ⟨gb201, 5, none⟩) (Kd.R_far (p := ⟨gb201, 4, none⟩) (Kd.R_far (p := ⟨gb201, 3, none⟩) (Kd.R_far (p := ⟨gb201, 2, none⟩) (Kd.R_far (p := ⟨gb201, 1, none⟩) (Kd.R_far (p := ⟨gb201, 0, none⟩) (Kd.R_types HO200.out BK201.out (by decide)) (fun _ hk => hk.2) (.int .i64 a1)) (fun _ hk => hk.2) (.int .i64 a2)) (fun _ hk => hk.2) (.int .i64 (wrap64 (a2 - (ji27))))) (fun _ hk => hk.2) (.int .i64 (-1))) (fun _ hk => hk.2) (.int .i64 a4)) (fun _ hk => hk.2) (.slice Ao36 y198.length co36)) (fun _ hk => hk.2) (.int .i64 t202)) (fun _ hk => hk.1)⟩
                have n1_ : Aside0 ((((((((w37.setCell ⟨gb201, 0, none⟩ (.int .i64 a1)).setCell ⟨gb201, 1, none⟩ (.int .i64 a2)).setCell ⟨gb201, 2, none⟩ (.int .i64 (wrap64 (a2 - (ji27))))).setCell ⟨gb201, 3, none⟩ (.int .i64 (-1))).setCell ⟨gb201, 4, none⟩ (.int .i64 a4)).setCell ⟨gb201, 5, none⟩ (.slice Ao36 y198.length co36)).setCell ⟨gb201, 3, none⟩ (.int .i64 t202)).heap[gb188]? = some (.cells #[.slice none 0 0, .int .i64 0] 33 (0, 0))) := ⟨by (iterate 7 ((with_reducible repeat (first | refine blk_drewN ?_ _ | refine blk_drew ?_ | refine blk_alloc ?_ _)); refine blk_far ?_ NB188_201.out _)); (with_reducible repeat (first | refine blk_drewN ?_ _ | refine blk_drew ?_ | refine blk_alloc ?_ _)); exact BK188.out⟩
                have n2_ : Aside0 ((((((((w37.setCell ⟨gb201, 0, none⟩ (.int .i64 a1)).setCell ⟨gb201, 1, none⟩ (.int .i64 a2)).setCell ⟨gb201, 2, none⟩ (.int .i64 (wrap64 (a2 - (ji27))))).setCell ⟨gb201, 3, none⟩ (.int .i64 (-1))).setCell ⟨gb201, 4, none⟩ (.int .i64 a4)).setCell ⟨gb201, 5, none⟩ (.slice Ao36 y198.length co36)).setCell ⟨gb201, 3, none⟩ (.int .i64 t202)).heap[gb201]? = some (.cells #[.int .i64 a1, .int .i64 a2, .int .i64 (wrap64 (a2 - (ji27))), .int .i64 t202, .int .i64 a4, .slice Ao36 y198.length co36] 45 (0, 0))) := ⟨by (with_reducible repeat (first | refine blk_drewN ?_ _ | refine blk_drew ?_ | refine blk_alloc ?_ _)); refine blk_put (cs := #[.int .i64 a1, .int .i64 a2, .int .i64 (wrap64 (a2 - (ji27))), .int .i64 (-1), .int .i64 a4, .slice Ao36 y198.length co36]) ?_ 3 _ rfl; (with_reducible repeat (first | refine blk_drewN ?_ _ | refine blk_drew ?_ | refine blk_alloc ?_ _)); refine blk_put (cs := #[.int .i64 a1, .int .i64 a2, .int .i64 (wrap64 (a2 - (ji27))), .int .i64 (-1), .int .i64 a4, .slice none 0 0]) ?_ 5 _ rfl; (with_reducible repeat (first | refine blk_drewN ?_ _ | refine blk_drew ?_ | refine blk_alloc ?_ _)); refine blk_put (cs := #[.int .i64 a1, .int .i64 a2, .int .i64 (wrap64 (a2 - (ji27))), .int .i64 (-1), .int .i64 0, .slice none 0 0]) ?_ 4 _ rfl; (with_reducible repeat (first | refine blk_drewN ?_ _ | refine blk_drew ?_ | refine blk_alloc ?_ _)); refine blk_put (cs := #[.int .i64 a1, .int .i64 a2, .int .i64 (wrap64 (a2 - (ji27))), .int .i64 0, .int .i64 0, .slice none 0 0]) ?_ 3 _ rfl; (with_reducible repeat (first | refine blk_drewN ?_ _ | refine blk_drew ?_ | refine blk_alloc ?_ _)); refine blk_put (cs := #[.int .i64 a1, .int .i64 a2, .int .i64 0, .int .i64 0, .int .i64 0, .slice none 0 0]) ?_ 2 _ rfl; (with_reducible repeat (first | refine blk_drewN ?_ _ | refine blk_drew ?_ | refine blk_alloc ?_ _)); refine blk_put (cs := #[.int .i64 a1, .int .i64 0, .int .i64 0, .int .i64 0, .int .i64 0, .slice none 0 0]) ?_ 1 _ rfl; (with_reducible repeat (first | refine blk_drewN ?_ _ | refine blk_drew ?_ | refine blk_alloc ?_ _)); refine blk_put (cs := #[.int .i64 0, .int .i64 0, .int .i64 0, .int .i64 0, .int .i64 0, .slice none 0 0]) ?_ 0 _ rfl; (with_reducible repeat (first | refine blk_drewN ?_ _ | refine blk_drew ?_ | refine blk_alloc ?_ _)); exact BK201.out⟩
                have n3_ : Aside0 (Below w.heap.size w (((((((w37.setCell ⟨gb201, 0, none⟩ (.int .i64 a1)).setCell ⟨gb201, 1, none⟩ (.int .i64 a2)).setCell ⟨gb201, 2, none⟩ (.int .i64 (wrap64 (a2 - (ji27))))).setCell ⟨gb201, 3, none⟩ (.int .i64 (-1))).setCell ⟨gb201, 4, none⟩ (.int .i64 a4)).setCell ⟨gb201, 5, none⟩ (.slice Ao36 y198.length co36)).setCell ⟨gb201, 3, none⟩ (.int .i64 t202))) := ⟨by repeat (first | (with_reducible first | exact HB.out | apply below_alloc | apply pw_below_drewN | apply below_drew1 | refine below_set ?_ GE188.out | refine below_set ?_ GE201.out) | exact HB.out)⟩
                (try clear HO200)
                (try clear BK188)
                (try clear BK201)
                (try clear HB)
                try simp only [show ∀ (w_ : World) (n_ : Nat) (p_ : Addr) (v_ : Value), (w_.drewN n_).setCell p_ v_ = (w_.setCell p_ v_).drewN n_ from fun _ _ _ _ => rfl]
                generalize (((((((w37.setCell ⟨gb201, 0, none⟩ (.int .i64 a1)).setCell ⟨gb201, 1, none⟩ (.int .i64 a2)).setCell ⟨gb201, 2, none⟩ (.int .i64 (wrap64 (a2 - (ji27))))).setCell ⟨gb201, 3, none⟩ (.int .i64 (-1))).setCell ⟨gb201, 4, none⟩ (.int .i64 a4)).setCell ⟨gb201, 5, none⟩ (.slice Ao36 y198.length co36)).setCell ⟨gb201, 3, none⟩ (.int .i64 t202)) = w40 at n0_ n1_ n2_ n3_ ⊢
                have HO200 := n0_
                have BK188 := n1_
                have BK201 := n2_
                have HB := n3_
                clear n0_ n1_ n2_ n3_
                (try (rw [drewN_self w40]; generalize hq_ : World.drewN w40 _ = w40; have n0_ : Aside0 (Kd.R (Kd.int .i64) 3 w40 w.heap.size (fun k_ => (w.heap.size ≤ k_)) (.slice Ao36 y198.length co36) y198) := ⟨by rw [← hq_]; exact (by (with_reducible repeat (first | apply Kd.R_alloc | apply Kd.R_drewN | apply Kd.R_drew)); exact HO200.out)⟩; have n1_ : Aside0 (w40.heap[gb188]? = some (.cells #[.slice none 0 0, .int .i64 0] 33 (0, 0))) := ⟨by rw [← hq_]; exact (Up.up BK188.out)⟩; have n2_ : Aside0 (w40.heap[gb201]? = some (.cells #[.int .i64 a1, .int .i64 a2, .int .i64 (wrap64 (a2 - (ji27))), .int .i64 t202, .int .i64 a4, .slice Ao36 y198.length co36] 45 (0, 0))) := ⟨by rw [← hq_]; exact (Up.up BK201.out)⟩; have n3_ : Aside0 (Below w.heap.size w w40) := ⟨by rw [← hq_]; exact (by repeat (first | (with_reducible first | exact HB.out | apply below_alloc | apply pw_below_drewN | apply below_drew1 | refine below_set ?_ GE188.out | refine below_set ?_ GE201.out) | exact HB.out))⟩; clear HO200 BK188 BK201 HB hq_; have HO200 := n0_; have BK188 := n1_; have BK201 := n2_; have HB := n3_; clear n0_ n1_ n2_ n3_))
                have n0_ := Aside0.mk (Kd.R_drew HO200.out)
                have n1_ := Aside0.mk (blk_drew BK188.out)
                have n2_ := Aside0.mk (blk_drew BK201.out)
                have n3_ := Aside0.mk (below_drew1 HB.out)
                clear HO200
                clear BK188
                clear BK201
                clear HB
                have HO200 := n0_
                have BK188 := n1_
                have BK201 := n2_
                have HB := n3_
                clear n0_ n1_ n2_ n3_
                refine start_ (n := 11) (S := fun w' => w'.cell? ⟨gb201, 0, none⟩ = some (.int .i64 a1) ∧ w'.cell? ⟨gb201, 1, none⟩ = some (.int .i64 a2) ∧ w'.cell? ⟨gb201, 2, none⟩ = some (.int .i64 (wrap64 (a2 - (ji27)))) ∧ w'.cell? ⟨gb201, 3, none⟩ = some (.int .i64 t202) ∧ w'.cell? ⟨gb201, 4, none⟩ = some (.int .i64 a4) ∧ w'.cell? ⟨gb201, 5, none⟩ = some (.slice Ao36 y198.length co36)) (ds := []) #[false, false, false, false, false, false, false, false, false, false, false] (by kernel_rfl) rfl rfl ⟨(blk_cell BK201.out 0).trans rfl, (blk_cell BK201.out 1).trans rfl, (blk_cell BK201.out 2).trans rfl, (blk_cell BK201.out 3).trans rfl, (blk_cell BK201.out 4).trans rfl, (blk_cell BK201.out 5).trans rfl⟩ (fun hHeld => ?_); refine with_tabW annuityref19_Issue.tab9 annuityref19_Issue.bits9 (fun HT_ HW_ => ?_)
                generalize w40.drew = w41 at HO200 BK188 BK201 HB hHeld ⊢
                refine pure_ (i := 0) (N := some 75) (v := ?_) (a' := ?_) #[true, false, false, false, false, false, false, false, false, false, false] rfl rfl (any_of HT_.out (by kernel_rfl)) (fun _ _ _ h => h) (Or.inl ⟨by rfl, ?_⟩) ?_ ?_
                rotate_left
                · intro w'
                  go_simp
                  with_reducible rfl
                rotate_left
                · simp only [Act.put, List.setIfInBounds_toArray, List.set_cons_zero, List.set_cons_succ, i64_w, i32_w]
                  rfl
                refine pure_ (i := 5) (N := some 80) (v := ?_) (a' := ?_) #[true, false, false, false, false, true, false, false, false, false, false] rfl rfl (any_of HT_.out (by kernel_rfl)) (fun _ _ _ h => h) (Or.inl ⟨by rfl, ?_⟩) ?_ ?_
                rotate_left
                · intro w'
                  go_simp
                  with_reducible rfl
                rotate_left
                · simp only [Act.put, List.setIfInBounds_toArray, List.set_cons_zero, List.set_cons_succ, i64_w, i32_w]
                  rfl
                refine pure_ (i := 6) (N := some 81) (v := ?_) (a' := ?_) #[true, false, false, false, false, true, true, false, false, false, false] rfl rfl (any_of HT_.out (by kernel_rfl)) (fun _ _ _ h => h) (Or.inl ⟨by rfl, ?_⟩) ?_ ?_
                rotate_left
                · intro w'
                  go_simp
                  with_reducible rfl
                rotate_left
                · simp only [Act.put, List.setIfInBounds_toArray, List.set_cons_zero, List.set_cons_succ, i64_w, i32_w]
                  rfl
                refine pure_ (i := 7) (N := some 82) (v := ?_) (a' := ?_) #[true, false, false, false, false, true, true, true, false, false, false] rfl rfl (any_of HT_.out (by kernel_rfl)) (fun _ _ _ h => h) (Or.inl ⟨by rfl, ?_⟩) ?_ ?_
                rotate_left
                · intro w'
                  go_simp
                  with_reducible rfl
                rotate_left
                · simp only [Act.put, List.setIfInBounds_toArray, List.set_cons_zero, List.set_cons_succ, i64_w, i32_w]
                  rfl
                refine take_ (i := 2) (N := some 77) (v := ?_) (a' := ?_) #[true, false, true, false, false, true, true, true, false, false, false] rfl rfl (take_ofW HT_.out HW_.out (by kernel_rfl)) (fun _ _ _ h => h) (Or.inl ⟨by rfl, ?_⟩) hHeld ?_ ?_
                rotate_left
                · rintro w' ⟨s0, s1, s2, s3, s4, s5⟩
                  go_simp
                  with_reducible rfl
                rotate_left
                · simp only [Act.put, List.setIfInBounds_toArray, List.set_cons_zero, List.set_cons_succ, i64_w, i32_w]
                  rfl
                refine join_ (σ := Value × Value) 4 #[true, true, true, true, false, true, true, true, false, false, false] (fun s_ => [(76, s_.1), (78, s_.2)]) (fun s_ w' => (w'.cell? ⟨gb201, 0, none⟩ = some (.int .i64 a1) ∧ w'.cell? ⟨gb201, 1, none⟩ = some (.int .i64 a2) ∧ w'.cell? ⟨gb201, 2, none⟩ = some (.int .i64 (wrap64 (a2 - (ji27)))) ∧ w'.cell? ⟨gb201, 3, none⟩ = some (.int .i64 t202) ∧ w'.cell? ⟨gb201, 4, none⟩ = some (.int .i64 a4) ∧ w'.cell? ⟨gb201, 5, none⟩ = some (.slice Ao36 y198.length co36)) ∧ (Kd.N k45 45 w' w.heap.size (fun k_ => (w.heap.size ≤ k_) ∧ some k_ ≠ (s_.2 : Value).ownBlock ∧ k_ ≠ gb188 ∧ k_ ≠ gb201) s_.1 t204) ∧ (Kd.N k45 45 w' w.heap.size (fun k_ => (w.heap.size ≤ k_) ∧ some k_ ≠ (s_.1 : Value).ownBlock ∧ k_ ≠ gb188 ∧ k_ ≠ gb201) s_.2 y207) ∧ (w'.heap[gb188]? = some (.cells #[.slice none 0 0, .int .i64 0] 33 (0, 0))) ∧ (w'.heap[gb201]? = some (.cells #[.int .i64 a1, .int .i64 a2, .int .i64 (wrap64 (a2 - (ji27))), .int .i64 t202, .int .i64 a4, .slice Ao36 y198.length co36] 45 (0, 0))) ∧ (Below w.heap.size w w')) ?_ ?_
                rotate_left
                · intro hCont
                  refine two_ (i := 1) (j := 3) (Ni := some 76) (Nj := some 78) #[true, true, true, false, false, true, true, true, false, false, false] #[true, false, true, true, false, true, true, true, false, false, false] rfl rfl rfl rfl (two_of HT_.out (by kernel_rfl)) (by decide) (by decide) (fun K hK => ?_) (fun K hK => ?_)
                  · skip
                    refine goes_ Try.func10 (by kernel_rfl) rfl #[.slice A0 l0.length c0] (by rfl) rfl rfl (by (try simp only [List.map_toArray, List.map_cons, List.map_nil]); first | done | rfl | (simp only [List.length_drop, List.length_take]; rfl)) ?_
                    with_reducible refine (annuitykeep_CopyBills.calls kj8 _ _ l0 t204 _ ?side1 ?side2 A31.out).mono ?_
                    (case side1 => repeat (first | exact (Kd.C_below HR0.out HB.out) | (with_reducible refine Kd.C_alloc ?_ _) | (with_reducible refine Kd.C_drewN ?_ _) | (with_reducible refine Kd.C_drew ?_)))
                    (case side2 => exact HC0.out)
                    rintro e w42 ⟨v205, rfl, ho0, hb⟩
                    refine ⟨_, rfl, ?_⟩
                    have n0_ := Aside0.mk (Kd.R_below (by (with_reducible repeat (first | apply Kd.R_alloc | apply Kd.R_drewN | apply Kd.R_drew)); exact HO200.out) hb)
                    have n1_ := Aside0.mk (Kd.N_lower (Kd.N_mono (ok' := fun k_ => (w.heap.size ≤ k_) ∧ some k_ ≠ (.slice Ao36 y198.length co36 : Value).ownBlock ∧ k_ ≠ gb188 ∧ k_ ≠ gb201) (Kd.S_N (Kd.S_bound ho0)) (fun k_ hk_ => ⟨(Nat.le_trans (below_size (by repeat (first | (with_reducible first | exact HB.out | apply below_alloc | apply pw_below_drewN | apply below_drew1 | refine below_set ?_ GE188.out | refine below_set ?_ GE201.out) | exact HB.out))) hk_.2.1), (Kd.fresh' (Kd.R_lt (by (with_reducible repeat (first | apply Kd.R_alloc | apply Kd.R_drewN | apply Kd.R_drew)); exact HO200.out)) k_ hk_.2.1), (Kd.freshB (g := gb188) (Up.up BK188.out) k_ hk_.2.1), (Kd.freshB (g := gb201) (Up.up BK201.out) k_ hk_.2.1)⟩)) (below_size (by repeat (first | (with_reducible first | exact HB.out | apply below_alloc | apply pw_below_drewN | apply below_drew1 | refine below_set ?_ GE188.out | refine below_set ?_ GE201.out) | exact HB.out))))
                    have n2_ := Aside0.mk (blk_below (g := gb188) (Up.up BK188.out) hb)
                    have n3_ := Aside0.mk (blk_below (g := gb201) (Up.up BK201.out) hb)
                    have n4_ := Aside0.mk (below_step (by repeat (first | (with_reducible first | exact HB.out | apply below_alloc | apply pw_below_drewN | apply below_drew1 | refine below_set ?_ GE188.out | refine below_set ?_ GE201.out) | exact HB.out)) hb)
                    clear HO200
                    clear BK188
                    clear BK201
                    clear HB
                    have HO200 := n0_
                    have HO206 := n1_
                    have BK188 := n2_
                    have BK201 := n3_
                    have HB := n4_
                    clear n0_ n1_ n2_ n3_ n4_
                    (try clear hb)
                    (try clear hb2)
                    (try clear hk)
                    (try clear hi)
                    (try clear ho0)
                    refine hK.out _ _ ⟨(blk_cell BK201.out 0).trans rfl, (blk_cell BK201.out 1).trans rfl, (blk_cell BK201.out 2).trans rfl, (blk_cell BK201.out 3).trans rfl, (blk_cell BK201.out 4).trans rfl, (blk_cell BK201.out 5).trans rfl⟩ (fun hHeld => ?_)
                    clear hK K
                    refine norm_ (a' := ?_) ?_ ?_
                    rotate_left
                    · show Act.put _ (some 76) _ = _
                      simp only [Act.put, List.setIfInBounds_toArray, List.set_cons_zero, List.set_cons_succ, i64_w, i32_w]
                      rfl
                    refine one_ (i := 3) (N := some 78) #[true, true, true, true, false, true, true, true, false, false, false] rfl rfl (one_of HT_.out (by kernel_rfl)) (by decide) (fun K hK => ?_)
                    refine Kd.N_lit_step k45 _ 45 ?hg (N' := 78) ?hd (xs := ([(⟨a1, a2, wrap64 (a2 - (ji27)), t202, a4, y198⟩ : S45)] : List (S45))) (inner := [.int .i64 a1, .int .i64 a2, .int .i64 (wrap64 (a2 - (ji27))), .int .i64 t202, .int .i64 a4, .slice Ao36 y198.length co36]) (ok := (fun k_ => (w.heap.size ≤ k_) ∧ some k_ ≠ (v205 : Value).ownBlock ∧ k_ ≠ gb188 ∧ k_ ≠ gb201)) (okp := (fun k_ => (w.heap.size ≤ k_) ∧ some k_ ≠ (v205 : Value).ownBlock ∧ k_ ≠ gb188 ∧ k_ ≠ gb201)) ?hr ?hp (fun _ hk => hk) ((show ∀ k_, w42.heap.size ≤ k_ → (fun k_ => (w.heap.size ≤ k_) ∧ some k_ ≠ (v205 : Value).ownBlock ∧ k_ ≠ gb188 ∧ k_ ≠ gb201) k_ from fun k_ hk => ⟨(Nat.le_trans (below_size (by repeat (first | (with_reducible first | exact HB.out | apply below_alloc | apply pw_below_drewN | apply below_drew1 | refine below_set ?_ GE188.out | refine below_set ?_ GE201.out) | exact HB.out))) hk), Kd.fresh' (Kd.N_lt (by (with_reducible repeat (first | apply Kd.N_alloc | apply Kd.N_drewN | apply Kd.N_drew)); exact HO206.out)) k_ hk, Kd.freshB (g := gb188) (Up.up BK188.out) k_ hk, Kd.freshB (g := gb201) (Up.up BK201.out) k_ hk⟩) _ (Nat.le_refl _)) (Below.refl _ _) (Nat.le_refl _) (by simp) ?_; (case hd => rfl); (case hg => rfl); (case hr => first | (go_simp; done) | (go_simp; rfl)); (case hp => exact (Reps.c6 (show Kd.FK k45 _ _ (⟨a1, a2, wrap64 (a2 - (ji27)), t202, a4, y198⟩ : S45) [.int .i64 a1, .int .i64 a2, .int .i64 (wrap64 (a2 - (ji27))), .int .i64 t202, .int .i64 a4, .slice Ao36 y198.length co36] from (k45_mkF _ _ (⟨a1, a2, wrap64 (a2 - (ji27)), t202, a4, y198⟩ : S45) (Kd.R_reads' (Kd.R_mono (ok' := (fun k_ => (w.heap.size ≤ k_) ∧ some k_ ≠ (v205 : Value).ownBlock ∧ k_ ≠ gb188 ∧ k_ ≠ gb201)) (Kd.R_types (Kd.R_types (Kd.R_apart' (HO200.out) (Kd.N_typed HO206.out) (by decide)) BK188.out (by decide)) BK201.out (by decide)) (fun k_ hk => ⟨hk.1.1.1, ⟨hk.1.1.2, ⟨hk.1.2, hk.2⟩⟩⟩))).2.1 (Kd.R_F (Kd.R_mono (ok' := (fun k_ => (w.heap.size ≤ k_) ∧ some k_ ≠ (v205 : Value).ownBlock ∧ k_ ≠ gb188 ∧ k_ ≠ gb201)) (Kd.R_types (Kd.R_types (Kd.R_apart' (HO200.out) (Kd.N_typed HO206.out) (by decide)) BK188.out (by decide)) BK201.out (by decide)) (fun k_ hk => ⟨hk.1.1.1, ⟨hk.1.1.2, ⟨hk.1.2, hk.2⟩⟩⟩))))) (Reps.none _ _)))
                    intro v208 w43 ho44 hb hg_ hnew_
                    clear hg_ hnew_
                    (first | rw [← Ny207.out] at ho44 | (simp only [Int.reduceToNat] at ho44; rw [← Ny207.out] at ho44))
                    have n0_ := Aside0.mk (Kd.N_elder' (by (with_reducible repeat (first | apply Kd.N_alloc | apply Kd.N_drewN | apply Kd.N_drew)); exact HO206.out) (Kd.N_base ho44) hb)
                    have n1_ := Aside0.mk (Kd.N_lower ho44 (below_size (by repeat (first | (with_reducible first | exact HB.out | apply below_alloc | apply pw_below_drewN | apply below_drew1 | refine below_set ?_ GE188.out | refine below_set ?_ GE201.out) | exact HB.out))))
                    have n2_ := Aside0.mk (blk_below (g := gb188) (Up.up BK188.out) hb)
                    have n3_ := Aside0.mk (blk_below (g := gb201) (Up.up BK201.out) hb)
                    have n4_ := Aside0.mk (below_step (by repeat (first | (with_reducible first | exact HB.out | apply below_alloc | apply pw_below_drewN | apply below_drew1 | refine below_set ?_ GE188.out | refine below_set ?_ GE201.out) | exact HB.out)) hb)
                    clear HO206
                    clear BK188
                    clear BK201
                    clear HB
                    clear HO200
                    have HO206 := n0_
                    have HO209 := n1_
                    have BK188 := n2_
                    have BK201 := n3_
                    have HB := n4_
                    clear n0_ n1_ n2_ n3_ n4_
                    clear hb ho44
                    refine hK.out _ _ ⟨(blk_cell BK201.out 0).trans rfl, (blk_cell BK201.out 1).trans rfl, (blk_cell BK201.out 2).trans rfl, (blk_cell BK201.out 3).trans rfl, (blk_cell BK201.out 4).trans rfl, (blk_cell BK201.out 5).trans rfl⟩ (fun hHeld => ?_)
                    clear hK K
                    refine norm_ (a' := ?_) ?_ ?_
                    rotate_left
                    · show Act.put _ (some 78) _ = _
                      simp only [Act.put, List.setIfInBounds_toArray, List.set_cons_zero, List.set_cons_succ, i64_w, i32_w]
                      rfl
                    exact norm_ (by simp only [putAll, Act.put, List.setIfInBounds_toArray, List.set_cons_zero, List.set_cons_succ]) (hCont (v205, v208) _ ⟨hHeld, (by (with_reducible repeat (first | apply Kd.N_alloc | apply Kd.N_drewN | apply Kd.N_drew)); exact Kd.N_mono HO206.out (fun _ hk => ⟨hk.1.1, ⟨hk.2, ⟨hk.1.2.2.1, hk.1.2.2.2⟩⟩⟩)), (by (with_reducible repeat (first | apply Kd.N_alloc | apply Kd.N_drewN | apply Kd.N_drew)); exact HO209.out), (Up.up BK188.out), (Up.up BK201.out), (by repeat (first | (with_reducible first | exact HB.out | apply below_alloc | apply pw_below_drewN | apply below_drew1 | refine below_set ?_ GE188.out | refine below_set ?_ GE201.out) | exact HB.out))⟩)
                  · skip
                    refine Kd.N_lit_step k45 _ 45 ?hg (N' := 78) ?hd (xs := ([(⟨a1, a2, wrap64 (a2 - (ji27)), t202, a4, y198⟩ : S45)] : List (S45))) (inner := [.int .i64 a1, .int .i64 a2, .int .i64 (wrap64 (a2 - (ji27))), .int .i64 t202, .int .i64 a4, .slice Ao36 y198.length co36]) (ok := (fun k_ => (w.heap.size ≤ k_) ∧ k_ ≠ gb188 ∧ k_ ≠ gb201)) (okp := (fun k_ => (w.heap.size ≤ k_) ∧ k_ ≠ gb188 ∧ k_ ≠ gb201)) ?hr ?hp (fun _ hk => hk) ((show ∀ k_, w41.heap.size ≤ k_ → (fun k_ => (w.heap.size ≤ k_) ∧ k_ ≠ gb188 ∧ k_ ≠ gb201) k_ from fun k_ hk => ⟨(Nat.le_trans (below_size (by repeat (first | (with_reducible first | exact HB.out | apply below_alloc | apply pw_below_drewN | apply below_drew1 | refine below_set ?_ GE188.out | refine below_set ?_ GE201.out) | exact HB.out))) hk), Kd.freshB (g := gb188) (Up.up BK188.out) k_ hk, Kd.freshB (g := gb201) (Up.up BK201.out) k_ hk⟩) _ (Nat.le_refl _)) (Below.refl _ _) (Nat.le_refl _) (by simp) ?_; (case hd => rfl); (case hg => rfl); (case hr => first | (go_simp; done) | (go_simp; rfl)); (case hp => exact (Reps.c6 (show Kd.FK k45 _ _ (⟨a1, a2, wrap64 (a2 - (ji27)), t202, a4, y198⟩ : S45) [.int .i64 a1, .int .i64 a2, .int .i64 (wrap64 (a2 - (ji27))), .int .i64 t202, .int .i64 a4, .slice Ao36 y198.length co36] from (k45_mkF _ _ (⟨a1, a2, wrap64 (a2 - (ji27)), t202, a4, y198⟩ : S45) (Kd.R_reads' (Kd.R_mono (ok' := (fun k_ => (w.heap.size ≤ k_) ∧ k_ ≠ gb188 ∧ k_ ≠ gb201)) (Kd.R_types (Kd.R_types (HO200.out) BK188.out (by decide)) BK201.out (by decide)) (fun k_ hk => ⟨hk.1.1, ⟨hk.1.2, hk.2⟩⟩))).2.1 (Kd.R_F (Kd.R_mono (ok' := (fun k_ => (w.heap.size ≤ k_) ∧ k_ ≠ gb188 ∧ k_ ≠ gb201)) (Kd.R_types (Kd.R_types (HO200.out) BK188.out (by decide)) BK201.out (by decide)) (fun k_ hk => ⟨hk.1.1, ⟨hk.1.2, hk.2⟩⟩))))) (Reps.none _ _)))
                    intro v208 w42 ho43 hb hg_ hnew_
                    clear hg_ hnew_
                    (first | rw [← Ny207.out] at ho43 | (simp only [Int.reduceToNat] at ho43; rw [← Ny207.out] at ho43))
                    have n0_ := Aside0.mk (Kd.N_lower ho43 (below_size (by repeat (first | (with_reducible first | exact HB.out | apply below_alloc | apply pw_below_drewN | apply below_drew1 | refine below_set ?_ GE188.out | refine below_set ?_ GE201.out) | exact HB.out))))
                    have n1_ := Aside0.mk (blk_below (g := gb188) (Up.up BK188.out) hb)
                    have n2_ := Aside0.mk (blk_below (g := gb201) (Up.up BK201.out) hb)
                    have n3_ := Aside0.mk (below_step (by repeat (first | (with_reducible first | exact HB.out | apply below_alloc | apply pw_below_drewN | apply below_drew1 | refine below_set ?_ GE188.out | refine below_set ?_ GE201.out) | exact HB.out)) hb)
                    clear BK188
                    clear BK201
                    clear HB
                    clear HO200
                    have HO209 := n0_
                    have BK188 := n1_
                    have BK201 := n2_
                    have HB := n3_
                    clear n0_ n1_ n2_ n3_
                    clear hb ho43
                    refine hK.out _ _ ⟨(blk_cell BK201.out 0).trans rfl, (blk_cell BK201.out 1).trans rfl, (blk_cell BK201.out 2).trans rfl, (blk_cell BK201.out 3).trans rfl, (blk_cell BK201.out 4).trans rfl, (blk_cell BK201.out 5).trans rfl⟩ (fun hHeld => ?_)
                    clear hK K
                    refine norm_ (a' := ?_) ?_ ?_
                    rotate_left
                    · show Act.put _ (some 78) _ = _
                      simp only [Act.put, List.setIfInBounds_toArray, List.set_cons_zero, List.set_cons_succ, i64_w, i32_w]
                      rfl
                    refine one_ (i := 1) (N := some 76) #[true, true, true, true, false, true, true, true, false, false, false] rfl rfl (one_of HT_.out (by kernel_rfl)) (by decide) (fun K hK => ?_)
                    refine goes_ Try.func10 (by kernel_rfl) rfl #[.slice A0 l0.length c0] (by rfl) rfl rfl (by (try simp only [List.map_toArray, List.map_cons, List.map_nil]); first | done | rfl | (simp only [List.length_drop, List.length_take]; rfl)) ?_
                    with_reducible refine (annuitykeep_CopyBills.calls kj8 _ _ l0 t204 _ ?side1 ?side2 A31.out).mono ?_
                    (case side1 => repeat (first | exact (Kd.C_below HR0.out HB.out) | (with_reducible refine Kd.C_alloc ?_ _) | (with_reducible refine Kd.C_drewN ?_ _) | (with_reducible refine Kd.C_drew ?_)))
                    (case side2 => exact HC0.out)
                    rintro e w44 ⟨v205, rfl, ho0, hb⟩
                    refine ⟨_, rfl, ?_⟩
                    have n0_ := Aside0.mk (Kd.N_elder' (by (with_reducible repeat (first | apply Kd.N_alloc | apply Kd.N_drewN | apply Kd.N_drew)); exact HO209.out) (by first | exact Kd.N_base ho0 | exact Kd.N_base (Kd.S_N ho0)) hb)
                    have n1_ := Aside0.mk (Kd.N_lower (Kd.N_mono (ok' := fun k_ => (w.heap.size ≤ k_) ∧ some k_ ≠ (v208 : Value).ownBlock ∧ k_ ≠ gb188 ∧ k_ ≠ gb201) (Kd.S_N (Kd.S_bound ho0)) (fun k_ hk_ => ⟨(Nat.le_trans (below_size (by repeat (first | (with_reducible first | exact HB.out | apply below_alloc | apply pw_below_drewN | apply below_drew1 | refine below_set ?_ GE188.out | refine below_set ?_ GE201.out) | exact HB.out))) hk_.2.1), (Kd.fresh' (Kd.N_lt (by (with_reducible repeat (first | apply Kd.N_alloc | apply Kd.N_drewN | apply Kd.N_drew)); exact HO209.out)) k_ hk_.2.1), (Kd.freshB (g := gb188) (Up.up BK188.out) k_ hk_.2.1), (Kd.freshB (g := gb201) (Up.up BK201.out) k_ hk_.2.1)⟩)) (below_size (by repeat (first | (with_reducible first | exact HB.out | apply below_alloc | apply pw_below_drewN | apply below_drew1 | refine below_set ?_ GE188.out | refine below_set ?_ GE201.out) | exact HB.out))))
                    have n2_ := Aside0.mk (blk_below (g := gb188) (Up.up BK188.out) hb)
                    have n3_ := Aside0.mk (blk_below (g := gb201) (Up.up BK201.out) hb)
                    have n4_ := Aside0.mk (below_step (by repeat (first | (with_reducible first | exact HB.out | apply below_alloc | apply pw_below_drewN | apply below_drew1 | refine below_set ?_ GE188.out | refine below_set ?_ GE201.out) | exact HB.out)) hb)
                    clear HO209
                    clear BK188
                    clear BK201
                    clear HB
                    have HO209 := n0_
                    have HO206 := n1_
                    have BK188 := n2_
                    have BK201 := n3_
                    have HB := n4_
                    clear n0_ n1_ n2_ n3_ n4_
                    (try clear hb)
                    (try clear hb2)
                    (try clear hk)
                    (try clear hi)
                    (try clear ho0)
                    refine hK.out _ _ ⟨(blk_cell BK201.out 0).trans rfl, (blk_cell BK201.out 1).trans rfl, (blk_cell BK201.out 2).trans rfl, (blk_cell BK201.out 3).trans rfl, (blk_cell BK201.out 4).trans rfl, (blk_cell BK201.out 5).trans rfl⟩ (fun hHeld => ?_)
                    clear hK K
                    refine norm_ (a' := ?_) ?_ ?_
                    rotate_left
                    · show Act.put _ (some 76) _ = _
                      simp only [Act.put, List.setIfInBounds_toArray, List.set_cons_zero, List.set_cons_succ, i64_w, i32_w]
                      rfl
                    exact norm_ (by simp only [putAll, Act.put, List.setIfInBounds_toArray, List.set_cons_zero, List.set_cons_succ]) (hCont (v205, v208) _ ⟨hHeld, (by (with_reducible repeat (first | apply Kd.N_alloc | apply Kd.N_drewN | apply Kd.N_drew)); exact HO206.out), (by (with_reducible repeat (first | apply Kd.N_alloc | apply Kd.N_drewN | apply Kd.N_drew)); exact Kd.N_mono HO209.out (fun _ hk => ⟨hk.1.1, ⟨hk.2, ⟨hk.1.2.1, hk.1.2.2⟩⟩⟩)), (Up.up BK188.out), (Up.up BK201.out), (by repeat (first | (with_reducible first | exact HB.out | apply below_alloc | apply pw_below_drewN | apply below_drew1 | refine below_set ?_ GE188.out | refine below_set ?_ GE201.out) | exact HB.out))⟩)
                rintro ⟨v205, v208⟩ w45 ⟨hS_, h0_, h1_, h2_, h3_, h4_⟩
                have n0_ : Aside0 (Kd.N k45 45 w45 w.heap.size (fun k_ => (w.heap.size ≤ k_) ∧ some k_ ≠ (v208 : Value).ownBlock ∧ k_ ≠ gb188 ∧ k_ ≠ gb201) v205 t204) := ⟨h0_⟩
                have n1_ : Aside0 (Kd.N k45 45 w45 w.heap.size (fun k_ => (w.heap.size ≤ k_) ∧ some k_ ≠ (v205 : Value).ownBlock ∧ k_ ≠ gb188 ∧ k_ ≠ gb201) v208 y207) := ⟨h1_⟩
                have n2_ : Aside0 (w45.heap[gb188]? = some (.cells #[.slice none 0 0, .int .i64 0] 33 (0, 0))) := ⟨h2_⟩
                have n3_ : Aside0 (w45.heap[gb201]? = some (.cells #[.int .i64 a1, .int .i64 a2, .int .i64 (wrap64 (a2 - (ji27))), .int .i64 t202, .int .i64 a4, .slice Ao36 y198.length co36] 45 (0, 0))) := ⟨h3_⟩
                have n4_ : Aside0 (Below w.heap.size w w45) := ⟨h4_⟩
                clear HO200
                clear BK188
                clear BK201
                clear HB
                clear h0_ h1_ h2_ h3_ h4_
                have HO206 := n0_
                have HO209 := n1_
                have BK188 := n2_
                have BK201 := n3_
                have HB := n4_
                clear n0_ n1_ n2_ n3_ n4_
                have hHeld : w45.cell? ⟨gb201, 0, none⟩ = some (.int .i64 a1) ∧ w45.cell? ⟨gb201, 1, none⟩ = some (.int .i64 a2) ∧ w45.cell? ⟨gb201, 2, none⟩ = some (.int .i64 (wrap64 (a2 - (ji27)))) ∧ w45.cell? ⟨gb201, 3, none⟩ = some (.int .i64 t202) ∧ w45.cell? ⟨gb201, 4, none⟩ = some (.int .i64 a4) ∧ w45.cell? ⟨gb201, 5, none⟩ = some (.slice Ao36 y198.length co36) := hS_
                obtain ⟨Ao47, co47, eo47⟩ := Kd.N_slice HO209.out
                (first | subst eo47 | (injection eo47 with f1_ f2_ f3_; have f4_ := f1_.symm; have f5_ := f3_.symm; clear f1_ f2_ f3_; subst f4_; subst f5_))
                refine norm_ (a' := ?_) ?_ ?_
                rotate_left
                · simp only [putAll, Act.put, List.setIfInBounds_toArray, List.set_cons_zero, List.set_cons_succ]
                  rfl
                refine one_ (i := 4) (N := some 79) #[true, true, true, true, true, true, true, true, false, false, false] rfl rfl (one_of HT_.out (by kernel_rfl)) (by decide) (fun K hK => ?_)
                refine Kd.N_append_rows_step k45 (w0 := w) w.heap.size (by rfl) (.tmp 76) (.tmp 78) 22 45 (.agg #[(.int .i64 0), (.int .i64 0), (.int .i64 0), (.int .i64 0), (.int .i64 0), (.slice none 0 0)]) 64 rfl Try.underlying22 info45 rfl (by decide) (by omega) v205 t204 y207 _ _ _ (fun k_ => (w.heap.size ≤ k_) ∧ k_ ≠ gb188 ∧ k_ ≠ gb201) (fun k_ => ((fun k_ => (w.heap.size ≤ k_) ∧ k_ ≠ gb188 ∧ k_ ≠ gb201)) k_ ∧ some k_ ≠ (v205 : Value).ownBlock) rfl rfl ?aO ?aR (fun _ hk => hk) ?aF ?aB ?aS ?aL ?_
                (case aR => exact (by skip; exact Kd.N_F (Kd.N_mono (ok' := (fun k_ => ((fun k_ => (w.heap.size ≤ k_) ∧ k_ ≠ gb188 ∧ k_ ≠ gb201)) k_ ∧ some k_ ≠ (v205 : Value).ownBlock)) (HO209.out) (fun k_ hk => ⟨⟨hk.1, ⟨hk.2.2.1, hk.2.2.2⟩⟩, hk.2.1⟩))))
                (case aB => exact (by repeat (first | (with_reducible first | exact HB.out | apply below_alloc | apply pw_below_drewN | apply below_drew1 | refine below_set ?_ GE188.out | refine below_set ?_ GE201.out) | exact HB.out)))
                (case aF => exact (fun k_ hk => ⟨(Nat.le_trans (below_size (by repeat (first | (with_reducible first | exact HB.out | apply below_alloc | apply pw_below_drewN | apply below_drew1 | refine below_set ?_ GE188.out | refine below_set ?_ GE201.out) | exact HB.out))) hk), Kd.freshB (g := gb188) (Up.up BK188.out) k_ hk, Kd.freshB (g := gb201) (Up.up BK201.out) k_ hk⟩))
                (case aO => exact (by (with_reducible repeat (first | apply Kd.N_alloc | apply Kd.N_drewN | apply Kd.N_drew)); exact Kd.N_mono HO206.out (fun _ hk => ⟨hk.1, ⟨hk.2.2.1, hk.2.2.2⟩⟩)))
                (case aS => exact (below_size (by repeat (first | (with_reducible first | exact HB.out | apply below_alloc | apply pw_below_drewN | apply below_drew1 | refine below_set ?_ GE188.out | refine below_set ?_ GE201.out) | exact HB.out))))
                (case aL => have := LMc32.out; omega)
                intro v211 w46 ho hb hg hat
                rw [← Ny210.out] at ho
                have n0_ := Aside0.mk (blk_grown (g := gb188) (Up.up BK188.out) hg (Kd.N_ne HO206.out BK188.out (by decide)))
                have n1_ := Aside0.mk (blk_grown (g := gb201) (Up.up BK201.out) hg (Kd.N_away HO206.out (fun _ hk => hk.2.2.2)))
                have n2_ := Aside0.mk (Kd.N_afterv (ok := (fun k_ => (w.heap.size ≤ k_) ∧ k_ ≠ gb188 ∧ k_ ≠ gb201)) (by (with_reducible repeat (first | apply Kd.N_alloc | apply Kd.N_drewN | apply Kd.N_drew)); exact Kd.N_mono HO209.out (fun _ hk => ⟨⟨hk.1, ⟨hk.2.2.1, hk.2.2.2⟩⟩, hk.2.1⟩)) hg hat)
                have n3_ := Aside0.mk (hb)
                have n4_ := Aside0.mk (ho)
                clear BK188
                clear BK201
                clear HO209
                clear HB
                clear HO206
                have BK188 := n0_
                have BK201 := n1_
                have HO209 := n2_
                have HB := n3_
                have HO212 := n4_
                clear n0_ n1_ n2_ n3_ n4_
                clear ho hb hg hat
                obtain ⟨Ao48, co48, eo48⟩ := Kd.N_slice HO212.out
                (first | subst eo48 | (injection eo48 with f1_ f2_ f3_; have f4_ := f1_.symm; have f5_ := f3_.symm; clear f1_ f2_ f3_; subst f4_; subst f5_))
                refine hK.out _ _ ⟨(blk_cell BK201.out 0).trans rfl, (blk_cell BK201.out 1).trans rfl, (blk_cell BK201.out 2).trans rfl, (blk_cell BK201.out 3).trans rfl, (blk_cell BK201.out 4).trans rfl, (blk_cell BK201.out 5).trans rfl⟩ (fun hHeld => ?_)
                clear hK K
                refine norm_ (a' := ?_) ?_ ?_
                rotate_left
                · show Act.put _ (some 79) _ = _
                  simp only [Act.put, List.setIfInBounds_toArray, List.set_cons_zero, List.set_cons_succ, i64_w, i32_w]
                  rfl
                refine pure_ (i := 8) (N := some 83) (v := ?_) (a' := ?_) #[true, true, true, true, true, true, true, true, true, false, false] rfl rfl (any_of HT_.out (by kernel_rfl)) (fun _ _ _ h => h) (Or.inl ⟨by rfl, ?_⟩) ?_ ?_
                rotate_left
                · intro w'
                  go_simp
                  with_reducible rfl
                rotate_left
                · simp only [Act.put, List.setIfInBounds_toArray, List.set_cons_zero, List.set_cons_succ, i64_w, i32_w]
                  rfl
                refine one_ (i := 9) (N := none) #[true, true, true, true, true, true, true, true, true, true, false] rfl rfl (one_of HT_.out (by kernel_rfl)) (by decide) (fun K hK => ?_)
                have hs49 : w46.cell? ⟨gb188, 0, none⟩ = some (.slice none 0 0) := (blk_cell BK188.out 0).trans rfl
                have hfs49 := blk_frozen BK188.out 0
                have hns49_1 := NB201_188.out
                have hms49_1 := NB188_201.out
                have hs50 : w46.cell? ⟨gb188, 1, none⟩ = some (.int .i64 0) := (blk_cell BK188.out 1).trans rfl
                have hfs50 := blk_frozen BK188.out 1
                have hns50_1 := NB201_188.out
                have hms50_1 := NB188_201.out
                refine skip_ (w1 := ?_) (by rfl) rfl ?_ ?_
                rotate_left
                · go_simp
                  rfl
                refine hK.out _ _ ⟨((cell_far (p := ⟨gb188, _, none⟩) NB201_188.out _).trans (((cell_far (p := ⟨gb188, _, none⟩) NB201_188.out _).trans (hHeld.1)))), ((cell_far (p := ⟨gb188, _, none⟩) NB201_188.out _).trans (((cell_far (p := ⟨gb188, _, none⟩) NB201_188.out _).trans (hHeld.2.1)))), ((cell_far (p := ⟨gb188, _, none⟩) NB201_188.out _).trans (((cell_far (p := ⟨gb188, _, none⟩) NB201_188.out _).trans (hHeld.2.2.1)))), ((cell_far (p := ⟨gb188, _, none⟩) NB201_188.out _).trans (((cell_far (p := ⟨gb188, _, none⟩) NB201_188.out _).trans (hHeld.2.2.2.1)))), ((cell_far (p := ⟨gb188, _, none⟩) NB201_188.out _).trans (((cell_far (p := ⟨gb188, _, none⟩) NB201_188.out _).trans (hHeld.2.2.2.2.1)))), ((cell_far (p := ⟨gb188, _, none⟩) NB201_188.out _).trans (((cell_far (p := ⟨gb188, _, none⟩) NB201_188.out _).trans (hHeld.2.2.2.2.2))))⟩ (fun hHeld => ?_)
                clear hK K
                refine pure_ (i := 10) (N := some 13) (v := ?_) (a' := ?_) #[true, true, true, true, true, true, true, true, true, true, true] rfl rfl (any_of HT_.out (by kernel_rfl)) (fun _ _ _ h => h) (Or.inl ⟨by rfl, ?_⟩) ?_ ?_
                rotate_left
                · intro w'
                  go_simp
                  with_reducible rfl
                rotate_left
                · simp only [Act.put, List.setIfInBounds_toArray, List.set_cons_zero, List.set_cons_succ, i64_w, i32_w]
                  rfl
                refine done_ (done_of HT_.out (by kernel_rfl)) ?_
                try go_wp2
                refine bodyPost_ret (results_ct rfl _ _ gb188 33 #[.slice Ao48 y210.length co48, .int .i64 (wrap64 (a3 - (ji27)))] (0, 0) _ rfl (by (with_reducible repeat (first | refine blk_drewN ?_ _ | refine blk_drew ?_ | refine blk_alloc ?_ _)); refine blk_put (cs := #[.slice Ao48 y210.length co48, .int .i64 0]) ?_ 1 _ rfl; (with_reducible repeat (first | refine blk_drewN ?_ _ | refine blk_drew ?_ | refine blk_alloc ?_ _)); refine blk_put (cs := #[.slice none 0 0, .int .i64 0]) ?_ 0 _ rfl; (with_reducible repeat (first | refine blk_drewN ?_ _ | refine blk_drew ?_ | refine blk_alloc ?_ _)); exact BK188.out) Try.underlying33 rfl (by kernel_rfl)) rfl ?_
                exact ⟨_, by first | rfl | (simp [errW_none, errW_some] <;> rfl) | (simp only [← hji27]; first | rfl | (simp [errW_none, errW_some] <;> rfl)) | (simp [*, errW_none, errW_some] <;> rfl), by (with_reducible repeat (first | apply Kd.N_alloc | apply Kd.N_drewN | apply Kd.N_drew)); exact Kd.N_mono (Kd.N_far (p := ⟨gb188, 1, none⟩) (Kd.N_far (p := ⟨gb188, 0, none⟩) (Kd.N_mono HO212.out (fun k_ hk => (⟨hk, hk.2.1⟩ : _ ∧ k_ ≠ gb188))) (fun _ hk => hk.2) (.slice Ao48 y210.length co48)) (fun _ hk => hk.2) (.int .i64 (wrap64 (a3 - (ji27))))) (fun _ hk => hk.1.1), by repeat (first | (with_reducible first | exact HB.out | apply below_alloc | apply pw_below_drewN | apply below_drew1 | refine below_set ?_ GE188.out | refine below_set ?_ GE201.out) | exact HB.out)⟩
              · rw [if_neg c32] at H
                exact absurd H (by simp)
            · rw [if_neg c29] at H
              have c29b0 : ((wrap64 (a2 - (ji27))) == 0) = false := beq_eq_false_iff_ne.mpr c29
              have c29b1 : ((wrap64 (a2 - (ji27))) != 0) = true := bne_iff_ne.mpr c29
              clear c29
              replace H := Option.bind_eq_some_iff.mp H
              obtain ⟨t213, A510, H⟩ := H
              replace H : ((some (([(⟨a1, a2, wrap64 (a2 - (ji27)), (-1), a4, y198⟩ : S45)] : List (S45)) : List (S45))).bind fun y216 => (if t213.length + y216.length < 2199023255552 then (some ((t213 ++ y216), wrap64 (a3 - (ji27)), 0)) else (none))) = some (r1, r2, r3) := H
              have A51 := Aside0.mk A510
              clear A510
              obtain ⟨y216, hy216⟩ : ∃ y_ : List (S45), y_ = (([(⟨a1, a2, wrap64 (a2 - (ji27)), (-1), a4, y198⟩ : S45)] : List (S45))) := ⟨_, rfl⟩
              replace H : (if t213.length + y216.length < 2199023255552 then (some ((t213 ++ y216), wrap64 (a3 - (ji27)), 0)) else (none)) = some (r1, r2, r3) := by first | (rw [hy216]; with_reducible exact H) | (have H2_ := (Option.bind_some _ _).symm.trans H; rw [hy216]; with_reducible exact H2_) | (have H2_ := (Option.bind_some _ _).symm.trans H; with_reducible exact H2_) | with_reducible exact H | (rw [hy216]; exact H) | exact H
              have Ny216 := Aside0.mk hy216
              clear hy216
              by_cases c52 : t213.length + y216.length < 2199023255552
              · rw [if_pos c52] at H
                have LMc52 := Aside0.mk c52
                clear c52
                obtain ⟨y219, hy219⟩ : ∃ y_ : List (S45), y_ = (t213 ++ y216) := ⟨_, rfl⟩
                replace H : (some (y219, wrap64 (a3 - (ji27)), 0)) = some (r1, r2, r3) := by first | (rw [hy219]; with_reducible exact H) | (have H2_ := (Option.bind_some _ _).symm.trans H; rw [hy219]; with_reducible exact H2_) | (have H2_ := (Option.bind_some _ _).symm.trans H; with_reducible exact H2_) | with_reducible exact H | (rw [hy219]; exact H) | exact H
                have Ny219 := Aside0.mk hy219
                clear hy219
                simp only [Option.some.injEq, Prod.mk.injEq] at H
                obtain ⟨rfl, rfl, rfl⟩ := H
                try go_wp2_with (first | ((with_reducible refine gate_dst (N := 62) rfl ?_); (try (refine gate_guard (by rfl) ?_; dsimp only)); refine Kd.R_lit (Kd.int .i64) _ 3 ?hg (N := 62) ?hd (xs := ([] : List Int)) (inner := []) (ok := fun _ => True) (okp := fun _ => True) ?hr ?hp (fun _ hk => hk) trivial (Below.refl _ _) (Nat.le_refl _) (by simp) ?_; (case hd => rfl); (case hg => rfl); (case hr => first | (go_simp; done) | (go_simp; rfl)); (case hp => exact (Reps.none _ _)); intro v196 w53 ho54 hb hg_ hnew_; clear hg_ hnew_; (first | rw [← Ny195.out] at ho54 | (simp only [Int.reduceToNat] at ho54; rw [← Ny195.out] at ho54)); have n0_ := Aside0.mk (Kd.R_lower (Kd.R_newM (M := fun k_ => (w.heap.size ≤ k_)) ho54 (below_size (by repeat (first | (with_reducible first | exact HB.out | apply below_alloc | apply pw_below_drewN | apply below_drew1 | refine below_set ?_ GE188.out) | exact HB.out))) (fun k_ h_ => h_)) (below_size (by repeat (first | (with_reducible first | exact HB.out | apply below_alloc | apply pw_below_drewN | apply below_drew1 | refine below_set ?_ GE188.out) | exact HB.out)))); have n1_ := Aside0.mk (blk_below (g := gb188) (Up.up BK188.out) hb); have n2_ := Aside0.mk (below_step (by repeat (first | (with_reducible first | exact HB.out | apply below_alloc | apply pw_below_drewN | apply below_drew1 | refine below_set ?_ GE188.out) | exact HB.out)) hb); clear BK188; clear HB; have HO197 := n0_; have BK188 := n1_; have HB := n2_; clear n0_ n1_ n2_; clear hb ho54) | ((with_reducible refine gate_builtin (b := .append) (xs := #[.tmp 62, .tmp 63]) rfl ?_); (try (refine gate_guard (by rfl) ?_; dsimp only)); at_builtin; refine Kd.R_append_rows (Kd.int .i64) (w0 := w) w.heap.size rfl (.tmp 62) (.tmp 63) 28 3 (.int .i64 0) 8 rfl Try.underlying28 info3 rfl (by decide) (by omega) v196 y195 l5 _ _ _ (fun k_ => (w.heap.size ≤ k_)) (fun _ => False) rfl rfl ?aO ?aR (fun _ _ h => h) (fun _ h => h.elim) ?aF ?aB ?aS ?aL ?_; (case aR => repeat (first | exact (Kd.C_below HR5.out HB.out) | (with_reducible refine Kd.C_alloc ?_ _) | (with_reducible refine Kd.C_drewN ?_ _) | (with_reducible refine Kd.C_drew ?_))); (case aB => exact (by repeat (first | (with_reducible first | exact HB.out | apply below_alloc | apply pw_below_drewN | apply below_drew1 | refine below_set ?_ GE188.out) | exact HB.out))); (case aF => exact (fun k_ hk => (Nat.le_trans (below_size (by repeat (first | (with_reducible first | exact HB.out | apply below_alloc | apply pw_below_drewN | apply below_drew1 | refine below_set ?_ GE188.out) | exact HB.out))) hk))); (case aO => exact (by (with_reducible repeat (first | apply Kd.R_alloc | apply Kd.R_drewN | apply Kd.R_drew)); exact Kd.R_mono HO197.out (fun _ hk => hk.1))); (case aS => exact (below_size (by repeat (first | (with_reducible first | exact HB.out | apply below_alloc | apply pw_below_drewN | apply below_drew1 | refine below_set ?_ GE188.out) | exact HB.out)))); (case aL => have := LMc28.out; omega); intro v199 w55 ho hb hg hat; rw [← Ny198.out] at ho; have n0_ := Aside0.mk (blk_grown (g := gb188) (Up.up BK188.out) hg (Kd.R_ne HO197.out BK188.out (by decide))); have n1_ := Aside0.mk (hb); have n2_ := Aside0.mk (ho); clear BK188; clear HB; clear HO197; have BK188 := n0_; have HB := n1_; have HO200 := n2_; clear n0_ n1_ n2_; clear ho hb hg hat; obtain ⟨Ao56, co56, eo56⟩ := Kd.R_slice HO200.out; subst eo56) | ((with_reducible refine gate_dst (N := 15) rfl ?_); (try (refine gate_guard (by rfl) ?_; dsimp only)); refine box_event ?hg (N := 15) ?hd (cs := #[.int .i64 0, .int .i64 0, .int .i64 0, .int .i64 0, .int .i64 0, .slice none 0 0]) (t := 45) ?hr ?_; (case hd => rfl); (case hg => rfl); (case hr => first | (go_simp; done) | (go_simp; rfl)); intro gb201 hg w57 hbox hb; have n0_ := Aside0.mk (Kd.R_below (by (with_reducible repeat (first | apply Kd.R_alloc | apply Kd.R_drewN | apply Kd.R_drew)); exact HO200.out) hb); have n1_ := Aside0.mk (blk_below (g := gb188) (Up.up BK188.out) hb); have n2_ := Aside0.mk (below_step (by repeat (first | (with_reducible first | exact HB.out | apply below_alloc | apply pw_below_drewN | apply below_drew1 | refine below_set ?_ GE188.out) | exact HB.out)) hb); have n3_ := Aside0.mk (hbox); have n4_ := Aside0.mk ((by rw [hg]; exact (below_size (by repeat (first | (with_reducible first | exact HB.out | apply below_alloc | apply pw_below_drewN | apply below_drew1 | refine below_set ?_ GE188.out) | exact HB.out))) : w.heap.size ≤ gb201)); have n5_ := Aside0.mk ((by rw [hg]; exact (below_size (by repeat (first | (with_reducible first | exact HB.out | apply below_alloc | apply pw_below_drewN | apply below_drew1 | refine below_set ?_ GE188.out) | exact HB.out))) : w.heap.size ≤ gb201)); have n6_ := Aside0.mk ((by rw [hg]; exact Nat.ne_of_lt (blk_lt (g := gb188) (Up.up BK188.out)) : gb188 ≠ gb201)); have n7_ := Aside0.mk ((by rw [hg]; exact Nat.ne_of_gt (blk_lt (g := gb188) (Up.up BK188.out)) : gb201 ≠ gb188)); clear HO200; clear BK188; clear HB; have HO200 := n0_; have BK188 := n1_; have HB := n2_; have BK201 := n3_; have GW201 := n4_; have GE201 := n5_; have NB188_201 := n6_; have NB201_188 := n7_; clear n0_ n1_ n2_ n3_ n4_ n5_ n6_ n7_; clear hb hbox hg; have hnb58 := NB201_188.out; have hnc58 := NB188_201.out; have hcz59_0 : w57.cell? ⟨gb201, 0, none⟩ = some (.int .i64 0) := (blk_cell BK201.out 0).trans rfl; have hcz59_1 : w57.cell? ⟨gb201, 1, none⟩ = some (.int .i64 0) := (blk_cell BK201.out 1).trans rfl; have hcz59_2 : w57.cell? ⟨gb201, 2, none⟩ = some (.int .i64 0) := (blk_cell BK201.out 2).trans rfl; have hcz59_3 : w57.cell? ⟨gb201, 3, none⟩ = some (.int .i64 0) := (blk_cell BK201.out 3).trans rfl; have hcz59_4 : w57.cell? ⟨gb201, 4, none⟩ = some (.int .i64 0) := (blk_cell BK201.out 4).trans rfl; have hcz59_5 : w57.cell? ⟨gb201, 5, none⟩ = some (.slice none 0 0) := (blk_cell BK201.out 5).trans rfl; have hfz59_0 := blk_frozen BK201.out 0; have hfz59_1 := blk_frozen BK201.out 1; have hfz59_2 := blk_frozen BK201.out 2; have hfz59_3 := blk_frozen BK201.out 3; have hfz59_4 := blk_frozen BK201.out 4; have hfz59_5 := blk_frozen BK201.out 5))
                have n0_ : Aside0 (Kd.R (Kd.int .i64) 3 ((((((w57.setCell ⟨gb201, 0, none⟩ (.int .i64 a1)).setCell ⟨gb201, 1, none⟩ (.int .i64 a2)).setCell ⟨gb201, 2, none⟩ (.int .i64 (wrap64 (a2 - (ji27))))).setCell ⟨gb201, 3, none⟩ (.int .i64 (-1))).setCell ⟨gb201, 4, none⟩ (.int .i64 a4)).setCell ⟨gb201, 5, none⟩ (.slice Ao56 y198.length co56)) w.heap.size (fun k_ => (w.heap.size ≤ k_)) (.slice Ao56 y198.length co56) y198) := ⟨by (with_reducible repeat (first | apply Kd.R_alloc | apply Kd.R_drewN | apply Kd.R_drew)); exact Kd.R_mono (Kd.R_far (p := ⟨gb201, 5, none⟩) (Kd.R_far (p := ⟨gb201, 4, none⟩) (Kd.R_far (p := ⟨gb201, 3, none⟩) (Kd.R_far (p := ⟨gb201, 2, none⟩) (Kd.R_far (p := ⟨gb201, 1, none⟩) (Kd.R_far (p := ⟨gb201, 0, none⟩) (Kd.R_types HO200.out BK201.out (by decide)) (fun _ hk => hk.2) (.int .i64 a1)) (fun _ hk => hk.2) (.int .i64 a2)) (fun _ hk => hk.2) (.int .i64 (wrap64 (a2 - (ji27))))) (fun _ hk => hk.2) (.int .i64 (-1))) (fun _ hk => hk.2) (.int .i64 a4)) (fun _ hk => hk.2) (.slice Ao56 y198.length co56)) (fun _ hk => hk.1)⟩
                have n1_ : Aside0 (((((((w57.setCell ⟨gb201, 0, none⟩ (.int .i64 a1)).setCell ⟨gb201, 1, none⟩ (.int .i64 a2)).setCell ⟨gb201, 2, none⟩ (.int .i64 (wrap64 (a2 - (ji27))))).setCell ⟨gb201, 3, none⟩ (.int .i64 (-1))).setCell ⟨gb201, 4, none⟩ (.int .i64 a4)).setCell ⟨gb201, 5, none⟩ (.slice Ao56 y198.length co56)).heap[gb188]? = some (.cells #[.slice none 0 0, .int .i64 0] 33 (0, 0))) := ⟨by (iterate 6 ((with_reducible repeat (first | refine blk_drewN ?_ _ | refine blk_drew ?_ | refine blk_alloc ?_ _)); refine blk_far ?_ NB188_201.out _)); (with_reducible repeat (first | refine blk_drewN ?_ _ | refine blk_drew ?_ | refine blk_alloc ?_ _)); exact BK188.out⟩
                have n2_ : Aside0 (((((((w57.setCell ⟨gb201, 0, none⟩ (.int .i64 a1)).setCell ⟨gb201, 1, none⟩ (.int .i64 a2)).setCell ⟨gb201, 2, none⟩ (.int .i64 (wrap64 (a2 - (ji27))))).setCell ⟨gb201, 3, none⟩ (.int .i64 (-1))).setCell ⟨gb201, 4, none⟩ (.int .i64 a4)).setCell ⟨gb201, 5, none⟩ (.slice Ao56 y198.length co56)).heap[gb201]? = some (.cells #[.int .i64 a1, .int .i64 a2, .int .i64 (wrap64 (a2 - (ji27))), .int .i64 (-1), .int .i64 a4, .slice Ao56 y198.length co56] 45 (0, 0))) := ⟨by (with_reducible repeat (first | refine blk_drewN ?_ _ | refine blk_drew ?_ | refine blk_alloc ?_ _)); refine blk_put (cs := #[.int .i64 a1, .int .i64 a2, .int .i64 (wrap64 (a2 - (ji27))), .int .i64 (-1), .int .i64 a4, .slice none 0 0]) ?_ 5 _ rfl; (with_reducible repeat (first | refine blk_drewN ?_ _ | refine blk_drew ?_ | refine blk_alloc ?_ _)); refine blk_put (cs := #[.int .i64 a1, .int .i64 a2, .int .i64 (wrap64 (a2 - (ji27))), .int .i64 (-1), .int .i64 0, .slice none 0 0]) ?_ 4 _ rfl; (with_reducible repeat (first | refine blk_drewN ?_ _ | refine blk_drew ?_ | refine blk_alloc ?_ _)); refine blk_put (cs := #[.int .i64 a1, .int .i64 a2, .int .i64 (wrap64 (a2 - (ji27))), .int .i64 0, .int .i64 0, .slice none 0 0]) ?_ 3 _ rfl; (with_reducible repeat (first | refine blk_drewN ?_ _ | refine blk_drew ?_ | refine blk_alloc ?_ _)); refine blk_put (cs := #[.int .i64 a1, .int .i64 a2, .int .i64 0, .int .i64 0, .int .i64 0, .slice none 0 0]) ?_ 2 _ rfl; (with_reducible repeat (first | refine blk_drewN ?_ _ | refine blk_drew ?_ | refine blk_alloc ?_ _)); refine blk_put (cs := #[.int .i64 a1, .int .i64 0, .int .i64 0, .int .i64 0, .int .i64 0, .slice none 0 0]) ?_ 1 _ rfl; (with_reducible repeat (first | refine blk_drewN ?_ _ | refine blk_drew ?_ | refine blk_alloc ?_ _)); refine blk_put (cs := #[.int .i64 0, .int .i64 0, .int .i64 0, .int .i64 0, .int .i64 0, .slice none 0 0]) ?_ 0 _ rfl; (with_reducible repeat (first | refine blk_drewN ?_ _ | refine blk_drew ?_ | refine blk_alloc ?_ _)); exact BK201.out⟩
                have n3_ : Aside0 (Below w.heap.size w ((((((w57.setCell ⟨gb201, 0, none⟩ (.int .i64 a1)).setCell ⟨gb201, 1, none⟩ (.int .i64 a2)).setCell ⟨gb201, 2, none⟩ (.int .i64 (wrap64 (a2 - (ji27))))).setCell ⟨gb201, 3, none⟩ (.int .i64 (-1))).setCell ⟨gb201, 4, none⟩ (.int .i64 a4)).setCell ⟨gb201, 5, none⟩ (.slice Ao56 y198.length co56))) := ⟨by repeat (first | (with_reducible first | exact HB.out | apply below_alloc | apply pw_below_drewN | apply below_drew1 | refine below_set ?_ GE188.out | refine below_set ?_ GE201.out) | exact HB.out)⟩
                (try clear HO200)
                (try clear BK188)
                (try clear BK201)
                (try clear HB)
                try simp only [show ∀ (w_ : World) (n_ : Nat) (p_ : Addr) (v_ : Value), (w_.drewN n_).setCell p_ v_ = (w_.setCell p_ v_).drewN n_ from fun _ _ _ _ => rfl]
                generalize ((((((w57.setCell ⟨gb201, 0, none⟩ (.int .i64 a1)).setCell ⟨gb201, 1, none⟩ (.int .i64 a2)).setCell ⟨gb201, 2, none⟩ (.int .i64 (wrap64 (a2 - (ji27))))).setCell ⟨gb201, 3, none⟩ (.int .i64 (-1))).setCell ⟨gb201, 4, none⟩ (.int .i64 a4)).setCell ⟨gb201, 5, none⟩ (.slice Ao56 y198.length co56)) = w60 at n0_ n1_ n2_ n3_ ⊢
                have HO200 := n0_
                have BK188 := n1_
                have BK201 := n2_
                have HB := n3_
                clear n0_ n1_ n2_ n3_
                have n0_ := Aside0.mk (Kd.R_drew HO200.out)
                have n1_ := Aside0.mk (blk_drew BK188.out)
                have n2_ := Aside0.mk (blk_drew BK201.out)
                have n3_ := Aside0.mk (below_drew1 HB.out)
                clear HO200
                clear BK188
                clear BK201
                clear HB
                have HO200 := n0_
                have BK188 := n1_
                have BK201 := n2_
                have HB := n3_
                clear n0_ n1_ n2_ n3_
                refine start_ (n := 11) (S := fun w' => w'.cell? ⟨gb201, 0, none⟩ = some (.int .i64 a1) ∧ w'.cell? ⟨gb201, 1, none⟩ = some (.int .i64 a2) ∧ w'.cell? ⟨gb201, 2, none⟩ = some (.int .i64 (wrap64 (a2 - (ji27)))) ∧ w'.cell? ⟨gb201, 3, none⟩ = some (.int .i64 (-1)) ∧ w'.cell? ⟨gb201, 4, none⟩ = some (.int .i64 a4) ∧ w'.cell? ⟨gb201, 5, none⟩ = some (.slice Ao56 y198.length co56)) (ds := []) #[false, false, false, false, false, false, false, false, false, false, false] (by kernel_rfl) rfl rfl ⟨(blk_cell BK201.out 0).trans rfl, (blk_cell BK201.out 1).trans rfl, (blk_cell BK201.out 2).trans rfl, (blk_cell BK201.out 3).trans rfl, (blk_cell BK201.out 4).trans rfl, (blk_cell BK201.out 5).trans rfl⟩ (fun hHeld => ?_); refine with_tabW annuityref19_Issue.tab9 annuityref19_Issue.bits9 (fun HT_ HW_ => ?_)
                generalize w60.drew = w61 at HO200 BK188 BK201 HB hHeld ⊢
                refine pure_ (i := 0) (N := some 75) (v := ?_) (a' := ?_) #[true, false, false, false, false, false, false, false, false, false, false] rfl rfl (any_of HT_.out (by kernel_rfl)) (fun _ _ _ h => h) (Or.inl ⟨by rfl, ?_⟩) ?_ ?_
                rotate_left
                · intro w'
                  go_simp
                  with_reducible rfl
                rotate_left
                · simp only [Act.put, List.setIfInBounds_toArray, List.set_cons_zero, List.set_cons_succ, i64_w, i32_w]
                  rfl
                refine pure_ (i := 5) (N := some 80) (v := ?_) (a' := ?_) #[true, false, false, false, false, true, false, false, false, false, false] rfl rfl (any_of HT_.out (by kernel_rfl)) (fun _ _ _ h => h) (Or.inl ⟨by rfl, ?_⟩) ?_ ?_
                rotate_left
                · intro w'
                  go_simp
                  with_reducible rfl
                rotate_left
                · simp only [Act.put, List.setIfInBounds_toArray, List.set_cons_zero, List.set_cons_succ, i64_w, i32_w]
                  rfl
                refine pure_ (i := 6) (N := some 81) (v := ?_) (a' := ?_) #[true, false, false, false, false, true, true, false, false, false, false] rfl rfl (any_of HT_.out (by kernel_rfl)) (fun _ _ _ h => h) (Or.inl ⟨by rfl, ?_⟩) ?_ ?_
                rotate_left
                · intro w'
                  go_simp
                  with_reducible rfl
                rotate_left
                · simp only [Act.put, List.setIfInBounds_toArray, List.set_cons_zero, List.set_cons_succ, i64_w, i32_w]
                  rfl
                refine pure_ (i := 7) (N := some 82) (v := ?_) (a' := ?_) #[true, false, false, false, false, true, true, true, false, false, false] rfl rfl (any_of HT_.out (by kernel_rfl)) (fun _ _ _ h => h) (Or.inl ⟨by rfl, ?_⟩) ?_ ?_
                rotate_left
                · intro w'
                  go_simp
                  with_reducible rfl
                rotate_left
                · simp only [Act.put, List.setIfInBounds_toArray, List.set_cons_zero, List.set_cons_succ, i64_w, i32_w]
                  rfl
                refine take_ (i := 2) (N := some 77) (v := ?_) (a' := ?_) #[true, false, true, false, false, true, true, true, false, false, false] rfl rfl (take_ofW HT_.out HW_.out (by kernel_rfl)) (fun _ _ _ h => h) (Or.inl ⟨by rfl, ?_⟩) hHeld ?_ ?_
                rotate_left
                · rintro w' ⟨s0, s1, s2, s3, s4, s5⟩
                  go_simp
                  with_reducible rfl
                rotate_left
                · simp only [Act.put, List.setIfInBounds_toArray, List.set_cons_zero, List.set_cons_succ, i64_w, i32_w]
                  rfl
                refine join_ (σ := Value × Value) 4 #[true, true, true, true, false, true, true, true, false, false, false] (fun s_ => [(76, s_.1), (78, s_.2)]) (fun s_ w' => (w'.cell? ⟨gb201, 0, none⟩ = some (.int .i64 a1) ∧ w'.cell? ⟨gb201, 1, none⟩ = some (.int .i64 a2) ∧ w'.cell? ⟨gb201, 2, none⟩ = some (.int .i64 (wrap64 (a2 - (ji27)))) ∧ w'.cell? ⟨gb201, 3, none⟩ = some (.int .i64 (-1)) ∧ w'.cell? ⟨gb201, 4, none⟩ = some (.int .i64 a4) ∧ w'.cell? ⟨gb201, 5, none⟩ = some (.slice Ao56 y198.length co56)) ∧ (Kd.N k45 45 w' w.heap.size (fun k_ => (w.heap.size ≤ k_) ∧ some k_ ≠ (s_.2 : Value).ownBlock ∧ k_ ≠ gb188 ∧ k_ ≠ gb201) s_.1 t213) ∧ (Kd.N k45 45 w' w.heap.size (fun k_ => (w.heap.size ≤ k_) ∧ some k_ ≠ (s_.1 : Value).ownBlock ∧ k_ ≠ gb188 ∧ k_ ≠ gb201) s_.2 y216) ∧ (w'.heap[gb188]? = some (.cells #[.slice none 0 0, .int .i64 0] 33 (0, 0))) ∧ (w'.heap[gb201]? = some (.cells #[.int .i64 a1, .int .i64 a2, .int .i64 (wrap64 (a2 - (ji27))), .int .i64 (-1), .int .i64 a4, .slice Ao56 y198.length co56] 45 (0, 0))) ∧ (Below w.heap.size w w')) ?_ ?_
                rotate_left
                · intro hCont
                  refine two_ (i := 1) (j := 3) (Ni := some 76) (Nj := some 78) #[true, true, true, false, false, true, true, true, false, false, false] #[true, false, true, true, false, true, true, true, false, false, false] rfl rfl rfl rfl (two_of HT_.out (by kernel_rfl)) (by decide) (by decide) (fun K hK => ?_) (fun K hK => ?_)
                  · skip
                    refine goes_ Try.func10 (by kernel_rfl) rfl #[.slice A0 l0.length c0] (by rfl) rfl rfl (by (try simp only [List.map_toArray, List.map_cons, List.map_nil]); first | done | rfl | (simp only [List.length_drop, List.length_take]; rfl)) ?_
                    with_reducible refine (annuitykeep_CopyBills.calls kj8 _ _ l0 t213 _ ?side1 ?side2 A51.out).mono ?_
                    (case side1 => repeat (first | exact (Kd.C_below HR0.out HB.out) | (with_reducible refine Kd.C_alloc ?_ _) | (with_reducible refine Kd.C_drewN ?_ _) | (with_reducible refine Kd.C_drew ?_)))
                    (case side2 => exact HC0.out)
                    rintro e w62 ⟨v214, rfl, ho0, hb⟩
                    refine ⟨_, rfl, ?_⟩
                    have n0_ := Aside0.mk (Kd.R_below (by (with_reducible repeat (first | apply Kd.R_alloc | apply Kd.R_drewN | apply Kd.R_drew)); exact HO200.out) hb)
                    have n1_ := Aside0.mk (Kd.N_lower (Kd.N_mono (ok' := fun k_ => (w.heap.size ≤ k_) ∧ some k_ ≠ (.slice Ao56 y198.length co56 : Value).ownBlock ∧ k_ ≠ gb188 ∧ k_ ≠ gb201) (Kd.S_N (Kd.S_bound ho0)) (fun k_ hk_ => ⟨(Nat.le_trans (below_size (by repeat (first | (with_reducible first | exact HB.out | apply below_alloc | apply pw_below_drewN | apply below_drew1 | refine below_set ?_ GE188.out | refine below_set ?_ GE201.out) | exact HB.out))) hk_.2.1), (Kd.fresh' (Kd.R_lt (by (with_reducible repeat (first | apply Kd.R_alloc | apply Kd.R_drewN | apply Kd.R_drew)); exact HO200.out)) k_ hk_.2.1), (Kd.freshB (g := gb188) (Up.up BK188.out) k_ hk_.2.1), (Kd.freshB (g := gb201) (Up.up BK201.out) k_ hk_.2.1)⟩)) (below_size (by repeat (first | (with_reducible first | exact HB.out | apply below_alloc | apply pw_below_drewN | apply below_drew1 | refine below_set ?_ GE188.out | refine below_set ?_ GE201.out) | exact HB.out))))
                    have n2_ := Aside0.mk (blk_below (g := gb188) (Up.up BK188.out) hb)
                    have n3_ := Aside0.mk (blk_below (g := gb201) (Up.up BK201.out) hb)
                    have n4_ := Aside0.mk (below_step (by repeat (first | (with_reducible first | exact HB.out | apply below_alloc | apply pw_below_drewN | apply below_drew1 | refine below_set ?_ GE188.out | refine below_set ?_ GE201.out) | exact HB.out)) hb)
                    clear HO200
                    clear BK188
                    clear BK201
                    clear HB
                    have HO200 := n0_
                    have HO215 := n1_
                    have BK188 := n2_
                    have BK201 := n3_
                    have HB := n4_
                    clear n0_ n1_ n2_ n3_ n4_
                    (try clear hb)
                    (try clear hb2)
                    (try clear hk)
                    (try clear hi)
                    (try clear ho0)
                    refine hK.out _ _ ⟨(blk_cell BK201.out 0).trans rfl, (blk_cell BK201.out 1).trans rfl, (blk_cell BK201.out 2).trans rfl, (blk_cell BK201.out 3).trans rfl, (blk_cell BK201.out 4).trans rfl, (blk_cell BK201.out 5).trans rfl⟩ (fun hHeld => ?_)
                    clear hK K
                    refine norm_ (a' := ?_) ?_ ?_
                    rotate_left
                    · show Act.put _ (some 76) _ = _
                      simp only [Act.put, List.setIfInBounds_toArray, List.set_cons_zero, List.set_cons_succ, i64_w, i32_w]
                      rfl
                    refine one_ (i := 3) (N := some 78) #[true, true, true, true, false, true, true, true, false, false, false] rfl rfl (one_of HT_.out (by kernel_rfl)) (by decide) (fun K hK => ?_)
                    refine Kd.N_lit_step k45 _ 45 ?hg (N' := 78) ?hd (xs := ([(⟨a1, a2, wrap64 (a2 - (ji27)), (-1), a4, y198⟩ : S45)] : List (S45))) (inner := [.int .i64 a1, .int .i64 a2, .int .i64 (wrap64 (a2 - (ji27))), .int .i64 (-1), .int .i64 a4, .slice Ao56 y198.length co56]) (ok := (fun k_ => (w.heap.size ≤ k_) ∧ some k_ ≠ (v214 : Value).ownBlock ∧ k_ ≠ gb188 ∧ k_ ≠ gb201)) (okp := (fun k_ => (w.heap.size ≤ k_) ∧ some k_ ≠ (v214 : Value).ownBlock ∧ k_ ≠ gb188 ∧ k_ ≠ gb201)) ?hr ?hp (fun _ hk => hk) ((show ∀ k_, w62.heap.size ≤ k_ → (fun k_ => (w.heap.size ≤ k_) ∧ some k_ ≠ (v214 : Value).ownBlock ∧ k_ ≠ gb188 ∧ k_ ≠ gb201) k_ from fun k_ hk => ⟨(Nat.le_trans (below_size (by repeat (first | (with_reducible first | exact HB.out | apply below_alloc | apply pw_below_drewN | apply below_drew1 | refine below_set ?_ GE188.out | refine below_set ?_ GE201.out) | exact HB.out))) hk), Kd.fresh' (Kd.N_lt (by (with_reducible repeat (first | apply Kd.N_alloc | apply Kd.N_drewN | apply Kd.N_drew)); exact HO215.out)) k_ hk, Kd.freshB (g := gb188) (Up.up BK188.out) k_ hk, Kd.freshB (g := gb201) (Up.up BK201.out) k_ hk⟩) _ (Nat.le_refl _)) (Below.refl _ _) (Nat.le_refl _) (by simp) ?_; (case hd => rfl); (case hg => rfl); (case hr => first | (go_simp; done) | (go_simp; rfl)); (case hp => exact (Reps.c6 (show Kd.FK k45 _ _ (⟨a1, a2, wrap64 (a2 - (ji27)), (-1), a4, y198⟩ : S45) [.int .i64 a1, .int .i64 a2, .int .i64 (wrap64 (a2 - (ji27))), .int .i64 (-1), .int .i64 a4, .slice Ao56 y198.length co56] from (k45_mkF _ _ (⟨a1, a2, wrap64 (a2 - (ji27)), (-1), a4, y198⟩ : S45) (Kd.R_reads' (Kd.R_mono (ok' := (fun k_ => (w.heap.size ≤ k_) ∧ some k_ ≠ (v214 : Value).ownBlock ∧ k_ ≠ gb188 ∧ k_ ≠ gb201)) (Kd.R_types (Kd.R_types (Kd.R_apart' (HO200.out) (Kd.N_typed HO215.out) (by decide)) BK188.out (by decide)) BK201.out (by decide)) (fun k_ hk => ⟨hk.1.1.1, ⟨hk.1.1.2, ⟨hk.1.2, hk.2⟩⟩⟩))).2.1 (Kd.R_F (Kd.R_mono (ok' := (fun k_ => (w.heap.size ≤ k_) ∧ some k_ ≠ (v214 : Value).ownBlock ∧ k_ ≠ gb188 ∧ k_ ≠ gb201)) (Kd.R_types (Kd.R_types (Kd.R_apart' (HO200.out) (Kd.N_typed HO215.out) (by decide)) BK188.out (by decide)) BK201.out (by decide)) (fun k_ hk => ⟨hk.1.1.1, ⟨hk.1.1.2, ⟨hk.1.2, hk.2⟩⟩⟩))))) (Reps.none _ _)))
                    intro v217 w63 ho64 hb hg_ hnew_
                    clear hg_ hnew_
                    (first | rw [← Ny216.out] at ho64 | (simp only [Int.reduceToNat] at ho64; rw [← Ny216.out] at ho64))
                    have n0_ := Aside0.mk (Kd.N_elder' (by (with_reducible repeat (first | apply Kd.N_alloc | apply Kd.N_drewN | apply Kd.N_drew)); exact HO215.out) (Kd.N_base ho64) hb)
                    have n1_ := Aside0.mk (Kd.N_lower ho64 (below_size (by repeat (first | (with_reducible first | exact HB.out | apply below_alloc | apply pw_below_drewN | apply below_drew1 | refine below_set ?_ GE188.out | refine below_set ?_ GE201.out) | exact HB.out))))
                    have n2_ := Aside0.mk (blk_below (g := gb188) (Up.up BK188.out) hb)
                    have n3_ := Aside0.mk (blk_below (g := gb201) (Up.up BK201.out) hb)
                    have n4_ := Aside0.mk (below_step (by repeat (first | (with_reducible first | exact HB.out | apply below_alloc | apply pw_below_drewN | apply below_drew1 | refine below_set ?_ GE188.out | refine below_set ?_ GE201.out) | exact HB.out)) hb)
                    clear HO215
                    clear BK188
                    clear BK201
                    clear HB
                    clear HO200
                    have HO215 := n0_
                    have HO218 := n1_
                    have BK188 := n2_
                    have BK201 := n3_
                    have HB := n4_
                    clear n0_ n1_ n2_ n3_ n4_
                    clear hb ho64
                    refine hK.out _ _ ⟨(blk_cell BK201.out 0).trans rfl, (blk_cell BK201.out 1).trans rfl, (blk_cell BK201.out 2).trans rfl, (blk_cell BK201.out 3).trans rfl, (blk_cell BK201.out 4).trans rfl, (blk_cell BK201.out 5).trans rfl⟩ (fun hHeld => ?_)
                    clear hK K
                    refine norm_ (a' := ?_) ?_ ?_
                    rotate_left
                    · show Act.put _ (some 78) _ = _
                      simp only [Act.put, List.setIfInBounds_toArray, List.set_cons_zero, List.set_cons_succ, i64_w, i32_w]
                      rfl
                    exact norm_ (by simp only [putAll, Act.put, List.setIfInBounds_toArray, List.set_cons_zero, List.set_cons_succ]) (hCont (v214, v217) _ ⟨hHeld, (by (with_reducible repeat (first | apply Kd.N_alloc | apply Kd.N_drewN | apply Kd.N_drew)); exact Kd.N_mono HO215.out (fun _ hk => ⟨hk.1.1, ⟨hk.2, ⟨hk.1.2.2.1, hk.1.2.2.2⟩⟩⟩)), (by (with_reducible repeat (first | apply Kd.N_alloc | apply Kd.N_drewN | apply Kd.N_drew)); exact HO218.out), (Up.up BK188.out), (Up.up BK201.out), (by repeat (first | (with_reducible first | exact HB.out | apply below_alloc | apply pw_below_drewN | apply below_drew1 | refine below_set ?_ GE188.out | refine below_set ?_ GE201.out) | exact HB.out))⟩)
                  · skip
                    refine Kd.N_lit_step k45 _ 45 ?hg (N' := 78) ?hd (xs := ([(⟨a1, a2, wrap64 (a2 - (ji27)), (-1), a4, y198⟩ : S45)] : List (S45))) (inner := [.int .i64 a1, .int .i64 a2, .int .i64 (wrap64 (a2 - (ji27))), .int .i64 (-1), .int .i64 a4, .slice Ao56 y198.length co56]) (ok := (fun k_ => (w.heap.size ≤ k_) ∧ k_ ≠ gb188 ∧ k_ ≠ gb201)) (okp := (fun k_ => (w.heap.size ≤ k_) ∧ k_ ≠ gb188 ∧ k_ ≠ gb201)) ?hr ?hp (fun _ hk => hk) ((show ∀ k_, w61.heap.size ≤ k_ → (fun k_ => (w.heap.size ≤ k_) ∧ k_ ≠ gb188 ∧ k_ ≠ gb201) k_ from fun k_ hk => ⟨(Nat.le_trans (below_size (by repeat (first | (with_reducible first | exact HB.out | apply below_alloc | apply pw_below_drewN | apply below_drew1 | refine below_set ?_ GE188.out | refine below_set ?_ GE201.out) | exact HB.out))) hk), Kd.freshB (g := gb188) (Up.up BK188.out) k_ hk, Kd.freshB (g := gb201) (Up.up BK201.out) k_ hk⟩) _ (Nat.le_refl _)) (Below.refl _ _) (Nat.le_refl _) (by simp) ?_; (case hd => rfl); (case hg => rfl); (case hr => first | (go_simp; done) | (go_simp; rfl)); (case hp => exact (Reps.c6 (show Kd.FK k45 _ _ (⟨a1, a2, wrap64 (a2 - (ji27)), (-1), a4, y198⟩ : S45) [.int .i64 a1, .int .i64 a2, .int .i64 (wrap64 (a2 - (ji27))), .int .i64 (-1), .int .i64 a4, .slice Ao56 y198.length co56] from (k45_mkF _ _ (⟨a1, a2, wrap64 (a2 - (ji27)), (-1), a4, y198⟩ : S45) (Kd.R_reads' (Kd.R_mono (ok' := (fun k_ => (w.heap.size ≤ k_) ∧ k_ ≠ gb188 ∧ k_ ≠ gb201)) (Kd.R_types (Kd.R_types (HO200.out) BK188.out (by decide)) BK201.out (by decide)) (fun k_ hk => ⟨hk.1.1, ⟨hk.1.2, hk.2⟩⟩))).2.1 (Kd.R_F (Kd.R_mono (ok' := (fun k_ => (w.heap.size ≤ k_) ∧ k_ ≠ gb188 ∧ k_ ≠ gb201)) (Kd.R_types (Kd.R_types (HO200.out) BK188.out (by decide)) BK201.out (by decide)) (fun k_ hk => ⟨hk.1.1, ⟨hk.1.2, hk.2⟩⟩))))) (Reps.none _ _)))
                    intro v217 w62 ho63 hb hg_ hnew_
                    clear hg_ hnew_
                    (first | rw [← Ny216.out] at ho63 | (simp only [Int.reduceToNat] at ho63; rw [← Ny216.out] at ho63))
                    have n0_ := Aside0.mk (Kd.N_lower ho63 (below_size (by repeat (first | (with_reducible first | exact HB.out | apply below_alloc | apply pw_below_drewN | apply below_drew1 | refine below_set ?_ GE188.out | refine below_set ?_ GE201.out) | exact HB.out))))
                    have n1_ := Aside0.mk (blk_below (g := gb188) (Up.up BK188.out) hb)
                    have n2_ := Aside0.mk (blk_below (g := gb201) (Up.up BK201.out) hb)
                    have n3_ := Aside0.mk (below_step (by repeat (first | (with_reducible first | exact HB.out | apply below_alloc | apply pw_below_drewN | apply below_drew1 | refine below_set ?_ GE188.out | refine below_set ?_ GE201.out) | exact HB.out)) hb)
                    clear BK188
                    clear BK201
                    clear HB
                    clear HO200
                    have HO218 := n0_
                    have BK188 := n1_
                    have BK201 := n2_
                    have HB := n3_
                    clear n0_ n1_ n2_ n3_
                    clear hb ho63
                    refine hK.out _ _ ⟨(blk_cell BK201.out 0).trans rfl, (blk_cell BK201.out 1).trans rfl, (blk_cell BK201.out 2).trans rfl, (blk_cell BK201.out 3).trans rfl, (blk_cell BK201.out 4).trans rfl, (blk_cell BK201.out 5).trans rfl⟩ (fun hHeld => ?_)
                    clear hK K
                    refine norm_ (a' := ?_) ?_ ?_
                    rotate_left
                    · show Act.put _ (some 78) _ = _
                      simp only [Act.put, List.setIfInBounds_toArray, List.set_cons_zero, List.set_cons_succ, i64_w, i32_w]
                      rfl
                    refine one_ (i := 1) (N := some 76) #[true, true, true, true, false, true, true, true, false, false, false] rfl rfl (one_of HT_.out (by kernel_rfl)) (by decide) (fun K hK => ?_)
                    refine goes_ Try.func10 (by kernel_rfl) rfl #[.slice A0 l0.length c0] (by rfl) rfl rfl (by (try simp only [List.map_toArray, List.map_cons, List.map_nil]); first | done | rfl | (simp only [List.length_drop, List.length_take]; rfl)) ?_
                    with_reducible refine (annuitykeep_CopyBills.calls kj8 _ _ l0 t213 _ ?side1 ?side2 A51.out).mono ?_
                    (case side1 => repeat (first | exact (Kd.C_below HR0.out HB.out) | (with_reducible refine Kd.C_alloc ?_ _) | (with_reducible refine Kd.C_drewN ?_ _) | (with_reducible refine Kd.C_drew ?_)))
                    (case side2 => exact HC0.out)
                    rintro e w64 ⟨v214, rfl, ho0, hb⟩
                    refine ⟨_, rfl, ?_⟩
                    have n0_ := Aside0.mk (Kd.N_elder' (by (with_reducible repeat (first | apply Kd.N_alloc | apply Kd.N_drewN | apply Kd.N_drew)); exact HO218.out) (by first | exact Kd.N_base ho0 | exact Kd.N_base (Kd.S_N ho0)) hb)
                    have n1_ := Aside0.mk (Kd.N_lower (Kd.N_mono (ok' := fun k_ => (w.heap.size ≤ k_) ∧ some k_ ≠ (v217 : Value).ownBlock ∧ k_ ≠ gb188 ∧ k_ ≠ gb201) (Kd.S_N (Kd.S_bound ho0)) (fun k_ hk_ => ⟨(Nat.le_trans (below_size (by repeat (first | (with_reducible first | exact HB.out | apply below_alloc | apply pw_below_drewN | apply below_drew1 | refine below_set ?_ GE188.out | refine below_set ?_ GE201.out) | exact HB.out))) hk_.2.1), (Kd.fresh' (Kd.N_lt (by (with_reducible repeat (first | apply Kd.N_alloc | apply Kd.N_drewN | apply Kd.N_drew)); exact HO218.out)) k_ hk_.2.1), (Kd.freshB (g := gb188) (Up.up BK188.out) k_ hk_.2.1), (Kd.freshB (g := gb201) (Up.up BK201.out) k_ hk_.2.1)⟩)) (below_size (by repeat (first | (with_reducible first | exact HB.out | apply below_alloc | apply pw_below_drewN | apply below_drew1 | refine below_set ?_ GE188.out | refine below_set ?_ GE201.out) | exact HB.out))))
                    have n2_ := Aside0.mk (blk_below (g := gb188) (Up.up BK188.out) hb)
                    have n3_ := Aside0.mk (blk_below (g := gb201) (Up.up BK201.out) hb)
                    have n4_ := Aside0.mk (below_step (by repeat (first | (with_reducible first | exact HB.out | apply below_alloc | apply pw_below_drewN | apply below_drew1 | refine below_set ?_ GE188.out | refine below_set ?_ GE201.out) | exact HB.out)) hb)
                    clear HO218
                    clear BK188
                    clear BK201
                    clear HB
                    have HO218 := n0_
                    have HO215 := n1_
                    have BK188 := n2_
                    have BK201 := n3_
                    have HB := n4_
                    clear n0_ n1_ n2_ n3_ n4_
                    (try clear hb)
                    (try clear hb2)
                    (try clear hk)
                    (try clear hi)
                    (try clear ho0)
                    refine hK.out _ _ ⟨(blk_cell BK201.out 0).trans rfl, (blk_cell BK201.out 1).trans rfl, (blk_cell BK201.out 2).trans rfl, (blk_cell BK201.out 3).trans rfl, (blk_cell BK201.out 4).trans rfl, (blk_cell BK201.out 5).trans rfl⟩ (fun hHeld => ?_)
                    clear hK K
                    refine norm_ (a' := ?_) ?_ ?_
                    rotate_left
                    · show Act.put _ (some 76) _ = _
                      simp only [Act.put, List.setIfInBounds_toArray, List.set_cons_zero, List.set_cons_succ, i64_w, i32_w]
                      rfl
                    exact norm_ (by simp only [putAll, Act.put, List.setIfInBounds_toArray, List.set_cons_zero, List.set_cons_succ]) (hCont (v214, v217) _ ⟨hHeld, (by (with_reducible repeat (first | apply Kd.N_alloc | apply Kd.N_drewN | apply Kd.N_drew)); exact HO215.out), (by (with_reducible repeat (first | apply Kd.N_alloc | apply Kd.N_drewN | apply Kd.N_drew)); exact Kd.N_mono HO218.out (fun _ hk => ⟨hk.1.1, ⟨hk.2, ⟨hk.1.2.1, hk.1.2.2⟩⟩⟩)), (Up.up BK188.out), (Up.up BK201.out), (by repeat (first | (with_reducible first | exact HB.out | apply below_alloc | apply pw_below_drewN | apply below_drew1 | refine below_set ?_ GE188.out | refine below_set ?_ GE201.out) | exact HB.out))⟩)
                rintro ⟨v214, v217⟩ w65 ⟨hS_, h0_, h1_, h2_, h3_, h4_⟩
                have n0_ : Aside0 (Kd.N k45 45 w65 w.heap.size (fun k_ => (w.heap.size ≤ k_) ∧ some k_ ≠ (v217 : Value).ownBlock ∧ k_ ≠ gb188 ∧ k_ ≠ gb201) v214 t213) := ⟨h0_⟩
                have n1_ : Aside0 (Kd.N k45 45 w65 w.heap.size (fun k_ => (w.heap.size ≤ k_) ∧ some k_ ≠ (v214 : Value).ownBlock ∧ k_ ≠ gb188 ∧ k_ ≠ gb201) v217 y216) := ⟨h1_⟩
                have n2_ : Aside0 (w65.heap[gb188]? = some (.cells #[.slice none 0 0, .int .i64 0] 33 (0, 0))) := ⟨h2_⟩
                have n3_ : Aside0 (w65.heap[gb201]? = some (.cells #[.int .i64 a1, .int .i64 a2, .int .i64 (wrap64 (a2 - (ji27))), .int .i64 (-1), .int .i64 a4, .slice Ao56 y198.length co56] 45 (0, 0))) := ⟨h3_⟩
                have n4_ : Aside0 (Below w.heap.size w w65) := ⟨h4_⟩
                clear HO200
                clear BK188
                clear BK201
                clear HB
                clear h0_ h1_ h2_ h3_ h4_
                have HO215 := n0_
                have HO218 := n1_
                have BK188 := n2_
                have BK201 := n3_
                have HB := n4_
                clear n0_ n1_ n2_ n3_ n4_
                have hHeld : w65.cell? ⟨gb201, 0, none⟩ = some (.int .i64 a1) ∧ w65.cell? ⟨gb201, 1, none⟩ = some (.int .i64 a2) ∧ w65.cell? ⟨gb201, 2, none⟩ = some (.int .i64 (wrap64 (a2 - (ji27)))) ∧ w65.cell? ⟨gb201, 3, none⟩ = some (.int .i64 (-1)) ∧ w65.cell? ⟨gb201, 4, none⟩ = some (.int .i64 a4) ∧ w65.cell? ⟨gb201, 5, none⟩ = some (.slice Ao56 y198.length co56) := hS_
                obtain ⟨Ao67, co67, eo67⟩ := Kd.N_slice HO218.out
                (first | subst eo67 | (injection eo67 with f1_ f2_ f3_; have f4_ := f1_.symm; have f5_ := f3_.symm; clear f1_ f2_ f3_; subst f4_; subst f5_))
                refine norm_ (a' := ?_) ?_ ?_
                rotate_left
                · simp only [putAll, Act.put, List.setIfInBounds_toArray, List.set_cons_zero, List.set_cons_succ]
                  rfl
                refine one_ (i := 4) (N := some 79) #[true, true, true, true, true, true, true, true, false, false, false] rfl rfl (one_of HT_.out (by kernel_rfl)) (by decide) (fun K hK => ?_)
                refine Kd.N_append_rows_step k45 (w0 := w) w.heap.size (by rfl) (.tmp 76) (.tmp 78) 22 45 (.agg #[(.int .i64 0), (.int .i64 0), (.int .i64 0), (.int .i64 0), (.int .i64 0), (.slice none 0 0)]) 64 rfl Try.underlying22 info45 rfl (by decide) (by omega) v214 t213 y216 _ _ _ (fun k_ => (w.heap.size ≤ k_) ∧ k_ ≠ gb188 ∧ k_ ≠ gb201) (fun k_ => ((fun k_ => (w.heap.size ≤ k_) ∧ k_ ≠ gb188 ∧ k_ ≠ gb201)) k_ ∧ some k_ ≠ (v214 : Value).ownBlock) rfl rfl ?aO ?aR (fun _ hk => hk) ?aF ?aB ?aS ?aL ?_
                (case aR => exact (by skip; exact Kd.N_F (Kd.N_mono (ok' := (fun k_ => ((fun k_ => (w.heap.size ≤ k_) ∧ k_ ≠ gb188 ∧ k_ ≠ gb201)) k_ ∧ some k_ ≠ (v214 : Value).ownBlock)) (HO218.out) (fun k_ hk => ⟨⟨hk.1, ⟨hk.2.2.1, hk.2.2.2⟩⟩, hk.2.1⟩))))
                (case aB => exact (by repeat (first | (with_reducible first | exact HB.out | apply below_alloc | apply pw_below_drewN | apply below_drew1 | refine below_set ?_ GE188.out | refine below_set ?_ GE201.out) | exact HB.out)))
                (case aF => exact (fun k_ hk => ⟨(Nat.le_trans (below_size (by repeat (first | (with_reducible first | exact HB.out | apply below_alloc | apply pw_below_drewN | apply below_drew1 | refine below_set ?_ GE188.out | refine below_set ?_ GE201.out) | exact HB.out))) hk), Kd.freshB (g := gb188) (Up.up BK188.out) k_ hk, Kd.freshB (g := gb201) (Up.up BK201.out) k_ hk⟩))
                (case aO => exact (by (with_reducible repeat (first | apply Kd.N_alloc | apply Kd.N_drewN | apply Kd.N_drew)); exact Kd.N_mono HO215.out (fun _ hk => ⟨hk.1, ⟨hk.2.2.1, hk.2.2.2⟩⟩)))
                (case aS => exact (below_size (by repeat (first | (with_reducible first | exact HB.out | apply below_alloc | apply pw_below_drewN | apply below_drew1 | refine below_set ?_ GE188.out | refine below_set ?_ GE201.out) | exact HB.out))))
                (case aL => have := LMc52.out; omega)
                intro v220 w66 ho hb hg hat
                rw [← Ny219.out] at ho
                have n0_ := Aside0.mk (blk_grown (g := gb188) (Up.up BK188.out) hg (Kd.N_ne HO215.out BK188.out (by decide)))
                have n1_ := Aside0.mk (blk_grown (g := gb201) (Up.up BK201.out) hg (Kd.N_away HO215.out (fun _ hk => hk.2.2.2)))
                have n2_ := Aside0.mk (Kd.N_afterv (ok := (fun k_ => (w.heap.size ≤ k_) ∧ k_ ≠ gb188 ∧ k_ ≠ gb201)) (by (with_reducible repeat (first | apply Kd.N_alloc | apply Kd.N_drewN | apply Kd.N_drew)); exact Kd.N_mono HO218.out (fun _ hk => ⟨⟨hk.1, ⟨hk.2.2.1, hk.2.2.2⟩⟩, hk.2.1⟩)) hg hat)
                have n3_ := Aside0.mk (hb)
                have n4_ := Aside0.mk (ho)
                clear BK188
                clear BK201
                clear HO218
                clear HB
                clear HO215
                have BK188 := n0_
                have BK201 := n1_
                have HO218 := n2_
                have HB := n3_
                have HO221 := n4_
                clear n0_ n1_ n2_ n3_ n4_
                clear ho hb hg hat
                obtain ⟨Ao68, co68, eo68⟩ := Kd.N_slice HO221.out
                (first | subst eo68 | (injection eo68 with f1_ f2_ f3_; have f4_ := f1_.symm; have f5_ := f3_.symm; clear f1_ f2_ f3_; subst f4_; subst f5_))
                refine hK.out _ _ ⟨(blk_cell BK201.out 0).trans rfl, (blk_cell BK201.out 1).trans rfl, (blk_cell BK201.out 2).trans rfl, (blk_cell BK201.out 3).trans rfl, (blk_cell BK201.out 4).trans rfl, (blk_cell BK201.out 5).trans rfl⟩ (fun hHeld => ?_)
                clear hK K
                refine norm_ (a' := ?_) ?_ ?_
                rotate_left
                · show Act.put _ (some 79) _ = _
                  simp only [Act.put, List.setIfInBounds_toArray, List.set_cons_zero, List.set_cons_succ, i64_w, i32_w]
                  rfl
                refine pure_ (i := 8) (N := some 83) (v := ?_) (a' := ?_) #[true, true, true, true, true, true, true, true, true, false, false] rfl rfl (any_of HT_.out (by kernel_rfl)) (fun _ _ _ h => h) (Or.inl ⟨by rfl, ?_⟩) ?_ ?_
                rotate_left
                · intro w'
                  go_simp
                  with_reducible rfl
                rotate_left
                · simp only [Act.put, List.setIfInBounds_toArray, List.set_cons_zero, List.set_cons_succ, i64_w, i32_w]
                  rfl
                refine one_ (i := 9) (N := none) #[true, true, true, true, true, true, true, true, true, true, false] rfl rfl (one_of HT_.out (by kernel_rfl)) (by decide) (fun K hK => ?_)
                have hs69 : w66.cell? ⟨gb188, 0, none⟩ = some (.slice none 0 0) := (blk_cell BK188.out 0).trans rfl
                have hfs69 := blk_frozen BK188.out 0
                have hns69_1 := NB201_188.out
                have hms69_1 := NB188_201.out
                have hs70 : w66.cell? ⟨gb188, 1, none⟩ = some (.int .i64 0) := (blk_cell BK188.out 1).trans rfl
                have hfs70 := blk_frozen BK188.out 1
                have hns70_1 := NB201_188.out
                have hms70_1 := NB188_201.out
                refine skip_ (w1 := ?_) (by rfl) rfl ?_ ?_
                rotate_left
                · go_simp
                  rfl
                refine hK.out _ _ ⟨((cell_far (p := ⟨gb188, _, none⟩) NB201_188.out _).trans (((cell_far (p := ⟨gb188, _, none⟩) NB201_188.out _).trans (hHeld.1)))), ((cell_far (p := ⟨gb188, _, none⟩) NB201_188.out _).trans (((cell_far (p := ⟨gb188, _, none⟩) NB201_188.out _).trans (hHeld.2.1)))), ((cell_far (p := ⟨gb188, _, none⟩) NB201_188.out _).trans (((cell_far (p := ⟨gb188, _, none⟩) NB201_188.out _).trans (hHeld.2.2.1)))), ((cell_far (p := ⟨gb188, _, none⟩) NB201_188.out _).trans (((cell_far (p := ⟨gb188, _, none⟩) NB201_188.out _).trans (hHeld.2.2.2.1)))), ((cell_far (p := ⟨gb188, _, none⟩) NB201_188.out _).trans (((cell_far (p := ⟨gb188, _, none⟩) NB201_188.out _).trans (hHeld.2.2.2.2.1)))), ((cell_far (p := ⟨gb188, _, none⟩) NB201_188.out _).trans (((cell_far (p := ⟨gb188, _, none⟩) NB201_188.out _).trans (hHeld.2.2.2.2.2))))⟩ (fun hHeld => ?_)
                clear hK K
                refine pure_ (i := 10) (N := some 13) (v := ?_) (a' := ?_) #[true, true, true, true, true, true, true, true, true, true, true] rfl rfl (any_of HT_.out (by kernel_rfl)) (fun _ _ _ h => h) (Or.inl ⟨by rfl, ?_⟩) ?_ ?_
                rotate_left
                · intro w'
                  go_simp
                  with_reducible rfl
                rotate_left
                · simp only [Act.put, List.setIfInBounds_toArray, List.set_cons_zero, List.set_cons_succ, i64_w, i32_w]
                  rfl
                refine done_ (done_of HT_.out (by kernel_rfl)) ?_
                try go_wp2
                refine bodyPost_ret (results_ct rfl _ _ gb188 33 #[.slice Ao68 y219.length co68, .int .i64 (wrap64 (a3 - (ji27)))] (0, 0) _ rfl (by (with_reducible repeat (first | refine blk_drewN ?_ _ | refine blk_drew ?_ | refine blk_alloc ?_ _)); refine blk_put (cs := #[.slice Ao68 y219.length co68, .int .i64 0]) ?_ 1 _ rfl; (with_reducible repeat (first | refine blk_drewN ?_ _ | refine blk_drew ?_ | refine blk_alloc ?_ _)); refine blk_put (cs := #[.slice none 0 0, .int .i64 0]) ?_ 0 _ rfl; (with_reducible repeat (first | refine blk_drewN ?_ _ | refine blk_drew ?_ | refine blk_alloc ?_ _)); exact BK188.out) Try.underlying33 rfl (by kernel_rfl)) rfl ?_
                exact ⟨_, by first | rfl | (simp [errW_none, errW_some] <;> rfl) | (simp only [← hji27]; first | rfl | (simp [errW_none, errW_some] <;> rfl)) | (simp [*, errW_none, errW_some] <;> rfl), by (with_reducible repeat (first | apply Kd.N_alloc | apply Kd.N_drewN | apply Kd.N_drew)); exact Kd.N_mono (Kd.N_far (p := ⟨gb188, 1, none⟩) (Kd.N_far (p := ⟨gb188, 0, none⟩) (Kd.N_mono HO221.out (fun k_ hk => (⟨hk, hk.2.1⟩ : _ ∧ k_ ≠ gb188))) (fun _ hk => hk.2) (.slice Ao68 y219.length co68)) (fun _ hk => hk.2) (.int .i64 (wrap64 (a3 - (ji27))))) (fun _ hk => hk.1.1), by repeat (first | (with_reducible first | exact HB.out | apply below_alloc | apply pw_below_drewN | apply below_drew1 | refine below_set ?_ GE188.out | refine below_set ?_ GE201.out) | exact HB.out)⟩
              · rw [if_neg c52] at H
                exact absurd H (by simp)
          · rw [if_neg c28] at H
            exact absurd H (by simp)
  · replace c8 := Bool.eq_false_iff.mpr c8
    subst c8
    have H1 : (some (([] : List (S45)), 0, 11)) = some (r1, r2, r3) := by rw [if_neg (show ¬ (false = true) by decide)] at H; exact H
    clear H
    have H := H1
    clear H1
    simp only [Option.some.injEq, Prod.mk.injEq] at H
    obtain ⟨rfl, rfl, rfl⟩ := H
    go_enter Try.func12, Try.ntmps12
    go_wp2_with (first | ((with_reducible refine gate_dst (N := 12) rfl ?_); (try (refine gate_guard (by rfl) ?_; dsimp only)); refine box_event ?hg (N := 12) ?hd (cs := #[.slice none 0 0, .int .i64 0]) (t := 33) ?hr ?_; (case hd => rfl); (case hg => rfl); (case hr => first | (go_simp; done) | (go_simp; rfl)); intro gb188 hg w71 hbox hb; have n0_ := Aside0.mk (below_step (by repeat (first | (with_reducible first | exact HB.out | apply below_alloc | apply pw_below_drewN | apply below_drew1) | exact HB.out)) hb); have n1_ := Aside0.mk (hbox); have n2_ := Aside0.mk ((by rw [hg]; exact (below_size (by repeat (first | (with_reducible first | exact HB.out | apply below_alloc | apply pw_below_drewN | apply below_drew1) | exact HB.out))) : w.heap.size ≤ gb188)); have n3_ := Aside0.mk ((by rw [hg]; exact (below_size (by repeat (first | (with_reducible first | exact HB.out | apply below_alloc | apply pw_below_drewN | apply below_drew1) | exact HB.out))) : w.heap.size ≤ gb188)); clear HB; have HB := n0_; have BK188 := n1_; have GW188 := n2_; have GE188 := n3_; clear n0_ n1_ n2_ n3_; clear hb hbox hg) | ((with_reducible refine gate_callee (f := 16) rfl ?_); refine goesL_ (some 17) rfl rfl Try.func16 (by kernel_rfl) rfl #[.slice A0 l0.length c0] rfl (by (try simp only [List.map_toArray, List.map_cons, List.map_nil]); first | done | rfl | (simp only [List.length_drop, List.length_take]; rfl)) ?_; (with_reducible refine (annuityref19_Good.calls k _ _ l0 false _ ?side1 ?side2 A7.out).mono ?_); (case side1 => repeat (first | exact (Kd.C_below HR0.out HB.out) | (with_reducible refine Kd.C_alloc ?_ _) | (with_reducible refine Kd.C_drewN ?_ _) | (with_reducible refine Kd.C_drew ?_))); (case side2 => exact HC0.out); rintro e w72 ⟨rfl, hb⟩; refine ⟨_, rfl, ?_⟩; have n0_ := Aside0.mk (blk_below (g := gb188) (Up.up BK188.out) hb); have n1_ := Aside0.mk (below_step (by repeat (first | (with_reducible first | exact HB.out | apply below_alloc | apply pw_below_drewN | apply below_drew1 | refine below_set ?_ GE188.out) | exact HB.out)) hb); clear BK188; clear HB; have BK188 := n0_; have HB := n1_; clear n0_ n1_; (try clear hb); (try clear hb2); (try clear hk); (try clear hi); have hcz73_0 : w72.cell? ⟨gb188, 0, none⟩ = some (.slice none 0 0) := (blk_cell BK188.out 0).trans rfl; have hcz73_1 : w72.cell? ⟨gb188, 1, none⟩ = some (.int .i64 0) := (blk_cell BK188.out 1).trans rfl; have hfz73_0 := blk_frozen BK188.out 0; have hfz73_1 := blk_frozen BK188.out 1))
    refine bodyPost_ret (results_ct rfl _ _ gb188 33 #[.slice none 0 0, .int .i64 0] (0, 0) _ rfl (by (with_reducible repeat (first | refine blk_drewN ?_ _ | refine blk_drew ?_ | refine blk_alloc ?_ _)); refine blk_put (cs := #[.slice none 0 0, .int .i64 0]) ?_ 1 _ rfl; (with_reducible repeat (first | refine blk_drewN ?_ _ | refine blk_drew ?_ | refine blk_alloc ?_ _)); refine blk_put (cs := #[.slice none 0 0, .int .i64 0]) ?_ 0 _ rfl; (with_reducible repeat (first | refine blk_drewN ?_ _ | refine blk_drew ?_ | refine blk_alloc ?_ _)); exact BK188.out) Try.underlying33 rfl (by kernel_rfl)) rfl ?_
    exact ⟨_, by first | rfl | (simp [errW_none, errW_some] <;> rfl) | (simp [*, errW_none, errW_some] <;> rfl), by first | exact Kd.S_nil _ _ _ _ _ | exact Kd.N_nil _ _ _ _ _ | exact Kd.V_nil _ _ _ _ _ | exact Kd.Q_nil _ _ _ _ _ | exact Kd.R_nil _ _ _ _ _, by repeat (first | (with_reducible first | exact HB.out | apply below_alloc | apply pw_below_drewN | apply below_drew1 | refine below_set ?_ GE188.out) | exact HB.out)⟩

end Go.Proofs.Ytibjbgfphhmogaa.P
