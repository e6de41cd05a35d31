/- annuityref19.Good: whether bills are good, in the reference's eyes: walked by hand. -/
import Derived.Test.YtibjbgfphhmogaaPx7
import Derived.BigQuiet
namespace Go.Proofs.Ytibjbgfphhmogaa.P
open Go.RowKit Go.Proofs.YtibjbgfphhmogaaW.PrintWords Go.Proofs.YtibjbgfphhmogaaW.PrintLast Go.Proofs.YtibjbgfphhmogaaW.PrintMore
attribute [local go_sem] max2_int min2_int max_two min_two max_three min_three max_four min_four   -- for this text's walks alone
set_option linter.unusedVariables false
set_option linter.unusedSimpArgs false
/-- Is a bill good (its fields, the month ahead of it)? -/
def rgOk (j : Nat) (y0 x0 x1 x2 x3 : Int) : Prop := 0 ≤ x0 ∧ x0 ≤ 2879 ∧ (j = 0 ∨ y0 < x0) ∧ 0 ≤ x1 ∧ x1 ≤ 10000000000000 ∧ 0 ≤ x2 ∧ x2 ≤ x1 ∧ (x2 = 0 → 0 ≤ x3 ∧ x3 ≤ 87658) ∧ (0 < x2 → x3 = -1)
instance (j : Nat) (y0 x0 x1 x2 x3 : Int) : Decidable (rgOk j y0 x0 x1 x2 x3) := by unfold rgOk; infer_instance
def rgAt (l : List S45) (j : Nat) : Bool := decide (rgOk j (rd_T45 l ((j : Int) - 1)).f0 (rd_T45 l j).f0 (rd_T45 l j).f1 (rd_T45 l j).f2 (rd_T45 l j).f3)
def rgFrom (l : List S45) : Nat → Nat → Bool
  | 0, _ => decide ((l.length : Int) ≤ 2880)
  | d + 1, j => rgAt l j && rgFrom l d (j + 1)
theorem rmoney_is (a : Int) : annuityref19_money.f a = some (decide (0 ≤ a ∧ a ≤ 10000000000000)) := by
  unfold annuityref19_money.f annuityref01_Good.f
  by_cases c : a ≥ 0
  · rw [if_pos c, if_pos (by omega)]; simp only [Option.bind_some]; congr 1; rw [decide_eq_decide]; omega
  · rw [if_neg c, decide_eq_false (fun h => c h.1)]
theorem rday_is (a : Int) : annuityref04_Good.f a = some (decide (0 ≤ a ∧ a ≤ 87658)) := by
  unfold annuityref04_Good.f
  by_cases c : a ≥ 0
  · rw [if_pos c]; congr 1; rw [decide_eq_decide]; omega
  · rw [if_neg c, decide_eq_false (fun h => c h.1)]
def annuityref19_Good.f (k : Nat) (l0 : List S45) : Option Bool := if l0.length ≤ 4000 then some (rgFrom l0 l0.length 0) else none
theorem annuityref19_Good.mono : ∀ l0 k, LeO (annuityref19_Good.f k l0) (annuityref19_Good.f (k + 1) l0) := fun _ _ => LeO.refl _
set_option maxHeartbeats 8000000 in
set_option maxRecDepth 100000 in
theorem annuityref19_Good.calls (k : Nat) (A0 : Option Addr) (c0 : Nat) (l0 : List S45) (r : Bool) (w : World) (hr0 : Kd.C k45 w A0 l0.length l0) (hc0 : l0.length ≤ c0) (h : annuityref19_Good.f k l0 = some r) :
    Calls Try.prog 16 #[.slice A0 l0.length c0] w fun e w' => e = .returned (.bool r) ∧ Below w.heap.size w w' := by
  by_cases c : l0.length ≤ 4000
  case neg => rw [annuityref19_Good.f, if_neg c] at h; cases h
  rw [annuityref19_Good.f, if_pos c] at h
  have hr := Option.some.inj h
  have hu45 := Try.underlying45
  have HR0 := Aside0.mk hr0
  have HB := Aside0.mk (Below.refl w.heap.size w)
  obtain ⟨n, hn⟩ : ∃ n, l0.length = n := ⟨_, rfl⟩
  rw [hn] at HR0 hr c ⊢
  have HN := Aside0.mk hn
  have HH := Aside0.mk hr
  clear h hr0 hc0 hn hr
  go_enter Try.func16, Try.ntmps16
  go_wp2
  go_loopg [3] n (fun kq v3 wr => ∃ (j : Nat), v3 = .int .i64 j ∧ j ≤ n ∧ n - j ≤ kq ∧ Aside0 (rgFrom l0 (n - j) j = r) ∧ Aside0 (Below w.heap.size w wr))
  case atStart => exact ⟨0, rfl, by omega, by omega, ⟨by rw [Nat.sub_zero]; exact HH.out⟩, ⟨(by repeat (first | (with_reducible first | exact HB.out | apply below_alloc | apply pw_below_drewN | apply below_drew1) | exact HB.out))⟩⟩
  case round =>
    clear HB HH
    obtain ⟨j, rfl, hjn, hkx, HH, HB⟩ := hrel
    by_cases hlt : j < n
    case neg =>
      have hltz : ¬ (j : Int) < (n : Int) := by omega
      have h0 := HH.out
      rw [show n - j = 0 by omega, rgFrom, HN.out] at h0
      subst h0
      go_wp2
      go_ret
      exact ⟨by first | rfl | (simp; done), (by repeat (first | (with_reducible first | exact HB.out | apply below_alloc | apply pw_below_drewN | apply below_drew1) | exact HB.out))⟩
    case pos =>
      have hltz : (j : Int) < (n : Int) := by omega
      have hltn : (0 : Int) ≤ (j : Int) := by omega
      have h0 := HH.out
      rw [show n - j = (n - j - 1) + 1 by omega, rgFrom] at h0
      obtain ⟨ad, A5, c5, ea, hx0, hx1, hx2, hx3, hx4, hx5, hl5, hi5⟩ := at_T45 (Kd.C_below HR0.out HB.out) j (by omega) (by omega)
      cases ea
      simp only [Int.toNat_natCast] at hx0 hx1 hx2 hx3 hx4 hx5
      obtain ⟨x, hxx⟩ : ∃ x, x = rd_T45 l0 j := ⟨_, rfl⟩
      obtain ⟨y0, hy⟩ : ∃ y, y = (rd_T45 l0 ((j : Int) - 1)).f0 := ⟨_, rfl⟩
      have HY := Aside0.mk hy
      have hX : rgAt l0 j = decide (rgOk j y0 x.f0 x.f1 x.f2 x.f3) := by rw [hxx, hy]; rfl
      rw [← hxx] at hx0 hx1 hx2 hx3 hx4 hx5
      obtain ⟨x0, x1, x2, x3, x4, x5⟩ := x
      dsimp only at hx0 hx1 hx2 hx3 hx4 hx5 hX
      have HX := Aside0.mk hX
      have HBR := HB
      clear hxx hy hX hl5 hi5 HH
      go_upto_region 5 with (first | ((with_reducible refine gate_dst (N := 4) rfl ?_); refine box_event ?hg (N := 4) ?hd (cs := #[.int .i64 0, .int .i64 0, .int .i64 0, .int .i64 0, .int .i64 0, .slice none 0 0]) (t := 45) ?hr ?_; (case hd => rfl); (case hg => rfl); (case hr => first | (go_simp; done) | (go_simp; rfl)); intro gb hgq w7 hbox hb; have n0_ := Aside0.mk (below_step (by repeat (first | (with_reducible first | exact HB.out | apply below_alloc | apply pw_below_drewN | apply below_drew1) | exact HB.out)) hb); have n3_ := Aside0.mk ((by rw [hgq]; exact (below_size (by repeat (first | (with_reducible first | exact HB.out | apply below_alloc | apply pw_below_drewN | apply below_drew1) | exact HB.out))) : w.heap.size ≤ gb)); clear HB; have HB := n0_; have BK := Aside0.mk hbox; have GE := n3_; clear n0_ n3_; have hE := hb; have hle : wr.heap.size ≤ gb := Nat.le_of_eq hgq.symm; clear hbox hgq; have hcz_0 : w7.cell? ⟨gb, 0, none⟩ = some (.int .i64 0) := (blk_cell BK.out 0).trans rfl; have hcz_1 : w7.cell? ⟨gb, 1, none⟩ = some (.int .i64 0) := (blk_cell BK.out 1).trans rfl; have hcz_2 : w7.cell? ⟨gb, 2, none⟩ = some (.int .i64 0) := (blk_cell BK.out 2).trans rfl; have hcz_3 : w7.cell? ⟨gb, 3, none⟩ = some (.int .i64 0) := (blk_cell BK.out 3).trans rfl; have hcz_4 : w7.cell? ⟨gb, 4, none⟩ = some (.int .i64 0) := (blk_cell BK.out 4).trans rfl; have hcz_5 : w7.cell? ⟨gb, 5, none⟩ = some (.slice none 0 0) := (blk_cell BK.out 5).trans rfl; have hfz_0 := blk_frozen BK.out 0; have hfz_1 := blk_frozen BK.out 1; have hfz_2 := blk_frozen BK.out 2; have hfz_3 := blk_frozen BK.out 3; have hfz_4 := blk_frozen BK.out 4; have hfz_5 := blk_frozen BK.out 5))
      have BK1 : Aside0 (((((((w7.setCell ⟨gb, 0, none⟩ (.int .i64 x0)).setCell ⟨gb, 1, none⟩ (.int .i64 x1)).setCell ⟨gb, 2, none⟩ (.int .i64 x2)).setCell ⟨gb, 3, none⟩ (.int .i64 x3)).setCell ⟨gb, 4, none⟩ (.int .i64 x4)).setCell ⟨gb, 5, none⟩ (.slice A5 x5.length c5)).heap[gb]? = some (.cells #[.int .i64 x0, .int .i64 x1, .int .i64 x2, .int .i64 x3, .int .i64 x4, .slice A5 x5.length c5] 45 (0, 0))) := ⟨by refine blk_put (cs := #[.int .i64 x0, .int .i64 x1, .int .i64 x2, .int .i64 x3, .int .i64 x4, .slice none 0 0]) ?_ 5 _ rfl; refine blk_put (cs := #[.int .i64 x0, .int .i64 x1, .int .i64 x2, .int .i64 x3, .int .i64 0, .slice none 0 0]) ?_ 4 _ rfl; refine blk_put (cs := #[.int .i64 x0, .int .i64 x1, .int .i64 x2, .int .i64 0, .int .i64 0, .slice none 0 0]) ?_ 3 _ rfl; refine blk_put (cs := #[.int .i64 x0, .int .i64 x1, .int .i64 0, .int .i64 0, .int .i64 0, .slice none 0 0]) ?_ 2 _ rfl; refine blk_put (cs := #[.int .i64 x0, .int .i64 0, .int .i64 0, .int .i64 0, .int .i64 0, .slice none 0 0]) ?_ 1 _ rfl; refine blk_put (cs := #[.int .i64 0, .int .i64 0, .int .i64 0, .int .i64 0, .int .i64 0, .slice none 0 0]) ?_ 0 _ rfl; exact BK.out⟩
      have nB_ : Aside0 (Below w.heap.size w ((((((w7.setCell ⟨gb, 0, none⟩ (.int .i64 x0)).setCell ⟨gb, 1, none⟩ (.int .i64 x1)).setCell ⟨gb, 2, none⟩ (.int .i64 x2)).setCell ⟨gb, 3, none⟩ (.int .i64 x3)).setCell ⟨gb, 4, none⟩ (.int .i64 x4)).setCell ⟨gb, 5, none⟩ (.slice A5 x5.length c5))) := ⟨by repeat (first | (with_reducible exact HB.out) | refine below_set ?_ GE.out)⟩
      have hE1 : Below wr.heap.size wr ((((((w7.setCell ⟨gb, 0, none⟩ (.int .i64 x0)).setCell ⟨gb, 1, none⟩ (.int .i64 x1)).setCell ⟨gb, 2, none⟩ (.int .i64 x2)).setCell ⟨gb, 3, none⟩ (.int .i64 x3)).setCell ⟨gb, 4, none⟩ (.int .i64 x4)).setCell ⟨gb, 5, none⟩ (.slice A5 x5.length c5)) := by repeat (first | (with_reducible exact hE) | refine below_set ?_ hle)
      obtain ⟨W1, hW1⟩ : ∃ W1, W1 = ((((((w7.setCell ⟨gb, 0, none⟩ (.int .i64 x0)).setCell ⟨gb, 1, none⟩ (.int .i64 x1)).setCell ⟨gb, 2, none⟩ (.int .i64 x2)).setCell ⟨gb, 3, none⟩ (.int .i64 x3)).setCell ⟨gb, 4, none⟩ (.int .i64 x4)).setCell ⟨gb, 5, none⟩ (.slice A5 x5.length c5)) := ⟨_, rfl⟩
      rw [← hW1] at BK1 nB_ hE1
      rw [← hW1]
      clear hW1 HB BK GE hE hle hcz_0 hcz_1 hcz_2 hcz_3 hcz_4 hcz_5 hfz_0 hfz_1 hfz_2 hfz_3 hfz_4 hfz_5 hx0 hx1 hx2 hx3 hx4 hx5
      have HB := nB_
      clear nB_
      have hb_0 : W1.cell? ⟨gb, 0, none⟩ = some (.int .i64 x0) := (blk_cell BK1.out 0).trans rfl
      have hb_1 : W1.cell? ⟨gb, 1, none⟩ = some (.int .i64 x1) := (blk_cell BK1.out 1).trans rfl
      have hb_2 : W1.cell? ⟨gb, 2, none⟩ = some (.int .i64 x2) := (blk_cell BK1.out 2).trans rfl
      have hb_3 : W1.cell? ⟨gb, 3, none⟩ = some (.int .i64 x3) := (blk_cell BK1.out 3).trans rfl
      have hb_4 : W1.cell? ⟨gb, 4, none⟩ = some (.int .i64 x4) := (blk_cell BK1.out 4).trans rfl
      have hb_5 : W1.cell? ⟨gb, 5, none⟩ = some (.slice A5 x5.length c5) := (blk_cell BK1.out 5).trans rfl
      by_cases ca : x0 < 0
      case pos =>
        have da_0 : decide (x0 < 0) = true := decide_eq_true (by omega)
        have HM := HB
        have HD := HB
        have hbad : rgAt l0 j = false := by rw [HX.out]; exact decide_eq_false (fun h => by unfold rgOk at h; omega)
        rw [hbad, Bool.false_and] at h0
        subst h0
        clear hbad HX
        repeat (go_quiet (first | (go_at_call 32; refine Calls.quiet_of ((annuityref19_money.calls x1 _ _ HM.out).mono (fun e w' ⟨h1, h2⟩ => ⟨h1, h2.out⟩))) | (go_at_call 35; refine Calls.quiet_of ((annuityref04_Good.calls x3 _ _ HD.out).mono (fun e w' ⟨h1, h2⟩ => ⟨h1, h2.out⟩)))); try go_wp2_with (first | (go_at_call 35; refine (annuityref04_Good.calls x3 _ _ HD.out).mono ?_; rintro e w' ⟨rfl, ⟨nd, rfl⟩⟩)))
        go_ret
        exact ⟨by first | rfl | (simp; done), (by repeat (first | (with_reducible first | exact HB.out | apply below_alloc | apply pw_below_drewN | apply below_drew1 | exact HB.out) | exact HB.out))⟩
      have da_0 : decide (x0 < 0) = false := decide_eq_false (by omega)
      by_cases cb : 2879 < x0
      case pos =>
        have db_0 : decide (2879 < x0) = true := decide_eq_true (by omega)
        have HM := HB
        have HD := HB
        have hbad : rgAt l0 j = false := by rw [HX.out]; exact decide_eq_false (fun h => by unfold rgOk at h; omega)
        rw [hbad, Bool.false_and] at h0
        subst h0
        clear hbad HX
        repeat (go_quiet (first | (go_at_call 32; refine Calls.quiet_of ((annuityref19_money.calls x1 _ _ HM.out).mono (fun e w' ⟨h1, h2⟩ => ⟨h1, h2.out⟩))) | (go_at_call 35; refine Calls.quiet_of ((annuityref04_Good.calls x3 _ _ HD.out).mono (fun e w' ⟨h1, h2⟩ => ⟨h1, h2.out⟩)))); try go_wp2_with (first | (go_at_call 35; refine (annuityref04_Good.calls x3 _ _ HD.out).mono ?_; rintro e w' ⟨rfl, ⟨nd, rfl⟩⟩)))
        go_ret
        exact ⟨by first | rfl | (simp; done), (by repeat (first | (with_reducible first | exact HB.out | apply below_alloc | apply pw_below_drewN | apply below_drew1 | exact HB.out) | exact HB.out))⟩
      have db_0 : decide (2879 < x0) = false := decide_eq_false (by omega)
      by_cases c0 : j = 0
      case pos =>
        have d0 : decide (0 < (j : Int)) = false := decide_eq_false (by omega)
        by_cases cm : 0 ≤ x1 ∧ x1 ≤ 10000000000000
        case neg =>
          have HM : Aside0 (annuityref19_money.f x1 = some false) := ⟨by rw [rmoney_is]; congr 1; exact decide_eq_false (by omega)⟩
          have HD := HM
          have hbad : rgAt l0 j = false := by rw [HX.out]; exact decide_eq_false (fun h => by unfold rgOk at h; omega)
          rw [hbad, Bool.false_and] at h0
          subst h0
          clear hbad HX
          repeat (go_quiet (first | (go_at_call 32; refine Calls.quiet_of ((annuityref19_money.calls x1 _ _ HM.out).mono (fun e w' ⟨h1, h2⟩ => ⟨h1, h2.out⟩))) | (go_at_call 35; refine Calls.quiet_of ((annuityref04_Good.calls x3 _ _ HD.out).mono (fun e w' ⟨h1, h2⟩ => ⟨h1, h2.out⟩)))); try go_wp2_with (first | (go_at_call 35; refine (annuityref04_Good.calls x3 _ _ HD.out).mono ?_; rintro e w' ⟨rfl, ⟨nd, rfl⟩⟩)))
          go_ret
          exact ⟨by first | rfl | (simp; done), (by repeat (first | (with_reducible first | exact HB.out | apply below_alloc | apply pw_below_drewN | apply below_drew1 | exact HB.out) | exact HB.out))⟩
        have HM : Aside0 (annuityref19_money.f x1 = some true) := ⟨by rw [rmoney_is]; congr 1; exact decide_eq_true (by omega)⟩
        by_cases ce : x2 < 0
        case pos =>
          have de_0 : decide (x2 < 0) = true := decide_eq_true (by omega)
          have HD := HM
          have hbad : rgAt l0 j = false := by rw [HX.out]; exact decide_eq_false (fun h => by unfold rgOk at h; omega)
          rw [hbad, Bool.false_and] at h0
          subst h0
          clear hbad HX
          repeat (go_quiet (first | (go_at_call 32; refine Calls.quiet_of ((annuityref19_money.calls x1 _ _ HM.out).mono (fun e w' ⟨h1, h2⟩ => ⟨h1, h2.out⟩))) | (go_at_call 35; refine Calls.quiet_of ((annuityref04_Good.calls x3 _ _ HD.out).mono (fun e w' ⟨h1, h2⟩ => ⟨h1, h2.out⟩)))); try go_wp2_with (first | (go_at_call 35; refine (annuityref04_Good.calls x3 _ _ HD.out).mono ?_; rintro e w' ⟨rfl, ⟨nd, rfl⟩⟩)))
          go_ret
          exact ⟨by first | rfl | (simp; done), (by repeat (first | (with_reducible first | exact HB.out | apply below_alloc | apply pw_below_drewN | apply below_drew1 | exact HB.out) | exact HB.out))⟩
        have de_0 : decide (x2 < 0) = false := decide_eq_false (by omega)
        by_cases cf : x1 < x2
        case pos =>
          have df_0 : decide (x1 < x2) = true := decide_eq_true (by omega)
          have HD := HM
          have hbad : rgAt l0 j = false := by rw [HX.out]; exact decide_eq_false (fun h => by unfold rgOk at h; omega)
          rw [hbad, Bool.false_and] at h0
          subst h0
          clear hbad HX
          repeat (go_quiet (first | (go_at_call 32; refine Calls.quiet_of ((annuityref19_money.calls x1 _ _ HM.out).mono (fun e w' ⟨h1, h2⟩ => ⟨h1, h2.out⟩))) | (go_at_call 35; refine Calls.quiet_of ((annuityref04_Good.calls x3 _ _ HD.out).mono (fun e w' ⟨h1, h2⟩ => ⟨h1, h2.out⟩)))); try go_wp2_with (first | (go_at_call 35; refine (annuityref04_Good.calls x3 _ _ HD.out).mono ?_; rintro e w' ⟨rfl, ⟨nd, rfl⟩⟩)))
          go_ret
          exact ⟨by first | rfl | (simp; done), (by repeat (first | (with_reducible first | exact HB.out | apply below_alloc | apply pw_below_drewN | apply below_drew1 | exact HB.out) | exact HB.out))⟩
        have df_0 : decide (x1 < x2) = false := decide_eq_false (by omega)
        by_cases cg : x2 = 0
        case pos =>
          have dg : (x2 == 0) = true := beq_iff_eq.mpr cg
          have dg2 : decide (0 < x2) = false := decide_eq_false (by omega)
          by_cases ch : 0 ≤ x3 ∧ x3 ≤ 87658
          case neg =>
            have HD : Aside0 (annuityref04_Good.f x3 = some false) := ⟨by rw [rday_is]; congr 1; exact decide_eq_false (by omega)⟩
            have hbad : rgAt l0 j = false := by rw [HX.out]; exact decide_eq_false (fun h => by unfold rgOk at h; omega)
            rw [hbad, Bool.false_and] at h0
            subst h0
            clear hbad HX
            repeat (go_quiet (first | (go_at_call 32; refine Calls.quiet_of ((annuityref19_money.calls x1 _ _ HM.out).mono (fun e w' ⟨h1, h2⟩ => ⟨h1, h2.out⟩))) | (go_at_call 35; refine Calls.quiet_of ((annuityref04_Good.calls x3 _ _ HD.out).mono (fun e w' ⟨h1, h2⟩ => ⟨h1, h2.out⟩)))); try go_wp2_with (first | (go_at_call 35; refine (annuityref04_Good.calls x3 _ _ HD.out).mono ?_; rintro e w' ⟨rfl, ⟨nd, rfl⟩⟩)))
            go_ret
            exact ⟨by first | rfl | (simp; done), (by repeat (first | (with_reducible first | exact HB.out | apply below_alloc | apply pw_below_drewN | apply below_drew1 | exact HB.out) | exact HB.out))⟩
          have HD : Aside0 (annuityref04_Good.f x3 = some true) := ⟨by rw [rday_is]; congr 1; exact decide_eq_true (by omega)⟩
          have hok : rgAt l0 j = true := by rw [HX.out]; exact decide_eq_true (by unfold rgOk; omega)
          rw [hok, Bool.true_and] at h0
          have HNX := Aside0.mk h0
          clear hok HX h0
          repeat (go_quiet (first | (go_at_call 32; refine Calls.quiet_of ((annuityref19_money.calls x1 _ _ HM.out).mono (fun e w' ⟨h1, h2⟩ => ⟨h1, h2.out⟩))) | (go_at_call 35; refine Calls.quiet_of ((annuityref04_Good.calls x3 _ _ HD.out).mono (fun e w' ⟨h1, h2⟩ => ⟨h1, h2.out⟩)))); try go_wp2_with (first | (go_at_call 35; refine (annuityref04_Good.calls x3 _ _ HD.out).mono ?_; rintro e w' ⟨rfl, ⟨nd, rfl⟩⟩)))
          go_roundg (n - (j + 1))
          case measure => omega
          case rel => exact ⟨j + 1, by first | rfl | go_num, by omega, Nat.le_refl _, ⟨by rw [show n - (j + 1) = n - j - 1 by omega]; exact HNX.out⟩, ⟨(by repeat (first | (with_reducible first | exact HB.out | apply below_alloc | apply pw_below_drewN | apply below_drew1 | exact HB.out) | exact HB.out))⟩⟩
        have dg : (x2 == 0) = false := beq_eq_false_iff_ne.mpr cg
        have dg2 : decide (0 < x2) = true := decide_eq_true (by omega)
        have HD := HM
        by_cases ci : x3 = -1
        case neg =>
          have di : (x3 != -1) = true := bne_iff_ne.mpr ci
          have hbad : rgAt l0 j = false := by rw [HX.out]; exact decide_eq_false (fun h => by unfold rgOk at h; omega)
          rw [hbad, Bool.false_and] at h0
          subst h0
          clear hbad HX
          repeat (go_quiet (first | (go_at_call 32; refine Calls.quiet_of ((annuityref19_money.calls x1 _ _ HM.out).mono (fun e w' ⟨h1, h2⟩ => ⟨h1, h2.out⟩))) | (go_at_call 35; refine Calls.quiet_of ((annuityref04_Good.calls x3 _ _ HD.out).mono (fun e w' ⟨h1, h2⟩ => ⟨h1, h2.out⟩)))); try go_wp2_with (first | (go_at_call 35; refine (annuityref04_Good.calls x3 _ _ HD.out).mono ?_; rintro e w' ⟨rfl, ⟨nd, rfl⟩⟩)))
          go_ret
          exact ⟨by first | rfl | (simp; done), (by repeat (first | (with_reducible first | exact HB.out | apply below_alloc | apply pw_below_drewN | apply below_drew1 | exact HB.out) | exact HB.out))⟩
        have di : (x3 != -1) = false := bne_eq_false_iff_eq.mpr ci
        have hok : rgAt l0 j = true := by rw [HX.out]; exact decide_eq_true (by unfold rgOk; omega)
        rw [hok, Bool.true_and] at h0
        have HNX := Aside0.mk h0
        clear hok HX h0
        repeat (go_quiet (first | (go_at_call 32; refine Calls.quiet_of ((annuityref19_money.calls x1 _ _ HM.out).mono (fun e w' ⟨h1, h2⟩ => ⟨h1, h2.out⟩))) | (go_at_call 35; refine Calls.quiet_of ((annuityref04_Good.calls x3 _ _ HD.out).mono (fun e w' ⟨h1, h2⟩ => ⟨h1, h2.out⟩)))); try go_wp2_with (first | (go_at_call 35; refine (annuityref04_Good.calls x3 _ _ HD.out).mono ?_; rintro e w' ⟨rfl, ⟨nd, rfl⟩⟩)))
        go_roundg (n - (j + 1))
        case measure => omega
        case rel => exact ⟨j + 1, by first | rfl | go_num, by omega, Nat.le_refl _, ⟨by rw [show n - (j + 1) = n - j - 1 by omega]; exact HNX.out⟩, ⟨(by repeat (first | (with_reducible first | exact HB.out | apply below_alloc | apply pw_below_drewN | apply below_drew1 | exact HB.out) | exact HB.out))⟩⟩
      have d0 : decide (0 < (j : Int)) = true := decide_eq_true (by omega)
      have d0n : decide (0 < j) = true := decide_eq_true (by omega)
      obtain ⟨adp, A5p, c5p, eap, hy0, _, _, _, _, _, _, _⟩ := at_T45 (Kd.C_below HR0.out HBR.out) ((j : Int) - 1) (by omega) (by omega)
      obtain rfl : ad = adp := by injection eap
      rw [← HY.out] at hy0
      replace hy0 := (hE1.cell (World.block_lt_of_cell? wr _ hy0)).trans hy0
      obtain ⟨pq, hpq⟩ : ∃ pq : Nat, (j : Int) - 1 = (pq : Int) := ⟨j - 1, by omega⟩
      have hpz : wrap64 ((j : Int) - 1) = (pq : Int) := by unfold wrap64; omega
      have pp1 : (0 : Int) ≤ (pq : Int) := by omega
      have pp2 : (pq : Int) < (n : Int) := by omega
      rw [hpq] at hy0
      simp only [Int.toNat_natCast] at hy0
      clear eap
      by_cases cc : x0 ≤ y0
      case pos =>
        have dc_0 : decide (x0 ≤ y0) = true := decide_eq_true (by omega)
        have HM := HB
        have HD := HB
        have hbad : rgAt l0 j = false := by rw [HX.out]; exact decide_eq_false (fun h => by unfold rgOk at h; omega)
        rw [hbad, Bool.false_and] at h0
        subst h0
        clear hbad HX
        repeat (go_quiet (first | (go_at_call 32; refine Calls.quiet_of ((annuityref19_money.calls x1 _ _ HM.out).mono (fun e w' ⟨h1, h2⟩ => ⟨h1, h2.out⟩))) | (go_at_call 35; refine Calls.quiet_of ((annuityref04_Good.calls x3 _ _ HD.out).mono (fun e w' ⟨h1, h2⟩ => ⟨h1, h2.out⟩)))); try go_wp2_with (first | (go_at_call 35; refine (annuityref04_Good.calls x3 _ _ HD.out).mono ?_; rintro e w' ⟨rfl, ⟨nd, rfl⟩⟩)))
        go_ret
        exact ⟨by first | rfl | (simp; done), (by repeat (first | (with_reducible first | exact HB.out | apply below_alloc | apply pw_below_drewN | apply below_drew1 | exact HB.out) | exact HB.out))⟩
      have dc_0 : decide (x0 ≤ y0) = false := decide_eq_false (by omega)
      by_cases cm : 0 ≤ x1 ∧ x1 ≤ 10000000000000
      case neg =>
        have HM : Aside0 (annuityref19_money.f x1 = some false) := ⟨by rw [rmoney_is]; congr 1; exact decide_eq_false (by omega)⟩
        have HD := HM
        have hbad : rgAt l0 j = false := by rw [HX.out]; exact decide_eq_false (fun h => by unfold rgOk at h; omega)
        rw [hbad, Bool.false_and] at h0
        subst h0
        clear hbad HX
        repeat (go_quiet (first | (go_at_call 32; refine Calls.quiet_of ((annuityref19_money.calls x1 _ _ HM.out).mono (fun e w' ⟨h1, h2⟩ => ⟨h1, h2.out⟩))) | (go_at_call 35; refine Calls.quiet_of ((annuityref04_Good.calls x3 _ _ HD.out).mono (fun e w' ⟨h1, h2⟩ => ⟨h1, h2.out⟩)))); try go_wp2_with (first | (go_at_call 35; refine (annuityref04_Good.calls x3 _ _ HD.out).mono ?_; rintro e w' ⟨rfl, ⟨nd, rfl⟩⟩)))
        go_ret
        exact ⟨by first | rfl | (simp; done), (by repeat (first | (with_reducible first | exact HB.out | apply below_alloc | apply pw_below_drewN | apply below_drew1 | exact HB.out) | exact HB.out))⟩
      have HM : Aside0 (annuityref19_money.f x1 = some true) := ⟨by rw [rmoney_is]; congr 1; exact decide_eq_true (by omega)⟩
      by_cases ce : x2 < 0
      case pos =>
        have de_0 : decide (x2 < 0) = true := decide_eq_true (by omega)
        have HD := HM
        have hbad : rgAt l0 j = false := by rw [HX.out]; exact decide_eq_false (fun h => by unfold rgOk at h; omega)
        rw [hbad, Bool.false_and] at h0
        subst h0
        clear hbad HX
        repeat (go_quiet (first | (go_at_call 32; refine Calls.quiet_of ((annuityref19_money.calls x1 _ _ HM.out).mono (fun e w' ⟨h1, h2⟩ => ⟨h1, h2.out⟩))) | (go_at_call 35; refine Calls.quiet_of ((annuityref04_Good.calls x3 _ _ HD.out).mono (fun e w' ⟨h1, h2⟩ => ⟨h1, h2.out⟩)))); try go_wp2_with (first | (go_at_call 35; refine (annuityref04_Good.calls x3 _ _ HD.out).mono ?_; rintro e w' ⟨rfl, ⟨nd, rfl⟩⟩)))
        go_ret
        exact ⟨by first | rfl | (simp; done), (by repeat (first | (with_reducible first | exact HB.out | apply below_alloc | apply pw_below_drewN | apply below_drew1 | exact HB.out) | exact HB.out))⟩
      have de_0 : decide (x2 < 0) = false := decide_eq_false (by omega)
      by_cases cf : x1 < x2
      case pos =>
        have df_0 : decide (x1 < x2) = true := decide_eq_true (by omega)
        have HD := HM
        have hbad : rgAt l0 j = false := by rw [HX.out]; exact decide_eq_false (fun h => by unfold rgOk at h; omega)
        rw [hbad, Bool.false_and] at h0
        subst h0
        clear hbad HX
        repeat (go_quiet (first | (go_at_call 32; refine Calls.quiet_of ((annuityref19_money.calls x1 _ _ HM.out).mono (fun e w' ⟨h1, h2⟩ => ⟨h1, h2.out⟩))) | (go_at_call 35; refine Calls.quiet_of ((annuityref04_Good.calls x3 _ _ HD.out).mono (fun e w' ⟨h1, h2⟩ => ⟨h1, h2.out⟩)))); try go_wp2_with (first | (go_at_call 35; refine (annuityref04_Good.calls x3 _ _ HD.out).mono ?_; rintro e w' ⟨rfl, ⟨nd, rfl⟩⟩)))
        go_ret
        exact ⟨by first | rfl | (simp; done), (by repeat (first | (with_reducible first | exact HB.out | apply below_alloc | apply pw_below_drewN | apply below_drew1 | exact HB.out) | exact HB.out))⟩
      have df_0 : decide (x1 < x2) = false := decide_eq_false (by omega)
      by_cases cg : x2 = 0
      case pos =>
        have dg : (x2 == 0) = true := beq_iff_eq.mpr cg
        have dg2 : decide (0 < x2) = false := decide_eq_false (by omega)
        by_cases ch : 0 ≤ x3 ∧ x3 ≤ 87658
        case neg =>
          have HD : Aside0 (annuityref04_Good.f x3 = some false) := ⟨by rw [rday_is]; congr 1; exact decide_eq_false (by omega)⟩
          have hbad : rgAt l0 j = false := by rw [HX.out]; exact decide_eq_false (fun h => by unfold rgOk at h; omega)
          rw [hbad, Bool.false_and] at h0
          subst h0
          clear hbad HX
          repeat (go_quiet (first | (go_at_call 32; refine Calls.quiet_of ((annuityref19_money.calls x1 _ _ HM.out).mono (fun e w' ⟨h1, h2⟩ => ⟨h1, h2.out⟩))) | (go_at_call 35; refine Calls.quiet_of ((annuityref04_Good.calls x3 _ _ HD.out).mono (fun e w' ⟨h1, h2⟩ => ⟨h1, h2.out⟩)))); try go_wp2_with (first | (go_at_call 35; refine (annuityref04_Good.calls x3 _ _ HD.out).mono ?_; rintro e w' ⟨rfl, ⟨nd, rfl⟩⟩)))
          go_ret
          exact ⟨by first | rfl | (simp; done), (by repeat (first | (with_reducible first | exact HB.out | apply below_alloc | apply pw_below_drewN | apply below_drew1 | exact HB.out) | exact HB.out))⟩
        have HD : Aside0 (annuityref04_Good.f x3 = some true) := ⟨by rw [rday_is]; congr 1; exact decide_eq_true (by omega)⟩
        have hok : rgAt l0 j = true := by rw [HX.out]; exact decide_eq_true (by unfold rgOk; omega)
        rw [hok, Bool.true_and] at h0
        have HNX := Aside0.mk h0
        clear hok HX h0
        repeat (go_quiet (first | (go_at_call 32; refine Calls.quiet_of ((annuityref19_money.calls x1 _ _ HM.out).mono (fun e w' ⟨h1, h2⟩ => ⟨h1, h2.out⟩))) | (go_at_call 35; refine Calls.quiet_of ((annuityref04_Good.calls x3 _ _ HD.out).mono (fun e w' ⟨h1, h2⟩ => ⟨h1, h2.out⟩)))); try go_wp2_with (first | (go_at_call 35; refine (annuityref04_Good.calls x3 _ _ HD.out).mono ?_; rintro e w' ⟨rfl, ⟨nd, rfl⟩⟩)))
        go_roundg (n - (j + 1))
        case measure => omega
        case rel => exact ⟨j + 1, by first | rfl | go_num, by omega, Nat.le_refl _, ⟨by rw [show n - (j + 1) = n - j - 1 by omega]; exact HNX.out⟩, ⟨(by repeat (first | (with_reducible first | exact HB.out | apply below_alloc | apply pw_below_drewN | apply below_drew1 | exact HB.out) | exact HB.out))⟩⟩
      have dg : (x2 == 0) = false := beq_eq_false_iff_ne.mpr cg
      have dg2 : decide (0 < x2) = true := decide_eq_true (by omega)
      have HD := HM
      by_cases ci : x3 = -1
      case neg =>
        have di : (x3 != -1) = true := bne_iff_ne.mpr ci
        have hbad : rgAt l0 j = false := by rw [HX.out]; exact decide_eq_false (fun h => by unfold rgOk at h; omega)
        rw [hbad, Bool.false_and] at h0
        subst h0
        clear hbad HX
        repeat (go_quiet (first | (go_at_call 32; refine Calls.quiet_of ((annuityref19_money.calls x1 _ _ HM.out).mono (fun e w' ⟨h1, h2⟩ => ⟨h1, h2.out⟩))) | (go_at_call 35; refine Calls.quiet_of ((annuityref04_Good.calls x3 _ _ HD.out).mono (fun e w' ⟨h1, h2⟩ => ⟨h1, h2.out⟩)))); try go_wp2_with (first | (go_at_call 35; refine (annuityref04_Good.calls x3 _ _ HD.out).mono ?_; rintro e w' ⟨rfl, ⟨nd, rfl⟩⟩)))
        go_ret
        exact ⟨by first | rfl | (simp; done), (by repeat (first | (with_reducible first | exact HB.out | apply below_alloc | apply pw_below_drewN | apply below_drew1 | exact HB.out) | exact HB.out))⟩
      have di : (x3 != -1) = false := bne_eq_false_iff_eq.mpr ci
      have hok : rgAt l0 j = true := by rw [HX.out]; exact decide_eq_true (by unfold rgOk; omega)
      rw [hok, Bool.true_and] at h0
      have HNX := Aside0.mk h0
      clear hok HX h0
      repeat (go_quiet (first | (go_at_call 32; refine Calls.quiet_of ((annuityref19_money.calls x1 _ _ HM.out).mono (fun e w' ⟨h1, h2⟩ => ⟨h1, h2.out⟩))) | (go_at_call 35; refine Calls.quiet_of ((annuityref04_Good.calls x3 _ _ HD.out).mono (fun e w' ⟨h1, h2⟩ => ⟨h1, h2.out⟩)))); try go_wp2_with (first | (go_at_call 35; refine (annuityref04_Good.calls x3 _ _ HD.out).mono ?_; rintro e w' ⟨rfl, ⟨nd, rfl⟩⟩)))
      go_roundg (n - (j + 1))
      case measure => omega
      case rel => exact ⟨j + 1, by first | rfl | go_num, by omega, Nat.le_refl _, ⟨by rw [show n - (j + 1) = n - j - 1 by omega]; exact HNX.out⟩, ⟨(by repeat (first | (with_reducible first | exact HB.out | apply below_alloc | apply pw_below_drewN | apply below_drew1 | exact HB.out) | exact HB.out))⟩⟩
end Go.Proofs.Ytibjbgfphhmogaa.P
